import Derived.Test.YtdgddpnjkinciaaGreatDoorSet1
import Derived.Test.YtdgddpnjkinciaaGreatDoorIdx
set_option linter.all false
set_option maxRecDepth 100000
set_option maxHeartbeats 16000000
namespace Go.Proofs.YtdgddpnjkinciaaGreatDoor
section
open Go.RowKit
theorem rvalidV_c (s:ByteArray) (b:Bool) (w:World) (hs:s.size≤4611686018427387904) (h:vldB s=b) :
  Calls Tryz.prog 89 #[.string s] w fun e w'=>e=.returned (.bool b)∧w=w':=by rw[←h];exact rvalid_c s w hs
theorem rofK_c (k:Nat) (z:Int) (w:World) (hz:z=(k:Int)) (h:k<256^8):Calls Tryz.prog 28 #[.int .u64 z] w fun e w'=>e=.returned (.string (E k))∧Bw w w':=by rw[hz];exact rof_c k w h
theorem szM {n:Nat} (h:n<256^128):(E n).size≤1000000:=by have:=sz n h;omega
theorem rform_c (p q:Nat) (w:World) (hp:p<256^128) (hq:q<256^128) :
  Calls Tryz.prog 187 #[.agg #[.string (E p),.string (E q)]] w fun e w'=>e=.returned (.bool true)∧Bw w w':=by
 have HP:=Kh hp;have HQ:=Kh hq;clear hp hq;go_enter Tryz.func187,Tryz.ntmps187
 go_wp2_with fail
 refine (rvalidE_c p _ HP.out).mono ?_;rintro e w' ⟨rfl,rfl⟩;go_wp2_with fail
 refine (rvalidE_c q _ HQ.out).mono ?_;rintro e w' ⟨rfl,rfl⟩;go_wp2;go_ret
 exact⟨rfl,b1 _ _⟩
theorem mod1 {p:Nat} (h:2≤p):1%p=1:=Nat.mod_eq_of_lt h
theorem rghas_c (p q x:Nat) (w:World) (hp:p<256^8) (hh:2≤p) (hq:q<256^128) (h0:0<q) (hx:x<256^128) :
  Calls Tryz.prog 144 #[.agg #[.string (E p),.string (E q)],.string (E x)] w fun e w'=>e=.returned (.bool (hasB p q x))∧Bw w w':=by
 have HP:=Kh (lt128 hp);have hj:=Kh (Nl hp (Nat.pow_le_pow_right (show 0<256 by decide) (show 8≤64 by decide)));have HQ:=Kh hq;have HX:=Kh hx;have hz:=nzE h0;have hB:=Blk.new w #[Value.string (E p),Value.string (E q)] 24;have hl:=Kh (szM hx);have hm:=Kh (szM (lt128 hp));by_cases hx0:x=0
 ·have HR:Hid (hasB p q x=false):=by rw[hx0];exact hasB_zero p q
  have hn:=zE hx0;clear hp hq h0 hx hx0 hh;obtain⟨hb,hd,he,hf⟩:=hB.x2;go_enter Tryz.func144,Tryz.ntmps144
  go_wp2_with fail
  refine (rform_c p q _ HP.out HQ.out).mono ?_;rintro e w1 ⟨rfl,hg⟩;clear hb hd he hf;replace hB:=hB.after hg;obtain⟨hb,hd,he,hf⟩:=hB.x2;go_wp2_with fail
  refine (rvalidE_c x _ HX.out).mono ?_;rintro e w' ⟨rfl,rfl⟩;go_wp2;go_ret
  exact⟨rb HR.out.symm,bt (b1 _ _) hg⟩
 ·have hn:=nzE (Nat.pos_of_ne_zero hx0);rcases Nat.lt_or_ge x p with hlt | hk
  ·have HR:=Kh (hasB_q h0 (Nat.pos_of_ne_zero hx0) hlt);have ho:Hid (0<p):=by unfold Hid;omega
   have hc:=cmp_neg x p hlt;have HD:Hid (((E (x^q%p)).toList==[1])=decide (x^q%p=1%p)):=by rw[Hid,mod1 hh];exact E1L _
   clear hp hq h0 hx hx0 hlt hh;obtain⟨hb,hd,he,hf⟩:=hB.x2;go_enter Tryz.func144,Tryz.ntmps144
   go_wp2_with fail
   refine (rform_c p q _ HP.out HQ.out).mono ?_;rintro e w1 ⟨rfl,hg⟩;clear hb hd he hf;replace hB:=hB.after hg;obtain⟨hb,hd,he,hf⟩:=hB.x2;go_wp2_with fail
   refine (rvalidE_c x _ HX.out).mono ?_;rintro e w' ⟨rfl,rfl⟩;go_wp2_with fail
   refine (rorder_c x p _ hl.out hm.out).mono ?_;rintro e w2 ⟨rfl,hi⟩;clear hb hd he hf;replace hB:=hB.after hi;obtain⟨hb,hd,he,hf⟩:=hB.x2;go_wp2_with fail
   refine (rexp3_c x q p _ HX.out HQ.out hj.out ho.out).mono ?_;rintro e w3 ⟨rfl,hr⟩;go_wp2;go_ret
   exact⟨rb (by rw[HR.out];exact HD.out),bt (bt (bt (b1 _ _) hg) hi) hr⟩
  ·have HR:=Kh (hasB_big (q:=q) hk);have hc:=cmp_nneg x p hk;clear hp hq h0 hx hx0 hk hh;obtain⟨hb,hd,he,hf⟩:=hB.x2;go_enter Tryz.func144,Tryz.ntmps144
   go_wp2_with fail
   refine (rform_c p q _ HP.out HQ.out).mono ?_;rintro e w1 ⟨rfl,hg⟩;clear hb hd he hf;replace hB:=hB.after hg;obtain⟨hb,hd,he,hf⟩:=hB.x2;go_wp2_with fail
   refine (rvalidE_c x _ HX.out).mono ?_;rintro e w' ⟨rfl,rfl⟩;go_wp2_with fail
   refine (rorder_c x p _ hl.out hm.out).mono ?_;rintro e w2 ⟨rfl,hi⟩;go_wp2;go_ret
   exact⟨rb HR.out.symm,bt (bt (b1 _ _) hg) hi⟩
theorem rhas_c (p q x:Nat) (w:World) (hp:p<256^8) (hq:q<256^128) (hg:grpE p q=0) (hx:x<256^128) :
  Calls Tryz.prog 105 #[.agg #[.string (E p),.string (E q)],.string (E x)] w fun e w'=>e=.returned (.bool (hasB p q x))∧Bw w w':=by
 have hl:=Kh hp;have HP:=Kh (lt128 hp);have HX:=Kh hx;have hm:=Kh (grp_gt hg);have hj:=Kh (szM hx);have hk:=Kh (szM (lt128 hp));rcases Nat.eq_zero_or_pos q with rfl | h0
 ·have hz:=zE (n:=0) rfl;have hB:=Blk.new w #[Value.string (E p),Value.string (E 0)] 24;by_cases hx0:x=0
  ·have HR:Hid (hasB p 0 x=false):=by rw[hx0];exact hasB_zero p 0
   have hn:=zE hx0;clear hp hx hg hq hx0;go_enter Tryz.func105,Tryz.ntmps105
   go_wp2;go_ret
   exact⟨rb HR.out.symm,b1 _ _⟩
  ·have hn:=nzE (Nat.pos_of_ne_zero hx0);rcases Nat.lt_or_ge x p with hlt | hi
   ·have HR:=Kh (hasB_0 (Nat.pos_of_ne_zero hx0) hlt);have hc:=cmp_neg x p hlt;have HD:=Kh (E1L (Nat.gcd x p));clear hp hx hg hq hx0 hlt;obtain⟨hb,hd,he,hf⟩:=hB.x2;go_enter Tryz.func105,Tryz.ntmps105
    go_wp2_with fail
    refine (rorder_c x p _ hj.out hk.out).mono ?_;rintro e w1 ⟨rfl,hh⟩;clear hb hd he hf;replace hB:=hB.after hh;obtain⟨hb,hd,he,hf⟩:=hB.x2;go_wp2_with fail
    refine (rcommon_c x p _ HX.out HP.out).mono ?_;rintro e w2 ⟨rfl,ho⟩;go_wp2;go_ret
    exact⟨rb (by rw[HR.out];exact HD.out),bt (bt (b1 _ _) hh) ho⟩
   ·have HR:=Kh (hasB_big (q:=0) hi);have hc:=cmp_nneg x p hi;clear hp hx hg hq hx0 hi;obtain⟨hb,hd,he,hf⟩:=hB.x2;go_enter Tryz.func105,Tryz.ntmps105
    go_wp2_with fail
    refine (rorder_c x p _ hj.out hk.out).mono ?_;rintro e w1 ⟨rfl,hh⟩;go_wp2;go_ret
    exact⟨rb HR.out.symm,bt (b1 _ _) hh⟩
 ·have hz:=nzE h0;have HQ:=Kh hq;have H0:=Kh h0;clear hp hx hg hq h0;go_enter Tryz.func105,Tryz.ntmps105
  go_wp2_with fail
  refine (rghas_c p q x _ hl.out hm.out HQ.out H0.out HX.out).mono ?_;rintro e w1 ⟨rfl,hh⟩;go_wp2;go_ret
  exact⟨rfl,bt (b1 _ _) hh⟩
theorem lastb (p:Nat) (h:0<p):((E p)[(E p).size-1]'(by have:=(E_size_pos p).2 h;omega)).toNat=p%256:=by
 have hs:=(E_size_pos p).2 h;rw[dgt_at (E p) 0 ((E p).size-1) hs (by omega),dgt_E,Nat.pow_zero,Nat.div_one]
theorem rorder8_c (p:Nat) (w:World) (h1:(E p).size≤1000000) :
  Calls Tryz.prog 112 #[.string (E p),.string { data:=#[8] }] w fun e w'=>e=.returned (.int .i64 (cmpN p 8))∧Bw w w':=
 rorder_c p 8 w h1 (by decide)
theorem rminus1_c (p:Nat) (w:World) (h1:(E p).size≤1000000) (h:1≤p) :
  Calls Tryz.prog 143 #[.string (E p),.string { data:=#[1] }] w fun e w'=>e=.returned (.string (E (p-1)))∧Bw w w':=
 rminus_c p 1 w h1 h
theorem rpcheck_0 (p:Nat) (w:World) (hp:p<256^8) :
  Calls Tryz.prog 103 #[.agg #[.string (E p),.string (E 0)]] w fun e w'=>e=.returned (.int .i64 (grpE p 0))∧Bw w w':=by
 have HP:=Kh (lt128 hp);have hk:Hid ((0:Nat)<256^128):=by unfold Hid;decide
 have hn:=Kh (szM (lt128 hp));have hz:=zE (n:=0) rfl;have hB:=Blk.new w #[Value.string (E p),Value.string (E 0)] 24;have HG:Hid (grpE p 0=if p%2=1∧8<p then 0 else 13):=rfl;by_cases hf:p=0
 ·have he:Hid (grpE p 0=13):=by rw[Hid,HG.out,if_neg (by omega)]
  have ho:=zE hf;clear hp hf HG;go_enter Tryz.func103,Tryz.ntmps103
  go_wp2_with fail
  refine (rvalidE_c p _ HP.out).mono ?_;rintro e w' ⟨rfl,rfl⟩;go_wp2_with fail
  refine (rvalidE_c 0 _ hk.out).mono ?_;rintro e w' ⟨rfl,rfl⟩;go_wp2;go_ret
  exact⟨ri (by rw[he.out];rfl),b1 _ _⟩
 ·have ho:=nzE (Nat.pos_of_ne_zero hf);have hr:=(E_size_pos p).2 (Nat.pos_of_ne_zero hf);have hq:=sz p HP.out;have hl:=lastb p (Nat.pos_of_ne_zero hf);have hu:(1:Int)≤((E p).size:Int):=by omega
  have hb:(((E p)[(E p).size-1]'(by omega)).toNat:Int)%2=((p%2:Nat):Int):=by rw[hl];omega
  by_cases hd:p%2=1
  ·have ht:((((E p)[(E p).size-1]'(by omega)).toNat:Int)%2==0)=false:=by rw[hb,hd];rfl
   by_cases h8:8<p
   ·have he:Hid (grpE p 0=0):=by rw[Hid,HG.out,if_pos ⟨hd,h8⟩]
    have hc:=cmp_pos p 8 h8;clear hp hb hl h8 HG hd;obtain⟨hg,hh,hi,hj⟩:=hB.x2;go_enter Tryz.func103,Tryz.ntmps103
    go_wp2_with fail
    refine (rvalidE_c p _ HP.out).mono ?_;rintro e w' ⟨rfl,rfl⟩;go_wp2_with fail
    refine (rvalidE_c 0 _ hk.out).mono ?_;rintro e w' ⟨rfl,rfl⟩;go_wp2_with fail
    refine (rorder8_c p _ hn.out).mono ?_;rintro e w1 ⟨rfl,hm⟩;go_wp2;go_ret
    exact⟨ri (by rw[he.out];rfl),bt (b1 _ _) hm⟩
   ·have he:Hid (grpE p 0=13):=by rw[Hid,HG.out,if_neg (by omega)]
    have hc:=cmp_npos p 8 (by omega);clear hp hb hl h8 HG hd;obtain⟨hg,hh,hi,hj⟩:=hB.x2;go_enter Tryz.func103,Tryz.ntmps103
    go_wp2_with fail
    refine (rvalidE_c p _ HP.out).mono ?_;rintro e w' ⟨rfl,rfl⟩;go_wp2_with fail
    refine (rvalidE_c 0 _ hk.out).mono ?_;rintro e w' ⟨rfl,rfl⟩;go_wp2_with fail
    refine (rorder8_c p _ hn.out).mono ?_;rintro e w1 ⟨rfl,hm⟩;go_wp2;go_ret
    exact⟨ri (by rw[he.out];rfl),bt (b1 _ _) hm⟩
  ·have ht:((((E p)[(E p).size-1]'(by omega)).toNat:Int)%2==0)=true:=by rw[hb,show p%2=0 by omega];rfl
   have he:Hid (grpE p 0=13):=by rw[Hid,HG.out,if_neg (by omega)]
   clear hp hb hl HG hd;obtain⟨hg,hh,hi,hj⟩:=hB.x2;go_enter Tryz.func103,Tryz.ntmps103
   go_wp2_with fail
   refine (rvalidE_c p _ HP.out).mono ?_;rintro e w' ⟨rfl,rfl⟩;go_wp2_with fail
   refine (rvalidE_c 0 _ hk.out).mono ?_;rintro e w' ⟨rfl,rfl⟩;go_wp2;go_ret
   exact⟨ri (by rw[he.out];rfl),b1 _ _⟩
theorem E1n {n:Nat} (h:n≠1):((E n).toList==[1])=false:=by rw[E1L];exact decide_eq_false h
theorem E1y {n:Nat} (h:n=1):((E n).toList==[1])=true:=by rw[E1L];exact Dt h
theorem rpcheck_q (p q:Nat) (w:World) (hp:p<256^8) (hq:q<256^128) (h0:0<q) :
  Calls Tryz.prog 103 #[.agg #[.string (E p),.string (E q)]] w fun e w'=>e=.returned (.int .i64 (grpE p q))∧Bw w w':=by
 have HP:=Kh (lt128 hp);have HQ:=Kh hq;have H0:=Kh h0;have hz:=nzE h0;have hm:=Kh (szM (lt128 hp));have hB:=Blk.new w #[Value.string (E p),Value.string (E q)] 24;have HG:=Kh (grpE_q (p:=p) h0);by_cases hg:p=0
 ·have hf:Hid (grpE p q=13):=by rw[Hid,HG.out,if_neg (by omega)]
  have e1:=zE hg;clear hp hq h0 HG hg;obtain⟨hb,hc,hd,he⟩:=hB.x2;go_enter Tryz.func103,Tryz.ntmps103
  go_wp2_with fail
  refine (rvalidE_c p _ HP.out).mono ?_;rintro e w' ⟨rfl,rfl⟩;go_wp2_with fail
  refine (rvalidE_c q _ HQ.out).mono ?_;rintro e w' ⟨rfl,rfl⟩;go_wp2;go_ret
  exact⟨ri (by rw[hf.out];rfl),b1 _ _⟩
 ·have e1:=nzE (Nat.pos_of_ne_zero hg);by_cases hh:p=1
  ·have hf:Hid (grpE p q=13):=by rw[Hid,HG.out,if_neg (by omega)]
   have e2:=E1y hh;clear hp hq h0 HG hg hh;obtain⟨hb,hc,hd,he⟩:=hB.x2;go_enter Tryz.func103,Tryz.ntmps103
   go_wp2_with fail
   refine (rvalidE_c p _ HP.out).mono ?_;rintro e w' ⟨rfl,rfl⟩;go_wp2_with fail
   refine (rvalidE_c q _ HQ.out).mono ?_;rintro e w' ⟨rfl,rfl⟩;go_wp2;go_ret
   exact⟨ri (by rw[hf.out];rfl),b1 _ _⟩
  ·have e2:=E1n hh;by_cases hi:q=1
   ·have hf:Hid (grpE p q=13):=by rw[Hid,HG.out,if_neg (by omega)]
    have e3:=E1y hi;clear hp hq h0 HG hg hh hi;obtain⟨hb,hc,hd,he⟩:=hB.x2;go_enter Tryz.func103,Tryz.ntmps103
    go_wp2_with fail
    refine (rvalidE_c p _ HP.out).mono ?_;rintro e w' ⟨rfl,rfl⟩;go_wp2_with fail
    refine (rvalidE_c q _ HQ.out).mono ?_;rintro e w' ⟨rfl,rfl⟩;go_wp2;go_ret
    exact⟨ri (by rw[hf.out];rfl),b1 _ _⟩
   ·have e3:=E1n hi;have hn:Hid (1≤p):=by unfold Hid;omega
    have ho:Hid ((E (p-1)).size≤1000):=sz1000 (by have:=HP.out;omega);have ht:Hid ((E q).size≤1000):=sz1000 hq;by_cases hr:(p-1)%q=0
    ·have hf:Hid (grpE p q=0):=by rw[Hid,HG.out,if_pos (by omega)]
     have hu:=zE hr;clear hp hq h0 HG hg hh hi hr;have hk:=hB.gcell 0;have hl:=hB.gcell 1;obtain⟨hb,hc,hd,he⟩:=hB.x2;go_enter Tryz.func103,Tryz.ntmps103
     go_wp2_with fail
     refine (rvalidE_c p _ HP.out).mono ?_;rintro e w' ⟨rfl,rfl⟩;go_wp2_with fail
     refine (rvalidE_c q _ HQ.out).mono ?_;rintro e w' ⟨rfl,rfl⟩;go_wp2_with fail
     clear hb hc hd he;go_wp2_with fail
     refine wp_region_gw (by kernel_rfl) (by kernel_rfl) ?_;repeat (go_big_quiet_step (first | (go_at_call 143;exact gw_of (rminus1_c p _ hm.out hn.out)) | (go_at_call 142;exact gw_of (rover_c (p-1) q _ H0.out ho.out ht.out))))
     refine wpQuiet_nil ?_;rintro w1 ⟨xw1,rfl⟩;have hj:=gw_below xw1;generalize gw xw1=w1 at hj;go_wp2;go_ret
     exact⟨ri (by rw[hf.out];rfl),bt (b1 _ _) hj⟩
    ·have hf:Hid (grpE p q=13):=by rw[Hid,HG.out,if_neg (by omega)]
     have hu:=nzE (Nat.pos_of_ne_zero hr);clear hp hq h0 HG hg hh hi hr;have hk:=hB.gcell 0;have hl:=hB.gcell 1;obtain⟨hb,hc,hd,he⟩:=hB.x2;go_enter Tryz.func103,Tryz.ntmps103
     go_wp2_with fail
     refine (rvalidE_c p _ HP.out).mono ?_;rintro e w' ⟨rfl,rfl⟩;go_wp2_with fail
     refine (rvalidE_c q _ HQ.out).mono ?_;rintro e w' ⟨rfl,rfl⟩;go_wp2_with fail
     clear hb hc hd he;go_wp2_with fail
     refine wp_region_gw (by kernel_rfl) (by kernel_rfl) ?_;repeat (go_big_quiet_step (first | (go_at_call 143;exact gw_of (rminus1_c p _ hm.out hn.out)) | (go_at_call 142;exact gw_of (rover_c (p-1) q _ H0.out ho.out ht.out))))
     refine wpQuiet_nil ?_;rintro w1 ⟨xw1,rfl⟩;have hj:=gw_below xw1;generalize gw xw1=w1 at hj;go_wp2;go_ret
     exact⟨ri (by rw[hf.out];rfl),bt (b1 _ _) hj⟩
theorem rpcheckV_c (p q k:Nat) (w:World) (hp:p<256^8) (hq:q<256^128) (hg:grpE p q=k) :
  Calls Tryz.prog 103 #[.agg #[.string (E p),.string (E q)]] w fun e w'=>e=.returned (.int .i64 k)∧Bw w w':=by
 rw[←hg];rcases Nat.eq_zero_or_pos q with rfl | h0
 ·exact rpcheck_0 p w hp
 ·exact rpcheck_q p q w hp hq h0
theorem rhasV_c (p q x:Nat) (b:Bool) (w:World) (hp:p<256^8) (hq:q<256^128) (hg:grpE p q=0) (hx:x<256^128) (h:hasB p q x=b) :
  Calls Tryz.prog 105 #[.agg #[.string (E p),.string (E q)],.string (E x)] w fun e w'=>e=.returned (.bool b)∧Bw w w':=by
 rw[←h];exact rhas_c p q x w hp hq hg hx
theorem rHasV_c (p q x:Nat) (b:Bool) (w:World) (hp:p<256^8) (hq:q<256^128) (hg:grpE p q=0) (hx:x<256^128) (hb:hasB p q x=b) :
  Calls Tryz.prog 104 #[.agg #[.string (E p),.string (E q)],.string (E x)] w fun e w'=>e=.returned (.bool b)∧Bw w w':=by
 have HX:=Kh hx;have HC:=Kh (fun w=>rpcheckV_c p q 0 w hp hq hg);have HH:=Kh (fun w=>rhasV_c p q x b w hp hq hg hx hb);have hB:=Blk.new w #[Value.string (E p),Value.string (E q)] 24;clear hp hx hg hq hb;obtain⟨hc,hd,he,hf⟩:=hB.x2;go_enter Tryz.func104,Tryz.ntmps104
 go_wp2_with fail
 refine (HC.out _).mono ?_;rintro e w1 ⟨rfl,hh⟩;clear hc hd he hf;replace hB:=hB.after hh;obtain⟨hc,hd,he,hf⟩:=hB.x2;go_wp2_with fail
 refine (rvalidE_c x _ HX.out).mono ?_;rintro e w' ⟨rfl,rfl⟩;go_wp2_with fail
 refine (HH.out _).mono ?_;rintro e w2 ⟨rfl,hi⟩;go_wp2;go_ret
 exact⟨rfl,bt (bt (b1 _ _) hh) hi⟩
theorem rraw_c (p q x:Nat) (z:Int) (w:World) (hp:p<256^8) (hg:grpE p q=0) (hx:hasB p q x=true) (hz:z.natAbs<256^128) :
  Calls Tryz.prog 107 #[.agg #[.string (E p),.string (E q)],.string (E x),.agg #[.bool (sg (z)),.string (E (z).natAbs)]] w fun e w'=>e=.returned (.string (E (powI x z p)))∧Bw w w':=by
 have hb:=grp_gt hg;have hc:=Kh (fun w=>rpow3_c x z p w (lt128 (Nat.lt_trans (has_lt hx) hp)) hz (Nl hp (Nat.pow_le_pow_right (show 0<256 by decide) (show 8≤32 by decide))) (by omega) (fun _=>has_coprime hb hx));clear hp hg hx hz hb;go_enter Tryz.func107,Tryz.ntmps107
 go_wp2_with fail
 refine (hc.out _).mono ?_;rintro e w1 ⟨rfl,hd⟩;go_wp2;go_ret
 exact⟨rfl,bt (b2 _ _ _) hd⟩
end
section
open Go.RowKit
theorem eqF {a b:Nat} (h:a≠b):((E a).toList != (E b).toList)=true:=by rw[bne,neE h];rfl
theorem eqT {a b:Nat} (h:a=b):((E a).toList != (E b).toList)=false:=by rw[bne,eqE h];rfl
theorem vz_pos {n:Nat} (h:0<n):vz n=false:=by simp[vz];omega
theorem grpE_13 {p q:Nat} (h:grpE p q≠0):grpE p q=13:=by
 unfold grpE at *;split
 ·split
  ·rename_i h1 h2;rw[if_pos h1,if_pos h2]at h;exact absurd rfl h
  ·rfl
 ·split
  ·rename_i h1 h2;rw[if_neg h1,if_pos h2]at h;exact absurd rfl h
  ·rfl
theorem siz1_c (g:Int) (t:ByteArray) (ao:Option Addr) (n c:Nat) (w:World) (hn:n≤64) :
  Calls Tryz.prog 153 #[.agg #[.int .i64 g,.string t,.slice ao n c]] w fun e w'=>e=.returned (.bool false)∧Bw w w':=by
 have h:decide ((64:Int)<(n:Int))=false:=decide_eq_false (by omega);go_enter Tryz.func153,Tryz.ntmps153
 go_wp2;go_ret
 exact⟨rfl,b1 _ _⟩
theorem elt1_c (p q bg x:Nat) (v:Int) (s:Bool) (a:ByteArray) (w:World) (hp:p<256^8) (hq:q<256^128) (hg:grpE p q=0) (hx:x<256^128) (hB:Blk w bg 24 [.string (E p),.string (E q)]) :
  Calls Tryz.prog 155 #[.agg #[.string (E x),.int .i64 v,.bool s,.string a],.pointer (some ⟨bg,0,none⟩)] w fun e w'=>e=.returned (.bool (!hasB p q x))∧Bw w w':=by
 have HC:=Kh (fun w=>pHas_c p q x w hp hq hg hx);have hh:=hB.lt;clear hp hq hg hx;obtain⟨hb,hc,hd,he⟩:=hB.x2;go_enter Tryz.func155,Tryz.ntmps155
 go_wp2_with fail
 refine (HC.out _).mono ?_;rintro e w1 ⟨rfl,hf⟩;go_wp2;go_ret
 exact⟨rfl,bt (b1 _ _) hf⟩
theorem knv1_c (x:Nat) (w:World):Calls Tryz.prog 157 #[.agg #[.string (E x)]] w fun e w'=>e=.returned (.bool (vz x))∧Bw w w':=by
 rcases Nat.eq_zero_or_pos x with rfl | h0
 ·have hz:=zE (n:=0) rfl;go_enter Tryz.func157,Tryz.ntmps157
  go_wp2;go_ret
  exact⟨rfl,b1 _ _⟩
 ·have hz:=nzE h0;rw[vz_pos h0];clear h0;go_enter Tryz.func157,Tryz.ntmps157
  go_wp2;go_ret
  exact⟨rfl,b1 _ _⟩
theorem kng1_c (m x n bn:Nat) (w:World) (hB:Blk w bn 22 [.string (E n)]):Calls Tryz.prog 159 #[.agg #[.string (E m),.string (E x)],.pointer (some ⟨bn,0,none⟩)] w fun e w'=>e=.returned (.bool (gq n (m,x)))∧Bw w w':=by
 have hd:=hB.lt;have hr:gq n (m,x)=(x != 0&&x != n):=rfl;rcases Nat.eq_zero_or_pos x with rfl | h0
 ·have hz:=zE (n:=0) rfl;rw[hr];clear hr;obtain⟨hb,hc⟩:=hB.x1;go_enter Tryz.func159,Tryz.ntmps159
  go_wp2;go_ret
  exact⟨rfl,b1 _ _⟩
 ·have hz:=nzE h0;by_cases h:x=n
  ·have h1:=eqT h;have h2:=eqE h;rw[hr,show (x != 0&&x != n)=false by rw[h];simp];clear hr h0 h;obtain⟨hb,hc⟩:=hB.x1;go_enter Tryz.func159,Tryz.ntmps159
   go_wp2;go_ret
   exact⟨rfl,b1 _ _⟩
  ·have h1:=eqF h;have h2:=neE h;rw[hr,show (x != 0&&x != n)=true by simp[h];omega];clear hr h0 h;obtain⟨hb,hc⟩:=hB.x1;go_enter Tryz.func159,Tryz.ntmps159
   go_wp2;go_ret
   exact⟨rfl,b1 _ _⟩
theorem knt1_c (N:NSta) (k bs n c:Nat) (ao:Option Addr) (v1 v3:Value) (b:ByteArray) (s:Bool) (a:ByteArray) (w:World) (hn:n=N.vars.length) (hh:n≤12) (hk:k<N.vars.length) (hS:NAt w v1 (.slice ao n c) v3 N) (hB:Blk w bs 43 [v1,.slice ao n c,v3]) :
  Calls Tryz.prog 160 #[.agg #[.string b,.int .i64 (k:Int),.bool s,.string a],.pointer (some ⟨bs,0,none⟩)] w fun e w'=>e=.returned (.bool (vz (N.vars[k]'hk)))∧Bw w w':=by
 have hi:=hB.lt;have hj:k<n:=by omega
 have hl:(0:Int)≤(k:Int):=by omega
 have hm:(k:Int)<(n:Int):=by omega
 obtain⟨b1',o,rfl,ho,x1⟩:=hS.vat hk;generalize (N.vars[k]'hk)=x at x1;clear hn hk hS;rcases Nat.eq_zero_or_pos x with rfl | h0
 ·have hz:=zE (n:=0) rfl;obtain⟨hb,hc,hd,he,hf,hg⟩:=hB.x3;go_enter Tryz.func160,Tryz.ntmps160
  go_wp2;go_ret
  exact⟨rfl,b1 _ _⟩
 ·have hz:=nzE h0;rw[vz_pos h0];clear h0;obtain⟨hb,hc,hd,he,hf,hg⟩:=hB.x3;go_enter Tryz.func160,Tryz.ntmps160
  go_wp2;go_ret
  exact⟨rfl,b1 _ _⟩
def og (g:Nat × Nat):Bool:=vz g.2
theorem ord_hit (N:NSta) (k:Nat) (h:k<N.grps.length) (ha:(N.grps.take k).all og=true) (h0:N.grps[k].2≠0):N.ord=N.grps[k].2:=by
 have e:N.grps=N.grps.take k++N.grps[k] :: N.grps.drop (k+1):=by
  rw[List.getElem_cons_drop,List.take_append_drop]
 have hf:((N.grps.take k).map (·.2)).find? (· != 0)=none:=by
  rw[List.find?_eq_none];intro x hx;obtain⟨g,hg,rfl⟩:=List.mem_map.1 hx;have:=List.all_eq_true.1 ha g hg;simpa [og,vz] using this
 unfold NSta.ord
 have h1:N.grps.map (·.2)=(N.grps.take k).map (·.2)++N.grps[k].2 :: (N.grps.drop (k+1)).map (·.2):=by
  conv=>lhs;rw[e]
  rw[List.map_append,List.map_cons]
 rw[h1,List.find?_append,hf,List.find?_cons_of_pos (by simpa using h0)];rfl
theorem ord_none (N:NSta) (ha:N.grps.all og=true):N.ord=0:=by
 unfold NSta.ord
 have hf:(N.grps.map (·.2)).find? (· != 0)=none:=by
  rw[List.find?_eq_none];intro x hx;obtain⟨g,hg,rfl⟩:=List.mem_map.1 hx;have:=List.all_eq_true.1 ha g hg;simpa [og,vz] using this
 rw[hf];rfl
theorem order_c (N:NSta) (v1 v2 v3:Value) (w:World) (hm:NOk N) (hS:NAt w v1 v2 v3 N) :
  Calls Tryz.prog 124 #[.agg #[v1,v2,v3]] w fun e w'=>e=.returned (.string (E N.ord))∧Bw w w':=by
 obtain⟨a1,c1,a2,c2,a3,c3,rfl,rfl,rfl⟩:=hS.forms;obtain⟨n1,hj⟩:∃n,n=N.grps.length:=⟨_,rfl⟩;obtain⟨n2,hl⟩:∃n,n=N.vars.length:=⟨_,rfl⟩;obtain⟨n3,hn⟩:∃n,n=N.eqs.length:=⟨_,rfl⟩;have hv:=Kh hj;have hx:=Kh hl;have hy:=Kh hn;have l1:n1≤10:=by rw[hj];exact hm.ng
 have l2:n2≤12:=by rw[hl];exact hm.nv
 have l3:n3≤12:=by rw[hn];exact hm.ne
 have HM:=Kh hm;rw[←hj,←hl,←hn]at hS ⊢;clear hm hj hl hn;obtain⟨hP,hi⟩:=blk1 w #[.slice a1 n1 c1,.slice a2 n2 c2,.slice a3 n3 c3] 43;replace hS:=hS.after hi;obtain⟨hb,hc,hd,he,hf,hg⟩:=hP.x3;go_enter Tryz.func124,Tryz.ntmps124
 go_wp2;clear hb hc hd he hf hg;generalize w.alloc (.cells #[.slice a1 n1 c1,.slice a2 n2 c2,.slice a3 n3 c3] 43)=w1 at hP hi hS;replace hP:Blk w1 w.heap.size 43 [.slice a1 n1 c1,.slice a2 n2 c2,.slice a3 n3 c3]:=hP;go_loopw [8] (fun i wr=>∃k:Nat,k≤n1∧i=.int .i64 k∧Hid ((N.grps.take k).all og=true)∧Bw w1 wr) (fun i _=>n1-(intOf i).toNat)
 case atStart=>exact⟨0,by omega,rfl,rfl,Br⟩
 case round =>
  obtain⟨k,hk,rfl,HA,ho⟩:=hrel;obtain⟨wp,hw⟩:∃wp,wp=wr:=⟨_,rfl⟩;subst hw;replace hS:=hS.after ho;replace hP:=hP.after ho;replace hi:=bt hi ho;by_cases hlt:k<n1
  ·have hh:k<N.grps.length:=by rw[←hv.out];exact hlt
   have HT:=Kh (all_take og N.grps k hh);have HO:=Kh (ord_hit N k hh HA.out);have hp:Hid (og (N.grps[k]'hh)=vz (N.grps[k]'hh).2):=rfl;obtain⟨b,o,rfl,hA,x1,x2⟩:=hS.gat hh;generalize og (N.grps[k]'hh)=ok at HT hp;generalize (N.grps[k]'hh).1=s1 at x1;generalize (N.grps[k]'hh).2=s2 at x2 HO hp;have hC:(0:Int)≤(k:Int):=by omega
   have hD:(k:Int)<(n1:Int):=by omega
   have hE:=hP.lt;have hB:=Blk.new wp #[.string (E s1),.string (E s2)] 24;rcases Nat.eq_zero_or_pos s2 with rfl | h0
   ·have hz:=zE (n:=0) rfl;have HX:Hid ((N.grps.take (k+1)).all og=true):=by rw[Hid,HT.out,HA.out,hp.out];rfl
    clear HO;obtain⟨hb,hc,hd,he,hf,hg⟩:=hP.x3;obtain⟨hq,hr,ht,hu⟩:=hB.x2;go_wp2;go_roundw
    case rel=>exact⟨k+1,by omega,by go_num,HX,ba ho _⟩
    case measure=>simp[intOf];omega
   ·have hz:=nzE h0;have HF:=Kh (HO.out (by omega));clear HO h0;obtain⟨hb,hc,hd,he,hf,hg⟩:=hP.x3;obtain⟨hq,hr,ht,hu⟩:=hB.x2;go_wp2;go_ret
    exact⟨by rw[HF.out];rfl,ba hi _⟩
  ·have HF:=Kh (ord_none N (all_end og N.grps k (by rw[←hv.out];omega) HA.out));obtain⟨hb,hc,hd,he,hf,hg⟩:=hP.x3;go_wp2;go_ret
   exact⟨by rw[HF.out];rfl,hi⟩
theorem sorder_c (N:NSta) (v1 v2 v3:Value) (w:World) (hm:NOk N) (hS:NAt w v1 v2 v3 N) :
  Calls Tryz.prog 71 #[.agg #[v1,v2,v3]] w fun e w'=>e=.returned (.string (E N.ord))∧Bw w w':=by
 obtain⟨a1,c1,a2,c2,a3,c3,rfl,rfl,rfl⟩:=hS.forms;obtain⟨n1,hj⟩:∃n,n=N.grps.length:=⟨_,rfl⟩;obtain⟨n2,hl⟩:∃n,n=N.vars.length:=⟨_,rfl⟩;obtain⟨n3,hn⟩:∃n,n=N.eqs.length:=⟨_,rfl⟩;have hv:=Kh hj;have hx:=Kh hl;have hy:=Kh hn;have l1:n1≤10:=by rw[hj];exact hm.ng
 have l2:n2≤12:=by rw[hl];exact hm.nv
 have l3:n3≤12:=by rw[hn];exact hm.ne
 have HM:=Kh hm;rw[←hj,←hl,←hn]at hS ⊢;clear hm hj hl hn;obtain⟨hP,hi⟩:=blk1 w #[.slice a1 n1 c1,.slice a2 n2 c2,.slice a3 n3 c3] 43;replace hS:=hS.after hi;obtain⟨hb,hc,hd,he,hf,hg⟩:=hP.x3;go_enter Tryz.func71,Tryz.ntmps71
 go_wp2;clear hb hc hd he hf hg;generalize w.alloc (.cells #[.slice a1 n1 c1,.slice a2 n2 c2,.slice a3 n3 c3] 43)=w1 at hP hi hS;replace hP:Blk w1 w.heap.size 43 [.slice a1 n1 c1,.slice a2 n2 c2,.slice a3 n3 c3]:=hP;go_loopw [8] (fun i wr=>∃k:Nat,k≤n1∧i=.int .i64 k∧Hid ((N.grps.take k).all og=true)∧Bw w1 wr) (fun i _=>n1-(intOf i).toNat)
 case atStart=>exact⟨0,by omega,rfl,rfl,Br⟩
 case round =>
  obtain⟨k,hk,rfl,HA,ho⟩:=hrel;obtain⟨wp,hw⟩:∃wp,wp=wr:=⟨_,rfl⟩;subst hw;replace hS:=hS.after ho;replace hP:=hP.after ho;replace hi:=bt hi ho;by_cases hlt:k<n1
  ·have hh:k<N.grps.length:=by rw[←hv.out];exact hlt
   have HT:=Kh (all_take og N.grps k hh);have HO:=Kh (ord_hit N k hh HA.out);have hp:Hid (og (N.grps[k]'hh)=vz (N.grps[k]'hh).2):=rfl;obtain⟨b,o,rfl,hA,x1,x2⟩:=hS.gat hh;generalize og (N.grps[k]'hh)=ok at HT hp;generalize (N.grps[k]'hh).1=s1 at x1;generalize (N.grps[k]'hh).2=s2 at x2 HO hp;have hC:(0:Int)≤(k:Int):=by omega
   have hD:(k:Int)<(n1:Int):=by omega
   have hE:=hP.lt;have hB:=Blk.new wp #[.string (E s1),.string (E s2)] 24;rcases Nat.eq_zero_or_pos s2 with rfl | h0
   ·have hz:=zE (n:=0) rfl;have HX:Hid ((N.grps.take (k+1)).all og=true):=by rw[Hid,HT.out,HA.out,hp.out];rfl
    clear HO;obtain⟨hb,hc,hd,he,hf,hg⟩:=hP.x3;obtain⟨hq,hr,ht,hu⟩:=hB.x2;go_wp2;go_roundw
    case rel=>exact⟨k+1,by omega,by go_num,HX,ba ho _⟩
    case measure=>simp[intOf];omega
   ·have hz:=nzE h0;have HF:=Kh (HO.out (by omega));clear HO h0;obtain⟨hb,hc,hd,he,hf,hg⟩:=hP.x3;obtain⟨hq,hr,ht,hu⟩:=hB.x2;go_wp2;go_ret
    exact⟨by rw[HF.out];rfl,ba hi _⟩
  ·have HF:=Kh (ord_none N (all_end og N.grps k (by rw[←hv.out];omega) HA.out));obtain⟨hb,hc,hd,he,hf,hg⟩:=hP.x3;go_wp2;go_ret
   exact⟨by rw[HF.out];rfl,hi⟩
theorem rorder15_c (N:NSta) (v1 v2 v3:Value) (w:World) (hm:NOk N) (hS:NAt w v1 v2 v3 N) :
  Calls Tryz.prog 26 #[.agg #[v1,v2,v3]] w fun e w'=>e=.returned (.string (E N.ord))∧Bw w w':=by
 obtain⟨a1,c1,a2,c2,a3,c3,rfl,rfl,rfl⟩:=hS.forms;obtain⟨n1,hj⟩:∃n,n=N.grps.length:=⟨_,rfl⟩;obtain⟨n2,hl⟩:∃n,n=N.vars.length:=⟨_,rfl⟩;obtain⟨n3,hn⟩:∃n,n=N.eqs.length:=⟨_,rfl⟩;have hv:=Kh hj;have hx:=Kh hl;have hy:=Kh hn;have l1:n1≤10:=by rw[hj];exact hm.ng
 have l2:n2≤12:=by rw[hl];exact hm.nv
 have l3:n3≤12:=by rw[hn];exact hm.ne
 have HM:=Kh hm;rw[←hj,←hl,←hn]at hS ⊢;clear hm hj hl hn;obtain⟨hP,hi⟩:=blk1 w #[.slice a1 n1 c1,.slice a2 n2 c2,.slice a3 n3 c3] 43;replace hS:=hS.after hi;obtain⟨hb,hc,hd,he,hf,hg⟩:=hP.x3;go_enter Tryz.func26,Tryz.ntmps26
 go_wp2;clear hb hc hd he hf hg;generalize w.alloc (.cells #[.slice a1 n1 c1,.slice a2 n2 c2,.slice a3 n3 c3] 43)=w1 at hP hi hS;replace hP:Blk w1 w.heap.size 43 [.slice a1 n1 c1,.slice a2 n2 c2,.slice a3 n3 c3]:=hP;go_loopw [3] (fun i wr=>∃k:Nat,k≤n1∧i=.int .i64 k∧Hid ((N.grps.take k).all og=true)∧Bw w1 wr) (fun i _=>n1-(intOf i).toNat)
 case atStart=>exact⟨0,by omega,rfl,rfl,Br⟩
 case round =>
  obtain⟨k,hk,rfl,HA,ho⟩:=hrel;obtain⟨wp,hw⟩:∃wp,wp=wr:=⟨_,rfl⟩;subst hw;replace hS:=hS.after ho;replace hP:=hP.after ho;replace hi:=bt hi ho;by_cases hlt:k<n1
  ·have hh:k<N.grps.length:=by rw[←hv.out];exact hlt
   have HT:=Kh (all_take og N.grps k hh);have HO:=Kh (ord_hit N k hh HA.out);have hp:Hid (og (N.grps[k]'hh)=vz (N.grps[k]'hh).2):=rfl;obtain⟨b,o,rfl,hA,x1,x2⟩:=hS.gat hh;generalize og (N.grps[k]'hh)=ok at HT hp;generalize (N.grps[k]'hh).1=s1 at x1;generalize (N.grps[k]'hh).2=s2 at x2 HO hp;have hC:(0:Int)≤(k:Int):=by omega
   have hD:(k:Int)<(n1:Int):=by omega
   have hE:=hP.lt;have hB:=Blk.new wp #[.string (E s1),.string (E s2)] 24;rcases Nat.eq_zero_or_pos s2 with rfl | h0
   ·have hz:=zE (n:=0) rfl;have HX:Hid ((N.grps.take (k+1)).all og=true):=by rw[Hid,HT.out,HA.out,hp.out];rfl
    clear HO;obtain⟨hb,hc,hd,he,hf,hg⟩:=hP.x3;obtain⟨hq,hr,ht,hu⟩:=hB.x2;go_wp2;go_roundw
    case rel=>exact⟨k+1,by omega,by go_num,HX,ho⟩
    case measure=>simp[intOf];omega
   ·have hz:=nzE h0;have HF:=Kh (HO.out (by omega));clear HO h0;obtain⟨hb,hc,hd,he,hf,hg⟩:=hP.x3;obtain⟨hq,hr,ht,hu⟩:=hB.x2;go_wp2;go_ret
    exact⟨by rw[HF.out];rfl,hi⟩
  ·have HF:=Kh (ord_none N (all_end og N.grps k (by rw[←hv.out];omega) HA.out));obtain⟨hb,hc,hd,he,hf,hg⟩:=hP.x3;go_wp2;go_ret
   exact⟨by rw[HF.out];rfl,hi⟩
end
section
open Go.RowKit
theorem any_false {α:Type} (l:List α):l.any (fun _=>false)=false:=by induction l <;> simp_all
theorem sizes_c (N:NSta) (v1 v2 v3:Value) (w:World) (hm:NOk N) (hS:NAt w v1 v2 v3 N) :
  Calls Tryz.prog 115 #[.agg #[v1,v2,v3]] w fun e w'=>e=.returned (.int .i64 (if 8<N.grps.length then 6 else 0))∧Bw w w':=by
 obtain⟨r,hr⟩:∃r:Int,r=if 8<N.grps.length then 6 else 0:=⟨_,rfl⟩
 have hb:=Kh hr;rw[←hr];clear hr;obtain⟨a1,c1,a2,c2,a3,c3,rfl,rfl,rfl⟩:=hS.forms;obtain⟨n1,hc⟩:∃n,n=N.grps.length:=⟨_,rfl⟩;obtain⟨n2,hd⟩:∃n,n=N.vars.length:=⟨_,rfl⟩;obtain⟨n3,he⟩:∃n,n=N.eqs.length:=⟨_,rfl⟩;have ho:=Kh hc;have hy:=Kh hd;have hu:=Kh he;have l1:n1≤10:=by rw[hc];exact hm.ng
 have l2:n2≤12:=by rw[hd];exact hm.nv
 have l3:n3≤12:=by rw[he];exact hm.ne
 have HM:=Kh hm;rw[←hc,←hd,←he]at hS ⊢;clear hm hc hd he;obtain⟨hP,hf⟩:=blk1 w #[.slice a1 n1 c1,.slice a2 n2 c2,.slice a3 n3 c3] 43;replace hS:=hS.after hf;have e2:decide ((64:Int)<(n2:Int))=false:=decide_eq_false (by omega);have e3:decide ((64:Int)<(n3:Int))=false:=decide_eq_false (by omega);by_cases h8:8<n1
 ·have e1:decide ((8:Int)<(n1:Int))=true:=Dt (by omega);have HF:Hid (r=6):=by rw[Hid,hb.out,if_pos (by rw[←ho.out];exact h8)]
  clear h8;obtain⟨hg,hh,hi,hj,hl,hn⟩:=hP.x3;go_enter Tryz.func115,Tryz.ntmps115
  go_wp2;go_ret
  exact⟨by rw[HF.out];rfl,hf⟩
 ·have e1:decide ((8:Int)<(n1:Int))=false:=decide_eq_false (by omega);have HF:Hid (r=0):=by rw[Hid,hb.out,if_neg (by rw[←ho.out];exact h8)]
  have HC:Hid (∀w',Below (w.alloc (.cells #[.slice a1 n1 c1,.slice a2 n2 c2,.slice a3 n3 c3] 43)).heap.size (w.alloc (.cells #[.slice a1 n1 c1,.slice a2 n2 c2,.slice a3 n3 c3] 43)) w'→Calls Tryz.prog 152 #[.slice a3 n3 c3,.func (.func 153) #[] #[]] w' fun e w''=>e=.returned (.bool false)∧Bw w' w''):=by
   intro w' hv;have hw:=(hS.after hv).e;refine cont_siz N.s.eqs (fun _=>false) false _ w' (by simp only[NSta.s,List.length_map];rw[←hu.out];omega) hw (any_false _) ?_;intro k hk w2 tv hp ht;obtain⟨to_,tc,rfl⟩:=RAt.form ht;refine siz1_c _ _ _ _ _ _ ?_;have hq:=HM.out.ssm.e _ (Gm hk);have hx:k<N.eqs.length:=by simpa [NSta.s] using hk
   have:=(HM.out.e _ (Gm hx)).2.2.1;simp only[NSta.s,List.getElem_map,NEqn.q,List.length_map];omega
  clear h8;obtain⟨hg,hh,hi,hj,hl,hn⟩:=hP.x3;go_enter Tryz.func115,Tryz.ntmps115
  go_wp2_with fail
  refine (HC.out _ Br).mono ?_;rintro e w2 ⟨rfl,hp⟩;go_wp2;go_ret
  exact⟨by rw[HF.out];rfl,bt hf hp⟩
theorem elem_any (g:Nat × Nat) (l:List NTrm):(l.map NTrm.t).any (fun t=>!hasB g.1 g.2 (val t.base.data.toList))=!(l.all (hasQ g)):=by
 rw[List.any_map];induction l with
 | nil=>rfl
 | cons x t ih=>rw[List.any_cons,List.all_cons,ih,Bool.not_and];simp only[Function.comp,NTrm.t,val_E,hasQ]
theorem gp_at (N:NSta) (q:NEqn) (h:q.grp<N.grps.length):N.gp q=N.grps[q.grp]:=by
 unfold NSta.gp;rw[List.getD_eq_getElem?_getD,List.getElem?_eq_getElem h];rfl
theorem elements_c (N:NSta) (v1 v2 v3:Value) (w:World) (hm:NOk N) (hS:NAt w v1 v2 v3 N) :
  Calls Tryz.prog 116 #[.agg #[v1,v2,v3]] w fun e w'=>e=.returned (.int .i64 (if N.elem then 0 else 13))∧Bw w w':=by
 obtain⟨r,hr⟩:∃r:Int,r=if N.elem then 0 else 13:=⟨_,rfl⟩
 have hw:=Kh hr;rw[←hr];clear hr;obtain⟨a1,c1,a2,c2,a3,c3,rfl,rfl,rfl⟩:=hS.forms;obtain⟨n1,hN⟩:∃n,n=N.grps.length:=⟨_,rfl⟩;obtain⟨n2,hO⟩:∃n,n=N.vars.length:=⟨_,rfl⟩;obtain⟨n3,hQ⟩:∃n,n=N.eqs.length:=⟨_,rfl⟩;have hT:=Kh hN;have Hf:=Kh hO;have h2:=Kh hQ;have l1:n1≤10:=by rw[hN];exact hm.ng
 have l2:n2≤12:=by rw[hO];exact hm.nv
 have l3:n3≤12:=by rw[hQ];exact hm.ne
 have HM:=Kh hm;rw[←hN,←hO,←hQ]at hS ⊢;clear hm hN hO hQ;obtain⟨hP,ht⟩:=blk1 w #[.slice a1 n1 c1,.slice a2 n2 c2,.slice a3 n3 c3] 43;replace hS:=hS.after ht;obtain⟨hb,hc,hd,he,hf,hi⟩:=hP.x3;go_enter Tryz.func116,Tryz.ntmps116
 go_wp2;clear hb hc hd he hf hi;generalize w.alloc (.cells #[.slice a1 n1 c1,.slice a2 n2 c2,.slice a3 n3 c3] 43)=w1 at hP ht hS;replace hP:Blk w1 w.heap.size 43 [.slice a1 n1 c1,.slice a2 n2 c2,.slice a3 n3 c3]:=hP;go_loopw [11] (fun i wr=>∃k:Nat,k≤n1∧i=.int .i64 k∧Hid ((N.grps.take k).all gr0=true)∧Bw w1 wr) (fun i _=>n1-(intOf i).toNat)
 case atStart=>exact⟨0,by omega,rfl,rfl,Br⟩
 case round =>
  obtain⟨k,hk,rfl,HA,hu⟩:=hrel;obtain⟨wp,hU⟩:∃wp,wp=wr:=⟨_,rfl⟩;subst hU;replace hS:=hS.after hu;replace hP:=hP.after hu;replace ht:=bt ht hu;by_cases hlt:k<n1
  ·have hn:k<N.grps.length:=by rw[←hT.out];exact hlt
   have ho:=Kh (HM.out.g _ (Gm hn));have HT:=Kh (all_take gr0 N.grps k hn);have hl:Hid (gr0 (N.grps[k]'hn)=false→N.elem=false):=fun h=>by unfold NSta.elem;rw[all_bad gr0 N.grps k hn h];rfl
   have hD:Hid (gr0 (N.grps[k]'hn)=(grpE (N.grps[k]'hn).1 (N.grps[k]'hn).2==0)):=rfl;obtain⟨b,o,rfl,h8,x1,x2⟩:=hS.gat hn;generalize gr0 (N.grps[k]'hn)=ok at HT hD hl;generalize (N.grps[k]'hn).1=s1 at x1 ho hD;generalize (N.grps[k]'hn).2=s2 at x2 ho hD;have h9:(0:Int)≤(k:Int):=by omega
   have Ha:(k:Int)<(n1:Int):=by omega
   have Hb:=hP.lt;have hB:=Blk.new wp #[.string (E s1),.string (E s2)] 24;by_cases hg:grpE s1 s2=0
   ·have HG:=Kh hg;have HX:Hid ((N.grps.take (k+1)).all gr0=true):=by rw[Hid,HT.out,HA.out,hD.out,hg];rfl
    clear hl hg;obtain⟨hb,hc,hd,he,hf,hi⟩:=hP.x3;obtain⟨hV,hW,hX,hY⟩:=hB.x2;go_wp2_with fail
    refine (pcheckV_c s1 s2 0 _ ho.out.1 (lt128 ho.out.2) HG.out).mono ?_;rintro e w2 ⟨rfl,hp⟩;go_wp2;go_roundw
    case rel=>exact⟨k+1,by omega,by go_num,HX,bt (ba hu _) hp⟩
    case measure=>simp[intOf];omega
   ·have HG:=Kh (grpE_13 hg);have HF:Hid (N.elem=false):=hl.out (by rw[hD.out];simpa using hg);clear hl hg;obtain⟨hb,hc,hd,he,hf,hi⟩:=hP.x3;obtain⟨hV,hW,hX,hY⟩:=hB.x2;go_wp2_with fail
    refine (pcheckV_c s1 s2 13 _ ho.out.1 (lt128 ho.out.2) HG.out).mono ?_;rintro e w2 ⟨rfl,hp⟩;go_wp2;go_ret
    exact⟨by rw[hw.out,HF.out];rfl,bt (ba ht _) hp⟩
  ·have HG:Hid (N.grps.all gr0=true):=all_end gr0 N.grps k (by rw[←hT.out];omega) HA.out;clear hu;obtain⟨hb,hc,hd,he,hf,hi⟩:=hP.x3;go_wp2;clear hb hc hd he hf hi;clear HA hlt hk;go_loopw [22] (fun i wr=>∃k:Nat,k≤n3∧i=.int .i64 k∧Hid ((N.eqs.take k).all (elemQ N)=true)∧Bw wp wr) (fun i _=>n3-(intOf i).toNat)
   case atStart=>exact⟨0,by omega,rfl,rfl,Br⟩
   case round =>
    obtain⟨k,hk,rfl,HA,hu⟩:=hrel;obtain⟨wt,hU⟩:∃wp,wp=wr:=⟨_,rfl⟩;subst hU;replace hS:=hS.after hu;replace hP:=hP.after hu;replace ht:=bt ht hu;by_cases hlt:k<n3
    ·have hn:k<N.eqs.length:=by rw[←h2.out];exact hlt
     have HT:=Kh (all_take (elemQ N) N.eqs k hn);have hl:Hid (elemQ N (N.eqs[k]'hn)=false→N.elem=false):=fun h=>by unfold NSta.elem;rw[all_bad (elemQ N) N.eqs k hn h];simp
     have ho:=Kh (HM.out.e _ (Gm hn));obtain⟨b,o,tv,rfl,h8,x1,x2,x3,hy⟩:=hS.eat hn;generalize (N.eqs[k]'hn)=q at x1 x2 x3 hy ho HT hl;have hq:=ho.out.1;have Hc:q.grp<n1:=by rw[hT.out];exact hq
     have h3:=Kh (gp_at N q hq);have h4:Hid (gr0 (N.grps[q.grp]'hq)=true):=List.all_eq_true.1 HG.out _ (Gm hq);have hv:=Kh (HM.out.g _ (Gm hq));obtain⟨b',o',rfl,Hd,y1,y2⟩:=hS.gat hq;have hA:Hid (grpE (N.grps[q.grp]'hq).1 (N.grps[q.grp]'hq).2=0):=by have:=h4.out;unfold Hid;simpa [gr0] using this
     have hx:Hid (elemQ N q=(hasB (N.grps[q.grp]'hq).1 (N.grps[q.grp]'hq).2 q.tgt&&q.trms.all (hasQ (N.grps[q.grp]'hq)))):=by rw[Hid,elemQ,h3.out]
     generalize elemQ N q=ek at HT hl hx;generalize (N.grps[q.grp]'hq)=gg at y1 y2 hv hA hx;clear hq h3 h4;obtain⟨qg,qt,qs⟩:=q;simp only[]at x1 x2 x3 hy ho hx Hc y1 y2;obtain⟨to_,tc,rfl⟩:=hy.form;obtain⟨n4,hZ⟩:∃n,n=qs.length:=⟨_,rfl⟩;have Hg:=Kh hZ;rw[←hZ]at x3 hy;clear hZ;obtain⟨p,qq⟩:=gg;simp only[]at y1 y2 hv hA hx;have hB:=Blk.new wt #[.int .i64 (qg:Int),.string (E qt),.slice to_ n4 tc] 87;have hC:=Blk.new (wt.alloc (.cells #[.int .i64 (qg:Int),.string (E qt),.slice to_ n4 tc] 87)) #[.string (E p),.string (E qq)] 24;have h9:(0:Int)≤(k:Int):=by omega
     have Ha:(k:Int)<(n3:Int):=by omega
     have Hh:(0:Int)≤(qg:Int):=by omega
     have Hi:(qg:Int)<(n1:Int):=by omega
     have Hb:=hP.lt;have Hj:=hB.lt;have Hk:=hC.lt;cases hh:hasB p qq qt
     ·have HF:Hid (N.elem=false):=hl.out (by rw[hx.out,hh];rfl);have HH:=Kh hh;clear hh;obtain⟨hb,hc,hd,he,hf,hi⟩:=hP.x3;go_wp2_with fail
      refine (pHasV_c p qq qt false _ hv.out.1 (lt128 hv.out.2) hA.out (Nl ho.out.2.1 (by decide)) HH.out).mono ?_;rintro e w2 ⟨rfl,hp⟩;go_wp2;go_ret
      exact⟨by rw[hw.out,HF.out];rfl,bt (ba (ba ht _) _) hp⟩
     ·have HH:=Kh hh;have hE:=hy.after (b2 wt (.cells #[.int .i64 (qg:Int),.string (E qt),.slice to_ n4 tc] 87) (.cells #[.string (E p),.string (E qq)] 24));have h5:Blk ((wt.alloc (.cells #[.int .i64 (qg:Int),.string (E qt),.slice to_ n4 tc] 87)).alloc (.cells #[.string (E p),.string (E qq)] 24)) (wt.heap.size+1) 24 [.string (E p),.string (E qq)]:=by simpa using hC
      have hR:Hid (∀w',Below ((wt.alloc (.cells #[.int .i64 (qg:Int),.string (E qt),.slice to_ n4 tc] 87)).alloc (.cells #[.string (E p),.string (E qq)] 24)).heap.size ((wt.alloc (.cells #[.int .i64 (qg:Int),.string (E qt),.slice to_ n4 tc] 87)).alloc (.cells #[.string (E p),.string (E qq)] 24)) w' →
        Calls Tryz.prog 154 #[.slice to_ n4 tc,.func (.func 155) #[] #[.pointer (some ⟨wt.heap.size+1,0,none⟩)]] w' fun e w''=>e=.returned (.bool (!(qs.all (hasQ (p,qq)))))∧Bw w' w''):=by
       intro w' h6;refine cont_elt (qs.map NTrm.t) (fun t=>!hasB p qq (val t.base.data.toList)) _ _ (wt.heap.size+1) w' (by have:=ho.out.2.2.1;simp;omega) (by have:=hE.after h6;exact this) (elem_any (p,qq) qs) ?_;intro j hj w3 hF;have He:j<qs.length:=by simpa using hj
       have hz:=ho.out.2.2.2 _ (Gm He);simp only[List.getElem_map,NTrm.t,val_E];exact elt1_c p qq _ _ _ _ _ w3 hv.out.1 (lt128 hv.out.2) hA.out (Nl hz.1 (by decide)) ((h5.after h6).after hF)
      clear hC h5 hE hh hy;have Hl:=(hP.alloc (.cells #[.int .i64 (qg:Int),.string (E qt),.slice to_ n4 tc] 87)).alloc (.cells #[.string (E p),.string (E qq)] 24);have h7:=hB.alloc (.cells #[.string (E p),.string (E qq)] 24);cases ha:qs.all (hasQ (p,qq))
      ·have HF:Hid (N.elem=false):=hl.out (by rw[hx.out,ha];simp);rw[ha]at hR;clear ha;obtain⟨hb,hc,hd,he,hf,hi⟩:=hP.x3;go_wp2_with fail
       refine (pHasV_c p qq qt true _ hv.out.1 (lt128 hv.out.2) hA.out (Nl ho.out.2.1 (by decide)) HH.out).mono ?_;rintro e w2 ⟨rfl,hp⟩;have hG:=h7.after hp;have h0:=hG.lt;obtain⟨hH,hI,hJ,hK,hL,hM⟩:=hG.x3;go_wp2_with fail
       refine (hR.out _ hp).mono ?_;rintro e w3 ⟨rfl,hF⟩;go_wp2;go_ret
       exact⟨by rw[hw.out,HF.out];rfl,bt (bt (ba (ba ht _) _) hp) hF⟩
      ·have HX:Hid ((N.eqs.take (k+1)).all (elemQ N)=true):=by rw[Hid,HT.out,HA.out,hx.out,HH.out,ha];rfl
       rw[ha]at hR;clear ha;obtain⟨hb,hc,hd,he,hf,hi⟩:=hP.x3;go_wp2_with fail
       refine (pHasV_c p qq qt true _ hv.out.1 (lt128 hv.out.2) hA.out (Nl ho.out.2.1 (by decide)) HH.out).mono ?_;rintro e w2 ⟨rfl,hp⟩;have hG:=h7.after hp;have h0:=hG.lt;obtain⟨hH,hI,hJ,hK,hL,hM⟩:=hG.x3;go_wp2_with fail
       refine (hR.out _ hp).mono ?_;rintro e w3 ⟨rfl,hF⟩;go_wp2;go_roundw
       case rel=>exact⟨k+1,by omega,by go_num,HX,bt (bt (ba (ba hu _) _) hp) hF⟩
       case measure=>simp[intOf];omega
    ·have HE:Hid (N.eqs.all (elemQ N)=true):=all_end (elemQ N) N.eqs k (by rw[←h2.out];omega) HA.out;have HF:Hid (N.elem=true):=by unfold Hid NSta.elem;rw[HG.out,HE.out];rfl
     obtain⟨hb,hc,hd,he,hf,hi⟩:=hP.x3;go_wp2;go_ret
     exact⟨by rw[hw.out,HF.out];rfl,ht⟩
end
section
open Go.RowKit
theorem knv_any (l:List Nat):(l.map E).any (fun s=>vz (val s.data.toList))=l.any vz:=by
 rw[List.any_map];simp only[Function.comp_def,val_E]
theorem kng_any (n:Nat) (l:List (Nat × Nat)):(l.map gE).any (fun g=>gq n (val g.1.data.toList,val g.2.data.toList))=l.any (gq n):=by
 rw[List.any_map];simp only[Function.comp_def,gE,val_E]
theorem knt_any (N:NSta) (l:List NTrm):(l.map NTrm.t).any (fun t=>vz (N.vars.getD t.var.toNat 0))=l.any N.tz:=by
 rw[List.any_map];simp only[Function.comp_def,NTrm.t,Int.toNat_natCast];rfl
theorem typ_vars (N:NSta) (h:N.vars.any vz=false):N.typ=true:=by unfold NSta.typ;rw[h];rfl
theorem typ_ord (N:NSta) (h:N.vars.any vz=true) (h0:N.ord=0):N.typ=false:=by unfold NSta.typ;rw[h,h0];rfl
theorem typ_gq (N:NSta) (h:N.vars.any vz=true) (h0:N.grps.any (gq N.ord)=true):N.typ=false:=by unfold NSta.typ;rw[h,h0];simp
theorem typ_kind (N:NSta) (h:N.vars.any vz=true) (k:Nat) (hk:k<N.eqs.length) (h0:kindQ N N.eqs[k]=false):N.typ=false:=by unfold NSta.typ;rw[h,all_bad (kindQ N) N.eqs k hk h0];simp
theorem typ_ok (N:NSta) (h1:N.ord≠0) (h2:N.grps.any (gq N.ord)=false) (h3:N.eqs.all (kindQ N)=true):N.typ=true:=by
 unfold NSta.typ;rw[h2,h3,show vz N.ord=false by simpa [vz] using h1];simp
theorem kinds_c (N:NSta) (v1 v2 v3:Value) (w:World) (hm:NOk N) (hS:NAt w v1 v2 v3 N) :
  Calls Tryz.prog 117 #[.agg #[v1,v2,v3]] w fun e w'=>e=.returned (.int .i64 (if N.typ then 0 else 10))∧Bw w w':=by
 obtain⟨r,hr⟩:∃r:Int,r=if N.typ then 0 else 10:=⟨_,rfl⟩
 have hn:=Kh hr;rw[←hr];clear hr;obtain⟨a1,c1,a2,c2,a3,c3,rfl,rfl,rfl⟩:=hS.forms;obtain⟨n1,hI⟩:∃n,n=N.grps.length:=⟨_,rfl⟩;obtain⟨n2,hJ⟩:∃n,n=N.vars.length:=⟨_,rfl⟩;obtain⟨n3,hK⟩:∃n,n=N.eqs.length:=⟨_,rfl⟩;have hX:=Kh hI;have hY:=Kh hJ;have hZ:=Kh hK;have l1:n1≤10:=by rw[hI];exact hm.ng
 have l2:n2≤12:=by rw[hJ];exact hm.nv
 have l3:n3≤12:=by rw[hK];exact hm.ne
 have HM:=Kh hm;rw[←hI,←hJ,←hK]at hS ⊢;clear hm hI hJ hK;obtain⟨hP,hi⟩:=blk1 w #[.slice a1 n1 c1,.slice a2 n2 c2,.slice a3 n3 c3] 43;replace hS:=hS.after hi;generalize h4:w.alloc (.cells #[.slice a1 n1 c1,.slice a2 n2 c2,.slice a3 n3 c3] 43)=w1 at hP hi hS;replace hP:Blk w1 w.heap.size 43 [.slice a1 n1 c1,.slice a2 n2 c2,.slice a3 n3 c3]:=hP
 have hL:Hid (Calls Tryz.prog 156 #[.slice a2 n2 c2,.func (.func 157) #[] #[]] w1 fun e w''=>e=.returned (.bool (N.vars.any vz))∧Bw w1 w''):=by
  refine cont_knv N.s.vars (fun s=>vz (val s.data.toList)) _ _ w1 (by simp only[NSta.s,List.length_map];rw[←hY.out];omega) hS.v (knv_any _) ?_;intro k hk w2 hu;simp only[NSta.s,List.getElem_map,val_E];exact knv1_c _ _
 obtain⟨av,hQ⟩:∃b,b=N.vars.any vz:=⟨_,rfl⟩;rw[←hQ]at hL;have hR:=Kh hQ;clear hQ;subst h4;cases av
 ·have HF:=Kh (typ_vars N hR.out.symm);obtain⟨hb,hc,hd,he,hf,hh⟩:=hP.x3;go_enter Tryz.func117,Tryz.ntmps117
  go_wp2_with fail
  refine hL.out.mono ?_;rintro e w2 ⟨rfl,hu⟩;go_wp2;go_ret
  exact⟨by rw[hn.out,HF.out];rfl,bt hi hu⟩
 ·have hT:Hid (N.vars.any vz=true):=hR.out.symm;obtain⟨hb,hc,hd,he,hf,hh⟩:=hP.x3;go_enter Tryz.func117,Tryz.ntmps117
  go_wp2_with fail
  refine hL.out.mono ?_;rintro e w2 ⟨rfl,hu⟩;clear hb hc hd he hf hh;clear hL hR;replace hP:=hP.after hu;replace hS:=hS.after hu;replace hi:=bt hi hu;clear hu;have hA:=hP.lt;obtain⟨hb,hc,hd,he,hf,hh⟩:=hP.x3;go_wp2_with fail
  refine (order_c N _ _ _ _ HM.out hS).mono ?_;rintro e w3 ⟨rfl,hM⟩;clear hb hc hd he hf hh;replace hP:=hP.after hM;replace hS:=hS.after hM;replace hi:=bt hi hM;clear hM hA;have hA:=hP.lt;have hD:=Blk.new w3 #[.string (E N.ord)] 22;by_cases ho:N.ord=0
  ·have hz:=zE ho;have HF:=Kh (typ_ord N hT.out ho);clear ho;obtain⟨hb,hc,hd,he,hf,hh⟩:=hP.x3;go_wp2;go_ret
   exact⟨by rw[hn.out,HF.out];rfl,ba hi _⟩
  ·have hz:=nzE (Nat.pos_of_ne_zero ho);have HO:=Kh ho;clear ho;have hp:=hS.after (b1 w3 (.cells #[.string (E N.ord)] 22))
   have hN:Hid (Calls Tryz.prog 158 #[.slice a1 n1 c1,.func (.func 159) #[] #[.pointer (some ⟨w3.heap.size,0,none⟩)]] (w3.alloc (.cells #[.string (E N.ord)] 22)) fun e w''=>e=.returned (.bool (N.grps.any (gq N.ord)))∧Below (w3.alloc (.cells #[.string (E N.ord)] 22)).heap.size (w3.alloc (.cells #[.string (E N.ord)] 22)) w''):=by
    have hg:=hp.g;refine cont_kng N.s.grps (fun g=>gq N.ord (val g.1.data.toList,val g.2.data.toList)) _ _ w3.heap.size _ (by simp only[NSta.s,List.length_map];rw[←hX.out];omega) hg (kng_any _ _) ?_;intro k hk w5 ht;simp only[NSta.s,List.getElem_map,gE,val_E];exact kng1_c _ _ _ _ _ (hD.after ht)
   obtain⟨ag,hU⟩:∃b,b=N.grps.any (gq N.ord):=⟨_,rfl⟩;rw[←hU]at hN;have hV:=Kh hU;clear hU;cases ag
   ·have h5:Hid (N.grps.any (gq N.ord)=false):=hV.out.symm;obtain⟨hb,hc,hd,he,hf,hh⟩:=hP.x3;go_wp2_with fail
    refine hN.out.mono ?_;rintro e w5 ⟨rfl,ht⟩;clear hb hc hd he hf hh;clear hN hV hD hS;replace hP:=(hP.alloc (.cells #[.string (E N.ord)] 22)).after ht;replace hp:=hp.after ht;replace hi:=bt (ba hi _) ht;clear ht hA;have hA:=hP.lt;obtain⟨hb,hc,hd,he,hf,hh⟩:=hP.x3;go_wp2;clear hb hc hd he hf hh;go_loopw [23] (fun i wr=>∃k:Nat,k≤n3∧i=.int .i64 k∧Hid ((N.eqs.take k).all (kindQ N)=true)∧Bw w5 wr) (fun i _=>n3-(intOf i).toNat)
    case atStart=>exact⟨0,by omega,rfl,rfl,Br⟩
    case round =>
     obtain⟨k,hk,rfl,HA,hC⟩:=hrel;obtain⟨wt,h6⟩:∃wp,wp=wr:=⟨_,rfl⟩;subst h6;replace hp:=hp.after hC;replace hP:=hP.after hC;replace hi:=bt hi hC;by_cases hlt:k<n3
     ·have hE:k<N.eqs.length:=by rw[←hZ.out];exact hlt
      have HT:=Kh (all_take (kindQ N) N.eqs k hE);have hl:=Kh (typ_kind N hT.out k hE);have hF:=Kh (HM.out.e _ (Gm hE));obtain⟨b,o,tv,rfl,Ha,x1,x2,x3,hv⟩:=hp.eat hE;generalize (N.eqs[k]'hE)=q at x1 x2 x3 hv hF HT hl;have hx:=hF.out.1;have h7:q.grp<n1:=by rw[hX.out];exact hx
      have h2:=Kh (gp_at N q hx);obtain⟨b',o',rfl,h8,y1,y2⟩:=hp.gat hx;have hw:Hid (kindQ N q=(!(vz (N.grps[q.grp]'hx).2) || !(q.trms.any N.tz))):=by rw[Hid,kindQ,h2.out]
      generalize kindQ N q=ek at HT hl hw;generalize (N.grps[q.grp]'hx)=gg at y1 y2 hw;clear hx h2;obtain⟨qg,qt,qs⟩:=q;simp only[]at x1 x2 x3 hv hF hw h7 y1 y2;obtain⟨to_,tc,rfl⟩:=hv.form;obtain⟨n4,hW⟩:∃n,n=qs.length:=⟨_,rfl⟩;have Hb:=Kh hW;rw[←hW]at x3 hv;clear hW;obtain⟨p,qq⟩:=gg;simp only[]at y1 y2 hw;have hB:=Blk.new wt #[.int .i64 (qg:Int),.string (E qt),.slice to_ n4 tc] 87;have Hc:(0:Int)≤(k:Int):=by omega
      have Hd:(k:Int)<(n3:Int):=by omega
      have He:(0:Int)≤(qg:Int):=by omega
      have Hf:(qg:Int)<(n1:Int):=by omega
      have hA:=hP.lt;have Hg:=hB.lt;rcases Nat.eq_zero_or_pos qq with rfl | h0
      ·have hz:=zE (n:=0) rfl;have hG:=hv.after (b1 wt (.cells #[.int .i64 (qg:Int),.string (E qt),.slice to_ n4 tc] 87));have h3:=hp.after (b1 wt (.cells #[.int .i64 (qg:Int),.string (E qt),.slice to_ n4 tc] 87));have h9:=hP.alloc (.cells #[.int .i64 (qg:Int),.string (E qt),.slice to_ n4 tc] 87)
       have hO:Hid (Calls Tryz.prog 154 #[.slice to_ n4 tc,.func (.func 160) #[] #[.pointer (some ⟨w.heap.size,0,none⟩)]] (wt.alloc (.cells #[.int .i64 (qg:Int),.string (E qt),.slice to_ n4 tc] 87)) fun e w''=>e=.returned (.bool (qs.any N.tz))∧Below (wt.alloc (.cells #[.int .i64 (qg:Int),.string (E qt),.slice to_ n4 tc] 87)).heap.size (wt.alloc (.cells #[.int .i64 (qg:Int),.string (E qt),.slice to_ n4 tc] 87)) w''):=by
        refine cont_knt (qs.map NTrm.t) (fun t=>vz (N.vars.getD t.var.toNat 0)) _ _ w.heap.size _ (by have:=hF.out.2.2.1;simp;omega) (by have:=hG;exact this) (knt_any N qs) ?_;intro j hj w6 hy;have hH:j<qs.length:=by simpa using hj
        have hz:=hF.out.2.2.2 _ (Gm hH);have hq:=knt1_c N (qs[j]'hH).var w.heap.size n2 c2 a2 (.slice (some ⟨b',o',none⟩) n1 c1) (.slice (some ⟨b,o,none⟩) n3 c3) (E (qs[j]'hH).base) (sg (qs[j]'hH).coef) (E (qs[j]'hH).coef.natAbs) w6 hY.out (by omega) hz.2.1 (h3.after hy) (h9.after hy);simp only[List.getElem_map,NTrm.t,Int.toNat_natCast,List.getD_eq_getElem?_getD,List.getElem?_eq_getElem hz.2.1,Option.getD_some];exact hq
       clear hv hG h3;cases ha:qs.any N.tz
       ·have HX:Hid ((N.eqs.take (k+1)).all (kindQ N)=true):=by rw[Hid,HT.out,HA.out,hw.out,ha];rfl
        rw[ha]at hO;clear ha hl;obtain⟨hb,hc,hd,he,hf,hh⟩:=hP.x3;go_wp2_with fail
        refine hO.out.mono ?_;rintro e w6 ⟨rfl,hy⟩;go_wp2;go_roundw
        case rel=>exact⟨k+1,by omega,by go_num,HX,bt (ba hC _) hy⟩
        case measure=>simp[intOf];omega
       ·have HF:Hid (N.typ=false):=hl.out (by rw[hw.out,ha];rfl);rw[ha]at hO;clear ha hl;obtain⟨hb,hc,hd,he,hf,hh⟩:=hP.x3;go_wp2_with fail
        refine hO.out.mono ?_;rintro e w6 ⟨rfl,hy⟩;go_wp2;go_ret
        exact⟨by rw[hn.out,HF.out];rfl,bt (ba hi _) hy⟩
      ·have hz:=nzE h0;have HX:Hid ((N.eqs.take (k+1)).all (kindQ N)=true):=by rw[Hid,HT.out,HA.out,hw.out,vz_pos h0];rfl
       clear hl h0 hv;obtain⟨hb,hc,hd,he,hf,hh⟩:=hP.x3;go_wp2;go_roundw
       case rel=>exact⟨k+1,by omega,by go_num,HX,ba hC _⟩
       case measure=>simp[intOf];omega
     ·have HE:Hid (N.eqs.all (kindQ N)=true):=all_end (kindQ N) N.eqs k (by rw[←hZ.out];omega) HA.out;have HF:=Kh (typ_ok N HO.out h5.out HE.out);go_wp2;go_ret
      exact⟨by rw[hn.out,HF.out];rfl,hi⟩
   ·have HF:=Kh (typ_gq N hT.out hV.out.symm);obtain⟨hb,hc,hd,he,hf,hh⟩:=hP.x3;go_wp2_with fail
    refine hN.out.mono ?_;rintro e w5 ⟨rfl,ht⟩;go_wp2;go_ret
    exact⟨by rw[hn.out,HF.out];rfl,bt (ba hi _) ht⟩
end
end Go.Proofs.YtdgddpnjkinciaaGreatDoor
