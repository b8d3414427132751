import Derived.Test.YtihjpddbjhcbmaaGreatDoorSet1
set_option linter.unusedVariables false
set_option linter.unusedSimpArgs false
set_option maxRecDepth 100000
set_option maxHeartbeats 16000000
namespace Go.Proofs.YtihjpddbjhcbmaaGreatDoor
open Go.RowKit
theorem rvalidV_c (s:ByteArray) (b:Bool) (w:World) (hs:s.size≤4611686018427387904) (h:vldB s=b) :
  Calls Tryz.prog 86 #[.string s] w fun e w'=>e=.returned (.bool b)∧w=w':=by rw[←h];exact rvalid_c s w hs
theorem szM {n:Nat} (h:n<256^128):(E n).size≤1000000:=by have:=sz n h;omega
theorem rform_c (p q:Nat) (w:World) (hp:p<256^128) (hq:q<256^128) :
  Calls Tryz.prog 293 #[.agg #[.string (E p),.string (E q)]] w fun e w'=>e=.returned (.bool true)∧Bw w w':=by
 have HP:=Kh hp;have HQ:=Kh hq;clear hp hq;go_enter Tryz.func293,Tryz.ntmps293
 go_wp2_with fail
 refine (rvalidE_c p _ HP.out).mono ?_;rintro e w' ⟨rfl,rfl⟩;go_wp2_with fail
 refine (rvalidE_c q _ HQ.out).mono ?_;rintro e w' ⟨rfl,rfl⟩;go_wp2;go_ret
 exact⟨rfl,b1 _ _⟩
theorem mod1 {p:Nat} (h:2≤p):1%p=1:=Nat.mod_eq_of_lt h
theorem rghas_c (p q x:Nat) (w:World) (hp:p<256^8) (hh:2≤p) (hq:q<256^128) (h0:0<q) (hx:x<256^128) :
  Calls Tryz.prog 246 #[.agg #[.string (E p),.string (E q)],.string (E x)] w fun e w'=>e=.returned (.bool (hasB p q x))∧Bw w w':=by
 have HP:=Kh (lt128 hp);have hj:=Kh (Nl hp (Nat.pow_le_pow_right (show 0<256 by decide) (show 8≤64 by decide)));have HQ:=Kh hq;have HX:=Kh hx;have hz:=nzE h0;have hB:=Blk.new w #[Value.string (E p),Value.string (E q)] 86;have hl:=Kh (szM hx);have hm:=Kh (szM (lt128 hp));by_cases hx0:x=0
 ·have HR:Hid (hasB p q x=false):=by rw[hx0];exact hasB_zero p q
  have hn:=zE hx0;clear hp hq h0 hx hx0 hh;obtain⟨hb,hd,he,hf⟩:=hB.x2;go_enter Tryz.func246,Tryz.ntmps246
  go_wp2_with fail
  refine (rform_c p q _ HP.out HQ.out).mono ?_;rintro e w1 ⟨rfl,hg⟩;clear hb hd he hf;replace hB:=hB.after hg;obtain⟨hb,hd,he,hf⟩:=hB.x2;go_wp2_with fail
  refine (rvalidE_c x _ HX.out).mono ?_;rintro e w' ⟨rfl,rfl⟩;go_wp2;go_ret
  exact⟨rb HR.out.symm,bt (b1 _ _) hg⟩
 ·have hn:=nzE (Nat.pos_of_ne_zero hx0);rcases Nat.lt_or_ge x p with hlt | hk
  ·have HR:=Kh (hasB_q h0 (Nat.pos_of_ne_zero hx0) hlt);have ho:Hid (0<p):=by unfold Hid;omega
   have hc:=cmp_neg x p hlt;have HD:Hid (((E (x^q%p)).toList==[1])=decide (x^q%p=1%p)):=by rw[Hid,mod1 hh];exact E1L _
   clear hp hq h0 hx hx0 hlt hh;obtain⟨hb,hd,he,hf⟩:=hB.x2;go_enter Tryz.func246,Tryz.ntmps246
   go_wp2_with fail
   refine (rform_c p q _ HP.out HQ.out).mono ?_;rintro e w1 ⟨rfl,hg⟩;clear hb hd he hf;replace hB:=hB.after hg;obtain⟨hb,hd,he,hf⟩:=hB.x2;go_wp2_with fail
   refine (rvalidE_c x _ HX.out).mono ?_;rintro e w' ⟨rfl,rfl⟩;go_wp2_with fail
   refine (rorder_c x p _ hl.out hm.out).mono ?_;rintro e w2 ⟨rfl,hi⟩;clear hb hd he hf;replace hB:=hB.after hi;obtain⟨hb,hd,he,hf⟩:=hB.x2;go_wp2_with fail
   refine (rexp3_c x q p _ HX.out HQ.out hj.out ho.out).mono ?_;rintro e w3 ⟨rfl,hr⟩;go_wp2;go_ret
   exact⟨rb (by rw[HR.out];exact HD.out),bt (bt (bt (b1 _ _) hg) hi) hr⟩
  ·have HR:=Kh (hasB_big (q:=q) hk);have hc:=cmp_nneg x p hk;clear hp hq h0 hx hx0 hk hh;obtain⟨hb,hd,he,hf⟩:=hB.x2;go_enter Tryz.func246,Tryz.ntmps246
   go_wp2_with fail
   refine (rform_c p q _ HP.out HQ.out).mono ?_;rintro e w1 ⟨rfl,hg⟩;clear hb hd he hf;replace hB:=hB.after hg;obtain⟨hb,hd,he,hf⟩:=hB.x2;go_wp2_with fail
   refine (rvalidE_c x _ HX.out).mono ?_;rintro e w' ⟨rfl,rfl⟩;go_wp2_with fail
   refine (rorder_c x p _ hl.out hm.out).mono ?_;rintro e w2 ⟨rfl,hi⟩;go_wp2;go_ret
   exact⟨rb HR.out.symm,bt (bt (b1 _ _) hg) hi⟩
theorem rhas_c (p q x:Nat) (w:World) (hp:p<256^8) (hq:q<256^128) (hg:grpE p q=0) (hx:x<256^128) :
  Calls Tryz.prog 164 #[.agg #[.string (E p),.string (E q)],.string (E x)] w fun e w'=>e=.returned (.bool (hasB p q x))∧Bw w w':=by
 have hl:=Kh hp;have HP:=Kh (lt128 hp);have HX:=Kh hx;have hm:=Kh (grp_gt hg);have hj:=Kh (szM hx);have hk:=Kh (szM (lt128 hp));rcases Nat.eq_zero_or_pos q with rfl | h0
 ·have hz:=zE (n:=0) rfl;have hB:=Blk.new w #[Value.string (E p),Value.string (E 0)] 86;by_cases hx0:x=0
  ·have HR:Hid (hasB p 0 x=false):=by rw[hx0];exact hasB_zero p 0
   have hn:=zE hx0;clear hp hx hg hq hx0;go_enter Tryz.func164,Tryz.ntmps164
   go_wp2;go_ret
   exact⟨rb HR.out.symm,b1 _ _⟩
  ·have hn:=nzE (Nat.pos_of_ne_zero hx0);rcases Nat.lt_or_ge x p with hlt | hi
   ·have HR:=Kh (hasB_0 (Nat.pos_of_ne_zero hx0) hlt);have hc:=cmp_neg x p hlt;have HD:=Kh (E1L (Nat.gcd x p));clear hp hx hg hq hx0 hlt;obtain⟨hb,hd,he,hf⟩:=hB.x2;go_enter Tryz.func164,Tryz.ntmps164
    go_wp2_with fail
    refine (rorder_c x p _ hj.out hk.out).mono ?_;rintro e w1 ⟨rfl,hh⟩;clear hb hd he hf;replace hB:=hB.after hh;obtain⟨hb,hd,he,hf⟩:=hB.x2;go_wp2_with fail
    refine (rcommon_c x p _ HX.out HP.out).mono ?_;rintro e w2 ⟨rfl,ho⟩;go_wp2;go_ret
    exact⟨rb (by rw[HR.out];exact HD.out),bt (bt (b1 _ _) hh) ho⟩
   ·have HR:=Kh (hasB_big (q:=0) hi);have hc:=cmp_nneg x p hi;clear hp hx hg hq hx0 hi;obtain⟨hb,hd,he,hf⟩:=hB.x2;go_enter Tryz.func164,Tryz.ntmps164
    go_wp2_with fail
    refine (rorder_c x p _ hj.out hk.out).mono ?_;rintro e w1 ⟨rfl,hh⟩;go_wp2;go_ret
    exact⟨rb HR.out.symm,bt (b1 _ _) hh⟩
 ·have hz:=nzE h0;have HQ:=Kh hq;have H0:=Kh h0;clear hp hx hg hq h0;go_enter Tryz.func164,Tryz.ntmps164
  go_wp2_with fail
  refine (rghas_c p q x _ hl.out hm.out HQ.out H0.out HX.out).mono ?_;rintro e w1 ⟨rfl,hh⟩;go_wp2;go_ret
  exact⟨rfl,bt (b1 _ _) hh⟩
theorem lastb (p:Nat) (h:0<p):((E p)[(E p).size-1]'(by have:=(E_size_pos p).2 h;omega)).toNat=p%256:=by
 have hs:=(E_size_pos p).2 h;rw[dgt_at (E p) 0 ((E p).size-1) hs (by omega),dgt_E,Nat.pow_zero,Nat.div_one]
theorem rorder8_c (p:Nat) (w:World) (h1:(E p).size≤1000000) :
  Calls Tryz.prog 87 #[.string (E p),.string { data:=#[8] }] w fun e w'=>e=.returned (.int .i64 (cmpN p 8))∧Bw w w':=
 rorder_c p 8 w h1 (by decide)
theorem rminus1_c (p:Nat) (w:World) (h1:(E p).size≤1000000) (h:1≤p) :
  Calls Tryz.prog 187 #[.string (E p),.string { data:=#[1] }] w fun e w'=>e=.returned (.string (E (p-1)))∧Bw w w':=
 rminus_c p 1 w h1 h
theorem rpcheck_0 (p:Nat) (w:World) (hp:p<256^8) :
  Calls Tryz.prog 163 #[.agg #[.string (E p),.string (E 0)]] w fun e w'=>e=.returned (.int .i64 (grpE p 0))∧Bw w w':=by
 have HP:=Kh (lt128 hp);have hk:Hid ((0:Nat)<256^128):=by unfold Hid;decide
 have hn:=Kh (szM (lt128 hp));have hz:=zE (n:=0) rfl;have hB:=Blk.new w #[Value.string (E p),Value.string (E 0)] 86;have HG:Hid (grpE p 0=if p%2=1∧8<p then 0 else 13):=rfl;by_cases hf:p=0
 ·have he:Hid (grpE p 0=13):=by rw[Hid,HG.out,if_neg (by omega)]
  have ho:=zE hf;clear hp hf HG;go_enter Tryz.func163,Tryz.ntmps163
  go_wp2_with fail
  refine (rvalidE_c p _ HP.out).mono ?_;rintro e w' ⟨rfl,rfl⟩;go_wp2_with fail
  refine (rvalidE_c 0 _ hk.out).mono ?_;rintro e w' ⟨rfl,rfl⟩;go_wp2;go_ret
  exact⟨ri (by rw[he.out];rfl),b1 _ _⟩
 ·have ho:=nzE (Nat.pos_of_ne_zero hf);have hr:=(E_size_pos p).2 (Nat.pos_of_ne_zero hf);have hq:=sz p HP.out;have hl:=lastb p (Nat.pos_of_ne_zero hf);have hu:(1:Int)≤((E p).size:Int):=by omega
  have hb:(((E p)[(E p).size-1]'(by omega)).toNat:Int)%2=((p%2:Nat):Int):=by rw[hl];omega
  by_cases hd:p%2=1
  ·have ht:((((E p)[(E p).size-1]'(by omega)).toNat:Int)%2==0)=false:=by rw[hb,hd];rfl
   by_cases h8:8<p
   ·have he:Hid (grpE p 0=0):=by rw[Hid,HG.out,if_pos ⟨hd,h8⟩]
    have hc:=cmp_pos p 8 h8;clear hp hb hl h8 HG hd;obtain⟨hg,hh,hi,hj⟩:=hB.x2;go_enter Tryz.func163,Tryz.ntmps163
    go_wp2_with fail
    refine (rvalidE_c p _ HP.out).mono ?_;rintro e w' ⟨rfl,rfl⟩;go_wp2_with fail
    refine (rvalidE_c 0 _ hk.out).mono ?_;rintro e w' ⟨rfl,rfl⟩;go_wp2_with fail
    refine (rorder8_c p _ hn.out).mono ?_;rintro e w1 ⟨rfl,hm⟩;go_wp2;go_ret
    exact⟨ri (by rw[he.out];rfl),bt (b1 _ _) hm⟩
   ·have he:Hid (grpE p 0=13):=by rw[Hid,HG.out,if_neg (by omega)]
    have hc:=cmp_npos p 8 (by omega);clear hp hb hl h8 HG hd;obtain⟨hg,hh,hi,hj⟩:=hB.x2;go_enter Tryz.func163,Tryz.ntmps163
    go_wp2_with fail
    refine (rvalidE_c p _ HP.out).mono ?_;rintro e w' ⟨rfl,rfl⟩;go_wp2_with fail
    refine (rvalidE_c 0 _ hk.out).mono ?_;rintro e w' ⟨rfl,rfl⟩;go_wp2_with fail
    refine (rorder8_c p _ hn.out).mono ?_;rintro e w1 ⟨rfl,hm⟩;go_wp2;go_ret
    exact⟨ri (by rw[he.out];rfl),bt (b1 _ _) hm⟩
  ·have ht:((((E p)[(E p).size-1]'(by omega)).toNat:Int)%2==0)=true:=by rw[hb,show p%2=0 by omega];rfl
   have he:Hid (grpE p 0=13):=by rw[Hid,HG.out,if_neg (by omega)]
   clear hp hb hl HG hd;obtain⟨hg,hh,hi,hj⟩:=hB.x2;go_enter Tryz.func163,Tryz.ntmps163
   go_wp2_with fail
   refine (rvalidE_c p _ HP.out).mono ?_;rintro e w' ⟨rfl,rfl⟩;go_wp2_with fail
   refine (rvalidE_c 0 _ hk.out).mono ?_;rintro e w' ⟨rfl,rfl⟩;go_wp2;go_ret
   exact⟨ri (by rw[he.out];rfl),b1 _ _⟩
theorem E1n {n:Nat} (h:n≠1):((E n).toList==[1])=false:=by rw[E1L];exact decide_eq_false h
theorem E1y {n:Nat} (h:n=1):((E n).toList==[1])=true:=by rw[E1L];exact Dt h
theorem rpcheck_q (p q:Nat) (w:World) (hp:p<256^8) (hq:q<256^128) (h0:0<q) :
  Calls Tryz.prog 163 #[.agg #[.string (E p),.string (E q)]] w fun e w'=>e=.returned (.int .i64 (grpE p q))∧Bw w w':=by
 have HP:=Kh (lt128 hp);have HQ:=Kh hq;have H0:=Kh h0;have hz:=nzE h0;have hm:=Kh (szM (lt128 hp));have hB:=Blk.new w #[Value.string (E p),Value.string (E q)] 86;have HG:=Kh (grpE_q (p:=p) h0);by_cases hg:p=0
 ·have hf:Hid (grpE p q=13):=by rw[Hid,HG.out,if_neg (by omega)]
  have e1:=zE hg;clear hp hq h0 HG hg;obtain⟨hb,hc,hd,he⟩:=hB.x2;go_enter Tryz.func163,Tryz.ntmps163
  go_wp2_with fail
  refine (rvalidE_c p _ HP.out).mono ?_;rintro e w' ⟨rfl,rfl⟩;go_wp2_with fail
  refine (rvalidE_c q _ HQ.out).mono ?_;rintro e w' ⟨rfl,rfl⟩;go_wp2;go_ret
  exact⟨ri (by rw[hf.out];rfl),b1 _ _⟩
 ·have e1:=nzE (Nat.pos_of_ne_zero hg);by_cases hh:p=1
  ·have hf:Hid (grpE p q=13):=by rw[Hid,HG.out,if_neg (by omega)]
   have e2:=E1y hh;clear hp hq h0 HG hg hh;obtain⟨hb,hc,hd,he⟩:=hB.x2;go_enter Tryz.func163,Tryz.ntmps163
   go_wp2_with fail
   refine (rvalidE_c p _ HP.out).mono ?_;rintro e w' ⟨rfl,rfl⟩;go_wp2_with fail
   refine (rvalidE_c q _ HQ.out).mono ?_;rintro e w' ⟨rfl,rfl⟩;go_wp2;go_ret
   exact⟨ri (by rw[hf.out];rfl),b1 _ _⟩
  ·have e2:=E1n hh;by_cases hi:q=1
   ·have hf:Hid (grpE p q=13):=by rw[Hid,HG.out,if_neg (by omega)]
    have e3:=E1y hi;clear hp hq h0 HG hg hh hi;obtain⟨hb,hc,hd,he⟩:=hB.x2;go_enter Tryz.func163,Tryz.ntmps163
    go_wp2_with fail
    refine (rvalidE_c p _ HP.out).mono ?_;rintro e w' ⟨rfl,rfl⟩;go_wp2_with fail
    refine (rvalidE_c q _ HQ.out).mono ?_;rintro e w' ⟨rfl,rfl⟩;go_wp2;go_ret
    exact⟨ri (by rw[hf.out];rfl),b1 _ _⟩
   ·have e3:=E1n hi;have hn:Hid (1≤p):=by unfold Hid;omega
    have ho:Hid ((E (p-1)).size≤1000):=sz1000 (by have:=HP.out;omega);have ht:Hid ((E q).size≤1000):=sz1000 hq;by_cases hr:(p-1)%q=0
    ·have hf:Hid (grpE p q=0):=by rw[Hid,HG.out,if_pos (by omega)]
     have hu:=zE hr;clear hp hq h0 HG hg hh hi hr;have hk:=hB.gcell 0;have hl:=hB.gcell 1;obtain⟨hb,hc,hd,he⟩:=hB.x2;go_enter Tryz.func163,Tryz.ntmps163
     go_wp2_with fail
     refine (rvalidE_c p _ HP.out).mono ?_;rintro e w' ⟨rfl,rfl⟩;go_wp2_with fail
     refine (rvalidE_c q _ HQ.out).mono ?_;rintro e w' ⟨rfl,rfl⟩;go_wp2_with fail
     clear hb hc hd he;go_wp2_with fail
     refine wp_region_gw (by kernel_rfl) (by kernel_rfl) ?_;repeat (go_big_quiet_step (first | (go_at_call 187;exact gw_of (rminus1_c p _ hm.out hn.out)) | (go_at_call 245;exact gw_of (rover_c (p-1) q _ H0.out ho.out ht.out))))
     refine wpQuiet_nil ?_;rintro w1 ⟨xw1,rfl⟩;have hj:=gw_below xw1;generalize gw xw1=w1 at hj;go_wp2;go_ret
     exact⟨ri (by rw[hf.out];rfl),bt (b1 _ _) hj⟩
    ·have hf:Hid (grpE p q=13):=by rw[Hid,HG.out,if_neg (by omega)]
     have hu:=nzE (Nat.pos_of_ne_zero hr);clear hp hq h0 HG hg hh hi hr;have hk:=hB.gcell 0;have hl:=hB.gcell 1;obtain⟨hb,hc,hd,he⟩:=hB.x2;go_enter Tryz.func163,Tryz.ntmps163
     go_wp2_with fail
     refine (rvalidE_c p _ HP.out).mono ?_;rintro e w' ⟨rfl,rfl⟩;go_wp2_with fail
     refine (rvalidE_c q _ HQ.out).mono ?_;rintro e w' ⟨rfl,rfl⟩;go_wp2_with fail
     clear hb hc hd he;go_wp2_with fail
     refine wp_region_gw (by kernel_rfl) (by kernel_rfl) ?_;repeat (go_big_quiet_step (first | (go_at_call 187;exact gw_of (rminus1_c p _ hm.out hn.out)) | (go_at_call 245;exact gw_of (rover_c (p-1) q _ H0.out ho.out ht.out))))
     refine wpQuiet_nil ?_;rintro w1 ⟨xw1,rfl⟩;have hj:=gw_below xw1;generalize gw xw1=w1 at hj;go_wp2;go_ret
     exact⟨ri (by rw[hf.out];rfl),bt (b1 _ _) hj⟩
theorem rpcheckV_c (p q k:Nat) (w:World) (hp:p<256^8) (hq:q<256^128) (hg:grpE p q=k) :
  Calls Tryz.prog 163 #[.agg #[.string (E p),.string (E q)]] w fun e w'=>e=.returned (.int .i64 k)∧Bw w w':=by
 rw[←hg];rcases Nat.eq_zero_or_pos q with rfl | h0
 ·exact rpcheck_0 p w hp
 ·exact rpcheck_q p q w hp hq h0
theorem rhasV_c (p q x:Nat) (b:Bool) (w:World) (hp:p<256^8) (hq:q<256^128) (hg:grpE p q=0) (hx:x<256^128) (h:hasB p q x=b) :
  Calls Tryz.prog 164 #[.agg #[.string (E p),.string (E q)],.string (E x)] w fun e w'=>e=.returned (.bool b)∧Bw w w':=by
 rw[←h];exact rhas_c p q x w hp hq hg hx
theorem rHasV_c (p q x:Nat) (b:Bool) (w:World) (hp:p<256^8) (hq:q<256^128) (hg:grpE p q=0) (hx:x<256^128) (hb:hasB p q x=b) :
  Calls Tryz.prog 151 #[.agg #[.string (E p),.string (E q)],.string (E x)] w fun e w'=>e=.returned (.bool b)∧Bw w w':=by
 have HX:=Kh hx;have HC:=Kh (fun w=>rpcheckV_c p q 0 w hp hq hg);have HH:=Kh (fun w=>rhasV_c p q x b w hp hq hg hx hb);have hB:=Blk.new w #[Value.string (E p),Value.string (E q)] 86;clear hp hx hg hq hb;obtain⟨hc,hd,he,hf⟩:=hB.x2;go_enter Tryz.func151,Tryz.ntmps151
 go_wp2_with fail
 refine (HC.out _).mono ?_;rintro e w1 ⟨rfl,hh⟩;clear hc hd he hf;replace hB:=hB.after hh;obtain⟨hc,hd,he,hf⟩:=hB.x2;go_wp2_with fail
 refine (rvalidE_c x _ HX.out).mono ?_;rintro e w' ⟨rfl,rfl⟩;go_wp2_with fail
 refine (HH.out _).mono ?_;rintro e w2 ⟨rfl,hi⟩;go_wp2;go_ret
 exact⟨rfl,bt (bt (b1 _ _) hh) hi⟩
theorem rraw_c (p q x:Nat) (z:Int) (w:World) (hp:p<256^8) (hg:grpE p q=0) (hx:hasB p q x=true) (hz:z.natAbs<256^128) :
  Calls Tryz.prog 165 #[.agg #[.string (E p),.string (E q)],.string (E x),.agg #[.bool (sg (z)),.string (E (z).natAbs)]] w fun e w'=>e=.returned (.string (E (powI x z p)))∧Bw w w':=by
 have hb:=grp_gt hg;have hc:=Kh (fun w=>rpow3_c x z p w (lt128 (Nat.lt_trans (has_lt hx) hp)) hz (Nl hp (Nat.pow_le_pow_right (show 0<256 by decide) (show 8≤32 by decide))) (by omega) (fun _=>has_coprime hb hx));clear hp hg hx hz hb;go_enter Tryz.func165,Tryz.ntmps165
 go_wp2_with fail
 refine (hc.out _).mono ?_;rintro e w1 ⟨rfl,hd⟩;go_wp2;go_ret
 exact⟨rfl,bt (b2 _ _ _) hd⟩
end Go.Proofs.YtihjpddbjhcbmaaGreatDoor
