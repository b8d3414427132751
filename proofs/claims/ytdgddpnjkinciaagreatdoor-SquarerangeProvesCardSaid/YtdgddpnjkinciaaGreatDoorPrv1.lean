import Derived.Test.YtdgddpnjkinciaaGreatDoorDf1
import Derived.Test.YtdgddpnjkinciaaGreatDoorCo4
import Derived.Test.YtdgddpnjkinciaaGreatDoorWt27
import Derived.Test.YtdgddpnjkinciaaGreatDoorRsp2
set_option linter.all false
set_option maxRecDepth 100000
set_option maxHeartbeats 16000000
namespace Go.Proofs.YtdgddpnjkinciaaGreatDoor
section
open Go.RowKit Go.Shelf
def nmV (p a b:Nat):ByteArray:=decV p++(⟨#[46]⟩:ByteArray)++decV a++(⟨#[46]⟩:ByteArray)++decV b
def blV (seed:ByteArray) (p a:Nat):Nat→ByteArray
 | 0=>⟨#[]⟩
 | m+1=>blV seed p a m++macV seed (nmV p a m)
theorem blV_size (seed:ByteArray) (p a m:Nat):(blV seed p a m).size=32*m:=by
 induction m with
 | zero=>rfl
 | succ m ih=>show (blV seed p a m++macV seed (nmV p a m)).size=_;rw[ByteArray.size_append,ih,macV_size];omega
def attT (seed:ByteArray) (p a n:Nat):ByteArray:=
 canonV ((⟨#[UInt8.ofNat (byt (blV seed p a (((n+7) / 8+31) / 32)) 0%2^(8-(8*((n+7) / 8)-n)))]⟩:ByteArray)++(blV seed p a (((n+7) / 8+31) / 32)).extract 1 ((n+7) / 8))
end
section
/- dominoref15.Holds for numbers. -/
open Go.RowKit Go.Shelf
theorem rcheck6_c (N:NSta) (Z:List Int) (v1 v2 v3 v4:Value) (w:World) (hm:NOk N) (hS:NAt w v1 v2 v3 N) (hZ:ZsAt w v4 Z) (hz:∀z∈Z,z.natAbs<256^128) (hl:Z.length≠N.vars.length) (hw:Z.length≤1000) (hc:N.chk=0) :
  Calls Tryz.prog 24 #[.agg #[v1,v2,v3],v4] w fun e w'=>e=.returned (.int .i64 6)∧Bw w w':=by
 obtain⟨a4,c4,rfl⟩:=hZ.form;obtain⟨nz,hr⟩:∃n,n=Z.length:=⟨_,rfl⟩;have hx:=Kh hr;rw[←hr]at hw hl hZ ⊢;have hy:=Kh hz;have hA:=Kh hc;clear hz hc hr;obtain⟨a1,c1,a2,c2,a3,c3,rfl,rfl,rfl⟩:=hS.forms;obtain⟨n1,hp⟩:∃n,n=N.grps.length:=⟨_,rfl⟩;obtain⟨n2,hn⟩:∃n,n=N.vars.length:=⟨_,rfl⟩;obtain⟨n3,hq⟩:∃n,n=N.eqs.length:=⟨_,rfl⟩;have hF:=Kh hp;have hG:=Kh hn;have hH:=Kh hq;have l1:n1≤10:=by rw[hp];exact hm.ng
 have l2:n2≤12:=by rw[hn];exact hm.nv
 have l3:n3≤12:=by rw[hq];exact hm.ne
 have HM:=Kh hm;rw[←hn]at hl;have hI:((nz:Int) != (n2:Int))=true:=by rw[bne_iff_ne];omega
 rw[←hp,←hn,←hq]at hS ⊢;clear hm hp hn hq hl;obtain⟨hP,hi⟩:=blk1 w #[.slice a1 n1 c1,.slice a2 n2 c2,.slice a3 n3 c3] 43;replace hS:=hS.after hi;replace hZ:=hZ.after (b1 w (.cells #[.slice a1 n1 c1,.slice a2 n2 c2,.slice a3 n3 c3] 43));obtain⟨hb,hd,he,hf,hg,hh⟩:=hP.x3;go_enter Tryz.func24,Tryz.ntmps24
 go_wp2_with fail
 refine (rformed1_c N.s _ _ _ _ true HM.out.ssm hS HM.out.form).mono ?_;rintro e w2 ⟨rfl,ho⟩;clear hb hd he hf hg hh;replace hP:=hP.after ho;replace hS:=hS.after ho;replace hZ:=hZ.after ho;replace hi:=bt hi ho;clear ho;have hu:=hP.lt;go_wp2;go_loopw [5] (fun i wr=>∃k:Nat,k≤nz∧i=.int .i64 k∧Bw w2 wr) (fun i _=>nz-(intOf i).toNat)
 case atStart=>exact⟨0,by omega,rfl,Br⟩
 case round =>
  obtain⟨k,hk,rfl,hj⟩:=hrel;obtain⟨wp,hB⟩:∃wp,wp=wr:=⟨_,rfl⟩;subst hB;replace hP:=hP.after hj;replace hS:=hS.after hj;replace hZ:=hZ.after hj;replace hi:=bt hi hj;clear hu;have hu:=hP.lt;by_cases hlt:k<nz
  ·have ht:k<Z.length:=by rw[←hx.out];exact hlt
   have hv:=Kh (hy.out _ (Gm ht));obtain⟨b,o,rfl,hJ,x1,x2⟩:=hZ.at_ ht;generalize (Z[k]'ht)=z at x1 x2 hv;have hK:(0:Int)≤(k:Int):=by omega
   have hL:(k:Int)<(nz:Int):=by omega
   go_wp2_with fail
   refine (rivalidI_c z _ hv.out).mono ?_;rintro e w3 ⟨rfl,hC⟩;go_wp2;go_roundw
   case rel=>exact⟨k+1,by omega,by go_num,bt hj hC⟩
   case measure=>simp[intOf];omega
  ·clear hj
   have hD:Hid (Calls Tryz.prog 65 #[.agg #[.slice a1 n1 c1,.slice a2 n2 c2,.slice a3 n3 c3]] wp fun e w'=>e=.returned (.int .i64 0)∧Bw wp w'):=by
    have h:=rrest_c N _ _ _ wp HM.out hS;rw[hA.out]at h;exact h
   obtain⟨hb,hd,he,hf,hg,hh⟩:=hP.x3;go_wp2_with fail
   refine hD.out.mono ?_;rintro e w4 ⟨rfl,hb4⟩;clear hb hd he hf hg hh;replace hP:=hP.after hb4;have hE:=hP.lt;obtain⟨hb,hd,he,hf,hg,hh⟩:=hP.x3;go_wp2;go_ret
   exact⟨rfl,bt hi hb4⟩
theorem rinr_c (vb q:Nat) (z:Int) (w:World) (hb:vb<256^128) (hq:q<256^128) (hz:z.natAbs<256^128) :
  Calls Tryz.prog 25 #[.agg #[.string (E vb)],.string (E q),.agg #[.bool (sg (z)),.string (E (z).natAbs)]] w fun e w'=>e=.returned (.bool (blw vb z (if vb=0 then q else vb)))∧Bw w w':=by
 obtain⟨hA,hB,hk⟩:=blk2 w #[.string (E vb)] #[.bool (sg z),.string (E z.natAbs)] 81 28;by_cases hv:vb=0
 ·have HC:Hid (∀w,Calls Tryz.prog 66 #[.string (E z.natAbs),.string (E q)] w fun e w'=>e=.returned (.int .i64 (cmpN z.natAbs q))∧Bw w w'):=fun w=>rcmp_c _ _ w hz hq
  obtain⟨q1,hc⟩:∃q1:Int,q1=cmpN z.natAbs q:=⟨_,rfl⟩;rw[←hc]at HC;have ho:=zE hv;rw[if_pos hv];obtain⟨s,hs⟩:∃s,s=sg z:=⟨_,rfl⟩;have hn:Hid (blw vb z q=(decide (z.natAbs<q)&&!s)):=by rw[Hid,hs,hv,blw];rfl
  rw[hn.out];rw[←hs]at hB hk ⊢;clear hs hv hn;cases s
  ·by_cases hl:z.natAbs<q
   ·have hm:decide (q1<0)=true:=Dt (by rw[hc];exact cmp_neg _ _ hl);have HR:Hid ((decide (z.natAbs<q)&&!false)=true):=by rw[Hid,Dt hl];rfl
    rw[HR.out];clear hc hl hb hq hz HR;obtain⟨hd,he⟩:=hA.x1;obtain⟨hf,hg,hh,hi⟩:=hB.x2;go_enter Tryz.func25,Tryz.ntmps25
    go_wp2_with fail
    refine (HC.out _).mono ?_;rintro e w2 ⟨rfl,hj⟩;go_wp2;go_ret
    exact⟨rfl,bt hk hj⟩
   ·have hm:decide (q1<0)=false:=decide_eq_false (by rw[hc];exact cmp_nneg _ _ (by omega));have HR:Hid ((decide (z.natAbs<q)&&!false)=false):=by rw[Hid,decide_eq_false hl];rfl
    rw[HR.out];clear hc hl hb hq hz HR;obtain⟨hd,he⟩:=hA.x1;obtain⟨hf,hg,hh,hi⟩:=hB.x2;go_enter Tryz.func25,Tryz.ntmps25
    go_wp2_with fail
    refine (HC.out _).mono ?_;rintro e w2 ⟨rfl,hj⟩;go_wp2;go_ret
    exact⟨rfl,bt hk hj⟩
  ·have HR:Hid ((decide (z.natAbs<q)&&!true)=false):=by rw[Hid];simp
   rw[HR.out];clear hc hb hq hz HR HC;obtain⟨hd,he⟩:=hA.x1;obtain⟨hf,hg,hh,hi⟩:=hB.x2;go_enter Tryz.func25,Tryz.ntmps25
   go_wp2;go_ret
   exact⟨rfl,hk⟩
 ·have HC:Hid (∀w,Calls Tryz.prog 66 #[.string (E z.natAbs),.string (E vb)] w fun e w'=>e=.returned (.int .i64 (cmpN z.natAbs vb))∧Bw w w'):=fun w=>rcmp_c _ _ w hz hb
  obtain⟨q1,hc⟩:∃q1:Int,q1=cmpN z.natAbs vb:=⟨_,rfl⟩;rw[←hc]at HC;have ho:=nzE (Nat.pos_of_ne_zero hv);rw[if_neg hv];by_cases hl:z.natAbs<vb
  ·have hm:decide (q1<0)=true:=Dt (by rw[hc];exact cmp_neg _ _ hl);have HR:Hid (blw vb z vb=true):=blw_pos hl (Nat.pos_of_ne_zero hv);rw[HR.out];clear hc hl hb hq hz HR hv;obtain⟨hd,he⟩:=hA.x1;obtain⟨hf,hg,hh,hi⟩:=hB.x2;go_enter Tryz.func25,Tryz.ntmps25
   go_wp2_with fail
   refine (HC.out _).mono ?_;rintro e w2 ⟨rfl,hj⟩;go_wp2;go_ret
   exact⟨rfl,bt hk hj⟩
  ·have hm:decide (q1<0)=false:=decide_eq_false (by rw[hc];exact cmp_nneg _ _ (by omega));have HR:Hid (blw vb z vb=false):=blw_ge (by omega);rw[HR.out];clear hc hl hb hq hz HR hv;obtain⟨hd,he⟩:=hA.x1;obtain⟨hf,hg,hh,hi⟩:=hB.x2;go_enter Tryz.func25,Tryz.ntmps25
   go_wp2_with fail
   refine (HC.out _).mono ?_;rintro e w2 ⟨rfl,hj⟩;go_wp2;go_ret
   exact⟨rfl,bt hk hj⟩
theorem rholds_c (N:NSta) (Z:List Int) (v1 v2 v3 v4:Value) (w:World) (hm:NOk N) (hS:NAt w v1 v2 v3 N) (hZ:ZsAt w v4 Z) (hz:∀z∈Z,z.natAbs<256^64) (Hd:Z.length≤1000) (hc:N.chk=0) :
  Calls Tryz.prog 8 #[.agg #[v1,v2,v3],v4] w fun e w'=>e=.returned (.tuple #[.bool (N.hldB Z),.int .i64 (N.hldE Z:Nat)])∧Bw w w':=by
 by_cases hl:Z.length=N.vars.length
 ·have hC:N.hldE Z=0:=if_neg (fun h=>h hl);rw[hC];clear hC;obtain⟨r,hr⟩:∃r:Bool,r=N.hldB Z:=⟨_,rfl⟩;have hw:=Kh hr;rw[←hr];clear hr;have hA:Hid (∀w',Bw w w'→Calls Tryz.prog 24 #[.agg #[v1,v2,v3],v4] w' fun e w''=>e=.returned (.int .i64 0)∧Bw w' w''):=fun w' hb=>rcheck15_c N Z v1 v2 v3 v4 w' hm (hS.after hb) (hZ.after hb) (fun z h=>lt64 (hz z h)) hl hc
  have He:Hid (∀w',Bw w w'→Calls Tryz.prog 26 #[.agg #[v1,v2,v3]] w' fun e w''=>e=.returned (.string (E N.ord))∧Bw w' w''):=fun w' hb=>rorder15_c N v1 v2 v3 w' hm (hS.after hb)
  have h8:Hid (∀w',Bw w w'→Calls Tryz.prog 27 #[.agg #[v1,v2,v3],v4] w' (LPost w' (N.imgs Z))):=fun w' Ho=>rimages_c N Z v1 v2 v3 v4 w' hm (hS.after Ho) (hZ.after Ho) hz hl hc
  have hD:Hid (N.hldB Z=(ra N.vars.length (inJ N Z)&&decide (N.imgs Z=N.eqs.map (·.tgt)))):=by rw[Hid,NSta.hldB,Dt hl,Bool.true_and]
  have HQ:=Kh (ord_lt hm);have Hp:=Kh hm.v;have Hq:=Kh hz;obtain⟨qo,Hf⟩:∃q,q=N.ord:=⟨_,rfl⟩;have HE:=Kh Hf;rw[←Hf]at He HQ;obtain⟨a4,c4,rfl⟩:=hZ.form;rw[hl]at hZ hA h8 ⊢;have HL:=Kh hl;obtain⟨a1,c1,a2,c2,a3,c3,rfl,rfl,rfl⟩:=hS.forms;obtain⟨n1,Hr⟩:∃n,n=N.grps.length:=⟨_,rfl⟩;obtain⟨n2,hE⟩:∃n,n=N.vars.length:=⟨_,rfl⟩;obtain⟨n3,h9⟩:∃n,n=N.eqs.length:=⟨_,rfl⟩;have Hs:=Kh hE;have Ha:=Kh h9;have l2:n2≤12:=by rw[hE];exact hm.nv
  have l3:n3≤12:=by rw[h9];exact hm.ne
  rw[←Hr,←hE,←h9]at hS hA He h8 ⊢;rw[←hE]at hZ hD;clear hm Hr hE h9 hz hl Hd hc Hf;obtain⟨hP,ht⟩:=blk1 w #[.slice a1 n1 c1,.slice a2 n2 c2,.slice a3 n3 c3] 43;replace hS:=hS.after ht;replace hZ:=hZ.after ht;obtain⟨hF,hG,hH,hI,hJ,hK⟩:=hP.x3;go_enter Tryz.func8,Tryz.ntmps8
  go_wp2_with fail
  refine (hA.out _ ht).mono ?_;rintro e w2 ⟨rfl,hx⟩;clear hF hG hH hI hJ hK;replace hP:=hP.after hx;replace hS:=hS.after hx;replace hZ:=hZ.after hx;replace ht:=bt ht hx;clear hx hA;go_wp2;go_loopw [7] (fun i wr=>∃k:Nat,k≤n2∧i=.int .i64 k∧Hid (ra k (inJ N Z)=true)∧Bw w2 wr) (fun i _=>n2-(intOf i).toNat)
  case atStart=>exact⟨0,by omega,rfl,rfl,Br⟩
  case round =>
   obtain⟨k,hk,rfl,Hg,hy⟩:=hrel;obtain⟨wp,HG⟩:∃wp,wp=wr:=⟨_,rfl⟩;subst HG;have he:=bt ht hy;have hf:=hP.after hy;by_cases hlt:k<n2
   ·have hd:k<N.vars.length:=by rw[←Hs.out];exact hlt
    have hB:k<Z.length:=by rw[HL.out];exact hd
    obtain⟨bv,ov,rfl,Ht,x1⟩:=(hS.after hy).vat hd;obtain⟨bz,oz,rfl,Hh,z1,z2⟩:=(hZ.after hy).at_ hB;have Hu:=Kh (Hq.out _ (Gm hB));have Hv:=Kh (Hp.out _ (Gm hd));have Hi:=Kh (inJ_at N Z k hd hB);rw[←HE.out]at Hi;have Hw:Hid (ra (k+1) (inJ N Z)=inJ N Z k):=by rw[Hid,ra_succ,Hg.out];rfl
    have Hx:Hid (inJ N Z k=false→ra n2 (inJ N Z)=false):=fun h=>by rw[Hs.out];exact ra_false hd h
    have Hj:Hid (∀w',Bw wp w'→Calls Tryz.prog 26 #[.agg #[.slice a1 n1 c1,.slice (some ⟨bv,ov,none⟩) n2 c2,.slice a3 n3 c3]] w' fun e w''=>e=.returned (.string (E qo))∧Bw w' w''):=fun w' hb=>He.out w' (bt he hb)
    have Hb:Hid (∀w,Calls Tryz.prog 25 #[.agg #[.string (E (N.vars[k]'hd))],.string (E qo),.agg #[.bool (sg (Z[k]'hB)),.string (E (Z[k]'hB).natAbs)]] w fun e w'=>e=.returned (.bool (inJ N Z k))∧Bw w w'):=fun w=>by
     rw[Hi.out];exact rinr_c _ _ _ w (Nl Hv.out P8) (lt128 HQ.out) (lt64 Hu.out)
    clear Hi;generalize (N.vars[k]'hd)=vb at x1 Hv Hb;generalize (Z[k]'hB)=lz at z1 z2 Hu Hb;generalize inJ N Z k=bl at Hw Hx Hb;have HH:(0:Int)≤(k:Int):=by omega
    have HI:(k:Int)<(n2:Int):=by omega
    have g1:=gcl (a:=⟨bv,ov+k,none⟩) Ht x1;have g2:=gcl (a:=⟨bz,oz+k*2,none⟩) Hh z1;have g3:=gcl (a:=⟨bz,oz+k*2+1,none⟩) Hh z2;have Hk:=hf.lt;clear x1 z1 z2 Ht Hh;obtain⟨hg,hh,hn,ho,hp,hq⟩:=hf.x3;have hL:=hf.gcell 0;have hM:=hf.gcell 1;have hN:=hf.gcell 2;go_wp2_with fail
    refine wp_region_gw (by kernel_rfl) (by kernel_rfl) ?_;repeat (go_big_quiet_step (first | (go_at_call 26;exact gw_of (Hj.out _ (gw_below _))) | (go_at_call 25;exact gw_of (Hb.out _))))
    refine wpQuiet_nil ?_;rintro w9 ⟨xw9,rfl⟩;have hb9:=gw_below xw9;generalize gw xw9=w9 at hb9;clear hg hh hn ho hp hq;clear hL hM hN;clear g1 g2 g3 Hk;cases bl
    ·have HF:Hid (r=false):=by rw[Hid,hw.out,hD.out,Hx.out rfl];rfl
     go_wp2;go_ret2
     rw[HF.out];exact⟨rfl,bt he hb9⟩
    ·have HX:Hid (ra (k+1) (inJ N Z)=true):=Hw.out;go_wp2;go_roundw
     case rel=>exact⟨k+1,by omega,by go_num,HX,bt hy hb9⟩
     case measure=>simp[intOf];omega
   ·obtain rfl:k=n2:=by omega
    replace hS:=hS.after hy;rw[Hg.out]at hD;clear hP hZ Hg Hq Hp hy;have hO:=Kh (h8.out _ he);have Hy:=hf.lt;obtain⟨hg,hh,hn,ho,hp,hq⟩:=hf.x3;go_wp2_with fail
    refine hO.out.mono ?_;rintro e w8 ⟨iv,rfl,Hz,Hc⟩;clear hg hh hn ho hp hq;replace hf:=hf.after Hc;replace hS:=hS.after Hc;replace he:=bt he Hc;clear Hc Hy h8 hO;have hQ:=Hz.ss;clear Hz;obtain⟨a7,c7,rfl⟩:=RAt.form hQ;have HB:Hid (((N.imgs Z).map E).length=n3):=by rw[Hid,List.length_map,NSta.imgs,List.length_map,Ha.out]
    rw[HB.out]at hQ ⊢;have Hy:=hf.lt;go_wp2;go_loopw [10] (fun i wr=>∃k:Nat,k≤n3∧i=.int .i64 k∧Hid (∀j,j<k→(N.imgs Z)[j]?=(N.eqs.map (·.tgt))[j]?)∧Bw w8 wr) (fun i _=>n3-(intOf i).toNat)
    case atStart=>exact⟨0,by omega,rfl,fun j h=>absurd h (Nat.not_lt_zero _),Br⟩
    case round =>
     obtain⟨j,hj,rfl,HA,hR⟩:=hrel;obtain⟨wu,HJ⟩:∃wp,wp=wr:=⟨_,rfl⟩;subst HJ;have hT:=bt he hR;have hu:=hf.after hR;replace hQ:=SsAt.after hQ hR;by_cases hU:j<n3
     ·have hd:j<N.eqs.length:=by rw[←Ha.out];exact hU
      have HK:j<((N.imgs Z).map E).length:=by rw[HB.out];exact hU
      have HC:=hS.after hR;have Hl:Hid ((N.imgs Z)[j]?=some (imgV N Z (N.eqs[j]'hd))):=by rw[Hid,NSta.imgs,List.getElem?_map,List.getElem?_eq_getElem hd];rfl
      have Hm:Hid ((N.eqs.map (·.tgt))[j]?=some (N.eqs[j]'hd).tgt):=by rw[Hid,List.getElem?_map,List.getElem?_eq_getElem hd];rfl
      obtain⟨b,o,tv,rfl,HM,x1,x2,x3,HN⟩:=NAt.eat HC hd;obtain⟨b7,o7,rfl,Hn,i1'⟩:=SsAt.at_ hQ HK;rw[show ((N.imgs Z).map E)[j]=E (imgV N Z (N.eqs[j]'hd)) by simp[NSta.imgs]]at i1';generalize imgV N Z (N.eqs[j]'hd)=iq at i1' Hl;generalize (N.eqs[j]'hd).tgt=qt at x2 Hm;have HH:(0:Int)≤(j:Int):=by omega
      have HI:(j:Int)<(n3:Int):=by omega
      have g1:=gcl (a:=⟨b7,o7+j,none⟩) Hn i1';have g2:=gcl (a:=⟨b,o+j*3+1,none⟩) HM x2;have HO:=hu.lt;clear HN HC x1 x2 x3 i1';by_cases hv:iq=qt
      ·have h1:=eqT hv;have h2:=eqE hv
       have HX:Hid (∀i,i<j+1→(N.imgs Z)[i]?=(N.eqs.map (·.tgt))[i]?):=fun i hi=>by
        by_cases e:i=j
        ·rw[e,Hl.out,Hm.out,hv]
        ·exact HA.out i (by omega)
       clear hv;obtain⟨hV,hW,hX,hY,h0,h4⟩:=hu.x3;have h5:=hu.gcell 0;have h6:=hu.gcell 1;have h7:=hu.gcell 2;go_wp2_with fail
       refine wp_region_gw (by kernel_rfl) (by kernel_rfl) ?_;repeat (go_big_quiet_step (first | (fail)))
       refine wpQuiet_nil ?_;rintro w9 ⟨xw9,rfl⟩;have hb9:=gw_below xw9;generalize gw xw9=w9 at hb9;go_wp2;go_roundw
       case rel=>exact⟨j+1,by omega,by go_num,HX,bt hR hb9⟩
       case measure=>simp[intOf];omega
      ·have h1:=eqF hv;have h2:=neE hv;have HF:Hid (r=false):=by rw[Hid,hw.out,hD.out,Bool.true_and];exact decide_eq_false (fun e=>hv (by have h3:=Hl.out;rw[e,Hm.out]at h3;exact (Option.some.inj h3).symm))
       clear hv;obtain⟨hV,hW,hX,hY,h0,h4⟩:=hu.x3;have h5:=hu.gcell 0;have h6:=hu.gcell 1;have h7:=hu.gcell 2;go_wp2_with fail
       refine wp_region_gw (by kernel_rfl) (by kernel_rfl) ?_;repeat (go_big_quiet_step (first | (fail)))
       refine wpQuiet_nil ?_;rintro w9 ⟨xw9,rfl⟩;have hb9:=gw_below xw9;generalize gw xw9=w9 at hb9;go_wp2;go_ret2
       rw[HF.out];exact⟨rfl,bt hT hb9⟩
     ·have HF:Hid (r=true):=by
       rw[Hid,hw.out,hD.out,Bool.true_and];refine Dt (List.ext_getElem? fun i=>?_);by_cases hi:i<j
       ·exact HA.out i hi
       ·rw[List.getElem?_eq_none (by rw[NSta.imgs,List.length_map,←Ha.out];omega),List.getElem?_eq_none (by rw[List.length_map,←Ha.out];omega)]
      go_wp2;go_ret2
      rw[HF.out];exact⟨rfl,hT⟩
 ·have hC:N.hldE Z=6:=if_pos hl;have HD:N.hldB Z=false:=by unfold NSta.hldB;rw[decide_eq_false hl];rfl
  rw[hC,HD];clear hC HD;obtain⟨hP,ht⟩:=blk1 w #[v1,v2,v3] 43;have hA:Hid (∀w',Bw w w'→Calls Tryz.prog 24 #[.agg #[v1,v2,v3],v4] w' fun e w''=>e=.returned (.int .i64 6)∧Bw w' w''):=fun w' hb=>rcheck6_c N Z v1 v2 v3 v4 w' hm (hS.after hb) (hZ.after hb) (fun z h=>lt64 (hz z h)) hl Hd hc
  clear hm hS hZ hz hl Hd hc;obtain⟨hF,hG,hH,hI,hJ,hK⟩:=hP.x3;go_enter Tryz.func8,Tryz.ntmps8
  go_wp2_with fail
  refine (hA.out _ ht).mono ?_;rintro e w2 ⟨rfl,hx⟩;go_wp2;go_ret2
  exact⟨rfl,bt ht hx⟩
end
section
open Go.RowKit Go.Shelf
def DWPost (w:World) (vt:Value) (R:Drw) (e:Ending) (w':World):Prop:=∃v u,e=.returned (.tuple #[v,.agg #[u,.string R.tp.seed,.int .i64 R.tp.pos],.int .i64 (R.err:Int)])∧ZOwn w' w.heap.size v R.msk∧SsAt w' u R.tp.vals∧(∀g,g<w.heap.size→FarS vt g→FarS u g)∧Bw w w'
theorem lims1_lt {N:NSta} (hm:NOk N) {C K:Nat} (hC:C<256^16) (hK:K<256^16) {b:Nat} (hb:b∈N.vars):(lim N.ord C K b).1<256^60:=by
 unfold lim;split
 ·exact Nl (ord_lt hm) P8
 ·exact Nl (lt_mul3 hC hK (hm.v b hb)).2 P8
theorem sdraw_c (att:Att) (N:NSta) (C K B:Nat) (T:Tp) (v1 v2 v3 vl vt:Value) (w:World) (Hm:HAtt att T.seed w) (jJ:T.Ok) (hC:C<256^16) (hK:K<256^16) (hm:NOk N) (hS:NAt w v1 v2 v3 N) (hL:LmOwn w B vl (N.lims C K)) (hV:SsAt w vt T.vals) :
  Calls Tryz.prog 36 #[.agg #[v1,v2,v3],vl,.agg #[vt,.string T.seed,.int .i64 T.pos]] w (DWPost w vt (N.drwR att C K T)):=by
 obtain⟨i1,jK,Hu,Hv,Hw⟩:=info_parts info_Int;have jL:=Kh jK;have jM:=Kh Hu;have jN:=Kh Hv;have jO:=Kh Hw;clear jK Hu Hv Hw;have j4:=Kh Hm;have j5:=Kh jJ;have j6:=Kh (fun b hb=>lims1_lt hm hC hK (b:=b) hb);obtain⟨RR,jc⟩:∃r,r=N.drwR att C K T:=⟨_,rfl⟩;have jP:=Kh jc;rw[←jc];clear jc;obtain⟨at_,ct,rfl⟩:=RAt.form hV;obtain⟨nt,jd⟩:∃n,n=T.vals.length:=⟨_,rfl⟩;have Jg:=Kh jd;rw[←jd]at hV ⊢;obtain⟨a6,c6,rfl⟩:=hL.form;have jQ:Hid ((N.lims C K).length=N.vars.length):=by rw[Hid,NSta.lims,List.length_map]
 rw[jQ.out]at hL ⊢;obtain⟨a1,c1,a2,c2,a3,c3,rfl,rfl,rfl⟩:=hS.forms;obtain⟨n1,jR⟩:∃n,n=N.grps.length:=⟨_,rfl⟩;obtain⟨n2,Hx⟩:∃n,n=N.vars.length:=⟨_,rfl⟩;obtain⟨n3,jS⟩:∃n,n=N.eqs.length:=⟨_,rfl⟩;have H1:=Kh Hx;have l2:n2≤12:=by rw[Hx];exact hm.nv
 rw[←jR,←Hx,←jS]at hS ⊢;rw[←Hx]at hL;clear hm jR Hx jS hC hK Hm jJ jd;obtain⟨hP,hT,hR,hJ⟩:=blk3 w #[.slice a1 n1 c1,.slice a2 n2 c2,.slice a3 n3 c3] #[.slice at_ nt ct,.string T.seed,.int .i64 T.pos] #[.slice none 0 0,.string ⟨#[]⟩,.int .i64 0] 43 35 35;obtain⟨gT,jT⟩:∃g,w.heap.size+1=g:=⟨_,rfl⟩;obtain⟨gR,je⟩:∃g,w.heap.size+1+1=g:=⟨_,rfl⟩;have Hy:w.heap.size+2=gR:=je;obtain⟨gS,jU⟩:∃g,w.heap.size=g:=⟨_,rfl⟩;have H2:=Kh jT;have jV:=Kh je;have jf:=Kh Hy;have jg:=Kh jU;have Hz:FarS (.slice at_ nt ct) gT:=ss_far hV (by omega);have HA:FarS (.slice at_ nt ct) gR:=ss_far hV (by omega);have hd:Hid (w.heap.size≤gT∧w.heap.size≤gR∧gS≠gT∧gS≠gR∧gT≠gR):=by rw[Hid];omega
 clear jT je Hy jU;have jh:=SsAt.after hV hJ;obtain⟨ji,jj,jk,jl,jm,jn⟩:=hP.x3;go_enter Tryz.func36,Tryz.ntmps36
 go_wp2;clear ji jj jk jl jm jn;generalize j7:((w.alloc (.cells #[.slice a1 n1 c1,.slice a2 n2 c2,.slice a3 n3 c3] 43)).alloc (.cells #[.slice at_ nt ct,.string T.seed,.int .i64 T.pos] 35)).alloc (.cells #[.slice none 0 0,.string ⟨#[]⟩,.int .i64 0] 35)=w1 at hP hT hR hJ jh ⊢
 have HB:Hid (gS<w1.heap.size∧gT<w1.heap.size∧gR<w1.heap.size):=by
  have h:=hR.lt;have h2:=jf.out;have h3:=H2.out;have h4:=jg.out;rw[Hid];omega
 have HC:Hid (w.heap.size≤w1.heap.size):=hJ.size;clear j7;rw[jf.out]at hR;rw[H2.out]at hT;rw[jg.out]at hP;rw[jV.out,H2.out,jg.out];clear H2 jV jf;replace hP:Blk w1 gS 43 [.slice a1 n1 c1,.slice a2 n2 c2,.slice a3 n3 c3]:=hP;replace hT:Blk w1 gT 35 [.slice at_ nt ct,.string T.seed,.int .i64 T.pos]:=hT;replace hR:Blk w1 gR 35 [.slice none 0 0,.string ⟨#[]⟩,.int .i64 0]:=hR;go_loopw [9,17] (fun v9 i wr=>∃(k:Nat) (uo:Option Addr) (um uc:Nat),k≤n2∧i=.int .i64 k∧Hid (∀j,j<k→(N.drw att C K T j).1=0)∧ZOwn wr w1.heap.size v9 ((N.drwL att C K T).take k)∧Blk wr gS 43 [.slice a1 n1 c1,.slice a2 n2 c2,.slice a3 n3 c3]∧Blk wr gT 35 [.slice uo um uc,.string T.seed,.int .i64 (T.pos+(k:Int))]∧Blk wr gR 35 [.slice none 0 0,.string ⟨#[]⟩,.int .i64 0]∧SsAt wr (.slice uo um uc) T.vals∧FarS (.slice uo um uc) gT∧FarS (.slice uo um uc) gR∧(∀g,g<w.heap.size→FarS (.slice at_ nt ct) g→FarS (.slice uo um uc) g)∧Hid (w1.heap.size≤wr.heap.size)∧Bw w wr) (fun _ i _=>n2-(intOf i).toNat)
 case atStart=>exact⟨0,at_,nt,ct,by omega,rfl,fun j h=>absurd h (Nat.not_lt_zero _),World.ownsRow_nil _ _ _ _,hP,by rw[show T.pos+((0:Nat):Int)=T.pos by omega];exact hT,hR,jh,Hz,HA,fun g _ h=>h,Nat.le_refl _,hJ⟩
 case round =>
  clear hP hT hR jh Hz HA hJ;obtain⟨k,uo,um,uc,hk,rfl,H3,hO,hP,hT,hR,hU,Hn,hM,hX,hZ,HD⟩:=hrel;obtain⟨wp,j8⟩:∃wp,wp=wr:=⟨_,rfl⟩;subst j8;have j9:=Kh hX;clear hX;by_cases hlt:k<n2
  ·have hY:k<N.vars.length:=by rw[←H1.out];exact hlt
   have jW:k<(N.lims C K).length:=by rw[jQ.out];exact hY
   have H4:=Kh (drw_step N att C K T k hY);have h0:=Kh (drw_at N att C K T k hY);obtain⟨bv,ov,rfl,Ja,x1⟩:=(hS.after HD).vat hY;obtain⟨bu,rfl,jo,u1,u2⟩:=(hL.after HD).at_ jW;rw[lims_at N C K k hY jW]at u1 u2;have h5:=Kh (j6.out _ (Gm hY));have h6:Hid ((N.drw att C K T k).1≠0→RR=⟨(N.drw att C K T k).1,[],Tp.nil⟩):=fun h=>jP.out.trans (drw_bad hY H3.out h)
   have h7:Hid ((N.drw att C K T k).1=0→∀j,j<k+1→(N.drw att C K T j).1=0):=fun h j hj=>by
    by_cases e:j=k
    ·rw[e];exact h
    ·exact H3.out j (by omega)
   clear H3;generalize N.drw att C K T k=dk at h0 h6 h7 H4;generalize (N.vars[k]'hY)=vb at x1 u1 u2 h5 h0;generalize (lim N.ord C K vb).2=lb at u2;have H5:Hid (((N.drwL att C K T).take k).length=k):=by rw[Hid,List.length_take,NSta.drwL,List.length_map,List.length_range];omega
   generalize (N.drwL att C K T).take k=LI at hO H4 H5;replace hO:wp.ownsRow w1.heap.size 28 2 u9 k (ics (LI.map zI)):=by have h:wp.ownsRow _ _ _ _ _ _:=hO;rw[H5.out]at h;exact h
   have Jh:(0:Int)≤(k:Int):=by omega
   have Ji:(k:Int)<(n2:Int):=by omega
   obtain⟨Tk,Ho⟩:∃t,t=T.on k:=⟨_,rfl⟩;have HE:Hid (Tk.vals=T.vals∧Tk.seed=T.seed∧Tk.pos=T.pos+(k:Int)):=by rw[Hid,Ho];exact⟨rfl,rfl,rfl⟩
   have jX:Hid (Tk.after 0=T.on (k+1)):=by rw[Hid,Ho];exact Tp.on_on T k 1
   have H6:Hid (Tk.Ok):=by rw[Hid,Ho];exact j5.out.on k
   have H7:Hid (HAtt att Tk.seed w):=by rw[Hid,Ho];exact j4.out
   rw[←Ho]at h0;clear Ho;rw[←HE.out.1]at hU;have jY:=Kh HE.out.2;rw[←jY.out.1,←jY.out.2]at hT;clear HE;have jZ:Hid (∀w,Calls Tryz.prog 72 #[.agg #[.string (E vb)]] w fun e w'=>e=.returned (.int .i64 (kdN vb:Nat))∧Bw w w'):=fun w=>kindV_c vb _ w rfl
   obtain⟨j0,j1,j2⟩:=blk2 wp #[.string (E vb)] #[.bool false,.string { data:=#[] }] 81 28;obtain⟨gv,j3⟩:∃g,wp.heap.size=g:=⟨_,rfl⟩;obtain⟨gB,Hp⟩:∃g,wp.heap.size+1=g:=⟨_,rfl⟩;have HF:Hid (w1.heap.size≤gB∧wp.heap.size<gB+1∧wp.heap.size+1=gB):=by have:=hZ.out;rw[Hid];omega
   have Jj:=Kh j3;clear j3 Hp;obtain⟨HG,HH⟩:=j0.x1;go_wp2_with fail
   refine (jZ.out _).mono ?_;rintro e w2 ⟨rfl,jp⟩;clear HG HH;have ho:=bt j2 jp;have hN:=j1.after jp;have H8:=own_after hO ho;have H9:=hP.after ho;have Hq:=hT.after ho;have Hr:=hR.after ho;have ja:=SsAt.after hU ho;have uu1:=(ho.cell (p:=⟨bu,k*2,none⟩) jo).trans u1;have ku:=Nl jo ho.size;have hf:=bt HD ho;rw[HF.out.2.2]at hN ⊢
   have hl:Hid (gS≠gB∧gT≠gB∧gR≠gB):=by
    have h1:=HB.out;have h2:=HF.out.1;rw[Hid];omega
   have hh:Hid (u9.ownBlock≠some gB∧u9.ownBlock≠some gT∧u9.ownBlock≠some gR∧∀g,u9.ownBlock=some g→g<w2.heap.size):=by
    have h1:=HB.out;have h2:=HF.out;have h3:=ho.size;refine⟨fun e=>?_,fun e=>?_,fun e=>?_,fun g e=>?_⟩ <;> have h4:=own_lt hO e <;> omega
   have jb:Hid (w1.heap.size≤w2.heap.size):=Nat.le_trans hZ.out ho.size;clear x1 u1 u2 Ja jo hO j0 j2 jp ho jZ hP hT hR hU HD hZ j1;obtain⟨wv,Jb⟩:∃wx,wx=w2:=⟨_,rfl⟩;subst Jb;replace hN:Blk wv gB 28 [.bool false,.string { data:=#[] }]:=hN;by_cases Hs:vb=0
   ·have HI:Hid (kdN vb=0):=by rw[Hs];rfl
    rw[HI.out];have hQ:Hid (dk=((coin att Tk (lim N.ord C K vb).1).1,((coin att Tk (lim N.ord C K vb).1).2:Int))):=by rw[Hid,h0.out,drwJ,if_pos Hs]
    generalize (lim N.ord C K vb).1=mk at uu1 hQ h5;have h8:Hid (∀w',Bw wv w'→Calls Tryz.prog 51 #[.agg #[.slice uo um uc,.string Tk.seed,.int .i64 Tk.pos],.string (E mk)] w' (CPost w' Tk (coin att Tk mk))):=fun w' hb=>cbelow_c att Tk _ mk w' (H7.out.after (bt hf hb)) H6.out (Nl h5.out P8) (SsAt.after ja hb)
    generalize coin att Tk mk=rc at h8 hQ;obtain⟨ke,xe⟩:=rc;have HZ:Hid (dk.1=ke∧zI dk.2=(false,E xe)):=by rw[Hid,hQ.out];exact⟨rfl,by simp[zI,sg_nat]⟩
    clear Hs h0 hQ HI h5 H7 H6;obtain⟨T1,HJ⟩:∃t,t=Tk.after ke:=⟨_,rfl⟩;have hW:=Kh HJ;clear HJ;have HK:=H9.drew;have h9:=Hq.drew;have HL:=Hr.drew;have Ha:=hN.drew;have HM:wv.drew.ownsRow w1.heap.size 28 2 u9 k (ics (LI.map zI)):=World.ownsRow.drew H8;have hi:=hf.drew;have uu0:wv.drew.cell? ⟨bu,k*2,none⟩=some (.string (E mk)):=uu1;have ku0:bu<wv.drew.heap.size:=ku;have Ht:gT<wv.drew.heap.size:=Hq.lt;have Hb:gB<wv.drew.heap.size:=hN.lt;have HN:Hid (gR<wv.drew.heap.size):=Hr.lt;have hp:Hid (w1.heap.size≤wv.drew.heap.size):=jb.out;have HO:Hid (Bw wv wv.drew):=Below.drew Br;have e1:¬ gT=gB:=hl.out.2.1;have e2:¬ gB=gT:=fun e=>hl.out.2.1 e.symm
    clear H9 Hq Hr hN H8 hf uu1 ku jb ja;obtain⟨hq,hr,ht,hu,hv,hw⟩:=h9.x3;obtain⟨hy,hz,hA,hD⟩:=Ha.x2;go_wp2_with fail
    go_cut [13] (fun s13 wx=>s13=.int .i64 (ke:Int)∧∃(uo:Option Addr) (um uc:Nat),Blk wx gT 35 [.slice uo um uc,.string T1.seed,.int .i64 T1.pos]∧Blk wx gB 28 [.bool false,.string (E xe)]∧Blk wx gS 43 [.slice a1 n1 c1,.slice (some ⟨bv,ov,none⟩) n2 c2,.slice a3 n3 c3]∧Blk wx gR 35 [.slice none 0 0,.string ⟨#[]⟩,.int .i64 0]∧SsAt wx (.slice uo um uc) T1.vals∧FarS (.slice uo um uc) gT∧FarS (.slice uo um uc) gR∧(∀g,g<w.heap.size→FarS (.slice uo um uc) g)∧(∀g,u9.ownBlock=some g→FarS (.slice uo um uc) g)∧wx.ownsRow w1.heap.size 28 2 u9 k (ics (LI.map zI))∧Bw w wx∧Hid (w1.heap.size≤wx.heap.size))
    case first =>
     go_region_with (go_at_call 51;(with_reducible refine (h8.out _ HO.out).mono ?_);rintro e wd ⟨t,rfl,⟨u,rfl,HP⟩,hE,hbd⟩;obtain⟨xo,xc,rfl⟩:=RAt.form HP;have he:=h9.after hbd;have hn:=Ha.after hbd;have jq:=HL.after hbd;have jr:=HK.after hbd;have js:=own_after HM hbd;have hJ:=bt hi hbd;have jt:=he.cell 0;have ju:=he.cell 1;have jv:=he.cell 2;have HQ:=he.free 0;have HR:=he.free 1;have HS:=he.free 2;have jw:=hn.cell 0;have jx:=hn.cell 1;have Hc:=hn.free 0;have Hd:=hn.free 1;have jy:=he.lt;have jz:=hn.lt)
     all_goals
      go_wp2_with fail
      go_meet
      have fT:=hE.far Ht;have fB:=hE.far Hb;have Hp:w.heap.size≤gB:=Nat.le_trans HC.out HF.out.1;rw[hW.out];exact⟨rfl,xo,_,xc,(((he.other _ _ hl.out.2.1).set 0 _).set 1 _).set 2 _,(((hn.set 1 _).other _ _ e2).other _ _ e2).other _ _ e2,(((jr.other _ _ hl.out.1).other _ _ hd.out.2.2.1).other _ _ hd.out.2.2.1).other _ _ hd.out.2.2.1,(((jq.other _ _ hl.out.2.2).other _ _ hd.out.2.2.2.2.symm).other _ _ hd.out.2.2.2.2.symm).other _ _ hd.out.2.2.2.2.symm,(((HP.set_far fB).set_far fT).set_far fT).set_far fT,fT,hE.far HN.out,fun g hg=>hE.far (Nl hg hi.size),fun g hg=>hE.far (hh.out.2.2.2 g hg),own_set (own_set (own_set (own_set js hh.out.1) hh.out.2.1) hh.out.2.1) hh.out.2.1,(((hJ.setCell Hp _).setCell hd.out.1 _).setCell hd.out.1 _).setCell hd.out.1 _,by have h:=Nat.le_trans hp.out hbd.size;simpa [Hid] using h⟩
    case rest =>
    clear HK h9 HL Ha HM hi uu0 ku0 Ht Hb HN hp HO e1 e2 h8 hq hr ht hu hv hw hy hz hA hD;obtain⟨rfl,xo,xm,xc,hT,hB,hP,hR,hU,Hn,hM,hX,HT,hO,hf,hZ⟩:=hcut;have He:=Kh hX;clear hX;obtain⟨wy,jA⟩:∃wy,wy=wc:=⟨_,rfl⟩;subst jA;by_cases Hf:ke=0
    ·subst Hf;have Hg:=Kh (h7.out HZ.out.1);clear h7 h6;rw[jX.out]at hW;have Hh:Hid (T1.vals=T.vals∧T1.seed=T.seed∧T1.pos=T.pos+((k+1:Nat):Int)):=by rw[Hid,hW.out];exact⟨rfl,rfl,rfl⟩
     rw[Hh.out.1]at hU;have Hi:=Kh Hh.out.2;rw[Hi.out.1,Hi.out.2]at hT;clear Hh hW Hi;have Hb:=hB.lt;have Hj:=hZ.out;obtain⟨jB,Hc,jC,Hd⟩:=hB.x2;go_wp2_with (at_builtin;refine wpList_append_lies _ rfl (.tmp 52) (.tmp 54) _ rfl w1.heap.size 28 i1 _ 2 24 Tryz.underlying44 jL.out jM.out jN.out jO.out rfl (by omega) u9 k (ics (LI.map zI)) rfl (own_after hO (b1 _ (.cells #[.bool false,.string (E xe)] 28))) ⟨(wy).heap.size,0,none⟩ 1 1 [.bool false,.string (E xe)] rfl rfl (Blk.new (wy) #[.bool false,.string (E xe)] 28).cells (by simp[Value.oneCell']) (by omega) (by simp only[maxLen];omega) (by omega) (by rw[World.size_alloc];omega) ((wy).heap.size+1) (by simp) ?_;intro ga ca' wz hF hc Hm Hk)
     have HU:ZOwn wz w1.heap.size (.slice (some ⟨ga,0,none⟩) (k+1) ca') (LI++[dk.2]):=by
      rw[ZOwn,List.length_append,H5.out,←ics_app];have h:ics [zI dk.2]=[.bool false,.string (E xe)]:=by rw[HZ.out.2];rfl
      rw[List.map_cons,List.map_nil,h];exact hF
     rw[←H4.out]at HU;have jD:=(ba hf (.cells #[.bool false,.string (E xe)] 28)).grown hc (by have:=hf.size;rw[World.size_alloc];omega) (fun x hx=>Nat.le_trans HC.out (own_lt hO hx).2);have jE:=Blk.grown (hT.alloc (.cells #[.bool false,.string (E xe)] 28)) hc hh.out.2.1;have jF:=Blk.grown (hR.alloc (.cells #[.bool false,.string (E xe)] 28)) hc hh.out.2.2.1;have jG:=Blk.grown (hP.alloc (.cells #[.bool false,.string (E xe)] 28)) hc (fun e=>by have h1:=(own_lt hO e).2;have h2:=HB.out;omega);have jH:=SsAt.grown (SsAt.after hU (b1 wy (.cells #[.bool false,.string (E xe)] 28))) hc HT;have Hl:w1.heap.size≤wz.heap.size:=by have h:=hc.size;rw[World.size_alloc]at h;omega
     clear hF hc Hm Hk hO hB hf hT hR hP hU Hj;go_wp2;go_roundw
     case rel=>exact⟨k+1,xo,xm,xc,by omega,by go_num,Hg.out,HU,jG,jE,jF,jH,Hn,hM,fun g hg _=>He.out g hg,Hl,jD⟩
     case measure=>simp[intOf];omega
    ·have Jc:((ke:Int) != 0)=true:=by rw[bne_iff_ne];omega
     have HX:=Kh (h6.out (by rw[HZ.out.1];exact Hf));rw[HZ.out.1]at HX;clear Hf h6 h7 hT hB hP hU Hn hM HT hO;have HV:=hR.lt;obtain⟨hG,HW,hH,HY,hI,H0⟩:=hR.x3;go_wp2;refine bodyPost_ret (v:=.tuple #[.slice none 0 0,.agg #[.slice none 0 0,.string ⟨#[]⟩,.int .i64 0],.int .i64 (ke:Int)]) ?_ rfl ?_
     ·simp[results,Tryz.results36,go_sem,hG,hH,hI,HV]
     ·rw[HX.out];exact⟨_,_,rfl,World.ownsRow_nil _ _ _ _,ss_nil _,(fun g _ _ b o n c e _=>by cases e),((hf.setCell hd.out.2.1 _).setCell hd.out.2.1 _).setCell hd.out.2.1 _⟩
   ·have HI:Hid (kdN vb=1):=by unfold Hid kdN;rw[if_neg Hs]
    rw[HI.out];have hQ:Hid (dk=csgn att Tk (lim N.ord C K vb).1):=by rw[Hid,h0.out,drwJ,if_neg Hs]
    generalize (lim N.ord C K vb).1=mk at uu1 hQ h5;have h8:Hid (∀w',Bw wv w'→Calls Tryz.prog 80 #[.agg #[.slice uo um uc,.string Tk.seed,.int .i64 Tk.pos],.string (E mk)] w' (SCPost w' Tk (csgn att Tk mk))):=fun w' hb=>csigned_c att Tk _ mk w' (H7.out.after (bt hf hb)) H6.out h5.out (SsAt.after ja hb)
    generalize csgn att Tk mk=rc at h8 hQ;obtain⟨ke,xe⟩:=rc;have HZ:Hid (dk.1=ke∧zI dk.2=(sg xe,E xe.natAbs)):=by rw[Hid,hQ.out];exact⟨rfl,rfl⟩
    clear Hs h0 hQ HI h5 H7 H6;obtain⟨T1,HJ⟩:∃t,t=Tk.after ke:=⟨_,rfl⟩;have hW:=Kh HJ;clear HJ;have HK:=H9.drew;have h9:=Hq.drew;have HL:=Hr.drew;have Ha:=hN.drew;have HM:wv.drew.ownsRow w1.heap.size 28 2 u9 k (ics (LI.map zI)):=World.ownsRow.drew H8;have hi:=hf.drew;have uu0:wv.drew.cell? ⟨bu,k*2,none⟩=some (.string (E mk)):=uu1;have ku0:bu<wv.drew.heap.size:=ku;have Ht:gT<wv.drew.heap.size:=Hq.lt;have Hb:gB<wv.drew.heap.size:=hN.lt;have HN:Hid (gR<wv.drew.heap.size):=Hr.lt;have hp:Hid (w1.heap.size≤wv.drew.heap.size):=jb.out;have HO:Hid (Bw wv wv.drew):=Below.drew Br;have e1:¬ gT=gB:=hl.out.2.1;have e2:¬ gB=gT:=fun e=>hl.out.2.1 e.symm
    clear H9 Hq Hr hN H8 hf uu1 ku jb ja;obtain⟨hq,hr,ht,hu,hv,hw⟩:=h9.x3;obtain⟨hy,hz,hA,hD⟩:=Ha.x2;go_wp2_with fail
    go_cut [13] (fun s13 wx=>s13=.int .i64 (ke:Int)∧∃(uo:Option Addr) (um uc:Nat),Blk wx gT 35 [.slice uo um uc,.string T1.seed,.int .i64 T1.pos]∧Blk wx gB 28 [.bool (sg xe),.string (E xe.natAbs)]∧Blk wx gS 43 [.slice a1 n1 c1,.slice (some ⟨bv,ov,none⟩) n2 c2,.slice a3 n3 c3]∧Blk wx gR 35 [.slice none 0 0,.string ⟨#[]⟩,.int .i64 0]∧SsAt wx (.slice uo um uc) T1.vals∧FarS (.slice uo um uc) gT∧FarS (.slice uo um uc) gR∧(∀g,g<w.heap.size→FarS (.slice uo um uc) g)∧(∀g,u9.ownBlock=some g→FarS (.slice uo um uc) g)∧wx.ownsRow w1.heap.size 28 2 u9 k (ics (LI.map zI))∧Bw w wx∧Hid (w1.heap.size≤wx.heap.size))
    case first =>
     go_region_with (go_at_call 80;(with_reducible refine (h8.out _ HO.out).mono ?_);rintro e wd ⟨t,rfl,⟨u,rfl,HP⟩,hE,hbd⟩;obtain⟨xo,xc,rfl⟩:=RAt.form HP;have he:=h9.after hbd;have hn:=Ha.after hbd;have jq:=HL.after hbd;have jr:=HK.after hbd;have js:=own_after HM hbd;have hJ:=bt hi hbd;have jt:=he.cell 0;have ju:=he.cell 1;have jv:=he.cell 2;have HQ:=he.free 0;have HR:=he.free 1;have HS:=he.free 2;have jw:=hn.cell 0;have jx:=hn.cell 1;have Hc:=hn.free 0;have Hd:=hn.free 1;have jy:=he.lt;have jz:=hn.lt)
     all_goals
      go_wp2_with fail
      go_meet
      have fT:=hE.far Ht;have fB:=hE.far Hb;have Hp:w.heap.size≤gB:=Nat.le_trans HC.out HF.out.1;rw[hW.out];exact⟨rfl,xo,_,xc,((((he.other _ _ hl.out.2.1).other _ _ hl.out.2.1).set 0 _).set 1 _).set 2 _,((((hn.set 0 _).set 1 _).other _ _ e2).other _ _ e2).other _ _ e2,((((jr.other _ _ hl.out.1).other _ _ hl.out.1).other _ _ hd.out.2.2.1).other _ _ hd.out.2.2.1).other _ _ hd.out.2.2.1,((((jq.other _ _ hl.out.2.2).other _ _ hl.out.2.2).other _ _ hd.out.2.2.2.2.symm).other _ _ hd.out.2.2.2.2.symm).other _ _ hd.out.2.2.2.2.symm,((((HP.set_far fB).set_far fB).set_far fT).set_far fT).set_far fT,fT,hE.far HN.out,fun g hg=>hE.far (Nl hg hi.size),fun g hg=>hE.far (hh.out.2.2.2 g hg),own_set (own_set (own_set (own_set (own_set js hh.out.1) hh.out.1) hh.out.2.1) hh.out.2.1) hh.out.2.1,((((hJ.setCell Hp _).setCell Hp _).setCell hd.out.1 _).setCell hd.out.1 _).setCell hd.out.1 _,by have h:=Nat.le_trans hp.out hbd.size;simpa [Hid] using h⟩
    case rest =>
    clear HK h9 HL Ha HM hi uu0 ku0 Ht Hb HN hp HO e1 e2 h8 hq hr ht hu hv hw hy hz hA hD;obtain⟨rfl,xo,xm,xc,hT,hB,hP,hR,hU,Hn,hM,hX,HT,hO,hf,hZ⟩:=hcut;have He:=Kh hX;clear hX;obtain⟨wy,jA⟩:∃wy,wy=wc:=⟨_,rfl⟩;subst jA;by_cases Hf:ke=0
    ·subst Hf;have Hg:=Kh (h7.out HZ.out.1);clear h7 h6;rw[jX.out]at hW;have Hh:Hid (T1.vals=T.vals∧T1.seed=T.seed∧T1.pos=T.pos+((k+1:Nat):Int)):=by rw[Hid,hW.out];exact⟨rfl,rfl,rfl⟩
     rw[Hh.out.1]at hU;have Hi:=Kh Hh.out.2;rw[Hi.out.1,Hi.out.2]at hT;clear Hh hW Hi;have Hb:=hB.lt;have Hj:=hZ.out;obtain⟨jB,Hc,jC,Hd⟩:=hB.x2;go_wp2_with (at_builtin;refine wpList_append_lies _ rfl (.tmp 52) (.tmp 54) _ rfl w1.heap.size 28 i1 _ 2 24 Tryz.underlying44 jL.out jM.out jN.out jO.out rfl (by omega) u9 k (ics (LI.map zI)) rfl (own_after hO (b1 _ (.cells #[.bool (sg xe),.string (E xe.natAbs)] 28))) ⟨(wy).heap.size,0,none⟩ 1 1 [.bool (sg xe),.string (E xe.natAbs)] rfl rfl (Blk.new (wy) #[.bool (sg xe),.string (E xe.natAbs)] 28).cells (by simp[Value.oneCell']) (by omega) (by simp only[maxLen];omega) (by omega) (by rw[World.size_alloc];omega) ((wy).heap.size+1) (by simp) ?_;intro ga ca' wz hF hc Hm Hk)
     have HU:ZOwn wz w1.heap.size (.slice (some ⟨ga,0,none⟩) (k+1) ca') (LI++[dk.2]):=by
      rw[ZOwn,List.length_append,H5.out,←ics_app];have h:ics [zI dk.2]=[.bool (sg xe),.string (E xe.natAbs)]:=by rw[HZ.out.2];rfl
      rw[List.map_cons,List.map_nil,h];exact hF
     rw[←H4.out]at HU;have jD:=(ba hf (.cells #[.bool (sg xe),.string (E xe.natAbs)] 28)).grown hc (by have:=hf.size;rw[World.size_alloc];omega) (fun x hx=>Nat.le_trans HC.out (own_lt hO hx).2);have jE:=Blk.grown (hT.alloc (.cells #[.bool (sg xe),.string (E xe.natAbs)] 28)) hc hh.out.2.1;have jF:=Blk.grown (hR.alloc (.cells #[.bool (sg xe),.string (E xe.natAbs)] 28)) hc hh.out.2.2.1;have jG:=Blk.grown (hP.alloc (.cells #[.bool (sg xe),.string (E xe.natAbs)] 28)) hc (fun e=>by have h1:=(own_lt hO e).2;have h2:=HB.out;omega);have jH:=SsAt.grown (SsAt.after hU (b1 wy (.cells #[.bool (sg xe),.string (E xe.natAbs)] 28))) hc HT;have Hl:w1.heap.size≤wz.heap.size:=by have h:=hc.size;rw[World.size_alloc]at h;omega
     clear hF hc Hm Hk hO hB hf hT hR hP hU Hj;go_wp2;go_roundw
     case rel=>exact⟨k+1,xo,xm,xc,by omega,by go_num,Hg.out,HU,jG,jE,jF,jH,Hn,hM,fun g hg _=>He.out g hg,Hl,jD⟩
     case measure=>simp[intOf];omega
    ·have Jc:((ke:Int) != 0)=true:=by rw[bne_iff_ne];omega
     have HX:=Kh (h6.out (by rw[HZ.out.1];exact Hf));rw[HZ.out.1]at HX;clear Hf h6 h7 hT hB hP hU Hn hM HT hO;have HV:=hR.lt;obtain⟨hG,HW,hH,HY,hI,H0⟩:=hR.x3;go_wp2;refine bodyPost_ret (v:=.tuple #[.slice none 0 0,.agg #[.slice none 0 0,.string ⟨#[]⟩,.int .i64 0],.int .i64 (ke:Int)]) ?_ rfl ?_
     ·simp[results,Tryz.results36,go_sem,hG,hH,hI,HV]
     ·rw[HX.out];exact⟨_,_,rfl,World.ownsRow_nil _ _ _ _,ss_nil _,(fun g _ _ b o n c e _=>by cases e),((hf.setCell hd.out.2.1 _).setCell hd.out.2.1 _).setCell hd.out.2.1 _⟩
  ·obtain rfl:n2=k:=by omega
   have HE:Hid ((N.drwL att C K T).take n2=N.drwL att C K T):=List.take_of_length_le (by rw[NSta.drwL,List.length_map,List.length_range,←H1.out];exact Nat.le_refl _);have HX:Hid (RR=⟨0,N.drwL att C K T,T.on n2⟩):=by rw[Hid,jP.out,drw_ok (fun j hj=>H3.out j (by rw[H1.out];exact hj)),H1.out]
   rw[HE.out]at hO;have Ht:=hT.lt;have HV:=hR.lt;have n1':¬ gT=gR:=hd.out.2.2.2.2;obtain⟨Jd,HQ,Je,HR,Jf,HS⟩:=hT.x3;obtain⟨hG,HW,hH,HY,hI,H0⟩:=hR.x3;go_wp2_with fail
   go_region;go_wp2;refine bodyPost_ret (v:=.tuple #[u9,.agg #[.slice uo um uc,.string T.seed,.int .i64 (T.pos+(n2:Int))],.int .i64 0]) ?_ rfl ?_
   ·simp[results,Tryz.results36,go_sem,hG,hH,hI,HV]
   ·rw[HX.out];have jI:u9.ownBlock≠some gR:=fun e=>by have h1:=(own_lt hO e).2;have h2:=HB.out;omega
    exact⟨_,_,rfl,own_mono (World.ownsRow.drew (own_set (own_set (own_set hO jI) jI) jI)) HC.out,SsAt.after (((hU.set_far hM).set_far hM).set_far hM) (Below.drew Br),j9.out,(((HD.setCell hd.out.2.1 _).setCell hd.out.2.1 _).setCell hd.out.2.1 _).drew⟩
end
section
/- dominoref27.Witness. -/
open Go.RowKit Go.Shelf
end
section
open Go.RowKit Go.Shelf
end
section
open Go.RowKit Go.Shelf
def NSta.prvR (N:NSta) (att:Att) (C K c:Nat) (W:List Int) (T:Tp):Drw:=
 if W.length≠N.vars.length then ⟨6,[],Tp.nil⟩ else if C≤c then ⟨2,[],Tp.nil⟩ else if ra N.vars.length (inJ N W)=false then ⟨2,[],Tp.nil⟩
 else if N.hldB W=false then ⟨18,[],Tp.nil⟩ else N.prv att C K c W 64 T
def NSta.fstR (N:NSta) (R:Drw):List Nat:=if R.err=0 then N.imgs R.msk else []
def NSta.rspO (N:NSta) (c:Nat) (W:List Int) (R:Drw):List Int:=if R.err=0 then N.rspL c W R.msk else []
def PPost (w:World) (c:ByteArray) (R:Drw) (F:List Nat) (Y:List Int) (e:Ending) (w':World):Prop:=∃fv rv u ch,e=.returned (.tuple #[.agg #[fv,.string ch,rv],.agg #[u,.string R.tp.seed,.int .i64 R.tp.pos],.int .i64 (R.err:Int)]) ∧
 (ch=if R.err=0 then c else ⟨#[]⟩)∧NOwn w' w.heap.size fv F∧ZOwn w' w.heap.size rv Y∧SsAt w' u R.tp.vals∧Bw w w'
theorem ppost_err {w w':World} {c:ByteArray} {k:Nat} {F:List Nat} {Y:List Int} (hk:k≠0) (hF:F=[]) (hY:Y=[]) (h:Bw w w') :
  PPost w c ⟨k,[],Tp.nil⟩ F Y (.returned (.tuple #[.agg #[.slice none 0 0,.string ⟨#[]⟩,.slice none 0 0],.agg #[.slice none 0 0,.string ⟨#[]⟩,.int .i64 0],.int .i64 (k:Int)])) w':=
 ⟨_,_,_,_,rfl,by rw[if_neg hk],by rw[hF];exact World.ownsRow_nil _ _ _ _,by rw[hY];exact World.ownsRow_nil _ _ _ _,ss_nil _,h⟩
theorem prv_a {N:NSta} {att:Att} {C K c:Nat} {W:List Int} {T:Tp} (h:W.length≠N.vars.length):N.prvR att C K c W T=⟨6,[],Tp.nil⟩:=by unfold NSta.prvR;rw[if_pos h]
theorem prv_b {N:NSta} {att:Att} {C K c:Nat} {W:List Int} {T:Tp} (h:W.length=N.vars.length) (h1:C≤c):N.prvR att C K c W T=⟨2,[],Tp.nil⟩:=by unfold NSta.prvR;rw[if_neg (by omega),if_pos h1]
theorem prv_c {N:NSta} {att:Att} {C K c:Nat} {W:List Int} {T:Tp} (h:W.length=N.vars.length) (h1:c<C) (h2:ra N.vars.length (inJ N W)=false):N.prvR att C K c W T=⟨2,[],Tp.nil⟩:=by unfold NSta.prvR;rw[if_neg (by omega),if_neg (by omega),if_pos h2]
theorem prv_d {N:NSta} {att:Att} {C K c:Nat} {W:List Int} {T:Tp} (h:W.length=N.vars.length) (h1:c<C) (h2:ra N.vars.length (inJ N W)=true) (h3:N.hldB W=false):N.prvR att C K c W T=⟨18,[],Tp.nil⟩:=by
 unfold NSta.prvR;rw[if_neg (by omega),if_neg (by omega),if_neg (by rw[h2];decide),if_pos h3]
theorem prv_e {N:NSta} {att:Att} {C K c:Nat} {W:List Int} {T:Tp} (h:W.length=N.vars.length) (h1:c<C) (h2:ra N.vars.length (inJ N W)=true) (h3:N.hldB W=true):N.prvR att C K c W T=N.prv att C K c W 64 T:=by
 unfold NSta.prvR;rw[if_neg (by omega),if_neg (by omega),if_neg (by rw[h2];decide),if_neg (by rw[h3];decide)]
theorem prv_err {N:NSta} {att:Att} {C K c f:Nat} {W:List Int} {T:Tp} (h:(N.drwR att C K T).err≠0):N.prv att C K c W (f+1) T=⟨(N.drwR att C K T).err,[],Tp.nil⟩:=by
 rw[NSta.prv,if_pos h]
theorem prv_done {N:NSta} {att:Att} {C K c f:Nat} {W:List Int} {T:Tp} (h:(N.drwR att C K T).err=0) (h2:N.rsp2 C K c W (N.drwR att C K T).msk=0):N.prv att C K c W (f+1) T=N.drwR att C K T:=by
 rw[NSta.prv,if_neg (by omega),if_pos h2]
theorem prv_next {N:NSta} {att:Att} {C K c f:Nat} {W:List Int} {T:Tp} (h:(N.drwR att C K T).err=0) (h2:N.rsp2 C K c W (N.drwR att C K T).msk≠0):N.prv att C K c W (f+1) T=N.prv att C K c W f (N.drwR att C K T).tp:=by
 rw[NSta.prv,if_neg (by omega),if_neg h2]
theorem drw_inv {N:NSta} {att:Att} {C K:Nat} {T:Tp} (h:(N.drwR att C K T).err=0):N.drwR att C K T=⟨0,N.drwL att C K T,T.on N.vars.length⟩∧∀j,j<N.vars.length→(N.drw att C K T j).1=0:=by
 have hb:∀j,j<N.vars.length→(N.drw att C K T j).1=0:=by
  intro j hj;apply Classical.byContradiction
  intro hn;unfold NSta.drwR at h;split at h
  ·rename_i k hk;have:=List.find?_some hk;simp at this;exact this h
  ·rename_i hk;have:=List.find?_eq_none.1 hk j (List.mem_range.2 hj);simp at this;exact hn this
 exact⟨drw_ok hb,hb⟩
theorem coin_lt {att:Att} {T:Tp} {n:Nat} (h:(coin att T n).1=0):(coin att T n).2<n:=by
 unfold coin at *;split at h
 ·simp at h
 ·rename_i h1;rw[if_neg h1];split at h
  ·simp at h
  ·rename_i h2;rw[if_neg h2];exact coinD_lt h
theorem csgn_lt {att:Att} {T:Tp} {m:Nat} (hm:m<256^60) (h:(csgn att T m).1=0):(csgn att T m).2.natAbs<256^64:=by
 have h9:256^60*2≤256^64:=by decide
 unfold csgn at *;split at h
 ·rename_i h1;exact absurd h h1
 ·rename_i h1;rw[if_neg h1];split at h
  ·rename_i h2;rw[if_pos h2];have:=coinD_lt h2;generalize (256:Nat)^60=x at *;generalize (256:Nat)^64=y at *;simp only[];omega
  ·rename_i h2;exact absurd h h2
theorem drw_size {N:NSta} (hm:NOk N) {att:Att} {C K:Nat} {T:Tp} (hC:C<256^16) (hK:K<256^16) (h:∀j,j<N.vars.length→(N.drw att C K T j).1=0):∀z∈N.drwL att C K T,z.natAbs<256^64:=by
 intro z hz;obtain⟨j,hj,rfl⟩:=List.mem_map.1 hz;have hb:=List.mem_range.1 hj;have h1:=h j hb;rw[drw_at N att C K T j hb]at h1 ⊢;have hl:=lims1_lt hm hC hK (Gm hb);unfold drwJ at *;split at h1
 ·rename_i h2;rw[if_pos h2];have h3:=coin_lt h1;simp only[Int.natAbs_natCast];exact Nat.lt_trans h3 (Nl hl P8)
 ·rename_i h2;rw[if_neg h2];exact csgn_lt hl h1
theorem pfail_c (k:Int) (w:World):Calls Tryz.prog 29 #[.int .i64 k] w fun e w'=>e=.returned (.tuple #[.agg #[.slice none 0 0,.string ⟨#[]⟩,.slice none 0 0],.agg #[.slice none 0 0,.string ⟨#[]⟩,.int .i64 0],.int .i64 k])∧Bw w w':=by
 obtain⟨hA,hB,hh⟩:=blk2 w #[.slice none 0 0,.string ⟨#[]⟩,.slice none 0 0] #[.slice none 0 0,.string ⟨#[]⟩,.int .i64 0] 54 35;have hi:=hA.lt;have hj:=hB.lt;obtain⟨hb,hk,hc,hl,hd,hm⟩:=hA.x3;obtain⟨he,hn,hf,ho,hg,hp⟩:=hB.x3;go_enter Tryz.func29,Tryz.ntmps29
 go_wp2;refine bodyPost_ret (v:=.tuple #[.agg #[.slice none 0 0,.string ⟨#[]⟩,.slice none 0 0],.agg #[.slice none 0 0,.string ⟨#[]⟩,.int .i64 0],.int .i64 k]) ?_ rfl ⟨rfl,?_⟩
 ·simp[results,Tryz.results29,go_sem,hb,hc,hd,he,hf,hg,hi,hj]
 ·exact hh
end
end Go.Proofs.YtdgddpnjkinciaaGreatDoor
