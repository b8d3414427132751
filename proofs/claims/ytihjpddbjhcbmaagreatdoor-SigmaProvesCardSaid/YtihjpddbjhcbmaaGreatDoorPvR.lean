/- dominoref16.Prove: proof,tape or error. -/
import Derived.Test.YtihjpddbjhcbmaaGreatDoorPvS
import Derived.Test.YtihjpddbjhcbmaaGreatDoorRsq2
import Derived.Test.YtihjpddbjhcbmaaGreatDoorCmR
set_option linter.unusedVariables false
set_option linter.unusedSimpArgs false
set_option maxRecDepth 100000
set_option maxHeartbeats 16000000
namespace Go.Proofs.YtihjpddbjhcbmaaGreatDoor
section
/- dominoref15.Holds for numbers. -/
open Go.RowKit Go.Shelf
theorem rcheck6_c (N:NSta) (Z:List Int) (v1 v2 v3 v4:Value) (w:World) (hm:NOk N) (hS:NAt w v1 v2 v3 N) (hZ:ZsAt w v4 Z) (hz:∀z∈Z,z.natAbs<256^128) (hl:Z.length≠N.vars.length) (hw:Z.length≤1000) (hc:N.chk=0) :
  Calls Tryz.prog 158 #[.agg #[v1,v2,v3],v4] w fun e w'=>e=.returned (.int .i64 6)∧Bw w w':=by
 obtain⟨a4,c4,rfl⟩:=hZ.form;obtain⟨nz,hr⟩:∃n,n=Z.length:=⟨_,rfl⟩;have hx:=Kh hr;rw[←hr]at hw hl hZ ⊢;have hy:=Kh hz;have hA:=Kh hc;clear hz hc hr;obtain⟨a1,c1,a2,c2,a3,c3,rfl,rfl,rfl⟩:=hS.forms;obtain⟨n1,hp⟩:∃n,n=N.grps.length:=⟨_,rfl⟩;obtain⟨n2,hn⟩:∃n,n=N.vars.length:=⟨_,rfl⟩;obtain⟨n3,hq⟩:∃n,n=N.eqs.length:=⟨_,rfl⟩;have hF:=Kh hp;have hG:=Kh hn;have hH:=Kh hq;have l1:n1≤10:=by rw[hp];exact hm.ng
 have l2:n2≤12:=by rw[hn];exact hm.nv
 have l3:n3≤12:=by rw[hq];exact hm.ne
 have HM:=Kh hm;rw[←hn]at hl;have hI:((nz:Int) != (n2:Int))=true:=by rw[bne_iff_ne];omega
 rw[←hp,←hn,←hq]at hS ⊢;clear hm hp hn hq hl;obtain⟨hP,hi⟩:=blk1 w #[.slice a1 n1 c1,.slice a2 n2 c2,.slice a3 n3 c3] 29;replace hS:=hS.after hi;replace hZ:=hZ.after (b1 w (.cells #[.slice a1 n1 c1,.slice a2 n2 c2,.slice a3 n3 c3] 29));obtain⟨hb,hd,he,hf,hg,hh⟩:=hP.x3;go_enter Tryz.func158,Tryz.ntmps158
 go_wp2_with fail
 refine (rformed1_c N.s _ _ _ _ true HM.out.ssm hS HM.out.form).mono ?_;rintro e w2 ⟨rfl,ho⟩;clear hb hd he hf hg hh;replace hP:=hP.after ho;replace hS:=hS.after ho;replace hZ:=hZ.after ho;replace hi:=bt hi ho;clear ho;have hu:=hP.lt;go_wp2;go_loopw [5] (fun i wr=>∃k:Nat,k≤nz∧i=.int .i64 k∧Bw w2 wr) (fun i _=>nz-(intOf i).toNat)
 case atStart=>exact⟨0,by omega,rfl,Br⟩
 case round =>
  obtain⟨k,hk,rfl,hj⟩:=hrel;obtain⟨wp,hB⟩:∃wp,wp=wr:=⟨_,rfl⟩;subst hB;replace hP:=hP.after hj;replace hS:=hS.after hj;replace hZ:=hZ.after hj;replace hi:=bt hi hj;clear hu;have hu:=hP.lt;by_cases hlt:k<nz
  ·have ht:k<Z.length:=by rw[←hx.out];exact hlt
   have hv:=Kh (hy.out _ (Gm ht));obtain⟨b,o,rfl,hJ,x1,x2⟩:=hZ.at_ ht;generalize (Z[k]'ht)=z at x1 x2 hv;have hK:(0:Int)≤(k:Int):=by omega
   have hL:(k:Int)<(nz:Int):=by omega
   go_wp2_with fail
   refine (rivalidI_c z _ hv.out).mono ?_;rintro e w3 ⟨rfl,hC⟩;go_wp2;go_roundw
   case rel=>exact⟨k+1,by omega,by go_num,bt hj hC⟩
   case measure=>simp[intOf];omega
  ·clear hj
   have hD:Hid (Calls Tryz.prog 244 #[.agg #[.slice a1 n1 c1,.slice a2 n2 c2,.slice a3 n3 c3]] wp fun e w'=>e=.returned (.int .i64 0)∧Bw wp w'):=by
    have h:=rrest_c N _ _ _ wp HM.out hS;rw[hA.out]at h;exact h
   obtain⟨hb,hd,he,hf,hg,hh⟩:=hP.x3;go_wp2_with fail
   refine hD.out.mono ?_;rintro e w4 ⟨rfl,hb4⟩;clear hb hd he hf hg hh;replace hP:=hP.after hb4;have hE:=hP.lt;obtain⟨hb,hd,he,hf,hg,hh⟩:=hP.x3;go_wp2;go_ret
   exact⟨rfl,bt hi hb4⟩
theorem rinr_c (vb q:Nat) (z:Int) (w:World) (hb:vb<256^128) (hq:q<256^128) (hz:z.natAbs<256^128) :
  Calls Tryz.prog 159 #[.agg #[.string (E vb)],.string (E q),.agg #[.bool (sg (z)),.string (E (z).natAbs)]] w fun e w'=>e=.returned (.bool (blw vb z (if vb=0 then q else vb)))∧Bw w w':=by
 obtain⟨hA,hB,hk⟩:=blk2 w #[.string (E vb)] #[.bool (sg z),.string (E z.natAbs)] 71 74;by_cases hv:vb=0
 ·have HC:Hid (∀w,Calls Tryz.prog 65 #[.string (E z.natAbs),.string (E q)] w fun e w'=>e=.returned (.int .i64 (cmpN z.natAbs q))∧Bw w w'):=fun w=>rcmp_c _ _ w hz hq
  obtain⟨q1,hc⟩:∃q1:Int,q1=cmpN z.natAbs q:=⟨_,rfl⟩;rw[←hc]at HC;have ho:=zE hv;rw[if_pos hv];obtain⟨s,hs⟩:∃s,s=sg z:=⟨_,rfl⟩;have hn:Hid (blw vb z q=(decide (z.natAbs<q)&&!s)):=by rw[Hid,hs,hv,blw];rfl
  rw[hn.out];rw[←hs]at hB hk ⊢;clear hs hv hn;cases s
  ·by_cases hl:z.natAbs<q
   ·have hm:decide (q1<0)=true:=Dt (by rw[hc];exact cmp_neg _ _ hl);have HR:Hid ((decide (z.natAbs<q)&&!false)=true):=by rw[Hid,Dt hl];rfl
    rw[HR.out];clear hc hl hb hq hz HR;obtain⟨hd,he⟩:=hA.x1;obtain⟨hf,hg,hh,hi⟩:=hB.x2;go_enter Tryz.func159,Tryz.ntmps159
    go_wp2_with fail
    refine (HC.out _).mono ?_;rintro e w2 ⟨rfl,hj⟩;go_wp2;go_ret
    exact⟨rfl,bt hk hj⟩
   ·have hm:decide (q1<0)=false:=decide_eq_false (by rw[hc];exact cmp_nneg _ _ (by omega));have HR:Hid ((decide (z.natAbs<q)&&!false)=false):=by rw[Hid,decide_eq_false hl];rfl
    rw[HR.out];clear hc hl hb hq hz HR;obtain⟨hd,he⟩:=hA.x1;obtain⟨hf,hg,hh,hi⟩:=hB.x2;go_enter Tryz.func159,Tryz.ntmps159
    go_wp2_with fail
    refine (HC.out _).mono ?_;rintro e w2 ⟨rfl,hj⟩;go_wp2;go_ret
    exact⟨rfl,bt hk hj⟩
  ·have HR:Hid ((decide (z.natAbs<q)&&!true)=false):=by rw[Hid];simp
   rw[HR.out];clear hc hb hq hz HR HC;obtain⟨hd,he⟩:=hA.x1;obtain⟨hf,hg,hh,hi⟩:=hB.x2;go_enter Tryz.func159,Tryz.ntmps159
   go_wp2;go_ret
   exact⟨rfl,hk⟩
 ·have HC:Hid (∀w,Calls Tryz.prog 65 #[.string (E z.natAbs),.string (E vb)] w fun e w'=>e=.returned (.int .i64 (cmpN z.natAbs vb))∧Bw w w'):=fun w=>rcmp_c _ _ w hz hb
  obtain⟨q1,hc⟩:∃q1:Int,q1=cmpN z.natAbs vb:=⟨_,rfl⟩;rw[←hc]at HC;have ho:=nzE (Nat.pos_of_ne_zero hv);rw[if_neg hv];by_cases hl:z.natAbs<vb
  ·have hm:decide (q1<0)=true:=Dt (by rw[hc];exact cmp_neg _ _ hl);have HR:Hid (blw vb z vb=true):=blw_pos hl (Nat.pos_of_ne_zero hv);rw[HR.out];clear hc hl hb hq hz HR hv;obtain⟨hd,he⟩:=hA.x1;obtain⟨hf,hg,hh,hi⟩:=hB.x2;go_enter Tryz.func159,Tryz.ntmps159
   go_wp2_with fail
   refine (HC.out _).mono ?_;rintro e w2 ⟨rfl,hj⟩;go_wp2;go_ret
   exact⟨rfl,bt hk hj⟩
  ·have hm:decide (q1<0)=false:=decide_eq_false (by rw[hc];exact cmp_nneg _ _ (by omega));have HR:Hid (blw vb z vb=false):=blw_ge (by omega);rw[HR.out];clear hc hl hb hq hz HR hv;obtain⟨hd,he⟩:=hA.x1;obtain⟨hf,hg,hh,hi⟩:=hB.x2;go_enter Tryz.func159,Tryz.ntmps159
   go_wp2_with fail
   refine (HC.out _).mono ?_;rintro e w2 ⟨rfl,hj⟩;go_wp2;go_ret
   exact⟨rfl,bt hk hj⟩
theorem rholds_c (N:NSta) (Z:List Int) (v1 v2 v3 v4:Value) (w:World) (hm:NOk N) (hS:NAt w v1 v2 v3 N) (hZ:ZsAt w v4 Z) (hz:∀z∈Z,z.natAbs<256^64) (Hd:Z.length≤1000) (hc:N.chk=0) :
  Calls Tryz.prog 60 #[.agg #[v1,v2,v3],v4] w fun e w'=>e=.returned (.tuple #[.bool (N.hldB Z),.int .i64 (N.hldE Z:Nat)])∧Bw w w':=by
 by_cases hl:Z.length=N.vars.length
 ·have hC:N.hldE Z=0:=if_neg (fun h=>h hl);rw[hC];clear hC;obtain⟨r,hr⟩:∃r:Bool,r=N.hldB Z:=⟨_,rfl⟩;have hw:=Kh hr;rw[←hr];clear hr;have hA:Hid (∀w',Bw w w'→Calls Tryz.prog 158 #[.agg #[v1,v2,v3],v4] w' fun e w''=>e=.returned (.int .i64 0)∧Bw w' w''):=fun w' hb=>rcheck15_c N Z v1 v2 v3 v4 w' hm (hS.after hb) (hZ.after hb) (fun z h=>lt64 (hz z h)) hl hc
  have He:Hid (∀w',Bw w w'→Calls Tryz.prog 160 #[.agg #[v1,v2,v3]] w' fun e w''=>e=.returned (.string (E N.ord))∧Bw w' w''):=fun w' hb=>rorder15_c N v1 v2 v3 w' hm (hS.after hb)
  have h8:Hid (∀w',Bw w w'→Calls Tryz.prog 161 #[.agg #[v1,v2,v3],v4] w' (LPost w' (N.imgs Z))):=fun w' Ho=>rimages_c N Z v1 v2 v3 v4 w' hm (hS.after Ho) (hZ.after Ho) hz hl hc
  have hD:Hid (N.hldB Z=(ra N.vars.length (inJ N Z)&&decide (N.imgs Z=N.eqs.map (·.tgt)))):=by rw[Hid,NSta.hldB,Dt hl,Bool.true_and]
  have HQ:=Kh (ord_lt hm);have Hp:=Kh hm.v;have Hq:=Kh hz;obtain⟨qo,Hf⟩:∃q,q=N.ord:=⟨_,rfl⟩;have HE:=Kh Hf;rw[←Hf]at He HQ;obtain⟨a4,c4,rfl⟩:=hZ.form;rw[hl]at hZ hA h8 ⊢;have HL:=Kh hl;obtain⟨a1,c1,a2,c2,a3,c3,rfl,rfl,rfl⟩:=hS.forms;obtain⟨n1,Hr⟩:∃n,n=N.grps.length:=⟨_,rfl⟩;obtain⟨n2,hE⟩:∃n,n=N.vars.length:=⟨_,rfl⟩;obtain⟨n3,h9⟩:∃n,n=N.eqs.length:=⟨_,rfl⟩;have Hs:=Kh hE;have Ha:=Kh h9;have l2:n2≤12:=by rw[hE];exact hm.nv
  have l3:n3≤12:=by rw[h9];exact hm.ne
  rw[←Hr,←hE,←h9]at hS hA He h8 ⊢;rw[←hE]at hZ hD;clear hm Hr hE h9 hz hl Hd hc Hf;obtain⟨hP,ht⟩:=blk1 w #[.slice a1 n1 c1,.slice a2 n2 c2,.slice a3 n3 c3] 29;replace hS:=hS.after ht;replace hZ:=hZ.after ht;obtain⟨hF,hG,hH,hI,hJ,hK⟩:=hP.x3;go_enter Tryz.func60,Tryz.ntmps60
  go_wp2_with fail
  refine (hA.out _ ht).mono ?_;rintro e w2 ⟨rfl,hx⟩;clear hF hG hH hI hJ hK;replace hP:=hP.after hx;replace hS:=hS.after hx;replace hZ:=hZ.after hx;replace ht:=bt ht hx;clear hx hA;go_wp2;go_loopw [7] (fun i wr=>∃k:Nat,k≤n2∧i=.int .i64 k∧Hid (ra k (inJ N Z)=true)∧Bw w2 wr) (fun i _=>n2-(intOf i).toNat)
  case atStart=>exact⟨0,by omega,rfl,rfl,Br⟩
  case round =>
   obtain⟨k,hk,rfl,Hg,hy⟩:=hrel;obtain⟨wp,HG⟩:∃wp,wp=wr:=⟨_,rfl⟩;subst HG;have he:=bt ht hy;have hf:=hP.after hy;by_cases hlt:k<n2
   ·have hd:k<N.vars.length:=by rw[←Hs.out];exact hlt
    have hB:k<Z.length:=by rw[HL.out];exact hd
    obtain⟨bv,ov,rfl,Ht,x1⟩:=(hS.after hy).vat hd;obtain⟨bz,oz,rfl,Hh,z1,z2⟩:=(hZ.after hy).at_ hB;have Hu:=Kh (Hq.out _ (Gm hB));have Hv:=Kh (Hp.out _ (Gm hd));have Hi:=Kh (inJ_at N Z k hd hB);rw[←HE.out]at Hi;have Hw:Hid (ra (k+1) (inJ N Z)=inJ N Z k):=by rw[Hid,ra_succ,Hg.out];rfl
    have Hx:Hid (inJ N Z k=false→ra n2 (inJ N Z)=false):=fun h=>by rw[Hs.out];exact ra_false hd h
    have Hj:Hid (∀w',Bw wp w'→Calls Tryz.prog 160 #[.agg #[.slice a1 n1 c1,.slice (some ⟨bv,ov,none⟩) n2 c2,.slice a3 n3 c3]] w' fun e w''=>e=.returned (.string (E qo))∧Bw w' w''):=fun w' hb=>He.out w' (bt he hb)
    have Hb:Hid (∀w,Calls Tryz.prog 159 #[.agg #[.string (E (N.vars[k]'hd))],.string (E qo),.agg #[.bool (sg (Z[k]'hB)),.string (E (Z[k]'hB).natAbs)]] w fun e w'=>e=.returned (.bool (inJ N Z k))∧Bw w w'):=fun w=>by
     rw[Hi.out];exact rinr_c _ _ _ w (Nl Hv.out P8) (lt128 HQ.out) (lt64 Hu.out)
    clear Hi;generalize (N.vars[k]'hd)=vb at x1 Hv Hb;generalize (Z[k]'hB)=lz at z1 z2 Hu Hb;generalize inJ N Z k=bl at Hw Hx Hb;have HH:(0:Int)≤(k:Int):=by omega
    have HI:(k:Int)<(n2:Int):=by omega
    have g1:=gcl (a:=⟨bv,ov+k,none⟩) Ht x1;have g2:=gcl (a:=⟨bz,oz+k*2,none⟩) Hh z1;have g3:=gcl (a:=⟨bz,oz+k*2+1,none⟩) Hh z2;have Hk:=hf.lt;clear x1 z1 z2 Ht Hh;obtain⟨hg,hh,hn,ho,hp,hq⟩:=hf.x3;have hL:=hf.gcell 0;have hM:=hf.gcell 1;have hN:=hf.gcell 2;go_wp2_with fail
    refine wp_region_gw (by kernel_rfl) (by kernel_rfl) ?_;repeat (go_big_quiet_step (first | (go_at_call 160;exact gw_of (Hj.out _ (gw_below _))) | (go_at_call 159;exact gw_of (Hb.out _))))
    refine wpQuiet_nil ?_;rintro w9 ⟨xw9,rfl⟩;have hb9:=gw_below xw9;generalize gw xw9=w9 at hb9;clear hg hh hn ho hp hq;clear hL hM hN;clear g1 g2 g3 Hk;cases bl
    ·have HF:Hid (r=false):=by rw[Hid,hw.out,hD.out,Hx.out rfl];rfl
     go_wp2;go_ret2
     rw[HF.out];exact⟨rfl,bt he hb9⟩
    ·have HX:Hid (ra (k+1) (inJ N Z)=true):=Hw.out;go_wp2;go_roundw
     case rel=>exact⟨k+1,by omega,by go_num,HX,bt hy hb9⟩
     case measure=>simp[intOf];omega
   ·obtain rfl:k=n2:=by omega
    replace hS:=hS.after hy;rw[Hg.out]at hD;clear hP hZ Hg Hq Hp hy;have hO:=Kh (h8.out _ he);have Hy:=hf.lt;obtain⟨hg,hh,hn,ho,hp,hq⟩:=hf.x3;go_wp2_with fail
    refine hO.out.mono ?_;rintro e w8 ⟨iv,rfl,Hz,Hc⟩;clear hg hh hn ho hp hq;replace hf:=hf.after Hc;replace hS:=hS.after Hc;replace he:=bt he Hc;clear Hc Hy h8 hO;have hQ:=Hz.ss;clear Hz;obtain⟨a7,c7,rfl⟩:=RAt.form hQ;have HB:Hid (((N.imgs Z).map E).length=n3):=by rw[Hid,List.length_map,NSta.imgs,List.length_map,Ha.out]
    rw[HB.out]at hQ ⊢;have Hy:=hf.lt;go_wp2;go_loopw [10] (fun i wr=>∃k:Nat,k≤n3∧i=.int .i64 k∧Hid (∀j,j<k→(N.imgs Z)[j]?=(N.eqs.map (·.tgt))[j]?)∧Bw w8 wr) (fun i _=>n3-(intOf i).toNat)
    case atStart=>exact⟨0,by omega,rfl,fun j h=>absurd h (Nat.not_lt_zero _),Br⟩
    case round =>
     obtain⟨j,hj,rfl,HA,hR⟩:=hrel;obtain⟨wu,HJ⟩:∃wp,wp=wr:=⟨_,rfl⟩;subst HJ;have hT:=bt he hR;have hu:=hf.after hR;replace hQ:=SsAt.after hQ hR;by_cases hU:j<n3
     ·have hd:j<N.eqs.length:=by rw[←Ha.out];exact hU
      have HK:j<((N.imgs Z).map E).length:=by rw[HB.out];exact hU
      have HC:=hS.after hR;have Hl:Hid ((N.imgs Z)[j]?=some (imgV N Z (N.eqs[j]'hd))):=by rw[Hid,NSta.imgs,List.getElem?_map,List.getElem?_eq_getElem hd];rfl
      have Hm:Hid ((N.eqs.map (·.tgt))[j]?=some (N.eqs[j]'hd).tgt):=by rw[Hid,List.getElem?_map,List.getElem?_eq_getElem hd];rfl
      obtain⟨b,o,tv,rfl,HM,x1,x2,x3,HN⟩:=NAt.eat HC hd;obtain⟨b7,o7,rfl,Hn,i1'⟩:=SsAt.at_ hQ HK;rw[show ((N.imgs Z).map E)[j]=E (imgV N Z (N.eqs[j]'hd)) by simp[NSta.imgs]]at i1';generalize imgV N Z (N.eqs[j]'hd)=iq at i1' Hl;generalize (N.eqs[j]'hd).tgt=qt at x2 Hm;have HH:(0:Int)≤(j:Int):=by omega
      have HI:(j:Int)<(n3:Int):=by omega
      have g1:=gcl (a:=⟨b7,o7+j,none⟩) Hn i1';have g2:=gcl (a:=⟨b,o+j*3+1,none⟩) HM x2;have HO:=hu.lt;clear HN HC x1 x2 x3 i1';by_cases hv:iq=qt
      ·have h1:=eqT hv;have h2:=eqE hv
       have HX:Hid (∀i,i<j+1→(N.imgs Z)[i]?=(N.eqs.map (·.tgt))[i]?):=fun i hi=>by
        by_cases e:i=j
        ·rw[e,Hl.out,Hm.out,hv]
        ·exact HA.out i (by omega)
       clear hv;obtain⟨hV,hW,hX,hY,h0,h4⟩:=hu.x3;have h5:=hu.gcell 0;have h6:=hu.gcell 1;have h7:=hu.gcell 2;go_wp2_with fail
       refine wp_region_gw (by kernel_rfl) (by kernel_rfl) ?_;repeat (go_big_quiet_step (first | (fail)))
       refine wpQuiet_nil ?_;rintro w9 ⟨xw9,rfl⟩;have hb9:=gw_below xw9;generalize gw xw9=w9 at hb9;go_wp2;go_roundw
       case rel=>exact⟨j+1,by omega,by go_num,HX,bt hR hb9⟩
       case measure=>simp[intOf];omega
      ·have h1:=eqF hv;have h2:=neE hv;have HF:Hid (r=false):=by rw[Hid,hw.out,hD.out,Bool.true_and];exact decide_eq_false (fun e=>hv (by have h3:=Hl.out;rw[e,Hm.out]at h3;exact (Option.some.inj h3).symm))
       clear hv;obtain⟨hV,hW,hX,hY,h0,h4⟩:=hu.x3;have h5:=hu.gcell 0;have h6:=hu.gcell 1;have h7:=hu.gcell 2;go_wp2_with fail
       refine wp_region_gw (by kernel_rfl) (by kernel_rfl) ?_;repeat (go_big_quiet_step (first | (fail)))
       refine wpQuiet_nil ?_;rintro w9 ⟨xw9,rfl⟩;have hb9:=gw_below xw9;generalize gw xw9=w9 at hb9;go_wp2;go_ret2
       rw[HF.out];exact⟨rfl,bt hT hb9⟩
     ·have HF:Hid (r=true):=by
       rw[Hid,hw.out,hD.out,Bool.true_and];refine Dt (List.ext_getElem? fun i=>?_);by_cases hi:i<j
       ·exact HA.out i hi
       ·rw[List.getElem?_eq_none (by rw[NSta.imgs,List.length_map,←Ha.out];omega),List.getElem?_eq_none (by rw[List.length_map,←Ha.out];omega)]
      go_wp2;go_ret2
      rw[HF.out];exact⟨rfl,hT⟩
 ·have hC:N.hldE Z=6:=if_pos hl;have HD:N.hldB Z=false:=by unfold NSta.hldB;rw[decide_eq_false hl];rfl
  rw[hC,HD];clear hC HD;obtain⟨hP,ht⟩:=blk1 w #[v1,v2,v3] 29;have hA:Hid (∀w',Bw w w'→Calls Tryz.prog 158 #[.agg #[v1,v2,v3],v4] w' fun e w''=>e=.returned (.int .i64 6)∧Bw w' w''):=fun w' hb=>rcheck6_c N Z v1 v2 v3 v4 w' hm (hS.after hb) (hZ.after hb) (fun z h=>lt64 (hz z h)) hl Hd hc
  clear hm hS hZ hz hl Hd hc;obtain⟨hF,hG,hH,hI,hJ,hK⟩:=hP.x3;go_enter Tryz.func60,Tryz.ntmps60
  go_wp2_with fail
  refine (hA.out _ ht).mono ?_;rintro e w2 ⟨rfl,hx⟩;go_wp2;go_ret2
  exact⟨rfl,bt ht hx⟩
end
section
/- dominoref16.Prove: refused rules,statements and forms. -/
open Go.RowKit Go.Shelf
theorem rprove_err (C K ch sd:ByteArray) (v1 v2 v3 vw vt:Value) (ti:Int) (k:Nat) (w:World) (hk:k≠0)
  (hx:∀w',Bw w w'→Calls Tryz.prog 84 #[.agg #[.string C,.string K],.agg #[v1,v2,v3]] w' fun e w''=>e=.returned (.tuple #[.slice none 0 0,.slice none 0 0,.int .i64 k])∧Bw w' w'') :
  Calls Tryz.prog 19 #[.agg #[.string C,.string K],.agg #[v1,v2,v3],vw,.string ch,.agg #[vt,.string sd,.int .i64 ti]] w (PPost w ch ⟨k,[],Tp.nil⟩ [] []):=by
 have hy:=Kh hx;have HK:=Kh hk;have hK:((k:Int) != 0)=true:=by rw[bne_iff_ne];omega
 obtain⟨hR,hP,hT,hF,hQ,hc⟩:=blk5 w #[.string C,.string K] #[v1,v2,v3] #[vt,.string sd,.int .i64 ti] #[.slice none 0 0,.string ⟨#[]⟩,.slice none 0 0] #[.slice none 0 0,.string ⟨#[]⟩,.int .i64 0] 24 29 33 40 33;have hd:Hid (w.heap.size≤w.heap.size+1+1+1):=by rw[Hid];omega
 have he:Hid (w.heap.size≤w.heap.size+1+1+1+1):=by rw[Hid];omega
 have hz:¬ w.heap.size+1+1+1=w.heap.size+1+1+1+1:=by omega
 have hA:¬ w.heap.size+1+1+1+1=w.heap.size+1+1+1:=by omega
 clear hx hk;obtain⟨hf,hg,hh,hi⟩:=hR.x2;obtain⟨hj,hl,hm,hn,ho,hp⟩:=hP.x3;go_enter Tryz.func19,Tryz.ntmps19
 go_wp2_with fail
 refine (hy.out _ hc).mono ?_;rintro e w2 ⟨rfl,hb⟩;clear hf hg hh hi;clear hj hl hm hn ho hp;clear hR hP hT;replace hF:=hF.after hb;replace hQ:=hQ.after hb;replace hc:=bt hc hb;clear hb;have hB:=hF.lt;have hC:=hQ.lt;obtain⟨hq,hD,hr,hE,ht,hG⟩:=hF.x3;obtain⟨hu,hH,hv,hI,hw,hJ⟩:=hQ.x3;go_wp2;(try rw[Exit.noGoto_ret])
 refine bodyPost_ret (v:=.tuple #[.agg #[.slice none 0 0,.string ⟨#[]⟩,.slice none 0 0],.agg #[.slice none 0 0,.string ⟨#[]⟩,.int .i64 0],.int .i64 (k:Int)]) ?_ rfl ?_
 ·simp[results,Tryz.results19,go_sem,hq,hr,ht,hu,hv,hw,hB,hC,hz,hA]
 ·exact ppost_err HK.out rfl rfl ((((((hc.setCell hd.out _).setCell hd.out _).setCell hd.out _).setCell he.out _).setCell he.out _).setCell he.out _)
theorem rprove_form (C K ch sd:ByteArray) (l:List (Bool × ByteArray)) (v1 v2 v3 vw vt:Value) (ti:Int) (w:World)
  (hH:∀w',Bw w w'→Calls Tryz.prog 84 #[.agg #[.string C,.string K],.agg #[v1,v2,v3]] w' fun e w''=>∃v u,e=.returned (.tuple #[v,u,.int .i64 0])∧Bw w' w'')
  (hI:l.length≤1000) (hJ:∀x∈l,x.2.size≤1000) (hN:ch.size≤1000) (hW:IsAt w vw l) (hb:pvB l ch=false) :
  Calls Tryz.prog 19 #[.agg #[.string C,.string K],.agg #[v1,v2,v3],vw,.string ch,.agg #[vt,.string sd,.int .i64 ti]] w (PPost w ch ⟨3,[],Tp.nil⟩ [] []):=by
 have hK:=Kh hH;have hl:Hid (∀w',Bw w w'→Calls Tryz.prog 85 #[vw] w' fun e w''=>e=.returned (.bool (l.all fun x=>ivB x.1 x.2))∧Bw w' w''):=fun w' hb=>rformed16_c l vw w' hI hJ (IsAt.after hW hb)
 have hm:Hid (∀w,Calls Tryz.prog 86 #[.string ch] w fun e w'=>e=.returned (.bool (vldB ch))∧w=w'):=fun w=>rvalid_c ch w (by omega)
 have HB:=Kh hb;unfold pvB at HB;generalize (l.all fun x=>ivB x.1 x.2)=b1 at hl HB;generalize vldB ch=b3 at hm HB;obtain⟨hR,hP,hT,hF,hQ,hc⟩:=blk5 w #[.string C,.string K] #[v1,v2,v3] #[vt,.string sd,.int .i64 ti] #[.slice none 0 0,.string ⟨#[]⟩,.slice none 0 0] #[.slice none 0 0,.string ⟨#[]⟩,.int .i64 0] 24 29 33 40 33;have hj:Hid (w.heap.size≤w.heap.size+1+1+1):=by rw[Hid];omega
 have hk:Hid (w.heap.size≤w.heap.size+1+1+1+1):=by rw[Hid];omega
 have hL:¬ w.heap.size+1+1+1=w.heap.size+1+1+1+1:=by omega
 have hM:¬ w.heap.size+1+1+1+1=w.heap.size+1+1+1:=by omega
 clear hH hI hJ hN hW hb;obtain⟨hn,ho,hp,hq⟩:=hR.x2;obtain⟨hr,ht,hu,hv,hw,hx⟩:=hP.x3;go_enter Tryz.func19,Tryz.ntmps19
 go_wp2_with fail
 refine (hK.out _ hc).mono ?_;rintro e w2 ⟨lv,lu,rfl,hb⟩;clear hn ho hp hq;clear hr ht hu hv hw hx;clear hR hP hT hK;replace hF:=hF.after hb;replace hQ:=hQ.after hb;replace hc:=bt hc hb;clear hb;cases b1
 ·go_wp2_with fail
  refine (hl.out _ hc).mono ?_;rintro e w3 ⟨rfl,hb⟩;replace hF:=hF.after hb;replace hQ:=hQ.after hb;replace hc:=bt hc hb;clear hb;have hy:=hF.lt;have hz:=hQ.lt;obtain⟨hd,hA,he,hB,hf,hC⟩:=hF.x3;obtain⟨hg,hD,hh,hE,hi,hG⟩:=hQ.x3;go_wp2;(try rw[Exit.noGoto_ret])
  refine bodyPost_ret (v:=.tuple #[.agg #[.slice none 0 0,.string ⟨#[]⟩,.slice none 0 0],.agg #[.slice none 0 0,.string ⟨#[]⟩,.int .i64 0],.int .i64 3]) ?_ rfl ?_
  ·simp[results,Tryz.results19,go_sem,hd,he,hf,hg,hh,hi,hy,hz,hL,hM]
  ·exact ppost_err (by decide) rfl rfl ((((((hc.setCell hj.out _).setCell hj.out _).setCell hj.out _).setCell hk.out _).setCell hk.out _).setCell hk.out _)
 ·have hO:Hid (b3=false):=HB.out;rw[hO.out]at hm;go_wp2_with fail
  refine (hl.out _ hc).mono ?_;rintro e w3 ⟨rfl,hb⟩;replace hF:=hF.after hb;replace hQ:=hQ.after hb;replace hc:=bt hc hb;clear hb;go_wp2_with fail
  refine (hm.out _).mono ?_;rintro e w5 ⟨rfl,rfl⟩;have hy:=hF.lt;have hz:=hQ.lt;obtain⟨hd,hA,he,hB,hf,hC⟩:=hF.x3;obtain⟨hg,hD,hh,hE,hi,hG⟩:=hQ.x3;go_wp2;(try rw[Exit.noGoto_ret])
  refine bodyPost_ret (v:=.tuple #[.agg #[.slice none 0 0,.string ⟨#[]⟩,.slice none 0 0],.agg #[.slice none 0 0,.string ⟨#[]⟩,.int .i64 0],.int .i64 3]) ?_ rfl ?_
  ·simp[results,Tryz.results19,go_sem,hd,he,hf,hg,hh,hi,hy,hz,hL,hM]
  ·exact ppost_err (by decide) rfl rfl ((((((hc.setCell hj.out _).setCell hj.out _).setCell hj.out _).setCell hk.out _).setCell hk.out _).setCell hk.out _)
end
section
open Go.RowKit Go.Shelf
theorem drw_mk {N:NSta} {att:Att} {C K:Nat} {T:Tp} (h:∀j,j<N.vars.length→(N.drw att C K T j).1=0):ra N.vars.length (mkJ N C K (N.drwL att C K T))=true:=by
 refine ra_true fun j hj=>?_
 have h1:=h j hj;have hl:j<(N.drwL att C K T).length:=by simpa [NSta.drwL] using hj
 rw[mkJ_at N C K _ j hj hl];have e:(N.drwL att C K T)[j]=(N.drw att C K T j).2:=by simp[NSta.drwL]
 rw[e];rw[drw_at N att C K T j hj]at h1 ⊢;unfold drwJ at *;split at h1
 ·rename_i h2;rw[if_pos h2];have h3:=coin_lt h1;unfold blw;simp only[Int.natAbs_natCast,sg_nat,Bool.not_false,Bool.or_true,Bool.and_true,decide_eq_true_eq];exact h3
 ·rename_i h2;rw[if_neg h2];generalize (lim N.ord C K N.vars[j]).1=m at *;have h4:vz N.vars[j]=false:=by unfold vz;rw[beq_eq_false_iff_ne];exact h2
  unfold blw;rw[h4];simp only[Bool.not_false,Bool.true_or,Bool.and_true,decide_eq_true_eq];unfold csgn at *;split at h1
  ·rename_i h5;exact absurd h1 h5
  ·rename_i h5;rw[if_neg h5];split at h1
   ·rename_i h6;rw[if_pos h6];have h7:=coinD_lt h6;simp only[];omega
   ·rename_i h6;exact absurd h1 h6
theorem rprove_num (att:Att) (N:NSta) (C K c:Nat) (W:List Int) (T:Tp) (v1 v2 v3 vw vt:Value) (w:World) (j0:RAtt att T.seed) (j1:T.Ok) (hC:C<256^16) (hK:K<256^16) (hm:NOk N) (hS:NAt w v1 v2 v3 N) (h0:N.chk=0)
  (jc:∀w',Bw w w'→Calls Tryz.prog 84 #[.agg #[.string (E C),.string (E K)],.agg #[v1,v2,v3]] w' (B2Post w' (N.lims C K)))
  (hW:ZsAt w vw W) (hV:SsAt w vt T.vals) (hc:c<256^100) (jd:W.length≤1000) (Hp:∀z∈W,z.natAbs<256^64) (j2:N.vars.any vz=true→0<N.ord) :
  Calls Tryz.prog 19 #[.agg #[.string (E C),.string (E K)],.agg #[v1,v2,v3],vw,.string (E c),.agg #[vt,.string T.seed,.int .i64 T.pos]] w (PPost w (E c) (N.prvR att C K c W T) (N.fstR (N.prvR att C K c W T)) (N.rspO c W (N.prvR att C K c W T))):=by
 obtain⟨RR,je⟩:∃r,r=N.prvR att C K c W T:=⟨_,rfl⟩;obtain⟨RF,Hr⟩:∃r,r=N.fstR RR:=⟨_,rfl⟩;obtain⟨RY,Hs⟩:∃r,r=N.rspO c W RR:=⟨_,rfl⟩;have j3:=Kh je;rw[←je,←Hr,←Hs]
 have Ht:Hid (∀k,k≠0→N.prvR att C K c W T=⟨k,[],Tp.nil⟩→RR=⟨k,[],Tp.nil⟩∧RF=[]∧RY=[]):=fun k hk h=>by
  have e:=je.trans h;exact⟨e,by rw[Hr,e];unfold NSta.fstR;rw[if_neg hk],by rw[Hs,e];unfold NSta.rspO;rw[if_neg hk]⟩
 have Hu:Hid (RR.err=0→RF=N.fstR RR∧RY=N.rspL c W RR.msk):=fun h=>⟨Hr,by rw[Hs];unfold NSta.rspO;rw[if_pos h]⟩
 have Hv:Hid (∀k,k≠0→RR=⟨k,[],Tp.nil⟩→RF=[]∧RY=[]):=fun k hk e=>⟨by rw[Hr,e];unfold NSta.fstR;rw[if_neg hk],by rw[Hs,e];unfold NSta.rspO;rw[if_neg hk]⟩
 clear je Hr Hs;have js:=Kh jc
 have jt:Hid (∀w',Bw w w'→Calls Tryz.prog 85 #[vw] w' fun e w''=>e=.returned (.bool true)∧Bw w' w''):=fun w' hb =>
  rformedV_c (W.map zI) vw true w' (by rw[List.length_map];exact jd) (fun x hx=>by obtain⟨z,ju,rfl⟩:=List.mem_map.1 hx;exact Nat.le_trans ((E_size_le _ 64).2 (Hp z ju)) (by decide)) (hW.after hb) (by rw[List.all_map,List.all_eq_true];intro z ju;exact ivB_I z (lt64 (Hp z ju)))
 have j4:Hid (∀w,Calls Tryz.prog 86 #[.string (E c)] w fun e w'=>e=.returned (.bool true)∧w=w'):=fun w=>rvalidE_c c w (Nl hc P8)
 have Hw:Hid (∀w,Calls Tryz.prog 87 #[.string (E c),.string (E C)] w fun e w'=>e=.returned (.int .i64 (cmpN c C))∧Bw w w'):=fun w=>rorder_c c C w (Nat.le_trans ((E_size_le _ 100).2 hc) (by decide)) (Nat.le_trans ((E_size_le _ 16).2 hC) (by decide))
 obtain⟨bi,jf⟩:∃b:Bool,b=ra N.vars.length (inJ N W):=⟨_,rfl⟩;have jg:=Kh jf;have jh:Hid (W.length=N.vars.length→∀w',Bw w w'→Calls Tryz.prog 88 #[.agg #[v1,v2,v3],vw] w' fun e w''=>e=.returned (.bool bi)∧Bw w' w''):=fun h w' hb=>by rw[jf];exact rinr16_c N W v1 v2 v3 vw w' hm (hS.after hb) (hW.after hb) Hp h
 obtain⟨bh,jv⟩:∃b:Bool,b=N.hldB W:=⟨_,rfl⟩;have jw:=Kh jv
 have ji:Hid (W.length=N.vars.length→∀w',Bw w w'→Calls Tryz.prog 60 #[.agg #[v1,v2,v3],vw] w' fun e w''=>e=.returned (.tuple #[.bool bh,.int .i64 0])∧Bw w' w''):=fun h w' hb=>by
  have h1:=rholds_c N W v1 v2 v3 vw w' hm (hS.after hb) (hW.after hb) Hp jd h0;rw[←jv,show N.hldE W=0 by unfold NSta.hldE;rw[if_neg (by omega)]]at h1;exact h1
 have j5:Hid (∀(Ti:Tp) (u:Value) w',RAtt att Ti.seed→Ti.Ok→Bw w w'→SsAt w' u Ti.vals→Calls Tryz.prog 89 #[.agg #[.string (E C),.string (E K)],.agg #[v1,v2,v3],.agg #[u,.string Ti.seed,.int .i64 Ti.pos]] w' (CMPost w' u (N.drwR att C K Ti) (N.fstR (N.drwR att C K Ti)))):=fun Ti u w' ha ho hb hu =>
  rcommit_num att N C K Ti v1 v2 v3 u w' ha ho hC hK hm (hS.after hb) h0 (fun w2 jx=>jc w2 (bt hb jx)) hu
 have jj:Hid (c<C→W.length=N.vars.length→bi=true→∀(M:List Int) (vm:Value) w',Bw w w'→ZsAt w' vm M→(∀z∈M,z.natAbs<256^64)→M.length=N.vars.length→ra N.vars.length (mkJ N C K M)=true→Calls Tryz.prog 90 #[.agg #[.string (E C),.string (E K)],.agg #[v1,v2,v3],vw,vm,.string (E c)] w' (EPost w' (N.rsp2 C K c W M) (N.rspR2 C K c W M))):=fun JA h1 hi M vm w' hb hz JB h2 hk=>by
  obtain⟨e1,e2⟩:=rspE_r (K:=K) h1 h2 JA (by rw[←jf];exact hi) hk;rw[←e1,←e2];exact rresp_num N C K c W M v1 v2 v3 vw vm w' hC hK hm (hS.after hb) (fun w2 jx=>jc w2 (bt hb jx)) (hW.after hb) hz hc jd (by have:=hm.nv;omega) Hp JB j2
 have j6:Hid (∀Ti,(N.drwR att C K Ti).err=0→(N.drwR att C K Ti).tp=Ti.on N.vars.length∧(N.drwR att C K Ti).msk.length=N.vars.length∧(∀z∈(N.drwR att C K Ti).msk,z.natAbs<256^64)∧ra N.vars.length (mkJ N C K (N.drwR att C K Ti).msk)=true):=fun Ti h=>by
  obtain⟨e,ha⟩:=drw_inv h;rw[e];exact⟨rfl,by simp[NSta.drwL],drw_size hm hC hK ha,drw_mk ha⟩
 have JC:=Kh j0;have JD:=Kh j1;obtain⟨a4,c4,rfl⟩:=hW.form;obtain⟨a5,c5,rfl⟩:=RAt.form hV;obtain⟨nt,j7⟩:∃n,n=T.vals.length:=⟨_,rfl⟩;rw[←j7]at hV ⊢;obtain⟨nw,jy⟩:∃n,n=W.length:=⟨_,rfl⟩;have j8:=Kh jy;rw[←jy]at hW jt jh ji jj ⊢;obtain⟨a1,c1,a2,c2,a3,c3,rfl,rfl,rfl⟩:=hS.forms;obtain⟨n1,jz⟩:∃n,n=N.grps.length:=⟨_,rfl⟩;obtain⟨n2,Hx⟩:∃n,n=N.vars.length:=⟨_,rfl⟩;obtain⟨n3,jA⟩:∃n,n=N.eqs.length:=⟨_,rfl⟩;have j9:=Kh Hx;rw[←jz,←Hx,←jA]at js j5 ⊢;rw[←jz,←Hx,←jA]at jh ji jj;rw[←Hx]at j6;clear hm jz Hx jA jy hC hK hc jc jd Hp j2 jf jv j0 j1 h0 hW j7 hS;obtain⟨hR,hP,hT,hF,hQ,hh⟩:=blk5 w #[.string (E C),.string (E K)] #[.slice a1 n1 c1,.slice a2 n2 c2,.slice a3 n3 c3] #[.slice a5 nt c5,.string T.seed,.int .i64 T.pos] #[.slice none 0 0,.string ⟨#[]⟩,.slice none 0 0] #[.slice none 0 0,.string ⟨#[]⟩,.int .i64 0] 24 29 33 40 33;go_enter Tryz.func19,Tryz.ntmps19
 go_upto_region 1 with fail
 have jk:∀g,w.heap.size≤g→FarS (.slice a5 nt c5) g:=fun g hg=>ss_far hV hg
 replace hV:=SsAt.after hV hh;generalize ((((w.alloc (.cells #[.string (E C),.string (E K)] 24)).alloc (.cells #[.slice a1 n1 c1,.slice a2 n2 c2,.slice a3 n3 c3] 29)).alloc (.cells #[.slice a5 nt c5,.string T.seed,.int .i64 T.pos] 33)).alloc (.cells #[.slice none 0 0,.string ⟨#[]⟩,.slice none 0 0] 40)).alloc (.cells #[.slice none 0 0,.string ⟨#[]⟩,.int .i64 0] 33)=w1 at hR hP hT hF hQ hh hV ⊢;obtain⟨gR,jB⟩:∃g,w.heap.size=g:=⟨_,rfl⟩;obtain⟨gS,jC⟩:∃g,w.heap.size+1=g:=⟨_,rfl⟩;obtain⟨gT,jD⟩:∃g,w.heap.size+1+1=g:=⟨_,rfl⟩;obtain⟨gF,jE⟩:∃g,w.heap.size+1+1+1=g:=⟨_,rfl⟩;obtain⟨gQ,jF⟩:∃g,w.heap.size+1+1+1+1=g:=⟨_,rfl⟩;rw[jF,jE,jD,jC,jB];rw[jB]at hR;rw[jC]at hP;rw[jD]at hT;rw[jE]at hF;rw[jF]at hQ;have he:Hid (w.heap.size≤gT∧w.heap.size≤gF∧w.heap.size≤gQ∧gS≠gT∧gF≠gT∧gQ≠gT∧gF≠gQ∧gR≠gT):=by rw[Hid];omega
 have Hy:=jk gT he.out.1;have Hz:=jk gF he.out.2.1;have HA:=jk gQ he.out.2.2.1;have h9:¬ gF=gQ:=he.out.2.2.2.2.2.2.1;have Hf:¬ gQ=gF:=fun e=>h9 e.symm
 clear jB jC jD jE jF jk;replace hR:Blk w1 gR 24 [.string (E C),.string (E K)]:=hR;replace hP:Blk w1 gS 29 [.slice a1 n1 c1,.slice a2 n2 c2,.slice a3 n3 c3]:=hP;replace hT:Blk w1 gT 33 [.slice a5 nt c5,.string T.seed,.int .i64 T.pos]:=hT;replace hF:Blk w1 gF 40 [.slice none 0 0,.string ⟨#[]⟩,.slice none 0 0]:=hF;replace hQ:Blk w1 gQ 33 [.slice none 0 0,.string ⟨#[]⟩,.int .i64 0]:=hQ;obtain⟨hE,hG,hH,hI⟩:=hR.x2;obtain⟨hj,hl,hn,hp,hq,hr⟩:=hP.x3;go_wp2_with fail
 refine (js.out _ hh).mono ?_;rintro e w2 ⟨lv,lu,rfl,h8,JE,hb⟩;clear hE hG hH hI;clear hj hl hn hp hq hr;clear h8 JE js;replace hR:=hR.after hb;replace hP:=hP.after hb;replace hT:=hT.after hb;replace hF:=hF.after hb;replace hQ:=hQ.after hb;replace hV:=SsAt.after hV hb;replace hh:=bt hh hb;clear hb;go_wp2_with fail
 refine (jt.out _ hh).mono ?_;rintro e w3 ⟨rfl,hb⟩;clear jt;replace hR:=hR.after hb;replace hP:=hP.after hb;replace hT:=hT.after hb;replace hF:=hF.after hb;replace hQ:=hQ.after hb;replace hV:=SsAt.after hV hb;replace hh:=bt hh hb;clear hb;go_wp2_with fail
 refine (j4.out _).mono ?_;rintro e w' ⟨rfl,rfl⟩;clear j4;by_cases HB:nw=n2
 ·have jl:Hid (W.length=N.vars.length):=by rw[Hid,←j8.out,←j9.out];exact HB
  have HC:=Kh (jh.out HB);have HD:=Kh (ji.out HB);clear jh ji;subst HB;rcases Nat.lt_or_ge c C with jG | jH
  ·have jm:=cmp_neg c C jG;have Hg:¬ 0≤cmpN c C:=by omega
   have hd:decide (0≤cmpN c C)=false:=decide_eq_false Hg;have jn:=Kh jG;clear jG jm;generalize cmpN c C=q at Hw hd Hg;have HE:=Kh (jj.out jn.out rfl);clear jj;obtain⟨hE,hG,hH,hI⟩:=hR.x2;obtain⟨hj,hl,hn,hp,hq,hr⟩:=hP.x3;go_wp2_with fail
   refine (Hw.out _).mono ?_;rintro e w' ⟨rfl,hb⟩;clear hE hG hH hI;clear hj hl hn hp hq hr;replace hR:=hR.after hb;replace hP:=hP.after hb;replace hT:=hT.after hb;replace hF:=hF.after hb;replace hQ:=hQ.after hb;replace hV:=SsAt.after hV hb;replace hh:=bt hh hb;clear hb;clear Hw;obtain⟨hE,hG,hH,hI⟩:=hR.x2;obtain⟨hj,hl,hn,hp,hq,hr⟩:=hP.x3;go_wp2_with fail
   refine (HC.out _ hh).mono ?_;rintro e w4 ⟨rfl,hb⟩;clear hE hG hH hI;clear hj hl hn hp hq hr;replace hR:=hR.after hb;replace hP:=hP.after hb;replace hT:=hT.after hb;replace hF:=hF.after hb;replace hQ:=hQ.after hb;replace hV:=SsAt.after hV hb;replace hh:=bt hh hb;clear hb;clear HC hd Hg;cases bi
   ·have HX:=Kh (Ht.out 2 (by decide) (prv_c (att:=att) (K:=K) (T:=T) jl.out jn.out jg.out.symm));have hL:=hF.lt;have hM:=hQ.lt;obtain⟨ht,hO,hv,hU,hw,hY⟩:=hF.x3;obtain⟨hy,hZ,hA,h3,hB,h4⟩:=hQ.x3;go_wp2;(try rw[Exit.noGoto_ret])
    refine bodyPost_ret (v:=.tuple #[.agg #[.slice none 0 0,.string ⟨#[]⟩,.slice none 0 0],.agg #[.slice none 0 0,.string ⟨#[]⟩,.int .i64 0],.int .i64 2]) ?_ rfl ?_
    ·simp[results,Tryz.results19,go_sem,ht,hv,hw,hy,hA,hB,hL,hM,h9,Hf]
    ·rw[HX.out.2.1,HX.out.2.2,HX.out.1];exact ppost_err (by decide) rfl rfl ((((((hh.setCell he.out.2.1 _).setCell he.out.2.1 _).setCell he.out.2.1 _).setCell he.out.2.2.1 _).setCell he.out.2.2.1 _).setCell he.out.2.2.1 _)
   ·have jI:=Kh (HE.out rfl);clear HE;obtain⟨hj,hl,hn,hp,hq,hr⟩:=hP.x3;go_wp2_with fail
    refine (HD.out _ hh).mono ?_;rintro e w5 ⟨rfl,hb⟩;clear hj hl hn hp hq hr;replace hR:=hR.after hb;replace hP:=hP.after hb;replace hT:=hT.after hb;replace hF:=hF.after hb;replace hQ:=hQ.after hb;replace hV:=SsAt.after hV hb;replace hh:=bt hh hb;clear hb;clear HD;cases bh
    ·have HX:=Kh (Ht.out 18 (by decide) (prv_d (att:=att) (K:=K) (T:=T) jl.out jn.out jg.out.symm jw.out.symm));have hL:=hF.lt;have hM:=hQ.lt;obtain⟨ht,hO,hv,hU,hw,hY⟩:=hF.x3;obtain⟨hy,hZ,hA,h3,hB,h4⟩:=hQ.x3;go_wp2;(try rw[Exit.noGoto_ret])
     refine bodyPost_ret (v:=.tuple #[.agg #[.slice none 0 0,.string ⟨#[]⟩,.slice none 0 0],.agg #[.slice none 0 0,.string ⟨#[]⟩,.int .i64 0],.int .i64 18]) ?_ rfl ?_
     ·simp[results,Tryz.results19,go_sem,ht,hv,hw,hy,hA,hB,hL,hM,h9,Hf]
     ·rw[HX.out.2.1,HX.out.2.2,HX.out.1];exact ppost_err (by decide) rfl rfl ((((((hh.setCell he.out.2.1 _).setCell he.out.2.1 _).setCell he.out.2.1 _).setCell he.out.2.2.1 _).setCell he.out.2.2.1 _).setCell he.out.2.2.1 _)
    ·have hN:Hid (RR=N.prv att C K c W 64 T):=j3.out.trans (prv_e (att:=att) (K:=K) (T:=T) jl.out jn.out jg.out.symm jw.out.symm);clear Ht j3 jg jw;have JL:Hid (gS<w5.heap.size∧gT<w5.heap.size∧gF<w5.heap.size∧gQ<w5.heap.size):=⟨hP.lt,hT.lt,hF.lt,hQ.lt⟩;go_wp2;go_loopw [18] (fun v wr=>∃(i:Nat) (Ti:Tp) (uo:Option Addr) (um uc:Nat),i≤64∧v=.int .i64 i∧Hid (RR=N.prv att C K c W (64-i) Ti∧Ti.seed=T.seed∧Ti.Ok)∧Blk wr gR 24 [.string (E C),.string (E K)]∧Blk wr gS 29 [.slice a1 n1 c1,.slice a2 nw c2,.slice a3 n3 c3]∧Blk wr gT 33 [.slice uo um uc,.string Ti.seed,.int .i64 Ti.pos]∧Blk wr gF 40 [.slice none 0 0,.string ⟨#[]⟩,.slice none 0 0]∧Blk wr gQ 33 [.slice none 0 0,.string ⟨#[]⟩,.int .i64 0]∧SsAt wr (.slice uo um uc) Ti.vals∧FarS (.slice uo um uc) gT∧FarS (.slice uo um uc) gF∧FarS (.slice uo um uc) gQ∧w5.heap.size≤wr.heap.size∧Bw w wr) (fun v _=>64-(intOf v).toNat)
     case atStart=>exact⟨0,T,a5,nt,c5,by omega,rfl,⟨hN.out,rfl,JD.out⟩,hR,hP,hT,hF,hQ,hV,Hy,Hz,HA,Nat.le_refl _,hh⟩
     case round =>
      clear hR hP hT hF hQ hV Hy Hz HA hh hN;obtain⟨i,Ti,uo,um,uc,hi,rfl,hN,hR,hP,hT,hF,hQ,hV,Ja,Jb,Jc,Jd,hh⟩:=hrel;obtain⟨wp,JF⟩:∃wp,wp=wr:=⟨_,rfl⟩;subst JF;by_cases hlt:i<64
      ·obtain⟨f,hf⟩:∃f,64-i=f+1:=⟨63-i,by omega⟩;have JG:Hid (64-(i+1)=f):=by rw[Hid];omega
       rw[hf]at hN;clear hf;have jo:=Kh (j5.out Ti _ wp (by rw[hN.out.2.1];exact JC.out) hN.out.2.2 hh hV);have HF:Hid ((N.drwR att C K Ti).err≠0→RR=⟨(N.drwR att C K Ti).err,[],Tp.nil⟩):=fun h=>hN.out.1.trans (prv_err h)
       have HG:Hid ((N.drwR att C K Ti).err=0→N.rsp2 C K c W (N.drwR att C K Ti).msk=0→RR=N.drwR att C K Ti):=fun h h2=>hN.out.1.trans (prv_done h h2)
       have HH:Hid ((N.drwR att C K Ti).err=0→N.rsp2 C K c W (N.drwR att C K Ti).msk≠0→RR=N.prv att C K c W f (N.drwR att C K Ti).tp):=fun h h2=>hN.out.1.trans (prv_next h h2)
       have HI:Hid ((N.drwR att C K Ti).err=0→(N.drwR att C K Ti).tp.seed=T.seed∧(N.drwR att C K Ti).tp.Ok∧(N.drwR att C K Ti).msk.length=nw∧(∀z∈(N.drwR att C K Ti).msk,z.natAbs<256^64)∧ra nw (mkJ N C K (N.drwR att C K Ti).msk)=true):=fun h=>by
        obtain⟨e1,e2,e3,e4⟩:=j6.out Ti h;rw[e1];exact⟨hN.out.2.1,hN.out.2.2.on _,e2,e3,e4⟩
       clear hN;obtain⟨D,hD⟩:∃D,D=N.drwR att C K Ti:=⟨_,rfl⟩;rw[←hD]at jo HF HG HH HI;clear hD;obtain⟨FD,jJ⟩:∃F,F=N.fstR D:=⟨_,rfl⟩;have JH:=Kh jJ;rw[←jJ]at jo;clear jJ;obtain⟨ke,M,tD⟩:=D;simp only[]at HF HG HH HI;have jp:=hT.lt;obtain⟨hE,hG,hH,hI⟩:=hR.x2;obtain⟨hj,hl,hn,hp,hq,hr⟩:=hP.x3;obtain⟨Hh,Hi,Hj,Hk,Hl,Hm⟩:=hT.x3;go_wp2_with fail
       refine jo.out.mono ?_;rintro e w6 ⟨mv,fv,u2,rfl,h8,Hq,HJ,HK,Je⟩;clear hE hG hH hI;clear hj hl hn hp hq hr;clear Hh Hi Hj Hk Hl Hm;simp only[]at h8 HJ HK ⊢;have f2T:=HK gT hT.lt Ja;have f2F:=HK gF hF.lt Jb;have f2Q:=HK gQ hQ.lt Jc;obtain⟨u2o,u2c,rfl⟩:=RAt.form HJ;obtain⟨ul,Jf⟩:∃l,l=tD.vals.length:=⟨_,rfl⟩;rw[←Jf]at HJ f2T f2F f2Q ⊢;obtain⟨mo,mc,rfl⟩:=h8.zs.form;obtain⟨ml,Jg⟩:∃l,l=M.length:=⟨_,rfl⟩;rw[←Jg]at h8 ⊢;obtain⟨fo,fc,rfl⟩:=RAt.form Hq.ss;obtain⟨fl,Jh⟩:∃l,l=(FD.map E).length:=⟨_,rfl⟩;rw[←Jh]at Hq ⊢;have jK:=hh.size;replace h8:=own_mono h8 jK;replace Hq:NOwn w6 w.heap.size (.slice fo fl fc) FD:=own_mono Hq jK;clear HK hV Ja Jb Jc jp Jf Jg Jh jo jK;have h6:=bt Je (b1 w6 (.cells #[.slice u2o ul u2c,.string tD.seed,.int .i64 tD.pos] 33));have hX:=Blk.new w6 #[.slice u2o ul u2c,.string tD.seed,.int .i64 tD.pos] 33;replace hR:=hR.after h6;replace hP:=hP.after h6;replace hT:=hT.after h6;replace hF:=hF.after h6;replace hQ:=hQ.after h6;replace hh:=bt hh h6;have jL:Hid (w5.heap.size≤w6.heap.size+1):=by have h:=Nat.le_trans Jd h6.size;rw[World.size_alloc]at h;exact h
       have jq:=SsAt.after HJ (b1 w6 (.cells #[.slice u2o ul u2c,.string tD.seed,.int .i64 tD.pos] 33));have HL:ZOwn _ w.heap.size (.slice mo ml mc) M:=own_after h8 (b1 w6 (.cells #[.slice u2o ul u2c,.string tD.seed,.int .i64 tD.pos] 33));have HM:NOwn _ w.heap.size (.slice fo fl fc) FD:=own_after Hq (b1 w6 (.cells #[.slice u2o ul u2c,.string tD.seed,.int .i64 tD.pos] 33));clear HJ h8 Hq Je Jd;by_cases HN:ke=0
       ·subst HN;have h5:=Kh (HI.out rfl);have HO:=Kh (HG.out rfl);have HP:=Kh (HH.out rfl);clear HF HG HH HI;go_upto_region 21 with fail
        generalize w6.alloc (.cells #[.slice u2o ul u2c,.string tD.seed,.int .i64 tD.pos] 33)=w7 at h6 hX hR hP hT hF hQ hh jq HL HM ⊢;obtain⟨gX,Ji⟩:∃g,w6.heap.size=g:=⟨_,rfl⟩;rw[Ji]at hX jL ⊢;clear Ji;replace hX:Blk w7 gX 33 [.slice u2o ul u2c,.string tD.seed,.int .i64 tD.pos]:=hX;have Jj:=hX.lt;have jp:=hT.lt;have jr:=own_ne HL hT (by decide);have Ha:=own_ne HM hT (by decide);have HQ:=((hR.other ⟨gT,0,none⟩ (.slice u2o ul u2c) he.out.2.2.2.2.2.2.2).other ⟨gT,1,none⟩ (.string tD.seed) he.out.2.2.2.2.2.2.2).other ⟨gT,2,none⟩ (.int .i64 tD.pos) he.out.2.2.2.2.2.2.2;have HR:=((hP.other ⟨gT,0,none⟩ (.slice u2o ul u2c) he.out.2.2.2.1).other ⟨gT,1,none⟩ (.string tD.seed) he.out.2.2.2.1).other ⟨gT,2,none⟩ (.int .i64 tD.pos) he.out.2.2.2.1;have Hb:=((hT.set 0 (.slice u2o ul u2c)).set 1 (.string tD.seed)).set 2 (.int .i64 tD.pos);have Hc:=((hF.other ⟨gT,0,none⟩ (.slice u2o ul u2c) he.out.2.2.2.2.1).other ⟨gT,1,none⟩ (.string tD.seed) he.out.2.2.2.2.1).other ⟨gT,2,none⟩ (.int .i64 tD.pos) he.out.2.2.2.2.1;have Hd:=((hQ.other ⟨gT,0,none⟩ (.slice u2o ul u2c) he.out.2.2.2.2.2.1).other ⟨gT,1,none⟩ (.string tD.seed) he.out.2.2.2.2.2.1).other ⟨gT,2,none⟩ (.int .i64 tD.pos) he.out.2.2.2.2.2.1;have jM:ZOwn (((w7.setCell ⟨gT,0,none⟩ (.slice u2o ul u2c)).setCell ⟨gT,1,none⟩ (.string tD.seed)).setCell ⟨gT,2,none⟩ (.int .i64 tD.pos)) w.heap.size (.slice mo ml mc) M:=own_set (own_set (own_set HL jr) jr) jr;have Hn:NOwn (((w7.setCell ⟨gT,0,none⟩ (.slice u2o ul u2c)).setCell ⟨gT,1,none⟩ (.string tD.seed)).setCell ⟨gT,2,none⟩ (.int .i64 tD.pos)) w.heap.size (.slice fo fl fc) FD:=own_set (own_set (own_set HM Ha) Ha) Ha;have HS:=((jq.set_far (i:=0) (x:=.slice u2o ul u2c) f2T).set_far (i:=1) (x:=.string tD.seed) f2T).set_far (i:=2) (x:=.int .i64 tD.pos) f2T;have hJ:=((hh.setCell (p:=⟨gT,0,none⟩) he.out.1 (.slice u2o ul u2c)).setCell (p:=⟨gT,1,none⟩) he.out.1 (.string tD.seed)).setCell (p:=⟨gT,2,none⟩) he.out.1 (.int .i64 tD.pos);have jN:Hid (w5.heap.size≤(((w7.setCell ⟨gT,0,none⟩ (.slice u2o ul u2c)).setCell ⟨gT,1,none⟩ (.string tD.seed)).setCell ⟨gT,2,none⟩ (.int .i64 tD.pos)).heap.size):=by rw[Hid];have h:=jL.out;have h2:=Jj;simp;omega
        obtain⟨jO,jP,jQ,jR,jS,jT⟩:=hX.x3;obtain⟨Hh,Hi,Hj,Hk,Hl,Hm⟩:=hT.x3;go_upto_region 22 with fail
        clear jO jP jQ jR jS jT;clear Hh Hi Hj Hk Hl Hm;clear h6 hX hR hP hT hF hQ hh jq HL HM Jj jp jr Ha jL;generalize ((w7.setCell ⟨gT,0,none⟩ (.slice u2o ul u2c)).setCell ⟨gT,1,none⟩ (.string tD.seed)).setCell ⟨gT,2,none⟩ (.int .i64 tD.pos)=w8 at HQ HR Hb Hc Hd jM Hn HS hJ jN ⊢;replace Hb:Blk w8 gT 33 [.slice u2o ul u2c,.string tD.seed,.int .i64 tD.pos]:=Hb;have Jk:=Kh (jI.out M _ w8 hJ jM.zs h5.out.2.2.2.1 h5.out.2.2.1 h5.out.2.2.2.2);obtain⟨HT,HU,HV,HW⟩:=HQ.x2;obtain⟨HY,HZ,H0,H1,H2,H3⟩:=HR.x3;go_wp2_with fail
        refine Jk.out.mono ?_;rintro e wA ⟨rv,rfl,He,h7⟩;clear HT HU HV HW;clear HY HZ H0 H1 H2 H3;obtain⟨ro,rc,rfl⟩:=He.zs.form;obtain⟨rl,Jl⟩:∃l,l=(N.rspR2 C K c W M).length:=⟨_,rfl⟩;rw[←Jl]at He ⊢;replace HQ:=HQ.after h7;replace HR:=HR.after h7;replace Hb:=Hb.after h7;replace Hc:=Hc.after h7;replace Hd:=Hd.after h7;replace HS:=SsAt.after HS h7;have jU:NOwn wA w.heap.size (.slice fo fl fc) FD:=own_after Hn h7;have Jm:=hJ.size;replace He:ZOwn wA w.heap.size (.slice ro rl rc) (N.rspR2 C K c W M):=own_mono He Jm;replace hJ:=bt hJ h7;have JI:Hid (w5.heap.size≤wA.heap.size):=Nat.le_trans jN.out h7.size;clear h7 Jk Hn jM jN Jl Jm
        have H4:Hid (N.rsp2 C K c W M=0∨N.rsp2 C K c W M=15):=by
         unfold Hid NSta.rsp2;split
         ·exact .inr rfl
         ·exact .inl rfl
        have Jn:Hid (N.rsp2 C K c W M=0→N.rspR2 C K c W M=N.rspL c W M):=fun h=>by unfold NSta.rspR2;rw[if_pos h]
        generalize N.rsp2 C K c W M=r2 at H4 Jn HO HP ⊢;rcases H4.out with jV | jV
        ·subst jV;have Ho:=Kh (HO.out rfl);have jW:=Kh (Jn.out rfl);rw[jW.out]at He;have Ha:=own_ne jU Hc (by decide);have jX:=own_ne jU Hd (by decide);have jY:=own_ne He Hc (by decide);have jZ:=own_ne He Hd (by decide);have jp:=Hb.lt;have hL:=Hc.lt;have hM:=Hd.lt;have n1':¬ gT=gF:=fun e=>he.out.2.2.2.2.1 e.symm
         have n2':¬ gT=gQ:=fun e=>he.out.2.2.2.2.2.1 e.symm
         obtain⟨Jo,Jp,Jq,Jr,Js,Jt⟩:=Hb.x3;obtain⟨H5,Ju,H6,Jv,H7,Jw⟩:=Hc.x3;obtain⟨H8,Jx,H9,Jy,ja,Jz⟩:=Hd.x3;go_wp2_with fail
         go_region;go_wp2;(try rw[Exit.noGoto_ret])
         refine bodyPost_ret (v:=.tuple #[.agg #[.slice fo fl fc,.string (E c),.slice ro rl rc],.agg #[.slice u2o ul u2c,.string tD.seed,.int .i64 tD.pos],.int .i64 0]) ?_ rfl ?_
         ·simp[results,Tryz.results19,go_sem,H5,H6,H7,H8,H9,ja,hL,hM,h9,Hf]
         ·rw[(Hu.out (by rw[Ho.out])).1,(Hu.out (by rw[Ho.out])).2,Ho.out,←JH.out];exact⟨_,_,_,_,rfl,rfl,World.ownsRow.drew (own_set (own_set (own_set (own_set (own_set (own_set jU Ha) Ha) Ha) jX) jX) jX),World.ownsRow.drew (own_set (own_set (own_set (own_set (own_set (own_set He jY) jY) jY) jZ) jZ) jZ),SsAt.after ((((((HS.set_far f2F).set_far f2F).set_far f2F).set_far f2Q).set_far f2Q).set_far f2Q) (Below.drew Br),((((((hJ.setCell he.out.2.1 _).setCell he.out.2.1 _).setCell he.out.2.1 _).setCell he.out.2.2.1 _).setCell he.out.2.2.1 _).setCell he.out.2.2.1 _).drew⟩
        ·subst jV;have JJ:=Kh (HP.out (by decide));go_wp2;go_roundw
         case rel=>exact⟨i+1,tD,u2o,ul,u2c,by omega,by go_num,⟨by rw[JG.out];exact JJ.out,h5.out.1,h5.out.2.1⟩,HQ,HR,Hb,Hc,Hd,HS,f2T,f2F,f2Q,JI.out,hJ⟩
         case measure=>simp[intOf];omega
       ·have JM:((ke:Int) != 0)=true:=by rw[bne_iff_ne];omega
        have jb:=Kh (HF.out HN);have HX:Hid (RR=⟨ke,[],Tp.nil⟩∧RF=[]∧RY=[]):=⟨jb.out,Hv.out ke HN jb.out⟩;have JK:=Kh HN;clear HN HF HG HH HI jq HL HM hX h6 hP hT hR;have hL:=hF.lt;have hM:=hQ.lt;obtain⟨ht,hO,hv,hU,hw,hY⟩:=hF.x3;obtain⟨hy,hZ,hA,h3,hB,h4⟩:=hQ.x3;go_wp2;(try rw[Exit.noGoto_ret])
        refine bodyPost_ret (v:=.tuple #[.agg #[.slice none 0 0,.string ⟨#[]⟩,.slice none 0 0],.agg #[.slice none 0 0,.string ⟨#[]⟩,.int .i64 0],.int .i64 (ke:Int)]) ?_ rfl ?_
        ·simp[results,Tryz.results19,go_sem,ht,hv,hw,hy,hA,hB,hL,hM,h9,Hf]
        ·rw[HX.out.2.1,HX.out.2.2,HX.out.1];exact ppost_err JK.out rfl rfl ((((((hh.setCell he.out.2.1 _).setCell he.out.2.1 _).setCell he.out.2.1 _).setCell he.out.2.2.1 _).setCell he.out.2.2.1 _).setCell he.out.2.2.1 _)
      ·obtain rfl:i=64:=by omega
       have jb:Hid (RR=⟨15,[],Tp.nil⟩):=hN.out.1;have HX:Hid (RR=⟨15,[],Tp.nil⟩∧RF=[]∧RY=[]):=⟨jb.out,Hv.out 15 (by decide) jb.out⟩;have hL:=hF.lt;have hM:=hQ.lt;obtain⟨ht,hO,hv,hU,hw,hY⟩:=hF.x3;obtain⟨hy,hZ,hA,h3,hB,h4⟩:=hQ.x3;go_wp2;(try rw[Exit.noGoto_ret])
       refine bodyPost_ret (v:=.tuple #[.agg #[.slice none 0 0,.string ⟨#[]⟩,.slice none 0 0],.agg #[.slice none 0 0,.string ⟨#[]⟩,.int .i64 0],.int .i64 15]) ?_ rfl ?_
       ·simp[results,Tryz.results19,go_sem,ht,hv,hw,hy,hA,hB,hL,hM,h9,Hf]
       ·rw[HX.out.2.1,HX.out.2.2,HX.out.1];exact ppost_err (by decide) rfl rfl ((((((hh.setCell he.out.2.1 _).setCell he.out.2.1 _).setCell he.out.2.1 _).setCell he.out.2.2.1 _).setCell he.out.2.2.1 _).setCell he.out.2.2.1 _)
  ·have jm:0≤cmpN c C:=by have:=cmp_nneg c C jH;omega
   have hd:decide (0≤cmpN c C)=true:=Dt jm;have HX:=Kh (Ht.out 2 (by decide) (prv_b (att:=att) (K:=K) (T:=T) jl.out jH));clear jH;generalize cmpN c C=q at Hw hd jm;obtain⟨hE,hG,hH,hI⟩:=hR.x2;obtain⟨hj,hl,hn,hp,hq,hr⟩:=hP.x3;go_wp2_with fail
   refine (Hw.out _).mono ?_;rintro e w' ⟨rfl,hb⟩;clear hE hG hH hI;clear hj hl hn hp hq hr;replace hR:=hR.after hb;replace hP:=hP.after hb;replace hT:=hT.after hb;replace hF:=hF.after hb;replace hQ:=hQ.after hb;replace hV:=SsAt.after hV hb;replace hh:=bt hh hb;clear hb;have hL:=hF.lt;have hM:=hQ.lt;obtain⟨ht,hO,hv,hU,hw,hY⟩:=hF.x3;obtain⟨hy,hZ,hA,h3,hB,h4⟩:=hQ.x3;go_wp2;(try rw[Exit.noGoto_ret])
   refine bodyPost_ret (v:=.tuple #[.agg #[.slice none 0 0,.string ⟨#[]⟩,.slice none 0 0],.agg #[.slice none 0 0,.string ⟨#[]⟩,.int .i64 0],.int .i64 2]) ?_ rfl ?_
   ·simp[results,Tryz.results19,go_sem,ht,hv,hw,hy,hA,hB,hL,hM,h9,Hf]
   ·rw[HX.out.2.1,HX.out.2.2,HX.out.1];exact ppost_err (by decide) rfl rfl ((((((hh.setCell he.out.2.1 _).setCell he.out.2.1 _).setCell he.out.2.1 _).setCell he.out.2.2.1 _).setCell he.out.2.2.1 _).setCell he.out.2.2.1 _)
 ·have JN:((nw:Int) != (n2:Int))=true:=by rw[bne_iff_ne];omega
  have HX:=Kh (Ht.out 6 (by decide) (prv_a (att:=att) (C:=C) (K:=K) (c:=c) (T:=T) (by rw[←j8.out,←j9.out];exact HB)));obtain⟨hj,hl,hn,hp,hq,hr⟩:=hP.x3;have hL:=hF.lt;have hM:=hQ.lt;obtain⟨ht,hO,hv,hU,hw,hY⟩:=hF.x3;obtain⟨hy,hZ,hA,h3,hB,h4⟩:=hQ.x3;go_wp2;(try rw[Exit.noGoto_ret])
  refine bodyPost_ret (v:=.tuple #[.agg #[.slice none 0 0,.string ⟨#[]⟩,.slice none 0 0],.agg #[.slice none 0 0,.string ⟨#[]⟩,.int .i64 0],.int .i64 6]) ?_ rfl ?_
  ·simp[results,Tryz.results19,go_sem,ht,hv,hw,hy,hA,hB,hL,hM,h9,Hf]
  ·rw[HX.out.2.1,HX.out.2.2,HX.out.1];exact ppost_err (by decide) rfl rfl ((((((hh.setCell he.out.2.1 _).setCell he.out.2.1 _).setCell he.out.2.1 _).setCell he.out.2.2.1 _).setCell he.out.2.2.1 _).setCell he.out.2.2.1 _)
end
end Go.Proofs.YtihjpddbjhcbmaaGreatDoor
