import Derived.Test.YtihjpddbjhcbmaaGreatDoorLdv2
import Derived.Test.YtihjpddbjhcbmaaGreatDoorSat1
set_option linter.unusedVariables false
set_option linter.unusedSimpArgs false
set_option maxRecDepth 100000
set_option maxHeartbeats 16000000
namespace Go.Proofs.YtihjpddbjhcbmaaGreatDoor
section
open Go.RowKit Go.Shelf
theorem imodA_aux (b:Bool) (n m:Nat) (w:World) (hn:n<256^128) (hm:m<256^128) (h0:0<m) (hv:ivB b (E n)=true) (r:Nat) (hr:r=if b=true∧n%m≠0 then m-n%m else n%m) :
  Calls Tryz.prog 183 #[.agg #[.bool b,.string (E n)],.string (E m)] w fun e w'=>e=.returned (.tuple #[.string (E r),.int .i64 0])∧Bw w w':=by
 have HN:=Kh hn;have HM:=Kh hm;have H0:=Kh h0;have HV:=Kh hv;have hk:=nzE h0;have hA:=Blk.new w #[Value.bool b,Value.string (E n)] 74;have hh:=Kh (Nat.mod_lt n h0);clear hn hm h0 hv;cases b
 ·have HR:Hid (r=n%m):=by rw[Hid,hr];simp
  clear hr;go_enter Tryz.func183,Tryz.ntmps183
  go_wp2_with fail
  refine (ivalidT_c false n _ HN.out HV.out).mono ?_;rintro e w1 ⟨rfl,hf⟩;replace hA:=hA.after hf;obtain⟨hb,hc,hd,he⟩:=hA.x2;go_wp2_with fail
  refine (validE_c m _ HM.out).mono ?_;rintro e w' ⟨rfl,rfl⟩;go_wp2_with fail
  refine (divmodA_c n m _ HN.out HM.out H0.out).mono ?_;rintro e w2 ⟨rfl,hg⟩;clear hb hc hd he;replace hA:=hA.after hg;obtain⟨hb,hc,hd,he⟩:=hA.x2;go_wp2;go_ret2
  exact⟨r2 (vE HR.out.symm) rfl,bt (bt (b1 _ _) hf) hg⟩
 ·by_cases hz:n%m=0
  ·have HR:Hid (r=n%m):=by rw[Hid,hr];simp[hz]
   have hi:=zE hz;clear hr hz;go_enter Tryz.func183,Tryz.ntmps183
   go_wp2_with fail
   refine (ivalidT_c true n _ HN.out HV.out).mono ?_;rintro e w1 ⟨rfl,hf⟩;replace hA:=hA.after hf;obtain⟨hb,hc,hd,he⟩:=hA.x2;go_wp2_with fail
   refine (validE_c m _ HM.out).mono ?_;rintro e w' ⟨rfl,rfl⟩;go_wp2_with fail
   refine (divmodA_c n m _ HN.out HM.out H0.out).mono ?_;rintro e w2 ⟨rfl,hg⟩;clear hb hc hd he;replace hA:=hA.after hg;obtain⟨hb,hc,hd,he⟩:=hA.x2;go_wp2;go_ret2
   exact⟨r2 (vE HR.out.symm) rfl,bt (bt (b1 _ _) hf) hg⟩
  ·have HR:Hid (r=m-n%m):=by rw[Hid,hr];simp[hz]
   have hi:=nzE (Nat.pos_of_ne_zero hz);clear hr hz;go_enter Tryz.func183,Tryz.ntmps183
   go_wp2_with fail
   refine (ivalidT_c true n _ HN.out HV.out).mono ?_;rintro e w1 ⟨rfl,hf⟩;replace hA:=hA.after hf;obtain⟨hb,hc,hd,he⟩:=hA.x2;go_wp2_with fail
   refine (validE_c m _ HM.out).mono ?_;rintro e w' ⟨rfl,rfl⟩;go_wp2_with fail
   refine (divmodA_c n m _ HN.out HM.out H0.out).mono ?_;rintro e w2 ⟨rfl,hg⟩;clear hb hc hd he;replace hA:=hA.after hg;obtain⟨hb,hc,hd,he⟩:=hA.x2;go_wp2_with fail
   refine (sub_c m (n%m) _ HM.out (Nat.le_of_lt hh.out)).mono ?_;rintro e w3 ⟨rfl,hj⟩;go_wp2;go_ret2
   exact⟨r2 (vE HR.out.symm) rfl,bt (bt (bt (b1 _ _) hf) hg) hj⟩
theorem imodA_c (z:Int) (m:Nat) (w:World) (hz:z.natAbs<256^128) (hm:m<256^128) (h0:0<m) :
  Calls Tryz.prog 183 #[.agg #[.bool (sg (z)),.string (E (z).natAbs)],.string (E m)] w fun e w'=>e=.returned (.tuple #[.string (E (z%(m:Int)).toNat),.int .i64 0])∧Bw w w':=
 imodA_aux (sg z) z.natAbs m w hz hm h0 (ivB_I z hz) _ (emod_if z m h0)
end
section
open Go.RowKit Go.Shelf
end
section
open Go.RowKit Go.Shelf
theorem ra_succ (n:Nat) (p:Nat→Bool):ra (n+1) p=(ra n p&&p n):=by
 unfold ra;rw[List.range_succ,List.all_append];simp
theorem fromN (c:Nat) (w:World) (hc:c<256^128):Calls Tryz.prog 100 #[.string (E c)] w fun e w'=>e=.returned (.agg #[.bool false,.string (E c)])∧Bw w w':=by
 have h:=ifrom_c c w hc;rwa [Int.natAbs_natCast,sg_nat]at h
theorem ready6_c (N:NSta) (Z:List Int) (v1 v2 v3 v4:Value) (w:World) (hm:NOk N) (hS:NAt w v1 v2 v3 N) (hZ:ZsAt w v4 Z) (hz:∀z∈Z,z.natAbs<256^128) (hl:Z.length≠N.vars.length) (ht:Z.length≤1000) (hc:N.chk=0) :
  Calls Tryz.prog 110 #[.agg #[v1,v2,v3],v4] w fun e w'=>e=.returned (.int .i64 6)∧Bw w w':=by
 obtain⟨a4,c4,rfl⟩:=hZ.form;obtain⟨nz,hr⟩:∃n,n=Z.length:=⟨_,rfl⟩;have hw:=Kh hr;rw[←hr]at ht hl hZ ⊢;have hx:=Kh hz;have hy:=Kh hc;clear hz hc hr;obtain⟨a1,c1,a2,c2,a3,c3,rfl,rfl,rfl⟩:=hS.forms;obtain⟨n1,ho⟩:∃n,n=N.grps.length:=⟨_,rfl⟩;obtain⟨n2,hj⟩:∃n,n=N.vars.length:=⟨_,rfl⟩;obtain⟨n3,hp⟩:∃n,n=N.eqs.length:=⟨_,rfl⟩;have hD:=Kh ho;have hE:=Kh hj;have hF:=Kh hp;have l1:n1≤10:=by rw[ho];exact hm.ng
 have l2:n2≤12:=by rw[hj];exact hm.nv
 have l3:n3≤12:=by rw[hp];exact hm.ne
 have HM:=Kh hm;rw[←hj]at hl;have hG:¬ (nz:Int)=(n2:Int):=by omega
 rw[←ho,←hj,←hp]at hS ⊢;clear hm ho hj hp hl;obtain⟨hP,hi⟩:=blk1 w #[.slice a1 n1 c1,.slice a2 n2 c2,.slice a3 n3 c3] 29;replace hS:=hS.after hi;replace hZ:=hZ.after (b1 w (.cells #[.slice a1 n1 c1,.slice a2 n2 c2,.slice a3 n3 c3] 29));obtain⟨hb,hd,he,hf,hg,hh⟩:=hP.x3;go_enter Tryz.func110,Tryz.ntmps110
 go_wp2_with fail
 refine (form0_c N _ _ _ _ HM.out hS).mono ?_;rintro e w2 ⟨rfl,hn⟩;clear hb hd he hf hg hh;replace hP:=hP.after hn;replace hS:=hS.after hn;replace hZ:=hZ.after hn;replace hi:=bt hi hn;clear hn;have hu:=hP.lt
 have hv:Hid (Calls Tryz.prog 173 #[.slice a4 nz c4,.func (.func 206) #[] #[]] w2 fun e w''=>e=.returned (.bool false)∧Bw w2 w''):=by
  refine cont_rdi (Z.map zI) (fun _=>false) _ _ w2 (by rw[List.length_map,←hw.out];exact ht) hZ (any_false _) ?_;intro k hk w5 hH;have hA:k<Z.length:=by simpa using hk
  simp only[List.getElem_map,zI];exact rdi1_c _ _ (hx.out _ (Gm hA))
 obtain⟨hb,hd,he,hf,hg,hh⟩:=hP.x3;go_wp2_with fail
 refine hv.out.mono ?_;rintro e w3 ⟨rfl,hq⟩;clear hb hd he hf hg hh;clear hv;replace hP:=hP.after hq;replace hS:=hS.after hq;replace hi:=bt hi hq;clear hq hu;have hu:=hP.lt
 have hB:Hid (Calls Tryz.prog 177 #[.agg #[.slice a1 n1 c1,.slice a2 n2 c2,.slice a3 n3 c3]] w3 fun e w'=>e=.returned (.int .i64 0)∧Bw w3 w'):=by
  have h:=check_c N _ _ _ w3 HM.out hS;rw[hy.out]at h;exact h
 obtain⟨hb,hd,he,hf,hg,hh⟩:=hP.x3;go_wp2_with fail
 refine hB.out.mono ?_;rintro e w4 ⟨rfl,hb4⟩;clear hb hd he hf hg hh;replace hP:=hP.after hb4;have hC:=hP.lt;obtain⟨hb,hd,he,hf,hg,hh⟩:=hP.x3;go_wp2;go_ret
 exact⟨rfl,bt hi hb4⟩
def inJ (N:NSta) (Z:List Int) (j:Nat):Bool:=blw (N.vars.getD j 0) (Z.getD j 0) (if N.vars.getD j 0=0 then N.ord else N.vars.getD j 0)
theorem inJ_at (N:NSta) (Z:List Int) (j:Nat) (h:j<N.vars.length) (h2:j<Z.length):inJ N Z j=blw N.vars[j] Z[j] (if N.vars[j]=0 then N.ord else N.vars[j]):=by
 unfold inJ;simp only[List.getD_eq_getElem?_getD,List.getElem?_eq_getElem h,List.getElem?_eq_getElem h2,Option.getD_some]
theorem inRange_c (N:NSta) (Z:List Int) (v1 v2 v3 v4:Value) (w:World) (hm:NOk N) (hS:NAt w v1 v2 v3 N) (hZ:ZsAt w v4 Z) (hz:∀z∈Z,z.natAbs<256^64) (hl:Z.length=N.vars.length) :
  Calls Tryz.prog 111 #[.agg #[v1,v2,v3],v4] w fun e w'=>e=.returned (.bool (ra N.vars.length (inJ N Z)))∧Bw w w':=by
 obtain⟨r,hr⟩:∃r:Bool,r=ra N.vars.length (inJ N Z):=⟨_,rfl⟩;have ho:=Kh hr;rw[←hr];clear hr;have hM:Hid (∀w',Bw w w'→Calls Tryz.prog 207 #[.agg #[v1,v2,v3]] w' fun e w''=>e=.returned (.string (E N.ord))∧Bw w' w''):=fun w' hb=>order_c N v1 v2 v3 w' hm (hS.after hb)
 have HQ:=Kh (ord_lt hm);have h7:=Kh hm.v;have h8:=Kh hz;obtain⟨qo,hN⟩:∃q,q=N.ord:=⟨_,rfl⟩;have h9:=Kh hN;rw[←hN]at hM HQ;obtain⟨a4,c4,rfl⟩:=hZ.form;rw[hl]at hZ ⊢;have HL:=Kh hl;obtain⟨a1,c1,a2,c2,a3,c3,rfl,rfl,rfl⟩:=hS.forms;obtain⟨n1,h1⟩:∃n,n=N.grps.length:=⟨_,rfl⟩;obtain⟨n2,hF⟩:∃n,n=N.vars.length:=⟨_,rfl⟩;obtain⟨n3,h2⟩:∃n,n=N.eqs.length:=⟨_,rfl⟩;have h3:=Kh hF;have l2:n2≤12:=by rw[hF];exact hm.nv
 rw[←h1,←hF,←h2]at hS hM ⊢;rw[←hF]at hZ;clear hm h1 hF h2 hz hl hN;obtain⟨hP,hw⟩:=blk1 w #[.slice a1 n1 c1,.slice a2 n2 c2,.slice a3 n3 c3] 29;replace hS:=hS.after hw;replace hZ:=hZ.after hw;obtain⟨hO,hQ,hR,hT,hU,hW⟩:=hP.x3;go_enter Tryz.func111,Tryz.ntmps111
 go_wp2;clear hO hQ hR hT hU hW;generalize Ha:w.alloc (.cells #[.slice a1 n1 c1,.slice a2 n2 c2,.slice a3 n3 c3] 29)=w1 at hP hw hS hZ;replace hP:Blk w1 w.heap.size 29 [.slice a1 n1 c1,.slice a2 n2 c2,.slice a3 n3 c3]:=hP;clear Ha;go_loopw [11] (fun i wr=>∃k:Nat,k≤n2∧i=.int .i64 k∧Hid (ra k (inJ N Z)=true)∧Bw w1 wr) (fun i _=>n2-(intOf i).toNat)
 case atStart=>exact⟨0,by omega,rfl,rfl,Br⟩
 case round =>
  obtain⟨k,hk,rfl,h4,hC⟩:=hrel;obtain⟨wp,Hb⟩:∃wp,wp=wr:=⟨_,rfl⟩;subst Hb;have hG:=bt hw hC;have h5:=hP.after hC;by_cases hlt:k<n2
  ·have hD:k<N.vars.length:=by rw[←h3.out];exact hlt
   have hI:k<Z.length:=by rw[HL.out];exact hD
   obtain⟨bv,ov,rfl,Hc,x1⟩:=(hS.after hC).vat hD;obtain⟨bz,oz,rfl,hJ,z1,z2⟩:=(hZ.after hC).at_ hI;have hX:=Kh (h8.out _ (Gm hI));have h6:=Kh (h7.out _ (Gm hD));have ht:=Kh (inJ_at N Z k hD hI);rw[←h9.out]at ht;have hY:Hid (ra (k+1) (inJ N Z)=inJ N Z k):=by rw[Hid,ra_succ,h4.out];rfl
   have hK:Hid (inJ N Z k=false→ra N.vars.length (inJ N Z)=false):=fun h=>ra_false hD h
   generalize (N.vars[k]'hD)=vb at x1 ht h6;generalize (Z[k]'hI)=lz at z1 z2 ht hX;generalize inJ N Z k=bl at ht hY hK;have Hg:(0:Int)≤(k:Int):=by omega
   have Hh:(k:Int)<(n2:Int):=by omega
   obtain⟨hV,hu⟩:=blk1 wp #[.string (E vb)] 71;have zz1:=(hu.cell (p:=⟨bz,oz+k*2,none⟩) hJ).trans z1;have zz2:=(hu.cell (p:=⟨bz,oz+k*2+1,none⟩) hJ).trans z2;have hL:=h5.after hu;have hp:=Nl hJ hu.size;by_cases hv:vb=0
   ·have Hd:=zE hv;have he:Hid (bl=blw 0 lz qo):=by rw[Hid,ht.out,if_pos hv,hv]
    clear hv ht;obtain⟨hx,hy⟩:=hV.x1;obtain⟨hf,hg,hh,hi,hj,hn⟩:=hL.x3;go_wp2_with fail
    refine (hM.out _ (bt hG hu)).mono ?_;rintro e w2 ⟨rfl,hH⟩;clear hx hy;clear hf hg hh hi hj hn;have hE:=bt (bt hC hu) hH;have q1:=(hH.cell (p:=⟨bz,oz+k*2,none⟩) hp).trans zz1;have q2:=(hH.cell (p:=⟨bz,oz+k*2+1,none⟩) hp).trans zz2;have He:=Nl hp hH.size;clear x1 z1 z2 zz1 zz2 hV hL hu hH h5 Hc hJ hp;obtain⟨s,hs⟩:∃s,s=sg lz:=⟨_,rfl⟩;have HS:=Kh hs;rw[←hs]at q1;clear hs;cases s
    ·have hA:Hid (∀w,Calls Tryz.prog 34 #[.string (E lz.natAbs),.string (E qo)] w fun e w'=>e=.returned (.int .i64 (cmpN lz.natAbs qo))∧w=w'):=fun w=>cmp_c _ _ w (lt64 hX.out) (lt128 HQ.out)
     obtain⟨c1',hc⟩:∃q:Int,q=cmpN lz.natAbs qo:=⟨_,rfl⟩;rw[←hc]at hA;by_cases hq:lz.natAbs<qo
     ·have hd:decide (0≤c1')=false:=decide_eq_false (by rw[hc];have:=cmp_neg _ _ hq;omega);have h0:Hid (bl=true):=by rw[Hid,he.out,blw_zero hq,←HS.out];rfl
      clear hq hc he HS;go_wp2_with fail
      refine (hA.out _).mono ?_;rintro e w' ⟨rfl,rfl⟩;go_wp2;go_roundw
      case rel=>exact⟨k+1,by omega,by go_num,by rw[Hid,hY.out,h0.out],hE⟩
      case measure=>simp[intOf];omega
     ·have hd:decide (0≤c1')=true:=Dt (by rw[hc];have:=cmp_nneg lz.natAbs qo (by omega);omega);have hB:Hid (r=false):=by rw[Hid,ho.out];exact hK.out (by rw[he.out];exact blw_ge (by omega))
      clear hq hc he HS;go_wp2_with fail
      refine (hA.out _).mono ?_;rintro e w' ⟨rfl,rfl⟩;go_wp2;go_ret
      rw[hB.out];exact⟨rfl,bt hw hE⟩
    ·have hB:Hid (r=false):=by
      rw[Hid,ho.out];refine hK.out ?_;rw[he.out];unfold blw;rw[←HS.out,show vz 0=true from rfl];simp
     clear he HS;go_wp2;go_ret
     rw[hB.out];exact⟨rfl,bt hw hE⟩
   ·have Hd:=nzE (Nat.pos_of_ne_zero hv);have he:Hid (bl=blw vb lz vb):=by rw[Hid,ht.out,if_neg hv]
    have Hf:Hid (0<vb):=Nat.pos_of_ne_zero hv;clear hv ht;have hA:Hid (∀w,Calls Tryz.prog 34 #[.string (E lz.natAbs),.string (E vb)] w fun e w'=>e=.returned (.int .i64 (cmpN lz.natAbs vb))∧w=w'):=fun w=>cmp_c _ _ w (lt64 hX.out) (Nl h6.out P8)
    obtain⟨c1',hc⟩:∃q:Int,q=cmpN lz.natAbs vb:=⟨_,rfl⟩;rw[←hc]at hA;have hE:=bt hC hu;by_cases hq:lz.natAbs<vb
    ·have hd:decide (0≤c1')=false:=decide_eq_false (by rw[hc];have:=cmp_neg _ _ hq;omega);have h0:Hid (bl=true):=by rw[Hid,he.out];exact blw_pos hq Hf.out
     clear hq hc he;obtain⟨hx,hy⟩:=hV.x1;obtain⟨hf,hg,hh,hi,hj,hn⟩:=hL.x3;go_wp2_with fail
     refine (hA.out _).mono ?_;rintro e w' ⟨rfl,rfl⟩;go_wp2;go_roundw
     case rel=>exact⟨k+1,by omega,by go_num,by rw[Hid,hY.out,h0.out],hE⟩
     case measure=>simp[intOf];omega
    ·have hd:decide (0≤c1')=true:=Dt (by rw[hc];have:=cmp_nneg lz.natAbs vb (by omega);omega);have hB:Hid (r=false):=by rw[Hid,ho.out];exact hK.out (by rw[he.out];exact blw_ge (by omega))
     clear hq hc he;obtain⟨hx,hy⟩:=hV.x1;obtain⟨hf,hg,hh,hi,hj,hn⟩:=hL.x3;go_wp2_with fail
     refine (hA.out _).mono ?_;rintro e w' ⟨rfl,rfl⟩;go_wp2;go_ret
     rw[hB.out];exact⟨rfl,bt hw hE⟩
  ·obtain rfl:n2=k:=by omega
   have hB:Hid (r=true):=by rw[Hid,ho.out,←h3.out];exact h4.out
   go_wp2;go_ret
   rw[hB.out];exact⟨rfl,hG⟩
def NSta.hldE (N:NSta) (Z:List Int):Nat:=if Z.length≠N.vars.length then 6 else 0
def NSta.hldB (N:NSta) (Z:List Int):Bool:=decide (Z.length=N.vars.length)&&(ra N.vars.length (inJ N Z)&&decide (N.imgs Z=N.eqs.map (·.tgt)))
theorem holds_c (N:NSta) (Z:List Int) (v1 v2 v3 v4:Value) (w:World) (hm:NOk N) (hS:NAt w v1 v2 v3 N) (hZ:ZsAt w v4 Z) (hz:∀z∈Z,z.natAbs<256^64) (hR:Z.length≤1000) (hc:N.chk=0) :
  Calls Tryz.prog 30 #[.agg #[v1,v2,v3],v4] w fun e w'=>e=.returned (.tuple #[.bool (N.hldB Z),.int .i64 (N.hldE Z:Nat)])∧Bw w w':=by
 obtain⟨hP,hn⟩:=blk1 w #[v1,v2,v3] 29;by_cases hl:Z.length=N.vars.length
 ·have hv:N.hldE Z=0:=if_neg (fun h=>h hl);rw[hv];clear hv;obtain⟨r,hr⟩:∃r:Bool,r=N.hldB Z:=⟨_,rfl⟩;have ht:=Kh hr;rw[←hr];clear hr;have hw:Hid (∀w',Bw w w'→Calls Tryz.prog 110 #[.agg #[v1,v2,v3],v4] w' fun e w''=>e=.returned (.int .i64 0)∧Bw w' w''):=fun w' hb=>ready_c N Z v1 v2 v3 v4 w' hm (hS.after hb) (hZ.after hb) (fun z h=>lt64 (hz z h)) hl hc
  have hT:Hid (∀w',Bw w w'→Calls Tryz.prog 111 #[.agg #[v1,v2,v3],v4] w' fun e w''=>e=.returned (.bool (ra N.vars.length (inJ N Z)))∧Bw w' w''):=fun w' hb=>inRange_c N Z v1 v2 v3 v4 w' hm (hS.after hb) (hZ.after hb) hz hl
  have hM:Hid (∀w',Bw w w'→Calls Tryz.prog 112 #[.agg #[v1,v2,v3],v4] w' (LPost w' (N.imgs Z))):=fun w' h4=>images_c N Z v1 v2 v3 v4 w' hm (hS.after h4) (hZ.after h4) hz hl hc
  have hx:Hid (N.hldB Z=(ra N.vars.length (inJ N Z)&&decide (N.imgs Z=N.eqs.map (·.tgt)))):=by rw[Hid,NSta.hldB,Dt hl,Bool.true_and]
  have h5:=Kh hS;obtain⟨a4,c4,rfl⟩:=hZ.form;obtain⟨a1,c1,a2,c2,a3,c3,rfl,rfl,rfl⟩:=hS.forms;obtain⟨n1,h6⟩:∃n,n=N.grps.length:=⟨_,rfl⟩;obtain⟨n2,hU⟩:∃n,n=N.vars.length:=⟨_,rfl⟩;obtain⟨n3,hN⟩:∃n,n=N.eqs.length:=⟨_,rfl⟩;have hO:=Kh hN;have l3:n3≤12:=by rw[hN];exact hm.ne
  generalize Z.length=nz at hw hT hM;rw[←h6,←hU,←hN]at hw hT hM h5 hP hn ⊢;rw[←hU]at hx;clear hm h6 hU hN hz hl hR hS hZ hc;obtain⟨hd,he,hf,hg,hh,hi⟩:=hP.x3;go_enter Tryz.func30,Tryz.ntmps30
  go_wp2_with fail
  refine (hw.out _ hn).mono ?_;rintro e w2 ⟨rfl,hy⟩;clear hd he hf hg hh hi;replace hP:=hP.after hy;replace hn:=bt hn hy;clear hy;have hQ:=hP.lt;obtain⟨hd,he,hf,hg,hh,hi⟩:=hP.x3;go_wp2_with fail
  refine (hT.out _ hn).mono ?_;rintro e w3 ⟨rfl,hV⟩;clear hd he hf hg hh hi;replace hP:=hP.after hV;replace hn:=bt hn hV;clear hV hQ;generalize ra n2 (inJ N Z)=ri at hx;cases ri
  ·have HF:Hid (r=false):=by rw[Hid,ht.out,hx.out];rfl
   go_wp2;go_ret2
   rw[HF.out];exact⟨rfl,hn⟩
  ·have hQ:=hP.lt;obtain⟨hd,he,hf,hg,hh,hi⟩:=hP.x3;go_wp2_with fail
   refine (hM.out _ hn).mono ?_;rintro e w8 ⟨iv,rfl,h7,hW⟩;clear hd he hf hg hh hi;replace hP:=hP.after hW;replace hn:=bt hn hW;clear hW hQ hM;have hA:=h7.ss;clear h7;obtain⟨a7,c7,rfl⟩:=RAt.form hA;have h8:Hid (((N.imgs Z).map E).length=n3):=by rw[Hid,List.length_map,NSta.imgs,List.length_map,hO.out]
   rw[h8.out]at hA ⊢;have hQ:=hP.lt;have Hc:=hn.size;obtain⟨hd,he,hf,hg,hh,hi⟩:=hP.x3;go_wp2;clear hd he hf hg hh hi;go_loopw [33] (fun i wr=>∃k:Nat,k≤n3∧i=.int .i64 k∧Hid (∀j,j<k→(N.imgs Z)[j]?=(N.eqs.map (·.tgt))[j]?)∧Bw w8 wr) (fun i _=>n3-(intOf i).toNat)
   case atStart=>exact⟨0,by omega,rfl,fun j h=>absurd h (Nat.not_lt_zero _),Br⟩
   case round =>
    obtain⟨k,hk,rfl,HA,hX⟩:=hrel;obtain⟨wu,Hd⟩:∃wp,wp=wr:=⟨_,rfl⟩;subst Hd;have hu:=bt hn hX;replace hA:=SsAt.after hA hX;by_cases hlt:k<n3
    ·have hp:k<N.eqs.length:=by rw[←hO.out];exact hlt
     have He:k<((N.imgs Z).map E).length:=by rw[h8.out];exact hlt
     have h9:=h5.out.after hu;have hY:Hid ((N.imgs Z)[k]?=some (imgV N Z (N.eqs[k]'hp))):=by rw[Hid,NSta.imgs,List.getElem?_map,List.getElem?_eq_getElem hp];rfl
     have h0:Hid ((N.eqs.map (·.tgt))[k]?=some (N.eqs[k]'hp).tgt):=by rw[Hid,List.getElem?_map,List.getElem?_eq_getElem hp];rfl
     obtain⟨b,o,tv,rfl,Hf,x1,x2,x3,Ha⟩:=NAt.eat h9 hp;obtain⟨b7,o7,rfl,hB,i1'⟩:=SsAt.at_ hA He;rw[show ((N.imgs Z).map E)[k]=E (imgV N Z (N.eqs[k]'hp)) by simp[NSta.imgs]]at i1';obtain⟨to_,tc,rfl⟩:=Ha.form;generalize (N.eqs[k]'hp).trms.length=n4 at x3;generalize (N.eqs[k]'hp).grp=qg at x1;generalize imgV N Z (N.eqs[k]'hp)=iq at i1' hY;generalize (N.eqs[k]'hp).tgt=qt at x2 h0;have Hg:(0:Int)≤(k:Int):=by omega
     have Hh:(k:Int)<(n3:Int):=by omega
     obtain⟨ho,hC⟩:=blk1 wu #[.int .i64 (qg:Int),.string (E qt),.slice to_ n4 tc] 131;have i2:=(hC.cell (p:=⟨b7,o7+k,none⟩) hB).trans i1';have g1:=gcl (a:=⟨b7,o7+k,none⟩) (Nl hB hC.size) i2;clear Ha h9;go_upto_region 12 with fail
     generalize wu.alloc (.cells #[.int .i64 (qg:Int),.string (E qt),.slice to_ n4 tc] 131)=wv at ho hC i2 g1 ⊢;replace ho:Blk wv wu.heap.size 131 [.int .i64 (qg:Int),.string (E qt),.slice to_ n4 tc]:=ho;by_cases hq:iq=qt
     ·have h1:=eqT hq;have h2:=eqE hq
      have HX:Hid (∀j,j<k+1→(N.imgs Z)[j]?=(N.eqs.map (·.tgt))[j]?):=fun j hj=>by
       by_cases e:j=k
       ·rw[e,hY.out,h0.out,hq]
       ·exact HA.out j (by omega)
      clear hq;obtain⟨hD,hE,hF,hG,hH,hI⟩:=ho.x3;have hJ:=ho.gcell 0;have hK:=ho.gcell 1;have hL:=ho.gcell 2;go_wp2_with fail
      refine wp_region_gw (by kernel_rfl) (by kernel_rfl) ?_;repeat (go_big_quiet_step (first | (fail)))
      refine wpQuiet_nil ?_;rintro w9 ⟨xw9,rfl⟩;have hb9:=gw_below xw9;generalize gw xw9=w9 at hb9;go_wp2;go_roundw
      case rel=>exact⟨k+1,by omega,by go_num,HX,bt (bt hX hC) hb9⟩
      case measure=>simp[intOf];omega
     ·have h1:=eqF hq;have h2:=neE hq;have HF:Hid (r=false):=by rw[Hid,ht.out,hx.out,Bool.true_and];exact decide_eq_false (fun e=>hq (by have h3:=hY.out;rw[e,h0.out]at h3;exact (Option.some.inj h3).symm))
      clear hq;obtain⟨hD,hE,hF,hG,hH,hI⟩:=ho.x3;have hJ:=ho.gcell 0;have hK:=ho.gcell 1;have hL:=ho.gcell 2;go_wp2_with fail
      refine wp_region_gw (by kernel_rfl) (by kernel_rfl) ?_;repeat (go_big_quiet_step (first | (fail)))
      refine wpQuiet_nil ?_;rintro w9 ⟨xw9,rfl⟩;have hb9:=gw_below xw9;generalize gw xw9=w9 at hb9;go_wp2;go_ret2
      rw[HF.out];exact⟨rfl,bt (bt hu hC) hb9⟩
    ·have HF:Hid (r=true):=by
      rw[Hid,ht.out,hx.out,Bool.true_and]
      refine Dt (List.ext_getElem? fun j=>by
       by_cases hj:j<k
       ·exact HA.out j hj
       ·rw[List.getElem?_eq_none (by rw[NSta.imgs,List.length_map,←hO.out];omega),List.getElem?_eq_none (by rw[List.length_map,←hO.out];omega)])
     go_wp2;go_ret2
     rw[HF.out];exact⟨rfl,hu⟩
 ·have hv:N.hldE Z=6:=if_pos hl;have Hb:N.hldB Z=false:=by unfold NSta.hldB;rw[decide_eq_false hl];rfl
  rw[hv,Hb];clear hv Hb;have hw:Hid (∀w',Bw w w'→Calls Tryz.prog 110 #[.agg #[v1,v2,v3],v4] w' fun e w''=>e=.returned (.int .i64 6)∧Bw w' w''):=fun w' hb=>ready6_c N Z v1 v2 v3 v4 w' hm (hS.after hb) (hZ.after hb) (fun z h=>lt64 (hz z h)) hl hR hc
  clear hm hS hZ hz hl hR hc;obtain⟨hd,he,hf,hg,hh,hi⟩:=hP.x3;go_enter Tryz.func30,Tryz.ntmps30
  go_wp2_with fail
  refine (hw.out _ hn).mono ?_;rintro e w2 ⟨rfl,hy⟩;go_wp2;go_ret2
  exact⟨rfl,bt hn hy⟩
def EPost (w:World) (k:Nat) (L:List Int) (e:Ending) (w':World):Prop:=∃v,e=.returned (.tuple #[v,.int .i64 k])∧ZOwn w' w.heap.size v L∧Bw w w'
theorem epost_err {w w':World} {k:Nat} {L:List Int} (hL:L=[]) (h:Bw w w'):EPost w k L (.returned (.tuple #[.slice none 0 0,.int .i64 k])) w':=⟨_,rfl,by rw[hL];exact World.ownsRow_nil _ _ _ _,h⟩
def ZBx (w:World) (a b:Value) (s:Value) (wx:World):Prop:=∃g,s=.pointer (some ⟨g,0,none⟩)∧Blk wx g 74 [a,b]∧w.heap.size≤g∧Bw w wx
end
end Go.Proofs.YtihjpddbjhcbmaaGreatDoor
