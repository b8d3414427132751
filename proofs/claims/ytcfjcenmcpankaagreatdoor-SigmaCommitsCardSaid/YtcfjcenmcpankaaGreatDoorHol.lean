import Derived.Test.YtcfjcenmcpankaaGreatDoorLdv2
import Derived.Test.YtcfjcenmcpankaaGreatDoorInt4
import Derived.Test.YtcfjcenmcpankaaGreatDoorSat1
set_option linter.unusedVariables false
set_option linter.unusedSimpArgs false
set_option maxRecDepth 100000
set_option maxHeartbeats 16000000
namespace Go.Proofs.YtcfjcenmcpankaaGreatDoor
section
open Go.RowKit Go.Shelf
theorem imodA_aux (b:Bool) (n m:Nat) (w:World) (hn:n<256^128) (hm:m<256^128) (h0:0<m) (hv:ivB b (E n)=true) (r:Nat) (hr:r=if b=true∧n%m≠0 then m-n%m else n%m) :
  Calls Tryz.prog 104 #[.agg #[.bool b,.string (E n)],.string (E m)] w fun e w'=>e=.returned (.tuple #[.string (E r),.int .i64 0])∧Below w.heap.size w w':=by
 have HN:=Lib.hid hn;have HM:=Lib.hid hm;have H0:=Lib.hid h0;have HV:=Lib.hid hv;have hz0:=nzE h0;have hA:=Blk.new w #[Value.bool b,Value.string (E n)] 72;have HLT:=Lib.hid (Nat.mod_lt n h0);clear hn hm h0 hv;cases b
 ·have HR:Hid (r=n%m):=by rw [Hid,hr];simp
  clear hr;go_enter Tryz.func104,Tryz.ntmps104
  go_wp2_with fail
  refine (ivalidT_c false n _ HN.out HV.out).mono ?_;rintro e w1 ⟨rfl,hb1⟩;replace hA:=hA.after hb1;obtain ⟨hAc0,hAf0,hAc1,hAf1⟩:=hA.x2;go_wp2_with fail
  refine (validE_c m _ HM.out).mono ?_;rintro e w' ⟨rfl,rfl⟩;go_wp2_with fail
  refine (divmodA_c n m _ HN.out HM.out H0.out).mono ?_;rintro e w2 ⟨rfl,hb2⟩;clear hAc0 hAf0 hAc1 hAf1;replace hA:=hA.after hb2;obtain ⟨hAc0,hAf0,hAc1,hAf1⟩:=hA.x2;go_wp2;go_ret2
  exact ⟨r2 (vE HR.out.symm) rfl,bt (bt (b1 _ _) hb1) hb2⟩
 ·by_cases hz:n%m=0
  ·have HR:Hid (r=n%m):=by rw [Hid,hr];simp [hz]
   have hzr:=zE hz;clear hr hz;go_enter Tryz.func104,Tryz.ntmps104
   go_wp2_with fail
   refine (ivalidT_c true n _ HN.out HV.out).mono ?_;rintro e w1 ⟨rfl,hb1⟩;replace hA:=hA.after hb1;obtain ⟨hAc0,hAf0,hAc1,hAf1⟩:=hA.x2;go_wp2_with fail
   refine (validE_c m _ HM.out).mono ?_;rintro e w' ⟨rfl,rfl⟩;go_wp2_with fail
   refine (divmodA_c n m _ HN.out HM.out H0.out).mono ?_;rintro e w2 ⟨rfl,hb2⟩;clear hAc0 hAf0 hAc1 hAf1;replace hA:=hA.after hb2;obtain ⟨hAc0,hAf0,hAc1,hAf1⟩:=hA.x2;go_wp2;go_ret2
   exact ⟨r2 (vE HR.out.symm) rfl,bt (bt (b1 _ _) hb1) hb2⟩
  ·have HR:Hid (r=m-n%m):=by rw [Hid,hr];simp [hz]
   have hzr:=nzE (Nat.pos_of_ne_zero hz);clear hr hz;go_enter Tryz.func104,Tryz.ntmps104
   go_wp2_with fail
   refine (ivalidT_c true n _ HN.out HV.out).mono ?_;rintro e w1 ⟨rfl,hb1⟩;replace hA:=hA.after hb1;obtain ⟨hAc0,hAf0,hAc1,hAf1⟩:=hA.x2;go_wp2_with fail
   refine (validE_c m _ HM.out).mono ?_;rintro e w' ⟨rfl,rfl⟩;go_wp2_with fail
   refine (divmodA_c n m _ HN.out HM.out H0.out).mono ?_;rintro e w2 ⟨rfl,hb2⟩;clear hAc0 hAf0 hAc1 hAf1;replace hA:=hA.after hb2;obtain ⟨hAc0,hAf0,hAc1,hAf1⟩:=hA.x2;go_wp2_with fail
   refine (sub_c m (n%m) _ HM.out (Nat.le_of_lt HLT.out)).mono ?_;rintro e w3 ⟨rfl,hb3⟩;go_wp2;go_ret2
   exact ⟨r2 (vE HR.out.symm) rfl,bt (bt (bt (b1 _ _) hb1) hb2) hb3⟩
theorem imodA_c (z:Int) (m:Nat) (w:World) (hz:z.natAbs<256^128) (hm:m<256^128) (h0:0<m) :
  Calls Tryz.prog 104 #[.agg #[.bool (sg (z)),.string (E (z).natAbs)],.string (E m)] w fun e w'=>e=.returned (.tuple #[.string (E (z%(m:Int)).toNat),.int .i64 0])∧Below w.heap.size w w':=
 imodA_aux (sg z) z.natAbs m w hz hm h0 (ivB_I z hz) _ (emod_if z m h0)
end
section
open Go.RowKit Go.Shelf
end
section
open Go.RowKit Go.Shelf
theorem ra_succ (n:Nat) (p:Nat→Bool):ra (n+1) p=(ra n p&&p n):=by
 unfold ra;rw [List.range_succ,List.all_append];simp
theorem fromN (c:Nat) (w:World) (hc:c<256^128):Calls Tryz.prog 64 #[.string (E c)] w fun e w'=>e=.returned (.agg #[.bool false,.string (E c)])∧Below w.heap.size w w':=by
 have h:=ifrom_c c w hc;rwa [Int.natAbs_natCast,sg_nat] at h
theorem ready6_c (N:NSta) (Z:List Int) (v1 v2 v3 v4:Value) (w:World) (hm:NOk N) (hS:NAt w v1 v2 v3 N) (hZ:ZsAt w v4 Z) (hz:∀z∈Z,z.natAbs<256^128) (hl:Z.length≠N.vars.length) (hl2:Z.length≤1000) (hc:N.chk=0) :
  Calls Tryz.prog 111 #[.agg #[v1,v2,v3],v4] w fun e w'=>e=.returned (.int .i64 6)∧Below w.heap.size w w':=by
 obtain ⟨a4,c4,rfl⟩:=hZ.form;obtain ⟨nz,hnz⟩:∃n,n=Z.length:=⟨_,rfl⟩;have HNZ:=Lib.hid hnz;rw [←hnz] at hl2 hl hZ ⊢;have HZZ:=Lib.hid hz;have HCK:=Lib.hid hc;clear hz hc hnz;obtain ⟨a1,c1,a2,c2,a3,c3,rfl,rfl,rfl⟩:=hS.forms;obtain ⟨n1,hn1⟩:∃n,n=N.grps.length:=⟨_,rfl⟩;obtain ⟨n2,hn2⟩:∃n,n=N.vars.length:=⟨_,rfl⟩;obtain ⟨n3,hn3⟩:∃n,n=N.eqs.length:=⟨_,rfl⟩;have HN1:=Lib.hid hn1;have HN2:=Lib.hid hn2;have HN3:=Lib.hid hn3;have l1:n1≤10:=by rw [hn1];exact hm.ng
 have l2:n2≤12:=by rw [hn2];exact hm.nv
 have l3:n3≤12:=by rw [hn3];exact hm.ne
 have HM:=Lib.hid hm;rw [←hn2] at hl;have hl3:¬ (nz:Int)=(n2:Int):=by omega
 rw [←hn1,←hn2,←hn3] at hS ⊢;clear hm hn1 hn2 hn3 hl;have hP:=Blk.new w #[.slice a1 n1 c1,.slice a2 n2 c2,.slice a3 n3 c3] 29;have hBW:=b1 w (.cells #[.slice a1 n1 c1,.slice a2 n2 c2,.slice a3 n3 c3] 29);replace hS:=hS.after hBW;replace hZ:=hZ.after (b1 w (.cells #[.slice a1 n1 c1,.slice a2 n2 c2,.slice a3 n3 c3] 29));obtain ⟨hPc0,hPf0,hPc1,hPf1,hPc2,hPf2⟩:=hP.x3;go_enter Tryz.func111,Tryz.ntmps111
 go_wp2_with fail
 refine (form0_c N _ _ _ _ HM.out hS).mono ?_;rintro e w2 ⟨rfl,hb2⟩;clear hPc0 hPf0 hPc1 hPf1 hPc2 hPf2;replace hP:=hP.after hb2;replace hS:=hS.after hb2;replace hZ:=hZ.after hb2;replace hBW:=bt hBW hb2;clear hb2;have hPl:=hP.lt
 have HCI:Hid (Calls Tryz.prog 58 #[.slice a4 nz c4,.func (.func 157) #[] #[]] w2 fun e w''=>e=.returned (.bool false)∧Below w2.heap.size w2 w''):=by
  refine cont_rdi (Z.map zI) (fun _=>false) _ _ w2 (by rw [List.length_map,←HNZ.out];exact hl2) hZ (any_false _) ?_;intro k hk w5 hb5;have hk':k<Z.length:=by simpa using hk
  simp only [List.getElem_map,zI];exact rdi1_c _ _ (HZZ.out _ (List.getElem_mem hk'))
 obtain ⟨hPc0,hPf0,hPc1,hPf1,hPc2,hPf2⟩:=hP.x3;go_wp2_with fail
 refine HCI.out.mono ?_;rintro e w3 ⟨rfl,hb3⟩;clear hPc0 hPf0 hPc1 hPf1 hPc2 hPf2;clear HCI;replace hP:=hP.after hb3;replace hS:=hS.after hb3;replace hBW:=bt hBW hb3;clear hb3 hPl;have hPl:=hP.lt
 have HCC:Hid (Calls Tryz.prog 94 #[.agg #[.slice a1 n1 c1,.slice a2 n2 c2,.slice a3 n3 c3]] w3 fun e w'=>e=.returned (.int .i64 0)∧Below w3.heap.size w3 w'):=by
  have h:=check_c N _ _ _ w3 HM.out hS;rw [HCK.out] at h;exact h
 obtain ⟨hPc0,hPf0,hPc1,hPf1,hPc2,hPf2⟩:=hP.x3;go_wp2_with fail
 refine HCC.out.mono ?_;rintro e w4 ⟨rfl,hb4⟩;clear hPc0 hPf0 hPc1 hPf1 hPc2 hPf2;replace hP:=hP.after hb4;have hPl2:=hP.lt;obtain ⟨hPc0,hPf0,hPc1,hPf1,hPc2,hPf2⟩:=hP.x3;go_wp2;go_ret
 exact ⟨rfl,bt hBW hb4⟩
def inJ (N:NSta) (Z:List Int) (j:Nat):Bool:=blw (N.vars.getD j 0) (Z.getD j 0) (if N.vars.getD j 0=0 then N.ord else N.vars.getD j 0)
theorem inJ_at (N:NSta) (Z:List Int) (j:Nat) (h:j<N.vars.length) (h2:j<Z.length):inJ N Z j=blw N.vars[j] Z[j] (if N.vars[j]=0 then N.ord else N.vars[j]):=by
 unfold inJ;simp only [List.getD_eq_getElem?_getD,List.getElem?_eq_getElem h,List.getElem?_eq_getElem h2,Option.getD_some]
theorem inRange_c (N:NSta) (Z:List Int) (v1 v2 v3 v4:Value) (w:World) (hm:NOk N) (hS:NAt w v1 v2 v3 N) (hZ:ZsAt w v4 Z) (hz:∀z∈Z,z.natAbs<256^64) (hl:Z.length=N.vars.length) :
  Calls Tryz.prog 120 #[.agg #[v1,v2,v3],v4] w fun e w'=>e=.returned (.bool (ra N.vars.length (inJ N Z)))∧Below w.heap.size w w':=by
 obtain ⟨r,hr⟩:∃r:Bool,r=ra N.vars.length (inJ N Z):=⟨_,rfl⟩;have HRES:=Lib.hid hr;rw [←hr];clear hr;have HOR:Hid (∀w',Below w.heap.size w w'→Calls Tryz.prog 166 #[.agg #[v1,v2,v3]] w' fun e w''=>e=.returned (.string (E N.ord))∧Below w'.heap.size w' w''):=fun w' hb=>order_c N v1 v2 v3 w' hm (hS.after hb)
 have HQ:=Lib.hid (ord_lt hm);have HVS:=Lib.hid hm.v;have HZZ:=Lib.hid hz;obtain ⟨qo,hqo⟩:∃q,q=N.ord:=⟨_,rfl⟩;have HQO:=Lib.hid hqo;rw [←hqo] at HOR HQ;obtain ⟨a4,c4,rfl⟩:=hZ.form;rw [hl] at hZ ⊢;have HL:=Lib.hid hl;obtain ⟨a1,c1,a2,c2,a3,c3,rfl,rfl,rfl⟩:=hS.forms;obtain ⟨n1,hn1⟩:∃n,n=N.grps.length:=⟨_,rfl⟩;obtain ⟨n2,hn2⟩:∃n,n=N.vars.length:=⟨_,rfl⟩;obtain ⟨n3,hn3⟩:∃n,n=N.eqs.length:=⟨_,rfl⟩;have HN2:=Lib.hid hn2;have l2:n2≤12:=by rw [hn2];exact hm.nv
 rw [←hn1,←hn2,←hn3] at hS HOR ⊢;rw [←hn2] at hZ;clear hm hn1 hn2 hn3 hz hl hqo;have hP:=Blk.new w #[.slice a1 n1 c1,.slice a2 n2 c2,.slice a3 n3 c3] 29;have hBW:=b1 w (.cells #[.slice a1 n1 c1,.slice a2 n2 c2,.slice a3 n3 c3] 29);replace hS:=hS.after hBW;replace hZ:=hZ.after hBW;obtain ⟨hPc0,hPf0,hPc1,hPf1,hPc2,hPf2⟩:=hP.x3;go_enter Tryz.func120,Tryz.ntmps120
 go_wp2;clear hPc0 hPf0 hPc1 hPf1 hPc2 hPf2;generalize hw1:w.alloc (.cells #[.slice a1 n1 c1,.slice a2 n2 c2,.slice a3 n3 c3] 29)=w1 at hP hBW hS hZ;replace hP:Blk w1 w.heap.size 29 [.slice a1 n1 c1,.slice a2 n2 c2,.slice a3 n3 c3]:=hP;clear hw1;go_loopw [11] (fun i wr=>∃k:Nat,k≤n2∧i=.int .i64 k∧Hid (ra k (inJ N Z)=true)∧Below w1.heap.size w1 wr) (fun i _=>n2-(intOf i).toNat)
 case atStart=>exact ⟨0,by omega,rfl,rfl,Below.refl _ _⟩
 case round =>
  obtain ⟨k,hk,rfl,HAL,hbr⟩:=hrel;obtain ⟨wp,hwp⟩:∃wp,wp=wr:=⟨_,rfl⟩;subst hwp;have hBW1:=bt hBW hbr;have hP1:=hP.after hbr;by_cases hlt:k<n2
  ·have hkl:k<N.vars.length:=by rw [←HN2.out];exact hlt
   have hkZ:k<Z.length:=by rw [HL.out];exact hkl
   obtain ⟨bv,ov,rfl,hbv,x1⟩:=(hS.after hbr).vat hkl;obtain ⟨bz,oz,rfl,hbz,z1,z2⟩:=(hZ.after hbr).at_ hkZ;have HZL:=Lib.hid (HZZ.out _ (List.getElem_mem hkZ));have HVL:=Lib.hid (HVS.out _ (List.getElem_mem hkl));have HIJ:=Lib.hid (inJ_at N Z k hkl hkZ);rw [←HQO.out] at HIJ;have HRS:Hid (ra (k+1) (inJ N Z)=inJ N Z k):=by rw [Hid,ra_succ,HAL.out];rfl
   have HRB:Hid (inJ N Z k=false→ra N.vars.length (inJ N Z)=false):=fun h=>ra_false hkl h
   generalize (N.vars[k]'hkl)=vb at x1 HIJ HVL;generalize (Z[k]'hkZ)=lz at z1 z2 HIJ HZL;generalize inJ N Z k=bl at HIJ HRS HRB;have h0k:(0:Int)≤(k:Int):=by omega
   have h1k:(k:Int)<(n2:Int):=by omega
   have hV:=Blk.new wp #[.string (E vb)] 99;have hbV:=b1 wp (.cells #[.string (E vb)] 99);have zz1:=(hbV.cell (p:=⟨bz,oz+k*2,none⟩) hbz).trans z1;have zz2:=(hbV.cell (p:=⟨bz,oz+k*2+1,none⟩) hbz).trans z2;have hPV:=hP1.after hbV;have hbz2:=Nat.lt_of_lt_of_le hbz hbV.size;by_cases hv0:vb=0
   ·have hzv:=zE hv0;have HIK:Hid (bl=blw 0 lz qo):=by rw [Hid,HIJ.out,if_pos hv0,hv0]
    clear hv0 HIJ;obtain ⟨hVc0,hVf0⟩:=hV.x1;obtain ⟨hPVc0,hPVf0,hPVc1,hPVf1,hPVc2,hPVf2⟩:=hPV.x3;go_wp2_with fail
    refine (HOR.out _ (bt hBW1 hbV)).mono ?_;rintro e w2 ⟨rfl,hb2⟩;clear hVc0 hVf0;clear hPVc0 hPVf0 hPVc1 hPVf1 hPVc2 hPVf2;have hbe:=bt (bt hbr hbV) hb2;have q1:=(hb2.cell (p:=⟨bz,oz+k*2,none⟩) hbz2).trans zz1;have q2:=(hb2.cell (p:=⟨bz,oz+k*2+1,none⟩) hbz2).trans zz2;have hbz3:=Nat.lt_of_lt_of_le hbz2 hb2.size;clear x1 z1 z2 zz1 zz2 hV hPV hbV hb2 hP1 hbv hbz hbz2;obtain ⟨s,hs⟩:∃s,s=sg lz:=⟨_,rfl⟩;have HS:=Lib.hid hs;rw [←hs] at q1;clear hs;cases s
    ·have HCM:Hid (∀w,Calls Tryz.prog 50 #[.string (E lz.natAbs),.string (E qo)] w fun e w'=>e=.returned (.int .i64 (cmpN lz.natAbs qo))∧w=w'):=fun w=>cmp_c _ _ w (lt64 HZL.out) (lt128 HQ.out)
     obtain ⟨c1',hc1'⟩:∃q:Int,q=cmpN lz.natAbs qo:=⟨_,rfl⟩;rw [←hc1'] at HCM;by_cases hll:lz.natAbs<qo
     ·have hd:decide (0≤c1')=false:=decide_eq_false (by rw [hc1'];have:=cmp_neg _ _ hll;omega);have HIT:Hid (bl=true):=by rw [Hid,HIK.out,blw_zero hll,←HS.out];rfl
      clear hll hc1' HIK HS;go_wp2_with fail
      refine (HCM.out _).mono ?_;rintro e w' ⟨rfl,rfl⟩;go_wp2;go_roundw
      case rel=>exact ⟨k+1,by omega,by go_num,by rw [Hid,HRS.out,HIT.out],hbe⟩
      case measure=>simp [intOf];omega
     ·have hd:decide (0≤c1')=true:=decide_eq_true (by rw [hc1'];have:=cmp_nneg lz.natAbs qo (by omega);omega);have HRF:Hid (r=false):=by rw [Hid,HRES.out];exact HRB.out (by rw [HIK.out];exact blw_ge (by omega))
      clear hll hc1' HIK HS;go_wp2_with fail
      refine (HCM.out _).mono ?_;rintro e w' ⟨rfl,rfl⟩;go_wp2;go_ret
      rw [HRF.out];exact ⟨rfl,bt hBW hbe⟩
    ·have HRF:Hid (r=false):=by
      rw [Hid,HRES.out];refine HRB.out ?_;rw [HIK.out];unfold blw;rw [←HS.out,show vz 0=true from rfl];simp
     clear HIK HS;go_wp2;go_ret
     rw [HRF.out];exact ⟨rfl,bt hBW hbe⟩
   ·have hzv:=nzE (Nat.pos_of_ne_zero hv0);have HIK:Hid (bl=blw vb lz vb):=by rw [Hid,HIJ.out,if_neg hv0]
    have HV0:Hid (0<vb):=Nat.pos_of_ne_zero hv0;clear hv0 HIJ;have HCM:Hid (∀w,Calls Tryz.prog 50 #[.string (E lz.natAbs),.string (E vb)] w fun e w'=>e=.returned (.int .i64 (cmpN lz.natAbs vb))∧w=w'):=fun w=>cmp_c _ _ w (lt64 HZL.out) (Nat.lt_of_lt_of_le HVL.out (Nat.pow_le_pow_right (by decide) (by decide)))
    obtain ⟨c1',hc1'⟩:∃q:Int,q=cmpN lz.natAbs vb:=⟨_,rfl⟩;rw [←hc1'] at HCM;have hbe:=bt hbr hbV;by_cases hll:lz.natAbs<vb
    ·have hd:decide (0≤c1')=false:=decide_eq_false (by rw [hc1'];have:=cmp_neg _ _ hll;omega);have HIT:Hid (bl=true):=by rw [Hid,HIK.out];exact blw_pos hll HV0.out
     clear hll hc1' HIK;obtain ⟨hVc0,hVf0⟩:=hV.x1;obtain ⟨hPVc0,hPVf0,hPVc1,hPVf1,hPVc2,hPVf2⟩:=hPV.x3;go_wp2_with fail
     refine (HCM.out _).mono ?_;rintro e w' ⟨rfl,rfl⟩;go_wp2;go_roundw
     case rel=>exact ⟨k+1,by omega,by go_num,by rw [Hid,HRS.out,HIT.out],hbe⟩
     case measure=>simp [intOf];omega
    ·have hd:decide (0≤c1')=true:=decide_eq_true (by rw [hc1'];have:=cmp_nneg lz.natAbs vb (by omega);omega);have HRF:Hid (r=false):=by rw [Hid,HRES.out];exact HRB.out (by rw [HIK.out];exact blw_ge (by omega))
     clear hll hc1' HIK;obtain ⟨hVc0,hVf0⟩:=hV.x1;obtain ⟨hPVc0,hPVf0,hPVc1,hPVf1,hPVc2,hPVf2⟩:=hPV.x3;go_wp2_with fail
     refine (HCM.out _).mono ?_;rintro e w' ⟨rfl,rfl⟩;go_wp2;go_ret
     rw [HRF.out];exact ⟨rfl,bt hBW hbe⟩
  ·obtain rfl:n2=k:=by omega
   have HRF:Hid (r=true):=by rw [Hid,HRES.out,←HN2.out];exact HAL.out
   go_wp2;go_ret
   rw [HRF.out];exact ⟨rfl,hBW1⟩
def NSta.hldE (N:NSta) (Z:List Int):Nat:=if Z.length≠N.vars.length then 6 else 0
def NSta.hldB (N:NSta) (Z:List Int):Bool:=decide (Z.length=N.vars.length)&&(ra N.vars.length (inJ N Z)&&decide (N.imgs Z=N.eqs.map (·.tgt)))
theorem holds_c (N:NSta) (Z:List Int) (v1 v2 v3 v4:Value) (w:World) (hm:NOk N) (hS:NAt w v1 v2 v3 N) (hZ:ZsAt w v4 Z) (hz:∀z∈Z,z.natAbs<256^64) (hzl:Z.length≤1000) (hc:N.chk=0) :
  Calls Tryz.prog 71 #[.agg #[v1,v2,v3],v4] w fun e w'=>e=.returned (.tuple #[.bool (N.hldB Z),.int .i64 (N.hldE Z:Nat)])∧Below w.heap.size w w':=by
 have hP:=Blk.new w #[v1,v2,v3] 29;have hBW:=b1 w (.cells #[v1,v2,v3] 29);by_cases hl:Z.length=N.vars.length
 ·have HE0:N.hldE Z=0:=if_neg (fun h=>h hl);rw [HE0];clear HE0;obtain ⟨r,hr⟩:∃r:Bool,r=N.hldB Z:=⟨_,rfl⟩;have HRES:=Lib.hid hr;rw [←hr];clear hr;have HRD:Hid (∀w',Below w.heap.size w w'→Calls Tryz.prog 111 #[.agg #[v1,v2,v3],v4] w' fun e w''=>e=.returned (.int .i64 0)∧Below w'.heap.size w' w''):=fun w' hb=>ready_c N Z v1 v2 v3 v4 w' hm (hS.after hb) (hZ.after hb) (fun z h=>lt64 (hz z h)) hl hc
  have HIR:Hid (∀w',Below w.heap.size w w'→Calls Tryz.prog 120 #[.agg #[v1,v2,v3],v4] w' fun e w''=>e=.returned (.bool (ra N.vars.length (inJ N Z)))∧Below w'.heap.size w' w''):=fun w' hb=>inRange_c N Z v1 v2 v3 v4 w' hm (hS.after hb) (hZ.after hb) hz hl
  have HIM:Hid (∀w',Below w.heap.size w w'→Calls Tryz.prog 112 #[.agg #[v1,v2,v3],v4] w' (LPost w' (N.imgs Z))):=fun w' hb'=>images_c N Z v1 v2 v3 v4 w' hm (hS.after hb') (hZ.after hb') hz hl hc
  have HBD:Hid (N.hldB Z=(ra N.vars.length (inJ N Z)&&decide (N.imgs Z=N.eqs.map (·.tgt)))):=by rw [Hid,NSta.hldB,decide_eq_true hl,Bool.true_and]
  have HS0:=Lib.hid hS;obtain ⟨a4,c4,rfl⟩:=hZ.form;obtain ⟨a1,c1,a2,c2,a3,c3,rfl,rfl,rfl⟩:=hS.forms;obtain ⟨n1,hn1⟩:∃n,n=N.grps.length:=⟨_,rfl⟩;obtain ⟨n2,hn2⟩:∃n,n=N.vars.length:=⟨_,rfl⟩;obtain ⟨n3,hn3⟩:∃n,n=N.eqs.length:=⟨_,rfl⟩;have HN3:=Lib.hid hn3;have l3:n3≤12:=by rw [hn3];exact hm.ne
  generalize Z.length=nz at HRD HIR HIM;rw [←hn1,←hn2,←hn3] at HRD HIR HIM HS0 hP hBW ⊢;rw [←hn2] at HBD;clear hm hn1 hn2 hn3 hz hl hzl hS hZ hc;obtain ⟨hPc0,hPf0,hPc1,hPf1,hPc2,hPf2⟩:=hP.x3;go_enter Tryz.func71,Tryz.ntmps71
  go_wp2_with fail
  refine (HRD.out _ hBW).mono ?_;rintro e w2 ⟨rfl,hb2⟩;clear hPc0 hPf0 hPc1 hPf1 hPc2 hPf2;replace hP:=hP.after hb2;replace hBW:=bt hBW hb2;clear hb2;have hPl:=hP.lt;obtain ⟨hPc0,hPf0,hPc1,hPf1,hPc2,hPf2⟩:=hP.x3;go_wp2_with fail
  refine (HIR.out _ hBW).mono ?_;rintro e w3 ⟨rfl,hb3⟩;clear hPc0 hPf0 hPc1 hPf1 hPc2 hPf2;replace hP:=hP.after hb3;replace hBW:=bt hBW hb3;clear hb3 hPl;generalize ra n2 (inJ N Z)=ri at HBD;cases ri
  ·have HF:Hid (r=false):=by rw [Hid,HRES.out,HBD.out];rfl
   go_wp2;go_ret2
   rw [HF.out];exact ⟨rfl,hBW⟩
  ·have hPl:=hP.lt;obtain ⟨hPc0,hPf0,hPc1,hPf1,hPc2,hPf2⟩:=hP.x3;go_wp2_with fail
   refine (HIM.out _ hBW).mono ?_;rintro e w8 ⟨iv,rfl,hIO,hb8⟩;clear hPc0 hPf0 hPc1 hPf1 hPc2 hPf2;replace hP:=hP.after hb8;replace hBW:=bt hBW hb8;clear hb8 hPl HIM;have hIs:=hIO.ss;clear hIO;obtain ⟨a7,c7,rfl⟩:=RAt.form hIs;have HIL:Hid (((N.imgs Z).map E).length=n3):=by rw [Hid,List.length_map,NSta.imgs,List.length_map,HN3.out]
   rw [HIL.out] at hIs ⊢;have hPl:=hP.lt;have hszF:=hBW.size;obtain ⟨hPc0,hPf0,hPc1,hPf1,hPc2,hPf2⟩:=hP.x3;go_wp2;clear hPc0 hPf0 hPc1 hPf1 hPc2 hPf2;go_loopw [33] (fun i wr=>∃k:Nat,k≤n3∧i=.int .i64 k∧Hid (∀j,j<k→(N.imgs Z)[j]?=(N.eqs.map (·.tgt))[j]?)∧Below w8.heap.size w8 wr) (fun i _=>n3-(intOf i).toNat)
   case atStart=>exact ⟨0,by omega,rfl,fun j h=>absurd h (Nat.not_lt_zero _),Below.refl _ _⟩
   case round =>
    obtain ⟨k,hk,rfl,HA,hbs⟩:=hrel;obtain ⟨wu,hwu⟩:∃wp,wp=wr:=⟨_,rfl⟩;subst hwu;have hBW2:=bt hBW hbs;replace hIs:=SsAt.after hIs hbs;by_cases hlt:k<n3
    ·have hkl:k<N.eqs.length:=by rw [←HN3.out];exact hlt
     have hki:k<((N.imgs Z).map E).length:=by rw [HIL.out];exact hlt
     have hS1:=HS0.out.after hBW2;have HE1:Hid ((N.imgs Z)[k]?=some (imgV N Z (N.eqs[k]'hkl))):=by rw [Hid,NSta.imgs,List.getElem?_map,List.getElem?_eq_getElem hkl];rfl
     have HE2:Hid ((N.eqs.map (·.tgt))[k]?=some (N.eqs[k]'hkl).tgt):=by rw [Hid,List.getElem?_map,List.getElem?_eq_getElem hkl];rfl
     obtain ⟨b,o,tv,rfl,hbl,x1,x2,x3,hTs⟩:=NAt.eat hS1 hkl;obtain ⟨b7,o7,rfl,hbl7,i1'⟩:=SsAt.at_ hIs hki;rw [show ((N.imgs Z).map E)[k]=E (imgV N Z (N.eqs[k]'hkl)) by simp [NSta.imgs]] at i1';obtain ⟨to_,tc,rfl⟩:=hTs.form;generalize (N.eqs[k]'hkl).trms.length=n4 at x3;generalize (N.eqs[k]'hkl).grp=qg at x1;generalize imgV N Z (N.eqs[k]'hkl)=iq at i1' HE1;generalize (N.eqs[k]'hkl).tgt=qt at x2 HE2;have h0k:(0:Int)≤(k:Int):=by omega
     have h1k:(k:Int)<(n3:Int):=by omega
     have hQb:=Blk.new wu #[.int .i64 (qg:Int),.string (E qt),.slice to_ n4 tc] 84;have hbq:=b1 wu (.cells #[.int .i64 (qg:Int),.string (E qt),.slice to_ n4 tc] 84);have i2:=(hbq.cell (p:=⟨b7,o7+k,none⟩) hbl7).trans i1';have g1:=gcl (a:=⟨b7,o7+k,none⟩) (Nat.lt_of_lt_of_le hbl7 hbq.size) i2;clear hTs hS1;go_upto_region 12 with fail
     generalize wu.alloc (.cells #[.int .i64 (qg:Int),.string (E qt),.slice to_ n4 tc] 84)=wv at hQb hbq i2 g1 ⊢;replace hQb:Blk wv wu.heap.size 84 [.int .i64 (qg:Int),.string (E qt),.slice to_ n4 tc]:=hQb;by_cases hyi:iq=qt
     ·have h1:=eqT hyi;have h2:=eqE hyi
      have HX:Hid (∀j,j<k+1→(N.imgs Z)[j]?=(N.eqs.map (·.tgt))[j]?):=fun j hj=>by
       by_cases e:j=k
       ·rw [e,HE1.out,HE2.out,hyi]
       ·exact HA.out j (by omega)
      clear hyi;obtain ⟨hQbc0,hQbf0,hQbc1,hQbf1,hQbc2,hQbf2⟩:=hQb.x3;have hQbg0:=hQb.gcell 0;have hQbg1:=hQb.gcell 1;have hQbg2:=hQb.gcell 2;go_wp2_with fail
      refine wp_region_gw (by kernel_rfl) (by kernel_rfl) ?_;repeat (go_big_quiet_step (first | (fail)))
      refine wpQuiet_nil ?_;rintro w9 ⟨xw9,rfl⟩;have hb9:=gw_below xw9;generalize gw xw9=w9 at hb9;go_wp2;go_roundw
      case rel=>exact ⟨k+1,by omega,by go_num,HX,bt (bt hbs hbq) hb9⟩
      case measure=>simp [intOf];omega
     ·have h1:=eqF hyi;have h2:=neE hyi;have HF:Hid (r=false):=by rw [Hid,HRES.out,HBD.out,Bool.true_and];exact decide_eq_false (fun e=>hyi (by have h3:=HE1.out;rw [e,HE2.out] at h3;exact (Option.some.inj h3).symm))
      clear hyi;obtain ⟨hQbc0,hQbf0,hQbc1,hQbf1,hQbc2,hQbf2⟩:=hQb.x3;have hQbg0:=hQb.gcell 0;have hQbg1:=hQb.gcell 1;have hQbg2:=hQb.gcell 2;go_wp2_with fail
      refine wp_region_gw (by kernel_rfl) (by kernel_rfl) ?_;repeat (go_big_quiet_step (first | (fail)))
      refine wpQuiet_nil ?_;rintro w9 ⟨xw9,rfl⟩;have hb9:=gw_below xw9;generalize gw xw9=w9 at hb9;go_wp2;go_ret2
      rw [HF.out];exact ⟨rfl,bt (bt hBW2 hbq) hb9⟩
    ·have HF:Hid (r=true):=by
      rw [Hid,HRES.out,HBD.out,Bool.true_and]
      refine decide_eq_true (List.ext_getElem? fun j=>by
       by_cases hj:j<k
       ·exact HA.out j hj
       ·rw [List.getElem?_eq_none (by rw [NSta.imgs,List.length_map,←HN3.out];omega),List.getElem?_eq_none (by rw [List.length_map,←HN3.out];omega)])
     go_wp2;go_ret2
     rw [HF.out];exact ⟨rfl,hBW2⟩
 ·have HE0:N.hldE Z=6:=if_pos hl;have HB0:N.hldB Z=false:=by unfold NSta.hldB;rw [decide_eq_false hl];rfl
  rw [HE0,HB0];clear HE0 HB0;have HRD:Hid (∀w',Below w.heap.size w w'→Calls Tryz.prog 111 #[.agg #[v1,v2,v3],v4] w' fun e w''=>e=.returned (.int .i64 6)∧Below w'.heap.size w' w''):=fun w' hb=>ready6_c N Z v1 v2 v3 v4 w' hm (hS.after hb) (hZ.after hb) (fun z h=>lt64 (hz z h)) hl hzl hc
  clear hm hS hZ hz hl hzl hc;obtain ⟨hPc0,hPf0,hPc1,hPf1,hPc2,hPf2⟩:=hP.x3;go_enter Tryz.func71,Tryz.ntmps71
  go_wp2_with fail
  refine (HRD.out _ hBW).mono ?_;rintro e w2 ⟨rfl,hb2⟩;go_wp2;go_ret2
  exact ⟨rfl,bt hBW hb2⟩
def EPost (w:World) (k:Nat) (L:List Int) (e:Ending) (w':World):Prop:=∃v,e=.returned (.tuple #[v,.int .i64 k])∧ZOwn w' w.heap.size v L∧Below w.heap.size w w'
theorem epost_err {w w':World} {k:Nat} {L:List Int} (hL:L=[]) (h:Below w.heap.size w w'):EPost w k L (.returned (.tuple #[.slice none 0 0,.int .i64 k])) w':=⟨_,rfl,by rw [hL];exact World.ownsRow_nil _ _ _ _,h⟩
def ZBx (w:World) (a b:Value) (s:Value) (wx:World):Prop:=∃g,s=.pointer (some ⟨g,0,none⟩)∧Blk wx g 72 [a,b]∧w.heap.size≤g∧Below w.heap.size w wx
end
end Go.Proofs.YtcfjcenmcpankaaGreatDoor
