import Derived.Test.YtcfjcenmcpankaaGreatDoorHol
set_option linter.unusedVariables false
set_option linter.unusedSimpArgs false
set_option maxRecDepth 100000
set_option maxHeartbeats 16000000
namespace Go.Proofs.YtcfjcenmcpankaaGreatDoor
section
open Go.RowKit Go.Shelf
def rspI (q b c:Nat) (m z:Int):Int:=if b=0 then (m+(c:Int)*z)%(q:Int) else m+(c:Int)*z
def rspJ (N:NSta) (c:Nat) (W M:List Int) (j:Nat):Int:=rspI N.ord (N.vars.getD j 0) c (M.getD j 0) (W.getD j 0)
def NSta.rspL (N:NSta) (c:Nat) (W M:List Int):List Int:=(List.range N.vars.length).map (rspJ N c W M)
theorem rsp_step (N:NSta) (c:Nat) (W M:List Int) (k:Nat) (h:k<N.vars.length) (h2:k<M.length) (h3:k<W.length):(N.rspL c W M).take (k+1)=(N.rspL c W M).take k++[rspI N.ord N.vars[k] c M[k] W[k]]:=by
 unfold NSta.rspL;rw [←List.map_take,List.take_succ_eq_append_getElem (by simpa using h),List.map_append,List.map_take];simp only [List.getElem_range,List.map_cons,List.map_nil,rspJ,List.getD_eq_getElem?_getD,List.getElem?_eq_getElem h,List.getElem?_eq_getElem h2,List.getElem?_eq_getElem h3,Option.getD_some]
def mkJ (N:NSta) (C K:Nat) (M:List Int) (j:Nat):Bool:=blw (N.vars.getD j 0) (M.getD j 0) (lim N.ord C K (N.vars.getD j 0)).1
def rsJ (N:NSta) (C K c:Nat) (W M:List Int) (j:Nat):Bool:=blw (N.vars.getD j 0) (rspJ N c W M j) (lim N.ord C K (N.vars.getD j 0)).2
theorem mkJ_at (N:NSta) (C K:Nat) (M:List Int) (j:Nat) (h:j<N.vars.length) (h2:j<M.length):mkJ N C K M j=blw N.vars[j] M[j] (lim N.ord C K N.vars[j]).1:=by
 unfold mkJ;simp only [List.getD_eq_getElem?_getD,List.getElem?_eq_getElem h,List.getElem?_eq_getElem h2,Option.getD_some]
theorem rsJ_at (N:NSta) (C K c:Nat) (W M:List Int) (j:Nat) (h:j<N.vars.length) (h2:j<M.length) (h3:j<W.length):rsJ N C K c W M j=blw N.vars[j] (rspI N.ord N.vars[j] c M[j] W[j]) (lim N.ord C K N.vars[j]).2:=by
 unfold rsJ rspJ;simp only [List.getD_eq_getElem?_getD,List.getElem?_eq_getElem h,List.getElem?_eq_getElem h2,List.getElem?_eq_getElem h3,Option.getD_some]
def NSta.rsp2 (N:NSta) (C K c:Nat) (W M:List Int):Nat:=if ra N.vars.length (rsJ N C K c W M)=false then 15 else 0
def NSta.rspE (N:NSta) (C K c:Nat) (W M:List Int):Nat:=
 if W.length≠N.vars.length∨M.length≠N.vars.length then 6 else if C≤c then 2 else if ra N.vars.length (inJ N W)=false then 2 else if ra N.vars.length (mkJ N C K M)=false then 2 else N.rsp2 C K c W M
def NSta.rspR (N:NSta) (C K c:Nat) (W M:List Int):List Int:=if N.rspE C K c W M=0 then N.rspL c W M else []
def NSta.rspR2 (N:NSta) (C K c:Nat) (W M:List Int):List Int:=if N.rsp2 C K c W M=0 then N.rspL c W M else []
theorem rspE_6 {N:NSta} {C K c:Nat} {W M:List Int} (h:W.length≠N.vars.length∨M.length≠N.vars.length):N.rspE C K c W M=6:=by unfold NSta.rspE;rw [if_pos h]
theorem rspE_c {N:NSta} {C K c:Nat} {W M:List Int} (h1:W.length=N.vars.length) (h2:M.length=N.vars.length) (h:C≤c):N.rspE C K c W M=2:=by
 unfold NSta.rspE;rw [if_neg (by omega),if_pos h]
theorem rspE_w {N:NSta} {C K c:Nat} {W M:List Int} (h1:W.length=N.vars.length) (h2:M.length=N.vars.length) (h:c<C) (h3:ra N.vars.length (inJ N W)=false):N.rspE C K c W M=2:=by
 unfold NSta.rspE;rw [if_neg (by omega),if_neg (by omega),if_pos h3]
theorem rspE_m {N:NSta} {C K c:Nat} {W M:List Int} (h1:W.length=N.vars.length) (h2:M.length=N.vars.length) (h:c<C) (h3:ra N.vars.length (inJ N W)=true) (h4:ra N.vars.length (mkJ N C K M)=false):N.rspE C K c W M=2:=by
 unfold NSta.rspE;rw [if_neg (by omega),if_neg (by omega),if_neg (by rw [h3];decide),if_pos h4]
theorem rspE_r {N:NSta} {C K c:Nat} {W M:List Int} (h1:W.length=N.vars.length) (h2:M.length=N.vars.length) (h:c<C) (h3:ra N.vars.length (inJ N W)=true) (h4:ra N.vars.length (mkJ N C K M)=true):N.rspE C K c W M=N.rsp2 C K c W M∧N.rspR C K c W M=N.rspR2 C K c W M:=by
 have e:N.rspE C K c W M=N.rsp2 C K c W M:=by unfold NSta.rspE;rw [if_neg (by omega),if_neg (by omega),if_neg (by rw [h3];decide),if_neg (by rw [h4];decide)]
 exact ⟨e,by unfold NSta.rspR NSta.rspR2;rw [e]⟩
theorem rspR_e {N:NSta} {C K c k:Nat} {W M:List Int} (h:N.rspE C K c W M=k) (hk:k≠0):N.rspR C K c W M=[]:=by unfold NSta.rspR;rw [if_neg (by omega)]
theorem rsp2_0 {N:NSta} {C K c:Nat} {W M:List Int} (h:ra N.vars.length (rsJ N C K c W M)=true):N.rsp2 C K c W M=0∧N.rspR2 C K c W M=N.rspL c W M:=by
 have e:N.rsp2 C K c W M=0:=by unfold NSta.rsp2;rw [if_neg (by rw [h];decide)]
 exact ⟨e,by unfold NSta.rspR2;rw [if_pos e]⟩
theorem rsp2_15 {N:NSta} {C K c:Nat} {W M:List Int} (h:ra N.vars.length (rsJ N C K c W M)=false):N.rsp2 C K c W M=15∧N.rspR2 C K c W M=[]:=by
 have e:N.rsp2 C K c W M=15:=by unfold NSta.rsp2;rw [if_pos h]
 exact ⟨e,by unfold NSta.rspR2;rw [if_neg (by omega)]⟩
theorem mul_lt_pw {a b m n k:Nat} (h1:a<256^m) (h2:b<256^n) (hk:m+n=k):a*b<256^k:=by
 have h:=Nat.mul_lt_mul'' h1 h2;rwa [←Nat.pow_add,hk] at h
theorem nab_mul (c:Nat) (z:Int):((c:Int)*z).natAbs=c*z.natAbs:=by rw [Int.natAbs_mul,Int.natAbs_natCast]
theorem nab_add {a b:Int} {n:Nat} (h1:a.natAbs<256^n) (h2:b.natAbs<256^n) (hn:n<128):(a+b).natAbs<256^128:=by
 have h3:256^n*256≤256^128:=by rw [←Nat.pow_succ];exact Nat.pow_le_pow_right (by decide) (by omega)
 generalize (256:Nat)^n=x at *;generalize (256:Nat)^128=y at *;omega
theorem rsp_mod (q c:Nat) (m z:Int):(m+((((c:Int)*z)%(q:Int)).toNat:Int))%(q:Int)=(m+(c:Int)*z)%(q:Int)∨q=0:=by
 rcases Nat.eq_zero_or_pos q with h | h
 ·exact .inr h
 ·have hq:(q:Int)≠0:=by omega
  rw [Int.toNat_of_nonneg (Int.emod_nonneg _ hq),Int.add_emod_emod];exact .inl rfl
theorem blw_mod (q:Nat) (x:Int) (h:0<q):blw 0 (x%(q:Int)) q=true:=by
 have h1:=Int.emod_nonneg x (show (q:Int)≠0 by omega);have h2:=Int.emod_lt_of_pos x (show (0:Int)<q by omega);rw [blw_zero (by omega),sg_of_nonneg h1];rfl
end
section
open Go.RowKit Go.Shelf
theorem sinr_c (N:NSta) (Z:List Int) (v1 v2 v3 v4:Value) (w:World) (hm:NOk N) (hS:NAt w v1 v2 v3 N) (hZ:ZsAt w v4 Z) (hz:∀z∈Z,z.natAbs<256^64) (hl:Z.length=N.vars.length) :
  Calls Tryz.prog 51 #[.agg #[v1,v2,v3],v4] w fun e w'=>e=.returned (.bool (ra N.vars.length (inJ N Z)))∧Below w.heap.size w w':=by
 obtain ⟨r,hr⟩:∃r:Bool,r=ra N.vars.length (inJ N Z):=⟨_,rfl⟩;have HRES:=Lib.hid hr;rw [←hr];clear hr;have HOR:Hid (∀w',Below w.heap.size w w'→Calls Tryz.prog 95 #[.agg #[v1,v2,v3]] w' fun e w''=>e=.returned (.string (E N.ord))∧Below w'.heap.size w' w''):=fun w' hb=>sorder_c N v1 v2 v3 w' hm (hS.after hb)
 have HQ:=Lib.hid (ord_lt hm);have HVS:=Lib.hid hm.v;have HZZ:=Lib.hid hz;obtain ⟨qo,hqo⟩:∃q,q=N.ord:=⟨_,rfl⟩;have HQO:=Lib.hid hqo;rw [←hqo] at HOR HQ;obtain ⟨a4,c4,rfl⟩:=hZ.form;rw [hl] at hZ ⊢;have HL:=Lib.hid hl;obtain ⟨a1,c1,a2,c2,a3,c3,rfl,rfl,rfl⟩:=hS.forms;obtain ⟨n1,hn1⟩:∃n,n=N.grps.length:=⟨_,rfl⟩;obtain ⟨n2,hn2⟩:∃n,n=N.vars.length:=⟨_,rfl⟩;obtain ⟨n3,hn3⟩:∃n,n=N.eqs.length:=⟨_,rfl⟩;have HN2:=Lib.hid hn2;have l2:n2≤12:=by rw [hn2];exact hm.nv
 rw [←hn1,←hn2,←hn3] at hS HOR ⊢;rw [←hn2] at hZ;clear hm hn1 hn2 hn3 hz hl hqo;have hP:=Blk.new w #[.slice a1 n1 c1,.slice a2 n2 c2,.slice a3 n3 c3] 29;have hBW:=b1 w (.cells #[.slice a1 n1 c1,.slice a2 n2 c2,.slice a3 n3 c3] 29);replace hS:=hS.after hBW;replace hZ:=hZ.after hBW;obtain ⟨hPc0,hPf0,hPc1,hPf1,hPc2,hPf2⟩:=hP.x3;go_enter Tryz.func51,Tryz.ntmps51
 go_wp2_with fail
 refine (HOR.out _ hBW).mono ?_;rintro e w1 ⟨rfl,hb1⟩;clear hPc0 hPf0 hPc1 hPf1 hPc2 hPf2;replace hP:=hP.after hb1;replace hS:=hS.after hb1;replace hZ:=hZ.after hb1;replace hBW:=bt hBW hb1;clear hb1 HOR;replace hP:Blk w1 w.heap.size 29 [.slice a1 n1 c1,.slice a2 n2 c2,.slice a3 n3 c3]:=hP;obtain ⟨hPc0,hPf0,hPc1,hPf1,hPc2,hPf2⟩:=hP.x3;go_wp2;clear hPc0 hPf0 hPc1 hPf1 hPc2 hPf2;clear hP;go_loopw [14] (fun i wr=>∃k:Nat,k≤n2∧i=.int .i64 k∧Hid (ra k (inJ N Z)=true)∧Below w1.heap.size w1 wr) (fun i _=>n2-(intOf i).toNat)
 case atStart=>exact ⟨0,by omega,rfl,rfl,Below.refl _ _⟩
 case round =>
  obtain ⟨k,hk,rfl,HAL,hbr⟩:=hrel;obtain ⟨wp,hwp⟩:∃wp,wp=wr:=⟨_,rfl⟩;subst hwp;have hBW1:=bt hBW hbr;by_cases hlt:k<n2
  ·have hkl:k<N.vars.length:=by rw [←HN2.out];exact hlt
   have hkZ:k<Z.length:=by rw [HL.out];exact hkl
   obtain ⟨bv,ov,rfl,hbv,x1⟩:=(hS.after hbr).vat hkl;obtain ⟨bz,oz,rfl,hbz,z1,z2⟩:=(hZ.after hbr).at_ hkZ;have HZL:=Lib.hid (HZZ.out _ (List.getElem_mem hkZ));have HVL:=Lib.hid (HVS.out _ (List.getElem_mem hkl));have HIJ:=Lib.hid (inJ_at N Z k hkl hkZ);rw [←HQO.out] at HIJ;have HRS:Hid (ra (k+1) (inJ N Z)=inJ N Z k):=by rw [Hid,ra_succ,HAL.out];rfl
   have HRB:Hid (inJ N Z k=false→ra N.vars.length (inJ N Z)=false):=fun h=>ra_false hkl h
   generalize (N.vars[k]'hkl)=vb at x1 HIJ HVL;generalize (Z[k]'hkZ)=lz at z1 z2 HIJ HZL;generalize inJ N Z k=bl at HIJ HRS HRB;have h0k:(0:Int)≤(k:Int):=by omega
   have h1k:(k:Int)<(n2:Int):=by omega
   have hV:=Blk.new wp #[.string (E vb)] 99;have hbV:=b1 wp (.cells #[.string (E vb)] 99);have zz1:=(hbV.cell (p:=⟨bz,oz+k*2,none⟩) hbz).trans z1;have zz2:=(hbV.cell (p:=⟨bz,oz+k*2+1,none⟩) hbz).trans z2;have hbz2:=Nat.lt_of_lt_of_le hbz hbV.size;by_cases hv0:vb=0
   ·have HBE:Hid (∀w,Calls Tryz.prog 52 #[.agg #[.string (E vb)],.agg #[.bool (sg (lz)),.string (E (lz).natAbs)],.string (E qo)] w fun e w'=>e=.returned (.bool bl)∧Below w.heap.size w w'):=fun w=>by
     rw [HIJ.out,if_pos hv0];exact below_c vb lz qo w (lt64 HZL.out) (lt128 HQ.out)
    have HKI:Hid (∀w,Calls Tryz.prog 96 #[.agg #[.string (E vb)]] w fun e w'=>e=.returned (.int .i64 0)∧Below w.heap.size w w'):=fun w=>kindV_c vb 0 w (by rw [hv0];rfl)
    clear hv0 HIJ HZL HVL;obtain ⟨hVc0,hVf0⟩:=hV.x1;go_wp2_with fail
    refine (HKI.out _).mono ?_;rintro e w2 ⟨rfl,hb2⟩;clear hVc0 hVf0;have hVa:=hV.after hb2;have hbe:=bt (bt hbr hbV) hb2;have q1:=(hb2.cell (p:=⟨bz,oz+k*2,none⟩) hbz2).trans zz1;have q2:=(hb2.cell (p:=⟨bz,oz+k*2+1,none⟩) hbz2).trans zz2;have hbz3:=Nat.lt_of_lt_of_le hbz2 hb2.size;have g1:=gcl (a:=⟨bz,oz+k*2,none⟩) hbz3 q1;have g2:=gcl (a:=⟨bz,oz+k*2+1,none⟩) hbz3 q2;clear x1 z1 z2 zz1 zz2 hV hbV hb2 hbv hbz hbz2 HKI;obtain ⟨gv,hgv⟩:∃g,wp.heap.size=g:=⟨_,rfl⟩;rw [hgv] at hVa ⊢;replace hVa:Blk w2 gv 99 [.string (E vb)]:=hVa;clear hgv;obtain ⟨hVac0,hVaf0⟩:=hVa.x1;have hVag0:=hVa.gcell 0;cases bl
    ·have HRF:Hid (r=false):=by rw [Hid,HRES.out];exact HRB.out rfl
     go_upto_region 8 with fail
     go_wp2_with fail
     refine wp_region_gw (by kernel_rfl) (by kernel_rfl) ?_;repeat (go_big_quiet_step (first | (go_at_call 52;exact gw_of (HBE.out _))))
     refine wpQuiet_nil ?_;rintro w7 ⟨xw7,rfl⟩;have hb7:=gw_below xw7;generalize gw xw7=w7 at hb7;go_wp2;go_ret
     rw [HRF.out];exact ⟨rfl,bt hBW (bt hbe hb7)⟩
    ·go_upto_region 8 with fail
     go_wp2_with fail
     refine wp_region_gw (by kernel_rfl) (by kernel_rfl) ?_;repeat (go_big_quiet_step (first | (go_at_call 52;exact gw_of (HBE.out _))))
     refine wpQuiet_nil ?_;rintro w7 ⟨xw7,rfl⟩;have hb7:=gw_below xw7;generalize gw xw7=w7 at hb7;go_wp2;go_roundw
     case rel=>exact ⟨k+1,by omega,by go_num,by rw [Hid,HRS.out],bt hbe hb7⟩
     case measure=>simp [intOf];omega
   ·have HBE:Hid (∀w,Calls Tryz.prog 52 #[.agg #[.string (E vb)],.agg #[.bool (sg (lz)),.string (E (lz).natAbs)],.string (E vb)] w fun e w'=>e=.returned (.bool bl)∧Below w.heap.size w w'):=fun w=>by
     rw [HIJ.out,if_neg hv0];exact below_c vb lz vb w (lt64 HZL.out) (Nat.lt_of_lt_of_le HVL.out (Nat.pow_le_pow_right (by decide) (by decide)))
    have HKI:Hid (∀w,Calls Tryz.prog 96 #[.agg #[.string (E vb)]] w fun e w'=>e=.returned (.int .i64 1)∧Below w.heap.size w w'):=fun w=>kindV_c vb 1 w (by unfold kdN;rw [if_neg hv0])
    clear hv0 HIJ HZL HVL;obtain ⟨hVc0,hVf0⟩:=hV.x1;go_wp2_with fail
    refine (HKI.out _).mono ?_;rintro e w2 ⟨rfl,hb2⟩;clear hVc0 hVf0;have hVa:=hV.after hb2;have hbe:=bt (bt hbr hbV) hb2;have q1:=(hb2.cell (p:=⟨bz,oz+k*2,none⟩) hbz2).trans zz1;have q2:=(hb2.cell (p:=⟨bz,oz+k*2+1,none⟩) hbz2).trans zz2;have hbz3:=Nat.lt_of_lt_of_le hbz2 hb2.size;have g1:=gcl (a:=⟨bz,oz+k*2,none⟩) hbz3 q1;have g2:=gcl (a:=⟨bz,oz+k*2+1,none⟩) hbz3 q2;clear x1 z1 z2 zz1 zz2 hV hbV hb2 hbv hbz hbz2 HKI;obtain ⟨gv,hgv⟩:∃g,wp.heap.size=g:=⟨_,rfl⟩;rw [hgv] at hVa ⊢;replace hVa:Blk w2 gv 99 [.string (E vb)]:=hVa;clear hgv;obtain ⟨hVac0,hVaf0⟩:=hVa.x1;have hVag0:=hVa.gcell 0;cases bl
    ·have HRF:Hid (r=false):=by rw [Hid,HRES.out];exact HRB.out rfl
     go_upto_region 8 with fail
     go_wp2_with fail
     refine wp_region_gw (by kernel_rfl) (by kernel_rfl) ?_;repeat (go_big_quiet_step (first | (go_at_call 52;exact gw_of (HBE.out _))))
     refine wpQuiet_nil ?_;rintro w7 ⟨xw7,rfl⟩;have hb7:=gw_below xw7;generalize gw xw7=w7 at hb7;go_wp2;go_ret
     rw [HRF.out];exact ⟨rfl,bt hBW (bt hbe hb7)⟩
    ·go_upto_region 8 with fail
     go_wp2_with fail
     refine wp_region_gw (by kernel_rfl) (by kernel_rfl) ?_;repeat (go_big_quiet_step (first | (go_at_call 52;exact gw_of (HBE.out _))))
     refine wpQuiet_nil ?_;rintro w7 ⟨xw7,rfl⟩;have hb7:=gw_below xw7;generalize gw xw7=w7 at hb7;go_wp2;go_roundw
     case rel=>exact ⟨k+1,by omega,by go_num,by rw [Hid,HRS.out],bt hbe hb7⟩
     case measure=>simp [intOf];omega
  ·obtain rfl:n2=k:=by omega
   have HRF:Hid (r=true):=by rw [Hid,HRES.out,←HN2.out];exact HAL.out
   go_wp2;go_ret
   rw [HRF.out];exact ⟨rfl,hBW1⟩
theorem srespond_c (N:NSta) (C K c B:Nat) (W M:List Int) (v1 v2 v3 vl vw vm:Value) (w:World) (hC:C<256^16) (hK:K<256^16) (hm:NOk N) (hS:NAt w v1 v2 v3 N) (hL:LmOwn w B vl (N.lims C K)) (hW:ZsAt w vw W) (hM:ZsAt w vm M)
  (hc:c<256^16) (hwl:W.length=N.vars.length) (hml:M.length=N.vars.length) (hwz:∀z∈W,z.natAbs<256^64) (hmz:∀z∈M,z.natAbs<256^64) (hq0:N.vars.any vz=true→0<N.ord) :
  Calls Tryz.prog 53 #[.agg #[v1,v2,v3],vl,vw,vm,.string (E c)] w (EPost w (N.rsp2 C K c W M) (N.rspR2 C K c W M)):=by
 obtain ⟨i1,hi1,hz10,hz11,hz12⟩:=info_parts info_Int;have HI1:=Lib.hid hi1;have HA1:=Lib.hid hz10;have HB1:=Lib.hid hz11;have HC1:=Lib.hid hz12;clear hi1 hz10 hz11 hz12;obtain ⟨r,hr⟩:∃r:Nat,r=N.rsp2 C K c W M:=⟨_,rfl⟩;obtain ⟨rl,hrl⟩:∃r,r=N.rspR2 C K c W M:=⟨_,rfl⟩;have HRES:=Lib.hid hr;have HRL:=Lib.hid hrl;rw [←hr,←hrl];clear hr hrl;have HLT:=Lib.hid (fun b hb=>lim_lt hm hC hK (b:=b) hb);have HQL:=Lib.hid (ord_lt hm);have HQ0:Hid (∀(j:Nat) (h:j<N.vars.length),N.vars[j]=0→0<N.ord):=fun j h e=>hq0 (by rw [List.any_eq_true];exact ⟨_,List.getElem_mem h,by rw [e];rfl⟩)
 have HWZ:=Lib.hid hwz;have HMZ:=Lib.hid hmz;have HCC:=Lib.hid hc;have HFR:Hid (∀w,Calls Tryz.prog 64 #[.string (E c)] w fun e w'=>e=.returned (.agg #[.bool false,.string (E c)])∧Below w.heap.size w w'):=fun w=>fromN c w (Nat.lt_of_lt_of_le hc (Nat.pow_le_pow_right (by decide) (by decide)))
 obtain ⟨a4,c4,rfl⟩:=hW.form;obtain ⟨a5,c5,rfl⟩:=hM.form;obtain ⟨a6,c6,rfl⟩:=hL.form;have HLL:Hid ((N.lims C K).length=N.vars.length):=by rw [Hid,NSta.lims,List.length_map]
 have HWL:=Lib.hid hwl;have HML:=Lib.hid hml;rw [HLL.out] at hL ⊢;rw [hwl] at hW ⊢;rw [hml] at hM ⊢;obtain ⟨a1,c1,a2,c2,a3,c3,rfl,rfl,rfl⟩:=hS.forms;obtain ⟨n1,hn1⟩:∃n,n=N.grps.length:=⟨_,rfl⟩;obtain ⟨n2,hn2⟩:∃n,n=N.vars.length:=⟨_,rfl⟩;obtain ⟨n3,hn3⟩:∃n,n=N.eqs.length:=⟨_,rfl⟩;have HN2:=Lib.hid hn2;have l2:n2≤12:=by rw [hn2];exact hm.nv
 rw [←hn1,←hn2,←hn3] at hS;rw [←hn1,←hn2,←hn3];rw [←hn2] at hW hM hL;clear hm hn1 hn2 hn3 hC hK hc hwl hml hwz hmz hq0;have hP:=Blk.new w #[.slice a1 n1 c1,.slice a2 n2 c2,.slice a3 n3 c3] 29;have hBW:=b1 w (.cells #[.slice a1 n1 c1,.slice a2 n2 c2,.slice a3 n3 c3] 29);replace hS:=hS.after hBW;replace hW:=hW.after hBW;replace hM:=hM.after hBW;replace hL:=hL.after hBW;obtain ⟨hPc0,hPf0,hPc1,hPf1,hPc2,hPf2⟩:=hP.x3;go_enter Tryz.func53,Tryz.ntmps53
 go_wp2;clear hPc0 hPf0 hPc1 hPf1 hPc2 hPf2;clear hP;generalize w.alloc (.cells #[.slice a1 n1 c1,.slice a2 n2 c2,.slice a3 n3 c3] 29)=w1 at hBW hS hW hM hL ⊢;go_loopw [12,30] (fun v12 i wr=>∃k:Nat,k≤n2∧i=.int .i64 k∧Hid (∀j,j<k→rsJ N C K c W M j=true)∧ZOwn wr w1.heap.size v12 ((N.rspL c W M).take k)∧Below w1.heap.size w1 wr) (fun _ i _=>n2-(intOf i).toNat)
 case atStart=>exact ⟨0,by omega,rfl,fun j h=>absurd h (Nat.not_lt_zero _),World.ownsRow_nil _ _ _ _,Below.refl _ _⟩
 case round =>
  obtain ⟨k,hk,rfl,HAL,hO,hbr⟩:=hrel;obtain ⟨wp,hwp⟩:∃wp,wp=wr:=⟨_,rfl⟩;subst hwp;by_cases hlt:k<n2
  ·have hkl:k<N.vars.length:=by rw [←HN2.out];exact hlt
   have hkW:k<W.length:=by rw [HWL.out];exact hkl
   have hkM:k<M.length:=by rw [HML.out];exact hkl
   have hkL:k<(N.lims C K).length:=by rw [HLL.out];exact hkl
   have HST:=Lib.hid (rsp_step N c W M k hkl hkM hkW);have HRJ:=Lib.hid (rsJ_at N C K c W M k hkl hkM hkW);obtain ⟨bv,ov,rfl,hbv,x1⟩:=(hS.after hbr).vat hkl;obtain ⟨bz,oz,rfl,hbz,z1,z2⟩:=(hW.after hbr).at_ hkW;obtain ⟨by_,oy,rfl,hby,y1,y2⟩:=(hM.after hbr).at_ hkM;obtain ⟨bu,rfl,hbu,u1,u2⟩:=(hL.after hbr).at_ hkL;rw [lims_at N C K k hkl hkL] at u1 u2;have HZL:=Lib.hid (HWZ.out _ (List.getElem_mem hkW));have HYS:=Lib.hid (HMZ.out _ (List.getElem_mem hkM));have HLV:=Lib.hid (HLT.out _ (List.getElem_mem hkl));have HQK:=Lib.hid (HQ0.out k hkl);have HLI:Hid (N.vars[k]'hkl=0→lim N.ord C K (N.vars[k]'hkl)=(N.ord,N.ord)):=fun h=>by rw [lim,if_pos h]
   have HRA:Hid (rsJ N C K c W M k=false→N.rsp2 C K c W M=15∧N.rspR2 C K c W M=[]):=fun h=>rsp2_15 (ra_false hkl h)
   have HRT:Hid (rsJ N C K c W M k=true→∀j,j<k+1→rsJ N C K c W M j=true):=fun h j hj=>by
    by_cases e:j=k
    ·rw [e];exact h
    ·exact HAL.out j (by omega)
   clear HAL;generalize rsJ N C K c W M k=bl at HRJ HRA HRT;generalize (N.vars[k]'hkl)=vb at x1 u1 u2 HST HQK HLI HRJ HLV;generalize (W[k]'hkW)=lz at z1 z2 HZL HST HRJ;generalize (M[k]'hkM)=ly at y1 y2 HYS HST HRJ;have hLE:Hid (((N.rspL c W M).take k).length=k):=by rw [Hid,List.length_take,NSta.rspL,List.length_map,List.length_range];omega
   generalize (N.rspL c W M).take k=LI at hO HST hLE;replace hO:wp.ownsRow w1.heap.size 72 2 u12 k (ics (LI.map zI)):=by have h:wp.ownsRow _ _ _ _ _ _:=hO;rw [hLE.out] at h;exact h
   have h0k:(0:Int)≤(k:Int):=by omega
   have h1k:(k:Int)<(n2:Int):=by omega
   have hVA:=Blk.new wp #[.string (E vb)] 99;have hbV:=b1 wp (.cells #[.string (E vb)] 99);have HCM:Hid (((c:Int)*lz).natAbs<256^80):=by rw [Hid,nab_mul];exact mul_lt_pw HCC.out HZL.out (by decide)
   have HMU:Hid (∀w,Calls Tryz.prog 103 #[.agg #[.bool false,.string (E c)],.agg #[.bool (sg (lz)),.string (E (lz).natAbs)]] w fun e w'=>e=.returned (.tuple #[.agg #[.bool (sg ((c:Int)*lz)),.string (E ((c:Int)*lz).natAbs)],.int .i64 0])∧Below w.heap.size w w'):=fun w=>by
    have h:=imul_c (c:Int) lz w (by rw [Int.natAbs_natCast];exact Nat.lt_of_lt_of_le HCC.out (Nat.pow_le_pow_right (by decide) (by decide))) (lt64 HZL.out) (by rw [←Int.natAbs_mul];exact Nat.lt_of_lt_of_le HCM.out (Nat.pow_le_pow_right (by decide) (by decide)));rwa [Int.natAbs_natCast,sg_nat] at h
   have HKI:Hid (∀w,Calls Tryz.prog 96 #[.agg #[.string (E vb)]] w fun e w'=>e=.returned (.int .i64 (kdN vb:Nat))∧Below w.heap.size w w'):=fun w=>kindV_c vb _ w rfl
   clear HZL;obtain ⟨gv,hgv⟩:∃g,wp.heap.size=g:=⟨_,rfl⟩;rw [hgv] at hVA;by_cases hv0:vb=0
   ·have HK0:Hid (kdN vb=0):=by rw [hv0];rfl
    rw [HK0.out] at HKI;have hlim:=HLI.out hv0;rw [hlim] at u1 u2;have HQP:=Lib.hid (HQK.out hv0);have HRT2:=Lib.hid (HRT.out (by rw [HRJ.out,hlim,hv0];unfold rspI;rw [if_pos rfl];exact blw_mod _ _ HQP.out))
    have HXI:Hid (rspI N.ord vb c ly lz=(ly+((((c:Int)*lz)%(N.ord:Int)).toNat:Int))%(N.ord:Int)):=by
     rw [Hid,rspI,if_pos hv0];rcases rsp_mod N.ord c ly lz with h | h
     ·exact h.symm
     ·have:=HQP.out;omega
    rw [HXI.out] at HST;generalize (c:Int)*lz=pz at HMU HCM HST;clear hlim HRJ HRA HRT HLI HXI HQK HLV HK0;obtain ⟨q,hq⟩:∃q,q=N.ord:=⟨_,rfl⟩;have HQQ:Hid (q<256^8):=by rw [Hid,hq];exact HQL.out
    rw [←hq] at u1 u2 HST HQP;clear hq;have HMO:Hid (∀w,Calls Tryz.prog 104 #[.agg #[.bool (sg (pz)),.string (E (pz).natAbs)],.string (E q)] w fun e w'=>e=.returned (.tuple #[.string (E (pz%(q:Int)).toNat),.int .i64 0])∧Below w.heap.size w w'):=fun w=>imodA_c pz q w (Nat.lt_of_lt_of_le HCM.out (Nat.pow_le_pow_right (by decide) (by decide))) (lt128 HQQ.out) HQP.out
    have HAL:Hid ((pz%(q:Int)).toNat<256^8):=by
     have h1:=Int.emod_nonneg pz (show (q:Int)≠0 by have:=HQP.out;omega);have h2:=Int.emod_lt_of_pos pz (show (0:Int)<q by have:=HQP.out;omega);have h3:=HQQ.out;generalize (256:Nat)^8=y at h3;rw [Hid];omega
    generalize (pz%(q:Int)).toNat=ax at HMO HAL HST;have HFA:Hid (∀w,Calls Tryz.prog 64 #[.string (E ax)] w fun e w'=>e=.returned (.agg #[.bool false,.string (E ax)])∧Below w.heap.size w w'):=fun w=>fromN ax w (lt128 HAL.out)
    have HAD:Hid (∀w,Calls Tryz.prog 105 #[.agg #[.bool (sg (ly)),.string (E (ly).natAbs)],.agg #[.bool false,.string (E ax)]] w fun e w'=>e=.returned (.tuple #[.agg #[.bool (sg (ly+(ax:Int))),.string (E (ly+(ax:Int)).natAbs)],.int .i64 0])∧Below w.heap.size w w'):=fun w=>by
     have h:=iadd_c (x:=ly) (y:=(ax:Int)) (w:=w) (lt64 HYS.out) (by rw [Int.natAbs_natCast];exact lt128 HAL.out) (nab_add HYS.out (by rw [Int.natAbs_natCast];exact Nat.lt_of_lt_of_le HAL.out (Nat.pow_le_pow_right (by decide) (by decide))) (by decide));rwa [Int.natAbs_natCast,sg_nat] at h
    have HSB:Hid ((ly+(ax:Int)).natAbs<256^128):=nab_add HYS.out (by rw [Int.natAbs_natCast];exact Nat.lt_of_lt_of_le HAL.out (Nat.pow_le_pow_right (by decide) (by decide))) (by decide);generalize ly+(ax:Int)=sz at HAD HSB HST;have HM2:Hid (∀w,Calls Tryz.prog 104 #[.agg #[.bool (sg (sz)),.string (E (sz).natAbs)],.string (E q)] w fun e w'=>e=.returned (.tuple #[.string (E (sz%(q:Int)).toNat),.int .i64 0])∧Below w.heap.size w w'):=fun w=>imodA_c sz q w HSB.out (lt128 HQQ.out) HQP.out
    have HXE:Hid (sz%(q:Int)=((sz%(q:Int)).toNat:Int)∧(sz%(q:Int)).toNat<256^8):=by
     have h1:=Int.emod_nonneg sz (show (q:Int)≠0 by have:=HQP.out;omega);have h2:=Int.emod_lt_of_pos sz (show (0:Int)<q by have:=HQP.out;omega);have h3:=HQQ.out;generalize (256:Nat)^8=y at h3;exact ⟨by omega,by omega⟩
    rw [HXE.out.1] at HST;have HXL:=Lib.hid HXE.out.2;clear HXE;generalize (sz%(q:Int)).toNat=sx at HM2 HST HXL;have HFX:Hid (∀w,Calls Tryz.prog 64 #[.string (E sx)] w fun e w'=>e=.returned (.agg #[.bool false,.string (E sx)])∧Below w.heap.size w w'):=fun w=>fromN sx w (lt128 HXL.out)
    clear HCM HYS HQQ HQP HAL HSB HXL hv0;obtain ⟨hVAc0,hVAf0⟩:=hVA.x1;go_wp2_with fail
    refine (HKI.out _).mono ?_;rintro e w2 ⟨rfl,hb2⟩;clear hVAc0 hVAf0;have hb3:=bt hbV hb2;have hVb:=hVA.after hb2;have hO1:=own_after hO hb3;have zz1:=(hb3.cell (p:=⟨bz,oz+k*2,none⟩) hbz).trans z1;have zz2:=(hb3.cell (p:=⟨bz,oz+k*2+1,none⟩) hbz).trans z2;have yy1:=(hb3.cell (p:=⟨by_,oy+k*2,none⟩) hby).trans y1;have yy2:=(hb3.cell (p:=⟨by_,oy+k*2+1,none⟩) hby).trans y2;have uu1:=(hb3.cell (p:=⟨bu,k*2,none⟩) hbu).trans u1;have uu2:=(hb3.cell (p:=⟨bu,k*2+1,none⟩) hbu).trans u2;have kz:=Nat.lt_of_lt_of_le hbz hb3.size;have ky:=Nat.lt_of_lt_of_le hby hb3.size;have ku:=Nat.lt_of_lt_of_le hbu hb3.size;have hbx:=bt hbr hb3;clear x1 z1 z2 y1 y2 u1 u2 hbv hbz hby hbu hO hVA hbV hb2 hb3 HKI;obtain ⟨wv,hwv⟩:∃wx,wx=w2:=⟨_,rfl⟩;subst hwv;replace hVb:Blk wv gv 99 [.string (E vb)]:=hVb;go_upto_region 6 with fail
    obtain ⟨cl,hcl⟩:∃l:List (Addr × Value),l=[(⟨bz,oz+k*2,none⟩,.bool (sg lz)),(⟨bz,oz+k*2+1,none⟩,.string (E lz.natAbs))]:=⟨_,rfl⟩;have HCL:=Lib.hid hcl;clear hcl
    have hC:CA wv cl:=by
     rw [HCL.out];exact (CA.cons kz zz1 (CA.cons kz zz2 (CA.nil _)))
    have hneA:=fun x hx=>Nat.ne_of_lt (hC x hx).1
    go_cut [15] (fun s15 wx=>ZBx wv (.bool (sg pz)) (.string (E pz.natAbs)) s15 wx)
    case first =>
     clear yy1 yy2 uu1 uu2 ky ku hO1 hbx hVb
     go_region_held3 (fun w'=>w'.cell? ⟨bz,oz+k*2,none⟩=some (.bool (sg lz))∧w'.cell? ⟨bz,oz+k*2+1,none⟩=some (.string (E lz.natAbs))) ((refine CA.k2 ?_;rw [←HCL.out];repeat (first | (with_reducible exact hCd) | (with_reducible exact hCf) | (with_reducible exact hC) | (with_reducible refine CA.drew ?_) | (with_reducible refine CA.alloc ?_ _) | (refine CA.set ?_ _ _ _ hneA) | (refine CA.set ?_ _ _ _ (fun x hx=>Nat.ne_of_lt (hCf x hx).1)) | (refine CA.set ?_ _ _ _ (fun x hx=>Nat.ne_of_lt (hCd x hx).1)))))
      (first | (go_at_call 64;(with_reducible refine (HFR.out _).mono ?_);rintro e wf ⟨rfl,hbf⟩;have hCf:CA wf cl:=(by first | exact hC.drew.after hbf | exact (hC.alloc _).drew.after hbf | exact (hC.drew.alloc _).after hbf);(try (have hbF:Below wv.heap.size wv wf:=(Below.drew (Below.refl _ _)).trans hbf));(try (have hbF:Below wv.heap.size wv wf:=bt ((b1 wv _).drew) hbf));(try (have kA:=(Blk.new wv #[.bool false,.string { data:=#[] }] 72).drew.after hbf))) | (go_at_call 103;(with_reducible refine (HMU.out _).mono ?_);rintro e wd ⟨rfl,hbd⟩;have hCd:CA wd cl:=(by first | exact hCf.after hbd | exact (hCf.alloc _).after hbd);(try (have hbD:Below wv.heap.size wv wd:=bt hbF hbd));(try (have hbD:Below wv.heap.size wv wd:=bt (ba hbF _) hbd));(try (have kD:=kA.after hbd;have kDc0:=kD.cell 0;have kDc1:=kD.cell 1;have kDf0:=kD.free 0;have kDf1:=kD.free 1));(try (have kE:=(Blk.new wf #[.bool false,.string { data:=#[] }] 72).after hbd;have kEc0:=kE.cell 0;have kEc1:=kE.cell 1;have kEf0:=kE.free 0;have kEf1:=kE.free 1))))
     all_goals
      go_wp2_with fail
      go_meet
      first
       | exact ⟨_,rfl,Blk.new _ _ _,hbD.size,ba hbD _⟩
       | exact ⟨_,rfl,(kD.set 0 _).set 1 _,Nat.le_refl _,(hbD.setCell (by simp) _).setCell (by simp) _⟩
       | exact ⟨_,rfl,(kE.set 0 _).set 1 _,hbF.size,(hbD.setCell (by have:=hbF.size;simp;omega) _).setCell (by have:=hbF.size;simp;omega) _⟩
    case rest =>
    clear hC hneA HCL;obtain ⟨gx,rfl,hX,hgx,hby2⟩:=hcut;have HGX:=Lib.hid hgx;clear hgx;obtain ⟨wy,hwy⟩:∃wy,wy=wc:=⟨_,rfl⟩;subst hwy;have hbe:=bt hbx hby2;have hO2:=own_after hO1 hby2;have yy3:=(hby2.cell (p:=⟨by_,oy+k*2,none⟩) ky).trans yy1;have yy4:=(hby2.cell (p:=⟨by_,oy+k*2+1,none⟩) ky).trans yy2;have uu3:=(hby2.cell (p:=⟨bu,k*2,none⟩) ku).trans uu1;have ky2:=Nat.lt_of_lt_of_le ky hby2.size;have ku2:=Nat.lt_of_lt_of_le ku hby2.size;clear zz1 zz2 yy1 yy2 uu1 uu2 kz ky ku hO1 hbx hby2 hVb HFR HMU HGX;have g1:=gcl (a:=⟨bu,k*2,none⟩) ku2 uu3;have hXl:=hX.lt;obtain ⟨hXc0,hXf0,hXc1,hXf1⟩:=hX.x2;have hXg0:=hX.gcell 0;have hXg1:=hX.gcell 1;go_upto_region 7 with fail
    go_wp2_with fail
    refine wp_region_gw (by kernel_rfl) (by kernel_rfl) ?_;repeat (go_big_quiet_step (first | (go_at_call 104;exact gw_of (HMO.out _))))
    refine wpQuiet_nil ?_;rintro w3 ⟨xw3,rfl⟩;have hb3:=gw_below xw3;generalize gw xw3=w3 at hb3;clear hXc0 hXf0 hXc1 hXf1;clear hXg0 hXg1;replace hbe:=bt hbe hb3;replace hO2:=own_after hO2 hb3;have yy5:=(hb3.cell (p:=⟨by_,oy+k*2,none⟩) ky2).trans yy3;have yy6:=(hb3.cell (p:=⟨by_,oy+k*2+1,none⟩) ky2).trans yy4;have uu5:=(hb3.cell (p:=⟨bu,k*2,none⟩) ku2).trans uu3;have ky3:=Nat.lt_of_lt_of_le ky2 hb3.size;have ku3:=Nat.lt_of_lt_of_le ku2 hb3.size;clear g1 hXl hX yy3 yy4 uu3 ky2 ku2 hb3 HMO;go_upto_region 8 with fail
    obtain ⟨cl,hcl⟩:∃l:List (Addr × Value),l=[(⟨by_,oy+k*2,none⟩,.bool (sg ly)),(⟨by_,oy+k*2+1,none⟩,.string (E ly.natAbs))]:=⟨_,rfl⟩;have HCL:=Lib.hid hcl;clear hcl
    have hC:CA w3 cl:=by
     rw [HCL.out];exact (CA.cons ky3 yy5 (CA.cons ky3 yy6 (CA.nil _)))
    have hneA:=fun x hx=>Nat.ne_of_lt (hC x hx).1
    go_cut [19,20] (fun s19 s20 wx=>ZBx w3 (.bool (sg sz)) (.string (E sz.natAbs)) s19 wx∧s20=.int .i64 0)
    case first =>
     clear uu5 ku3 hO2 hbe
     go_region_held3 (fun w'=>w'.cell? ⟨by_,oy+k*2,none⟩=some (.bool (sg ly))∧w'.cell? ⟨by_,oy+k*2+1,none⟩=some (.string (E ly.natAbs))) ((refine CA.k2 ?_;rw [←HCL.out];repeat (first | (with_reducible exact hCd) | (with_reducible exact hCf) | (with_reducible exact hC) | (with_reducible refine CA.drew ?_) | (with_reducible refine CA.alloc ?_ _) | (refine CA.set ?_ _ _ _ hneA) | (refine CA.set ?_ _ _ _ (fun x hx=>Nat.ne_of_lt (hCf x hx).1)) | (refine CA.set ?_ _ _ _ (fun x hx=>Nat.ne_of_lt (hCd x hx).1)))))
      (first | (go_at_call 64;(with_reducible refine (HFA.out _).mono ?_);rintro e wf ⟨rfl,hbf⟩;have hCf:CA wf cl:=(by first | exact hC.drew.after hbf | exact (hC.alloc _).drew.after hbf | exact (hC.drew.alloc _).after hbf);(try (have hbF:Below w3.heap.size w3 wf:=(Below.drew (Below.refl _ _)).trans hbf));(try (have hbF:Below w3.heap.size w3 wf:=bt ((b1 w3 _).drew) hbf));(try (have kA:=(Blk.new w3 #[.bool false,.string { data:=#[] }] 72).drew.after hbf))) | (go_at_call 105;(with_reducible refine (HAD.out _).mono ?_);rintro e wd ⟨rfl,hbd⟩;have hCd:CA wd cl:=(by first | exact hCf.after hbd | exact (hCf.alloc _).after hbd);(try (have hbD:Below w3.heap.size w3 wd:=bt hbF hbd));(try (have hbD:Below w3.heap.size w3 wd:=bt (ba hbF _) hbd));(try (have kD:=kA.after hbd;have kDc0:=kD.cell 0;have kDc1:=kD.cell 1;have kDf0:=kD.free 0;have kDf1:=kD.free 1));(try (have kE:=(Blk.new wf #[.bool false,.string { data:=#[] }] 72).after hbd;have kEc0:=kE.cell 0;have kEc1:=kE.cell 1;have kEf0:=kE.free 0;have kEf1:=kE.free 1))))
     all_goals
      go_wp2_with fail
      go_meet
      first
       | exact ⟨⟨_,rfl,Blk.new _ _ _,hbD.size,ba hbD _⟩,rfl⟩
       | exact ⟨⟨_,rfl,(kD.set 0 _).set 1 _,Nat.le_refl _,(hbD.setCell (by simp) _).setCell (by simp) _⟩,rfl⟩
       | exact ⟨⟨_,rfl,(kE.set 0 _).set 1 _,hbF.size,(hbD.setCell (by have:=hbF.size;simp;omega) _).setCell (by have:=hbF.size;simp;omega) _⟩,rfl⟩
    case rest =>
    clear hC hneA HCL;obtain ⟨⟨gx,rfl,hX,hgx,hb4⟩,rfl⟩:=hcut;have HGX:=Lib.hid hgx;clear hgx;obtain ⟨w4,hw4⟩:∃wy,wy=wc:=⟨_,rfl⟩;subst hw4;replace hbe:=bt hbe hb4;replace hO2:=own_after hO2 hb4;have uu6:=(hb4.cell (p:=⟨bu,k*2,none⟩) ku3).trans uu5;have ku4:=Nat.lt_of_lt_of_le ku3 hb4.size;clear yy5 yy6 uu5 ky3 ku3 hb4 HFA HAD HGX;have g1:=gcl (a:=⟨bu,k*2,none⟩) ku4 uu6;have hXl:=hX.lt;obtain ⟨hXc0,hXf0,hXc1,hXf1⟩:=hX.x2;have hXg0:=hX.gcell 0;have hXg1:=hX.gcell 1;go_upto_region 11 with fail
    go_wp2_with fail
    refine wp_region_gw (by kernel_rfl) (by kernel_rfl) ?_;repeat (go_big_quiet_step (first | (go_at_call 104;exact gw_of (HM2.out _))))
    refine wpQuiet_nil ?_;rintro w5 ⟨xw5,rfl⟩;have hb5:=gw_below xw5;generalize gw xw5=w5 at hb5;clear hXc0 hXf0 hXc1 hXf1;clear hXg0 hXg1;replace hbe:=bt hbe hb5;replace hO2:=own_after hO2 hb5;clear g1 hXl hX uu6 ku4 hb5 HM2;go_wp2_with fail
    refine (HFX.out _).mono ?_;rintro e w11 ⟨rfl,hb11⟩;have hO8:(w11).ownsRow w1.heap.size 72 2 u12 k (ics (LI.map zI)):=own_after hO2 hb11;have hbr8:=bt hbe hb11;clear hO2 hbe hb11;have hZ0:Hid (ics [zI ((sx:Nat):Int)]=[.bool false,.string (E sx)]):=by rw [Hid];simp [ics,zI,sg_nat]
    have hsz8:=hbr8.size;go_wp2_with (at_builtin;refine wpList_append_lies _ rfl (.tmp 81) (.tmp 84) _ rfl w1.heap.size 72 i1 _ 2 24 Tryz.underlying39 HI1.out HA1.out HB1.out HC1.out rfl (by omega) u12 k (ics (LI.map zI)) rfl (own_after hO8 (b1 _ (.cells #[.bool false,.string (E sx)] 72))) ⟨(w11).heap.size,0,none⟩ 1 1 [.bool false,.string (E sx)] rfl rfl (Blk.new (w11) #[.bool false,.string (E sx)] 72).cells (by simp [Value.oneCell']) (by omega) (by simp only [maxLen];omega) (by omega) (by rw [World.size_alloc];omega) ((w11).heap.size+1) (by simp) ?_;intro ga ca' wz hown hgrow hat hlt2)
    have hOA:ZOwn wz w1.heap.size (.slice (some ⟨ga,0,none⟩) (k+1) ca') (LI++[((sx:Nat):Int)]):=by rw [ZOwn,List.length_append,hLE.out,←ics_app];have h:=hown;rw [←hZ0.out] at h;exact h
    rw [←HST.out] at hOA;have hbA:=(ba hbr8 (.cells #[.bool false,.string (E sx)] 72)).grown hgrow (by rw [World.size_alloc];omega) (fun x hx=>(own_lt hO8 hx).2);clear hown hgrow hat hlt2 hO8 hbr8;go_wp2;go_roundw
    case rel=>exact ⟨k+1,by omega,by go_num,HRT2.out,hOA,hbA⟩
    case measure=>simp [intOf];omega
   ·have HK0:Hid (kdN vb=1):=by unfold Hid kdN;rw [if_neg hv0]
    rw [HK0.out] at HKI;have HXI:Hid (rspI N.ord vb c ly lz=ly+(c:Int)*lz):=by unfold Hid rspI;rw [if_neg hv0]
    rw [HXI.out] at HST HRJ;generalize (lim N.ord C K vb).1=la at u1;generalize (lim N.ord C K vb).2=lb at u2 HRJ HLV;generalize (c:Int)*lz=pz at HMU HCM HST HRJ;have HSB:Hid ((ly+pz).natAbs<256^128):=nab_add (n:=80) (Nat.lt_of_lt_of_le HYS.out (Nat.pow_le_pow_right (by decide) (by decide))) HCM.out (by decide);have HAD:Hid (∀w,Calls Tryz.prog 105 #[.agg #[.bool (sg (ly)),.string (E (ly).natAbs)],.agg #[.bool (sg (pz)),.string (E (pz).natAbs)]] w fun e w'=>e=.returned (.tuple #[.agg #[.bool (sg (ly+pz)),.string (E (ly+pz).natAbs)],.int .i64 0])∧Below w.heap.size w w'):=fun w=>iadd_c (x:=ly) (y:=pz) (w:=w) (lt64 HYS.out) (Nat.lt_of_lt_of_le HCM.out (Nat.pow_le_pow_right (by decide) (by decide))) HSB.out
    generalize ly+pz=dz at HAD HSB HST HRJ
    have HBE:Hid (∀w,Calls Tryz.prog 52 #[.agg #[.string (E vb)],.agg #[.bool (sg (dz)),.string (E (dz).natAbs)],.string (E lb)] w fun e w'=>e=.returned (.bool bl)∧Below w.heap.size w w'):=fun w=>by
     rw [HRJ.out];exact below_c vb dz lb w HSB.out (Nat.lt_of_lt_of_le HLV.out (Nat.pow_le_pow_right (by decide) (by decide)))
    clear HXI HRJ HLI HQK HLV HK0 HCM HYS HSB hv0;obtain ⟨hVAc0,hVAf0⟩:=hVA.x1;go_wp2_with fail
    refine (HKI.out _).mono ?_;rintro e w2 ⟨rfl,hb2⟩;clear hVAc0 hVAf0;have hb3:=bt hbV hb2;have hVb:=hVA.after hb2;have hO1:=own_after hO hb3;have zz1:=(hb3.cell (p:=⟨bz,oz+k*2,none⟩) hbz).trans z1;have zz2:=(hb3.cell (p:=⟨bz,oz+k*2+1,none⟩) hbz).trans z2;have yy1:=(hb3.cell (p:=⟨by_,oy+k*2,none⟩) hby).trans y1;have yy2:=(hb3.cell (p:=⟨by_,oy+k*2+1,none⟩) hby).trans y2;have uu1:=(hb3.cell (p:=⟨bu,k*2,none⟩) hbu).trans u1;have uu2:=(hb3.cell (p:=⟨bu,k*2+1,none⟩) hbu).trans u2;have kz:=Nat.lt_of_lt_of_le hbz hb3.size;have ky:=Nat.lt_of_lt_of_le hby hb3.size;have ku:=Nat.lt_of_lt_of_le hbu hb3.size;have hbx:=bt hbr hb3;clear x1 z1 z2 y1 y2 u1 u2 hbv hbz hby hbu hO hVA hbV hb2 hb3 HKI;obtain ⟨wv,hwv⟩:∃wx,wx=w2:=⟨_,rfl⟩;subst hwv;replace hVb:Blk wv gv 99 [.string (E vb)]:=hVb;go_upto_region 13 with fail
    obtain ⟨cl,hcl⟩:∃l:List (Addr × Value),l=[(⟨bz,oz+k*2,none⟩,.bool (sg lz)),(⟨bz,oz+k*2+1,none⟩,.string (E lz.natAbs))]:=⟨_,rfl⟩;have HCL:=Lib.hid hcl;clear hcl
    have hC:CA wv cl:=by
     rw [HCL.out];exact (CA.cons kz zz1 (CA.cons kz zz2 (CA.nil _)))
    have hneA:=fun x hx=>Nat.ne_of_lt (hC x hx).1
    go_cut [23] (fun s23 wx=>ZBx wv (.bool (sg pz)) (.string (E pz.natAbs)) s23 wx)
    case first =>
     clear yy1 yy2 uu1 uu2 ky ku hO1 hbx hVb
     go_region_held3 (fun w'=>w'.cell? ⟨bz,oz+k*2,none⟩=some (.bool (sg lz))∧w'.cell? ⟨bz,oz+k*2+1,none⟩=some (.string (E lz.natAbs))) ((refine CA.k2 ?_;rw [←HCL.out];repeat (first | (with_reducible exact hCd) | (with_reducible exact hCf) | (with_reducible exact hC) | (with_reducible refine CA.drew ?_) | (with_reducible refine CA.alloc ?_ _) | (refine CA.set ?_ _ _ _ hneA) | (refine CA.set ?_ _ _ _ (fun x hx=>Nat.ne_of_lt (hCf x hx).1)) | (refine CA.set ?_ _ _ _ (fun x hx=>Nat.ne_of_lt (hCd x hx).1)))))
      (first | (go_at_call 64;(with_reducible refine (HFR.out _).mono ?_);rintro e wf ⟨rfl,hbf⟩;have hCf:CA wf cl:=(by first | exact hC.drew.after hbf | exact (hC.alloc _).drew.after hbf | exact (hC.drew.alloc _).after hbf);(try (have hbF:Below wv.heap.size wv wf:=(Below.drew (Below.refl _ _)).trans hbf));(try (have hbF:Below wv.heap.size wv wf:=bt ((b1 wv _).drew) hbf));(try (have kA:=(Blk.new wv #[.bool false,.string { data:=#[] }] 72).drew.after hbf))) | (go_at_call 103;(with_reducible refine (HMU.out _).mono ?_);rintro e wd ⟨rfl,hbd⟩;have hCd:CA wd cl:=(by first | exact hCf.after hbd | exact (hCf.alloc _).after hbd);(try (have hbD:Below wv.heap.size wv wd:=bt hbF hbd));(try (have hbD:Below wv.heap.size wv wd:=bt (ba hbF _) hbd));(try (have kD:=kA.after hbd;have kDc0:=kD.cell 0;have kDc1:=kD.cell 1;have kDf0:=kD.free 0;have kDf1:=kD.free 1));(try (have kE:=(Blk.new wf #[.bool false,.string { data:=#[] }] 72).after hbd;have kEc0:=kE.cell 0;have kEc1:=kE.cell 1;have kEf0:=kE.free 0;have kEf1:=kE.free 1))))
     all_goals
      go_wp2_with fail
      go_meet
      first
       | exact ⟨_,rfl,Blk.new _ _ _,hbD.size,ba hbD _⟩
       | exact ⟨_,rfl,(kD.set 0 _).set 1 _,Nat.le_refl _,(hbD.setCell (by simp) _).setCell (by simp) _⟩
       | exact ⟨_,rfl,(kE.set 0 _).set 1 _,hbF.size,(hbD.setCell (by have:=hbF.size;simp;omega) _).setCell (by have:=hbF.size;simp;omega) _⟩
    case rest =>
    clear hC hneA HCL;obtain ⟨gx,rfl,hX,hgx,hby2⟩:=hcut;have HGX:=Lib.hid hgx;clear hgx;obtain ⟨wy,hwy⟩:∃wy,wy=wc:=⟨_,rfl⟩;subst hwy;have hbe:=bt hbx hby2;have hO2:=own_after hO1 hby2;have hVc:=hVb.after hby2;have yy3:=(hby2.cell (p:=⟨by_,oy+k*2,none⟩) ky).trans yy1;have yy4:=(hby2.cell (p:=⟨by_,oy+k*2+1,none⟩) ky).trans yy2;have uu3:=(hby2.cell (p:=⟨bu,k*2+1,none⟩) ku).trans uu2;have ky2:=Nat.lt_of_lt_of_le ky hby2.size;have ku2:=Nat.lt_of_lt_of_le ku hby2.size;clear zz1 zz2 yy1 yy2 uu1 uu2 kz ky ku hO1 hbx hby2 hVb HFR HMU HGX;have hXl:=hX.lt;have hXc0:=hX.cell 0;have hXc1:=hX.cell 1;go_upto_region 14 with fail
    obtain ⟨cl,hcl⟩:∃l:List (Addr × Value),l=[(⟨by_,oy+k*2,none⟩,.bool (sg ly)),(⟨by_,oy+k*2+1,none⟩,.string (E ly.natAbs)),(⟨gx,0,none⟩,.bool (sg pz)),(⟨gx,1,none⟩,.string (E pz.natAbs))]:=⟨_,rfl⟩;have HCL:=Lib.hid hcl;clear hcl
    have hC:CA wy cl:=by
     rw [HCL.out];exact (CA.cons ky2 yy3 (CA.cons ky2 yy4 (CA.cons hXl hXc0 (CA.cons hXl hXc1 (CA.nil _)))))
    have hneA:=fun x hx=>Nat.ne_of_lt (hC x hx).1
    go_cut [25,26] (fun s25 s26 wx=>ZBx wy (.bool (sg dz)) (.string (E dz.natAbs)) s25 wx∧s26=.int .i64 0)
    case first =>
     clear uu3 ku2 hO2 hbe hVc hX
     go_region_held3 (fun w'=>w'.cell? ⟨by_,oy+k*2,none⟩=some (.bool (sg ly))∧w'.cell? ⟨by_,oy+k*2+1,none⟩=some (.string (E ly.natAbs))∧w'.cell? ⟨gx,0,none⟩=some (.bool (sg pz))∧w'.cell? ⟨gx,1,none⟩=some (.string (E pz.natAbs))) ((refine CA.k4 ?_;rw [←HCL.out];repeat (first | (with_reducible exact hCd) | (with_reducible exact hCf) | (with_reducible exact hC) | (with_reducible refine CA.drew ?_) | (with_reducible refine CA.alloc ?_ _) | (refine CA.set ?_ _ _ _ hneA) | (refine CA.set ?_ _ _ _ (fun x hx=>Nat.ne_of_lt (hCf x hx).1)) | (refine CA.set ?_ _ _ _ (fun x hx=>Nat.ne_of_lt (hCd x hx).1)))))
      ((go_at_call 105;(with_reducible refine (HAD.out _).mono ?_);rintro e wd ⟨rfl,hbd⟩;have hCd:CA wd cl:=(by first | exact hC.drew.after hbd | exact (hC.alloc _).drew.after hbd | exact (hC.drew.alloc _).after hbd);(try (have hbD:Below wy.heap.size wy wd:=(Below.drew (Below.refl _ _)).trans hbd));(try (have hbD:Below wy.heap.size wy wd:=bt ((b1 wy _).drew) hbd));(try (have kD:=(Blk.new wy #[.bool false,.string { data:=#[] }] 72).drew.after hbd;have kDc0:=kD.cell 0;have kDc1:=kD.cell 1;have kDf0:=kD.free 0;have kDf1:=kD.free 1))))
     all_goals
      go_wp2_with fail
      go_meet
      first
       | exact ⟨⟨_,rfl,Blk.new _ _ _,hbD.size,ba hbD _⟩,rfl⟩
       | exact ⟨⟨_,rfl,(kD.set 0 _).set 1 _,Nat.le_refl _,(hbD.setCell (by simp) _).setCell (by simp) _⟩,rfl⟩
    case rest =>
    clear hC hneA HCL;obtain ⟨⟨gy,rfl,hY,hgy,hb4⟩,rfl⟩:=hcut;have HGY:=Lib.hid hgy;clear hgy;obtain ⟨w4,hw4⟩:∃wy,wy=wc:=⟨_,rfl⟩;subst hw4;replace hbe:=bt hbe hb4;replace hO2:=own_after hO2 hb4;replace hVc:=hVc.after hb4;have uu6:=(hb4.cell (p:=⟨bu,k*2+1,none⟩) ku2).trans uu3;have ku4:=Nat.lt_of_lt_of_le ku2 hb4.size;clear yy3 yy4 uu3 ky2 ku2 hb4 HAD HGY hX hXl hXc0 hXc1;have g1:=gcl (a:=⟨bu,k*2+1,none⟩) ku4 uu6;have hYl:=hY.lt;obtain ⟨hYc0,hYf0,hYc1,hYf1⟩:=hY.x2;obtain ⟨hVcc0,hVcf0⟩:=hVc.x1;have hYg0:=hY.gcell 0;have hYg1:=hY.gcell 1;have hVcg0:=hVc.gcell 0;cases bl
    ·have HX:=Lib.hid (HRA.out rfl);go_upto_region 15 with fail
     go_wp2_with fail
     refine wp_region_gw (by kernel_rfl) (by kernel_rfl) ?_;repeat (go_big_quiet_step (first | (go_at_call 52;exact gw_of (HBE.out _))))
     refine wpQuiet_nil ?_;rintro w5 ⟨xw5,rfl⟩;have hb5:=gw_below xw5;generalize gw xw5=w5 at hb5;go_wp2;go_ret2
     rw [HRES.out,HRL.out,HX.out.1,HX.out.2];exact epost_err rfl (bt hBW (bt hbe hb5))
    ·have HRT2:=Lib.hid (HRT.out rfl);go_upto_region 15 with fail
     go_wp2_with fail
     refine wp_region_gw (by kernel_rfl) (by kernel_rfl) ?_;repeat (go_big_quiet_step (first | (go_at_call 52;exact gw_of (HBE.out _))))
     refine wpQuiet_nil ?_;rintro w5 ⟨xw5,rfl⟩;have hb5:=gw_below xw5;generalize gw xw5=w5 at hb5;clear hYc0 hYf0 hYc1 hYf1;clear hVcc0 hVcf0;clear hYg0 hYg1;clear hVcg0;have hY5:=hY.after hb5;have hO8:(w5).ownsRow w1.heap.size 72 2 u12 k (ics (LI.map zI)):=own_after hO2 hb5;have hbr8:=bt hbe hb5;clear hO2 hbe hb5 g1 hYl hY uu6 ku4 HBE HRA HRT hVc;have hsz8:=hbr8.size;have hY5l:=hY5.lt;obtain ⟨hY5c0,hY5f0,hY5c1,hY5f1⟩:=hY5.x2;go_wp2_with (at_builtin;refine wpList_append_lies _ rfl (.tmp 118) (.tmp 120) _ rfl w1.heap.size 72 i1 _ 2 24 Tryz.underlying39 HI1.out HA1.out HB1.out HC1.out rfl (by omega) u12 k (ics (LI.map zI)) rfl (own_after hO8 (b1 _ (.cells #[.bool (sg dz),.string (E dz.natAbs)] 72))) ⟨(w5).heap.size,0,none⟩ 1 1 [.bool (sg dz),.string (E dz.natAbs)] rfl rfl (Blk.new (w5) #[.bool (sg dz),.string (E dz.natAbs)] 72).cells (by simp [Value.oneCell']) (by omega) (by simp only [maxLen];omega) (by omega) (by rw [World.size_alloc];omega) ((w5).heap.size+1) (by simp) ?_;intro ga ca' wz hown hgrow hat hlt2)
     have hOA:ZOwn wz w1.heap.size (.slice (some ⟨ga,0,none⟩) (k+1) ca') (LI++[dz]):=by rw [ZOwn,List.length_append,hLE.out,←ics_app];exact hown
     rw [←HST.out] at hOA;have hbA:=(ba hbr8 (.cells #[.bool (sg dz),.string (E dz.natAbs)] 72)).grown hgrow (by rw [World.size_alloc];omega) (fun x hx=>(own_lt hO8 hx).2);clear hown hgrow hat hlt2 hO8 hbr8;go_wp2;go_roundw
     case rel=>exact ⟨k+1,by omega,by go_num,HRT2.out,hOA,hbA⟩
     case measure=>simp [intOf];omega
  ·obtain rfl:n2=k:=by omega
   have HTK:Hid ((N.rspL c W M).take n2=N.rspL c W M):=List.take_of_length_le (by rw [NSta.rspL,List.length_map,List.length_range,←HN2.out];exact Nat.le_refl _);have HX:=Lib.hid (rsp2_0 (N:=N) (C:=C) (K:=K) (c:=c) (W:=W) (M:=M) (ra_true fun j hj=>HAL.out j (by rw [HN2.out];exact hj)));rw [HTK.out] at hO;have hs4:=hBW.size;go_wp2;go_ret2
   rw [HRES.out,HRL.out,HX.out.1,HX.out.2];exact ⟨_,rfl,own_mono hO hs4,bt hBW hbr⟩
end
section
open Go.RowKit Go.Shelf
theorem sresp_num (N:NSta) (C K c:Nat) (W M:List Int) (v1 v2 v3 vw vm:Value) (w:World) (hC:C<256^16) (hK:K<256^16) (hm:NOk N) (hS:NAt w v1 v2 v3 N)
  (hch:∀w',Below w.heap.size w w'→Calls Tryz.prog 42 #[.agg #[.string (E C),.string (E K)],.agg #[v1,v2,v3]] w' (BPost w' (N.lims C K)))
  (hW:ZsAt w vw W) (hM:ZsAt w vm M) (hc:c<256^100) (hwn:W.length≤1000) (hmn:M.length≤1000) (hwz:∀z∈W,z.natAbs<256^64) (hmz:∀z∈M,z.natAbs<256^64) (hq0:N.vars.any vz=true→0<N.ord) :
  Calls Tryz.prog 17 #[.agg #[.string (E C),.string (E K)],.agg #[v1,v2,v3],vw,vm,.string (E c)] w (EPost w (N.rspE C K c W M) (N.rspR C K c W M)):=by
 obtain ⟨r,hr⟩:∃r:Nat,r=N.rspE C K c W M:=⟨_,rfl⟩;obtain ⟨rl,hrl⟩:∃r,r=N.rspR C K c W M:=⟨_,rfl⟩;have HRES:=Lib.hid hr;have HRL:=Lib.hid hrl;rw [←hr,←hrl];clear hr hrl;have HER:Hid (∀k,N.rspE C K c W M=k→k≠0→r=k∧rl=[]):=fun k h hk=>⟨HRES.out.trans h,HRL.out.trans (rspR_e h hk)⟩
 have HCH:=Lib.hid hch
 have hval:∀(Z:List Int) (v:Value),(∀z∈Z,z.natAbs<256^64)→Z.length≤1000→ZsAt w v Z→∀w',Below w.heap.size w w'→Calls Tryz.prog 48 #[v] w' fun e w''=>e=.returned (.bool true)∧Below w'.heap.size w' w'':=fun Z v hz hn hv w' hb =>
  svalidV_c (Z.map zI) v true w' (by rw [List.length_map];exact hn) (fun x hx=>by obtain ⟨z,hz',rfl⟩:=List.mem_map.1 hx;exact Nat.le_trans ((E_size_le _ 64).2 (hz z hz')) (by decide)) (hv.after hb) (by rw [List.all_map,List.all_eq_true];intro z hz';exact ivB_I z (lt64 (hz z hz')))
 have HVW:=Lib.hid (hval W vw hwz hwn hW);have HVM:=Lib.hid (hval M vm hmz hmn hM);have HVC:Hid (∀w,Calls Tryz.prog 49 #[.string (E c)] w fun e w'=>e=.returned (.bool true)∧w=w'):=fun w=>validE_c c w (Nat.lt_of_lt_of_le hc (Nat.pow_le_pow_right (by decide) (by decide)))
 have HCM:Hid (∀w,Calls Tryz.prog 50 #[.string (E c),.string (E C)] w fun e w'=>e=.returned (.int .i64 (cmpN c C))∧w=w'):=fun w=>cmp_c c C w (Nat.lt_of_lt_of_le hc (Nat.pow_le_pow_right (by decide) (by decide))) (Nat.lt_of_lt_of_le hC (Nat.pow_le_pow_right (by decide) (by decide)))
 obtain ⟨bi,hbi⟩:∃b:Bool,b=ra N.vars.length (inJ N W):=⟨_,rfl⟩;have HBI:=Lib.hid hbi;have HIN:Hid (W.length=N.vars.length→∀w',Below w.heap.size w w'→Calls Tryz.prog 51 #[.agg #[v1,v2,v3],vw] w' fun e w''=>e=.returned (.bool bi)∧Below w'.heap.size w' w''):=fun h w' hb=>by rw [hbi];exact sinr_c N W v1 v2 v3 vw w' hm (hS.after hb) (hW.after hb) hwz h
 have HRS:Hid (c<C→W.length=N.vars.length→M.length=N.vars.length→∀(B:Nat) (vl:Value) w',Below w.heap.size w w'→LmOwn w' B vl (N.lims C K)→Calls Tryz.prog 53 #[.agg #[v1,v2,v3],vl,vw,vm,.string (E c)] w' (EPost w' (N.rsp2 C K c W M) (N.rspR2 C K c W M))):=fun hcc h1 h2 B vl w' hb hL =>
  srespond_c N C K c B W M v1 v2 v3 vl vw vm w' hC hK hm (hS.after hb) hL (hW.after hb) (hM.after hb) (Nat.lt_trans hcc hC) h1 h2 hwz hmz hq0
 have HLB:Hid (∀(x:Int) (vb lb:Nat),x.natAbs<256^64→lb<256^64→∀w,Calls Tryz.prog 52 #[.agg #[.string (E vb)],.agg #[.bool (sg (x)),.string (E (x).natAbs)],.string (E lb)] w fun e w'=>e=.returned (.bool (blw vb x lb))∧Below w.heap.size w w'):=fun x vb lb hx hl w=>below_c vb x lb w (lt64 hx) (lt64 hl)
 have HLT:Hid (∀(j:Nat) (h:j<N.vars.length),(lim N.ord C K N.vars[j]).1<256^64):=fun j h=>by
  unfold lim;split
  ·exact Nat.lt_of_lt_of_le (ord_lt hm) (Nat.pow_le_pow_right (by decide) (by decide))
  ·exact Nat.lt_of_lt_of_le (lt_mul3 hC hK (hm.v _ (List.getElem_mem h))).2 (Nat.pow_le_pow_right (by decide) (by decide))
 have HMZ:=Lib.hid hmz;obtain ⟨a4,c4,rfl⟩:=hW.form;obtain ⟨a5,c5,rfl⟩:=hM.form;obtain ⟨nw,hnw⟩:∃n,n=W.length:=⟨_,rfl⟩;obtain ⟨nm,hnm⟩:∃n,n=M.length:=⟨_,rfl⟩;have HNW:=Lib.hid hnw;have HNM:=Lib.hid hnm;rw [←hnw] at hW HVW HIN HRS ⊢;rw [←hnm] at hM HVM HRS ⊢;obtain ⟨a1,c1,a2,c2,a3,c3,rfl,rfl,rfl⟩:=hS.forms;obtain ⟨n1,hn1⟩:∃n,n=N.grps.length:=⟨_,rfl⟩;obtain ⟨n2,hn2⟩:∃n,n=N.vars.length:=⟨_,rfl⟩;obtain ⟨n3,hn3⟩:∃n,n=N.eqs.length:=⟨_,rfl⟩;have HN2:=Lib.hid hn2;have l2:n2≤12:=by rw [hn2];exact hm.nv
 have lw:nw≤1000:=by rw [hnw];exact hwn
 have lm:nm≤1000:=by rw [hnm];exact hmn
 rw [←hn1,←hn2,←hn3] at hS HCH ⊢;rw [←hn1,←hn2,←hn3] at HIN HRS;clear hbi hm hn1 hn2 hn3 hnw hnm hC hK hc hch hval hwn hmn hwz hmz hq0;have hR:=blk2a w #[.string (E C),.string (E K)] #[.slice a1 n1 c1,.slice a2 n2 c2,.slice a3 n3 c3] 24 29;have hP:=blk2b w #[.string (E C),.string (E K)] #[.slice a1 n1 c1,.slice a2 n2 c2,.slice a3 n3 c3] 24 29;have hBW:=b2 w (.cells #[.string (E C),.string (E K)] 24) (.cells #[.slice a1 n1 c1,.slice a2 n2 c2,.slice a3 n3 c3] 29);replace hS:=hS.after hBW;replace hM:=hM.after hBW;clear hW;obtain ⟨hRc0,hRf0,hRc1,hRf1⟩:=hR.x2;obtain ⟨hPc0,hPf0,hPc1,hPf1,hPc2,hPf2⟩:=hP.x3;go_enter Tryz.func17,Tryz.ntmps17
 go_wp2_with fail
 refine (HCH.out _ hBW).mono ?_;rintro e w2 ⟨lv,rfl,hL,hb2⟩;clear hRc0 hRf0 hRc1 hRf1;clear hPc0 hPf0 hPc1 hPf1 hPc2 hPf2;replace hR:=hR.after hb2;replace hP:=hP.after hb2;replace hS:=hS.after hb2;replace hM:=hM.after hb2;replace hBW:=bt hBW hb2;clear hb2 HCH;obtain ⟨a6,c6,rfl⟩:=hL.form;have HLL:Hid ((N.lims C K).length=n2):=by rw [Hid,NSta.lims,List.length_map,HN2.out]
 rw [HLL.out] at hL ⊢;go_wp2_with fail
 refine (HVW.out _ hBW).mono ?_;rintro e w3 ⟨rfl,hb3⟩;replace hR:=hR.after hb3;replace hP:=hP.after hb3;replace hS:=hS.after hb3;replace hM:=hM.after hb3;replace hL:=hL.after hb3;replace hBW:=bt hBW hb3;clear hb3 HVW;go_wp2_with fail
 refine (HVM.out _ hBW).mono ?_;rintro e w4 ⟨rfl,hb4⟩;replace hR:=hR.after hb4;replace hP:=hP.after hb4;replace hS:=hS.after hb4;replace hM:=hM.after hb4;replace hL:=hL.after hb4;replace hBW:=bt hBW hb4;clear hb4 HVM;go_wp2_with fail
 refine (HVC.out _).mono ?_;rintro e w' ⟨rfl,rfl⟩;clear HVC;by_cases hln:nw=n2∧nm=n2
 ·obtain ⟨e1,e2⟩:=hln;have HL1:Hid (W.length=N.vars.length):=by rw [Hid,←HNW.out,←HN2.out];exact e1
  have HL2:Hid (M.length=N.vars.length):=by rw [Hid,←HNM.out,←HN2.out];exact e2
  have e3:nw=nm:=e1.trans e2.symm;subst e1;clear e2;subst e3;rcases Nat.lt_or_ge c C with hcl | hcg
  ·have hcm:=cmp_neg c C hcl;have hcm2:¬ 0≤cmpN c C:=by omega
   have hd:decide (0≤cmpN c C)=false:=decide_eq_false hcm2;have HCL:=Lib.hid hcl;clear hcl hcm;generalize cmpN c C=q at HCM hd hcm2;have HIN2:=Lib.hid (HIN.out rfl);have HRS2:=Lib.hid (HRS.out HCL.out rfl rfl);clear HIN HRS;obtain ⟨hRc0,hRf0,hRc1,hRf1⟩:=hR.x2;obtain ⟨hPc0,hPf0,hPc1,hPf1,hPc2,hPf2⟩:=hP.x3;go_wp2_with fail
   refine (HCM.out _).mono ?_;rintro e w' ⟨rfl,rfl⟩;clear HCM;have HRI:Hid (bi=false→r=2∧rl=[]):=fun h=>HER.out 2 (rspE_w HL1.out HL2.out HCL.out (HBI.out.symm.trans h)) (by decide)
   have HRJ:Hid (bi=true→ra N.vars.length (mkJ N C K M)=false→r=2∧rl=[]):=fun h h'=>HER.out 2 (rspE_m HL1.out HL2.out HCL.out (HBI.out.symm.trans h) h') (by decide)
   have HRK:Hid (bi=true→ra N.vars.length (mkJ N C K M)=true→r=N.rsp2 C K c W M∧rl=N.rspR2 C K c W M):=fun h h'=>by
    have e:=rspE_r (K:=K) HL1.out HL2.out HCL.out (HBI.out.symm.trans h) h';exact ⟨HRES.out.trans e.1,HRL.out.trans e.2⟩
   go_wp2_with fail
   refine (HIN2.out _ hBW).mono ?_;rintro e w5 ⟨rfl,hb5⟩;clear hRc0 hRf0 hRc1 hRf1;clear hPc0 hPf0 hPc1 hPf1 hPc2 hPf2;replace hR:=hR.after hb5;replace hP:=hP.after hb5;replace hS:=hS.after hb5;replace hM:=hM.after hb5;replace hL:=hL.after hb5;replace hBW:=bt hBW hb5;clear hb5 HIN2;cases bi
   ·have HX:=Lib.hid (HRI.out rfl);go_wp2;go_ret2
    rw [HX.out.1,HX.out.2];exact epost_err rfl hBW
   ·have HRJ2:=Lib.hid (HRJ.out rfl);have HRK2:=Lib.hid (HRK.out rfl);clear HRI HRJ HRK HER HRES HRL HBI hd hcm2 hR;obtain ⟨hPc0,hPf0,hPc1,hPf1,hPc2,hPf2⟩:=hP.x3;go_wp2;clear hPc0 hPf0 hPc1 hPf1 hPc2 hPf2;go_loopw [70] (fun i wr=>∃k:Nat,k≤nw∧i=.int .i64 k∧Hid (∀j,j<k→mkJ N C K M j=true)∧Below w5.heap.size w5 wr) (fun i _=>nw-(intOf i).toNat)
    case atStart=>exact ⟨0,by omega,rfl,fun j h=>absurd h (Nat.not_lt_zero _),Below.refl _ _⟩
    case round =>
     obtain ⟨k,hk,rfl,HA,hbr⟩:=hrel;obtain ⟨wq,hwq⟩:∃wp,wp=wr:=⟨_,rfl⟩;subst hwq;replace hBW:=bt hBW hbr;replace hP:=hP.after hbr;replace hL:=hL.after hbr;by_cases hlt:k<nw
     ·have hkl:k<N.vars.length:=by rw [←HN2.out];exact hlt
      have hkM:k<M.length:=by rw [←HNM.out];exact hlt
      have hkL:k<(N.lims C K).length:=by rw [HLL.out];exact hlt
      have HBJ:=Lib.hid (mkJ_at N C K M k hkl hkM);obtain ⟨b,o,rfl,hbl,x1⟩:=(hS.after hbr).vat hkl;obtain ⟨b',o',rfl,hbl',y1,y2⟩:=(hM.after hbr).at_ hkM;obtain ⟨b6,rfl,hbl6,z1,z2⟩:=hL.at_ hkL;rw [lims_at N C K k hkl hkL] at z1 z2;have HLK:=Lib.hid (HLT.out k hkl);have HMK:=Lib.hid (HMZ.out _ (List.getElem_mem hkM));generalize (N.vars[k]'hkl)=vb at x1 z1 z2 HBJ HLK;generalize (M[k]'hkM)=zz at y1 y2 HBJ HMK;generalize (lim N.ord C K vb).2=lb at z2;generalize (lim N.ord C K vb).1=la at z1 HBJ HLK
      have HBE:Hid (∀w,Calls Tryz.prog 52 #[.agg #[.string (E vb)],.agg #[.bool (sg (zz)),.string (E (zz).natAbs)],.string (E la)] w fun e w'=>e=.returned (.bool (mkJ N C K M k))∧Below w.heap.size w w'):=fun w=>by
       rw [HBJ.out];exact HLB.out zz vb la HMK.out HLK.out w
      have HRF:Hid (mkJ N C K M k=false→r=2∧rl=[]):=fun h=>HRJ2.out (ra_false hkl h)
      have HX:Hid (mkJ N C K M k=true→∀j,j<k+1→mkJ N C K M j=true):=fun h j hj=>by
       by_cases e:j=k
       ·rw [e];exact h
       ·exact HA.out j (by omega)
      generalize mkJ N C K M k=bl at HBE HRF HX;clear HBJ HLK HMK;have h0k:(0:Int)≤(k:Int):=by omega
      have h1k:(k:Int)<(nw:Int):=by omega
      have hV:=Blk.new wq #[.string (E vb)] 99;have hbv:=b1 wq (.cells #[.string (E vb)] 99);have y1':=(hbv.cell (p:=⟨b',o'+k*2,none⟩) hbl').trans y1;have y2':=(hbv.cell (p:=⟨b',o'+k*2+1,none⟩) hbl').trans y2;have z1':=(hbv.cell (p:=⟨b6,k*2,none⟩) hbl6).trans z1;have g1:=gcl (a:=⟨b',o'+k*2,none⟩) (Nat.lt_of_lt_of_le hbl' hbv.size) y1';have g2:=gcl (a:=⟨b',o'+k*2+1,none⟩) (Nat.lt_of_lt_of_le hbl' hbv.size) y2';have g3:=gcl (a:=⟨b6,k*2,none⟩) (Nat.lt_of_lt_of_le hbl6 hbv.size) z1';cases bl
      ·have HX2:=Lib.hid (HRF.out rfl);go_upto_region 13 with fail
       generalize wq.alloc (.cells #[.string (E vb)] 99)=wv at hV hbv y1' y2' z1' g1 g2 g3 ⊢;replace hV:Blk wv wq.heap.size 99 [.string (E vb)]:=hV;obtain ⟨hVc0,hVf0⟩:=hV.x1;have hVg0:=hV.gcell 0;go_wp2_with fail
       refine wp_region_gw (by kernel_rfl) (by kernel_rfl) ?_;repeat (go_big_quiet_step (first | (go_at_call 52;exact gw_of (HBE.out _))))
       refine wpQuiet_nil ?_;rintro w7 ⟨xw7,rfl⟩;have hb7:=gw_below xw7;generalize gw xw7=w7 at hb7;go_wp2;go_ret2
       rw [HX2.out.1,HX2.out.2];exact epost_err rfl (bt (bt hBW hbv) hb7)
      ·have HX2:=Lib.hid (HX.out rfl);go_upto_region 13 with fail
       generalize wq.alloc (.cells #[.string (E vb)] 99)=wv at hV hbv y1' y2' z1' g1 g2 g3 ⊢;replace hV:Blk wv wq.heap.size 99 [.string (E vb)]:=hV;obtain ⟨hVc0,hVf0⟩:=hV.x1;have hVg0:=hV.gcell 0;go_wp2_with fail
       refine wp_region_gw (by kernel_rfl) (by kernel_rfl) ?_;repeat (go_big_quiet_step (first | (go_at_call 52;exact gw_of (HBE.out _))))
       refine wpQuiet_nil ?_;rintro w7 ⟨xw7,rfl⟩;have hb7:=gw_below xw7;generalize gw xw7=w7 at hb7;go_wp2;go_roundw
       case rel=>exact ⟨k+1,by omega,by go_num,HX2.out,bt (bt hbr hbv) hb7⟩
       case measure=>simp [intOf];omega
     ·have HX:=Lib.hid (HRK2.out (ra_true fun j hj=>HA.out j (by have:=HN2.out;omega)));have HRR:=Lib.hid (HRS2.out _ _ _ hBW hL);rw [←HX.out.1,←HX.out.2] at HRR;clear HX;have hs4:=hBW.size;obtain ⟨hPc0,hPf0,hPc1,hPf1,hPc2,hPf2⟩:=hP.x3;go_wp2_with fail
      refine HRR.out.mono ?_;rintro e w6 ⟨v,rfl,hO,hb6⟩;go_wp2;go_ret2
      exact ⟨_,rfl,own_mono hO hs4,bt hBW hb6⟩
  ·have HX:=Lib.hid (HER.out 2 (rspE_c (K:=K) HL1.out HL2.out hcg) (by decide));have hd:decide (0≤cmpN c C)=true:=decide_eq_true (by have:=cmp_nneg c C hcg;omega);have hcm2:0≤cmpN c C:=of_decide_eq_true hd;clear hcg;generalize cmpN c C=q at HCM hd hcm2;obtain ⟨hRc0,hRf0,hRc1,hRf1⟩:=hR.x2;obtain ⟨hPc0,hPf0,hPc1,hPf1,hPc2,hPf2⟩:=hP.x3;go_wp2_with fail
   refine (HCM.out _).mono ?_;rintro e w' ⟨rfl,rfl⟩;go_wp2;go_ret2
   rw [HX.out.1,HX.out.2];exact epost_err rfl hBW
 ·have HX:=Lib.hid (HER.out 6 (rspE_6 (C:=C) (K:=K) (c:=c) (by rw [←HNW.out,←HNM.out,←HN2.out];omega)) (by decide));by_cases h1:nw=n2
  ·have h2:((nm:Int) != (n2:Int))=true:=by rw [bne_iff_ne];omega
   have h2':((nm:Int)==(n2:Int))=false:=by rw [beq_eq_false_iff_ne];omega
   subst h1;clear hln;obtain ⟨hPc0,hPf0,hPc1,hPf1,hPc2,hPf2⟩:=hP.x3;go_wp2;go_ret2
   rw [HX.out.1,HX.out.2];exact epost_err rfl hBW
  ·have h2:((nw:Int) != (n2:Int))=true:=by rw [bne_iff_ne];omega
   have h2':((nw:Int)==(n2:Int))=false:=by rw [beq_eq_false_iff_ne];omega
   clear hln h1;obtain ⟨hPc0,hPf0,hPc1,hPf1,hPc2,hPf2⟩:=hP.x3;go_wp2;go_ret2
   rw [HX.out.1,HX.out.2];exact epost_err rfl hBW
end
end Go.Proofs.YtcfjcenmcpankaaGreatDoor
