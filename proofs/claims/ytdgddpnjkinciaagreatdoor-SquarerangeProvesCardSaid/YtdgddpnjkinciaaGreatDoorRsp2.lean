import Derived.Test.YtdgddpnjkinciaaGreatDoorCo2
set_option linter.all false
set_option maxRecDepth 100000
set_option maxHeartbeats 16000000
namespace Go.Proofs.YtdgddpnjkinciaaGreatDoor
open Go.RowKit Go.Shelf
theorem sinr_c (N:NSta) (Z:List Int) (v1 v2 v3 v4:Value) (w:World) (hm:NOk N) (hS:NAt w v1 v2 v3 N) (hZ:ZsAt w v4 Z) (hz:∀z∈Z,z.natAbs<256^64) (hl:Z.length=N.vars.length) :
  Calls Tryz.prog 34 #[.agg #[v1,v2,v3],v4] w fun e w'=>e=.returned (.bool (ra N.vars.length (inJ N Z)))∧Bw w w':=by
 obtain⟨r,hr⟩:∃r:Bool,r=ra N.vars.length (inJ N Z):=⟨_,rfl⟩;have hj:=Kh hr;rw[←hr];clear hr;have hO:Hid (∀w',Bw w w'→Calls Tryz.prog 71 #[.agg #[v1,v2,v3]] w' fun e w''=>e=.returned (.string (E N.ord))∧Bw w' w''):=fun w' hb=>sorder_c N v1 v2 v3 w' hm (hS.after hb)
 have HQ:=Kh (ord_lt hm);have h5:=Kh hm.v;have h6:=Kh hz;obtain⟨qo,hT⟩:∃q,q=N.ord:=⟨_,rfl⟩;have h7:=Kh hT;rw[←hT]at hO HQ;obtain⟨a4,c4,rfl⟩:=hZ.form;rw[hl]at hZ ⊢;have HL:=Kh hl;obtain⟨a1,c1,a2,c2,a3,c3,rfl,rfl,rfl⟩:=hS.forms;obtain⟨n1,hY⟩:∃n,n=N.grps.length:=⟨_,rfl⟩;obtain⟨n2,hB⟩:∃n,n=N.vars.length:=⟨_,rfl⟩;obtain⟨n3,h0⟩:∃n,n=N.eqs.length:=⟨_,rfl⟩;have h2:=Kh hB;have l2:n2≤12:=by rw[hB];exact hm.nv
 rw[←hY,←hB,←h0]at hS hO ⊢;rw[←hB]at hZ;clear hm hY hB h0 hz hl hT;obtain⟨hP,hh⟩:=blk1 w #[.slice a1 n1 c1,.slice a2 n2 c2,.slice a3 n3 c3] 43;replace hS:=hS.after hh;replace hZ:=hZ.after hh;obtain⟨hn,ho,hp,hq,ht,hu⟩:=hP.x3;go_enter Tryz.func34,Tryz.ntmps34
 go_wp2_with fail
 refine (hO.out _ hh).mono ?_;rintro e w1 ⟨rfl,hC⟩;clear hn ho hp hq ht hu;replace hP:=hP.after hC;replace hS:=hS.after hC;replace hZ:=hZ.after hC;replace hh:=bt hh hC;clear hC hO;replace hP:Blk w1 w.heap.size 43 [.slice a1 n1 c1,.slice a2 n2 c2,.slice a3 n3 c3]:=hP;obtain⟨hn,ho,hp,hq,ht,hu⟩:=hP.x3;go_wp2;clear hn ho hp hq ht hu;clear hP;go_loopw [14] (fun i wr=>∃k:Nat,k≤n2∧i=.int .i64 k∧Hid (ra k (inJ N Z)=true)∧Bw w1 wr) (fun i _=>n2-(intOf i).toNat)
 case atStart=>exact⟨0,by omega,rfl,rfl,Br⟩
 case round =>
  obtain⟨k,hk,rfl,h3,hD⟩:=hrel;obtain⟨wp,h8⟩:∃wp,wp=wr:=⟨_,rfl⟩;subst h8;have hU:=bt hh hD;by_cases hlt:k<n2
  ·have hy:k<N.vars.length:=by rw[←h2.out];exact hlt
   have hQ:k<Z.length:=by rw[HL.out];exact hy
   obtain⟨bv,ov,rfl,h4,x1⟩:=(hS.after hD).vat hy;obtain⟨bz,oz,rfl,hE,z1,z2⟩:=(hZ.after hD).at_ hQ;have hF:=Kh (h6.out _ (Gm hQ));have hR:=Kh (h5.out _ (Gm hy));have hi:=Kh (inJ_at N Z k hy hQ);rw[←h7.out]at hi;have hW:Hid (ra (k+1) (inJ N Z)=inJ N Z k):=by rw[Hid,ra_succ,h3.out];rfl
   have hX:Hid (inJ N Z k=false→ra N.vars.length (inJ N Z)=false):=fun h=>ra_false hy h
   generalize (N.vars[k]'hy)=vb at x1 hi hR;generalize (Z[k]'hQ)=lz at z1 z2 hi hF;generalize inJ N Z k=bl at hi hW hX;have h9:(0:Int)≤(k:Int):=by omega
   have Ha:(k:Int)<(n2:Int):=by omega
   obtain⟨hV,hv⟩:=blk1 wp #[.string (E vb)] 81;have zz1:=(hv.cell (p:=⟨bz,oz+k*2,none⟩) hE).trans z1;have zz2:=(hv.cell (p:=⟨bz,oz+k*2+1,none⟩) hE).trans z2;have hc:=Nl hE hv.size;by_cases hA:vb=0
   ·have hG:Hid (∀w,Calls Tryz.prog 39 #[.agg #[.string (E vb)],.agg #[.bool (sg (lz)),.string (E (lz).natAbs)],.string (E qo)] w fun e w'=>e=.returned (.bool bl)∧Bw w w'):=fun w=>by
     rw[hi.out,if_pos hA];exact below_c vb lz qo w (lt64 hF.out) (lt128 HQ.out)
    have hH:Hid (∀w,Calls Tryz.prog 72 #[.agg #[.string (E vb)]] w fun e w'=>e=.returned (.int .i64 0)∧Bw w w'):=fun w=>kindV_c vb 0 w (by rw[hA];rfl)
    clear hA hi hF hR;obtain⟨hw,hx⟩:=hV.x1;go_wp2_with fail
    refine (hH.out _).mono ?_;rintro e w2 ⟨rfl,hd⟩;clear hw hx;have he:=hV.after hd;have hI:=bt (bt hD hv) hd;have q1:=(hd.cell (p:=⟨bz,oz+k*2,none⟩) hc).trans zz1;have q2:=(hd.cell (p:=⟨bz,oz+k*2+1,none⟩) hc).trans zz2;have hf:=Nl hc hd.size;have g1:=gcl (a:=⟨bz,oz+k*2,none⟩) hf q1;have g2:=gcl (a:=⟨bz,oz+k*2+1,none⟩) hf q2;clear x1 z1 z2 zz1 zz2 hV hv hd h4 hE hc hH;obtain⟨gv,hJ⟩:∃g,wp.heap.size=g:=⟨_,rfl⟩;rw[hJ]at he ⊢;replace he:Blk w2 gv 81 [.string (E vb)]:=he;clear hJ;obtain⟨hK,hL⟩:=he.x1;have hM:=he.gcell 0;cases bl
    ·have hN:Hid (r=false):=by rw[Hid,hj.out];exact hX.out rfl
     go_upto_region 8 with fail
     go_wp2_with fail
     refine wp_region_gw (by kernel_rfl) (by kernel_rfl) ?_;repeat (go_big_quiet_step (first | (go_at_call 39;exact gw_of (hG.out _))))
     refine wpQuiet_nil ?_;rintro w7 ⟨xw7,rfl⟩;have hg:=gw_below xw7;generalize gw xw7=w7 at hg;go_wp2;go_ret
     rw[hN.out];exact⟨rfl,bt hh (bt hI hg)⟩
    ·go_upto_region 8 with fail
     go_wp2_with fail
     refine wp_region_gw (by kernel_rfl) (by kernel_rfl) ?_;repeat (go_big_quiet_step (first | (go_at_call 39;exact gw_of (hG.out _))))
     refine wpQuiet_nil ?_;rintro w7 ⟨xw7,rfl⟩;have hg:=gw_below xw7;generalize gw xw7=w7 at hg;go_wp2;go_roundw
     case rel=>exact⟨k+1,by omega,by go_num,by rw[Hid,hW.out],bt hI hg⟩
     case measure=>simp[intOf];omega
   ·have hG:Hid (∀w,Calls Tryz.prog 39 #[.agg #[.string (E vb)],.agg #[.bool (sg (lz)),.string (E (lz).natAbs)],.string (E vb)] w fun e w'=>e=.returned (.bool bl)∧Bw w w'):=fun w=>by
     rw[hi.out,if_neg hA];exact below_c vb lz vb w (lt64 hF.out) (Nl hR.out P8)
    have hH:Hid (∀w,Calls Tryz.prog 72 #[.agg #[.string (E vb)]] w fun e w'=>e=.returned (.int .i64 1)∧Bw w w'):=fun w=>kindV_c vb 1 w (by unfold kdN;rw[if_neg hA])
    clear hA hi hF hR;obtain⟨hw,hx⟩:=hV.x1;go_wp2_with fail
    refine (hH.out _).mono ?_;rintro e w2 ⟨rfl,hd⟩;clear hw hx;have he:=hV.after hd;have hI:=bt (bt hD hv) hd;have q1:=(hd.cell (p:=⟨bz,oz+k*2,none⟩) hc).trans zz1;have q2:=(hd.cell (p:=⟨bz,oz+k*2+1,none⟩) hc).trans zz2;have hf:=Nl hc hd.size;have g1:=gcl (a:=⟨bz,oz+k*2,none⟩) hf q1;have g2:=gcl (a:=⟨bz,oz+k*2+1,none⟩) hf q2;clear x1 z1 z2 zz1 zz2 hV hv hd h4 hE hc hH;obtain⟨gv,hJ⟩:∃g,wp.heap.size=g:=⟨_,rfl⟩;rw[hJ]at he ⊢;replace he:Blk w2 gv 81 [.string (E vb)]:=he;clear hJ;obtain⟨hK,hL⟩:=he.x1;have hM:=he.gcell 0;cases bl
    ·have hN:Hid (r=false):=by rw[Hid,hj.out];exact hX.out rfl
     go_upto_region 8 with fail
     go_wp2_with fail
     refine wp_region_gw (by kernel_rfl) (by kernel_rfl) ?_;repeat (go_big_quiet_step (first | (go_at_call 39;exact gw_of (hG.out _))))
     refine wpQuiet_nil ?_;rintro w7 ⟨xw7,rfl⟩;have hg:=gw_below xw7;generalize gw xw7=w7 at hg;go_wp2;go_ret
     rw[hN.out];exact⟨rfl,bt hh (bt hI hg)⟩
    ·go_upto_region 8 with fail
     go_wp2_with fail
     refine wp_region_gw (by kernel_rfl) (by kernel_rfl) ?_;repeat (go_big_quiet_step (first | (go_at_call 39;exact gw_of (hG.out _))))
     refine wpQuiet_nil ?_;rintro w7 ⟨xw7,rfl⟩;have hg:=gw_below xw7;generalize gw xw7=w7 at hg;go_wp2;go_roundw
     case rel=>exact⟨k+1,by omega,by go_num,by rw[Hid,hW.out],bt hI hg⟩
     case measure=>simp[intOf];omega
  ·obtain rfl:n2=k:=by omega
   have hN:Hid (r=true):=by rw[Hid,hj.out,←h2.out];exact h3.out
   go_wp2;go_ret
   rw[hN.out];exact⟨rfl,hU⟩
theorem srespond_c (N:NSta) (C K c B:Nat) (W M:List Int) (v1 v2 v3 vl vw vm:Value) (w:World) (hC:C<256^16) (hK:K<256^16) (hm:NOk N) (hS:NAt w v1 v2 v3 N) (hL:LmOwn w B vl (N.lims C K)) (hW:ZsAt w vw W) (hM:ZsAt w vm M)
  (hc:c<256^16) (HN:W.length=N.vars.length) (HO:M.length=N.vars.length) (jh:∀z∈W,z.natAbs<256^64) (ji:∀z∈M,z.natAbs<256^64) (jj:N.vars.any vz=true→0<N.ord) :
  Calls Tryz.prog 38 #[.agg #[v1,v2,v3],vl,vw,vm,.string (E c)] w (EPost w (N.rsp2 C K c W M) (N.rspR2 C K c W M)):=by
 obtain⟨i1,jk,Hq,Hr,Hs⟩:=info_parts info_Int;have jl:=Kh jk;have jm:=Kh Hq;have jn:=Kh Hr;have jo:=Kh Hs;clear jk Hq Hr Hs;obtain⟨r,hr⟩:∃r:Nat,r=N.rsp2 C K c W M:=⟨_,rfl⟩;obtain⟨rl,HP⟩:∃r,r=N.rspR2 C K c W M:=⟨_,rfl⟩;have Ht:=Kh hr;have jp:=Kh HP;rw[←hr,←HP];clear hr HP;have jB:=Kh (fun b hb=>lim_lt hm hC hK (b:=b) hb);have jC:=Kh (ord_lt hm);have jD:Hid (∀(j:Nat) (h:j<N.vars.length),N.vars[j]=0→0<N.ord):=fun j h e=>jj (by rw[List.any_eq_true];exact⟨_,Gm h,by rw[e];rfl⟩)
 have jE:=Kh jh;have jF:=Kh ji;have jq:=Kh hc;have HG:Hid (∀w,Calls Tryz.prog 42 #[.string (E c)] w fun e w'=>e=.returned (.agg #[.bool false,.string (E c)])∧Bw w w'):=fun w=>fromN c w (Nl hc P8)
 obtain⟨a4,c4,rfl⟩:=hW.form;obtain⟨a5,c5,rfl⟩:=hM.form;obtain⟨a6,c6,rfl⟩:=hL.form;have jr:Hid ((N.lims C K).length=N.vars.length):=by rw[Hid,NSta.lims,List.length_map]
 have jG:=Kh HN;have jH:=Kh HO;rw[jr.out]at hL ⊢;rw[HN]at hW ⊢;rw[HO]at hM ⊢;obtain⟨a1,c1,a2,c2,a3,c3,rfl,rfl,rfl⟩:=hS.forms;obtain⟨n1,HQ⟩:∃n,n=N.grps.length:=⟨_,rfl⟩;obtain⟨n2,Hm⟩:∃n,n=N.vars.length:=⟨_,rfl⟩;obtain⟨n3,HR⟩:∃n,n=N.eqs.length:=⟨_,rfl⟩;have HS:=Kh Hm;have l2:n2≤12:=by rw[Hm];exact hm.nv
 rw[←HQ,←Hm,←HR]at hS;rw[←HQ,←Hm,←HR];rw[←Hm]at hW hM hL;clear hm HQ Hm HR hC hK hc HN HO jh ji jj;obtain⟨hP,hR⟩:=blk1 w #[.slice a1 n1 c1,.slice a2 n2 c2,.slice a3 n3 c3] 43;replace hS:=hS.after hR;replace hW:=hW.after hR;replace hM:=hM.after hR;replace hL:=hL.after hR;obtain⟨HT,HU,HV,HW,HY,HZ⟩:=hP.x3;go_enter Tryz.func38,Tryz.ntmps38
 go_wp2;clear HT HU HV HW HY HZ;clear hP;generalize w.alloc (.cells #[.slice a1 n1 c1,.slice a2 n2 c2,.slice a3 n3 c3] 43)=w1 at hR hS hW hM hL ⊢;go_loopw [12,30] (fun v12 i wr=>∃k:Nat,k≤n2∧i=.int .i64 k∧Hid (∀j,j<k→rsJ N C K c W M j=true)∧ZOwn wr w1.heap.size v12 ((N.rspL c W M).take k)∧Bw w1 wr) (fun _ i _=>n2-(intOf i).toNat)
 case atStart=>exact⟨0,by omega,rfl,fun j h=>absurd h (Nat.not_lt_zero _),World.ownsRow_nil _ _ _ _,Br⟩
 case round =>
  obtain⟨k,hk,rfl,hI,hO,h6⟩:=hrel;obtain⟨wp,jI⟩:∃wp,wp=wr:=⟨_,rfl⟩;subst jI;by_cases hlt:k<n2
  ·have hw:k<N.vars.length:=by rw[←HS.out];exact hlt
   have Hu:k<W.length:=by rw[jG.out];exact hw
   have Hv:k<M.length:=by rw[jH.out];exact hw
   have js:k<(N.lims C K).length:=by rw[jr.out];exact hw
   have hn:=Kh (rsp_step N c W M k hw Hv Hu);have hB:=Kh (rsJ_at N C K c W M k hw Hv Hu);obtain⟨bv,ov,rfl,jt,x1⟩:=(hS.after h6).vat hw;obtain⟨bz,oz,rfl,hT,z1,z2⟩:=(hW.after h6).at_ Hu;obtain⟨by_,oy,rfl,hU,y1,y2⟩:=(hM.after h6).at_ Hv;obtain⟨bu,rfl,hV,u1,u2⟩:=(hL.after h6).at_ js;rw[lims_at N C K k hw js]at u1 u2;have HH:=Kh (jE.out _ (Gm Hu));have hZ:=Kh (jF.out _ (Gm Hv));have Hw:=Kh (jB.out _ (Gm hw));have HI:=Kh (jD.out k hw);have HJ:Hid (N.vars[k]'hw=0→lim N.ord C K (N.vars[k]'hw)=(N.ord,N.ord)):=fun h=>by rw[lim,if_pos h]
   have HK:Hid (rsJ N C K c W M k=false→N.rsp2 C K c W M=15∧N.rspR2 C K c W M=[]):=fun h=>rsp2_15 (ra_false hw h)
   have Hx:Hid (rsJ N C K c W M k=true→∀j,j<k+1→rsJ N C K c W M j=true):=fun h j hj=>by
    by_cases e:j=k
    ·rw[e];exact h
    ·exact hI.out j (by omega)
   clear hI;generalize rsJ N C K c W M k=bl at hB HK Hx;generalize (N.vars[k]'hw)=vb at x1 u1 u2 hn HI HJ hB Hw;generalize (W[k]'Hu)=lz at z1 z2 HH hn hB;generalize (M[k]'Hv)=ly at y1 y2 hZ hn hB;have HL:Hid (((N.rspL c W M).take k).length=k):=by rw[Hid,List.length_take,NSta.rspL,List.length_map,List.length_range];omega
   generalize (N.rspL c W M).take k=LI at hO hn HL;replace hO:wp.ownsRow w1.heap.size 28 2 u12 k (ics (LI.map zI)):=by have h:wp.ownsRow _ _ _ _ _ _:=hO;rw[HL.out]at h;exact h
   have jR:(0:Int)≤(k:Int):=by omega
   have jS:(k:Int)<(n2:Int):=by omega
   obtain⟨h7,HM⟩:=blk1 wp #[.string (E vb)] 81;have h0:Hid (((c:Int)*lz).natAbs<256^80):=by rw[Hid,nab_mul];exact mul_lt_pw jq.out HH.out (by decide)
   have Hn:Hid (∀w,Calls Tryz.prog 54 #[.agg #[.bool false,.string (E c)],.agg #[.bool (sg (lz)),.string (E (lz).natAbs)]] w fun e w'=>e=.returned (.tuple #[.agg #[.bool (sg ((c:Int)*lz)),.string (E ((c:Int)*lz).natAbs)],.int .i64 0])∧Bw w w'):=fun w=>by
    have h:=imul_c (c:Int) lz w (by rw[Int.natAbs_natCast];exact Nl jq.out P8) (lt64 HH.out) (by rw[←Int.natAbs_mul];exact Nl h0.out P8);rwa [Int.natAbs_natCast,sg_nat]at h
   have Ho:Hid (∀w,Calls Tryz.prog 72 #[.agg #[.string (E vb)]] w fun e w'=>e=.returned (.int .i64 (kdN vb:Nat))∧Bw w w'):=fun w=>kindV_c vb _ w rfl
   clear HH;obtain⟨gv,jJ⟩:∃g,wp.heap.size=g:=⟨_,rfl⟩;rw[jJ]at h7;by_cases hQ:vb=0
   ·have Hy:Hid (kdN vb=0):=by rw[hQ];rfl
    rw[Hy.out]at Ho;have h8:=HJ.out hQ;rw[h8]at u1 u2;have hJ:=Kh (HI.out hQ);have h9:=Kh (Hx.out (by rw[hB.out,h8,hQ];unfold rspI;rw[if_pos rfl];exact blw_mod _ _ hJ.out))
    have Hz:Hid (rspI N.ord vb c ly lz=(ly+((((c:Int)*lz)%(N.ord:Int)).toNat:Int))%(N.ord:Int)):=by
     rw[Hid,rspI,if_pos hQ];rcases rsp_mod N.ord c ly lz with h | h
     ·exact h.symm
     ·have:=hJ.out;omega
    rw[Hz.out]at hn;generalize (c:Int)*lz=pz at Hn h0 hn;clear h8 hB HK Hx HJ Hz HI Hw Hy;obtain⟨q,hq⟩:∃q,q=N.ord:=⟨_,rfl⟩;have HA:Hid (q<256^8):=by rw[Hid,hq];exact jC.out
    rw[←hq]at u1 u2 hn hJ;clear hq;have H0:Hid (∀w,Calls Tryz.prog 81 #[.agg #[.bool (sg (pz)),.string (E (pz).natAbs)],.string (E q)] w fun e w'=>e=.returned (.tuple #[.string (E (pz%(q:Int)).toNat),.int .i64 0])∧Bw w w'):=fun w=>imodA_c pz q w (Nl h0.out P8) (lt128 HA.out) hJ.out
    have hI:Hid ((pz%(q:Int)).toNat<256^8):=by
     have h1:=Int.emod_nonneg pz (show (q:Int)≠0 by have:=hJ.out;omega);have h2:=Int.emod_lt_of_pos pz (show (0:Int)<q by have:=hJ.out;omega);have h3:=HA.out;generalize (256:Nat)^8=y at h3;rw[Hid];omega
    generalize (pz%(q:Int)).toNat=ax at H0 hI hn;have ju:Hid (∀w,Calls Tryz.prog 42 #[.string (E ax)] w fun e w'=>e=.returned (.agg #[.bool false,.string (E ax)])∧Bw w w'):=fun w=>fromN ax w (lt128 hI.out)
    have Ha:Hid (∀w,Calls Tryz.prog 82 #[.agg #[.bool (sg (ly)),.string (E (ly).natAbs)],.agg #[.bool false,.string (E ax)]] w fun e w'=>e=.returned (.tuple #[.agg #[.bool (sg (ly+(ax:Int))),.string (E (ly+(ax:Int)).natAbs)],.int .i64 0])∧Bw w w'):=fun w=>by
     have h:=iadd_c (x:=ly) (y:=(ax:Int)) (w:=w) (lt64 hZ.out) (by rw[Int.natAbs_natCast];exact lt128 hI.out) (nab_add hZ.out (by rw[Int.natAbs_natCast];exact Nl hI.out P8) (by decide));rwa [Int.natAbs_natCast,sg_nat]at h
    have h4:Hid ((ly+(ax:Int)).natAbs<256^128):=nab_add hZ.out (by rw[Int.natAbs_natCast];exact Nl hI.out P8) (by decide);generalize ly+(ax:Int)=sz at Ha h4 hn;have H1:Hid (∀w,Calls Tryz.prog 81 #[.agg #[.bool (sg (sz)),.string (E (sz).natAbs)],.string (E q)] w fun e w'=>e=.returned (.tuple #[.string (E (sz%(q:Int)).toNat),.int .i64 0])∧Bw w w'):=fun w=>imodA_c sz q w h4.out (lt128 HA.out) hJ.out
    have H2:Hid (sz%(q:Int)=((sz%(q:Int)).toNat:Int)∧(sz%(q:Int)).toNat<256^8):=by
     have h1:=Int.emod_nonneg sz (show (q:Int)≠0 by have:=hJ.out;omega);have h2:=Int.emod_lt_of_pos sz (show (0:Int)<q by have:=hJ.out;omega);have h3:=HA.out;generalize (256:Nat)^8=y at h3;exact⟨by omega,by omega⟩
    rw[H2.out.1]at hn;have H3:=Kh H2.out.2;clear H2;generalize (sz%(q:Int)).toNat=sx at H1 hn H3;have jK:Hid (∀w,Calls Tryz.prog 42 #[.string (E sx)] w fun e w'=>e=.returned (.agg #[.bool false,.string (E sx)])∧Bw w w'):=fun w=>fromN sx w (lt128 H3.out)
    clear h0 hZ HA hJ hI h4 H3 hQ;obtain⟨hD,hE⟩:=h7.x1;go_wp2_with fail
    refine (Ho.out _).mono ?_;rintro e w2 ⟨rfl,Hb⟩;clear hD hE;have he:=bt HM Hb;have hN:=h7.after Hb;have Hc:=own_after hO he;have zz1:=(he.cell (p:=⟨bz,oz+k*2,none⟩) hT).trans z1;have zz2:=(he.cell (p:=⟨bz,oz+k*2+1,none⟩) hT).trans z2;have yy1:=(he.cell (p:=⟨by_,oy+k*2,none⟩) hU).trans y1;have yy2:=(he.cell (p:=⟨by_,oy+k*2+1,none⟩) hU).trans y2;have uu1:=(he.cell (p:=⟨bu,k*2,none⟩) hV).trans u1;have uu2:=(he.cell (p:=⟨bu,k*2+1,none⟩) hV).trans u2;have kz:=Nl hT he.size;have ky:=Nl hU he.size;have ku:=Nl hV he.size;have Hd:=bt h6 he;clear x1 z1 z2 y1 y2 u1 u2 jt hT hU hV hO h7 HM Hb he Ho;obtain⟨wv,H4⟩:∃wx,wx=w2:=⟨_,rfl⟩;subst H4;replace hN:Blk wv gv 81 [.string (E vb)]:=hN;go_upto_region 6 with fail
    obtain⟨cl,hF⟩:∃l:List (Addr × Value),l=[(⟨bz,oz+k*2,none⟩,.bool (sg lz)),(⟨bz,oz+k*2+1,none⟩,.string (E lz.natAbs))]:=⟨_,rfl⟩;have ht:=Kh hF;clear hF
    have hC:CA wv cl:=by
     rw[ht.out];exact (CA.cons kz zz1 (CA.cons kz zz2 (CA.nil _)))
    have hf:=fun x hx=>Nat.ne_of_lt (hC x hx).1
    go_cut [15] (fun s15 wx=>ZBx wv (.bool (sg pz)) (.string (E pz.natAbs)) s15 wx)
    case first =>
     clear yy1 yy2 uu1 uu2 ky ku Hc Hd hN
     go_region_held3 (fun w'=>w'.cell? ⟨bz,oz+k*2,none⟩=some (.bool (sg lz))∧w'.cell? ⟨bz,oz+k*2+1,none⟩=some (.string (E lz.natAbs))) ((refine CA.k2 ?_;rw[←ht.out];repeat (first | (with_reducible exact hG) | (with_reducible exact ho) | (with_reducible exact hC) | (with_reducible refine CA.drew ?_) | (with_reducible refine CA.alloc ?_ _) | (refine CA.set ?_ _ _ _ hf) | (refine CA.set ?_ _ _ _ (fun x hx=>Nat.ne_of_lt (ho x hx).1)) | (refine CA.set ?_ _ _ _ (fun x hx=>Nat.ne_of_lt (hG x hx).1)))))
      (first | (go_at_call 42;(with_reducible refine (HG.out _).mono ?_);rintro e wf ⟨rfl,hh⟩;have ho:CA wf cl:=(by first | exact hC.drew.after hh | exact (hC.alloc _).drew.after hh | exact (hC.drew.alloc _).after hh);(try (have hi:Bw wv wf:=(Below.drew Br).trans hh));(try (have hi:Bw wv wf:=bt ((b1 wv _).drew) hh));(try (have kA:=(Blk.new wv #[.bool false,.string { data:=#[] }] 28).drew.after hh))) | (go_at_call 54;(with_reducible refine (Hn.out _).mono ?_);rintro e wd ⟨rfl,hbd⟩;have hG:CA wd cl:=(by first | exact ho.after hbd | exact (ho.alloc _).after hbd);(try (have hg:Bw wv wd:=bt hi hbd));(try (have hg:Bw wv wd:=bt (ba hi _) hbd));(try (have kD:=kA.after hbd;have kDc0:=kD.cell 0;have kDc1:=kD.cell 1;have kDf0:=kD.free 0;have kDf1:=kD.free 1));(try (have kE:=(Blk.new wf #[.bool false,.string { data:=#[] }] 28).after hbd;have kEc0:=kE.cell 0;have kEc1:=kE.cell 1;have kEf0:=kE.free 0;have kEf1:=kE.free 1))))
     all_goals
      go_wp2_with fail
      go_meet
      first
       | exact⟨_,rfl,Blk.new _ _ _,hg.size,ba hg _⟩
       | exact⟨_,rfl,(kD.set 0 _).set 1 _,Nat.le_refl _,(hg.setCell (by simp) _).setCell (by simp) _⟩
       | exact⟨_,rfl,(kE.set 0 _).set 1 _,hi.size,(hg.setCell (by have:=hi.size;simp;omega) _).setCell (by have:=hi.size;simp;omega) _⟩
    case rest =>
    clear hC hf ht;obtain⟨gx,rfl,hX,h5,hd⟩:=hcut;have HB:=Kh h5;clear h5;obtain⟨wy,H5⟩:∃wy,wy=wc:=⟨_,rfl⟩;subst H5;have hp:=bt Hd hd;have hu:=own_after Hc hd;have yy3:=(hd.cell (p:=⟨by_,oy+k*2,none⟩) ky).trans yy1;have yy4:=(hd.cell (p:=⟨by_,oy+k*2+1,none⟩) ky).trans yy2;have uu3:=(hd.cell (p:=⟨bu,k*2,none⟩) ku).trans uu1;have ky2:=Nl ky hd.size;have ku2:=Nl ku hd.size;clear zz1 zz2 yy1 yy2 uu1 uu2 kz ky ku Hc Hd hd hN HG Hn HB;have g1:=gcl (a:=⟨bu,k*2,none⟩) ku2 uu3;have He:=hX.lt;obtain⟨hy,Hf,hz,Hg⟩:=hX.x2;have Hh:=hX.gcell 0;have Hi:=hX.gcell 1;go_upto_region 7 with fail
    go_wp2_with fail
    refine wp_region_gw (by kernel_rfl) (by kernel_rfl) ?_;repeat (go_big_quiet_step (first | (go_at_call 81;exact gw_of (H0.out _))))
    refine wpQuiet_nil ?_;rintro w3 ⟨xw3,rfl⟩;have he:=gw_below xw3;generalize gw xw3=w3 at he;clear hy Hf hz Hg;clear Hh Hi;replace hp:=bt hp he;replace hu:=own_after hu he;have yy5:=(he.cell (p:=⟨by_,oy+k*2,none⟩) ky2).trans yy3;have yy6:=(he.cell (p:=⟨by_,oy+k*2+1,none⟩) ky2).trans yy4;have uu5:=(he.cell (p:=⟨bu,k*2,none⟩) ku2).trans uu3;have ky3:=Nl ky2 he.size;have ku3:=Nl ku2 he.size;clear g1 He hX yy3 yy4 uu3 ky2 ku2 he H0;go_upto_region 8 with fail
    obtain⟨cl,hF⟩:∃l:List (Addr × Value),l=[(⟨by_,oy+k*2,none⟩,.bool (sg ly)),(⟨by_,oy+k*2+1,none⟩,.string (E ly.natAbs))]:=⟨_,rfl⟩;have ht:=Kh hF;clear hF
    have hC:CA w3 cl:=by
     rw[ht.out];exact (CA.cons ky3 yy5 (CA.cons ky3 yy6 (CA.nil _)))
    have hf:=fun x hx=>Nat.ne_of_lt (hC x hx).1
    go_cut [19,20] (fun s19 s20 wx=>ZBx w3 (.bool (sg sz)) (.string (E sz.natAbs)) s19 wx∧s20=.int .i64 0)
    case first =>
     clear uu5 ku3 hu hp
     go_region_held3 (fun w'=>w'.cell? ⟨by_,oy+k*2,none⟩=some (.bool (sg ly))∧w'.cell? ⟨by_,oy+k*2+1,none⟩=some (.string (E ly.natAbs))) ((refine CA.k2 ?_;rw[←ht.out];repeat (first | (with_reducible exact hG) | (with_reducible exact ho) | (with_reducible exact hC) | (with_reducible refine CA.drew ?_) | (with_reducible refine CA.alloc ?_ _) | (refine CA.set ?_ _ _ _ hf) | (refine CA.set ?_ _ _ _ (fun x hx=>Nat.ne_of_lt (ho x hx).1)) | (refine CA.set ?_ _ _ _ (fun x hx=>Nat.ne_of_lt (hG x hx).1)))))
      (first | (go_at_call 42;(with_reducible refine (ju.out _).mono ?_);rintro e wf ⟨rfl,hh⟩;have ho:CA wf cl:=(by first | exact hC.drew.after hh | exact (hC.alloc _).drew.after hh | exact (hC.drew.alloc _).after hh);(try (have hi:Bw w3 wf:=(Below.drew Br).trans hh));(try (have hi:Bw w3 wf:=bt ((b1 w3 _).drew) hh));(try (have kA:=(Blk.new w3 #[.bool false,.string { data:=#[] }] 28).drew.after hh))) | (go_at_call 82;(with_reducible refine (Ha.out _).mono ?_);rintro e wd ⟨rfl,hbd⟩;have hG:CA wd cl:=(by first | exact ho.after hbd | exact (ho.alloc _).after hbd);(try (have hg:Bw w3 wd:=bt hi hbd));(try (have hg:Bw w3 wd:=bt (ba hi _) hbd));(try (have kD:=kA.after hbd;have kDc0:=kD.cell 0;have kDc1:=kD.cell 1;have kDf0:=kD.free 0;have kDf1:=kD.free 1));(try (have kE:=(Blk.new wf #[.bool false,.string { data:=#[] }] 28).after hbd;have kEc0:=kE.cell 0;have kEc1:=kE.cell 1;have kEf0:=kE.free 0;have kEf1:=kE.free 1))))
     all_goals
      go_wp2_with fail
      go_meet
      first
       | exact⟨⟨_,rfl,Blk.new _ _ _,hg.size,ba hg _⟩,rfl⟩
       | exact⟨⟨_,rfl,(kD.set 0 _).set 1 _,Nat.le_refl _,(hg.setCell (by simp) _).setCell (by simp) _⟩,rfl⟩
       | exact⟨⟨_,rfl,(kE.set 0 _).set 1 _,hi.size,(hg.setCell (by have:=hi.size;simp;omega) _).setCell (by have:=hi.size;simp;omega) _⟩,rfl⟩
    case rest =>
    clear hC hf ht;obtain⟨⟨gx,rfl,hX,h5,hb4⟩,rfl⟩:=hcut;have HB:=Kh h5;clear h5;obtain⟨w4,H6⟩:∃wy,wy=wc:=⟨_,rfl⟩;subst H6;replace hp:=bt hp hb4;replace hu:=own_after hu hb4;have uu6:=(hb4.cell (p:=⟨bu,k*2,none⟩) ku3).trans uu5;have ku4:=Nl ku3 hb4.size;clear yy5 yy6 uu5 ky3 ku3 hb4 ju Ha HB;have g1:=gcl (a:=⟨bu,k*2,none⟩) ku4 uu6;have He:=hX.lt;obtain⟨hy,Hf,hz,Hg⟩:=hX.x2;have Hh:=hX.gcell 0;have Hi:=hX.gcell 1;go_upto_region 11 with fail
    go_wp2_with fail
    refine wp_region_gw (by kernel_rfl) (by kernel_rfl) ?_;repeat (go_big_quiet_step (first | (go_at_call 81;exact gw_of (H1.out _))))
    refine wpQuiet_nil ?_;rintro w5 ⟨xw5,rfl⟩;have hA:=gw_below xw5;generalize gw xw5=w5 at hA;clear hy Hf hz Hg;clear Hh Hi;replace hp:=bt hp hA;replace hu:=own_after hu hA;clear g1 He hX uu6 ku4 hA H1;go_wp2_with fail
    refine (jK.out _).mono ?_;rintro e w11 ⟨rfl,Hj⟩;have Hk:(w11).ownsRow w1.heap.size 28 2 u12 k (ics (LI.map zI)):=own_after hu Hj;have hv:=bt hp Hj;clear hu hp Hj;have jL:Hid (ics [zI ((sx:Nat):Int)]=[.bool false,.string (E sx)]):=by rw[Hid];simp[ics,zI,sg_nat]
    have H7:=hv.size;go_wp2_with (at_builtin;refine wpList_append_lies _ rfl (.tmp 81) (.tmp 84) _ rfl w1.heap.size 28 i1 _ 2 24 Tryz.underlying44 jl.out jm.out jn.out jo.out rfl (by omega) u12 k (ics (LI.map zI)) rfl (own_after Hk (b1 _ (.cells #[.bool false,.string (E sx)] 28))) ⟨(w11).heap.size,0,none⟩ 1 1 [.bool false,.string (E sx)] rfl rfl (Blk.new (w11) #[.bool false,.string (E sx)] 28).cells (by simp[Value.oneCell']) (by omega) (by simp only[maxLen];omega) (by omega) (by rw[World.size_alloc];omega) ((w11).heap.size+1) (by simp) ?_;intro ga ca' wz hH hl H8 Hl)
    have HC:ZOwn wz w1.heap.size (.slice (some ⟨ga,0,none⟩) (k+1) ca') (LI++[((sx:Nat):Int)]):=by rw[ZOwn,List.length_append,HL.out,←ics_app];have h:=hH;rw[←jL.out]at h;exact h
    rw[←hn.out]at HC;have H9:=(ba hv (.cells #[.bool false,.string (E sx)] 28)).grown hl (by rw[World.size_alloc];omega) (fun x hx=>(own_lt Hk hx).2);clear hH hl H8 Hl Hk hv;go_wp2;go_roundw
    case rel=>exact⟨k+1,by omega,by go_num,h9.out,HC,H9⟩
    case measure=>simp[intOf];omega
   ·have Hy:Hid (kdN vb=1):=by unfold Hid kdN;rw[if_neg hQ]
    rw[Hy.out]at Ho;have Hz:Hid (rspI N.ord vb c ly lz=ly+(c:Int)*lz):=by unfold Hid rspI;rw[if_neg hQ]
    rw[Hz.out]at hn hB;generalize (lim N.ord C K vb).1=la at u1;generalize (lim N.ord C K vb).2=lb at u2 hB Hw;generalize (c:Int)*lz=pz at Hn h0 hn hB;have h4:Hid ((ly+pz).natAbs<256^128):=nab_add (n:=80) (Nl hZ.out P8) h0.out (by decide);have Ha:Hid (∀w,Calls Tryz.prog 82 #[.agg #[.bool (sg (ly)),.string (E (ly).natAbs)],.agg #[.bool (sg (pz)),.string (E (pz).natAbs)]] w fun e w'=>e=.returned (.tuple #[.agg #[.bool (sg (ly+pz)),.string (E (ly+pz).natAbs)],.int .i64 0])∧Bw w w'):=fun w=>iadd_c (x:=ly) (y:=pz) (w:=w) (lt64 hZ.out) (Nl h0.out P8) h4.out
    generalize ly+pz=dz at Ha h4 hn hB
    have ja:Hid (∀w,Calls Tryz.prog 39 #[.agg #[.string (E vb)],.agg #[.bool (sg (dz)),.string (E (dz).natAbs)],.string (E lb)] w fun e w'=>e=.returned (.bool bl)∧Bw w w'):=fun w=>by
     rw[hB.out];exact below_c vb dz lb w h4.out (Nl Hw.out P8)
    clear Hz hB HJ HI Hw Hy h0 hZ h4 hQ;obtain⟨hD,hE⟩:=h7.x1;go_wp2_with fail
    refine (Ho.out _).mono ?_;rintro e w2 ⟨rfl,Hb⟩;clear hD hE;have he:=bt HM Hb;have hN:=h7.after Hb;have Hc:=own_after hO he;have zz1:=(he.cell (p:=⟨bz,oz+k*2,none⟩) hT).trans z1;have zz2:=(he.cell (p:=⟨bz,oz+k*2+1,none⟩) hT).trans z2;have yy1:=(he.cell (p:=⟨by_,oy+k*2,none⟩) hU).trans y1;have yy2:=(he.cell (p:=⟨by_,oy+k*2+1,none⟩) hU).trans y2;have uu1:=(he.cell (p:=⟨bu,k*2,none⟩) hV).trans u1;have uu2:=(he.cell (p:=⟨bu,k*2+1,none⟩) hV).trans u2;have kz:=Nl hT he.size;have ky:=Nl hU he.size;have ku:=Nl hV he.size;have Hd:=bt h6 he;clear x1 z1 z2 y1 y2 u1 u2 jt hT hU hV hO h7 HM Hb he Ho;obtain⟨wv,H4⟩:∃wx,wx=w2:=⟨_,rfl⟩;subst H4;replace hN:Blk wv gv 81 [.string (E vb)]:=hN;go_upto_region 13 with fail
    obtain⟨cl,hF⟩:∃l:List (Addr × Value),l=[(⟨bz,oz+k*2,none⟩,.bool (sg lz)),(⟨bz,oz+k*2+1,none⟩,.string (E lz.natAbs))]:=⟨_,rfl⟩;have ht:=Kh hF;clear hF
    have hC:CA wv cl:=by
     rw[ht.out];exact (CA.cons kz zz1 (CA.cons kz zz2 (CA.nil _)))
    have hf:=fun x hx=>Nat.ne_of_lt (hC x hx).1
    go_cut [23] (fun s23 wx=>ZBx wv (.bool (sg pz)) (.string (E pz.natAbs)) s23 wx)
    case first =>
     clear yy1 yy2 uu1 uu2 ky ku Hc Hd hN
     go_region_held3 (fun w'=>w'.cell? ⟨bz,oz+k*2,none⟩=some (.bool (sg lz))∧w'.cell? ⟨bz,oz+k*2+1,none⟩=some (.string (E lz.natAbs))) ((refine CA.k2 ?_;rw[←ht.out];repeat (first | (with_reducible exact hG) | (with_reducible exact ho) | (with_reducible exact hC) | (with_reducible refine CA.drew ?_) | (with_reducible refine CA.alloc ?_ _) | (refine CA.set ?_ _ _ _ hf) | (refine CA.set ?_ _ _ _ (fun x hx=>Nat.ne_of_lt (ho x hx).1)) | (refine CA.set ?_ _ _ _ (fun x hx=>Nat.ne_of_lt (hG x hx).1)))))
      (first | (go_at_call 42;(with_reducible refine (HG.out _).mono ?_);rintro e wf ⟨rfl,hh⟩;have ho:CA wf cl:=(by first | exact hC.drew.after hh | exact (hC.alloc _).drew.after hh | exact (hC.drew.alloc _).after hh);(try (have hi:Bw wv wf:=(Below.drew Br).trans hh));(try (have hi:Bw wv wf:=bt ((b1 wv _).drew) hh));(try (have kA:=(Blk.new wv #[.bool false,.string { data:=#[] }] 28).drew.after hh))) | (go_at_call 54;(with_reducible refine (Hn.out _).mono ?_);rintro e wd ⟨rfl,hbd⟩;have hG:CA wd cl:=(by first | exact ho.after hbd | exact (ho.alloc _).after hbd);(try (have hg:Bw wv wd:=bt hi hbd));(try (have hg:Bw wv wd:=bt (ba hi _) hbd));(try (have kD:=kA.after hbd;have kDc0:=kD.cell 0;have kDc1:=kD.cell 1;have kDf0:=kD.free 0;have kDf1:=kD.free 1));(try (have kE:=(Blk.new wf #[.bool false,.string { data:=#[] }] 28).after hbd;have kEc0:=kE.cell 0;have kEc1:=kE.cell 1;have kEf0:=kE.free 0;have kEf1:=kE.free 1))))
     all_goals
      go_wp2_with fail
      go_meet
      first
       | exact⟨_,rfl,Blk.new _ _ _,hg.size,ba hg _⟩
       | exact⟨_,rfl,(kD.set 0 _).set 1 _,Nat.le_refl _,(hg.setCell (by simp) _).setCell (by simp) _⟩
       | exact⟨_,rfl,(kE.set 0 _).set 1 _,hi.size,(hg.setCell (by have:=hi.size;simp;omega) _).setCell (by have:=hi.size;simp;omega) _⟩
    case rest =>
    clear hC hf ht;obtain⟨gx,rfl,hX,h5,hd⟩:=hcut;have HB:=Kh h5;clear h5;obtain⟨wy,H5⟩:∃wy,wy=wc:=⟨_,rfl⟩;subst H5;have hp:=bt Hd hd;have hu:=own_after Hc hd;have Hp:=hN.after hd;have yy3:=(hd.cell (p:=⟨by_,oy+k*2,none⟩) ky).trans yy1;have yy4:=(hd.cell (p:=⟨by_,oy+k*2+1,none⟩) ky).trans yy2;have uu3:=(hd.cell (p:=⟨bu,k*2+1,none⟩) ku).trans uu2;have ky2:=Nl ky hd.size;have ku2:=Nl ku hd.size;clear zz1 zz2 yy1 yy2 uu1 uu2 kz ky ku Hc Hd hd hN HG Hn HB;have He:=hX.lt;have hy:=hX.cell 0;have hz:=hX.cell 1;go_upto_region 14 with fail
    obtain⟨cl,hF⟩:∃l:List (Addr × Value),l=[(⟨by_,oy+k*2,none⟩,.bool (sg ly)),(⟨by_,oy+k*2+1,none⟩,.string (E ly.natAbs)),(⟨gx,0,none⟩,.bool (sg pz)),(⟨gx,1,none⟩,.string (E pz.natAbs))]:=⟨_,rfl⟩;have ht:=Kh hF;clear hF
    have hC:CA wy cl:=by
     rw[ht.out];exact (CA.cons ky2 yy3 (CA.cons ky2 yy4 (CA.cons He hy (CA.cons He hz (CA.nil _)))))
    have hf:=fun x hx=>Nat.ne_of_lt (hC x hx).1
    go_cut [25,26] (fun s25 s26 wx=>ZBx wy (.bool (sg dz)) (.string (E dz.natAbs)) s25 wx∧s26=.int .i64 0)
    case first =>
     clear uu3 ku2 hu hp Hp hX
     go_region_held3 (fun w'=>w'.cell? ⟨by_,oy+k*2,none⟩=some (.bool (sg ly))∧w'.cell? ⟨by_,oy+k*2+1,none⟩=some (.string (E ly.natAbs))∧w'.cell? ⟨gx,0,none⟩=some (.bool (sg pz))∧w'.cell? ⟨gx,1,none⟩=some (.string (E pz.natAbs))) ((refine CA.k4 ?_;rw[←ht.out];repeat (first | (with_reducible exact hG) | (with_reducible exact ho) | (with_reducible exact hC) | (with_reducible refine CA.drew ?_) | (with_reducible refine CA.alloc ?_ _) | (refine CA.set ?_ _ _ _ hf) | (refine CA.set ?_ _ _ _ (fun x hx=>Nat.ne_of_lt (ho x hx).1)) | (refine CA.set ?_ _ _ _ (fun x hx=>Nat.ne_of_lt (hG x hx).1)))))
      ((go_at_call 82;(with_reducible refine (Ha.out _).mono ?_);rintro e wd ⟨rfl,hbd⟩;have hG:CA wd cl:=(by first | exact hC.drew.after hbd | exact (hC.alloc _).drew.after hbd | exact (hC.drew.alloc _).after hbd);(try (have hg:Bw wy wd:=(Below.drew Br).trans hbd));(try (have hg:Bw wy wd:=bt ((b1 wy _).drew) hbd));(try (have kD:=(Blk.new wy #[.bool false,.string { data:=#[] }] 28).drew.after hbd;have kDc0:=kD.cell 0;have kDc1:=kD.cell 1;have kDf0:=kD.free 0;have kDf1:=kD.free 1))))
     all_goals
      go_wp2_with fail
      go_meet
      first
       | exact⟨⟨_,rfl,Blk.new _ _ _,hg.size,ba hg _⟩,rfl⟩
       | exact⟨⟨_,rfl,(kD.set 0 _).set 1 _,Nat.le_refl _,(hg.setCell (by simp) _).setCell (by simp) _⟩,rfl⟩
    case rest =>
    clear hC hf ht;obtain⟨⟨gy,rfl,hY,jv,hb4⟩,rfl⟩:=hcut;have jM:=Kh jv;clear jv;obtain⟨w4,H6⟩:∃wy,wy=wc:=⟨_,rfl⟩;subst H6;replace hp:=bt hp hb4;replace hu:=own_after hu hb4;replace Hp:=Hp.after hb4;have uu6:=(hb4.cell (p:=⟨bu,k*2+1,none⟩) ku2).trans uu3;have ku4:=Nl ku2 hb4.size;clear yy3 yy4 uu3 ky2 ku2 hb4 Ha jM hX He hy hz;have g1:=gcl (a:=⟨bu,k*2+1,none⟩) ku4 uu6;have jN:=hY.lt;obtain⟨jb,jc,jd,je⟩:=hY.x2;obtain⟨HD,HE⟩:=Hp.x1;have jf:=hY.gcell 0;have jg:=hY.gcell 1;have HF:=Hp.gcell 0;cases bl
    ·have HX:=Kh (HK.out rfl);go_upto_region 15 with fail
     go_wp2_with fail
     refine wp_region_gw (by kernel_rfl) (by kernel_rfl) ?_;repeat (go_big_quiet_step (first | (go_at_call 39;exact gw_of (ja.out _))))
     refine wpQuiet_nil ?_;rintro w5 ⟨xw5,rfl⟩;have hA:=gw_below xw5;generalize gw xw5=w5 at hA;go_wp2;go_ret2
     rw[Ht.out,jp.out,HX.out.1,HX.out.2];exact epost_err rfl (bt hR (bt hp hA))
    ·have h9:=Kh (Hx.out rfl);go_upto_region 15 with fail
     go_wp2_with fail
     refine wp_region_gw (by kernel_rfl) (by kernel_rfl) ?_;repeat (go_big_quiet_step (first | (go_at_call 39;exact gw_of (ja.out _))))
     refine wpQuiet_nil ?_;rintro w5 ⟨xw5,rfl⟩;have hA:=gw_below xw5;generalize gw xw5=w5 at hA;clear jb jc jd je;clear HD HE;clear jf jg;clear HF;have jw:=hY.after hA;have Hk:(w5).ownsRow w1.heap.size 28 2 u12 k (ics (LI.map zI)):=own_after hu hA;have hv:=bt hp hA;clear hu hp hA g1 jN hY uu6 ku4 ja HK Hx Hp;have H7:=hv.size;have jO:=jw.lt;obtain⟨jx,jy,jz,jA⟩:=jw.x2;go_wp2_with (at_builtin;refine wpList_append_lies _ rfl (.tmp 118) (.tmp 120) _ rfl w1.heap.size 28 i1 _ 2 24 Tryz.underlying44 jl.out jm.out jn.out jo.out rfl (by omega) u12 k (ics (LI.map zI)) rfl (own_after Hk (b1 _ (.cells #[.bool (sg dz),.string (E dz.natAbs)] 28))) ⟨(w5).heap.size,0,none⟩ 1 1 [.bool (sg dz),.string (E dz.natAbs)] rfl rfl (Blk.new (w5) #[.bool (sg dz),.string (E dz.natAbs)] 28).cells (by simp[Value.oneCell']) (by omega) (by simp only[maxLen];omega) (by omega) (by rw[World.size_alloc];omega) ((w5).heap.size+1) (by simp) ?_;intro ga ca' wz hH hl H8 Hl)
     have HC:ZOwn wz w1.heap.size (.slice (some ⟨ga,0,none⟩) (k+1) ca') (LI++[dz]):=by rw[ZOwn,List.length_append,HL.out,←ics_app];exact hH
     rw[←hn.out]at HC;have H9:=(ba hv (.cells #[.bool (sg dz),.string (E dz.natAbs)] 28)).grown hl (by rw[World.size_alloc];omega) (fun x hx=>(own_lt Hk hx).2);clear hH hl H8 Hl Hk hv;go_wp2;go_roundw
     case rel=>exact⟨k+1,by omega,by go_num,h9.out,HC,H9⟩
     case measure=>simp[intOf];omega
  ·obtain rfl:n2=k:=by omega
   have jP:Hid ((N.rspL c W M).take n2=N.rspL c W M):=List.take_of_length_le (by rw[NSta.rspL,List.length_map,List.length_range,←HS.out];exact Nat.le_refl _);have HX:=Kh (rsp2_0 (N:=N) (C:=C) (K:=K) (c:=c) (W:=W) (M:=M) (ra_true fun j hj=>hI.out j (by rw[HS.out];exact hj)));rw[jP.out]at hO;have jQ:=hR.size;go_wp2;go_ret2
   rw[Ht.out,jp.out,HX.out.1,HX.out.2];exact⟨_,rfl,own_mono hO jQ,bt hR h6⟩
end Go.Proofs.YtdgddpnjkinciaaGreatDoor
