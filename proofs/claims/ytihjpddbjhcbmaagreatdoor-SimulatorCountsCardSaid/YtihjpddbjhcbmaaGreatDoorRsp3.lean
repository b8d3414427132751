import Derived.Test.YtihjpddbjhcbmaaGreatDoorHol
set_option linter.unusedVariables false
set_option linter.unusedSimpArgs false
set_option maxRecDepth 100000
set_option maxHeartbeats 16000000
namespace Go.Proofs.YtihjpddbjhcbmaaGreatDoor
section
open Go.RowKit Go.Shelf
def rspI (q b c:Nat) (m z:Int):Int:=if b=0 then (m+(c:Int)*z)%(q:Int) else m+(c:Int)*z
def rspJ (N:NSta) (c:Nat) (W M:List Int) (j:Nat):Int:=rspI N.ord (N.vars.getD j 0) c (M.getD j 0) (W.getD j 0)
def NSta.rspL (N:NSta) (c:Nat) (W M:List Int):List Int:=(List.range N.vars.length).map (rspJ N c W M)
theorem rsp_step (N:NSta) (c:Nat) (W M:List Int) (k:Nat) (h:k<N.vars.length) (h2:k<M.length) (h3:k<W.length):(N.rspL c W M).take (k+1)=(N.rspL c W M).take k++[rspI N.ord N.vars[k] c M[k] W[k]]:=by
 unfold NSta.rspL;rw[←List.map_take,List.take_succ_eq_append_getElem (by simpa using h),List.map_append,List.map_take];simp only[List.getElem_range,List.map_cons,List.map_nil,rspJ,List.getD_eq_getElem?_getD,List.getElem?_eq_getElem h,List.getElem?_eq_getElem h2,List.getElem?_eq_getElem h3,Option.getD_some]
def mkJ (N:NSta) (C K:Nat) (M:List Int) (j:Nat):Bool:=blw (N.vars.getD j 0) (M.getD j 0) (lim N.ord C K (N.vars.getD j 0)).1
def rsJ (N:NSta) (C K c:Nat) (W M:List Int) (j:Nat):Bool:=blw (N.vars.getD j 0) (rspJ N c W M j) (lim N.ord C K (N.vars.getD j 0)).2
theorem mkJ_at (N:NSta) (C K:Nat) (M:List Int) (j:Nat) (h:j<N.vars.length) (h2:j<M.length):mkJ N C K M j=blw N.vars[j] M[j] (lim N.ord C K N.vars[j]).1:=by
 unfold mkJ;simp only[List.getD_eq_getElem?_getD,List.getElem?_eq_getElem h,List.getElem?_eq_getElem h2,Option.getD_some]
theorem rsJ_at (N:NSta) (C K c:Nat) (W M:List Int) (j:Nat) (h:j<N.vars.length) (h2:j<M.length) (h3:j<W.length):rsJ N C K c W M j=blw N.vars[j] (rspI N.ord N.vars[j] c M[j] W[j]) (lim N.ord C K N.vars[j]).2:=by
 unfold rsJ rspJ;simp only[List.getD_eq_getElem?_getD,List.getElem?_eq_getElem h,List.getElem?_eq_getElem h2,List.getElem?_eq_getElem h3,Option.getD_some]
def NSta.rsp2 (N:NSta) (C K c:Nat) (W M:List Int):Nat:=if ra N.vars.length (rsJ N C K c W M)=false then 15 else 0
def NSta.rspE (N:NSta) (C K c:Nat) (W M:List Int):Nat:=
 if W.length≠N.vars.length∨M.length≠N.vars.length then 6 else if C≤c then 2 else if ra N.vars.length (inJ N W)=false then 2 else if ra N.vars.length (mkJ N C K M)=false then 2 else N.rsp2 C K c W M
def NSta.rspR (N:NSta) (C K c:Nat) (W M:List Int):List Int:=if N.rspE C K c W M=0 then N.rspL c W M else []
def NSta.rspR2 (N:NSta) (C K c:Nat) (W M:List Int):List Int:=if N.rsp2 C K c W M=0 then N.rspL c W M else []
theorem rspE_6 {N:NSta} {C K c:Nat} {W M:List Int} (h:W.length≠N.vars.length∨M.length≠N.vars.length):N.rspE C K c W M=6:=by unfold NSta.rspE;rw[if_pos h]
theorem rspE_c {N:NSta} {C K c:Nat} {W M:List Int} (h1:W.length=N.vars.length) (h2:M.length=N.vars.length) (h:C≤c):N.rspE C K c W M=2:=by
 unfold NSta.rspE;rw[if_neg (by omega),if_pos h]
theorem rspE_w {N:NSta} {C K c:Nat} {W M:List Int} (h1:W.length=N.vars.length) (h2:M.length=N.vars.length) (h:c<C) (h3:ra N.vars.length (inJ N W)=false):N.rspE C K c W M=2:=by
 unfold NSta.rspE;rw[if_neg (by omega),if_neg (by omega),if_pos h3]
theorem rspE_m {N:NSta} {C K c:Nat} {W M:List Int} (h1:W.length=N.vars.length) (h2:M.length=N.vars.length) (h:c<C) (h3:ra N.vars.length (inJ N W)=true) (h4:ra N.vars.length (mkJ N C K M)=false):N.rspE C K c W M=2:=by
 unfold NSta.rspE;rw[if_neg (by omega),if_neg (by omega),if_neg (by rw[h3];decide),if_pos h4]
theorem rspE_r {N:NSta} {C K c:Nat} {W M:List Int} (h1:W.length=N.vars.length) (h2:M.length=N.vars.length) (h:c<C) (h3:ra N.vars.length (inJ N W)=true) (h4:ra N.vars.length (mkJ N C K M)=true):N.rspE C K c W M=N.rsp2 C K c W M∧N.rspR C K c W M=N.rspR2 C K c W M:=by
 have e:N.rspE C K c W M=N.rsp2 C K c W M:=by unfold NSta.rspE;rw[if_neg (by omega),if_neg (by omega),if_neg (by rw[h3];decide),if_neg (by rw[h4];decide)]
 exact⟨e,by unfold NSta.rspR NSta.rspR2;rw[e]⟩
theorem rspR_e {N:NSta} {C K c k:Nat} {W M:List Int} (h:N.rspE C K c W M=k) (hk:k≠0):N.rspR C K c W M=[]:=by unfold NSta.rspR;rw[if_neg (by omega)]
theorem rsp2_0 {N:NSta} {C K c:Nat} {W M:List Int} (h:ra N.vars.length (rsJ N C K c W M)=true):N.rsp2 C K c W M=0∧N.rspR2 C K c W M=N.rspL c W M:=by
 have e:N.rsp2 C K c W M=0:=by unfold NSta.rsp2;rw[if_neg (by rw[h];decide)]
 exact⟨e,by unfold NSta.rspR2;rw[if_pos e]⟩
theorem rsp2_15 {N:NSta} {C K c:Nat} {W M:List Int} (h:ra N.vars.length (rsJ N C K c W M)=false):N.rsp2 C K c W M=15∧N.rspR2 C K c W M=[]:=by
 have e:N.rsp2 C K c W M=15:=by unfold NSta.rsp2;rw[if_pos h]
 exact⟨e,by unfold NSta.rspR2;rw[if_neg (by omega)]⟩
theorem mul_lt_pw {a b m n k:Nat} (h1:a<256^m) (h2:b<256^n) (hk:m+n=k):a*b<256^k:=by
 have h:=Nat.mul_lt_mul'' h1 h2;rwa [←Nat.pow_add,hk]at h
theorem nab_mul (c:Nat) (z:Int):((c:Int)*z).natAbs=c*z.natAbs:=by rw[Int.natAbs_mul,Int.natAbs_natCast]
theorem nab_add {a b:Int} {n:Nat} (h1:a.natAbs<256^n) (h2:b.natAbs<256^n) (hn:n<128):(a+b).natAbs<256^128:=by
 have h3:256^n*256≤256^128:=by rw[←Nat.pow_succ];exact Nat.pow_le_pow_right (by decide) (by omega)
 generalize (256:Nat)^n=x at *;generalize (256:Nat)^128=y at *;omega
theorem rsp_mod (q c:Nat) (m z:Int):(m+((((c:Int)*z)%(q:Int)).toNat:Int))%(q:Int)=(m+(c:Int)*z)%(q:Int)∨q=0:=by
 rcases Nat.eq_zero_or_pos q with h | h
 ·exact .inr h
 ·have hq:(q:Int)≠0:=by omega
  rw[Int.toNat_of_nonneg (Int.emod_nonneg _ hq),Int.add_emod_emod];exact .inl rfl
theorem blw_mod (q:Nat) (x:Int) (h:0<q):blw 0 (x%(q:Int)) q=true:=by
 have h1:=Int.emod_nonneg x (show (q:Int)≠0 by omega);have h2:=Int.emod_lt_of_pos x (show (0:Int)<q by omega);rw[blw_zero (by omega),sg_of_nonneg h1];rfl
end
section
open Go.RowKit Go.Shelf
theorem sinr_c (N:NSta) (Z:List Int) (v1 v2 v3 v4:Value) (w:World) (hm:NOk N) (hS:NAt w v1 v2 v3 N) (hZ:ZsAt w v4 Z) (hz:∀z∈Z,z.natAbs<256^64) (hl:Z.length=N.vars.length) :
  Calls Tryz.prog 80 #[.agg #[v1,v2,v3],v4] w fun e w'=>e=.returned (.bool (ra N.vars.length (inJ N Z)))∧Bw w w':=by
 obtain⟨r,hr⟩:∃r:Bool,r=ra N.vars.length (inJ N Z):=⟨_,rfl⟩;have hj:=Kh hr;rw[←hr];clear hr;have hO:Hid (∀w',Bw w w'→Calls Tryz.prog 178 #[.agg #[v1,v2,v3]] w' fun e w''=>e=.returned (.string (E N.ord))∧Bw w' w''):=fun w' hb=>sorder_c N v1 v2 v3 w' hm (hS.after hb)
 have HQ:=Kh (ord_lt hm);have h4:=Kh hm.v;have h5:=Kh hz;obtain⟨qo,hT⟩:∃q,q=N.ord:=⟨_,rfl⟩;have h6:=Kh hT;rw[←hT]at hO HQ;obtain⟨a4,c4,rfl⟩:=hZ.form;rw[hl]at hZ ⊢;have HL:=Kh hl;obtain⟨a1,c1,a2,c2,a3,c3,rfl,rfl,rfl⟩:=hS.forms;obtain⟨n1,hY⟩:∃n,n=N.grps.length:=⟨_,rfl⟩;obtain⟨n2,hB⟩:∃n,n=N.vars.length:=⟨_,rfl⟩;obtain⟨n3,h0⟩:∃n,n=N.eqs.length:=⟨_,rfl⟩;have h1:=Kh hB;have l2:n2≤12:=by rw[hB];exact hm.nv
 rw[←hY,←hB,←h0]at hS hO ⊢;rw[←hB]at hZ;clear hm hY hB h0 hz hl hT;obtain⟨hP,hh⟩:=blk1 w #[.slice a1 n1 c1,.slice a2 n2 c2,.slice a3 n3 c3] 29;replace hS:=hS.after hh;replace hZ:=hZ.after hh;obtain⟨hn,ho,hp,hq,ht,hu⟩:=hP.x3;go_enter Tryz.func80,Tryz.ntmps80
 go_wp2_with fail
 refine (hO.out _ hh).mono ?_;rintro e w1 ⟨rfl,hC⟩;clear hn ho hp hq ht hu;replace hP:=hP.after hC;replace hS:=hS.after hC;replace hZ:=hZ.after hC;replace hh:=bt hh hC;clear hC hO;replace hP:Blk w1 w.heap.size 29 [.slice a1 n1 c1,.slice a2 n2 c2,.slice a3 n3 c3]:=hP;obtain⟨hn,ho,hp,hq,ht,hu⟩:=hP.x3;go_wp2;clear hn ho hp hq ht hu;clear hP;go_loopw [14] (fun i wr=>∃k:Nat,k≤n2∧i=.int .i64 k∧Hid (ra k (inJ N Z)=true)∧Bw w1 wr) (fun i _=>n2-(intOf i).toNat)
 case atStart=>exact⟨0,by omega,rfl,rfl,Br⟩
 case round =>
  obtain⟨k,hk,rfl,h2,hD⟩:=hrel;obtain⟨wp,h7⟩:∃wp,wp=wr:=⟨_,rfl⟩;subst h7;have hU:=bt hh hD;by_cases hlt:k<n2
  ·have hy:k<N.vars.length:=by rw[←h1.out];exact hlt
   have hQ:k<Z.length:=by rw[HL.out];exact hy
   obtain⟨bv,ov,rfl,h3,x1⟩:=(hS.after hD).vat hy;obtain⟨bz,oz,rfl,hE,z1,z2⟩:=(hZ.after hD).at_ hQ;have hF:=Kh (h5.out _ (Gm hQ));have hR:=Kh (h4.out _ (Gm hy));have hi:=Kh (inJ_at N Z k hy hQ);rw[←h6.out]at hi;have hW:Hid (ra (k+1) (inJ N Z)=inJ N Z k):=by rw[Hid,ra_succ,h2.out];rfl
   have hX:Hid (inJ N Z k=false→ra N.vars.length (inJ N Z)=false):=fun h=>ra_false hy h
   generalize (N.vars[k]'hy)=vb at x1 hi hR;generalize (Z[k]'hQ)=lz at z1 z2 hi hF;generalize inJ N Z k=bl at hi hW hX;have h8:(0:Int)≤(k:Int):=by omega
   have h9:(k:Int)<(n2:Int):=by omega
   obtain⟨hV,hv⟩:=blk1 wp #[.string (E vb)] 71;have zz1:=(hv.cell (p:=⟨bz,oz+k*2,none⟩) hE).trans z1;have zz2:=(hv.cell (p:=⟨bz,oz+k*2+1,none⟩) hE).trans z2;have hc:=Nl hE hv.size;by_cases hA:vb=0
   ·have hG:Hid (∀w,Calls Tryz.prog 106 #[.agg #[.string (E vb)],.agg #[.bool (sg (lz)),.string (E (lz).natAbs)],.string (E qo)] w fun e w'=>e=.returned (.bool bl)∧Bw w w'):=fun w=>by
     rw[hi.out,if_pos hA];exact below_c vb lz qo w (lt64 hF.out) (lt128 HQ.out)
    have hH:Hid (∀w,Calls Tryz.prog 179 #[.agg #[.string (E vb)]] w fun e w'=>e=.returned (.int .i64 0)∧Bw w w'):=fun w=>kindV_c vb 0 w (by rw[hA];rfl)
    clear hA hi hF hR;obtain⟨hw,hx⟩:=hV.x1;go_wp2_with fail
    refine (hH.out _).mono ?_;rintro e w2 ⟨rfl,hd⟩;clear hw hx;have he:=hV.after hd;have hI:=bt (bt hD hv) hd;have q1:=(hd.cell (p:=⟨bz,oz+k*2,none⟩) hc).trans zz1;have q2:=(hd.cell (p:=⟨bz,oz+k*2+1,none⟩) hc).trans zz2;have hf:=Nl hc hd.size;have g1:=gcl (a:=⟨bz,oz+k*2,none⟩) hf q1;have g2:=gcl (a:=⟨bz,oz+k*2+1,none⟩) hf q2;clear x1 z1 z2 zz1 zz2 hV hv hd h3 hE hc hH;obtain⟨gv,hJ⟩:∃g,wp.heap.size=g:=⟨_,rfl⟩;rw[hJ]at he ⊢;replace he:Blk w2 gv 71 [.string (E vb)]:=he;clear hJ;obtain⟨hK,hL⟩:=he.x1;have hM:=he.gcell 0;cases bl
    ·have hN:Hid (r=false):=by rw[Hid,hj.out];exact hX.out rfl
     go_upto_region 8 with fail
     go_wp2_with fail
     refine wp_region_gw (by kernel_rfl) (by kernel_rfl) ?_;repeat (go_big_quiet_step (first | (go_at_call 106;exact gw_of (hG.out _))))
     refine wpQuiet_nil ?_;rintro w7 ⟨xw7,rfl⟩;have hg:=gw_below xw7;generalize gw xw7=w7 at hg;go_wp2;go_ret
     rw[hN.out];exact⟨rfl,bt hh (bt hI hg)⟩
    ·go_upto_region 8 with fail
     go_wp2_with fail
     refine wp_region_gw (by kernel_rfl) (by kernel_rfl) ?_;repeat (go_big_quiet_step (first | (go_at_call 106;exact gw_of (hG.out _))))
     refine wpQuiet_nil ?_;rintro w7 ⟨xw7,rfl⟩;have hg:=gw_below xw7;generalize gw xw7=w7 at hg;go_wp2;go_roundw
     case rel=>exact⟨k+1,by omega,by go_num,by rw[Hid,hW.out],bt hI hg⟩
     case measure=>simp[intOf];omega
   ·have hG:Hid (∀w,Calls Tryz.prog 106 #[.agg #[.string (E vb)],.agg #[.bool (sg (lz)),.string (E (lz).natAbs)],.string (E vb)] w fun e w'=>e=.returned (.bool bl)∧Bw w w'):=fun w=>by
     rw[hi.out,if_neg hA];exact below_c vb lz vb w (lt64 hF.out) (Nl hR.out P8)
    have hH:Hid (∀w,Calls Tryz.prog 179 #[.agg #[.string (E vb)]] w fun e w'=>e=.returned (.int .i64 1)∧Bw w w'):=fun w=>kindV_c vb 1 w (by unfold kdN;rw[if_neg hA])
    clear hA hi hF hR;obtain⟨hw,hx⟩:=hV.x1;go_wp2_with fail
    refine (hH.out _).mono ?_;rintro e w2 ⟨rfl,hd⟩;clear hw hx;have he:=hV.after hd;have hI:=bt (bt hD hv) hd;have q1:=(hd.cell (p:=⟨bz,oz+k*2,none⟩) hc).trans zz1;have q2:=(hd.cell (p:=⟨bz,oz+k*2+1,none⟩) hc).trans zz2;have hf:=Nl hc hd.size;have g1:=gcl (a:=⟨bz,oz+k*2,none⟩) hf q1;have g2:=gcl (a:=⟨bz,oz+k*2+1,none⟩) hf q2;clear x1 z1 z2 zz1 zz2 hV hv hd h3 hE hc hH;obtain⟨gv,hJ⟩:∃g,wp.heap.size=g:=⟨_,rfl⟩;rw[hJ]at he ⊢;replace he:Blk w2 gv 71 [.string (E vb)]:=he;clear hJ;obtain⟨hK,hL⟩:=he.x1;have hM:=he.gcell 0;cases bl
    ·have hN:Hid (r=false):=by rw[Hid,hj.out];exact hX.out rfl
     go_upto_region 8 with fail
     go_wp2_with fail
     refine wp_region_gw (by kernel_rfl) (by kernel_rfl) ?_;repeat (go_big_quiet_step (first | (go_at_call 106;exact gw_of (hG.out _))))
     refine wpQuiet_nil ?_;rintro w7 ⟨xw7,rfl⟩;have hg:=gw_below xw7;generalize gw xw7=w7 at hg;go_wp2;go_ret
     rw[hN.out];exact⟨rfl,bt hh (bt hI hg)⟩
    ·go_upto_region 8 with fail
     go_wp2_with fail
     refine wp_region_gw (by kernel_rfl) (by kernel_rfl) ?_;repeat (go_big_quiet_step (first | (go_at_call 106;exact gw_of (hG.out _))))
     refine wpQuiet_nil ?_;rintro w7 ⟨xw7,rfl⟩;have hg:=gw_below xw7;generalize gw xw7=w7 at hg;go_wp2;go_roundw
     case rel=>exact⟨k+1,by omega,by go_num,by rw[Hid,hW.out],bt hI hg⟩
     case measure=>simp[intOf];omega
  ·obtain rfl:n2=k:=by omega
   have hN:Hid (r=true):=by rw[Hid,hj.out,←h1.out];exact h2.out
   go_wp2;go_ret
   rw[hN.out];exact⟨rfl,hU⟩
theorem srespond_c (N:NSta) (C K c B:Nat) (W M:List Int) (v1 v2 v3 vl vw vm:Value) (w:World) (hC:C<256^16) (hK:K<256^16) (hm:NOk N) (hS:NAt w v1 v2 v3 N) (hL:LmOwn w B vl (N.lims C K)) (hW:ZsAt w vw W) (hM:ZsAt w vm M)
  (hc:c<256^16) (HN:W.length=N.vars.length) (HO:M.length=N.vars.length) (jh:∀z∈W,z.natAbs<256^64) (ji:∀z∈M,z.natAbs<256^64) (jj:N.vars.any vz=true→0<N.ord) :
  Calls Tryz.prog 83 #[.agg #[v1,v2,v3],vl,vw,vm,.string (E c)] w (EPost w (N.rsp2 C K c W M) (N.rspR2 C K c W M)):=by
 obtain⟨i1,jk,Hq,Hr,Hs⟩:=info_parts info_Int;have jl:=Kh jk;have jm:=Kh Hq;have jn:=Kh Hr;have jo:=Kh Hs;clear jk Hq Hr Hs;obtain⟨r,hr⟩:∃r:Nat,r=N.rsp2 C K c W M:=⟨_,rfl⟩;obtain⟨rl,HP⟩:∃r,r=N.rspR2 C K c W M:=⟨_,rfl⟩;have Ht:=Kh hr;have jp:=Kh HP;rw[←hr,←HP];clear hr HP;have jB:=Kh (fun b hb=>lim_lt hm hC hK (b:=b) hb);have jC:=Kh (ord_lt hm);have jD:Hid (∀(j:Nat) (h:j<N.vars.length),N.vars[j]=0→0<N.ord):=fun j h e=>jj (by rw[List.any_eq_true];exact⟨_,Gm h,by rw[e];rfl⟩)
 have jE:=Kh jh;have jF:=Kh ji;have jq:=Kh hc;have HG:Hid (∀w,Calls Tryz.prog 100 #[.string (E c)] w fun e w'=>e=.returned (.agg #[.bool false,.string (E c)])∧Bw w w'):=fun w=>fromN c w (Nl hc P8)
 obtain⟨a4,c4,rfl⟩:=hW.form;obtain⟨a5,c5,rfl⟩:=hM.form;obtain⟨a6,c6,rfl⟩:=hL.form;have jr:Hid ((N.lims C K).length=N.vars.length):=by rw[Hid,NSta.lims,List.length_map]
 have jG:=Kh HN;have jH:=Kh HO;rw[jr.out]at hL ⊢;rw[HN]at hW ⊢;rw[HO]at hM ⊢;obtain⟨a1,c1,a2,c2,a3,c3,rfl,rfl,rfl⟩:=hS.forms;obtain⟨n1,HQ⟩:∃n,n=N.grps.length:=⟨_,rfl⟩;obtain⟨n2,Hm⟩:∃n,n=N.vars.length:=⟨_,rfl⟩;obtain⟨n3,HR⟩:∃n,n=N.eqs.length:=⟨_,rfl⟩;have HS:=Kh Hm;have l2:n2≤12:=by rw[Hm];exact hm.nv
 rw[←HQ,←Hm,←HR]at hS;rw[←HQ,←Hm,←HR];rw[←Hm]at hW hM hL;clear hm HQ Hm HR hC hK hc HN HO jh ji jj;obtain⟨hP,hR⟩:=blk1 w #[.slice a1 n1 c1,.slice a2 n2 c2,.slice a3 n3 c3] 29;replace hS:=hS.after hR;replace hW:=hW.after hR;replace hM:=hM.after hR;replace hL:=hL.after hR;obtain⟨HT,HU,HV,HW,HY,HZ⟩:=hP.x3;go_enter Tryz.func83,Tryz.ntmps83
 go_wp2;clear HT HU HV HW HY HZ;clear hP;generalize w.alloc (.cells #[.slice a1 n1 c1,.slice a2 n2 c2,.slice a3 n3 c3] 29)=w1 at hR hS hW hM hL ⊢;go_loopw [12,30] (fun v12 i wr=>∃k:Nat,k≤n2∧i=.int .i64 k∧Hid (∀j,j<k→rsJ N C K c W M j=true)∧ZOwn wr w1.heap.size v12 ((N.rspL c W M).take k)∧Bw w1 wr) (fun _ i _=>n2-(intOf i).toNat)
 case atStart=>exact⟨0,by omega,rfl,fun j h=>absurd h (Nat.not_lt_zero _),World.ownsRow_nil _ _ _ _,Br⟩
 case round =>
  obtain⟨k,hk,rfl,hI,hO,h6⟩:=hrel;obtain⟨wp,jI⟩:∃wp,wp=wr:=⟨_,rfl⟩;subst jI;by_cases hlt:k<n2
  ·have hw:k<N.vars.length:=by rw[←HS.out];exact hlt
   have Hu:k<W.length:=by rw[jG.out];exact hw
   have Hv:k<M.length:=by rw[jH.out];exact hw
   have js:k<(N.lims C K).length:=by rw[jr.out];exact hw
   have hn:=Kh (rsp_step N c W M k hw Hv Hu);have hB:=Kh (rsJ_at N C K c W M k hw Hv Hu);obtain⟨bv,ov,rfl,jt,x1⟩:=(hS.after h6).vat hw;obtain⟨bz,oz,rfl,hT,z1,z2⟩:=(hW.after h6).at_ Hu;obtain⟨by_,oy,rfl,hU,y1,y2⟩:=(hM.after h6).at_ Hv;obtain⟨bu,rfl,hV,u1,u2⟩:=(hL.after h6).at_ js;rw[lims_at N C K k hw js]at u1 u2;have HH:=Kh (jE.out _ (Gm Hu));have hZ:=Kh (jF.out _ (Gm Hv));have Hw:=Kh (jB.out _ (Gm hw));have HI:=Kh (jD.out k hw);have HJ:Hid (N.vars[k]'hw=0→lim N.ord C K (N.vars[k]'hw)=(N.ord,N.ord)):=fun h=>by rw[lim,if_pos h]
   have HK:Hid (rsJ N C K c W M k=false→N.rsp2 C K c W M=15∧N.rspR2 C K c W M=[]):=fun h=>rsp2_15 (ra_false hw h)
   have Hx:Hid (rsJ N C K c W M k=true→∀j,j<k+1→rsJ N C K c W M j=true):=fun h j hj=>by
    by_cases e:j=k
    ·rw[e];exact h
    ·exact hI.out j (by omega)
   clear hI;generalize rsJ N C K c W M k=bl at hB HK Hx;generalize (N.vars[k]'hw)=vb at x1 u1 u2 hn HI HJ hB Hw;generalize (W[k]'Hu)=lz at z1 z2 HH hn hB;generalize (M[k]'Hv)=ly at y1 y2 hZ hn hB;have HL:Hid (((N.rspL c W M).take k).length=k):=by rw[Hid,List.length_take,NSta.rspL,List.length_map,List.length_range];omega
   generalize (N.rspL c W M).take k=LI at hO hn HL;replace hO:wp.ownsRow w1.heap.size 74 2 u12 k (ics (LI.map zI)):=by have h:wp.ownsRow _ _ _ _ _ _:=hO;rw[HL.out]at h;exact h
   have jR:(0:Int)≤(k:Int):=by omega
   have jS:(k:Int)<(n2:Int):=by omega
   obtain⟨h7,HM⟩:=blk1 wp #[.string (E vb)] 71;have h0:Hid (((c:Int)*lz).natAbs<256^80):=by rw[Hid,nab_mul];exact mul_lt_pw jq.out HH.out (by decide)
   have Hn:Hid (∀w,Calls Tryz.prog 114 #[.agg #[.bool false,.string (E c)],.agg #[.bool (sg (lz)),.string (E (lz).natAbs)]] w fun e w'=>e=.returned (.tuple #[.agg #[.bool (sg ((c:Int)*lz)),.string (E ((c:Int)*lz).natAbs)],.int .i64 0])∧Bw w w'):=fun w=>by
    have h:=imul_c (c:Int) lz w (by rw[Int.natAbs_natCast];exact Nl jq.out P8) (lt64 HH.out) (by rw[←Int.natAbs_mul];exact Nl h0.out P8);rwa [Int.natAbs_natCast,sg_nat]at h
   have Ho:Hid (∀w,Calls Tryz.prog 179 #[.agg #[.string (E vb)]] w fun e w'=>e=.returned (.int .i64 (kdN vb:Nat))∧Bw w w'):=fun w=>kindV_c vb _ w rfl
   clear HH;obtain⟨gv,jJ⟩:∃g,wp.heap.size=g:=⟨_,rfl⟩;rw[jJ]at h7;by_cases hQ:vb=0
   ·have Hy:Hid (kdN vb=0):=by rw[hQ];rfl
    rw[Hy.out]at Ho;have h8:=HJ.out hQ;rw[h8]at u1 u2;have hJ:=Kh (HI.out hQ);have h9:=Kh (Hx.out (by rw[hB.out,h8,hQ];unfold rspI;rw[if_pos rfl];exact blw_mod _ _ hJ.out))
    have Hz:Hid (rspI N.ord vb c ly lz=(ly+((((c:Int)*lz)%(N.ord:Int)).toNat:Int))%(N.ord:Int)):=by
     rw[Hid,rspI,if_pos hQ];rcases rsp_mod N.ord c ly lz with h | h
     ·exact h.symm
     ·have:=hJ.out;omega
    rw[Hz.out]at hn;generalize (c:Int)*lz=pz at Hn h0 hn;clear h8 hB HK Hx HJ Hz HI Hw Hy;obtain⟨q,hq⟩:∃q,q=N.ord:=⟨_,rfl⟩;have HA:Hid (q<256^8):=by rw[Hid,hq];exact jC.out
    rw[←hq]at u1 u2 hn hJ;clear hq;have H0:Hid (∀w,Calls Tryz.prog 183 #[.agg #[.bool (sg (pz)),.string (E (pz).natAbs)],.string (E q)] w fun e w'=>e=.returned (.tuple #[.string (E (pz%(q:Int)).toNat),.int .i64 0])∧Bw w w'):=fun w=>imodA_c pz q w (Nl h0.out P8) (lt128 HA.out) hJ.out
    have hI:Hid ((pz%(q:Int)).toNat<256^8):=by
     have h1:=Int.emod_nonneg pz (show (q:Int)≠0 by have:=hJ.out;omega);have h2:=Int.emod_lt_of_pos pz (show (0:Int)<q by have:=hJ.out;omega);have h3:=HA.out;generalize (256:Nat)^8=y at h3;rw[Hid];omega
    generalize (pz%(q:Int)).toNat=ax at H0 hI hn;have ju:Hid (∀w,Calls Tryz.prog 100 #[.string (E ax)] w fun e w'=>e=.returned (.agg #[.bool false,.string (E ax)])∧Bw w w'):=fun w=>fromN ax w (lt128 hI.out)
    have Ha:Hid (∀w,Calls Tryz.prog 119 #[.agg #[.bool (sg (ly)),.string (E (ly).natAbs)],.agg #[.bool false,.string (E ax)]] w fun e w'=>e=.returned (.tuple #[.agg #[.bool (sg (ly+(ax:Int))),.string (E (ly+(ax:Int)).natAbs)],.int .i64 0])∧Bw w w'):=fun w=>by
     have h:=iadd_c (x:=ly) (y:=(ax:Int)) (w:=w) (lt64 hZ.out) (by rw[Int.natAbs_natCast];exact lt128 hI.out) (nab_add hZ.out (by rw[Int.natAbs_natCast];exact Nl hI.out P8) (by decide));rwa [Int.natAbs_natCast,sg_nat]at h
    have h4:Hid ((ly+(ax:Int)).natAbs<256^128):=nab_add hZ.out (by rw[Int.natAbs_natCast];exact Nl hI.out P8) (by decide);generalize ly+(ax:Int)=sz at Ha h4 hn;have H1:Hid (∀w,Calls Tryz.prog 183 #[.agg #[.bool (sg (sz)),.string (E (sz).natAbs)],.string (E q)] w fun e w'=>e=.returned (.tuple #[.string (E (sz%(q:Int)).toNat),.int .i64 0])∧Bw w w'):=fun w=>imodA_c sz q w h4.out (lt128 HA.out) hJ.out
    have H2:Hid (sz%(q:Int)=((sz%(q:Int)).toNat:Int)∧(sz%(q:Int)).toNat<256^8):=by
     have h1:=Int.emod_nonneg sz (show (q:Int)≠0 by have:=hJ.out;omega);have h2:=Int.emod_lt_of_pos sz (show (0:Int)<q by have:=hJ.out;omega);have h3:=HA.out;generalize (256:Nat)^8=y at h3;exact⟨by omega,by omega⟩
    rw[H2.out.1]at hn;have H3:=Kh H2.out.2;clear H2;generalize (sz%(q:Int)).toNat=sx at H1 hn H3;have jK:Hid (∀w,Calls Tryz.prog 100 #[.string (E sx)] w fun e w'=>e=.returned (.agg #[.bool false,.string (E sx)])∧Bw w w'):=fun w=>fromN sx w (lt128 H3.out)
    clear h0 hZ HA hJ hI h4 H3 hQ;obtain⟨hD,hE⟩:=h7.x1;go_wp2_with fail
    refine (Ho.out _).mono ?_;rintro e w2 ⟨rfl,Hb⟩;clear hD hE;have he:=bt HM Hb;have hN:=h7.after Hb;have Hc:=own_after hO he;have zz1:=(he.cell (p:=⟨bz,oz+k*2,none⟩) hT).trans z1;have zz2:=(he.cell (p:=⟨bz,oz+k*2+1,none⟩) hT).trans z2;have yy1:=(he.cell (p:=⟨by_,oy+k*2,none⟩) hU).trans y1;have yy2:=(he.cell (p:=⟨by_,oy+k*2+1,none⟩) hU).trans y2;have uu1:=(he.cell (p:=⟨bu,k*2,none⟩) hV).trans u1;have uu2:=(he.cell (p:=⟨bu,k*2+1,none⟩) hV).trans u2;have kz:=Nl hT he.size;have ky:=Nl hU he.size;have ku:=Nl hV he.size;have Hd:=bt h6 he;clear x1 z1 z2 y1 y2 u1 u2 jt hT hU hV hO h7 HM Hb he Ho;obtain⟨wv,H4⟩:∃wx,wx=w2:=⟨_,rfl⟩;subst H4;replace hN:Blk wv gv 71 [.string (E vb)]:=hN;go_upto_region 6 with fail
    obtain⟨cl,hF⟩:∃l:List (Addr × Value),l=[(⟨bz,oz+k*2,none⟩,.bool (sg lz)),(⟨bz,oz+k*2+1,none⟩,.string (E lz.natAbs))]:=⟨_,rfl⟩;have ht:=Kh hF;clear hF
    have hC:CA wv cl:=by
     rw[ht.out];exact (CA.cons kz zz1 (CA.cons kz zz2 (CA.nil _)))
    have hf:=fun x hx=>Nat.ne_of_lt (hC x hx).1
    go_cut [15] (fun s15 wx=>ZBx wv (.bool (sg pz)) (.string (E pz.natAbs)) s15 wx)
    case first =>
     clear yy1 yy2 uu1 uu2 ky ku Hc Hd hN
     go_region_held3 (fun w'=>w'.cell? ⟨bz,oz+k*2,none⟩=some (.bool (sg lz))∧w'.cell? ⟨bz,oz+k*2+1,none⟩=some (.string (E lz.natAbs))) ((refine CA.k2 ?_;rw[←ht.out];repeat (first | (with_reducible exact hG) | (with_reducible exact ho) | (with_reducible exact hC) | (with_reducible refine CA.drew ?_) | (with_reducible refine CA.alloc ?_ _) | (refine CA.set ?_ _ _ _ hf) | (refine CA.set ?_ _ _ _ (fun x hx=>Nat.ne_of_lt (ho x hx).1)) | (refine CA.set ?_ _ _ _ (fun x hx=>Nat.ne_of_lt (hG x hx).1)))))
      (first | (go_at_call 100;(with_reducible refine (HG.out _).mono ?_);rintro e wf ⟨rfl,hh⟩;have ho:CA wf cl:=(by first | exact hC.drew.after hh | exact (hC.alloc _).drew.after hh | exact (hC.drew.alloc _).after hh);(try (have hi:Bw wv wf:=(Below.drew Br).trans hh));(try (have hi:Bw wv wf:=bt ((b1 wv _).drew) hh));(try (have kA:=(Blk.new wv #[.bool false,.string { data:=#[] }] 74).drew.after hh))) | (go_at_call 114;(with_reducible refine (Hn.out _).mono ?_);rintro e wd ⟨rfl,hbd⟩;have hG:CA wd cl:=(by first | exact ho.after hbd | exact (ho.alloc _).after hbd);(try (have hg:Bw wv wd:=bt hi hbd));(try (have hg:Bw wv wd:=bt (ba hi _) hbd));(try (have kD:=kA.after hbd;have kDc0:=kD.cell 0;have kDc1:=kD.cell 1;have kDf0:=kD.free 0;have kDf1:=kD.free 1));(try (have kE:=(Blk.new wf #[.bool false,.string { data:=#[] }] 74).after hbd;have kEc0:=kE.cell 0;have kEc1:=kE.cell 1;have kEf0:=kE.free 0;have kEf1:=kE.free 1))))
     all_goals
      go_wp2_with fail
      go_meet
      first
       | exact⟨_,rfl,Blk.new _ _ _,hg.size,ba hg _⟩
       | exact⟨_,rfl,(kD.set 0 _).set 1 _,Nat.le_refl _,(hg.setCell (by simp) _).setCell (by simp) _⟩
       | exact⟨_,rfl,(kE.set 0 _).set 1 _,hi.size,(hg.setCell (by have:=hi.size;simp;omega) _).setCell (by have:=hi.size;simp;omega) _⟩
    case rest =>
    clear hC hf ht;obtain⟨gx,rfl,hX,h5,hd⟩:=hcut;have HB:=Kh h5;clear h5;obtain⟨wy,H5⟩:∃wy,wy=wc:=⟨_,rfl⟩;subst H5;have hp:=bt Hd hd;have hu:=own_after Hc hd;have yy3:=(hd.cell (p:=⟨by_,oy+k*2,none⟩) ky).trans yy1;have yy4:=(hd.cell (p:=⟨by_,oy+k*2+1,none⟩) ky).trans yy2;have uu3:=(hd.cell (p:=⟨bu,k*2,none⟩) ku).trans uu1;have ky2:=Nl ky hd.size;have ku2:=Nl ku hd.size;clear zz1 zz2 yy1 yy2 uu1 uu2 kz ky ku Hc Hd hd hN HG Hn HB;have g1:=gcl (a:=⟨bu,k*2,none⟩) ku2 uu3;have He:=hX.lt;obtain⟨hy,Hf,hz,Hg⟩:=hX.x2;have Hh:=hX.gcell 0;have Hi:=hX.gcell 1;go_upto_region 7 with fail
    go_wp2_with fail
    refine wp_region_gw (by kernel_rfl) (by kernel_rfl) ?_;repeat (go_big_quiet_step (first | (go_at_call 183;exact gw_of (H0.out _))))
    refine wpQuiet_nil ?_;rintro w3 ⟨xw3,rfl⟩;have he:=gw_below xw3;generalize gw xw3=w3 at he;clear hy Hf hz Hg;clear Hh Hi;replace hp:=bt hp he;replace hu:=own_after hu he;have yy5:=(he.cell (p:=⟨by_,oy+k*2,none⟩) ky2).trans yy3;have yy6:=(he.cell (p:=⟨by_,oy+k*2+1,none⟩) ky2).trans yy4;have uu5:=(he.cell (p:=⟨bu,k*2,none⟩) ku2).trans uu3;have ky3:=Nl ky2 he.size;have ku3:=Nl ku2 he.size;clear g1 He hX yy3 yy4 uu3 ky2 ku2 he H0;go_upto_region 8 with fail
    obtain⟨cl,hF⟩:∃l:List (Addr × Value),l=[(⟨by_,oy+k*2,none⟩,.bool (sg ly)),(⟨by_,oy+k*2+1,none⟩,.string (E ly.natAbs))]:=⟨_,rfl⟩;have ht:=Kh hF;clear hF
    have hC:CA w3 cl:=by
     rw[ht.out];exact (CA.cons ky3 yy5 (CA.cons ky3 yy6 (CA.nil _)))
    have hf:=fun x hx=>Nat.ne_of_lt (hC x hx).1
    go_cut [19,20] (fun s19 s20 wx=>ZBx w3 (.bool (sg sz)) (.string (E sz.natAbs)) s19 wx∧s20=.int .i64 0)
    case first =>
     clear uu5 ku3 hu hp
     go_region_held3 (fun w'=>w'.cell? ⟨by_,oy+k*2,none⟩=some (.bool (sg ly))∧w'.cell? ⟨by_,oy+k*2+1,none⟩=some (.string (E ly.natAbs))) ((refine CA.k2 ?_;rw[←ht.out];repeat (first | (with_reducible exact hG) | (with_reducible exact ho) | (with_reducible exact hC) | (with_reducible refine CA.drew ?_) | (with_reducible refine CA.alloc ?_ _) | (refine CA.set ?_ _ _ _ hf) | (refine CA.set ?_ _ _ _ (fun x hx=>Nat.ne_of_lt (ho x hx).1)) | (refine CA.set ?_ _ _ _ (fun x hx=>Nat.ne_of_lt (hG x hx).1)))))
      (first | (go_at_call 100;(with_reducible refine (ju.out _).mono ?_);rintro e wf ⟨rfl,hh⟩;have ho:CA wf cl:=(by first | exact hC.drew.after hh | exact (hC.alloc _).drew.after hh | exact (hC.drew.alloc _).after hh);(try (have hi:Bw w3 wf:=(Below.drew Br).trans hh));(try (have hi:Bw w3 wf:=bt ((b1 w3 _).drew) hh));(try (have kA:=(Blk.new w3 #[.bool false,.string { data:=#[] }] 74).drew.after hh))) | (go_at_call 119;(with_reducible refine (Ha.out _).mono ?_);rintro e wd ⟨rfl,hbd⟩;have hG:CA wd cl:=(by first | exact ho.after hbd | exact (ho.alloc _).after hbd);(try (have hg:Bw w3 wd:=bt hi hbd));(try (have hg:Bw w3 wd:=bt (ba hi _) hbd));(try (have kD:=kA.after hbd;have kDc0:=kD.cell 0;have kDc1:=kD.cell 1;have kDf0:=kD.free 0;have kDf1:=kD.free 1));(try (have kE:=(Blk.new wf #[.bool false,.string { data:=#[] }] 74).after hbd;have kEc0:=kE.cell 0;have kEc1:=kE.cell 1;have kEf0:=kE.free 0;have kEf1:=kE.free 1))))
     all_goals
      go_wp2_with fail
      go_meet
      first
       | exact⟨⟨_,rfl,Blk.new _ _ _,hg.size,ba hg _⟩,rfl⟩
       | exact⟨⟨_,rfl,(kD.set 0 _).set 1 _,Nat.le_refl _,(hg.setCell (by simp) _).setCell (by simp) _⟩,rfl⟩
       | exact⟨⟨_,rfl,(kE.set 0 _).set 1 _,hi.size,(hg.setCell (by have:=hi.size;simp;omega) _).setCell (by have:=hi.size;simp;omega) _⟩,rfl⟩
    case rest =>
    clear hC hf ht;obtain⟨⟨gx,rfl,hX,h5,hb4⟩,rfl⟩:=hcut;have HB:=Kh h5;clear h5;obtain⟨w4,H6⟩:∃wy,wy=wc:=⟨_,rfl⟩;subst H6;replace hp:=bt hp hb4;replace hu:=own_after hu hb4;have uu6:=(hb4.cell (p:=⟨bu,k*2,none⟩) ku3).trans uu5;have ku4:=Nl ku3 hb4.size;clear yy5 yy6 uu5 ky3 ku3 hb4 ju Ha HB;have g1:=gcl (a:=⟨bu,k*2,none⟩) ku4 uu6;have He:=hX.lt;obtain⟨hy,Hf,hz,Hg⟩:=hX.x2;have Hh:=hX.gcell 0;have Hi:=hX.gcell 1;go_upto_region 11 with fail
    go_wp2_with fail
    refine wp_region_gw (by kernel_rfl) (by kernel_rfl) ?_;repeat (go_big_quiet_step (first | (go_at_call 183;exact gw_of (H1.out _))))
    refine wpQuiet_nil ?_;rintro w5 ⟨xw5,rfl⟩;have hA:=gw_below xw5;generalize gw xw5=w5 at hA;clear hy Hf hz Hg;clear Hh Hi;replace hp:=bt hp hA;replace hu:=own_after hu hA;clear g1 He hX uu6 ku4 hA H1;go_wp2_with fail
    refine (jK.out _).mono ?_;rintro e w11 ⟨rfl,Hj⟩;have Hk:(w11).ownsRow w1.heap.size 74 2 u12 k (ics (LI.map zI)):=own_after hu Hj;have hv:=bt hp Hj;clear hu hp Hj;have jL:Hid (ics [zI ((sx:Nat):Int)]=[.bool false,.string (E sx)]):=by rw[Hid];simp[ics,zI,sg_nat]
    have H7:=hv.size;go_wp2_with (at_builtin;refine wpList_append_lies _ rfl (.tmp 81) (.tmp 84) _ rfl w1.heap.size 74 i1 _ 2 24 Tryz.underlying30 jl.out jm.out jn.out jo.out rfl (by omega) u12 k (ics (LI.map zI)) rfl (own_after Hk (b1 _ (.cells #[.bool false,.string (E sx)] 74))) ⟨(w11).heap.size,0,none⟩ 1 1 [.bool false,.string (E sx)] rfl rfl (Blk.new (w11) #[.bool false,.string (E sx)] 74).cells (by simp[Value.oneCell']) (by omega) (by simp only[maxLen];omega) (by omega) (by rw[World.size_alloc];omega) ((w11).heap.size+1) (by simp) ?_;intro ga ca' wz hH hl H8 Hl)
    have HC:ZOwn wz w1.heap.size (.slice (some ⟨ga,0,none⟩) (k+1) ca') (LI++[((sx:Nat):Int)]):=by rw[ZOwn,List.length_append,HL.out,←ics_app];have h:=hH;rw[←jL.out]at h;exact h
    rw[←hn.out]at HC;have H9:=(ba hv (.cells #[.bool false,.string (E sx)] 74)).grown hl (by rw[World.size_alloc];omega) (fun x hx=>(own_lt Hk hx).2);clear hH hl H8 Hl Hk hv;go_wp2;go_roundw
    case rel=>exact⟨k+1,by omega,by go_num,h9.out,HC,H9⟩
    case measure=>simp[intOf];omega
   ·have Hy:Hid (kdN vb=1):=by unfold Hid kdN;rw[if_neg hQ]
    rw[Hy.out]at Ho;have Hz:Hid (rspI N.ord vb c ly lz=ly+(c:Int)*lz):=by unfold Hid rspI;rw[if_neg hQ]
    rw[Hz.out]at hn hB;generalize (lim N.ord C K vb).1=la at u1;generalize (lim N.ord C K vb).2=lb at u2 hB Hw;generalize (c:Int)*lz=pz at Hn h0 hn hB;have h4:Hid ((ly+pz).natAbs<256^128):=nab_add (n:=80) (Nl hZ.out P8) h0.out (by decide);have Ha:Hid (∀w,Calls Tryz.prog 119 #[.agg #[.bool (sg (ly)),.string (E (ly).natAbs)],.agg #[.bool (sg (pz)),.string (E (pz).natAbs)]] w fun e w'=>e=.returned (.tuple #[.agg #[.bool (sg (ly+pz)),.string (E (ly+pz).natAbs)],.int .i64 0])∧Bw w w'):=fun w=>iadd_c (x:=ly) (y:=pz) (w:=w) (lt64 hZ.out) (Nl h0.out P8) h4.out
    generalize ly+pz=dz at Ha h4 hn hB
    have ja:Hid (∀w,Calls Tryz.prog 106 #[.agg #[.string (E vb)],.agg #[.bool (sg (dz)),.string (E (dz).natAbs)],.string (E lb)] w fun e w'=>e=.returned (.bool bl)∧Bw w w'):=fun w=>by
     rw[hB.out];exact below_c vb dz lb w h4.out (Nl Hw.out P8)
    clear Hz hB HJ HI Hw Hy h0 hZ h4 hQ;obtain⟨hD,hE⟩:=h7.x1;go_wp2_with fail
    refine (Ho.out _).mono ?_;rintro e w2 ⟨rfl,Hb⟩;clear hD hE;have he:=bt HM Hb;have hN:=h7.after Hb;have Hc:=own_after hO he;have zz1:=(he.cell (p:=⟨bz,oz+k*2,none⟩) hT).trans z1;have zz2:=(he.cell (p:=⟨bz,oz+k*2+1,none⟩) hT).trans z2;have yy1:=(he.cell (p:=⟨by_,oy+k*2,none⟩) hU).trans y1;have yy2:=(he.cell (p:=⟨by_,oy+k*2+1,none⟩) hU).trans y2;have uu1:=(he.cell (p:=⟨bu,k*2,none⟩) hV).trans u1;have uu2:=(he.cell (p:=⟨bu,k*2+1,none⟩) hV).trans u2;have kz:=Nl hT he.size;have ky:=Nl hU he.size;have ku:=Nl hV he.size;have Hd:=bt h6 he;clear x1 z1 z2 y1 y2 u1 u2 jt hT hU hV hO h7 HM Hb he Ho;obtain⟨wv,H4⟩:∃wx,wx=w2:=⟨_,rfl⟩;subst H4;replace hN:Blk wv gv 71 [.string (E vb)]:=hN;go_upto_region 13 with fail
    obtain⟨cl,hF⟩:∃l:List (Addr × Value),l=[(⟨bz,oz+k*2,none⟩,.bool (sg lz)),(⟨bz,oz+k*2+1,none⟩,.string (E lz.natAbs))]:=⟨_,rfl⟩;have ht:=Kh hF;clear hF
    have hC:CA wv cl:=by
     rw[ht.out];exact (CA.cons kz zz1 (CA.cons kz zz2 (CA.nil _)))
    have hf:=fun x hx=>Nat.ne_of_lt (hC x hx).1
    go_cut [23] (fun s23 wx=>ZBx wv (.bool (sg pz)) (.string (E pz.natAbs)) s23 wx)
    case first =>
     clear yy1 yy2 uu1 uu2 ky ku Hc Hd hN
     go_region_held3 (fun w'=>w'.cell? ⟨bz,oz+k*2,none⟩=some (.bool (sg lz))∧w'.cell? ⟨bz,oz+k*2+1,none⟩=some (.string (E lz.natAbs))) ((refine CA.k2 ?_;rw[←ht.out];repeat (first | (with_reducible exact hG) | (with_reducible exact ho) | (with_reducible exact hC) | (with_reducible refine CA.drew ?_) | (with_reducible refine CA.alloc ?_ _) | (refine CA.set ?_ _ _ _ hf) | (refine CA.set ?_ _ _ _ (fun x hx=>Nat.ne_of_lt (ho x hx).1)) | (refine CA.set ?_ _ _ _ (fun x hx=>Nat.ne_of_lt (hG x hx).1)))))
      (first | (go_at_call 100;(with_reducible refine (HG.out _).mono ?_);rintro e wf ⟨rfl,hh⟩;have ho:CA wf cl:=(by first | exact hC.drew.after hh | exact (hC.alloc _).drew.after hh | exact (hC.drew.alloc _).after hh);(try (have hi:Bw wv wf:=(Below.drew Br).trans hh));(try (have hi:Bw wv wf:=bt ((b1 wv _).drew) hh));(try (have kA:=(Blk.new wv #[.bool false,.string { data:=#[] }] 74).drew.after hh))) | (go_at_call 114;(with_reducible refine (Hn.out _).mono ?_);rintro e wd ⟨rfl,hbd⟩;have hG:CA wd cl:=(by first | exact ho.after hbd | exact (ho.alloc _).after hbd);(try (have hg:Bw wv wd:=bt hi hbd));(try (have hg:Bw wv wd:=bt (ba hi _) hbd));(try (have kD:=kA.after hbd;have kDc0:=kD.cell 0;have kDc1:=kD.cell 1;have kDf0:=kD.free 0;have kDf1:=kD.free 1));(try (have kE:=(Blk.new wf #[.bool false,.string { data:=#[] }] 74).after hbd;have kEc0:=kE.cell 0;have kEc1:=kE.cell 1;have kEf0:=kE.free 0;have kEf1:=kE.free 1))))
     all_goals
      go_wp2_with fail
      go_meet
      first
       | exact⟨_,rfl,Blk.new _ _ _,hg.size,ba hg _⟩
       | exact⟨_,rfl,(kD.set 0 _).set 1 _,Nat.le_refl _,(hg.setCell (by simp) _).setCell (by simp) _⟩
       | exact⟨_,rfl,(kE.set 0 _).set 1 _,hi.size,(hg.setCell (by have:=hi.size;simp;omega) _).setCell (by have:=hi.size;simp;omega) _⟩
    case rest =>
    clear hC hf ht;obtain⟨gx,rfl,hX,h5,hd⟩:=hcut;have HB:=Kh h5;clear h5;obtain⟨wy,H5⟩:∃wy,wy=wc:=⟨_,rfl⟩;subst H5;have hp:=bt Hd hd;have hu:=own_after Hc hd;have Hp:=hN.after hd;have yy3:=(hd.cell (p:=⟨by_,oy+k*2,none⟩) ky).trans yy1;have yy4:=(hd.cell (p:=⟨by_,oy+k*2+1,none⟩) ky).trans yy2;have uu3:=(hd.cell (p:=⟨bu,k*2+1,none⟩) ku).trans uu2;have ky2:=Nl ky hd.size;have ku2:=Nl ku hd.size;clear zz1 zz2 yy1 yy2 uu1 uu2 kz ky ku Hc Hd hd hN HG Hn HB;have He:=hX.lt;have hy:=hX.cell 0;have hz:=hX.cell 1;go_upto_region 14 with fail
    obtain⟨cl,hF⟩:∃l:List (Addr × Value),l=[(⟨by_,oy+k*2,none⟩,.bool (sg ly)),(⟨by_,oy+k*2+1,none⟩,.string (E ly.natAbs)),(⟨gx,0,none⟩,.bool (sg pz)),(⟨gx,1,none⟩,.string (E pz.natAbs))]:=⟨_,rfl⟩;have ht:=Kh hF;clear hF
    have hC:CA wy cl:=by
     rw[ht.out];exact (CA.cons ky2 yy3 (CA.cons ky2 yy4 (CA.cons He hy (CA.cons He hz (CA.nil _)))))
    have hf:=fun x hx=>Nat.ne_of_lt (hC x hx).1
    go_cut [25,26] (fun s25 s26 wx=>ZBx wy (.bool (sg dz)) (.string (E dz.natAbs)) s25 wx∧s26=.int .i64 0)
    case first =>
     clear uu3 ku2 hu hp Hp hX
     go_region_held3 (fun w'=>w'.cell? ⟨by_,oy+k*2,none⟩=some (.bool (sg ly))∧w'.cell? ⟨by_,oy+k*2+1,none⟩=some (.string (E ly.natAbs))∧w'.cell? ⟨gx,0,none⟩=some (.bool (sg pz))∧w'.cell? ⟨gx,1,none⟩=some (.string (E pz.natAbs))) ((refine CA.k4 ?_;rw[←ht.out];repeat (first | (with_reducible exact hG) | (with_reducible exact ho) | (with_reducible exact hC) | (with_reducible refine CA.drew ?_) | (with_reducible refine CA.alloc ?_ _) | (refine CA.set ?_ _ _ _ hf) | (refine CA.set ?_ _ _ _ (fun x hx=>Nat.ne_of_lt (ho x hx).1)) | (refine CA.set ?_ _ _ _ (fun x hx=>Nat.ne_of_lt (hG x hx).1)))))
      ((go_at_call 119;(with_reducible refine (Ha.out _).mono ?_);rintro e wd ⟨rfl,hbd⟩;have hG:CA wd cl:=(by first | exact hC.drew.after hbd | exact (hC.alloc _).drew.after hbd | exact (hC.drew.alloc _).after hbd);(try (have hg:Bw wy wd:=(Below.drew Br).trans hbd));(try (have hg:Bw wy wd:=bt ((b1 wy _).drew) hbd));(try (have kD:=(Blk.new wy #[.bool false,.string { data:=#[] }] 74).drew.after hbd;have kDc0:=kD.cell 0;have kDc1:=kD.cell 1;have kDf0:=kD.free 0;have kDf1:=kD.free 1))))
     all_goals
      go_wp2_with fail
      go_meet
      first
       | exact⟨⟨_,rfl,Blk.new _ _ _,hg.size,ba hg _⟩,rfl⟩
       | exact⟨⟨_,rfl,(kD.set 0 _).set 1 _,Nat.le_refl _,(hg.setCell (by simp) _).setCell (by simp) _⟩,rfl⟩
    case rest =>
    clear hC hf ht;obtain⟨⟨gy,rfl,hY,jv,hb4⟩,rfl⟩:=hcut;have jM:=Kh jv;clear jv;obtain⟨w4,H6⟩:∃wy,wy=wc:=⟨_,rfl⟩;subst H6;replace hp:=bt hp hb4;replace hu:=own_after hu hb4;replace Hp:=Hp.after hb4;have uu6:=(hb4.cell (p:=⟨bu,k*2+1,none⟩) ku2).trans uu3;have ku4:=Nl ku2 hb4.size;clear yy3 yy4 uu3 ky2 ku2 hb4 Ha jM hX He hy hz;have g1:=gcl (a:=⟨bu,k*2+1,none⟩) ku4 uu6;have jN:=hY.lt;obtain⟨jb,jc,jd,je⟩:=hY.x2;obtain⟨HD,HE⟩:=Hp.x1;have jf:=hY.gcell 0;have jg:=hY.gcell 1;have HF:=Hp.gcell 0;cases bl
    ·have HX:=Kh (HK.out rfl);go_upto_region 15 with fail
     go_wp2_with fail
     refine wp_region_gw (by kernel_rfl) (by kernel_rfl) ?_;repeat (go_big_quiet_step (first | (go_at_call 106;exact gw_of (ja.out _))))
     refine wpQuiet_nil ?_;rintro w5 ⟨xw5,rfl⟩;have hA:=gw_below xw5;generalize gw xw5=w5 at hA;go_wp2;go_ret2
     rw[Ht.out,jp.out,HX.out.1,HX.out.2];exact epost_err rfl (bt hR (bt hp hA))
    ·have h9:=Kh (Hx.out rfl);go_upto_region 15 with fail
     go_wp2_with fail
     refine wp_region_gw (by kernel_rfl) (by kernel_rfl) ?_;repeat (go_big_quiet_step (first | (go_at_call 106;exact gw_of (ja.out _))))
     refine wpQuiet_nil ?_;rintro w5 ⟨xw5,rfl⟩;have hA:=gw_below xw5;generalize gw xw5=w5 at hA;clear jb jc jd je;clear HD HE;clear jf jg;clear HF;have jw:=hY.after hA;have Hk:(w5).ownsRow w1.heap.size 74 2 u12 k (ics (LI.map zI)):=own_after hu hA;have hv:=bt hp hA;clear hu hp hA g1 jN hY uu6 ku4 ja HK Hx Hp;have H7:=hv.size;have jO:=jw.lt;obtain⟨jx,jy,jz,jA⟩:=jw.x2;go_wp2_with (at_builtin;refine wpList_append_lies _ rfl (.tmp 118) (.tmp 120) _ rfl w1.heap.size 74 i1 _ 2 24 Tryz.underlying30 jl.out jm.out jn.out jo.out rfl (by omega) u12 k (ics (LI.map zI)) rfl (own_after Hk (b1 _ (.cells #[.bool (sg dz),.string (E dz.natAbs)] 74))) ⟨(w5).heap.size,0,none⟩ 1 1 [.bool (sg dz),.string (E dz.natAbs)] rfl rfl (Blk.new (w5) #[.bool (sg dz),.string (E dz.natAbs)] 74).cells (by simp[Value.oneCell']) (by omega) (by simp only[maxLen];omega) (by omega) (by rw[World.size_alloc];omega) ((w5).heap.size+1) (by simp) ?_;intro ga ca' wz hH hl H8 Hl)
     have HC:ZOwn wz w1.heap.size (.slice (some ⟨ga,0,none⟩) (k+1) ca') (LI++[dz]):=by rw[ZOwn,List.length_append,HL.out,←ics_app];exact hH
     rw[←hn.out]at HC;have H9:=(ba hv (.cells #[.bool (sg dz),.string (E dz.natAbs)] 74)).grown hl (by rw[World.size_alloc];omega) (fun x hx=>(own_lt Hk hx).2);clear hH hl H8 Hl Hk hv;go_wp2;go_roundw
     case rel=>exact⟨k+1,by omega,by go_num,h9.out,HC,H9⟩
     case measure=>simp[intOf];omega
  ·obtain rfl:n2=k:=by omega
   have jP:Hid ((N.rspL c W M).take n2=N.rspL c W M):=List.take_of_length_le (by rw[NSta.rspL,List.length_map,List.length_range,←HS.out];exact Nat.le_refl _);have HX:=Kh (rsp2_0 (N:=N) (C:=C) (K:=K) (c:=c) (W:=W) (M:=M) (ra_true fun j hj=>hI.out j (by rw[HS.out];exact hj)));rw[jP.out]at hO;have jQ:=hR.size;go_wp2;go_ret2
   rw[Ht.out,jp.out,HX.out.1,HX.out.2];exact⟨_,rfl,own_mono hO jQ,bt hR h6⟩
end
section
open Go.RowKit Go.Shelf
theorem sresp_num (N:NSta) (C K c:Nat) (W M:List Int) (v1 v2 v3 vw vm:Value) (w:World) (hC:C<256^16) (hK:K<256^16) (hm:NOk N) (hS:NAt w v1 v2 v3 N)
  (HE:∀w',Bw w w'→Calls Tryz.prog 77 #[.agg #[.string (E C),.string (E K)],.agg #[v1,v2,v3]] w' (BPost w' (N.lims C K)))
  (hW:ZsAt w vw W) (hM:ZsAt w vm M) (hc:c<256^100) (Hg:W.length≤1000) (Hh:M.length≤1000) (h4:∀z∈W,z.natAbs<256^64) (h5:∀z∈M,z.natAbs<256^64) (HF:N.vars.any vz=true→0<N.ord) :
  Calls Tryz.prog 42 #[.agg #[.string (E C),.string (E K)],.agg #[v1,v2,v3],vw,vm,.string (E c)] w (EPost w (N.rspE C K c W M) (N.rspR C K c W M)):=by
 obtain⟨r,hr⟩:∃r:Nat,r=N.rspE C K c W M:=⟨_,rfl⟩;obtain⟨rl,Hi⟩:∃r,r=N.rspR C K c W M:=⟨_,rfl⟩;have hD:=Kh hr;have Hj:=Kh Hi;rw[←hr,←Hi];clear hr Hi;have hQ:Hid (∀k,N.rspE C K c W M=k→k≠0→r=k∧rl=[]):=fun k h hk=>⟨hD.out.trans h,Hj.out.trans (rspR_e h hk)⟩
 have Hk:=Kh HE
 have hE:∀(Z:List Int) (v:Value),(∀z∈Z,z.natAbs<256^64)→Z.length≤1000→ZsAt w v Z→∀w',Bw w w'→Calls Tryz.prog 78 #[v] w' fun e w''=>e=.returned (.bool true)∧Bw w' w'':=fun Z v hz hn hv w' hb =>
  svalidV_c (Z.map zI) v true w' (by rw[List.length_map];exact hn) (fun x hx=>by obtain⟨z,Hl,rfl⟩:=List.mem_map.1 hx;exact Nat.le_trans ((E_size_le _ 64).2 (hz z Hl)) (by decide)) (hv.after hb) (by rw[List.all_map,List.all_eq_true];intro z Hl;exact ivB_I z (lt64 (hz z Hl)))
 have Hm:=Kh (hE W vw h4 Hg hW);have Hn:=Kh (hE M vm h5 Hh hM);have HG:Hid (∀w,Calls Tryz.prog 79 #[.string (E c)] w fun e w'=>e=.returned (.bool true)∧w=w'):=fun w=>validE_c c w (Nl hc P8)
 have hT:Hid (∀w,Calls Tryz.prog 34 #[.string (E c),.string (E C)] w fun e w'=>e=.returned (.int .i64 (cmpN c C))∧w=w'):=fun w=>cmp_c c C w (Nl hc P8) (Nl hC P8)
 obtain⟨bi,Ho⟩:∃b:Bool,b=ra N.vars.length (inJ N W):=⟨_,rfl⟩;have h6:=Kh Ho;have h7:Hid (W.length=N.vars.length→∀w',Bw w w'→Calls Tryz.prog 80 #[.agg #[v1,v2,v3],vw] w' fun e w''=>e=.returned (.bool bi)∧Bw w' w''):=fun h w' hb=>by rw[Ho];exact sinr_c N W v1 v2 v3 vw w' hm (hS.after hb) (hW.after hb) h4 h
 have hU:Hid (c<C→W.length=N.vars.length→M.length=N.vars.length→∀(B:Nat) (vl:Value) w',Bw w w'→LmOwn w' B vl (N.lims C K)→Calls Tryz.prog 83 #[.agg #[v1,v2,v3],vl,vw,vm,.string (E c)] w' (EPost w' (N.rsp2 C K c W M) (N.rspR2 C K c W M))):=fun HP h1 h2 B vl w' hb hL =>
  srespond_c N C K c B W M v1 v2 v3 vl vw vm w' hC hK hm (hS.after hb) hL (hW.after hb) (hM.after hb) (Nat.lt_trans HP hC) h1 h2 h4 h5 HF
 have HQ:Hid (∀(x:Int) (vb lb:Nat),x.natAbs<256^64→lb<256^64→∀w,Calls Tryz.prog 106 #[.agg #[.string (E vb)],.agg #[.bool (sg (x)),.string (E (x).natAbs)],.string (E lb)] w fun e w'=>e=.returned (.bool (blw vb x lb))∧Bw w w'):=fun x vb lb hx hl w=>below_c vb x lb w (lt64 hx) (lt64 hl)
 have HR:Hid (∀(j:Nat) (h:j<N.vars.length),(lim N.ord C K N.vars[j]).1<256^64):=fun j h=>by
  unfold lim;split
  ·exact Nl (ord_lt hm) P8
  ·exact Nl (lt_mul3 hC hK (hm.v _ (Gm h))).2 P8
 have HS:=Kh h5;obtain⟨a4,c4,rfl⟩:=hW.form;obtain⟨a5,c5,rfl⟩:=hM.form;obtain⟨nw,h8⟩:∃n,n=W.length:=⟨_,rfl⟩;obtain⟨nm,h9⟩:∃n,n=M.length:=⟨_,rfl⟩;have HH:=Kh h8;have Hp:=Kh h9;rw[←h8]at hW Hm h7 hU ⊢;rw[←h9]at hM Hn hU ⊢;obtain⟨a1,c1,a2,c2,a3,c3,rfl,rfl,rfl⟩:=hS.forms;obtain⟨n1,Hq⟩:∃n,n=N.grps.length:=⟨_,rfl⟩;obtain⟨n2,hX⟩:∃n,n=N.vars.length:=⟨_,rfl⟩;obtain⟨n3,Hr⟩:∃n,n=N.eqs.length:=⟨_,rfl⟩;have hH:=Kh hX;have l2:n2≤12:=by rw[hX];exact hm.nv
 have lw:nw≤1000:=by rw[h8];exact Hg
 have lm:nm≤1000:=by rw[h9];exact Hh
 rw[←Hq,←hX,←Hr]at hS Hk ⊢;rw[←Hq,←hX,←Hr]at h7 hU;clear Ho hm Hq hX Hr h8 h9 hC hK hc HE hE Hg Hh h4 h5 HF;obtain⟨hR,hP,he⟩:=blk2 w #[.string (E C),.string (E K)] #[.slice a1 n1 c1,.slice a2 n2 c2,.slice a3 n3 c3] 24 29;replace hS:=hS.after he;replace hM:=hM.after he;clear hW;obtain⟨hu,hw,hy,hA⟩:=hR.x2;obtain⟨hf,hg,hh,hi,ho,hp⟩:=hP.x3;go_enter Tryz.func42,Tryz.ntmps42
 go_wp2_with fail
 refine (Hk.out _ he).mono ?_;rintro e w2 ⟨lv,rfl,hL,hI⟩;clear hu hw hy hA;clear hf hg hh hi ho hp;replace hR:=hR.after hI;replace hP:=hP.after hI;replace hS:=hS.after hI;replace hM:=hM.after hI;replace he:=bt he hI;clear hI Hk;obtain⟨a6,c6,rfl⟩:=hL.form;have HI:Hid ((N.lims C K).length=n2):=by rw[Hid,NSta.lims,List.length_map,hH.out]
 rw[HI.out]at hL ⊢;go_wp2_with fail
 refine (Hm.out _ he).mono ?_;rintro e w3 ⟨rfl,hF⟩;replace hR:=hR.after hF;replace hP:=hP.after hF;replace hS:=hS.after hF;replace hM:=hM.after hF;replace hL:=hL.after hF;replace he:=bt he hF;clear hF Hm;go_wp2_with fail
 refine (Hn.out _ he).mono ?_;rintro e w4 ⟨rfl,hb4⟩;replace hR:=hR.after hb4;replace hP:=hP.after hb4;replace hS:=hS.after hb4;replace hM:=hM.after hb4;replace hL:=hL.after hb4;replace he:=bt he hb4;clear hb4 Hn;go_wp2_with fail
 refine (HG.out _).mono ?_;rintro e w' ⟨rfl,rfl⟩;clear HG;by_cases Hs:nw=n2∧nm=n2
 ·obtain⟨e1,e2⟩:=Hs;have Ha:Hid (W.length=N.vars.length):=by rw[Hid,←HH.out,←hH.out];exact e1
  have Hb:Hid (M.length=N.vars.length):=by rw[Hid,←Hp.out,←hH.out];exact e2
  have e3:nw=nm:=e1.trans e2.symm;subst e1;clear e2;subst e3;rcases Nat.lt_or_ge c C with Ht | Hu
  ·have HT:=cmp_neg c C Ht;have hq:¬ 0≤cmpN c C:=by omega
   have hd:decide (0≤cmpN c C)=false:=decide_eq_false hq;have Hc:=Kh Ht;clear Ht HT;generalize cmpN c C=q at hT hd hq;have hY:=Kh (h7.out rfl);have Hv:=Kh (hU.out Hc.out rfl rfl);clear h7 hU;obtain⟨hu,hw,hy,hA⟩:=hR.x2;obtain⟨hf,hg,hh,hi,ho,hp⟩:=hP.x3;go_wp2_with fail
   refine (hT.out _).mono ?_;rintro e w' ⟨rfl,rfl⟩;clear hT;have HJ:Hid (bi=false→r=2∧rl=[]):=fun h=>hQ.out 2 (rspE_w Ha.out Hb.out Hc.out (h6.out.symm.trans h)) (by decide)
   have HK:Hid (bi=true→ra N.vars.length (mkJ N C K M)=false→r=2∧rl=[]):=fun h h'=>hQ.out 2 (rspE_m Ha.out Hb.out Hc.out (h6.out.symm.trans h) h') (by decide)
   have HL:Hid (bi=true→ra N.vars.length (mkJ N C K M)=true→r=N.rsp2 C K c W M∧rl=N.rspR2 C K c W M):=fun h h'=>by
    have e:=rspE_r (K:=K) Ha.out Hb.out Hc.out (h6.out.symm.trans h) h';exact⟨hD.out.trans e.1,Hj.out.trans e.2⟩
   go_wp2_with fail
   refine (hY.out _ he).mono ?_;rintro e w5 ⟨rfl,hG⟩;clear hu hw hy hA;clear hf hg hh hi ho hp;replace hR:=hR.after hG;replace hP:=hP.after hG;replace hS:=hS.after hG;replace hM:=hM.after hG;replace hL:=hL.after hG;replace he:=bt he hG;clear hG hY;cases bi
   ·have HX:=Kh (HJ.out rfl);go_wp2;go_ret2
    rw[HX.out.1,HX.out.2];exact epost_err rfl he
   ·have Hw:=Kh (HK.out rfl);have Hx:=Kh (HL.out rfl);clear HJ HK HL hQ hD Hj h6 hd hq hR;obtain⟨hf,hg,hh,hi,ho,hp⟩:=hP.x3;go_wp2;clear hf hg hh hi ho hp;go_loopw [70] (fun i wr=>∃k:Nat,k≤nw∧i=.int .i64 k∧Hid (∀j,j<k→mkJ N C K M j=true)∧Bw w5 wr) (fun i _=>nw-(intOf i).toNat)
    case atStart=>exact⟨0,by omega,rfl,fun j h=>absurd h (Nat.not_lt_zero _),Br⟩
    case round =>
     obtain⟨k,hk,rfl,HA,hJ⟩:=hrel;obtain⟨wq,HU⟩:∃wp,wp=wr:=⟨_,rfl⟩;subst HU;replace he:=bt he hJ;replace hP:=hP.after hJ;replace hL:=hL.after hJ;by_cases hlt:k<nw
     ·have hN:k<N.vars.length:=by rw[←hH.out];exact hlt
      have Hd:k<M.length:=by rw[←Hp.out];exact hlt
      have HM:k<(N.lims C K).length:=by rw[HI.out];exact hlt
      have hZ:=Kh (mkJ_at N C K M k hN Hd);obtain⟨b,o,rfl,HZ,x1⟩:=(hS.after hJ).vat hN;obtain⟨b',o',rfl,hB,y1,y2⟩:=(hM.after hJ).at_ Hd;obtain⟨b6,rfl,h0,z1,z2⟩:=hL.at_ HM;rw[lims_at N C K k hN HM]at z1 z2;have He:=Kh (HR.out k hN);have Hy:=Kh (HS.out _ (Gm Hd));generalize (N.vars[k]'hN)=vb at x1 z1 z2 hZ He;generalize (M[k]'Hd)=zz at y1 y2 hZ Hy;generalize (lim N.ord C K vb).2=lb at z2;generalize (lim N.ord C K vb).1=la at z1 hZ He
      have Hz:Hid (∀w,Calls Tryz.prog 106 #[.agg #[.string (E vb)],.agg #[.bool (sg (zz)),.string (E (zz).natAbs)],.string (E la)] w fun e w'=>e=.returned (.bool (mkJ N C K M k))∧Bw w w'):=fun w=>by
       rw[hZ.out];exact HQ.out zz vb la Hy.out He.out w
      have HN:Hid (mkJ N C K M k=false→r=2∧rl=[]):=fun h=>Hw.out (ra_false hN h)
      have HX:Hid (mkJ N C K M k=true→∀j,j<k+1→mkJ N C K M j=true):=fun h j hj=>by
       by_cases e:j=k
       ·rw[e];exact h
       ·exact HA.out j (by omega)
      generalize mkJ N C K M k=bl at Hz HN HX;clear hZ He Hy;have H0:(0:Int)≤(k:Int):=by omega
      have H1:(k:Int)<(nw:Int):=by omega
      obtain⟨hV,ht⟩:=blk1 wq #[.string (E vb)] 71;have y1':=(ht.cell (p:=⟨b',o'+k*2,none⟩) hB).trans y1;have y2':=(ht.cell (p:=⟨b',o'+k*2+1,none⟩) hB).trans y2;have z1':=(ht.cell (p:=⟨b6,k*2,none⟩) h0).trans z1;have g1:=gcl (a:=⟨b',o'+k*2,none⟩) (Nl hB ht.size) y1';have g2:=gcl (a:=⟨b',o'+k*2+1,none⟩) (Nl hB ht.size) y2';have g3:=gcl (a:=⟨b6,k*2,none⟩) (Nl h0 ht.size) z1';cases bl
      ·have Hf:=Kh (HN.out rfl);go_upto_region 13 with fail
       generalize wq.alloc (.cells #[.string (E vb)] 71)=wv at hV ht y1' y2' z1' g1 g2 g3 ⊢;replace hV:Blk wv wq.heap.size 71 [.string (E vb)]:=hV;obtain⟨HB,HC⟩:=hV.x1;have HD:=hV.gcell 0;go_wp2_with fail
       refine wp_region_gw (by kernel_rfl) (by kernel_rfl) ?_;repeat (go_big_quiet_step (first | (go_at_call 106;exact gw_of (Hz.out _))))
       refine wpQuiet_nil ?_;rintro w7 ⟨xw7,rfl⟩;have h3:=gw_below xw7;generalize gw xw7=w7 at h3;go_wp2;go_ret2
       rw[Hf.out.1,Hf.out.2];exact epost_err rfl (bt (bt he ht) h3)
      ·have Hf:=Kh (HX.out rfl);go_upto_region 13 with fail
       generalize wq.alloc (.cells #[.string (E vb)] 71)=wv at hV ht y1' y2' z1' g1 g2 g3 ⊢;replace hV:Blk wv wq.heap.size 71 [.string (E vb)]:=hV;obtain⟨HB,HC⟩:=hV.x1;have HD:=hV.gcell 0;go_wp2_with fail
       refine wp_region_gw (by kernel_rfl) (by kernel_rfl) ?_;repeat (go_big_quiet_step (first | (go_at_call 106;exact gw_of (Hz.out _))))
       refine wpQuiet_nil ?_;rintro w7 ⟨xw7,rfl⟩;have h3:=gw_below xw7;generalize gw xw7=w7 at h3;go_wp2;go_roundw
       case rel=>exact⟨k+1,by omega,by go_num,Hf.out,bt (bt hJ ht) h3⟩
       case measure=>simp[intOf];omega
     ·have HX:=Kh (Hx.out (ra_true fun j hj=>HA.out j (by have:=hH.out;omega)));have HO:=Kh (Hv.out _ _ _ he hL);rw[←HX.out.1,←HX.out.2]at HO;clear HX;have HV:=he.size;obtain⟨hf,hg,hh,hi,ho,hp⟩:=hP.x3;go_wp2_with fail
      refine HO.out.mono ?_;rintro e w6 ⟨v,rfl,hO,HW⟩;go_wp2;go_ret2
      exact⟨_,rfl,own_mono hO HV,bt he HW⟩
  ·have HX:=Kh (hQ.out 2 (rspE_c (K:=K) Ha.out Hb.out Hu) (by decide));have hd:decide (0≤cmpN c C)=true:=Dt (by have:=cmp_nneg c C Hu;omega);have hq:0≤cmpN c C:=of_decide_eq_true hd;clear Hu;generalize cmpN c C=q at hT hd hq;obtain⟨hu,hw,hy,hA⟩:=hR.x2;obtain⟨hf,hg,hh,hi,ho,hp⟩:=hP.x3;go_wp2_with fail
   refine (hT.out _).mono ?_;rintro e w' ⟨rfl,rfl⟩;go_wp2;go_ret2
   rw[HX.out.1,HX.out.2];exact epost_err rfl he
 ·have HX:=Kh (hQ.out 6 (rspE_6 (C:=C) (K:=K) (c:=c) (by rw[←HH.out,←Hp.out,←hH.out];omega)) (by decide));by_cases h1:nw=n2
  ·have h2:((nm:Int) != (n2:Int))=true:=by rw[bne_iff_ne];omega
   have HY:((nm:Int)==(n2:Int))=false:=by rw[beq_eq_false_iff_ne];omega
   subst h1;clear Hs;obtain⟨hf,hg,hh,hi,ho,hp⟩:=hP.x3;go_wp2;go_ret2
   rw[HX.out.1,HX.out.2];exact epost_err rfl he
  ·have h2:((nw:Int) != (n2:Int))=true:=by rw[bne_iff_ne];omega
   have HY:((nw:Int)==(n2:Int))=false:=by rw[beq_eq_false_iff_ne];omega
   clear Hs h1;obtain⟨hf,hg,hh,hi,ho,hp⟩:=hP.x3;go_wp2;go_ret2
   rw[HX.out.1,HX.out.2];exact epost_err rfl he
end
end Go.Proofs.YtihjpddbjhcbmaaGreatDoor
