/- SquarerangeProves: the law. -/
import Derived.Test.YtdgddpnjkinciaaGreatDoorPn27
import Derived.Test.YtdgddpnjkinciaaGreatDoorPvl
import Derived.Test.YtdgddpnjkinciaaGreatDoorAtt
set_option linter.all false
set_option maxRecDepth 100000
set_option maxHeartbeats 16000000
namespace Go.Proofs.YtdgddpnjkinciaaGreatDoor
open Go.RowKit Go.Shelf
theorem prR_good {att:Att} {a b c d:ByteArray} {lo:Int} {vn:Bool} {va:ByteArray} {rn:Bool} {ra rd:ByteArray} {T:Tp} (hl:T.vals.length≤100) (h:(prR att a b c d lo vn va rn ra rd T).err=0):(T.on 4).good=true:=by
 obtain⟨_,_,hb,_⟩:=prR_ok h;obtain⟨h1,h2⟩:=coin_inv (T:=T.on 3) hl (hb 3 (by decide));have:=tp_on_good h1 h2;rwa [Tp.on_on]at this
theorem stN_nz {p g h c vb rb:Nat} {lo:Int} {P:List Nat} (hv:vb≠0) (hr:rb≠0):(stN p g h lo c P vb rb).nz:=by
 intro j hj;have hl:lastB vb rb≠0:=by unfold lastB;exact Nat.ne_of_gt (Nat.mul_pos (by omega) (by omega))
 have hj:j<9:=hj;match j,hj with
 | 0,_=>exact hv
 | 1,_=>exact hr
 | 2,_=>exact hv
 | 3,_=>exact hr
 | 4,_=>exact hv
 | 5,_=>exact hr
 | 6,_=>exact hv
 | 7,_=>exact hr
 | 8,_=>exact hl
theorem nz_vz {N:NSta} (h:N.nz) (h2:N.vars.any vz=true):False:=by
 obtain⟨x,hx,hz⟩:=List.any_eq_true.1 h2;obtain⟨j,hj,rfl⟩:=List.getElem_of_mem hx;have h3:=h j hj;rw[List.getD_eq_getElem?_getD,List.getElem?_eq_getElem hj,Option.getD_some]at h3;unfold vz at hz;exact h3 (by simpa using hz)
theorem pn_ok {a b c d:ByteArray} {lo:Int} {vn:Bool} {va:ByteArray} {rn:Bool} {ra vl rd:ByteArray} {T:Tp} {k:Nat} {w:World} (hu:T.Ok) (ht:TabW w) (ha:a.size≤8) (h8:va.size≤12) (Ha:ra.size≤12) (Hb:vl.size≤12) (Hc:rd.size≤12) (Ho:lo.natAbs<1099511627776)
  (h1:cmE a b c d vn va rn ra=0) (h2:(prR attN a b c d lo vn va rn ra rd T).err=0)
  (h3:(stR a b c d lo (E (cmC a b c d vn va rn ra)) ((prR attN a b c d lo vn va rn ra rd T).parts.map E) vl rd).1=0) (h4:(witR a b c d vn va rn ra ((prR attN a b c d lo vn va rn ra rd T).ops.map nop)).1=0) :
  ∃hb:Bool,PnOk (E 4) (E 200) (E (k%4)) (stR a b c d lo (E (cmC a b c d vn va rn ra)) ((prR attN a b c d lo vn va rn ra rd T).parts.map E) vl rd).2 (witR a b c d vn va rn ra ((prR attN a b c d lo vn va rn ra rd T).ops.map nop)).2 (prR attN a b c d lo vn va rn ra rd T).tp hb w:=by
 have hm:=prR_good hu.n h2;rw[witR_ok h4];clear h4;obtain⟨Hd,He⟩:=cmE_ok h1;obtain⟨Hf,ho,he,hR⟩:=prR_ok h2;have hB:=stC_k0 h3;obtain⟨_,Hg,Hh,Hi,hC⟩:=chk_nums hB;obtain⟨vb,Hp,rfl⟩:=of_vldB Hh;obtain⟨rb,Hq,rfl⟩:=of_vldB Hi;obtain⟨p,g,h,⟨hp,hg,hh⟩,rfl,rfl,rfl,rfl,hv⟩:=kyV_zero Hf ha;obtain⟨V,hV,rfl,rfl⟩:=of_ivB Hd;obtain⟨r,hr,rfl,rfl⟩:=of_ivB He;obtain⟨t,Hr,Hs,Ht,Hu⟩:=ped_two hv;have Hv:V.natAbs<256^12:=lt_of_size h8;have Hj:r.natAbs<256^12:=lt_of_size Ha;have hq:vb<256^12:=lt_of_size Hb;have hc:rb<256^12:=lt_of_size Hc;rw[intb_I]at ho;rw[numb_E]at he;rw[intb_I,numb_E,numb_E,numb_E,numb_E]at hR;rw[hR]at h3 hC ⊢;rw[show (PrR.mk 0 (prP attN p g h rb (roots (V-lo)) T 4) (prO attN rb (roots (V-lo)) T 4) (T.on 4)).tp=T.on 4 from rfl];have Hk:=(cmC_num (p:=p) (g:=g) (h:=h) V r (Nl hp (by decide)) hg hh hV hr hv).2;rw[Hk]at h3 Hg ⊢;clear hR h2 h1;obtain⟨X,hX⟩:∃X,X=roots (V-lo):=⟨_,rfl⟩;have hM:=roots_len (V-lo);rw[←hX]at h3 hC hM ⊢;match X,hM,hX with
 | [x0,x1,x2,x3],_,hX =>
  obtain⟨c0,hD⟩:∃n,n=(prC attN rb T 0).2:=⟨_,rfl⟩;obtain⟨c1,hE⟩:∃n,n=(prC attN rb T 1).2:=⟨_,rfl⟩;obtain⟨c2,hF⟩:∃n,n=(prC attN rb T 2).2:=⟨_,rfl⟩;obtain⟨c3,hG⟩:∃n,n=(prC attN rb T 3).2:=⟨_,rfl⟩;have k0:c0<rb:=by rw[hD];exact prC_lt (he 0 (by decide))
  have k1:c1<rb:=by rw[hE];exact prC_lt (he 1 (by decide))
  have k2:c2<rb:=by rw[hF];exact prC_lt (he 2 (by decide))
  have k3:c3<rb:=by rw[hG];exact prC_lt (he 3 (by decide))
  have hP:(PrR.mk 0 (prP attN p g h rb [x0,x1,x2,x3] T 4) (prO attN rb [x0,x1,x2,x3] T 4) (T.on 4)).parts=cms p g h [((x0:Int),(c0:Int)),(x1,c1),(x2,c2),(x3,c3)]:=by rw[hD,hE,hF,hG];rfl
  have hO:(PrR.mk 0 (prP attN p g h rb [x0,x1,x2,x3] T 4) (prO attN rb [x0,x1,x2,x3] T 4) (T.on 4)).ops=[(x0,c0),(x1,c1),(x2,c2),(x3,c3)]:=by rw[hD,hE,hF,hG];rfl
  rw[hP]at h3 hC ⊢;rw[hO,intb_I];have ei:∀n:Nat,intb false (E n)=(n:Int):=fun n=>by unfold intb;rw[numb_E];rfl
  have hZ:oZ (([(x0,c0),(x1,c1),(x2,c2),(x3,c3)]:List (Nat × Nat)).map nop)++[restL r (([(x0,c0),(x1,c1),(x2,c2),(x3,c3)]:List (Nat × Nat)).map nop)]=zs9 [((x0:Int),(c0:Int)),(x1,c1),(x2,c2),(x3,c3)] (r-prd [((x0:Int),(c0:Int)),(x1,c1),(x2,c2),(x3,c3)]):=by
   show [intb false (E x0),intb false (E c0),intb false (E x1),intb false (E c1),intb false (E x2),intb false (E c2),intb false (E x3),intb false (E c3),r-intb false (E x0)*intb false (E c0)-intb false (E x1)*intb false (E c1)-intb false (E x2)*intb false (E c2)-intb false (E x3)*intb false (E c3)]=[(x0:Int),c0,x1,c1,x2,c2,x3,c3,r-((x0:Int)*c0+(x1*c1+(x2*c2+(x3*c3+0))))];simp only[ei];congr 9
   omega
  rw[hZ];obtain⟨hQ,hS,hT,hU,Hl⟩:=stC_ok h3;rw[Hl];have hW:hasB p 0 (cmtN p g h V r)=true:=cmt_has t V r;have hY:=cms_hasC t [((x0:Int),(c0:Int)),(x1,c1),(x2,c2),(x3,c3)];have hw:∀j,([x0,x1,x2,x3]:List Nat).getD j 0<256^8:=fun j=>by rw[hX];exact roots_lt ho j
  have hx0:x0<256^8:=hw 0;have hx1:x1<256^8:=hw 1;have h0:x2<256^8:=hw 2;have h5:x3<256^8:=hw 3
  have h6:(r-prd [((x0:Int),(c0:Int)),(x1,c1),(x2,c2),(x3,c3)]).natAbs<256^64:=by
   have m:∀{x y:Nat},x<256^8→y<rb→x*y≤256^8*256^12:=fun hx hy=>Nat.mul_le_mul (Nat.le_of_lt hx) (Nat.le_of_lt (Nat.lt_trans hy hc))
   have m0:=m hx0 k0;have m1:=m hx1 k1;have m2:=m h0 k2;have m3:=m h5 k3;show (r-((x0:Int)*c0+((x1:Int)*c1+((x2:Int)*c2+((x3:Int)*c3+0))))).natAbs<_;simp only[←Int.natCast_mul];have Hm:(256:Nat)^8*256^12*5<256^64:=by decide
   have Hn:(256:Nat)^12≤256^8*256^12:=by decide
   generalize (256:Nat)^8*256^12=M at m0 m1 m2 m3 Hm Hn;omega
  have hk:∀n:Nat,n<256^12→((n:Int)).natAbs<256^64:=fun n hn=>by rw[Int.natAbs_natCast];exact Nat.lt_trans hn (by decide)
  have u12:∀{n:Nat},n<256^8→n<256^12:=fun h=>Nat.lt_trans h (by decide)
  have hI:∀z∈zs9 [((x0:Int),(c0:Int)),(x1,c1),(x2,c2),(x3,c3)] (r-prd [((x0:Int),(c0:Int)),(x1,c1),(x2,c2),(x3,c3)]),z.natAbs<256^64:=fun z hz=>by
   have hz:z∈[(x0:Int),c0,x1,c1,x2,c2,x3,c3,r-prd [((x0:Int),(c0:Int)),(x1,c1),(x2,c2),(x3,c3)]]:=hz;simp only[List.mem_cons,List.not_mem_nil,or_false]at hz;rcases hz with rfl | rfl | rfl | rfl | rfl | rfl | rfl | rfl | rfl
   ·exact hk _ (u12 hx0)
   ·exact hk _ (Nat.lt_trans k0 hc)
   ·exact hk _ (u12 hx1)
   ·exact hk _ (Nat.lt_trans k1 hc)
   ·exact hk _ (u12 h0)
   ·exact hk _ (Nat.lt_trans k2 hc)
   ·exact hk _ (u12 h5)
   ·exact hk _ (Nat.lt_trans k3 hc)
   ·exact h6
  obtain⟨Z,hJ⟩:∃Z,Z=zs9 [((x0:Int),(c0:Int)),(x1,c1),(x2,c2),(x3,c3)] (r-prd [((x0:Int),(c0:Int)),(x1,c1),(x2,c2),(x3,c3)]):=⟨_,rfl⟩;have h7:Z.length=9:=by rw[hJ];rfl
  rw[←hJ]at hI ⊢;clear hJ hZ hO hP h6;have hj:=stN_ok (lo:=lo) hp hv hW hT hY hq hc;have hd:=stN_chk (lo:=lo) hv hW hT hY hQ hS;have hA:=stN_nz (p:=p) (g:=g) (h:=h) (lo:=lo) (c:=cmtN p g h V r) (P:=cms p g h [((x0:Int),(c0:Int)),(x1,c1),(x2,c2),(x3,c3)]) hQ hS;have hl:(stN p g h lo (cmtN p g h V r) (cms p g h [((x0:Int),(c0:Int)),(x1,c1),(x2,c2),(x3,c3)]) vb rb).vars.length=9:=rfl;generalize stN p g h lo (cmtN p g h V r) (cms p g h [((x0:Int),(c0:Int)),(x1,c1),(x2,c2),(x3,c3)]) vb rb=N at hj hd hA hl ⊢;have hK:k%4<4:=Nat.mod_lt _ (by decide);have hi:k%4<256^100:=Nat.lt_trans hK (by decide);generalize k%4=x at hK hi ⊢;refine⟨N.hldB Z,fun v1 v2 v3 vW w' hN hL=>?_,fun hH=>⟨N.prvR attN 4 200 x Z (T.on 4),N.fstR (N.prvR attN 4 200 x Z (T.on 4)),N.rspO x Z (N.prvR attN 4 200 x Z (T.on 4)),?_,fun v1 v2 v3 vW vt w' hb hN hL hV=>?_,fun h v1 v2 v3 fv rv w' hN hf hr=>?_⟩⟩
  ·have h9:=rholds_c _ Z v1 v2 v3 vW w' hj hN hL hI (by omega) hd
   have e0:N.hldE Z=0:=by
    unfold NSta.hldE;rw[if_neg];rw[h7,hl];exact fun hh=>hh rfl
   rw[e0]at h9;exact h9
  ·exact prvR_errs hA (by decide) (by decide) hu.n hm (by rw[h7,hl]) hK hH
  ·exact prove_N attN N 4 200 x Z (T.on 4) v1 v2 v3 vW vt w' (hatt _ w' (by have:=hu.d;show T.seed.size≤1000;omega) (ht.after hb)) (hu.on 4) (by decide) (by decide) (by decide) (by decide) hj hN hd (fun hh=>(nz_vz hA hh).elim) hL hV hi (by omega) hI
  ·exact verify_N attN N 4 200 x Z (T.on 4) v1 v2 v3 fv rv w' (by decide) (by decide) (by decide) (by decide) hj hN hd (fun hh=>(nz_vz hA hh).elim) hi h hf hr
theorem pn27_c (a b c d:ByteArray) (lo:Int) (vn:Bool) (va:ByteArray) (rn:Bool) (ra vl rd:ByteArray) (k:Nat) (V:List ByteArray) (sd:ByteArray) (ti:Int) (st:Option Addr) (mt dt:Nat) (w:World) (hh:k<256)
  (hi:va.size≤9223372036854775807) (hj:ra.size≤9223372036854775807) (hl:V.length≤9223372036854775807) (hm:∀x∈V,x.size≤9223372036854775807) (hn:sd.size≤9223372036854775807) (he:SsAt w (.slice st mt dt) V) (ht:TabW w) :
  Calls Tryz.prog 3 #[.agg #[.string a,.string b,.string c,.string d,.int .i64 lo,.bool vn,.string va,.bool rn,.string ra,.string vl,.string rd],.int .u8 (k:Int),.agg #[.slice st mt dt,.string sd,.int .i64 ti]] w fun e w'=>e=.returned (.bool true)∧Bw w w':=by
 refine pn_walk a b c d lo vn va rn ra vl rd sd ti st mt dt k w (tfw V sd) (gate27 a b c d lo va ra vl rd) (E 4) (E 200) (E (k%4)) hh (fun w=>l27num_c 4 w (by decide)) (fun w=>l27num_c 200 w (by decide)) (fun w=>l27num_c (k%4) w (by have:=Nat.mod_lt k (show 0<4 by decide);omega)) (fun w'=>l27small_c a b c d lo vn va rn ra vl rd w' hi hj) (fun w' hb=>l27few_c V sd ti _ w' hl hm (SsAt.after he hb)) (fun hg ho=>?_);obtain⟨hk,h1,h2,h3,h4,h5,h6⟩:=hg;obtain⟨k1,k2,k3,k4⟩:=kfw_inv hk;obtain⟨p1,p2,p3⟩:=tfwc_inv ho;have hf:(Tp.mk V sd ti).Ok:=⟨by show V.length≤_;omega,fun x hx=>by have:=p2 x hx;omega,by show sd.size≤_;omega⟩;obtain⟨b1',b2',b3',b4'⟩:=prR_bnd (att:=attN) (a:=a) (b:=b) (c:=c) (d:=d) (lo:=lo) (vn:=vn) (va:=va) (rn:=rn) (ra:=ra) (rd:=rd) (T:=⟨V,sd,ti⟩) k1 h4
 refine⟨(stR a b c d lo (E (cmC a b c d vn va rn ra)) ((prR attN a b c d lo vn va rn ra rd ⟨V,sd,ti⟩).parts.map E) vl rd).2,(witR a b c d vn va rn ra ((prR attN a b c d lo vn va rn ra rd ⟨V,sd,ti⟩).ops.map nop)).2,
  okB (cmE a b c d vn va rn ra) (prR attN a b c d lo vn va rn ra rd ⟨V,sd,ti⟩).err (stR a b c d lo (E (cmC a b c d vn va rn ra)) ((prR attN a b c d lo vn va rn ra rd ⟨V,sd,ti⟩).parts.map E) vl rd).1 (witR a b c d vn va rn ra ((prR attN a b c d lo vn va rn ra rd ⟨V,sd,ti⟩).ops.map nop)).1,
  (prR attN a b c d lo vn va rn ra rd ⟨V,sd,ti⟩).tp,stR_vars _ _ _ _ _ _ _ _ _,fun w' hb=>?_,fun hc=>?_⟩
 ·refine made_walk a b c d lo vn va rn ra vl rd sd ti st mt dt w' (cmE a b c d vn va rn ra) (cmC a b c d vn va rn ra) (prR attN a b c d lo vn va rn ra rd ⟨V,sd,ti⟩) (stR a b c d lo (E (cmC a b c d vn va rn ra)) ((prR attN a b c d lo vn va rn ra rd ⟨V,sd,ti⟩).parts.map E) vl rd) (witR a b c d vn va rn ra ((prR attN a b c d lo vn va rn ra rd ⟨V,sd,ti⟩).ops.map nop)) (stR_vars _ _ _ _ _ _ _ _ _) (fun w2 hd=>?_) (fun w2 hd=>?_) (fun u w2 hd hu=>?_) (fun u w2 hd hu=>?_)
  ·exact r14commitO_c a b c d vn va rn ra w2 k1 (by omega) (by omega) (by omega) (by omega) (by omega)
  ·exact sqprep_f attN a b c d lo vn va rn ra rd ⟨V,sd,ti⟩ _ w2 (hatt sd w2 (by omega) (ht.after (bt hb hd))) hf k1 (by omega) (by omega) (by omega) h1 h2 h4 h5 h6 (SsAt.after he (bt hb hd))
  ·exact sqstat_c a b c d lo _ _ vl rd u w2 k1 (by omega) (by omega) (by omega) (by have:=(E_size_le _ 8).2 (cmC_lt a b c d vn va rn ra k1);omega) (by rw[List.length_map];omega) (fun x hx=>by
    obtain⟨y,hy,rfl⟩:=List.mem_map.1 hx;have:=(E_size_le _ 8).2 (b2' y hy);omega) h3 h4 h5 h6 hu
  ·exact sqwit_c a b c d lo vn va rn ra _ u w2 k1 (by omega) (by omega) (by omega) h1 h2 (by rw[List.length_map];omega) (fun o ho=>by
    obtain⟨y,hy,rfl⟩:=List.mem_map.1 ho;exact⟨(E_size_le _ 12).2 (b4' y hy).1,(E_size_le _ 12).2 (b4' y hy).2⟩) hu
 ·unfold okB at hc;simp only[Bool.and_eq_true,beq_iff_eq]at hc;exact pn_ok hf ht k1 h1 h2 h3 h4 (by omega) hc.1.1.1 hc.1.1.2 hc.1.2 hc.2
end Go.Proofs.YtdgddpnjkinciaaGreatDoor
