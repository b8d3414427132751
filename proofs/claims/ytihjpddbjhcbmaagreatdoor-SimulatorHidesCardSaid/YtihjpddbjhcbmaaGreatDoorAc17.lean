/- Simulated proofs are accepted: both functions,and the law's walk. -/
import Derived.Test.YtihjpddbjhcbmaaGreatDoorSi3
import Derived.Test.YtihjpddbjhcbmaaGreatDoorAtt
import Derived.Test.YtihjpddbjhcbmaaGreatDoorArgH
import Derived.Test.YtihjpddbjhcbmaaGreatDoorAw7
set_option linter.unusedVariables false
set_option linter.unusedSimpArgs false
set_option maxRecDepth 100000
set_option maxHeartbeats 16000000
namespace Go.Proofs.YtihjpddbjhcbmaaGreatDoor
section
/- What Simulate returns is accepted;a proof is the proof of any witness,with the coins that explain it. Plain Lean. -/
open Go.RowKit Go.Shelf
theorem sub_mod_k (x y q:Nat) (hq:0<q):∃k:Int,((subM x y q:Nat):Int)+(y:Int)=(x:Int)+(q:Int)*k:=by
 have h1:=Nat.div_add_mod x q;have h2:=Nat.div_add_mod y q;have h3:=Nat.div_add_mod (x%q+q-y%q) q;have h4:=Nat.mod_lt y hq;unfold subM;refine⟨(y / q:Nat)-(x / q:Nat)+1-((x%q+q-y%q) / q:Nat),?_⟩;generalize x / q=a at *;generalize y / q=b at *;generalize x%q=r at *;generalize y%q=s at *;generalize (r+q-s) / q=c at *;generalize (r+q-s)%q=d at *;rw[Int.mul_sub,Int.mul_add,Int.mul_sub,Int.mul_one,←Int.natCast_mul,←Int.natCast_mul,←Int.natCast_mul];omega
theorem expL_at (N:NSta) (c:Nat) (Y W:List Int) (j:Nat) (h:j<N.vars.length):(N.expL c Y W).getD j 0=expJ N c Y W j:=by
 unfold NSta.expL;rw[List.getD_eq_getElem?_getD,List.getElem?_map,List.getElem?_range h];rfl
theorem nn_of {x:Int} {l:Nat} (h:blw 0 x l=true):0≤x:=by
 apply Classical.byContradiction
 intro hn;unfold blw at h;rw[sg_of_neg (by omega),show vz 0=true from rfl]at h;simp at h
theorem exp_mod {q c:Nat} {y z:Int} (hq:0<q) (hy:0≤y) (hz:0≤z):∃k:Int,((subM y.natAbs (c*z.natAbs%q) q:Nat):Int)+(c:Int)*z=y+(q:Int)*k:=by
 obtain⟨k,hk⟩:=sub_mod_k y.natAbs (c*z.natAbs%q) q hq;have h1:=Nat.div_add_mod (c*z.natAbs) q;refine⟨k+((c*z.natAbs / q:Nat):Int),?_⟩
 have h2:(c:Int)*z=((c*z.natAbs:Nat):Int):=by
  rw[Int.natCast_mul];congr 1
  omega
 rw[h2,Int.mul_add,←Int.natCast_mul];generalize c*z.natAbs / q=a at *;generalize c*z.natAbs%q=r at *;generalize c*z.natAbs=s at *;generalize q*a=t at *;generalize subM y.natAbs r q=u at *;generalize (q:Int)*k=v at *;omega
theorem exp_sum {N:NSta} {C K c:Nat} {Y W:List Int} (hq:N.vars.any vz=true→0<N.ord) (hY:ra N.vars.length (blJ N C K Y)=true) (hW:ra N.vars.length (inJ N W)=true) (j:Nat) (h:j<N.vars.length) :
  ∃k:Int,expJ N c Y W j+(c:Int)*W.getD j 0=Y.getD j 0+(if N.vars[j]=0 then (N.ord:Int)*k else 0):=by
 have hv:N.vars.getD j 0=N.vars[j]:=by rw[List.getD_eq_getElem?_getD,List.getElem?_eq_getElem h,Option.getD_some]
 have h1:=ra_at hY h;have h2:=ra_at hW h;unfold blJ at h1;unfold inJ at h2;unfold expJ expI;rw[hv]at *;by_cases h0:N.vars[j]=0
 ·rw[h0]at h1 h2;have hb:N.vars.any vz=true:=by rw[List.any_eq_true];exact⟨_,Gm h,by simp[vz,h0]⟩
  obtain⟨k,hk⟩:=exp_mod (c:=c) (hq hb) (nn_of h1) (nn_of h2);exact⟨k,by rw[if_pos h0,if_pos h0];exact hk⟩
 ·exact⟨0,by rw[if_neg h0,if_neg h0];omega⟩
theorem expl_img {N:NSta} {C K c:Nat} {F:List Nat} {Y W:List Int} (hm:NOk N) (hc:N.chk=0) (hq:N.vars.any vz=true→0<N.ord) (hv:N.ver C K F c Y=0) (hH:N.hldB W=true):N.imgs (N.expL c Y W)=F:=by
 obtain⟨f1,l1,hy,ho⟩:=ver_inv hv;unfold NSta.hldB at hH;simp only[Bool.and_eq_true,decide_eq_true_iff]at hH;obtain⟨hW,hr,hI⟩:=hH;refine List.ext_getElem (by rw[f1];simp[NSta.imgs]) fun j h1 h2=>?_
 have hj:j<N.eqs.length:=by rw[←f1];exact h2
 have e0:(N.imgs (N.expL c Y W))[j]=imgV N (N.expL c Y W) N.eqs[j]:=by simp[NSta.imgs]
 rw[e0];obtain⟨w1,hu⟩:=ver_eq hm hv j hj h2;have hl:=Gm hj;have hn:=hm.e _ hl;have hg:=hn.1;obtain⟨e1,e2,e3⟩:=chk_elem hc j hj hg;have hw:=gp_at N N.eqs[j] hg
 have ht:N.eqs[j].tgt=imgV N W N.eqs[j]:=by
  have h3:=imgs_at N W j hj;rw[hI,List.getD_eq_getElem?_getD,List.getElem?_map,List.getElem?_eq_getElem hj]at h3;exact h3
 generalize N.eqs[j]=q at *;rw[←hw]at e1 e2 e3;have hp:=grp_gt e1;have hd:0<(N.gp q).1:=by omega
 have he:=ptx_powc (p:=(N.gp q).1) W (N.expL c Y W) Y c q.trms (fun t hf=>by
  have hh:=(hn.2.2.2 t hf).2.1;have hb:=e3 t.base (List.mem_map.2 ⟨t,hf,rfl⟩);have hco:=has_coprime hp hb;obtain⟨k,hk⟩:=exp_sum (c:=c) hq ho hr t.var hh;rw[expL_at N c Y W _ hh,Nat.mul_mod,fx_powc hd hco,←Nat.mul_mod,fx_add hd hco];generalize expJ N c Y W t.var=m at hk ⊢;generalize W.getD t.var 0=z at hk ⊢;generalize Y.getD t.var 0=y at hk ⊢;have hs:t.coef*m+t.coef*z*(c:Int)=t.coef*(m+(c:Int)*z):=by rw[Int.mul_add,Int.mul_assoc,Int.mul_comm z]
  rw[hs,hk];by_cases h0:N.vars[t.var]=0
  ·rw[if_pos h0];have hi:=typ_base hc q hl hg t hf hh h0 hb;have h1:=fx_ord hd hco hi (t.coef*k);have h2:=mmod (p:=(N.gp q).1) (a:=fx (N.gp q).1 t.base (t.coef*y)) rfl h1;rw[Nat.mul_one,fx_add hd hco]at h2;rw[←h2];congr 2
   rw[Int.mul_add];congr 1
   rw[←Int.mul_assoc,←Int.mul_assoc,Int.mul_comm t.coef]
  ·rw[if_neg h0,Int.add_zero])
 have hx:=has_coprime hp e2
 have h5:F[j]*q.tgt^c%(N.gp q).1=ptx (N.gp q).1 (N.expL c Y W) q.trms*q.tgt^c%(N.gp q).1:=by
  rw[w1,←he]
  have h6:q.tgt^c%(N.gp q).1=ptx (N.gp q).1 W q.trms^c%(N.gp q).1:=by
   rw[ht,img_ptx,←Nat.pow_mod]
  exact (mmod rfl h6).symm
 have h7:=mcancel hd (Nat.Coprime.pow_left c hx) h5;rw[Nat.mod_eq_of_lt (has_lt hu)]at h7;rw[img_ptx];exact h7.symm
theorem expL_len (N:NSta) (c:Nat) (Y W:List Int):(N.expL c Y W).length=N.vars.length:=by simp[NSta.expL]
theorem expl_rsp {N:NSta} {C K c:Nat} {F:List Nat} {Y W:List Int} (hq:N.vars.any vz=true→0<N.ord) (hv:N.ver C K F c Y=0) (hH:N.hldB W=true):N.rspL c W (N.expL c Y W)=Y:=by
 obtain⟨f1,l1,he,hb⟩:=ver_inv hv;unfold NSta.hldB at hH;simp only[Bool.and_eq_true,decide_eq_true_iff]at hH;obtain⟨hW,hd,hI⟩:=hH;refine List.ext_getElem (by rw[l1];simp[NSta.rspL]) fun j h1 h2=>?_
 have hj:j<N.vars.length:=by rw[←l1];exact h2
 have e0:(N.rspL c W (N.expL c Y W))[j]=rspJ N c W (N.expL c Y W) j:=by simp[NSta.rspL]
 have hy:Y.getD j 0=Y[j]:=by rw[List.getD_eq_getElem?_getD,List.getElem?_eq_getElem h2,Option.getD_some]
 have hc:N.vars.getD j 0=N.vars[j]:=by rw[List.getD_eq_getElem?_getD,List.getElem?_eq_getElem hj,Option.getD_some]
 obtain⟨k,hk⟩:=exp_sum (c:=c) hq hb hd j hj;have h3:=ra_at hb hj;unfold blJ at h3;rw[e0,←hy];unfold rspJ rspI;rw[expL_at N c Y W _ hj,hk,hc];by_cases h0:N.vars[j]=0
 ·rw[if_pos h0,if_pos h0];rw[hc,h0]at h3;have hn:=nn_of h3;unfold blw lim at h3;rw[if_pos rfl]at h3;simp only[Bool.and_eq_true,decide_eq_true_eq]at h3;rw[Int.add_mul_emod_self_left];exact Int.emod_eq_of_lt hn (by omega)
 ·rw[if_neg h0,if_neg h0,Int.add_zero]
theorem expl_mk {N:NSta} {C K c:Nat} {F:List Nat} {Y W:List Int} (hq:N.vars.any vz=true→0<N.ord) (hv:N.ver C K F c Y=0) (hH:N.hldB W=true) (j:Nat) (hj:j<N.vars.length) :
  (expJ N c Y W j).natAbs<(lim N.ord C K N.vars[j]).1∧(N.vars[j]=0→0≤expJ N c Y W j):=by
 obtain⟨f1,l1,hf,hd⟩:=ver_inv hv;unfold NSta.hldB at hH;simp only[Bool.and_eq_true,decide_eq_true_iff]at hH;obtain⟨hW,he,hI⟩:=hH;have hc:N.vars.getD j 0=N.vars[j]:=by rw[List.getD_eq_getElem?_getD,List.getElem?_eq_getElem hj,Option.getD_some]
 have h1:=ra_at hd hj;have h2:=ra_at he hj;unfold blJ at h1;unfold inJ at h2;rw[hc]at h1 h2;unfold expJ expI;rw[hc];by_cases h0:N.vars[j]=0
 ·have hb:N.vars.any vz=true:=by rw[List.any_eq_true];exact⟨_,Gm hj,by simp[vz,h0]⟩
  rw[if_pos h0];refine⟨?_,fun _=>Int.natCast_nonneg _⟩;unfold lim;rw[if_pos h0,Int.natAbs_natCast];exact Nat.mod_lt _ (hq hb)
 ·rw[if_neg h0];refine⟨?_,fun h=>absurd h h0⟩;rw[if_neg h0]at h2;unfold blw at h1 h2;simp only[Bool.and_eq_true,decide_eq_true_eq]at h1 h2;unfold lim at h1 ⊢;rw[if_neg h0]at h1 ⊢;have h3:c*(W.getD j 0).natAbs≤(C-1)*(N.vars[j]-1):=Nat.mul_le_mul (by omega) (by omega);have h4:((c:Int)*W.getD j 0).natAbs=c*(W.getD j 0).natAbs:=by rw[Int.natAbs_mul,Int.natAbs_natCast]
  generalize (C-1)*(N.vars[j]-1)=u at *;generalize K*C*N.vars[j]=v at *;generalize (c:Int)*W.getD j 0=a at *;have h5:=h1.1;show (Y.getD j 0-a).natAbs<v;omega
def NSta.expT (N:NSta) (C K c:Nat) (Y W:List Int):Tp:=⟨(N.coinL C K (N.expL c Y W)).map E,⟨#[]⟩,0⟩
theorem coinL_at (N:NSta) (C K:Nat) (Z:List Int) (j:Nat) (h:j<N.vars.length):(N.coinL C K Z).getD j 0=coinN N.vars[j] (lim N.ord C K N.vars[j]).1 (Z.getD j 0):=by
 unfold NSta.coinL coinJ;rw[List.getD_eq_getElem?_getD,List.getElem?_map,List.getElem?_range h];simp only[Option.map_some,Option.getD_some];rw[List.getD_eq_getElem?_getD (l:=N.vars),List.getElem?_eq_getElem h,Option.getD_some]
theorem expl_drw {N:NSta} {C K c:Nat} {F:List Nat} {Y W:List Int} (att:Att) (hm:NOk N) (hC:C<256^16) (hK:K<256^16) (hq:N.vars.any vz=true→0<N.ord) (hv:N.ver C K F c Y=0) (hH:N.hldB W=true) :
  N.drwR att C K (N.expT C K c Y W)=⟨0,N.expL c Y W,(N.expT C K c Y W).on N.vars.length⟩:=by
 have hn:=hm.nv;have hk:(N.coinL C K (N.expL c Y W)).length=N.vars.length:=by simp[NSta.coinL]
 have ht:(N.expT C K c Y W).vals.length=N.vars.length:=by unfold NSta.expT;simp[hk]
 have hu:∀j (hj:j<N.vars.length),coinN N.vars[j] (lim N.ord C K N.vars[j]).1 (expJ N c Y W j)<256^64:=fun j hj=>by
  have h1:=(expl_mk hq hv hH j hj).1;have h2:=lims1_lt hm hC hK (Gm hj);have h9:256^60*2≤256^64:=by decide
  generalize (256:Nat)^60=a at *;generalize (256:Nat)^64=b at *;unfold coinN;split <;> omega
 have he:∀j,j<N.vars.length→((N.expT C K c Y W).on j).good=true:=fun j hj=>by
  unfold Tp.good;simp only[Bool.and_eq_true,decide_eq_true_eq,List.all_eq_true];refine⟨fun x hx=>?_,?_,?_⟩
  ·obtain⟨y,hy,rfl⟩:=List.mem_map.1 (show x∈(N.coinL C K (N.expL c Y W)).map E from hx);obtain⟨i,hi,rfl⟩:=List.mem_map.1 (show y∈(List.range N.vars.length).map (coinJ N C K (N.expL c Y W)) from hy);have hh:=List.mem_range.1 hi;have h1:=coinL_at N C K (N.expL c Y W) i hh;rw[expL_at N c Y W i hh]at h1
   have h2:(N.coinL C K (N.expL c Y W)).getD i 0=coinJ N C K (N.expL c Y W) i:=by
    unfold NSta.coinL;rw[List.getD_eq_getElem?_getD,List.getElem?_map,List.getElem?_range hh];rfl
   rw[←h2,h1];exact vldB_E _ (Nl (hu i hh) P8)
  ·show (0:Int)≤0+(j:Int);omega
  ·show 0+(j:Int)≤2147483647;omega
 have ho:∀j,j<N.vars.length→N.drw att C K (N.expT C K c Y W) j=(0,expJ N c Y W j):=fun j hj=>by
  rw[drw_at N att C K _ j hj];obtain⟨hl,hp⟩:=expl_mk hq hv hH j hj;have hc:((N.expT C K c Y W).on j).pos.toNat=j:=by show (0+(j:Int)).toNat=j;omega
  have hb:((N.expT C K c Y W).on j).vals.getD j ⟨#[]⟩=E (coinN N.vars[j] (lim N.ord C K N.vars[j]).1 (expJ N c Y W j)):=by
   show ((N.coinL C K (N.expL c Y W)).map E).getD j ⟨#[]⟩=_;have h1:=coinL_at N C K (N.expL c Y W) j hj;rw[expL_at N c Y W j hj]at h1;rw[←h1,List.getD_eq_getElem?_getD,List.getElem?_map,List.getElem?_eq_getElem (by rw[hk];exact hj),List.getD_eq_getElem?_getD,List.getElem?_eq_getElem (by rw[hk];exact hj)];rfl
  have hlt:((N.expT C K c Y W).on j).pos.toNat<((N.expT C K c Y W).on j).vals.length:=by
   rw[hc];show j<(N.expT C K c Y W).vals.length;rw[ht];exact hj
  have hg:=he j hj;unfold drwJ;generalize (N.expT C K c Y W).on j=T at hc hb hlt hg ⊢;generalize (lim N.ord C K N.vars[j]).1=m at hl hb ⊢;generalize expJ N c Y W j=z at hl hp hb ⊢
  have hd:∀n,coinN N.vars[j] m z<n→coinD att T n=(0,coinN N.vars[j] m z):=fun n h=>by
   unfold coinD;rw[if_pos hlt,hc,hb,numb_E,if_pos h]
  by_cases h0:N.vars[j]=0
  ·rw[if_pos h0];have hz:=hp h0;have hf:coinN N.vars[j] m z=z.natAbs:=by unfold coinN;rw[if_pos h0]
   have h1:=hd m (by rw[hf];exact hl);unfold coin;rw[if_neg (by rw[hg];decide),if_neg (by omega),h1,hf];simp only[Prod.mk.injEq,true_and];omega
  ·rw[if_neg h0];have hf:coinN N.vars[j] m z=(z+(m:Int)-1).natAbs:=by unfold coinN;rw[if_neg h0]
   have h1:=hd (2*m-1) (by rw[hf];omega);unfold csgn;have hr:T.rdy m=0:=by unfold Tp.rdy;rw[if_neg (by rw[hg];decide),if_neg (by omega)]
   rw[hr,if_neg (by decide),h1,if_pos rfl,hf];simp only[Prod.mk.injEq,true_and];omega
 rw[drw_ok (fun j hj=>by rw[ho j hj])];congr 1
 unfold NSta.drwL NSta.expL;exact List.map_congr_left fun j hj=>by rw[ho j (List.mem_range.1 hj)]
theorem expl_prv {N:NSta} {C K c:Nat} {F:List Nat} {Y W:List Int} (att:Att) (hm:NOk N) (hc:N.chk=0) (hC:C<256^16) (hK:K<256^16) (hq:N.vars.any vz=true→0<N.ord) (hv:N.ver C K F c Y=0) (hH:N.hldB W=true) :
  N.prvR att C K c W (N.expT C K c Y W)=⟨0,N.expL c Y W,(N.expT C K c Y W).on N.vars.length⟩∧N.fstR (N.prvR att C K c W (N.expT C K c Y W))=F∧N.rspO c W (N.prvR att C K c W (N.expT C K c Y W))=Y:=by
 obtain⟨f1,l1,he,hf⟩:=ver_inv hv;have hd:=expl_drw att hm hC hK hq hv hH;have hr:=expl_rsp hq hv hH;have hi:=expl_img hm hc hq hv hH;have hb:=hH;unfold NSta.hldB at hb;simp only[Bool.and_eq_true,decide_eq_true_iff]at hb;obtain⟨hW,hg,_⟩:=hb
 have h2:N.rsp2 C K c W (N.expL c Y W)=0:=by
  refine (rsp2_0 (ra_true fun j hj=>?_)).1;have h3:=ra_at hf hj;unfold blJ at h3;unfold rsJ
  have h4:rspJ N c W (N.expL c Y W) j=Y.getD j 0:=by
   rw[←hr]
   have:∀M:List Int,(N.rspL c W M).getD j 0=rspJ N c W M j:=fun M=>by
    unfold NSta.rspL;rw[List.getD_eq_getElem?_getD,List.getElem?_map,List.getElem?_range hj];rfl
   rw[this,hr]
  rw[h4];exact h3
 have hp:N.prvR att C K c W (N.expT C K c Y W)=⟨0,N.expL c Y W,(N.expT C K c Y W).on N.vars.length⟩:=by
  rw[prv_e hW he hg hH,show (64:Nat)=63+1 from rfl,prv_done (by rw[hd]) (by rw[hd];exact h2),hd]
 refine⟨hp,?_,?_⟩
 ·rw[hp];unfold NSta.fstR;rw[if_pos rfl];exact hi
 ·rw[hp];unfold NSta.rspO;rw[if_pos rfl];exact hr
end
section
/- simulator.Simulate. -/
open Go.RowKit Go.Shelf
end
section
open Go.RowKit Go.Shelf
end
end Go.Proofs.YtihjpddbjhcbmaaGreatDoor
