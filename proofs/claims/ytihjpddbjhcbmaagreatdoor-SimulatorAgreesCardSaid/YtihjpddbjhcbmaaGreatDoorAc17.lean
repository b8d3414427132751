/- Simulated proofs are accepted: both functions,and the law's walk. -/
import Derived.Test.YtihjpddbjhcbmaaGreatDoorSi3
import Derived.Test.YtihjpddbjhcbmaaGreatDoorAtt
import Derived.Test.YtihjpddbjhcbmaaGreatDoorArg7
import Derived.Test.YtihjpddbjhcbmaaGreatDoorAw7
set_option linter.unusedVariables false
set_option linter.unusedSimpArgs false
set_option maxRecDepth 100000
set_option maxHeartbeats 16000000
namespace Go.Proofs.YtihjpddbjhcbmaaGreatDoor
section
/- What Simulate returns is accepted;a proof is the proof of any witness,with the coins that explain it. Plain Lean. -/
open Go.RowKit Go.Shelf
theorem sub_mod_k (x y q:Nat) (hq:0<q):∃k:Int,((subM x y q:Nat):Int)+(y:Int)=(x:Int)+(q:Int)*k:=by
 have h1:=Nat.div_add_mod x q;have h2:=Nat.div_add_mod y q;have h3:=Nat.div_add_mod (x%q+q-y%q) q;have h4:=Nat.mod_lt y hq;unfold subM;refine⟨(y / q:Nat)-(x / q:Nat)+1-((x%q+q-y%q) / q:Nat),?_⟩;generalize x / q=a at *;generalize y / q=b at *;generalize x%q=r at *;generalize y%q=s at *;generalize (r+q-s) / q=c at *;generalize (r+q-s)%q=d at *;rw[Int.mul_sub,Int.mul_add,Int.mul_sub,Int.mul_one,←Int.natCast_mul,←Int.natCast_mul,←Int.natCast_mul];omega
theorem fx_one (p x:Nat) (n:Nat):fx p x (n:Int)=x^n:=by
 rw[fx_eq,Int.toNat_natCast,show (-(n:Int)).toNat=0 by omega,Nat.pow_zero,Nat.mul_one]
theorem msgs_at (N:NSta) (c:Nat) (Z:List Int) (j:Nat) (h:j<N.eqs.length):(N.msgs c Z).getD j 0=msgQ N c Z N.eqs[j]:=by
 unfold NSta.msgs;rw[List.getD_eq_getElem?_getD,List.getElem?_map,List.getElem?_eq_getElem h];rfl
theorem msg_fx (N:NSta) (c:Nat) (Z:List Int) (q:NEqn):msgQ N c Z q=fx (N.gp q).1 q.tgt (-(c:Int))*ptx (N.gp q).1 Z q.trms%(N.gp q).1:=by
 unfold msgQ ptx fx msgB msgX imgB imgX;simp[prs,pw]
theorem sim_ver {N:NSta} {C K c:Nat} {Z:List Int} (hm:NOk N) (hc:N.chk=0) (he:c<C) (hl:Z.length=N.vars.length) (hb:ra N.vars.length (blJ N C K Z)=true):N.ver C K (N.msgs c Z) c Z=0:=by
 refine ver_0 (by simp[NSta.msgs]) hl he hb (ra_true fun j hj=>?_) (ra_true fun j hj=>?_)
 ·unfold hsJ;rw[eq_at N j hj,msgs_at N c Z j hj];have hg:=(hm.e _ (Gm hj)).1;obtain⟨e1,e2,e3⟩:=chk_elem hc j hj hg;have hd:=gp_at N N.eqs[j] hg;rw[←hd]at e1 e2 e3;have hp:=grp_gt e1
  have h:=prodK_has (X:=msgX c Z N.eqs[j]) hp (msg_len c Z N.eqs[j]) (fun x hx=>by
   rcases List.mem_cons.1 hx with rfl | hx
   ·exact e2
   ·exact e3 x hx) (msgB N.eqs[j]).length (Nat.le_refl _)
  rwa [prodK_end (Nat.le_refl _) (by rw[msg_len];exact Nat.le_refl _)]at h
 ·unfold imJ;rw[eq_at N j hj,msgs_at N c Z j hj,decide_eq_true_iff,powI_nat,msg_fx,img_ptx];have hg:=(hm.e _ (Gm hj)).1;obtain⟨e1,e2,e3⟩:=chk_elem hc j hj hg;have hd:=gp_at N N.eqs[j] hg;rw[←hd]at e1 e2;have hp:=grp_gt e1;have hco:=has_coprime hp e2;generalize (N.gp N.eqs[j]).1=p at *;generalize ptx p Z N.eqs[j].trms=B;have h1:=fx_add (by omega) hco (-(c:Int)) (c:Int);rw[Int.add_left_neg,fx_one]at h1;have h0:fx p N.eqs[j].tgt 0=1:=rfl;rw[h0]at h1;have h2:=mmod (p:=p) (a:=B) (b:=B) rfl h1;rw[Nat.mul_one]at h2;rw[←Nat.mul_mod,←h2];congr 1
  simp only[Nat.mul_assoc,Nat.mul_left_comm,Nat.mul_comm]
theorem expL_at (N:NSta) (c:Nat) (Y W:List Int) (j:Nat) (h:j<N.vars.length):(N.expL c Y W).getD j 0=expJ N c Y W j:=by
 unfold NSta.expL;rw[List.getD_eq_getElem?_getD,List.getElem?_map,List.getElem?_range h];rfl
theorem nn_of {x:Int} {l:Nat} (h:blw 0 x l=true):0≤x:=by
 apply Classical.byContradiction
 intro hn;unfold blw at h;rw[sg_of_neg (by omega),show vz 0=true from rfl]at h;simp at h
theorem exp_mod {q c:Nat} {y z:Int} (hq:0<q) (hy:0≤y) (hz:0≤z):∃k:Int,((subM y.natAbs (c*z.natAbs%q) q:Nat):Int)+(c:Int)*z=y+(q:Int)*k:=by
 obtain⟨k,hk⟩:=sub_mod_k y.natAbs (c*z.natAbs%q) q hq;have h1:=Nat.div_add_mod (c*z.natAbs) q;refine⟨k+((c*z.natAbs / q:Nat):Int),?_⟩
 have h2:(c:Int)*z=((c*z.natAbs:Nat):Int):=by
  rw[Int.natCast_mul];congr 1
  omega
 rw[h2,Int.mul_add,←Int.natCast_mul];generalize c*z.natAbs / q=a at *;generalize c*z.natAbs%q=r at *;generalize c*z.natAbs=s at *;generalize q*a=t at *;generalize subM y.natAbs r q=u at *;generalize (q:Int)*k=v at *;omega
theorem exp_sum {N:NSta} {C K c:Nat} {Y W:List Int} (hq:N.vars.any vz=true→0<N.ord) (hY:ra N.vars.length (blJ N C K Y)=true) (hW:ra N.vars.length (inJ N W)=true) (j:Nat) (h:j<N.vars.length) :
  ∃k:Int,expJ N c Y W j+(c:Int)*W.getD j 0=Y.getD j 0+(if N.vars[j]=0 then (N.ord:Int)*k else 0):=by
 have hv:N.vars.getD j 0=N.vars[j]:=by rw[List.getD_eq_getElem?_getD,List.getElem?_eq_getElem h,Option.getD_some]
 have h1:=ra_at hY h;have h2:=ra_at hW h;unfold blJ at h1;unfold inJ at h2;unfold expJ expI;rw[hv]at *;by_cases h0:N.vars[j]=0
 ·rw[h0]at h1 h2;have hb:N.vars.any vz=true:=by rw[List.any_eq_true];exact⟨_,Gm h,by simp[vz,h0]⟩
  obtain⟨k,hk⟩:=exp_mod (c:=c) (hq hb) (nn_of h1) (nn_of h2);exact⟨k,by rw[if_pos h0,if_pos h0];exact hk⟩
 ·exact⟨0,by rw[if_neg h0,if_neg h0];omega⟩
theorem expl_img {N:NSta} {C K c:Nat} {F:List Nat} {Y W:List Int} (hm:NOk N) (hc:N.chk=0) (hq:N.vars.any vz=true→0<N.ord) (hv:N.ver C K F c Y=0) (hH:N.hldB W=true):N.imgs (N.expL c Y W)=F:=by
 obtain⟨f1,l1,hy,ho⟩:=ver_inv hv;unfold NSta.hldB at hH;simp only[Bool.and_eq_true,decide_eq_true_iff]at hH;obtain⟨hW,hr,hI⟩:=hH;refine List.ext_getElem (by rw[f1];simp[NSta.imgs]) fun j h1 h2=>?_
 have hj:j<N.eqs.length:=by rw[←f1];exact h2
 have e0:(N.imgs (N.expL c Y W))[j]=imgV N (N.expL c Y W) N.eqs[j]:=by simp[NSta.imgs]
 rw[e0];obtain⟨w1,hu⟩:=ver_eq hm hv j hj h2;have hl:=Gm hj;have hn:=hm.e _ hl;have hg:=hn.1;obtain⟨e1,e2,e3⟩:=chk_elem hc j hj hg;have hw:=gp_at N N.eqs[j] hg
 have ht:N.eqs[j].tgt=imgV N W N.eqs[j]:=by
  have h3:=imgs_at N W j hj;rw[hI,List.getD_eq_getElem?_getD,List.getElem?_map,List.getElem?_eq_getElem hj]at h3;exact h3
 generalize N.eqs[j]=q at *;rw[←hw]at e1 e2 e3;have hp:=grp_gt e1;have hd:0<(N.gp q).1:=by omega
 have he:=ptx_powc (p:=(N.gp q).1) W (N.expL c Y W) Y c q.trms (fun t hf=>by
  have hh:=(hn.2.2.2 t hf).2.1;have hb:=e3 t.base (List.mem_map.2 ⟨t,hf,rfl⟩);have hco:=has_coprime hp hb;obtain⟨k,hk⟩:=exp_sum (c:=c) hq ho hr t.var hh;rw[expL_at N c Y W _ hh,Nat.mul_mod,fx_powc hd hco,←Nat.mul_mod,fx_add hd hco];generalize expJ N c Y W t.var=m at hk ⊢;generalize W.getD t.var 0=z at hk ⊢;generalize Y.getD t.var 0=y at hk ⊢;have hs:t.coef*m+t.coef*z*(c:Int)=t.coef*(m+(c:Int)*z):=by rw[Int.mul_add,Int.mul_assoc,Int.mul_comm z]
  rw[hs,hk];by_cases h0:N.vars[t.var]=0
  ·rw[if_pos h0];have hi:=typ_base hc q hl hg t hf hh h0 hb;have h1:=fx_ord hd hco hi (t.coef*k);have h2:=mmod (p:=(N.gp q).1) (a:=fx (N.gp q).1 t.base (t.coef*y)) rfl h1;rw[Nat.mul_one,fx_add hd hco]at h2;rw[←h2];congr 2
   rw[Int.mul_add];congr 1
   rw[←Int.mul_assoc,←Int.mul_assoc,Int.mul_comm t.coef]
  ·rw[if_neg h0,Int.add_zero])
 have hx:=has_coprime hp e2
 have h5:F[j]*q.tgt^c%(N.gp q).1=ptx (N.gp q).1 (N.expL c Y W) q.trms*q.tgt^c%(N.gp q).1:=by
  rw[w1,←he]
  have h6:q.tgt^c%(N.gp q).1=ptx (N.gp q).1 W q.trms^c%(N.gp q).1:=by
   rw[ht,img_ptx,←Nat.pow_mod]
  exact (mmod rfl h6).symm
 have h7:=mcancel hd (Nat.Coprime.pow_left c hx) h5;rw[Nat.mod_eq_of_lt (has_lt hu)]at h7;rw[img_ptx];exact h7.symm
theorem expL_len (N:NSta) (c:Nat) (Y W:List Int):(N.expL c Y W).length=N.vars.length:=by simp[NSta.expL]
theorem expl_rsp {N:NSta} {C K c:Nat} {F:List Nat} {Y W:List Int} (hq:N.vars.any vz=true→0<N.ord) (hv:N.ver C K F c Y=0) (hH:N.hldB W=true):N.rspL c W (N.expL c Y W)=Y:=by
 obtain⟨f1,l1,he,hb⟩:=ver_inv hv;unfold NSta.hldB at hH;simp only[Bool.and_eq_true,decide_eq_true_iff]at hH;obtain⟨hW,hd,hI⟩:=hH;refine List.ext_getElem (by rw[l1];simp[NSta.rspL]) fun j h1 h2=>?_
 have hj:j<N.vars.length:=by rw[←l1];exact h2
 have e0:(N.rspL c W (N.expL c Y W))[j]=rspJ N c W (N.expL c Y W) j:=by simp[NSta.rspL]
 have hy:Y.getD j 0=Y[j]:=by rw[List.getD_eq_getElem?_getD,List.getElem?_eq_getElem h2,Option.getD_some]
 have hc:N.vars.getD j 0=N.vars[j]:=by rw[List.getD_eq_getElem?_getD,List.getElem?_eq_getElem hj,Option.getD_some]
 obtain⟨k,hk⟩:=exp_sum (c:=c) hq hb hd j hj;have h3:=ra_at hb hj;unfold blJ at h3;rw[e0,←hy];unfold rspJ rspI;rw[expL_at N c Y W _ hj,hk,hc];by_cases h0:N.vars[j]=0
 ·rw[if_pos h0,if_pos h0];rw[hc,h0]at h3;have hn:=nn_of h3;unfold blw lim at h3;rw[if_pos rfl]at h3;simp only[Bool.and_eq_true,decide_eq_true_eq]at h3;rw[Int.add_mul_emod_self_left];exact Int.emod_eq_of_lt hn (by omega)
 ·rw[if_neg h0,if_neg h0,Int.add_zero]
theorem expl_mk {N:NSta} {C K c:Nat} {F:List Nat} {Y W:List Int} (hq:N.vars.any vz=true→0<N.ord) (hv:N.ver C K F c Y=0) (hH:N.hldB W=true) (j:Nat) (hj:j<N.vars.length) :
  (expJ N c Y W j).natAbs<(lim N.ord C K N.vars[j]).1∧(N.vars[j]=0→0≤expJ N c Y W j):=by
 obtain⟨f1,l1,hf,hd⟩:=ver_inv hv;unfold NSta.hldB at hH;simp only[Bool.and_eq_true,decide_eq_true_iff]at hH;obtain⟨hW,he,hI⟩:=hH;have hc:N.vars.getD j 0=N.vars[j]:=by rw[List.getD_eq_getElem?_getD,List.getElem?_eq_getElem hj,Option.getD_some]
 have h1:=ra_at hd hj;have h2:=ra_at he hj;unfold blJ at h1;unfold inJ at h2;rw[hc]at h1 h2;unfold expJ expI;rw[hc];by_cases h0:N.vars[j]=0
 ·have hb:N.vars.any vz=true:=by rw[List.any_eq_true];exact⟨_,Gm hj,by simp[vz,h0]⟩
  rw[if_pos h0];refine⟨?_,fun _=>Int.natCast_nonneg _⟩;unfold lim;rw[if_pos h0,Int.natAbs_natCast];exact Nat.mod_lt _ (hq hb)
 ·rw[if_neg h0];refine⟨?_,fun h=>absurd h h0⟩;rw[if_neg h0]at h2;unfold blw at h1 h2;simp only[Bool.and_eq_true,decide_eq_true_eq]at h1 h2;unfold lim at h1 ⊢;rw[if_neg h0]at h1 ⊢;have h3:c*(W.getD j 0).natAbs≤(C-1)*(N.vars[j]-1):=Nat.mul_le_mul (by omega) (by omega);have h4:((c:Int)*W.getD j 0).natAbs=c*(W.getD j 0).natAbs:=by rw[Int.natAbs_mul,Int.natAbs_natCast]
  generalize (C-1)*(N.vars[j]-1)=u at *;generalize K*C*N.vars[j]=v at *;generalize (c:Int)*W.getD j 0=a at *;have h5:=h1.1;show (Y.getD j 0-a).natAbs<v;omega
def NSta.expT (N:NSta) (C K c:Nat) (Y W:List Int):Tp:=⟨(N.coinL C K (N.expL c Y W)).map E,⟨#[]⟩,0⟩
theorem coinL_at (N:NSta) (C K:Nat) (Z:List Int) (j:Nat) (h:j<N.vars.length):(N.coinL C K Z).getD j 0=coinN N.vars[j] (lim N.ord C K N.vars[j]).1 (Z.getD j 0):=by
 unfold NSta.coinL coinJ;rw[List.getD_eq_getElem?_getD,List.getElem?_map,List.getElem?_range h];simp only[Option.map_some,Option.getD_some];rw[List.getD_eq_getElem?_getD (l:=N.vars),List.getElem?_eq_getElem h,Option.getD_some]
theorem expl_drw {N:NSta} {C K c:Nat} {F:List Nat} {Y W:List Int} (att:Att) (hm:NOk N) (hC:C<256^16) (hK:K<256^16) (hq:N.vars.any vz=true→0<N.ord) (hv:N.ver C K F c Y=0) (hH:N.hldB W=true) :
  N.drwR att C K (N.expT C K c Y W)=⟨0,N.expL c Y W,(N.expT C K c Y W).on N.vars.length⟩:=by
 have hn:=hm.nv;have hk:(N.coinL C K (N.expL c Y W)).length=N.vars.length:=by simp[NSta.coinL]
 have ht:(N.expT C K c Y W).vals.length=N.vars.length:=by unfold NSta.expT;simp[hk]
 have hu:∀j (hj:j<N.vars.length),coinN N.vars[j] (lim N.ord C K N.vars[j]).1 (expJ N c Y W j)<256^64:=fun j hj=>by
  have h1:=(expl_mk hq hv hH j hj).1;have h2:=lims1_lt hm hC hK (Gm hj);have h9:256^60*2≤256^64:=by decide
  generalize (256:Nat)^60=a at *;generalize (256:Nat)^64=b at *;unfold coinN;split <;> omega
 have he:∀j,j<N.vars.length→((N.expT C K c Y W).on j).good=true:=fun j hj=>by
  unfold Tp.good;simp only[Bool.and_eq_true,decide_eq_true_eq,List.all_eq_true];refine⟨fun x hx=>?_,?_,?_⟩
  ·obtain⟨y,hy,rfl⟩:=List.mem_map.1 (show x∈(N.coinL C K (N.expL c Y W)).map E from hx);obtain⟨i,hi,rfl⟩:=List.mem_map.1 (show y∈(List.range N.vars.length).map (coinJ N C K (N.expL c Y W)) from hy);have hh:=List.mem_range.1 hi;have h1:=coinL_at N C K (N.expL c Y W) i hh;rw[expL_at N c Y W i hh]at h1
   have h2:(N.coinL C K (N.expL c Y W)).getD i 0=coinJ N C K (N.expL c Y W) i:=by
    unfold NSta.coinL;rw[List.getD_eq_getElem?_getD,List.getElem?_map,List.getElem?_range hh];rfl
   rw[←h2,h1];exact vldB_E _ (Nl (hu i hh) P8)
  ·show (0:Int)≤0+(j:Int);omega
  ·show 0+(j:Int)≤2147483647;omega
 have ho:∀j,j<N.vars.length→N.drw att C K (N.expT C K c Y W) j=(0,expJ N c Y W j):=fun j hj=>by
  rw[drw_at N att C K _ j hj];obtain⟨hl,hp⟩:=expl_mk hq hv hH j hj;have hc:((N.expT C K c Y W).on j).pos.toNat=j:=by show (0+(j:Int)).toNat=j;omega
  have hb:((N.expT C K c Y W).on j).vals.getD j ⟨#[]⟩=E (coinN N.vars[j] (lim N.ord C K N.vars[j]).1 (expJ N c Y W j)):=by
   show ((N.coinL C K (N.expL c Y W)).map E).getD j ⟨#[]⟩=_;have h1:=coinL_at N C K (N.expL c Y W) j hj;rw[expL_at N c Y W j hj]at h1;rw[←h1,List.getD_eq_getElem?_getD,List.getElem?_map,List.getElem?_eq_getElem (by rw[hk];exact hj),List.getD_eq_getElem?_getD,List.getElem?_eq_getElem (by rw[hk];exact hj)];rfl
  have hlt:((N.expT C K c Y W).on j).pos.toNat<((N.expT C K c Y W).on j).vals.length:=by
   rw[hc];show j<(N.expT C K c Y W).vals.length;rw[ht];exact hj
  have hg:=he j hj;unfold drwJ;generalize (N.expT C K c Y W).on j=T at hc hb hlt hg ⊢;generalize (lim N.ord C K N.vars[j]).1=m at hl hb ⊢;generalize expJ N c Y W j=z at hl hp hb ⊢
  have hd:∀n,coinN N.vars[j] m z<n→coinD att T n=(0,coinN N.vars[j] m z):=fun n h=>by
   unfold coinD;rw[if_pos hlt,hc,hb,numb_E,if_pos h]
  by_cases h0:N.vars[j]=0
  ·rw[if_pos h0];have hz:=hp h0;have hf:coinN N.vars[j] m z=z.natAbs:=by unfold coinN;rw[if_pos h0]
   have h1:=hd m (by rw[hf];exact hl);unfold coin;rw[if_neg (by rw[hg];decide),if_neg (by omega),h1,hf];simp only[Prod.mk.injEq,true_and];omega
  ·rw[if_neg h0];have hf:coinN N.vars[j] m z=(z+(m:Int)-1).natAbs:=by unfold coinN;rw[if_neg h0]
   have h1:=hd (2*m-1) (by rw[hf];omega);unfold csgn;have hr:T.rdy m=0:=by unfold Tp.rdy;rw[if_neg (by rw[hg];decide),if_neg (by omega)]
   rw[hr,if_neg (by decide),h1,if_pos rfl,hf];simp only[Prod.mk.injEq,true_and];omega
 rw[drw_ok (fun j hj=>by rw[ho j hj])];congr 1
 unfold NSta.drwL NSta.expL;exact List.map_congr_left fun j hj=>by rw[ho j (List.mem_range.1 hj)]
theorem expl_prv {N:NSta} {C K c:Nat} {F:List Nat} {Y W:List Int} (att:Att) (hm:NOk N) (hc:N.chk=0) (hC:C<256^16) (hK:K<256^16) (hq:N.vars.any vz=true→0<N.ord) (hv:N.ver C K F c Y=0) (hH:N.hldB W=true) :
  N.prvR att C K c W (N.expT C K c Y W)=⟨0,N.expL c Y W,(N.expT C K c Y W).on N.vars.length⟩∧N.fstR (N.prvR att C K c W (N.expT C K c Y W))=F∧N.rspO c W (N.prvR att C K c W (N.expT C K c Y W))=Y:=by
 obtain⟨f1,l1,he,hf⟩:=ver_inv hv;have hd:=expl_drw att hm hC hK hq hv hH;have hr:=expl_rsp hq hv hH;have hi:=expl_img hm hc hq hv hH;have hb:=hH;unfold NSta.hldB at hb;simp only[Bool.and_eq_true,decide_eq_true_iff]at hb;obtain⟨hW,hg,_⟩:=hb
 have h2:N.rsp2 C K c W (N.expL c Y W)=0:=by
  refine (rsp2_0 (ra_true fun j hj=>?_)).1;have h3:=ra_at hf hj;unfold blJ at h3;unfold rsJ
  have h4:rspJ N c W (N.expL c Y W) j=Y.getD j 0:=by
   rw[←hr]
   have:∀M:List Int,(N.rspL c W M).getD j 0=rspJ N c W M j:=fun M=>by
    unfold NSta.rspL;rw[List.getD_eq_getElem?_getD,List.getElem?_map,List.getElem?_range hj];rfl
   rw[this,hr]
  rw[h4];exact h3
 have hp:N.prvR att C K c W (N.expT C K c Y W)=⟨0,N.expL c Y W,(N.expT C K c Y W).on N.vars.length⟩:=by
  rw[prv_e hW he hg hH,show (64:Nat)=63+1 from rfl,prv_done (by rw[hd]) (by rw[hd];exact h2),hd]
 refine⟨hp,?_,?_⟩
 ·rw[hp];unfold NSta.fstR;rw[if_pos rfl];exact hi
 ·rw[hp];unfold NSta.rspO;rw[if_pos rfl];exact hr
end
section
/- simulator.Simulate. -/
open Go.RowKit Go.Shelf
theorem smp_size {N:NSta} (hm:NOk N) {att:Att} {C K:Nat} {T:Tp} (hC:C<256^16) (hK:K<256^16) (h:∀j,j<N.vars.length→(N.smp att C K T j).1=0):∀z∈N.smpL att C K T,z.natAbs<256^64:=by
 intro z hz;obtain⟨j,hj,rfl⟩:=List.mem_map.1 hz;have hb:=List.mem_range.1 hj;have h1:=h j hb;rw[smp_at N att C K T j hb]at h1 ⊢;have hl:=lims2_lt hm hC hK (Gm hb);unfold smpJ at *;split at h1
 ·rename_i h2;rw[if_pos h2];have h3:=coin_lt h1;simp only[Int.natAbs_natCast];exact Nat.lt_trans h3 (Nl hl P8)
 ·rename_i h2;rw[if_neg h2];exact csgn_lt hl h1
theorem smp_errR {N:NSta} {att:Att} {C K:Nat} {T:Tp} (h:(N.smpR att C K T).err≠0):N.smpR att C K T=⟨(N.smpR att C K T).err,[],Tp.nil⟩:=by
 unfold NSta.smpR at *;split
 ·rfl
 ·rename_i hn;rw[hn]at h;exact absurd rfl h
def NSta.simR (N:NSta) (att:Att) (C K c:Nat) (T:Tp):Drw:=if C≤c then ⟨2,[],Tp.nil⟩ else N.smpR att C K T
def NSta.simF (N:NSta) (c:Nat) (R:Drw):List Nat:=if R.err=0 then N.msgs c R.msk else []
theorem ssim_err (C K ch sd:ByteArray) (v1 v2 v3 vt:Value) (ti:Int) (k:Nat) (w:World) (hk:k≠0)
  (hy:∀w',Bw w w'→Calls Tryz.prog 33 #[.agg #[.string C,.string K],.agg #[v1,v2,v3]] w' fun e w''=>e=.returned (.tuple #[.slice none 0 0,.slice none 0 0,.int .i64 k])∧Bw w' w'') :
  Calls Tryz.prog 24 #[.agg #[.string C,.string K],.agg #[v1,v2,v3],.string ch,.agg #[vt,.string sd,.int .i64 ti]] w (PPost w ch ⟨k,[],Tp.nil⟩ [] []):=by
 have hz:=Kh hy;have HK:=Kh hk;have hL:((k:Int) != 0)=true:=by rw[bne_iff_ne];omega
 obtain⟨hR,hP,hT,hF,hQ,hc⟩:=blk5 w #[.string C,.string K] #[v1,v2,v3] #[vt,.string sd,.int .i64 ti] #[.slice none 0 0,.string ⟨#[]⟩,.slice none 0 0] #[.slice none 0 0,.string ⟨#[]⟩,.int .i64 0] 24 29 33 40 33;have he:Hid (w.heap.size≤w.heap.size+1+1+1):=by rw[Hid];omega
 have hf:Hid (w.heap.size≤w.heap.size+1+1+1+1):=by rw[Hid];omega
 have hA:¬ w.heap.size+1+1+1=w.heap.size+1+1+1+1:=by omega
 have hB:¬ w.heap.size+1+1+1+1=w.heap.size+1+1+1:=by omega
 clear hy hk;obtain⟨hg,hh,hi,hj⟩:=hR.x2;obtain⟨hl,hm,hn,ho,hp,hq⟩:=hP.x3;go_enter Tryz.func24,Tryz.ntmps24
 go_wp2_with fail
 refine (hz.out _ hc).mono ?_;rintro e w2 ⟨rfl,hb⟩;clear hg hh hi hj;clear hl hm hn ho hp hq;clear hR hP hT;have hd:=b1 w2 (.cells #[.slice none 0 0] 31);go_upto_region 3 with fail
 replace hF:=(hF.after hb).after hd;replace hQ:=(hQ.after hb).after hd;replace hc:=bt (bt hc hb) hd;generalize w2.alloc (.cells #[.slice none 0 0] 31)=w3 at hF hQ hc ⊢;clear hb hd;have hC:=hF.lt;have hD:=hQ.lt;obtain⟨hr,hE,ht,hG,hu,hH⟩:=hF.x3;obtain⟨hv,hI,hw,hJ,hx,hK⟩:=hQ.x3;go_wp2;(try rw[Exit.noGoto_ret])
 refine bodyPost_ret (v:=.tuple #[.agg #[.slice none 0 0,.string ⟨#[]⟩,.slice none 0 0],.agg #[.slice none 0 0,.string ⟨#[]⟩,.int .i64 0],.int .i64 (k:Int)]) ?_ rfl ?_
 ·simp[results,Tryz.results24,go_sem,hr,ht,hu,hv,hw,hx,hC,hD,hA,hB]
 ·exact ppost_err HK.out rfl rfl (((((((hc.setCell he.out _).setCell he.out _).setCell he.out _).setCell hf.out _).setCell hf.out _).setCell hf.out _))
theorem ssim_form (C K ch:ByteArray) (T:Tp) (L:List (Nat × Nat)) (v1 v2 v3 vt:Value) (w:World) (hZ:ch.size≤1000) (hN:T.Ok) (hV:SsAt w vt T.vals) (hb:(vldB ch&&T.good)=false)
  (hO:∀w',Bw w w'→Calls Tryz.prog 33 #[.agg #[.string C,.string K],.agg #[v1,v2,v3]] w' (B2Post w' L)) :
  Calls Tryz.prog 24 #[.agg #[.string C,.string K],.agg #[v1,v2,v3],.string ch,.agg #[vt,.string T.seed,.int .i64 T.pos]] w (PPost w ch ⟨3,[],Tp.nil⟩ [] []):=by
 have h0:=Kh hO;have hS:Hid (∀w,Calls Tryz.prog 79 #[.string ch] w fun e w'=>e=.returned (.bool (vldB ch))∧w=w'):=fun w=>valid_c ch w (by omega)
 have hm:Hid (∀w',Bw w w'→Calls Tryz.prog 95 #[.agg #[vt,.string T.seed,.int .i64 T.pos]] w' fun e w''=>e=.returned (.bool T.good)∧Bw w' w''):=fun w' hb=>stape_c T vt w' hN (SsAt.after hV hb)
 generalize T.good=tg at hb hm;generalize vldB ch=b3 at hb hS;have HB:=Kh hb;obtain⟨a5,c5,rfl⟩:=RAt.form hV;generalize T.vals.length=nt at hm ⊢;obtain⟨hR,hP,hT,hF,hQ,hc⟩:=blk5 w #[.string C,.string K] #[v1,v2,v3] #[.slice a5 nt c5,.string T.seed,.int .i64 T.pos] #[.slice none 0 0,.string ⟨#[]⟩,.slice none 0 0] #[.slice none 0 0,.string ⟨#[]⟩,.int .i64 0] 24 29 33 40 33;have hj:Hid (w.heap.size≤w.heap.size+1+1+1):=by rw[Hid];omega
 have hk:Hid (w.heap.size≤w.heap.size+1+1+1+1):=by rw[Hid];omega
 have hU:¬ w.heap.size+1+1+1=w.heap.size+1+1+1+1:=by omega
 have hW:¬ w.heap.size+1+1+1+1=w.heap.size+1+1+1:=by omega
 clear hO hZ hN hV hb;obtain⟨hn,ho,hp,hq⟩:=hR.x2;obtain⟨hr,ht,hu,hv,hw,hx⟩:=hP.x3;go_enter Tryz.func24,Tryz.ntmps24
 go_wp2_with fail
 refine (h0.out _ hc).mono ?_;rintro e w2 ⟨mv,uv,rfl,h1,hX,hb⟩;clear hn ho hp hq;clear hr ht hu hv hw hx;have hY:=hX.ss;clear h1 hX hR hP;obtain⟨a6,c6,rfl⟩:=RAt.form hY;clear hY;generalize ((L.map (·.2)).map E).length=n6;have hl:=b1 w2 (.cells #[.slice a6 n6 c6] 31);go_upto_region 4 with fail
 replace hF:=(hF.after hb).after hl;replace hQ:=(hQ.after hb).after hl;replace hT:=(hT.after hb).after hl;replace hc:=bt (bt hc hb) hl;generalize w2.alloc (.cells #[.slice a6 n6 c6] 31)=w3 at hF hQ hT hc ⊢;clear hb hl;go_wp2_with fail
 refine (hS.out _).mono ?_;rintro e w' ⟨rfl,rfl⟩;cases b3
 ·clear hT;have hy:=hF.lt;have hz:=hQ.lt;obtain⟨hd,hA,he,hB,hf,hC⟩:=hF.x3;obtain⟨hg,hD,hh,hE,hi,hG⟩:=hQ.x3;go_wp2;(try rw[Exit.noGoto_ret])
  refine bodyPost_ret (v:=.tuple #[.agg #[.slice none 0 0,.string ⟨#[]⟩,.slice none 0 0],.agg #[.slice none 0 0,.string ⟨#[]⟩,.int .i64 0],.int .i64 3]) ?_ rfl ?_
  ·simp[results,Tryz.results24,go_sem,hd,he,hf,hg,hh,hi,hy,hz,hU,hW]
  ·exact ppost_err (by decide) rfl rfl (((((((hc.setCell hj.out _).setCell hj.out _).setCell hj.out _).setCell hk.out _).setCell hk.out _).setCell hk.out _))
 ·have h2:Hid (tg=false):=HB.out;rw[h2.out]at hm;obtain⟨hH,hI,hJ,hK,hL,hM⟩:=hT.x3;go_wp2_with fail
  refine (hm.out _ hc).mono ?_;rintro e w4 ⟨rfl,hb4⟩;clear hH hI hJ hK hL hM;replace hF:=hF.after hb4;replace hQ:=hQ.after hb4;replace hc:=bt hc hb4;clear hb4 hT;have hy:=hF.lt;have hz:=hQ.lt;obtain⟨hd,hA,he,hB,hf,hC⟩:=hF.x3;obtain⟨hg,hD,hh,hE,hi,hG⟩:=hQ.x3;go_wp2;(try rw[Exit.noGoto_ret])
  refine bodyPost_ret (v:=.tuple #[.agg #[.slice none 0 0,.string ⟨#[]⟩,.slice none 0 0],.agg #[.slice none 0 0,.string ⟨#[]⟩,.int .i64 0],.int .i64 3]) ?_ rfl ?_
  ·simp[results,Tryz.results24,go_sem,hd,he,hf,hg,hh,hi,hy,hz,hU,hW]
  ·exact ppost_err (by decide) rfl rfl (((((((hc.setCell hj.out _).setCell hj.out _).setCell hj.out _).setCell hk.out _).setCell hk.out _).setCell hk.out _))
theorem ssim_num (att:Att) (N:NSta) (C K c:Nat) (T:Tp) (v1 v2 v3 vt:Value) (w:World) (H9:HAtt att T.seed w) (Ht:T.Ok) (hg:T.good=true) (hC:C<256^16) (hK:K<256^16) (hm:NOk N) (hS:NAt w v1 v2 v3 N) (h0:N.chk=0) (hV:SsAt w vt T.vals) (hc:c<256^100)
  (ja:∀w',Bw w w'→Calls Tryz.prog 33 #[.agg #[.string (E C),.string (E K)],.agg #[v1,v2,v3]] w' (B2Post w' (N.lims C K))) :
  Calls Tryz.prog 24 #[.agg #[.string (E C),.string (E K)],.agg #[v1,v2,v3],.string (E c),.agg #[vt,.string T.seed,.int .i64 T.pos]] w (PPost w (E c) (N.simR att C K c T) (N.simF c (N.simR att C K c T)) (N.simR att C K c T).msk):=by
 have hZ:=Kh ja;have hq:c<256^128:=Nl hc P8;have jb:Hid (∀w,Calls Tryz.prog 79 #[.string (E c)] w fun e w'=>e=.returned (.bool true)∧w=w'):=fun w=>validE_c c w hq
 have Hu:Hid (∀w',Bw w w'→Calls Tryz.prog 95 #[.agg #[vt,.string T.seed,.int .i64 T.pos]] w' fun e w''=>e=.returned (.bool true)∧Bw w' w''):=fun w' hb=>by
  have h:=stape_c T vt w' Ht (SsAt.after hV hb);rwa [hg]at h
 have Hv:Hid (∀w,Calls Tryz.prog 34 #[.string (E c),.string (E C)] w fun e w'=>e=.returned (.int .i64 (cmpN c C))∧w=w'):=fun w=>cmp_c c C w hq (Nl hC P8)
 have hv:Hid (∀(gS gB:Nat) (vu:Value) w',Bw w w'→Blk w' gS 29 [v1,v2,v3]→Blk w' gB 31 [vu]→SsAt w' vu (((N.lims C K).map (·.2)).map E)→Calls Tryz.prog 96 #[.agg #[v1,v2,v3],.agg #[vt,.string T.seed,.int .i64 T.pos],.func (.func 97) #[] #[.pointer (some ⟨gS,0,none⟩),.pointer (some ⟨gB,0,none⟩)]] w' (DWPost w' vt (N.smpR att C K T))):=fun gS gB vu w' hb h1 h2 h3 =>
  sdrawn_c att N C K gS gB T v1 v2 v3 vu vt w' (H9.after hb) Ht hC hK hm (hS.after hb) h1 h2 h3 (SsAt.after hV hb)
 have hw:Hid ((N.smpR att C K T).err=0→∀(vz:Value) w',Bw w w'→ZsAt w' vz (N.smpR att C K T).msk→Calls Tryz.prog 101 #[.agg #[v1,v2,v3],.string (E c),vz] w' fun e w''=>∃v,e=.returned v∧NOwn w'' w'.heap.size v (N.msgs c (N.smpR att C K T).msk)∧Bw w' w''):=fun he vz w' hb hz=>by
  obtain⟨e1,ha⟩:=smp_inv he;have hl:(N.smpL att C K T).length=N.vars.length:=by simp[NSta.smpL]
  rw[e1]at hz ⊢;exact messages_c N c _ v1 v2 v3 vz w' hm (hS.after hb) hz (smp_size hm hC hK ha) hl h0 hq
 have Hi:=Kh (smp_errR (N:=N) (att:=att) (C:=C) (K:=K) (T:=T));have Hw:Hid (C≤c→N.simR att C K c T=⟨2,[],Tp.nil⟩):=fun h=>by unfold NSta.simR;rw[if_pos h]
 have Hj:Hid (¬ C≤c→N.simR att C K c T=N.smpR att C K T):=fun h=>by unfold NSta.simR;rw[if_neg h]
 generalize N.simR att C K c T=R0 at Hw Hj ⊢;generalize N.smpR att C K T=RS at hv hw Hi Hj;obtain⟨a5,c5,rfl⟩:=RAt.form hV;generalize T.vals.length=nt at Hu hv hV ⊢;obtain⟨a1,c1,a2,c2,a3,c3,rfl,rfl,rfl⟩:=hS.forms;obtain⟨n2,Hx⟩:∃n,n=N.vars.length:=⟨_,rfl⟩;have jI:Hid ((((N.lims C K).map (·.2)).map E).length=n2):=by rw[Hid,List.length_map,List.length_map,NSta.lims,List.length_map,Hx]
 rw[←Hx]at hZ hv hw ⊢;generalize N.grps.length=n1 at hZ hv hw ⊢;generalize N.eqs.length=n3 at hZ hv hw ⊢;obtain⟨q1,hx⟩:∃q:Int,q=cmpN c C:=⟨_,rfl⟩;rw[←hx]at Hv;have Hy:=Kh hx;obtain⟨hR,hP,hT,hF,hQ,hf⟩:=blk5 w #[.string (E C),.string (E K)] #[.slice a1 n1 c1,.slice a2 n2 c2,.slice a3 n3 c3] #[.slice a5 nt c5,.string T.seed,.int .i64 T.pos] #[.slice none 0 0,.string ⟨#[]⟩,.slice none 0 0] #[.slice none 0 0,.string ⟨#[]⟩,.int .i64 0] 24 29 33 40 33;obtain⟨gS,jc⟩:∃g,w.heap.size+1=g:=⟨_,rfl⟩;obtain⟨gT,jd⟩:∃g,w.heap.size+1+1=g:=⟨_,rfl⟩;obtain⟨gF,je⟩:∃g,w.heap.size+1+1+1=g:=⟨_,rfl⟩;obtain⟨gQ,jf⟩:∃g,w.heap.size+1+1+1+1=g:=⟨_,rfl⟩;have Hz:=Kh jc;have HA:=Kh jd;have HB:=Kh je;have HC:=Kh jf;have hd:Hid (w.heap.size≤gT∧w.heap.size≤gF∧w.heap.size≤gQ∧gS≠gT∧gF≠gT∧gQ≠gT∧gF≠gQ):=by rw[Hid];omega
 have Hk:Hid (FarS (.slice a5 nt c5) gT∧FarS (.slice a5 nt c5) gF∧FarS (.slice a5 nt c5) gQ):=⟨ss_far hV (by omega),ss_far hV (by omega),ss_far hV (by omega)⟩;clear jc jd je jf hx Hx hS hV ja H9 Ht hg hC hK hm h0 hc hq;obtain⟨hy,hA,hB,hD⟩:=hR.x2;obtain⟨hE,hG,hH,hI,hJ,hL⟩:=hP.x3;go_enter Tryz.func24,Tryz.ntmps24
 go_wp2_with fail
 refine (hZ.out _ hf).mono ?_;rintro e w2 ⟨mv,uv,rfl,hM,jg,hO⟩;clear hy hA hB hD;clear hE hG hH hI hJ hL;have hp:=jg.ss;clear hM jg;obtain⟨a6,c6,rfl⟩:=RAt.form hp;rw[jI.out]at hp ⊢;replace hR:=hR.after hO;replace hP:=hP.after hO;replace hT:=hT.after hO;replace hF:=hF.after hO;replace hQ:=hQ.after hO;replace hf:=bt hf hO;clear hO hZ;rw[HC.out]at hQ;rw[HB.out]at hF;rw[HA.out]at hT;rw[Hz.out]at hP;rw[HC.out,HB.out,HA.out,Hz.out];clear Hz HA HB HC;replace hR:Blk w2 w.heap.size 24 [.string (E C),.string (E K)]:=hR;replace hP:Blk w2 gS 29 [.slice a1 n1 c1,.slice a2 n2 c2,.slice a3 n3 c3]:=hP;replace hT:Blk w2 gT 33 [.slice a5 nt c5,.string T.seed,.int .i64 T.pos]:=hT;replace hF:Blk w2 gF 40 [.slice none 0 0,.string ⟨#[]⟩,.slice none 0 0]:=hF;replace hQ:Blk w2 gQ 33 [.slice none 0 0,.string ⟨#[]⟩,.int .i64 0]:=hQ;have Hl:¬ gF=gQ:=hd.out.2.2.2.2.2.2;have HD:¬ gQ=gF:=fun e=>Hl e.symm
 obtain⟨hN,hu⟩:=blk1 w2 #[.slice a6 n2 c6] 31;go_upto_region 4 with fail
 replace hR:=hR.after hu;replace hP:=hP.after hu;replace hT:=hT.after hu;replace hF:=hF.after hu;replace hQ:=hQ.after hu;replace hp:=SsAt.after hp hu;replace hf:=bt hf hu;generalize w2.alloc (.cells #[.slice a6 n2 c6] 31)=w3 at hR hP hT hF hQ hp hf hN ⊢;clear hu;obtain⟨gN,jh⟩:∃g,w2.heap.size=g:=⟨_,rfl⟩;rw[jh]at hN ⊢;clear jh;replace hN:Blk w3 gN 31 [.slice a6 n2 c6]:=hN;go_wp2_with fail
 refine (jb.out _).mono ?_;rintro e w' ⟨rfl,rfl⟩;obtain⟨hh,hi,hj,hk,hn,ho⟩:=hT.x3;go_wp2_with fail
 refine (Hu.out _ hf).mono ?_;rintro e w4 ⟨rfl,hb4⟩;clear hh hi hj hk hn ho;replace hR:=hR.after hb4;replace hP:=hP.after hb4;replace hT:=hT.after hb4;replace hF:=hF.after hb4;replace hQ:=hQ.after hb4;replace hN:=hN.after hb4;replace hp:=SsAt.after hp hb4;replace hf:=bt hf hb4;clear hb4 jb Hu;obtain⟨hy,hA,hB,hD⟩:=hR.x2;go_wp2_with fail
 refine (Hv.out _).mono ?_;rintro e w' ⟨rfl,rfl⟩;clear hy hA hB hD;clear Hv hR;by_cases h5:C≤c
 ·have jJ:decide (0≤q1)=true:=Dt (by rw[Hy.out];have:=cmp_nneg c C h5;omega);have HX:=Kh (Hw.out h5);clear h5 hP hT hN hp;have HE:=hF.lt;have HF:=hQ.lt;obtain⟨HG,HH,HI,HJ,HK,HL⟩:=hF.x3;obtain⟨HM,HN,HO,HP,HQ,HS⟩:=hQ.x3;go_wp2;(try rw[Exit.noGoto_ret])
  refine bodyPost_ret (v:=.tuple #[.agg #[.slice none 0 0,.string ⟨#[]⟩,.slice none 0 0],.agg #[.slice none 0 0,.string ⟨#[]⟩,.int .i64 0],.int .i64 2]) ?_ rfl ?_
  ·simp[results,Tryz.results24,go_sem,HG,HI,HK,HM,HO,HQ,HE,HF,Hl,HD]
  ·rw[HX.out];exact ppost_err (by decide) (if_neg (by decide)) rfl ((((((hf.setCell hd.out.2.1 _).setCell hd.out.2.1 _).setCell hd.out.2.1 _).setCell hd.out.2.2.1 _).setCell hd.out.2.2.1 _).setCell hd.out.2.2.1 _)
 ·have jJ:decide (0≤q1)=false:=decide_eq_false (by rw[Hy.out];have:=cmp_neg c C (by omega);omega);obtain rfl:RS=R0:=(Hj.out h5).symm;clear h5 Hw Hj Hy;have ji:=Kh (hv.out gS gN _ w4 hf hP hN hp);have HT:=hf.size;clear hv;have jj:=hP.lt;have jK:=hN.lt;obtain⟨hE,hG,hH,hI,hJ,hL⟩:=hP.x3;obtain⟨hh,hi,hj,hk,hn,ho⟩:=hT.x3;go_wp2_with fail
  refine (ji.out).mono ?_;rintro e w5 ⟨lv,u,rfl,HU,Hm,h6,hX⟩;clear hE hG hH hI hJ hL;clear hh hi hj hk hn ho;obtain⟨xo,xc,rfl⟩:=RAt.form Hm;obtain⟨xm,jk⟩:∃m,m=RS.tp.vals.length:=⟨_,rfl⟩;rw[←jk]at Hm h6 ⊢;clear jk;have hr:Hid (FarS (.slice xo xm xc) gT∧FarS (.slice xo xm xc) gF∧FarS (.slice xo xm xc) gQ):=⟨h6 gT hT.lt Hk.out.1,h6 gF hF.lt Hk.out.2.1,h6 gQ hQ.lt Hk.out.2.2⟩
  have ht:Hid (lv.ownBlock≠some gT∧lv.ownBlock≠some gF∧lv.ownBlock≠some gQ):=by
   have h1:=hT.lt;have h2:=hF.lt;have h3:=hQ.lt;refine⟨fun e=>?_,fun e=>?_,fun e=>?_⟩ <;> have h4:=(own_lt HU e).2 <;> omega
  replace hP:=hP.after hX;replace hT:=hT.after hX;replace hF:=hF.after hX;replace hQ:=hQ.after hX;replace hf:=bt hf hX;clear hX hp hN h6 Hk ji jj jK;have e1:¬ gT=gS:=fun e=>hd.out.2.2.2.1 e.symm
  have jl:=hT.lt;obtain⟨hh,hi,hj,hk,hn,ho⟩:=hT.x3;go_upto_region 9 with fail
  clear hh hi hj hk hn ho;have Hn:Blk (((w5.setCell ⟨gT,0,none⟩ (.slice xo xm xc)).setCell ⟨gT,1,none⟩ (.string RS.tp.seed)).setCell ⟨gT,2,none⟩ (.int .i64 RS.tp.pos)) gT 33 [.slice xo xm xc,.string RS.tp.seed,.int .i64 RS.tp.pos]:=((hT.set 0 _).set 1 _).set 2 _;have Ho:=((hP.other ⟨gT,0,none⟩ (.slice xo xm xc) hd.out.2.2.2.1).other ⟨gT,1,none⟩ (.string RS.tp.seed) hd.out.2.2.2.1).other ⟨gT,2,none⟩ (.int .i64 RS.tp.pos) hd.out.2.2.2.1;have h7:=((hF.other ⟨gT,0,none⟩ (.slice xo xm xc) hd.out.2.2.2.2.1).other ⟨gT,1,none⟩ (.string RS.tp.seed) hd.out.2.2.2.2.1).other ⟨gT,2,none⟩ (.int .i64 RS.tp.pos) hd.out.2.2.2.2.1;have h8:=((hQ.other ⟨gT,0,none⟩ (.slice xo xm xc) hd.out.2.2.2.2.2.1).other ⟨gT,1,none⟩ (.string RS.tp.seed) hd.out.2.2.2.2.2.1).other ⟨gT,2,none⟩ (.int .i64 RS.tp.pos) hd.out.2.2.2.2.2.1;have Hp:SsAt (((w5.setCell ⟨gT,0,none⟩ (.slice xo xm xc)).setCell ⟨gT,1,none⟩ (.string RS.tp.seed)).setCell ⟨gT,2,none⟩ (.int .i64 RS.tp.pos)) (.slice xo xm xc) RS.tp.vals:=((Hm.set_far hr.out.1).set_far hr.out.1).set_far hr.out.1;have Hq:ZOwn (((w5.setCell ⟨gT,0,none⟩ (.slice xo xm xc)).setCell ⟨gT,1,none⟩ (.string RS.tp.seed)).setCell ⟨gT,2,none⟩ (.int .i64 RS.tp.pos)) w4.heap.size lv RS.msk:=own_set (own_set (own_set HU ht.out.1) ht.out.1) ht.out.1;have Hr:=((hf.setCell (p:=⟨gT,0,none⟩) hd.out.1 (.slice xo xm xc)).setCell (p:=⟨gT,1,none⟩) hd.out.1 (.string RS.tp.seed)).setCell (p:=⟨gT,2,none⟩) hd.out.1 (.int .i64 RS.tp.pos);generalize ((w5.setCell ⟨gT,0,none⟩ (.slice xo xm xc)).setCell ⟨gT,1,none⟩ (.string RS.tp.seed)).setCell ⟨gT,2,none⟩ (.int .i64 RS.tp.pos)=w6 at Hn Ho h7 h8 Hp Hq Hr ⊢;clear hT hP hF hQ Hm HU hf jl;obtain⟨ke,h9⟩:∃k,k=RS.err:=⟨_,rfl⟩;by_cases Ha:ke=0
  ·have Hb:Hid (RS.err=0):=by rw[Hid,←h9];exact Ha
   have jL:=Kh (hw.out Hb.out);rw[Hb.out];have HV:=Hn.drew;have jm:=Ho.drew;have jn:=h7.drew;have jo:=h8.drew;have jM:SsAt w6.drew (.slice xo xm xc) RS.tp.vals:=SsAt.after Hp (Below.drew Br);have HW:ZOwn w6.drew w4.heap.size lv RS.msk:=World.ownsRow.drew Hq;have HY:=Hr.drew;have jN:=Kh HY;have jO:=Kh HW.zs;have jl:=HV.lt;have jj:=jm.lt;have jP:=jn.lt;have jQ:=jo.lt;obtain⟨lo,lc,rfl⟩:=HW.zs.form;clear Ha h9 Hi hw Hn Ho h7 h8 Hp Hq Hr;have q3:¬ gF=gT:=hd.out.2.2.2.2.1;have q4:¬ gT=gF:=fun e=>q3 e.symm
   have q5:¬ gQ=gT:=hd.out.2.2.2.2.2.1;have q6:¬ gT=gQ:=fun e=>q5 e.symm
   obtain⟨jp,jq,jr,js,jt,ju⟩:=jm.x3;obtain⟨jv,jw,jx,jy,jz,jA⟩:=HV.x3;go_wp2_with fail
   go_region_with (go_at_call 101;(with_reducible refine (jL.out _ _ jN.out jO.out).mono ?_);rintro e wm ⟨mo,rfl,hM,hY⟩;obtain⟨mx,mxc,rfl⟩:=RAt.form hM.ss;rw[List.length_map]at hM ⊢;have Hs:=HV.after hY;have hU:=jn.after hY;have hW:=jo.after hY;have jR:=SsAt.after jM hY;have jS:=own_after HW hY;have jT:=bt HY hY;have jU:=Hs.cell 0;have jV:=Hs.cell 1;have jW:=Hs.cell 2;have jX:=Hs.lt;have HZ:=hU.cell 0;have H0:=hU.cell 1;have H1:=hU.cell 2;have HH:=hU.free 0;have HJ:=hU.free 1;have HL:=hU.free 2;have H2:=hU.lt;have H3:=hW.cell 0;have H4:=hW.cell 1;have H5:=hW.cell 2;have HN:=hW.free 0;have HP:=hW.free 1;have HS:=hW.free 2;have H6:=hW.lt)
   all_goals
    have jY:=HY.size;have H7:(Value.slice mx (N.msgs c RS.msk).length mxc).ownBlock≠some gF:=fun e=>by have h1:=(own_lt hM e).2;omega
    have H8:(Value.slice mx (N.msgs c RS.msk).length mxc).ownBlock≠some gQ:=fun e=>by have h1:=(own_lt hM e).2;omega
    go_wp2;(try rw[Exit.noGoto_ret])
    refine bodyPost_ret (v:=.tuple #[.agg #[.slice mx (N.msgs c RS.msk).length mxc,.string (E c),.slice lo RS.msk.length lc],.agg #[.slice xo xm xc,.string RS.tp.seed,.int .i64 RS.tp.pos],.int .i64 0]) ?_ rfl ?_
    ·simp[results,Tryz.results24,go_sem,HZ,H0,H1,H3,H4,H5,H2,H6,Hl,HD]
    ·refine⟨_,_,_,_,by rw[Hb.out];rfl,(if_pos Hb.out).symm,?_,?_,(((((jR.set_far hr.out.2.1).set_far hr.out.2.1).set_far hr.out.2.1).set_far hr.out.2.2).set_far hr.out.2.2).set_far hr.out.2.2,(((((jT.setCell hd.out.2.1 _).setCell hd.out.2.1 _).setCell hd.out.2.1 _).setCell hd.out.2.2.1 _).setCell hd.out.2.2.1 _).setCell hd.out.2.2.1 _⟩
     ·rw[show N.simF c RS=N.msgs c RS.msk from if_pos Hb.out];exact own_mono (own_set (own_set (own_set (own_set (own_set (own_set hM H7) H7) H7) H8) H8) H8) jY
     ·exact own_mono (own_set (own_set (own_set (own_set (own_set (own_set jS ht.out.2.1) ht.out.2.1) ht.out.2.1) ht.out.2.2) ht.out.2.2) ht.out.2.2) HT
  ·have HR:=Kh (Hi.out (by rw[←h9];exact Ha));rw[←h9]at HR ⊢;have jZ:((ke:Int) != 0)=true:=by rw[bne_iff_ne];omega
   have jB:=Kh Ha;clear Ha h9 Hi hw Hn Ho Hp Hq;have HE:=h7.lt;have HF:=h8.lt;obtain⟨Hc,jC,Hd,jD,He,jE⟩:=h7.x3;obtain⟨Hf,jF,Hg,jG,Hh,jH⟩:=h8.x3;go_wp2;(try rw[Exit.noGoto_ret])
   refine bodyPost_ret (v:=.tuple #[.agg #[.slice none 0 0,.string ⟨#[]⟩,.slice none 0 0],.agg #[.slice none 0 0,.string ⟨#[]⟩,.int .i64 0],.int .i64 (ke:Int)]) ?_ rfl ?_
   ·simp[results,Tryz.results24,go_sem,Hc,Hd,He,Hf,Hg,Hh,HE,HF,Hl,HD]
   ·rw[HR.out];exact ppost_err jB.out (if_neg jB.out) rfl ((((((Hr.setCell hd.out.2.1 _).setCell hd.out.2.1 _).setCell hd.out.2.1 _).setCell hd.out.2.2.1 _).setCell hd.out.2.2.1 _).setCell hd.out.2.2.1 _)
end
section
open Go.RowKit Go.Shelf
theorem msgs_lt {N:NSta} (hm:NOk N) (hc:N.chk=0) (c:Nat) (Z:List Int):∀x∈N.msgs c Z,x<256^128:=by
 intro x hx;obtain⟨q,hq,rfl⟩:=List.mem_map.1 hx;obtain⟨j,hj,rfl⟩:=List.getElem_of_mem hq;have hg:=(hm.e _ (Gm hj)).1;obtain⟨e1,_,_⟩:=chk_elem hc j hj hg;have h3:=(hm.g _ (Gm hg)).1;have hb:=gp_at N N.eqs[j] hg;rw[←hb]at e1 h3;have hp:=grp_gt e1;rw[msg_fx];exact Nat.lt_trans (Nat.mod_lt _ (by omega)) (Nl h3 P8)
theorem sim_all (S:Sta) (C K ch sd:ByteArray) (V:List ByteArray) (ti:Int) (v1 v2 v3 vt:Value) (w:World) (hC:C.size≤16) (hK:K.size≤16) (hf:fewB S=true) (hS:StAt w v1 v2 v3 S)
  (hj:ch.size≤100) (hn:V.length≤100) (hs:∀x∈V,x.size≤100) (hl:sd.size≤100) (hV:SsAt w vt V) (ht:TabW w) :
  (∃k:Nat,k≠0∧∀w',Bw w w'→Calls Tryz.prog 24 #[.agg #[.string C,.string K],.agg #[v1,v2,v3],.string ch,.agg #[vt,.string sd,.int .i64 ti]] w' (PPost w' ch ⟨k,[],Tp.nil⟩ [] [])) ∨
  (∃(N:NSta) (c k x:Nat) (T:Tp),C=E c∧K=E k∧ch=E x∧c<256^16∧k<256^16∧x<256^100∧NOk N∧NAt w v1 v2 v3 N∧N.chk=0∧2≤c∧2≤k∧(N.vars.any vz=true→c≤N.ord) ∧
   (∀w',Bw w w'→Calls Tryz.prog 33 #[.agg #[.string (E c),.string (E k)],.agg #[v1,v2,v3]] w' (B2Post w' (N.lims c k)))∧x<c∧(N.smpR attN c k T).err=0 ∧
   ∀w',Bw w w'→Calls Tryz.prog 24 #[.agg #[.string C,.string K],.agg #[v1,v2,v3],.string ch,.agg #[vt,.string sd,.int .i64 ti]] w' (PPost w' (E x) (N.smpR attN c k T) (N.msgs x (N.smpL attN c k T)) (N.smpL attN c k T))):=by
 obtain⟨k,hk,h1,h2⟩ | ⟨N,c,k,rfl,rfl,hc,hk,hm,hN,h0,c2,k2,hv,h1,h2⟩:=bnd16 S C K v1 v2 v3 w hC hK hf hS
 ·exact .inl ⟨k,hk,fun w' hb=>ssim_err C K ch sd v1 v2 v3 vt ti k w' hk (fun w2 hg=>h1 w2 (bt hb hg))⟩
 ·obtain⟨T,hT⟩:∃T:Tp,T=⟨V,sd,ti⟩:=⟨_,rfl⟩;have hh:T.Ok:=by rw[hT];exact⟨hn,hs,hl⟩
  have e1:V=T.vals:=by rw[hT]
  have e2:sd=T.seed:=by rw[hT]
  have e3:ti=T.pos:=by rw[hT]
  clear hT;subst e1 e2 e3;cases hp:(vldB ch&&T.good)
  ·exact .inl ⟨3,by decide,fun w' hb=>ssim_form (E c) (E k) ch T (N.lims c k) v1 v2 v3 vt w' (by omega) hh (SsAt.after hV hb) hp (fun w2 hg=>h1 w2 (bt hb hg))⟩
  ·rw[Bool.and_eq_true]at hp;obtain⟨p1,p2⟩:=hp;obtain⟨x,hx,rfl⟩:=numk hj p1;have hd:=fun w' (hb:Bw w w')=>ssim_num attN N c k x T v1 v2 v3 vt w' (hatt T.seed w' (by omega) (ht.after hb)) hh p2 hc hk hm (hN.after hb) h0 (SsAt.after hV hb) hx (fun w2 hg=>h1 w2 (bt hb hg))
   by_cases hi:c≤x
   ·have e:N.simR attN c k x T=⟨2,[],Tp.nil⟩:=if_pos hi;rw[e]at hd;exact .inl ⟨2,by decide,fun w' hb=>by have h:=hd w' hb;rwa [show N.simF x ⟨2,[],Tp.nil⟩=[] from if_neg (by decide)]at h⟩
   ·have e:N.simR attN c k x T=N.smpR attN c k T:=if_neg hi;rw[e]at hd;by_cases he:(N.smpR attN c k T).err=0
    ·have e4:(N.smpR attN c k T).msk=N.smpL attN c k T:=by rw[(smp_inv he).1]
     refine .inr ⟨N,c,k,x,T,rfl,rfl,rfl,hc,hk,hx,hm,hN,h0,c2,k2,hv,h1,by omega,he,fun w' hb=>?_⟩;have h:=hd w' hb;rwa [show N.simF x (N.smpR attN c k T)=N.msgs x (N.smpR attN c k T).msk from if_pos he,e4]at h
    ·have e5:=smp_errR he;refine .inl ⟨(N.smpR attN c k T).err,he,fun w' hb=>?_⟩;have h:=hd w' hb;rw[show N.simF x (N.smpR attN c k T)=[] from if_neg he]at h;rw[←e5];rwa [show (N.smpR attN c k T).msk=[] by rw[e5]]at h
theorem sim_acc (S:Sta) (C K ch sd:ByteArray) (V:List ByteArray) (ti:Int) (v1 v2 v3 vt:Value) (w:World) (hC:C.size≤16) (hK:K.size≤16) (hf:fewB S=true) (hS:StAt w v1 v2 v3 S)
  (hg:ch.size≤100) (hn:V.length≤100) (hs:∀x∈V,x.size≤100) (hh:sd.size≤100) (hV:SsAt w vt V) (ht:TabW w) :
  ∃(R:Drw) (F:List Nat) (Y:List Int),(R.err≠0→F=[]∧Y=[])∧(∀w',Bw w w'→Calls Tryz.prog 24 #[.agg #[.string C,.string K],.agg #[v1,v2,v3],.string ch,.agg #[vt,.string sd,.int .i64 ti]] w' (PPost w' ch R F Y)) ∧
   (R.err=0→∀(fv rv:Value) w',Bw w w'→SsAt w' fv (F.map E)→ZsAt w' rv Y→Calls Tryz.prog 28 #[.agg #[.string C,.string K],.agg #[v1,v2,v3],.agg #[fv,.string ch,rv]] w' fun e w''=>e=.returned (.int .i64 0)∧Bw w' w''):=by
 obtain⟨k,hk,h⟩ | ⟨N,c,k,x,T,rfl,rfl,rfl,hc,hk,hx,hm,hN,h0,c2,k2,hv,h1,hi,he,h⟩:=sim_all S C K ch sd V ti v1 v2 v3 vt w hC hK hf hS hg hn hs hh hV ht
 ·exact⟨⟨k,[],Tp.nil⟩,[],[],fun _=>⟨rfl,rfl⟩,h,fun h2=>absurd h2 hk⟩
 ·refine⟨_,_,_,fun h2=>absurd he h2,h,fun _ fv rv w' hb hF hR=>?_⟩;have ha:=(smp_inv he).2;have hl:(N.smpL attN c k T).length=N.vars.length:=by simp[NSta.smpL]
  have l4:=hm.nv;have l5:=hm.ne;have hd:=verify_num N c k x _ _ v1 v2 v3 fv rv w' hc hk hm (hN.after hb) h0 (fun w2 hj=>bounds_ok N c k v1 v2 v3 w2 hc hk c2 k2 hv hm (hN.after (bt hb hj)) h0) hF hR (by simp only[NSta.msgs,List.length_map];omega) (msgs_lt hm h0 x _) (Nl hx P8) (by omega) (smp_size hm hc hk ha);rw[sim_ver hm h0 hi hl (smp_bl ha)]at hd;exact hd
theorem ac_walk (C K ch sd:ByteArray) (ti:Int) (s1 s2 s3 xw xl xt:Option Addr) (m1 m2 m3 d1 d2 d3 nw pw nl pl nt pt:Nat) (w:World) (bf:Bool)
  (HF:∀w',Bw w w'→Calls Tryz.prog 22 #[.agg #[.string C,.string K,.slice s1 m1 d1,.slice s2 m2 d2,.slice s3 m3 d3,.slice xw nw pw,.string ch,.slice xl nl pl,.slice xt nt pt,.string sd,.int .i64 ti]] w' fun e w''=>e=.returned (.bool bf)∧Bw w' w'')
  (HV:bf=true→∃(R:Drw) (F:List Nat) (Y:List Int),(R.err≠0→F=[]∧Y=[])∧(∀w',Bw w w'→Calls Tryz.prog 24 #[.agg #[.string C,.string K],.agg #[.slice s1 m1 d1,.slice s2 m2 d2,.slice s3 m3 d3],.string ch,.agg #[.slice xt nt pt,.string sd,.int .i64 ti]] w' (PPost w' ch R F Y)) ∧
   (R.err=0→∀(fv rv:Value) w',Bw w w'→SsAt w' fv (F.map E)→ZsAt w' rv Y→Calls Tryz.prog 28 #[.agg #[.string C,.string K],.agg #[.slice s1 m1 d1,.slice s2 m2 d2,.slice s3 m3 d3],.agg #[fv,.string ch,rv]] w' fun e w''=>e=.returned (.int .i64 0)∧Bw w' w'')) :
  Calls Tryz.prog 5 #[.agg #[.string C,.string K,.slice s1 m1 d1,.slice s2 m2 d2,.slice s3 m3 d3,.slice xw nw pw,.string ch,.slice xl nl pl,.slice xt nt pt,.string sd,.int .i64 ti]] w fun e w'=>e=.returned (.bool true)∧Bw w w':=by
 have hP:=Kh HF;have hR:=Kh HV;obtain⟨hQ,he⟩:=blk1 w #[.string C,.string K,.slice s1 m1 d1,.slice s2 m2 d2,.slice s3 m3 d3,.slice xw nw pw,.string ch,.slice xl nl pl,.slice xt nt pt,.string sd,.int .i64 ti] 50;clear HF HV;cases bf
 ·skip
  obtain⟨hf,hg,hh,hi,hj,hl,hm,hn,ho,hp,hq,hr,ht,hu,hv,hw,hx,hy,hA,hB,hc,hd⟩:=hQ.x11;go_enter Tryz.func5,Tryz.ntmps5
  go_wp2_with fail
  refine (hP.out _ he).mono ?_;rintro e w2 ⟨rfl,hb⟩;clear hf hg hh hi hj hl hm hn ho hp hq hr ht hu hv hw hx hy hA hB hc hd;replace he:=bt he hb;clear hb;go_wp2_with fail
  refine (awake_c _).mono ?_;rintro e w9 ⟨rfl,hb9⟩;go_wp2;go_ret
  exact⟨rfl,bt he hb9⟩
 obtain⟨R,F,Y,hz,hS,hK⟩:=hR.out rfl;obtain⟨k,L,tD⟩:=R;simp only[]at hz hK;have hV:=Kh hS;have hT:=Kh hK;have hW:=Kh hz;clear hS hK hR hz;obtain⟨hf,hg,hh,hi,hj,hl,hm,hn,ho,hp,hq,hr,ht,hu,hv,hw,hx,hy,hA,hB,hc,hd⟩:=hQ.x11;go_enter Tryz.func5,Tryz.ntmps5
 go_wp2_with fail
 refine (hP.out _ he).mono ?_;rintro e w2 ⟨rfl,hb⟩;clear hf hg hh hi hj hl hm hn ho hp hq hr ht hu hv hw hx hy hA hB hc hd;replace hQ:=hQ.after hb;replace he:=bt he hb;clear hb;obtain⟨hf,hg,hh,hi,hj,hl,hm,hn,ho,hp,hq,hr,ht,hu,hv,hw,hx,hy,hA,hB,hc,hd⟩:=hQ.x11;go_wp2_with fail
 refine (hV.out _ he).mono ?_;rintro e w4 ⟨fv,rv,u,cx,rfl,hL,hM,hN,hO,hb⟩;clear hf hg hh hi hj hl hm hn ho hp hq hr ht hu hv hw hx hy hA hB hc hd;simp only[]at hL hO ⊢;have hX:=Kh hL;clear hL;obtain⟨fa1,fc1,rfl⟩:=RAt.form hM.ss;obtain⟨ya1,yc1,rfl⟩:=hN.zs.form;obtain⟨ua1,uc1,rfl⟩:=RAt.form hO;have hI:=hM.ss;have hy1:=hN.zs;simp only[List.length_map]at hI ⊢;clear hM hN;replace hQ:=hQ.after hb;replace he:=bt he hb;clear hb;have hJ:=blk2a w4 #[.slice fa1 F.length fc1,.string cx,.slice ya1 Y.length yc1] #[.slice ua1 tD.vals.length uc1,.string tD.seed,.int .i64 tD.pos] 40 33;have hb:=b2 w4 (.cells #[.slice fa1 F.length fc1,.string cx,.slice ya1 Y.length yc1] 40) (.cells #[.slice ua1 tD.vals.length uc1,.string tD.seed,.int .i64 tD.pos] 33);replace hI:=SsAt.after hI hb;replace hy1:=ZsAt.after hy1 hb;replace hQ:=hQ.after hb;replace he:=bt he hb;clear hb hO;by_cases hk:k=0
 ·subst hk;obtain rfl:cx=ch:=hX.out;have hU:=Kh (hT.out rfl _ _ _ he hI hy1);have hY:(cx.toList==cx.toList)=true:=by simp
  clear hI hy1;obtain⟨hf,hg,hh,hi,hj,hl,hm,hn,ho,hp,hq,hr,ht,hu,hv,hw,hx,hy,hA,hB,hc,hd⟩:=hQ.x11;obtain⟨hC,hD,hE,hF,hG,hH⟩:=hJ.x3;go_wp2_with fail
  refine hU.out.mono ?_;rintro e w5 ⟨rfl,hb⟩;clear hf hg hh hi hj hl hm hn ho hp hq hr ht hu hv hw hx hy hA hB hc hd;clear hC hD hE hF hG hH;replace he:=bt he hb;clear hb hQ hJ hU;go_wp2_with fail
  refine (awake_c _).mono ?_;rintro e w9 ⟨rfl,hb9⟩;go_wp2;go_ret
  exact⟨rfl,bt he hb9⟩
 ·have hZ:((k:Int) != 0)=true:=by rw[bne_iff_ne];omega
  obtain⟨rfl,rfl⟩:=hW.out hk;clear hk hT hQ hI hy1;simp only[List.map_nil,List.length_nil]at hJ ⊢;obtain⟨hC,hD,hE,hF,hG,hH⟩:=hJ.x3;go_wp2_with fail
  refine (awake_c _).mono ?_;rintro e w9 ⟨rfl,hb9⟩;go_wp2;go_ret
  exact⟨rfl,bt he hb9⟩
end
end Go.Proofs.YtihjpddbjhcbmaaGreatDoor
