/- What Prove returns: which errors;Verify accepts it. Plain Lean,and Prove and Verify in numbers. -/
import Derived.Test.YtdgddpnjkinciaaGreatDoorSd27
import Derived.Test.YtdgddpnjkinciaaGreatDoorPrv1
import Derived.WalkMore
set_option linter.all false
set_option maxRecDepth 100000
set_option maxHeartbeats 16000000
namespace Go.Proofs.YtdgddpnjkinciaaGreatDoor
section
/- Two accepted proofs with one first message: in each equation the powers with the differences give 1. -/
open Go.RowKit Go.Shelf
theorem mmod {a b c d p:Nat} (h1:a%p=b%p) (h2:c%p=d%p):a*c%p=b*d%p:=by
 rw[Nat.mul_mod,h1,h2,←Nat.mul_mod]
def fx (p x:Nat) (z:Int):Nat:=bse p x z^z.natAbs
theorem fx_eq (p x:Nat) (z:Int):fx p x z=x^z.toNat*invN x p^(-z).toNat:=by
 unfold fx bse;by_cases h:z<0
 ·rw[if_pos h,show z.toNat=0 by omega,show (-z).toNat=z.natAbs by omega,Nat.pow_zero,Nat.one_mul]
 ·rw[if_neg h,show (-z).toNat=0 by omega,show z.toNat=z.natAbs by omega,Nat.pow_zero,Nat.mul_one]
theorem xy_pow {p x y:Nat} (h:x*y%p=1%p) (n:Nat):x^n*y^n%p=1%p:=by
 rw[←Nat.mul_pow,Nat.pow_mod,h,←Nat.pow_mod,Nat.one_pow]
theorem fx_sub {p x:Nat} (hp:0<p) (hg:Nat.gcd x p=1) (m n:Nat):x^m*invN x p^n%p=fx p x ((m:Int)-n)%p:=by
 have h:=invN_spec x p hp hg;rw[fx_eq];generalize invN x p=y at h;by_cases hl:n≤m
 ·rw[show ((m:Int)-n).toNat=m-n by omega,show (-((m:Int)-n)).toNat=0 by omega,Nat.pow_zero,Nat.mul_one];obtain⟨d,rfl⟩:∃d,m=d+n:=⟨m-n,by omega⟩;rw[Nat.pow_add,Nat.mul_assoc,Nat.add_sub_cancel];have:=mmod (p:=p) (a:=x^d) (b:=x^d) rfl (xy_pow h n);rwa [Nat.mul_one]at this
 ·rw[show ((m:Int)-n).toNat=0 by omega,show (-((m:Int)-n)).toNat=n-m by omega,Nat.pow_zero,Nat.one_mul];obtain⟨d,rfl⟩:∃d,n=m+d:=⟨n-m,by omega⟩;rw[Nat.pow_add,←Nat.mul_assoc,Nat.add_sub_cancel_left];have:=mmod (p:=p) (c:=y^d) (d:=y^d) (xy_pow h m) rfl;rwa [Nat.one_mul]at this
theorem fx_add {p x:Nat} (hp:0<p) (hg:Nat.gcd x p=1) (a b:Int):fx p x a*fx p x b%p=fx p x (a+b)%p:=by
 have h:=fx_sub hp hg (a.toNat+b.toNat) ((-a).toNat+(-b).toNat);rw[show ((a.toNat+b.toNat:Nat):Int)-(((-a).toNat+(-b).toNat:Nat):Int)=a+b by omega]at h;rw[←h,fx_eq,fx_eq,Nat.pow_add,Nat.pow_add];congr 1
 simp only[Nat.mul_assoc,Nat.mul_left_comm,Nat.mul_comm]
theorem fx_pos {p x q:Nat} (h:x^q%p=1%p) (k:Nat):fx p x ((q:Int)*k)%p=1%p:=by
 rw[fx_eq,←Int.natCast_mul,Int.toNat_natCast,show (-((q*k:Nat):Int)).toNat=0 by omega,Nat.pow_zero,Nat.mul_one,Nat.pow_mul,Nat.pow_mod,h,←Nat.pow_mod,Nat.one_pow]
theorem fx_ord {p x q:Nat} (hp:0<p) (hg:Nat.gcd x p=1) (h:x^q%p=1%p) (k:Int):fx p x ((q:Int)*k)%p=1%p:=by
 obtain⟨n,rfl | rfl⟩:=k.eq_nat_or_neg
 ·exact fx_pos h n
 ·have h1:=fx_add hp hg ((q:Int)*-(n:Int)) ((q:Int)*n);rw[←Int.mul_add,Int.add_left_neg,Int.mul_zero]at h1;have h2:=mmod (p:=p) (a:=fx p x ((q:Int)*-(n:Int))) rfl (fx_pos h n);rw[Nat.mul_one]at h2;rw[←h2,h1];rfl
def ptx (p:Nat) (Z:List Int) (ts:List NTrm):Nat:=pw (prs p (ts.map (·.base)) (ts.map fun t=>t.coef*Z.getD t.var 0)) 0
theorem ptx_cons (p:Nat) (Z:List Int) (t:NTrm) (ts:List NTrm):ptx p Z (t :: ts)=fx p t.base (t.coef*Z.getD t.var 0)*ptx p Z ts:=by
 unfold ptx fx;simp[prs,pw]
end
section
/- What a prover returns is accepted. Plain Lean. -/
open Go.RowKit Go.Shelf
theorem typ_base {N:NSta} (hc:N.chk=0) (q:NEqn) (hq:q∈N.eqs) (hg:q.grp<N.grps.length) (t:NTrm) (ht:t∈q.trms) (hv:t.var<N.vars.length) (h0:N.vars[t.var]=0) (hb:hasB (N.gp q).1 (N.gp q).2 t.base=true):t.base^N.ord%(N.gp q).1=1%(N.gp q).1:=by
 obtain⟨_,_,hd⟩:=chk_inv hc;have he:N.vars.any vz=true:=by rw[List.any_eq_true];exact⟨N.vars[t.var],Gm hv,by simp[vz,h0]⟩
 unfold NSta.typ at hd;rw[he]at hd;simp only[Bool.not_true,Bool.false_or,Bool.and_eq_true,List.all_eq_true]at hd;obtain⟨⟨h1,h2⟩,h3⟩:=hd;have hk:=h3 q hq
 have hh:q.trms.any N.tz=true:=by
  rw[List.any_eq_true];refine⟨t,ht,?_⟩;unfold NSta.tz;rw[List.getD_eq_getElem?_getD,List.getElem?_eq_getElem hv,Option.getD_some,h0];rfl
 unfold kindQ at hk;rw[hh]at hk;simp only[Bool.not_true,Bool.or_false,Bool.not_eq_true',vz,beq_eq_false_iff_ne]at hk
 have hf:gq N.ord (N.gp q)=false:=by
  cases e:gq N.ord (N.gp q)
  ·rfl
  ·exfalso;have:N.grps.any (gq N.ord)=true:=by rw[List.any_eq_true];exact⟨N.gp q,by rw[gp_at N q hg];exact Gm hg,e⟩
   rw[this]at h2;simp at h2
 have hi:(N.gp q).2=N.ord:=by
  apply Classical.byContradiction
  intro hn;unfold gq at hf;simp[hk,hn]at hf
 unfold hasB at hb;rw[if_neg hk,decide_eq_true_iff,hi]at hb;exact hb.2.2
theorem fx_powc {p x:Nat} (hp:0<p) (hg:Nat.gcd x p=1) (z:Int) (c:Nat):fx p x z^c%p=fx p x (z*c)%p:=by
 have h:=fx_sub hp hg (z.toNat*c) ((-z).toNat*c)
 rw[show ((z.toNat*c:Nat):Int)-(((-z).toNat*c:Nat):Int)=z*c by
  rw[Int.natCast_mul,Int.natCast_mul,←Int.sub_mul];congr 1
  omega]at h
 rw[←h,fx_eq,Nat.mul_pow,←Nat.pow_mul,←Nat.pow_mul]
theorem ptx_powc {p:Nat} (W M R:List Int) (c:Nat) (ts:List NTrm) (h:∀t∈ts,fx p t.base (t.coef*M.getD t.var 0)*fx p t.base (t.coef*W.getD t.var 0)^c%p=fx p t.base (t.coef*R.getD t.var 0)%p):ptx p M ts*ptx p W ts^c%p=ptx p R ts%p:=by
 induction ts with
 | nil =>
  show 1*1^c%p=1%p;rw[Nat.one_pow]
 | cons t ts ih =>
  rw[ptx_cons,ptx_cons,ptx_cons,Nat.mul_pow];have h1:=mmod (h t (by simp)) (ih fun u hu=>h u (by simp[hu]));rw[←h1];congr 1
  simp only[Nat.mul_assoc,Nat.mul_left_comm]
theorem imgs_at (N:NSta) (Z:List Int) (j:Nat) (h:j<N.eqs.length):(N.imgs Z).getD j 0=imgV N Z N.eqs[j]:=by
 unfold NSta.imgs;rw[List.getD_eq_getElem?_getD,List.getElem?_map,List.getElem?_eq_getElem h];rfl
theorem img_ptx (N:NSta) (Z:List Int) (q:NEqn):imgV N Z q=ptx (N.gp q).1 Z q.trms%(N.gp q).1:=rfl
theorem compl_key {N:NSta} {c:Nat} {W M:List Int} (hm:NOk N) (hc:N.chk=0) (hI:N.imgs W=N.eqs.map (·.tgt)) (j:Nat) (hj:j<N.eqs.length) :
  hasB (N.gp N.eqs[j]).1 (N.gp N.eqs[j]).2 (imgV N M N.eqs[j])=true∧imgV N M N.eqs[j]*powI N.eqs[j].tgt (c:Int) (N.gp N.eqs[j]).1%(N.gp N.eqs[j]).1=imgV N (N.rspL c W M) N.eqs[j]:=by
 have hq:=hm.e _ (Gm hj);have hg:=hq.1;obtain⟨e1,e2,e3⟩:=chk_elem hc j hj hg;have hh:=gp_at N N.eqs[j] hg
 have ht:N.eqs[j].tgt=imgV N W N.eqs[j]:=by
  have h1:=imgs_at N W j hj;rw[hI,List.getD_eq_getElem?_getD,List.getElem?_map,List.getElem?_eq_getElem hj]at h1;exact h1
 have hi:=Gm hj
 have hk:∀v,v<N.vars.length→(N.rspL c W M).getD v 0=rspJ N c W M v:=fun v hv=>by
  unfold NSta.rspL;rw[List.getD_eq_getElem?_getD,List.getElem?_map,List.getElem?_range hv];rfl
 generalize N.eqs[j]=q at *;rw[←hh]at e1 e2 e3;have hp:=grp_gt e1;have hd:0<(N.gp q).1:=by omega
 refine⟨?_,?_⟩
 ·have h:=prodK_has (X:=imgX M q) hp (by simp[imgX,imgB]) e3 (imgB q).length (Nat.le_refl _);rwa [prodK_end (Nat.le_refl _) (by simp[imgX,imgB])]at h
 ·rw[powI_nat,img_ptx,img_ptx,←Nat.mul_mod,ht,img_ptx];rw[Nat.mul_mod,←Nat.pow_mod,←Nat.mul_mod];refine ptx_powc W M _ c q.trms fun t he=>?_
  have hv:=(hq.2.2.2 t he).2.1;have hb:=e3 t.base (List.mem_map.2 ⟨t,he,rfl⟩);have hco:=has_coprime hp hb;rw[hk _ hv,Nat.mul_mod,fx_powc hd hco,←Nat.mul_mod,fx_add hd hco];unfold rspJ;rw[List.getD_eq_getElem?_getD (l:=N.vars),List.getElem?_eq_getElem hv,Option.getD_some];generalize M.getD t.var 0=m;generalize W.getD t.var 0=z;unfold rspI;by_cases h0:N.vars[t.var]=0
  ·rw[if_pos h0,Int.emod_def];have hf:=typ_base hc q hi hg t he hv h0 hb;have h1:=fx_ord hd hco hf (-(t.coef*((m+(c:Int)*z) / (N.ord:Int))));have h2:=mmod (p:=(N.gp q).1) (a:=fx (N.gp q).1 t.base (t.coef*m+t.coef*z*(c:Int))) rfl h1;rw[Nat.mul_one,fx_add hd hco]at h2;rw[←h2];congr 2
   generalize (m+(c:Int)*z) / (N.ord:Int)=k;rw[Int.mul_sub,Int.mul_add,Int.mul_neg,Int.sub_eq_add_neg];congr 2
   ·rw[Int.mul_assoc,Int.mul_comm z]
   ·rw[←Int.mul_assoc,←Int.mul_assoc,Int.mul_comm (N.ord:Int)]
  ·rw[if_neg h0,Int.mul_add,Int.mul_assoc,Int.mul_comm z]
theorem compl_ver {N:NSta} {C K c:Nat} {W M:List Int} (hm:NOk N) (hc:N.chk=0) (hb:c<C) (hH:N.hldB W=true) (hr:N.rsp2 C K c W M=0):N.ver C K (N.imgs M) c (N.rspL c W M)=0:=by
 unfold NSta.hldB at hH;simp only[Bool.and_eq_true,decide_eq_true_iff]at hH;obtain⟨hW,_,hI⟩:=hH
 have hrs:ra N.vars.length (rsJ N C K c W M)=true:=by
  unfold NSta.rsp2 at hr;cases h:ra N.vars.length (rsJ N C K c W M) with
  | true=>rfl
  | false=>rw[if_pos h]at hr;cases hr
 have hd:(N.rspL c W M).length=N.vars.length:=by simp[NSta.rspL]
 have he:(N.imgs M).length=N.eqs.length:=by simp[NSta.imgs]
 refine ver_0 he hd hb (ra_true fun j hj=>?_) (ra_true fun j hj=>?_) (ra_true fun j hj=>?_)
 ·have h:=ra_at hrs hj;unfold rsJ at h;unfold blJ
  have:(N.rspL c W M).getD j 0=rspJ N c W M j:=by
   unfold NSta.rspL;rw[List.getD_eq_getElem?_getD,List.getElem?_map,List.getElem?_range hj];rfl
  rw[this];exact h
 ·unfold hsJ;rw[eq_at N j hj,imgs_at N M j hj];exact (compl_key (c:=c) (W:=W) (M:=M) hm hc hI j hj).1
 ·unfold imJ;rw[eq_at N j hj,imgs_at N M j hj,decide_eq_true_iff];exact (compl_key (c:=c) (W:=W) (M:=M) hm hc hI j hj).2
end
section
open Go.RowKit Go.Shelf
theorem sprove_num (att:Att) (N:NSta) (C K c:Nat) (W:List Int) (T:Tp) (v1 v2 v3 vw vt:Value) (w:World) (jX:HAtt att T.seed w) (jY:T.Ok) (hC:C<256^16) (hK:K<256^16) (hm:NOk N) (hS:NAt w v1 v2 v3 N) (h0:N.chk=0)
  (jZ:∀w',Bw w w'→Calls Tryz.prog 30 #[.agg #[.string (E C),.string (E K)],.agg #[v1,v2,v3]] w' (BPost w' (N.lims C K)))
  (hW:ZsAt w vw W) (hV:SsAt w vt T.vals) (hc:c<256^100) (jc:W.length≤1000) (HD:∀z∈W,z.natAbs<256^64) (j0:N.vars.any vz=true→0<N.ord) :
  Calls Tryz.prog 10 #[.agg #[.string (E C),.string (E K)],.agg #[v1,v2,v3],vw,.string (E c),.agg #[vt,.string T.seed,.int .i64 T.pos]] w (PPost w (E c) (N.prvR att C K c W T) (N.fstR (N.prvR att C K c W T)) (N.rspO c W (N.prvR att C K c W T))):=by
 obtain⟨RR,jd⟩:∃r,r=N.prvR att C K c W T:=⟨_,rfl⟩;obtain⟨RF,HH⟩:∃r,r=N.fstR RR:=⟨_,rfl⟩;obtain⟨RY,HI⟩:∃r,r=N.rspO c W RR:=⟨_,rfl⟩;have j1:=Kh jd;rw[←jd,←HH,←HI]
 have HJ:Hid (∀k,k≠0→N.prvR att C K c W T=⟨k,[],Tp.nil⟩→RR=⟨k,[],Tp.nil⟩∧RF=[]∧RY=[]):=fun k hk h=>by
  have e:=jd.trans h;exact⟨e,by rw[HH,e];unfold NSta.fstR;rw[if_neg hk],by rw[HI,e];unfold NSta.rspO;rw[if_neg hk]⟩
 have HK:Hid (RR.err=0→RF=N.imgs RR.msk∧RY=N.rspL c W RR.msk):=fun h=>⟨by rw[HH];unfold NSta.fstR;rw[if_pos h],by rw[HI];unfold NSta.rspO;rw[if_pos h]⟩
 have HL:Hid (∀k,k≠0→RR=⟨k,[],Tp.nil⟩→RF=[]∧RY=[]):=fun k hk e=>⟨by rw[HH,e];unfold NSta.fstR;rw[if_neg hk],by rw[HI,e];unfold NSta.rspO;rw[if_neg hk]⟩
 clear jd HH HI;have jq:=Kh jZ
 have jr:Hid (∀w',Bw w w'→Calls Tryz.prog 31 #[vw] w' fun e w''=>e=.returned (.bool true)∧Bw w' w''):=fun w' hb =>
  svalidV_c (W.map zI) vw true w' (by rw[List.length_map];exact jc) (fun x hx=>by obtain⟨z,js,rfl⟩:=List.mem_map.1 hx;exact Nat.le_trans ((E_size_le _ 64).2 (HD z js)) (by decide)) (hW.after hb) (by rw[List.all_map,List.all_eq_true];intro z js;exact ivB_I z (lt64 (HD z js)))
 have j2:Hid (∀w,Calls Tryz.prog 32 #[.string (E c)] w fun e w'=>e=.returned (.bool true)∧w=w'):=fun w=>validE_c c w (Nl hc P8)
 have HM:Hid (∀w,Calls Tryz.prog 33 #[.string (E c),.string (E C)] w fun e w'=>e=.returned (.int .i64 (cmpN c C))∧w=w'):=fun w=>cmp_c c C w (Nl hc P8) (Nl hC P8)
 obtain⟨bi,jt⟩:∃b:Bool,b=ra N.vars.length (inJ N W):=⟨_,rfl⟩;have je:=Kh jt;have jf:Hid (W.length=N.vars.length→∀w',Bw w w'→Calls Tryz.prog 34 #[.agg #[v1,v2,v3],vw] w' fun e w''=>e=.returned (.bool bi)∧Bw w' w''):=fun h w' hb=>by rw[jt];exact sinr_c N W v1 v2 v3 vw w' hm (hS.after hb) (hW.after hb) HD h
 obtain⟨bh,ju⟩:∃b:Bool,b=N.hldB W:=⟨_,rfl⟩;have jv:=Kh ju
 have jg:Hid (W.length=N.vars.length→∀w',Bw w w'→Calls Tryz.prog 35 #[.agg #[v1,v2,v3],vw] w' fun e w''=>e=.returned (.tuple #[.bool bh,.int .i64 0])∧Bw w' w''):=fun h w' hb=>by
  have h1:=holds_c N W v1 v2 v3 vw w' hm (hS.after hb) (hW.after hb) HD jc h0;rw[←ju,show N.hldE W=0 by unfold NSta.hldE;rw[if_neg (by omega)]]at h1;exact h1
 have j3:Hid (∀(Ti:Tp) (B:Nat) (vl u:Value) w',HAtt att Ti.seed w→Ti.Ok→Bw w w'→LmOwn w' B vl (N.lims C K)→SsAt w' u Ti.vals→Calls Tryz.prog 36 #[.agg #[v1,v2,v3],vl,.agg #[u,.string Ti.seed,.int .i64 Ti.pos]] w' (DWPost w' u (N.drwR att C K Ti))):=fun Ti B vl u w' ha ho hb hL hu =>
  sdraw_c att N C K B Ti v1 v2 v3 vl u w' (ha.after hb) ho hC hK hm (hS.after hb) hL hu
 have j4:Hid (∀(Z:List Int) (vz:Value) w',Bw w w'→ZsAt w' vz Z→(∀z∈Z,z.natAbs<256^64)→Z.length=N.vars.length→Calls Tryz.prog 37 #[.agg #[v1,v2,v3],vz] w' (LPost w' (N.imgs Z))):=fun Z vz w' hb hz h1 h2=>Images_c N Z v1 v2 v3 vz w' hm (hS.after hb) hz h1 h2 h0
 have jh:Hid (c<C→W.length=N.vars.length→∀(M:List Int) (B:Nat) (vl vm:Value) w',Bw w w'→LmOwn w' B vl (N.lims C K)→ZsAt w' vm M→(∀z∈M,z.natAbs<256^64)→M.length=N.vars.length→Calls Tryz.prog 38 #[.agg #[v1,v2,v3],vl,vw,vm,.string (E c)] w' (EPost w' (N.rsp2 C K c W M) (N.rspR2 C K c W M))):=fun JH h1 M B vl vm w' hb hL hz JI h2 =>
  srespond_c N C K c B W M v1 v2 v3 vl vw vm w' hC hK hm (hS.after hb) hL (hW.after hb) hz (Nat.lt_trans JH hC) h1 h2 HD JI j0
 have j5:Hid (∀Ti,(N.drwR att C K Ti).err=0→(N.drwR att C K Ti).tp=Ti.on N.vars.length∧(N.drwR att C K Ti).msk.length=N.vars.length∧∀z∈(N.drwR att C K Ti).msk,z.natAbs<256^64):=fun Ti h=>by
  obtain⟨e,ha⟩:=drw_inv h;rw[e];exact⟨rfl,by simp[NSta.drwL],drw_size hm hC hK ha⟩
 have JS:Hid (∀Ti,(N.drwR att C K Ti).err≠0→N.drwR att C K Ti=⟨(N.drwR att C K Ti).err,[],Tp.nil⟩):=fun Ti h=>by
  unfold NSta.drwR at *;split
  ·rfl
  ·rename_i hn;rw[hn]at h;exact absurd rfl h
 have JJ:=Kh jX;have JK:=Kh jY;obtain⟨a4,c4,rfl⟩:=hW.form;obtain⟨a5,c5,rfl⟩:=RAt.form hV;obtain⟨nt,j6⟩:∃n,n=T.vals.length:=⟨_,rfl⟩;rw[←j6]at hV ⊢;obtain⟨nw,ji⟩:∃n,n=W.length:=⟨_,rfl⟩;have j7:=Kh ji;rw[←ji]at hW jr jf jg jh ⊢;obtain⟨a1,c1,a2,c2,a3,c3,rfl,rfl,rfl⟩:=hS.forms;obtain⟨n1,jw⟩:∃n,n=N.grps.length:=⟨_,rfl⟩;obtain⟨n2,HE⟩:∃n,n=N.vars.length:=⟨_,rfl⟩;obtain⟨n3,jx⟩:∃n,n=N.eqs.length:=⟨_,rfl⟩;have jy:=Kh HE;have l2:n2≤12:=by rw[HE];exact hm.nv
 have lw:nw≤1000:=by rw[ji];exact jc
 rw[←jw,←HE,←jx]at hS jq j3 j4 ⊢;rw[←jw,←HE,←jx]at jf jg jh;rw[←HE]at j5;clear hm jw HE jx ji hC hK hc jZ jc HD j0 jt ju jX jY h0 hW j6;obtain⟨hR,hP,hT,hF,hQ,hr⟩:=blk5 w #[.string (E C),.string (E K)] #[.slice a1 n1 c1,.slice a2 n2 c2,.slice a3 n3 c3] #[.slice a5 nt c5,.string T.seed,.int .i64 T.pos] #[.slice none 0 0,.string ⟨#[]⟩,.slice none 0 0] #[.slice none 0 0,.string ⟨#[]⟩,.int .i64 0] 52 43 35 54 35;obtain⟨gS,j8⟩:∃g,w.heap.size+1=g:=⟨_,rfl⟩;obtain⟨gT,j9⟩:∃g,w.heap.size+1+1=g:=⟨_,rfl⟩;obtain⟨gF,Ja⟩:∃g,w.heap.size+1+1+1=g:=⟨_,rfl⟩;obtain⟨gQ,Jb⟩:∃g,w.heap.size+1+1+1+1=g:=⟨_,rfl⟩;have jz:=Kh j8;have jA:=Kh j9;have jB:=Kh Ja;have jC:=Kh Jb;have he:Hid (w.heap.size≤gT∧w.heap.size≤gF∧w.heap.size≤gQ∧gS≠gT∧gF≠gT∧gQ≠gT∧gF≠gQ):=by rw[Hid];omega
 have HN:FarS (.slice a5 nt c5) gT:=ss_far hV (by omega);have HO:FarS (.slice a5 nt c5) gF:=ss_far hV (by omega);have HP:FarS (.slice a5 nt c5) gQ:=ss_far hV (by omega);clear j8 j9 Ja Jb;replace hS:=hS.after hr;replace hV:=SsAt.after hV hr;obtain⟨Hi,Hj,Hk,Hl⟩:=hR.x2;obtain⟨hw,hy,hA,hD,hE,hG⟩:=hP.x3;go_enter Tryz.func10,Tryz.ntmps10
 go_upto_region 1 with fail
 go_step3
 go_wp2_with fail
 refine (jq.out _ hr).mono ?_;rintro e w2 ⟨lv,rfl,hL,Ho⟩;clear Hi Hj Hk Hl;clear hw hy hA hD hE hG;replace hR:=hR.after Ho;replace hP:=hP.after Ho;replace hT:=hT.after Ho;replace hF:=hF.after Ho;replace hQ:=hQ.after Ho;replace hV:=SsAt.after hV Ho;replace hr:=bt hr Ho;clear Ho jq hS;rw[jC.out]at hQ;rw[jB.out]at hF;rw[jA.out]at hT;rw[jz.out]at hP;rw[jC.out,jB.out,jA.out,jz.out];clear jz jA jB jC;replace hR:Blk w2 w.heap.size 52 [.string (E C),.string (E K)]:=hR;replace hP:Blk w2 gS 43 [.slice a1 n1 c1,.slice a2 n2 c2,.slice a3 n3 c3]:=hP;replace hT:Blk w2 gT 35 [.slice a5 nt c5,.string T.seed,.int .i64 T.pos]:=hT;replace hF:Blk w2 gF 54 [.slice none 0 0,.string ⟨#[]⟩,.slice none 0 0]:=hF;replace hQ:Blk w2 gQ 35 [.slice none 0 0,.string ⟨#[]⟩,.int .i64 0]:=hQ;obtain⟨a6,c6,rfl⟩:=hL.form;obtain⟨B,hB⟩:∃B,LmOwn w2 B (.slice a6 (N.lims C K).length c6) (N.lims C K):=⟨_,hL⟩;clear hL;have JL:Hid ((N.lims C K).length=n2):=by rw[Hid,NSta.lims,List.length_map,jy.out]
 rw[JL.out]at hB ⊢;have Hp:¬ gF=gQ:=he.out.2.2.2.2.2.2;have Ht:¬ gQ=gF:=fun e=>Hp e.symm
 go_wp2_with fail
 refine (jr.out _ hr).mono ?_;rintro e w3 ⟨rfl,Hm⟩;replace hR:=hR.after Hm;replace hP:=hP.after Hm;replace hT:=hT.after Hm;replace hF:=hF.after Hm;replace hQ:=hQ.after Hm;replace hB:=hB.after Hm;replace hV:=SsAt.after hV Hm;replace hr:=bt hr Hm;clear Hm jr;go_wp2_with fail
 refine (j2.out _).mono ?_;rintro e w' ⟨rfl,rfl⟩;clear j2;by_cases HF:nw=n2
 ·have jj:Hid (W.length=N.vars.length):=by rw[Hid,←j7.out,←jy.out];exact HF
  have HQ:=Kh (jf.out HF);have HR:=Kh (jg.out HF);clear jf jg;subst HF;rcases Nat.lt_or_ge c C with jD | jE
  ·have JM:=cmp_neg c C jD;have h5:¬ 0≤cmpN c C:=by omega
   have hd:decide (0≤cmpN c C)=false:=decide_eq_false h5;have jk:=Kh jD;clear jD JM;generalize cmpN c C=q at HM hd h5;have jF:=Kh (jh.out jk.out rfl);clear jh;obtain⟨Hi,Hj,Hk,Hl⟩:=hR.x2;obtain⟨hw,hy,hA,hD,hE,hG⟩:=hP.x3;go_wp2_with fail
   refine (HM.out _).mono ?_;rintro e w' ⟨rfl,rfl⟩;clear HM;go_wp2_with fail
   refine (HQ.out _ hr).mono ?_;rintro e w4 ⟨rfl,hb4⟩;clear Hi Hj Hk Hl;clear hw hy hA hD hE hG;replace hR:=hR.after hb4;replace hP:=hP.after hb4;replace hT:=hT.after hb4;replace hF:=hF.after hb4;replace hQ:=hQ.after hb4;replace hB:=hB.after hb4;replace hV:=SsAt.after hV hb4;replace hr:=bt hr hb4;clear hb4 HQ hd h5;cases bi
   ·have HX:=Kh (HJ.out 2 (by decide) (prv_c (att:=att) (K:=K) (T:=T) jj.out jk.out je.out.symm));go_wp2_with fail
    refine (pfail_c _ _).mono ?_;rintro e wf ⟨rfl,ht⟩;have hH:=hF.after ht;have hI:=hQ.after ht;have hZ:=hH.lt;have h3:=hI.lt;have h6:=bt hr ht;obtain⟨hg,hJ,hh,hM,hj,hN⟩:=hH.x3;obtain⟨hl,hO,hp,hU,hq,hY⟩:=hI.x3;go_wp2;(try rw[Exit.noGoto_ret])
    refine bodyPost_ret (v:=.tuple #[.agg #[.slice none 0 0,.string ⟨#[]⟩,.slice none 0 0],.agg #[.slice none 0 0,.string ⟨#[]⟩,.int .i64 0],.int .i64 2]) ?_ rfl ?_
    ·simp[results,Tryz.results10,go_sem,hg,hh,hj,hl,hp,hq,hZ,h3,Hp,Ht]
    ·rw[HX.out.2.1,HX.out.2.2,HX.out.1];exact ppost_err (by decide) rfl rfl ((((((h6.setCell he.out.2.1 _).setCell he.out.2.1 _).setCell he.out.2.1 _).setCell he.out.2.2.1 _).setCell he.out.2.2.1 _).setCell he.out.2.2.1 _)
   ·clear hR;obtain⟨hw,hy,hA,hD,hE,hG⟩:=hP.x3;go_wp2_with fail
    refine (HR.out _ hr).mono ?_;rintro e w5 ⟨rfl,Hq⟩;clear hw hy hA hD hE hG;replace hP:=hP.after Hq;replace hT:=hT.after Hq;replace hF:=hF.after Hq;replace hQ:=hQ.after Hq;replace hB:=hB.after Hq;replace hV:=SsAt.after hV Hq;replace hr:=bt hr Hq;clear Hq HR;cases bh
    ·have HX:=Kh (HJ.out 18 (by decide) (prv_d (att:=att) (K:=K) (T:=T) jj.out jk.out je.out.symm jv.out.symm));go_wp2_with fail
     refine (pfail_c _ _).mono ?_;rintro e wf ⟨rfl,ht⟩;have hH:=hF.after ht;have hI:=hQ.after ht;have hZ:=hH.lt;have h3:=hI.lt;have h6:=bt hr ht;obtain⟨hg,hJ,hh,hM,hj,hN⟩:=hH.x3;obtain⟨hl,hO,hp,hU,hq,hY⟩:=hI.x3;go_wp2;(try rw[Exit.noGoto_ret])
     refine bodyPost_ret (v:=.tuple #[.agg #[.slice none 0 0,.string ⟨#[]⟩,.slice none 0 0],.agg #[.slice none 0 0,.string ⟨#[]⟩,.int .i64 0],.int .i64 18]) ?_ rfl ?_
     ·simp[results,Tryz.results10,go_sem,hg,hh,hj,hl,hp,hq,hZ,h3,Hp,Ht]
     ·rw[HX.out.2.1,HX.out.2.2,HX.out.1];exact ppost_err (by decide) rfl rfl ((((((h6.setCell he.out.2.1 _).setCell he.out.2.1 _).setCell he.out.2.1 _).setCell he.out.2.2.1 _).setCell he.out.2.2.1 _).setCell he.out.2.2.1 _)
    ·have h4:Hid (RR=N.prv att C K c W 64 T):=j1.out.trans (prv_e (att:=att) (K:=K) (T:=T) jj.out jk.out je.out.symm jv.out.symm);clear HJ j1 je jv;have JT:Hid (gS<w5.heap.size∧gT<w5.heap.size∧gF<w5.heap.size∧gQ<w5.heap.size):=⟨hP.lt,hT.lt,hF.lt,hQ.lt⟩;go_wp2;go_step3
     go_wp2;go_loopw [101] (fun v wr=>∃(i:Nat) (Ti:Tp) (uo:Option Addr) (um uc:Nat),i≤64∧v=.int .i64 i∧Hid (RR=N.prv att C K c W (64-i) Ti∧Ti.seed=T.seed∧Ti.Ok)∧Blk wr gS 43 [.slice a1 n1 c1,.slice a2 nw c2,.slice a3 n3 c3]∧Blk wr gT 35 [.slice uo um uc,.string Ti.seed,.int .i64 Ti.pos]∧Blk wr gF 54 [.slice none 0 0,.string ⟨#[]⟩,.slice none 0 0]∧Blk wr gQ 35 [.slice none 0 0,.string ⟨#[]⟩,.int .i64 0]∧LmOwn wr B (.slice a6 nw c6) (N.lims C K)∧SsAt wr (.slice uo um uc) Ti.vals∧FarS (.slice uo um uc) gT∧FarS (.slice uo um uc) gF∧FarS (.slice uo um uc) gQ∧Hid (w5.heap.size≤wr.heap.size)∧Bw w wr) (fun v _=>64-(intOf v).toNat)
     case atStart=>exact⟨0,T,a5,nt,c5,by omega,rfl,⟨h4.out,rfl,JK.out⟩,hP,hT,hF,hQ,hB,hV,HN,HO,HP,Nat.le_refl _,hr⟩
     case round =>
      clear hP hT hF hQ hB hV HN HO HP hr h4;obtain⟨i,Ti,uo,um,uc,hi,rfl,h4,hP,hT,hF,hQ,hB,hV,Jc,Jd,Je,Jf,hr⟩:=hrel;obtain⟨wp,JN⟩:∃wp,wp=wr:=⟨_,rfl⟩;subst JN;by_cases hlt:i<64
      ·obtain⟨f,hf⟩:∃f,64-i=f+1:=⟨63-i,by omega⟩;have JO:Hid (64-(i+1)=f):=by rw[Hid];omega
       rw[hf]at h4;clear hf;have jG:=Kh (j3.out Ti _ _ _ wp (by rw[h4.out.2.1];exact JJ.out) h4.out.2.2 hr hB hV);have HS:Hid ((N.drwR att C K Ti).err≠0→RR=⟨(N.drwR att C K Ti).err,[],Tp.nil⟩):=fun h=>h4.out.1.trans (prv_err h)
       have HT:Hid ((N.drwR att C K Ti).err=0→N.rsp2 C K c W (N.drwR att C K Ti).msk=0→RR=N.drwR att C K Ti):=fun h h2=>h4.out.1.trans (prv_done h h2)
       have HU:Hid ((N.drwR att C K Ti).err=0→N.rsp2 C K c W (N.drwR att C K Ti).msk≠0→RR=N.prv att C K c W f (N.drwR att C K Ti).tp):=fun h h2=>h4.out.1.trans (prv_next h h2)
       have HV:Hid ((N.drwR att C K Ti).err=0→(N.drwR att C K Ti).tp.seed=T.seed∧(N.drwR att C K Ti).tp.Ok∧(N.drwR att C K Ti).msk.length=nw∧∀z∈(N.drwR att C K Ti).msk,z.natAbs<256^64):=fun h=>by
        obtain⟨e1,e2,e3⟩:=j5.out Ti h;rw[e1];exact⟨h4.out.2.1,h4.out.2.2.on _,e2,e3⟩
       clear h4;generalize N.drwR att C K Ti=D at jG HS HT HU HV;obtain⟨ke,M,tD⟩:=D;simp only[]at HS HT HU HV;have jl:=hT.lt;obtain⟨hw,hy,hA,hD,hE,hG⟩:=hP.x3;obtain⟨Hu,Hv,Hw,Hx,Hy,Hz⟩:=hT.x3;go_wp2_with fail
       refine jG.out.mono ?_;rintro e w6 ⟨mv,u2,rfl,HW,HY,HZ,Jg⟩;clear hw hy hA hD hE hG;clear Hu Hv Hw Hx Hy Hz;simp only[]at HW HY HZ ⊢;have f2T:=HZ gT hT.lt Jc;have f2F:=HZ gF hF.lt Jd;have f2Q:=HZ gQ hQ.lt Je;obtain⟨u2o,u2c,rfl⟩:=RAt.form HY;obtain⟨ul,Jh⟩:∃l,l=tD.vals.length:=⟨_,rfl⟩;rw[←Jh]at HY f2T f2F f2Q ⊢;obtain⟨mo,mc,rfl⟩:=HW.zs.form;obtain⟨ml,jH⟩:∃l,l=M.length:=⟨_,rfl⟩;have JU:=Kh jH;rw[←jH]at HW ⊢;clear HZ hV Jc Jd Je jl Jh jH jG;have Hd:=bt Jg (b1 w6 (.cells #[.slice u2o ul u2c,.string tD.seed,.int .i64 tD.pos] 35));have hX:=Blk.new w6 #[.slice u2o ul u2c,.string tD.seed,.int .i64 tD.pos] 35;replace hP:=hP.after Hd;replace hT:=hT.after Hd;replace hF:=hF.after Hd;replace hQ:=hQ.after Hd;replace hB:=hB.after Hd;replace hr:=bt hr Hd;have jI:Hid (w5.heap.size≤w6.heap.size+1):=by have h:=Nat.le_trans Jf.out Hd.size;rw[World.size_alloc]at h;exact h
       have jm:=SsAt.after HY (b1 w6 (.cells #[.slice u2o ul u2c,.string tD.seed,.int .i64 tD.pos] 35));have H0:ZOwn _ wp.heap.size (.slice mo ml mc) M:=own_after HW (b1 w6 (.cells #[.slice u2o ul u2c,.string tD.seed,.int .i64 tD.pos] 35));clear HY HW Jg Jf;by_cases H1:ke=0
       ·subst H1;have Hn:=Kh (HV.out rfl);have H2:=Kh (HT.out rfl);have H3:=Kh (HU.out rfl);clear HS HT HU HV;go_upto_region 21 with fail
        generalize w6.alloc (.cells #[.slice u2o ul u2c,.string tD.seed,.int .i64 tD.pos] 35)=w7 at Hd hX hP hT hF hQ hB hr jm H0 ⊢;obtain⟨gX,Ji⟩:∃g,w6.heap.size=g:=⟨_,rfl⟩;rw[Ji]at hX jI ⊢;clear Ji;replace hX:Blk w7 gX 35 [.slice u2o ul u2c,.string tD.seed,.int .i64 tD.pos]:=hX;have Jj:=hX.lt;have jl:=hT.lt;have jn:=own_ne H0 hT (by decide);have jo:=own_ne hB hT (by decide);have Hr:=((hP.other ⟨gT,0,none⟩ (.slice u2o ul u2c) he.out.2.2.2.1).other ⟨gT,1,none⟩ (.string tD.seed) he.out.2.2.2.1).other ⟨gT,2,none⟩ (.int .i64 tD.pos) he.out.2.2.2.1;have He:=((hT.set 0 (.slice u2o ul u2c)).set 1 (.string tD.seed)).set 2 (.int .i64 tD.pos);have Hf:=((hF.other ⟨gT,0,none⟩ (.slice u2o ul u2c) he.out.2.2.2.2.1).other ⟨gT,1,none⟩ (.string tD.seed) he.out.2.2.2.2.1).other ⟨gT,2,none⟩ (.int .i64 tD.pos) he.out.2.2.2.2.1;have Hg:=((hQ.other ⟨gT,0,none⟩ (.slice u2o ul u2c) he.out.2.2.2.2.2.1).other ⟨gT,1,none⟩ (.string tD.seed) he.out.2.2.2.2.2.1).other ⟨gT,2,none⟩ (.int .i64 tD.pos) he.out.2.2.2.2.2.1;have HA:LmOwn (((w7.setCell ⟨gT,0,none⟩ (.slice u2o ul u2c)).setCell ⟨gT,1,none⟩ (.string tD.seed)).setCell ⟨gT,2,none⟩ (.int .i64 tD.pos)) B (.slice a6 nw c6) (N.lims C K):=own_set (own_set (own_set hB jo) jo) jo;have jp:ZOwn (((w7.setCell ⟨gT,0,none⟩ (.slice u2o ul u2c)).setCell ⟨gT,1,none⟩ (.string tD.seed)).setCell ⟨gT,2,none⟩ (.int .i64 tD.pos)) wp.heap.size (.slice mo ml mc) M:=own_set (own_set (own_set H0 jn) jn) jn;have HB:=((jm.set_far (i:=0) (x:=.slice u2o ul u2c) f2T).set_far (i:=1) (x:=.string tD.seed) f2T).set_far (i:=2) (x:=.int .i64 tD.pos) f2T;have hv:=((hr.setCell (p:=⟨gT,0,none⟩) he.out.1 (.slice u2o ul u2c)).setCell (p:=⟨gT,1,none⟩) he.out.1 (.string tD.seed)).setCell (p:=⟨gT,2,none⟩) he.out.1 (.int .i64 tD.pos);have jJ:Hid (w5.heap.size≤(((w7.setCell ⟨gT,0,none⟩ (.slice u2o ul u2c)).setCell ⟨gT,1,none⟩ (.string tD.seed)).setCell ⟨gT,2,none⟩ (.int .i64 tD.pos)).heap.size):=by rw[Hid];have h:=jI.out;have h2:=Jj;simp;omega
        obtain⟨jK,jL,jM,jN,jO,jP⟩:=hX.x3;obtain⟨Hu,Hv,Hw,Hx,Hy,Hz⟩:=hT.x3;go_upto_region 22 with fail
        clear jK jL jM jN jO jP;clear Hu Hv Hw Hx Hy Hz;clear Hd hX hP hT hF hQ hB hr jm H0 Jj jl jn jo jI;generalize ((w7.setCell ⟨gT,0,none⟩ (.slice u2o ul u2c)).setCell ⟨gT,1,none⟩ (.string tD.seed)).setCell ⟨gT,2,none⟩ (.int .i64 tD.pos)=w8 at Hr He Hf Hg HA jp HB hv jJ ⊢;replace He:Blk w8 gT 35 [.slice u2o ul u2c,.string tD.seed,.int .i64 tD.pos]:=He;have Jk:=Kh Hn.out.2.2.2;have Jl:=Kh Hn.out.2.2.1;have Jm:=Kh (j4.out M _ w8 hv jp.zs Jk.out Jl.out);obtain⟨h7,h8,h9,Ha,Hb,Hc⟩:=Hr.x3;go_wp2_with fail
        refine Jm.out.mono ?_;rintro e w9 ⟨fv,rfl,HG,hb9⟩;clear h7 h8 h9 Ha Hb Hc;obtain⟨fo,fc,rfl⟩:=RAt.form HG.ss;obtain⟨fl,Jn⟩:∃l,l=((N.imgs M).map E).length:=⟨_,rfl⟩;rw[←Jn]at HG ⊢;replace Hr:=Hr.after hb9;replace He:=He.after hb9;replace Hf:=Hf.after hb9;replace Hg:=Hg.after hb9;replace HA:=HA.after hb9;have Jo:ZOwn w9 wp.heap.size (.slice mo ml mc) M:=own_after jp hb9;replace HB:=SsAt.after HB hb9;have Jp:=hv.size;replace HG:NOwn w9 w.heap.size (.slice fo fl fc) (N.imgs M):=own_mono HG Jp;replace hv:=bt hv hb9;have Jq:Hid (w5.heap.size≤w9.heap.size):=Nat.le_trans jJ.out hb9.size;clear hb9 Jm jp jJ Jn Jp;have Jr:=Kh (jF.out M _ _ _ w9 hv HA Jo.zs Jk.out Jl.out);obtain⟨h7,h8,h9,Ha,Hb,Hc⟩:=Hr.x3;go_wp2_with fail
        refine Jr.out.mono ?_;rintro e wA ⟨rv,rfl,Hs,Hh⟩;clear h7 h8 h9 Ha Hb Hc;obtain⟨ro,rc,rfl⟩:=Hs.zs.form;obtain⟨rl,Js⟩:∃l,l=(N.rspR2 C K c W M).length:=⟨_,rfl⟩;rw[←Js]at Hs ⊢;replace Hr:=Hr.after Hh;replace He:=He.after Hh;replace Hf:=Hf.after Hh;replace Hg:=Hg.after Hh;replace HA:=HA.after Hh;replace HB:=SsAt.after HB Hh;have jQ:NOwn wA w.heap.size (.slice fo fl fc) (N.imgs M):=own_after HG Hh;have Jt:=hv.size;replace Hs:ZOwn wA w.heap.size (.slice ro rl rc) (N.rspR2 C K c W M):=own_mono Hs Jt;replace hv:=bt hv Hh;have JP:Hid (w5.heap.size≤wA.heap.size):=Nat.le_trans Jq.out Hh.size;clear Hh Jr HG Jo Jq Js Jt
        have H4:Hid (N.rsp2 C K c W M=0∨N.rsp2 C K c W M=15):=by
         unfold Hid NSta.rsp2;split
         ·exact .inr rfl
         ·exact .inl rfl
        have Ju:Hid (N.rsp2 C K c W M=0→N.rspR2 C K c W M=N.rspL c W M):=fun h=>by unfold NSta.rspR2;rw[if_pos h]
        generalize N.rsp2 C K c W M=r2 at H4 Ju H2 H3 ⊢;rcases H4.out with jR | jR
        ·subst jR;have HC:=Kh (H2.out rfl);have jS:=Kh (Ju.out rfl);rw[jS.out]at Hs;have jT:=own_ne jQ Hf (by decide);have jU:=own_ne jQ Hg (by decide);have jV:=own_ne Hs Hf (by decide);have jW:=own_ne Hs Hg (by decide);have jl:=He.lt;have hZ:=Hf.lt;have h3:=Hg.lt;have n1':¬ gT=gF:=fun e=>he.out.2.2.2.2.1 e.symm
         have n2':¬ gT=gQ:=fun e=>he.out.2.2.2.2.2.1 e.symm
         obtain⟨Jv,Jw,Jx,Jy,Jz,JA⟩:=He.x3;obtain⟨H5,JB,H6,JC,H7,JD⟩:=Hf.x3;obtain⟨H8,JE,H9,JF,ja,JG⟩:=Hg.x3;go_wp2_with fail
         go_region;go_wp2;(try rw[Exit.noGoto_ret])
         refine bodyPost_ret (v:=.tuple #[.agg #[.slice fo fl fc,.string (E c),.slice ro rl rc],.agg #[.slice u2o ul u2c,.string tD.seed,.int .i64 tD.pos],.int .i64 0]) ?_ rfl ?_
         ·simp[results,Tryz.results10,go_sem,H5,H6,H7,H8,H9,ja,hZ,h3,Hp,Ht]
         ·rw[(HK.out (by rw[HC.out])).1,(HK.out (by rw[HC.out])).2,HC.out];exact⟨_,_,_,_,rfl,rfl,World.ownsRow.drew (own_set (own_set (own_set (own_set (own_set (own_set jQ jT) jT) jT) jU) jU) jU),World.ownsRow.drew (own_set (own_set (own_set (own_set (own_set (own_set Hs jV) jV) jV) jW) jW) jW),SsAt.after ((((((HB.set_far f2F).set_far f2F).set_far f2F).set_far f2Q).set_far f2Q).set_far f2Q) (Below.drew Br),((((((hv.setCell he.out.2.1 _).setCell he.out.2.1 _).setCell he.out.2.1 _).setCell he.out.2.2.1 _).setCell he.out.2.2.1 _).setCell he.out.2.2.1 _).drew⟩
        ·subst jR;have JQ:=Kh (H3.out (by decide));go_wp2;go_roundw
         case rel=>exact⟨i+1,tD,u2o,ul,u2c,by omega,by go_num,⟨by rw[JO.out];exact JQ.out,Hn.out.1,Hn.out.2.1⟩,Hr,He,Hf,Hg,HA,HB,f2T,f2F,f2Q,JP.out,hv⟩
         case measure=>simp[intOf];omega
       ·have JV:((ke:Int) != 0)=true:=by rw[bne_iff_ne];omega
        have jb:=Kh (HS.out H1);have HX:Hid (RR=⟨ke,[],Tp.nil⟩∧RF=[]∧RY=[]):=⟨jb.out,HL.out ke H1 jb.out⟩;have JR:=Kh H1;clear H1 HS HT HU HV jm H0 hX Hd hB hP hT;go_wp2_with fail
        refine (pfail_c _ _).mono ?_;rintro e wf ⟨rfl,ht⟩;have hH:=hF.after ht;have hI:=hQ.after ht;have hZ:=hH.lt;have h3:=hI.lt;have h6:=bt hr ht;obtain⟨hg,hJ,hh,hM,hj,hN⟩:=hH.x3;obtain⟨hl,hO,hp,hU,hq,hY⟩:=hI.x3;go_wp2;(try rw[Exit.noGoto_ret])
        refine bodyPost_ret (v:=.tuple #[.agg #[.slice none 0 0,.string ⟨#[]⟩,.slice none 0 0],.agg #[.slice none 0 0,.string ⟨#[]⟩,.int .i64 0],.int .i64 (ke:Int)]) ?_ rfl ?_
        ·simp[results,Tryz.results10,go_sem,hg,hh,hj,hl,hp,hq,hZ,h3,Hp,Ht]
        ·rw[HX.out.2.1,HX.out.2.2,HX.out.1];exact ppost_err JR.out rfl rfl ((((((h6.setCell he.out.2.1 _).setCell he.out.2.1 _).setCell he.out.2.1 _).setCell he.out.2.2.1 _).setCell he.out.2.2.1 _).setCell he.out.2.2.1 _)
      ·obtain rfl:i=64:=by omega
       have jb:Hid (RR=⟨15,[],Tp.nil⟩):=h4.out.1;have HX:Hid (RR=⟨15,[],Tp.nil⟩∧RF=[]∧RY=[]):=⟨jb.out,HL.out 15 (by decide) jb.out⟩;go_wp2_with fail
       refine (pfail_c _ _).mono ?_;rintro e wf ⟨rfl,ht⟩;have hH:=hF.after ht;have hI:=hQ.after ht;have hZ:=hH.lt;have h3:=hI.lt;have h6:=bt hr ht;obtain⟨hg,hJ,hh,hM,hj,hN⟩:=hH.x3;obtain⟨hl,hO,hp,hU,hq,hY⟩:=hI.x3;go_wp2;(try rw[Exit.noGoto_ret])
       refine bodyPost_ret (v:=.tuple #[.agg #[.slice none 0 0,.string ⟨#[]⟩,.slice none 0 0],.agg #[.slice none 0 0,.string ⟨#[]⟩,.int .i64 0],.int .i64 15]) ?_ rfl ?_
       ·simp[results,Tryz.results10,go_sem,hg,hh,hj,hl,hp,hq,hZ,h3,Hp,Ht]
       ·rw[HX.out.2.1,HX.out.2.2,HX.out.1];exact ppost_err (by decide) rfl rfl ((((((h6.setCell he.out.2.1 _).setCell he.out.2.1 _).setCell he.out.2.1 _).setCell he.out.2.2.1 _).setCell he.out.2.2.1 _).setCell he.out.2.2.1 _)
  ·have HX:=Kh (HJ.out 2 (by decide) (prv_b (att:=att) (K:=K) (T:=T) jj.out jE));have hd:decide (0≤cmpN c C)=true:=Dt (by have:=cmp_nneg c C jE;omega);have h5:0≤cmpN c C:=of_decide_eq_true hd;clear jE;generalize cmpN c C=q at HM hd h5;obtain⟨Hi,Hj,Hk,Hl⟩:=hR.x2;obtain⟨hw,hy,hA,hD,hE,hG⟩:=hP.x3;go_wp2_with fail
   refine (HM.out _).mono ?_;rintro e w' ⟨rfl,rfl⟩;go_wp2_with fail
   refine (pfail_c _ _).mono ?_;rintro e wf ⟨rfl,ht⟩;have hH:=hF.after ht;have hI:=hQ.after ht;have hZ:=hH.lt;have h3:=hI.lt;have h6:=bt hr ht;obtain⟨hg,hJ,hh,hM,hj,hN⟩:=hH.x3;obtain⟨hl,hO,hp,hU,hq,hY⟩:=hI.x3;go_wp2;(try rw[Exit.noGoto_ret])
   refine bodyPost_ret (v:=.tuple #[.agg #[.slice none 0 0,.string ⟨#[]⟩,.slice none 0 0],.agg #[.slice none 0 0,.string ⟨#[]⟩,.int .i64 0],.int .i64 2]) ?_ rfl ?_
   ·simp[results,Tryz.results10,go_sem,hg,hh,hj,hl,hp,hq,hZ,h3,Hp,Ht]
   ·rw[HX.out.2.1,HX.out.2.2,HX.out.1];exact ppost_err (by decide) rfl rfl ((((((h6.setCell he.out.2.1 _).setCell he.out.2.1 _).setCell he.out.2.1 _).setCell he.out.2.2.1 _).setCell he.out.2.2.1 _).setCell he.out.2.2.1 _)
 ·have HX:=Kh (HJ.out 6 (by decide) (prv_a (att:=att) (C:=C) (K:=K) (c:=c) (T:=T) (by rw[←j7.out,←jy.out];exact HF)));have h2:((nw:Int) != (n2:Int))=true:=by rw[bne_iff_ne];omega
  have JW:((nw:Int)==(n2:Int))=false:=by rw[beq_eq_false_iff_ne];omega
  clear HF;obtain⟨hw,hy,hA,hD,hE,hG⟩:=hP.x3;go_wp2_with fail
  refine (pfail_c _ _).mono ?_;rintro e wf ⟨rfl,ht⟩;have hH:=hF.after ht;have hI:=hQ.after ht;have hZ:=hH.lt;have h3:=hI.lt;have h6:=bt hr ht;obtain⟨hg,hJ,hh,hM,hj,hN⟩:=hH.x3;obtain⟨hl,hO,hp,hU,hq,hY⟩:=hI.x3;go_wp2;(try rw[Exit.noGoto_ret])
  refine bodyPost_ret (v:=.tuple #[.agg #[.slice none 0 0,.string ⟨#[]⟩,.slice none 0 0],.agg #[.slice none 0 0,.string ⟨#[]⟩,.int .i64 0],.int .i64 6]) ?_ rfl ?_
  ·simp[results,Tryz.results10,go_sem,hg,hh,hj,hl,hp,hq,hZ,h3,Hp,Ht]
  ·rw[HX.out.2.1,HX.out.2.2,HX.out.1];exact ppost_err (by decide) rfl rfl ((((((h6.setCell he.out.2.1 _).setCell he.out.2.1 _).setCell he.out.2.1 _).setCell he.out.2.2.1 _).setCell he.out.2.2.1 _).setCell he.out.2.2.1 _)
end
section
open Go.RowKit Go.Shelf
theorem prv_ok (N:NSta) (att:Att) (C K c:Nat) (W:List Int):∀(f:Nat) (T:Tp),(N.prv att C K c W f T).err=0→N.rsp2 C K c W (N.prv att C K c W f T).msk=0
 | 0,T,h=>by cases h
 | f+1,T,h=>by
  by_cases h1:(N.drwR att C K T).err=0
  ·by_cases h2:N.rsp2 C K c W (N.drwR att C K T).msk=0
   ·rw[prv_done h1 h2];exact h2
   ·rw[prv_next h1 h2]at h ⊢;exact prv_ok N att C K c W f _ h
  ·rw[prv_err h1]at h;exact absurd h h1
theorem prvR_ok {N:NSta} {att:Att} {C K c:Nat} {W:List Int} {T:Tp} (h:(N.prvR att C K c W T).err=0):c<C∧N.hldB W=true∧N.rsp2 C K c W (N.prvR att C K c W T).msk=0:=by
 by_cases h1:W.length=N.vars.length
 ·rcases Nat.lt_or_ge c C with h2 | h2
  ·cases h3:ra N.vars.length (inJ N W) with
   | false=>rw[prv_c h1 h2 h3]at h;cases h
   | true =>
    cases h4:N.hldB W with
    | false=>rw[prv_d h1 h2 h3 h4]at h;cases h
    | true =>
     rw[prv_e h1 h2 h3 h4]at h ⊢;exact⟨h2,rfl,prv_ok N att C K c W 64 T h⟩
  ·rw[prv_b h1 h2]at h;cases h
 ·rw[prv_a h1]at h;cases h
theorem lim_le (q C K b:Nat):(lim q C K b).2≤(lim q C K b).1:=by
 unfold lim;split
 ·exact Nat.le_refl _
 ·exact Nat.sub_le _ _
theorem rspL_lt {N:NSta} (hm:NOk N) {C K c:Nat} {W M:List Int} (hC:C<256^16) (hK:K<256^16) (h:N.rsp2 C K c W M=0):∀z∈N.rspL c W M,z.natAbs<256^64:=by
 intro z hz;obtain⟨j,hj,rfl⟩:=List.mem_map.1 hz;have hb:=List.mem_range.1 hj
 have hr:ra N.vars.length (rsJ N C K c W M)=true:=by
  unfold NSta.rsp2 at h;cases hh:ra N.vars.length (rsJ N C K c W M) with
  | true=>rfl
  | false=>rw[if_pos hh]at h;cases h
 have h1:=ra_at hr hb;unfold rsJ blw at h1;rw[List.getD_eq_getElem?_getD (l:=N.vars),List.getElem?_eq_getElem hb,Option.getD_some]at h1;simp only[Bool.and_eq_true,decide_eq_true_eq]at h1;have h2:=lims1_lt hm hC hK (Gm hb);have h3:=lim_le N.ord C K N.vars[j];exact Nat.lt_trans h1.1 (Nat.lt_of_le_of_lt h3 (Nl h2 P8))
theorem imgs_lt {N:NSta} (hm:NOk N) (hc:N.chk=0) {W:List Int} (M:List Int) (hH:N.hldB W=true):∀x∈N.imgs M,x<256^128:=by
 intro x hx;obtain⟨q,hq,rfl⟩:=List.mem_map.1 hx;obtain⟨j,hj,rfl⟩:=List.getElem_of_mem hq;unfold NSta.hldB at hH;simp only[Bool.and_eq_true,decide_eq_true_iff]at hH;have h1:=(compl_key (c:=0) (W:=W) (M:=M) hm hc hH.2.2 j hj).1;have h2:=has_lt h1;have hg:=(hm.e _ (Gm hj)).1;rw[gp_at N _ hg]at h2;have h3:=(hm.g _ (Gm hg)).1;exact Nat.lt_trans (by rw[gp_at N _ hg]at *;exact h2) (Nl h3 P8)
def cerr (k:Nat):Prop:=k=0∨k=2∨k=14
theorem coin_inv {att:Att} {T:Tp} {n:Nat} (hl:T.vals.length≤100) (h:(coin att T n).1=0):T.good=true∧T.pos<2147483647:=by
 unfold coin at h;split at h
 ·cases h
 rename_i h1;have h1:T.good=true:=by cases hh:T.good;exact absurd hh h1;rfl
 split at h
 ·cases h
 rename_i h2;refine⟨h1,?_⟩;unfold Tp.good at h1;simp only[Bool.and_eq_true,decide_eq_true_eq]at h1;have h3:=h1.2.1;have h4:=h1.2.2;unfold coinD at h;split at h
 ·rename_i h5;omega
 ·split at h
  ·cases h
  ·rename_i h5;have:T.pos≠2147483647:=fun e=>h5 (.inr e)
   omega
theorem coinD_err (att:Att) (T:Tp) (n:Nat):cerr (coinD att T n).1:=by
 unfold coinD;split
 ·split
  ·exact .inl rfl
  ·exact .inr (.inl rfl)
 ·split
  ·exact .inr (.inr rfl)
  ·unfold coinS;split
   ·exact .inl rfl
   ·exact .inr (.inr rfl)
theorem csgn_err {att:Att} {T:Tp} {m:Nat} (hl:T.vals.length≤100) (hg:T.good=true) (hm:m≠0):cerr (csgn att T m).1∧((csgn att T m).1=0→T.pos<2147483647):=by
 have hr:T.rdy m=0:=by unfold Tp.rdy;rw[if_neg (by rw[hg];decide),if_neg hm]
 have hc:=coinD_err att T (2*m-1);have e:coin att T (2*m-1)=coinD att T (2*m-1):=by unfold coin;rw[if_neg (by rw[hg];decide),if_neg (by omega)]
 unfold csgn;rw[if_neg (by rw[hr];decide)];split
 ·rename_i h;exact⟨.inl rfl,fun _=>(coin_inv hl (by rw[e];exact h)).2⟩
 ·rename_i h;exact⟨hc,fun h2=>absurd h2 h⟩
theorem tp_on_good {T:Tp} (hg:T.good=true) (h:T.pos<2147483647):(T.on 1).good=true:=by
 unfold Tp.good at hg ⊢;simp only[Bool.and_eq_true,decide_eq_true_eq]at hg ⊢;refine⟨hg.1,?_,?_⟩
 ·show 0≤T.pos+((1:Nat):Int);omega
 ·show T.pos+((1:Nat):Int)≤2147483647;omega
theorem lim_pos {q C K b:Nat} (hb:b≠0) (hC:2≤C) (hK:2≤K):(lim q C K b).1≠0:=by
 unfold lim;rw[if_neg hb];exact Nat.ne_of_gt (Nat.mul_pos (Nat.mul_pos (by omega) (by omega)) (by omega))
def NSta.nz (N:NSta):Prop:=∀j,j<N.vars.length→N.vars.getD j 0≠0
theorem drw_err1 {N:NSta} {att:Att} {C K j:Nat} {T:Tp} (hn:N.nz) (hC:2≤C) (hK:2≤K) (hj:j<N.vars.length) (hl:T.vals.length≤100) (hg:(T.on j).good=true):cerr (N.drw att C K T j).1∧((N.drw att C K T j).1=0→(T.on (j+1)).good=true):=by
 have h:=csgn_err (att:=att) (T:=T.on j) (m:=(lim N.ord C K (N.vars.getD j 0)).1) hl hg (lim_pos (hn j hj) hC hK);have e:N.drw att C K T j=csgn att (T.on j) (lim N.ord C K (N.vars.getD j 0)).1:=by unfold NSta.drw drwJ;rw[if_neg (hn j hj)]
 rw[e];exact⟨h.1,fun h2=>by rw[←Tp.on_on];exact tp_on_good hg (h.2 h2)⟩
theorem drw_good {N:NSta} {att:Att} {C K:Nat} {T:Tp} (hn:N.nz) (hC:2≤C) (hK:2≤K) (hl:T.vals.length≤100) (hg:T.good=true):∀k,k≤N.vars.length→(∀j,j<k→(N.drw att C K T j).1=0)→(T.on k).good=true
 | 0,_,_=>by rw[Tp.on_zero];exact hg
 | k+1,hk,h=>(drw_err1 hn hC hK (by omega) hl (drw_good hn hC hK hl hg k (by omega) (fun j hj=>h j (by omega)))).2 (h k (by omega))
theorem drwR_err {N:NSta} {att:Att} {C K:Nat} {T:Tp} (hn:N.nz) (hC:2≤C) (hK:2≤K) (hl:T.vals.length≤100) (hg:T.good=true):cerr (N.drwR att C K T).err∧((N.drwR att C K T).err=0→(N.drwR att C K T).tp.good=true∧(N.drwR att C K T).tp.vals.length≤100):=by
 refine⟨?_,fun h=>?_⟩
 ·by_cases h0:∀j,j<N.vars.length→(N.drw att C K T j).1=0
  ·rw[drw_ok h0];exact .inl rfl
  ·have hk:∀k,k≤N.vars.length→(∃j,j<k∧(N.drw att C K T j).1≠0∧∀i,i<j→(N.drw att C K T i).1=0)∨∀j,j<k→(N.drw att C K T j).1=0:=by
    intro k;induction k with
    | zero=>exact fun _=>.inr fun j h=>absurd h (Nat.not_lt_zero _)
    | succ k ih =>
     intro hk;rcases ih (by omega) with⟨j,h1,h2⟩ | h1
     ·exact .inl ⟨j,by omega,h2⟩
     ·by_cases h2:(N.drw att C K T k).1=0
      ·exact .inr fun j hj=>by
        by_cases e:j=k
        ·rw[e];exact h2
        ·exact h1 j (by omega)
      ·exact .inl ⟨k,by omega,h2,h1⟩
   rcases hk N.vars.length (Nat.le_refl _) with⟨j,h1,h2,h3⟩ | h1
   ·rw[drw_bad h1 h3 h2];exact (drw_err1 hn hC hK h1 hl (drw_good hn hC hK hl hg j (by omega) h3)).1
   ·exact absurd h1 h0
 ·obtain⟨e,hb⟩:=drw_inv h;rw[e];exact⟨drw_good hn hC hK hl hg _ (Nat.le_refl _) hb,hl⟩
theorem prv_errs {N:NSta} {att:Att} {C K c:Nat} {W:List Int} (hn:N.nz) (hC:2≤C) (hK:2≤K):∀(f:Nat) (T:Tp),T.vals.length≤100→T.good=true→(N.prv att C K c W f T).err=0∨(N.prv att C K c W f T).err=2∨(N.prv att C K c W f T).err=14∨(N.prv att C K c W f T).err=15
 | 0,T,_,_=>.inr (.inr (.inr rfl))
 | f+1,T,hl,hg=>by
  obtain⟨h1,h2⟩:=drwR_err (att:=att) hn hC hK hl hg;by_cases h3:(N.drwR att C K T).err=0
  ·by_cases h4:N.rsp2 C K c W (N.drwR att C K T).msk=0
   ·rw[prv_done h3 h4];exact .inl h3
   ·rw[prv_next h3 h4];exact prv_errs hn hC hK f _ (h2 h3).2 (h2 h3).1
  ·rw[prv_err h3];rcases h1 with h1 | h1 | h1
   ·exact .inl h1
   ·exact .inr (.inl h1)
   ·exact .inr (.inr (.inl h1))
theorem prvR_errs {N:NSta} {att:Att} {C K c:Nat} {W:List Int} {T:Tp} (hn:N.nz) (hC:2≤C) (hK:2≤K) (hl:T.vals.length≤100) (hg:T.good=true) (hW:W.length=N.vars.length) (hc:c<C) (hH:N.hldB W=true) :
  (N.prvR att C K c W T).err=0∨(N.prvR att C K c W T).err=2∨(N.prvR att C K c W T).err=14∨(N.prvR att C K c W T).err=15:=by
 cases h:ra N.vars.length (inJ N W) with
 | false=>rw[prv_c hW hc h];exact .inr (.inl rfl)
 | true=>rw[prv_e hW hc h hH];exact prv_errs hn hC hK 64 T hl hg
theorem prove_N (att:Att) (N:NSta) (C K x:Nat) (W:List Int) (T:Tp) (v1 v2 v3 vw vt:Value) (w:World) (hb:HAtt att T.seed w) (hc:T.Ok) (hC:C<256^16) (hK:K<256^16) (hd:2≤C) (he:2≤K) (hm:NOk N) (hS:NAt w v1 v2 v3 N) (h0:N.chk=0) (hv:N.vars.any vz=true→C≤N.ord)
  (hW:ZsAt w vw W) (hV:SsAt w vt T.vals) (hx:x<256^100) (hf:W.length≤1000) (hg:∀z∈W,z.natAbs<256^64) :
  Calls Tryz.prog 10 #[.agg #[.string (E C),.string (E K)],.agg #[v1,v2,v3],vw,.string (E x),.agg #[vt,.string T.seed,.int .i64 T.pos]] w (PPost w (E x) (N.prvR att C K x W T) (N.fstR (N.prvR att C K x W T)) (N.rspO x W (N.prvR att C K x W T))):=
 sprove_num att N C K x W T v1 v2 v3 vw vt w hb hc hC hK hm hS h0 (fun w2 hh=>bounds_ok N C K v1 v2 v3 w2 hC hK hd he hv hm (hS.after hh) h0) hW hV hx hf hg (fun h=>by have:=hv h;omega)
theorem verify_N (att:Att) (N:NSta) (C K x:Nat) (W:List Int) (T:Tp) (v1 v2 v3 fv rv:Value) (w:World) (hC:C<256^16) (hK:K<256^16) (hc:2≤C) (hd:2≤K) (hm:NOk N) (hS:NAt w v1 v2 v3 N) (h0:N.chk=0) (hv:N.vars.any vz=true→C≤N.ord) (hx:x<256^100)
  (h:(N.prvR att C K x W T).err=0) (hf:SsAt w fv ((N.fstR (N.prvR att C K x W T)).map E)) (hr:ZsAt w rv (N.rspO x W (N.prvR att C K x W T))) :
  Calls Tryz.prog 11 #[.agg #[.string (E C),.string (E K)],.agg #[v1,v2,v3],.agg #[fv,.string (E x),rv]] w fun e w''=>e=.returned (.int .i64 0)∧Bw w w'':=by
 obtain⟨o1,o2,o3⟩:=prvR_ok h;have f1:N.fstR (N.prvR att C K x W T)=N.imgs (N.prvR att C K x W T).msk:=by unfold NSta.fstR;rw[if_pos h]
 have f2:N.rspO x W (N.prvR att C K x W T)=N.rspL x W (N.prvR att C K x W T).msk:=by unfold NSta.rspO;rw[if_pos h]
 rw[f1]at hf;rw[f2]at hr;have l4:=hm.nv;have l5:=hm.ne;have hb:=verify_num N C K x _ _ v1 v2 v3 fv rv w hC hK hm hS h0 (fun w2 he=>bounds_ok N C K v1 v2 v3 w2 hC hK hc hd hv hm (hS.after he) h0) hf hr (by simp only[NSta.imgs,List.length_map];omega) (imgs_lt hm h0 _ o2) (Nl hx P8) (by simp only[NSta.rspL,List.length_map,List.length_range];omega) (rspL_lt hm hC hK o3);rw[compl_ver hm h0 o1 o2 o3]at hb;exact hb
end
end Go.Proofs.YtdgddpnjkinciaaGreatDoor
