import Derived.Test.YtihjpddbjhcbmaaGreatDoorSig4
set_option linter.unusedVariables false
set_option linter.unusedSimpArgs false
set_option maxRecDepth 100000
set_option maxHeartbeats 16000000
namespace Go.Proofs.YtihjpddbjhcbmaaGreatDoor
section
open Go.RowKit Go.Shelf
def ra (n:Nat) (p:Nat→Bool):Bool:=(List.range n).all p
theorem ra_true {n:Nat} {p:Nat→Bool} (h:∀j,j<n→p j=true):ra n p=true:=by
 unfold ra;rw[List.all_eq_true];intro x hx;exact h x (List.mem_range.1 hx)
theorem ra_false {n j:Nat} {p:Nat→Bool} (hj:j<n) (h:p j=false):ra n p=false:=by
 unfold ra;rw[List.all_eq_false];exact⟨j,List.mem_range.2 hj,by simp[h]⟩
theorem ra_at {n j:Nat} {p:Nat→Bool} (h:ra n p=true) (hj:j<n):p j=true:=by
 unfold ra at h;rw[List.all_eq_true]at h;exact h j (List.mem_range.2 hj)
def NSta.eq (N:NSta) (j:Nat):NEqn:=N.eqs.getD j ⟨0,0,[]⟩
theorem eq_at (N:NSta) (j:Nat) (h:j<N.eqs.length):N.eq j=N.eqs[j]:=by
 unfold NSta.eq;rw[List.getD_eq_getElem?_getD,List.getElem?_eq_getElem h];rfl
def blJ (N:NSta) (C K:Nat) (Z:List Int) (j:Nat):Bool:=blw (N.vars.getD j 0) (Z.getD j 0) (lim N.ord C K (N.vars.getD j 0)).2
def hsJ (N:NSta) (F:List Nat) (j:Nat):Bool:=hasB (N.gp (N.eq j)).1 (N.gp (N.eq j)).2 (F.getD j 0)
def imJ (N:NSta) (F:List Nat) (c:Nat) (Z:List Int) (j:Nat):Bool:=decide (F.getD j 0*powI (N.eq j).tgt (c:Int) (N.gp (N.eq j)).1%(N.gp (N.eq j)).1=imgV N Z (N.eq j))
def NSta.ver (N:NSta) (C K:Nat) (F:List Nat) (c:Nat) (Z:List Int):Nat:=
 if F.length≠N.eqs.length∨Z.length≠N.vars.length then 6 else if C≤c then 2 else if ra N.vars.length (blJ N C K Z)=false then 2
 else if ra N.eqs.length (hsJ N F)=false then 13 else if ra N.eqs.length (imJ N F c Z)=false then 16 else 0
theorem ver_6 {N:NSta} {C K c:Nat} {F:List Nat} {Z:List Int} (h:F.length≠N.eqs.length∨Z.length≠N.vars.length):N.ver C K F c Z=6:=by unfold NSta.ver;rw[if_pos h]
theorem ver_2 {N:NSta} {C K c:Nat} {F:List Nat} {Z:List Int} (h1:F.length=N.eqs.length) (h2:Z.length=N.vars.length) (h:C≤c):N.ver C K F c Z=2:=by unfold NSta.ver;rw[if_neg (by simp[h1,h2]),if_pos h]
theorem ver_2b {N:NSta} {C K c:Nat} {F:List Nat} {Z:List Int} (h1:F.length=N.eqs.length) (h2:Z.length=N.vars.length) (h:c<C) (h3:ra N.vars.length (blJ N C K Z)=false):N.ver C K F c Z=2:=by unfold NSta.ver;rw[if_neg (by simp[h1,h2]),if_neg (by omega),if_pos h3]
theorem ver_13 {N:NSta} {C K c:Nat} {F:List Nat} {Z:List Int} (h1:F.length=N.eqs.length) (h2:Z.length=N.vars.length) (h:c<C) (h3:ra N.vars.length (blJ N C K Z)=true) (h4:ra N.eqs.length (hsJ N F)=false):N.ver C K F c Z=13:=by unfold NSta.ver;rw[if_neg (by simp[h1,h2]),if_neg (by omega),if_neg (by simp[h3]),if_pos h4]
theorem ver_16 {N:NSta} {C K c:Nat} {F:List Nat} {Z:List Int} (h1:F.length=N.eqs.length) (h2:Z.length=N.vars.length) (h:c<C) (h3:ra N.vars.length (blJ N C K Z)=true) (h4:ra N.eqs.length (hsJ N F)=true) (h5:ra N.eqs.length (imJ N F c Z)=false):N.ver C K F c Z=16:=by unfold NSta.ver;rw[if_neg (by simp[h1,h2]),if_neg (by omega),if_neg (by simp[h3]),if_neg (by simp[h4]),if_pos h5]
theorem ver_0 {N:NSta} {C K c:Nat} {F:List Nat} {Z:List Int} (h1:F.length=N.eqs.length) (h2:Z.length=N.vars.length) (h:c<C) (h3:ra N.vars.length (blJ N C K Z)=true) (h4:ra N.eqs.length (hsJ N F)=true) (h5:ra N.eqs.length (imJ N F c Z)=true):N.ver C K F c Z=0:=by unfold NSta.ver;rw[if_neg (by simp[h1,h2]),if_neg (by omega),if_neg (by simp[h3]),if_neg (by simp[h4]),if_neg (by simp[h5])]
theorem blJ_at (N:NSta) (C K:Nat) (Z:List Int) (j:Nat) (h:j<N.vars.length) (h2:j<Z.length):blJ N C K Z j=blw N.vars[j] Z[j] (lim N.ord C K N.vars[j]).2:=by
 unfold blJ;simp only[List.getD_eq_getElem?_getD,List.getElem?_eq_getElem h,List.getElem?_eq_getElem h2,Option.getD_some]
theorem hsJ_at (N:NSta) (F:List Nat) (j:Nat) (h:j<N.eqs.length) (h2:j<F.length) (hg:N.eqs[j].grp<N.grps.length):hsJ N F j=hasB N.grps[N.eqs[j].grp].1 N.grps[N.eqs[j].grp].2 F[j]:=by
 unfold hsJ;rw[eq_at N j h,gp_at N _ hg];simp only[List.getD_eq_getElem?_getD,List.getElem?_eq_getElem h2,Option.getD_some]
theorem imJ_at (N:NSta) (F:List Nat) (c:Nat) (Z:List Int) (j:Nat) (h:j<N.eqs.length) (h2:j<F.length) (hg:N.eqs[j].grp<N.grps.length):imJ N F c Z j=decide (F[j]*powI N.eqs[j].tgt (c:Int) N.grps[N.eqs[j].grp].1%N.grps[N.eqs[j].grp].1=imgV N Z N.eqs[j]):=by
 unfold imJ;rw[eq_at N j h,gp_at N _ hg];simp only[List.getD_eq_getElem?_getD,List.getElem?_eq_getElem h2,Option.getD_some]
theorem lim_lt {N:NSta} (hm:NOk N) {C K:Nat} (hC:C<256^16) (hK:K<256^16) {b:Nat} (hb:b∈N.vars):(lim N.ord C K b).2<256^48:=by
 unfold lim;split
 ·exact Nl (ord_lt hm) (by decide)
 ·exact Nat.lt_of_le_of_lt (Nat.sub_le _ _) (lt_mul3 hC hK (hm.v b hb)).2
theorem lims_at (N:NSta) (C K:Nat) (j:Nat) (h:j<N.vars.length) (h2:j<(N.lims C K).length):(N.lims C K)[j]=lim N.ord C K N.vars[j]:=by simp[NSta.lims]
theorem powI_nat (x c p:Nat):powI x (c:Int) p=x^c%p:=by
 unfold powI;rw[if_neg (by omega),Int.natAbs_natCast]
theorem has_powN {p q x:Nat} (c:Nat) (hp:2≤p) (h:hasB p q x=true):hasB p q (powI x (c:Int) p)=true:=by
 rw[powI_nat];have hx:=has_coprime hp h
 have h1:Nat.gcd (x^c%p) p=1:=by
  have h2:Nat.gcd (x^c) p=1:=Nat.Coprime.pow_left c hx;rw[Nat.gcd_comm,Nat.gcd_rec]at h2;exact h2
 have hlt:x^c%p<p:=Nat.mod_lt _ (by omega)
 have h0:x^c%p≠0:=by
  intro e;rw[e,Nat.gcd_zero_left]at h1;omega
 unfold hasB at h ⊢;by_cases hq:q=0
 ·rw[if_pos hq];exact Dt ⟨h0,hlt,h1⟩
 ·rw[if_neg hq]at h ⊢;have h3:=(of_decide_eq_true h).2.2;refine Dt ⟨h0,hlt,?_⟩;rw[←Nat.pow_mod,←Nat.pow_mul,Nat.mul_comm,Nat.pow_mul,Nat.pow_mod,h3,←Nat.pow_mod,Nat.one_pow]
theorem pexpN_c (p q x c:Nat) (w:World) (hp:p<256^8) (hq:q<256^128) (he:grpE p q=0) (hx:hasB p q x=true) (hc:c<256^128) :
  Calls Tryz.prog 108 #[.agg #[.string (E p),.string (E q)],.string (E x),.agg #[.bool (sg (c:Int)),.string (E c)]] w fun e w'=>e=.returned (.tuple #[.string (E (powI x (c:Int) p)),.int .i64 0])∧Bw w w':=by
 have:=pexp_c p q x (c:Int) w hp hq he hx (by rw[Int.natAbs_natCast];exact hc);rwa [Int.natAbs_natCast]at this
theorem svalidV_c (l:List (Bool × ByteArray)) (v:Value) (b:Bool) (w:World) (hn:l.length≤1000) (hs:∀x∈l,x.2.size≤1000) (hR:IsAt w v l) (h:(l.all fun x=>ivB x.1 x.2)=b) :
  Calls Tryz.prog 78 #[v] w fun e w'=>e=.returned (.bool b)∧Bw w w':=by rw[←h];exact svalid_c l v w hn hs hR
theorem rformedV_c (l:List (Bool × ByteArray)) (v:Value) (b:Bool) (w:World) (hn:l.length≤1000) (hs:∀x∈l,x.2.size≤1000) (hR:IsAt w v l) (h:(l.all fun x=>ivB x.1 x.2)=b) :
  Calls Tryz.prog 85 #[v] w fun e w'=>e=.returned (.bool b)∧Bw w w':=by rw[←h];exact rformed16_c l v w hn hs hR
def prB (F:List ByteArray) (ch:ByteArray) (R:List (Bool × ByteArray)):Bool:=F.all vldB&&vldB ch&&R.all fun x=>ivB x.1 x.2
end
section
open Go.RowKit Go.Shelf
theorem verify_num (N:NSta) (C K c:Nat) (F:List Nat) (Z:List Int) (v1 v2 v3 f rs:Value) (w:World) (hC:C<256^16) (hK:K<256^16) (hm:NOk N) (hS:NAt w v1 v2 v3 N) (hc:N.chk=0)
  (jB:∀w',Bw w w'→Calls Tryz.prog 77 #[.agg #[.string (E C),.string (E K)],.agg #[v1,v2,v3]] w' (BPost w' (N.lims C K)))
  (hO:SsAt w f (F.map E)) (hT:ZsAt w rs Z) (jT:F.length≤1000) (jC:∀x∈F,x<256^128) (jD:c<256^128) (jE:Z.length≤1000) (jF:∀z∈Z,z.natAbs<256^64) :
  Calls Tryz.prog 28 #[.agg #[.string (E C),.string (E K)],.agg #[v1,v2,v3],.agg #[f,.string (E c),rs]] w fun e w'=>e=.returned (.int .i64 (N.ver C K F c Z:Nat))∧Bw w w':=by
 obtain⟨r,hr⟩:∃r:Nat,r=N.ver C K F c Z:=⟨_,rfl⟩;have hW:=Kh hr;rw[←hr];clear hr;have jG:=Kh jB;have ji:=Kh hc;have HC:=Kh (lt128' hC (by decide));have jU:=Kh hC;have jV:=Kh hK;have jH:=Kh jC;have HP:=Kh jD;have jb:=Kh jF;obtain⟨a4,c4,jj⟩:=RAt.form hO;obtain⟨a5,c5,jI⟩:=hT.form;rw[List.length_map]at jj;obtain⟨nF,jk⟩:∃n,n=F.length:=⟨_,rfl⟩;obtain⟨nZ,jl⟩:∃n,n=Z.length:=⟨_,rfl⟩;have Ha:=Kh jk;have HK:=Kh jl;rw[←jk]at jj jT;rw[←jl]at jI jE;subst jj jI;obtain⟨a1,c1,a2,c2,a3,c3,rfl,rfl,rfl⟩:=hS.forms;obtain⟨n1,HQ⟩:∃n,n=N.grps.length:=⟨_,rfl⟩;obtain⟨n2,HR⟩:∃n,n=N.vars.length:=⟨_,rfl⟩;obtain⟨n3,HS⟩:∃n,n=N.eqs.length:=⟨_,rfl⟩;have jJ:=Kh HQ;have jm:=Kh HR;have jK:=Kh HS;have l1:n1≤10:=by rw[HQ];exact hm.ng
 have l2:n2≤12:=by rw[HR];exact hm.nv
 have l3:n3≤12:=by rw[HS];exact hm.ne
 have HM:=Kh hm;rw[←HQ,←HR,←HS]at hS ⊢;rw[←HQ,←HR,←HS]at jG;obtain⟨hR,hP,hF,ho⟩:=blk3 w #[.string (E C),.string (E K)] #[.slice a1 n1 c1,.slice a2 n2 c2,.slice a3 n3 c3] #[.slice a4 nF c4,.string (E c),.slice a5 nZ c5] 24 29 40;replace hS:=hS.after ho;replace hO:=SsAt.after hO ho;replace hT:=hT.after ho;clear hm HQ HR HS hC hK hc jB jC jD jF jk jl;obtain⟨Hd,He,Hf,Hg⟩:=hR.x2;obtain⟨he,hf,hg,hh,hi,hl⟩:=hP.x3;go_enter Tryz.func28,Tryz.ntmps28
 go_wp2_with fail
 refine (jG.out _ ho).mono ?_;rintro e w2 ⟨lv,rfl,hX,Hm⟩;clear Hd He Hf Hg;clear he hf hg hh hi hl;replace hR:=hR.after Hm;replace hP:=hP.after Hm;replace hF:=hF.after Hm;replace hS:=hS.after Hm;replace hO:=SsAt.after hO Hm;replace hT:=hT.after Hm;replace ho:=bt ho Hm;clear Hm;obtain⟨a6,c6,rfl⟩:=hX.form;have jL:Hid ((N.lims C K).length=n2):=by rw[Hid,NSta.lims,List.length_map,jm.out]
 rw[jL.out]at hX ⊢;have h0:=hF.lt;obtain⟨hE,hH,hI,hJ,hL,hM⟩:=hF.x3;go_wp2;clear hE hH hI hJ hL hM;clear h0;go_loopw [33] (fun i wr=>∃k:Nat,k≤nF∧i=.int .i64 k∧Bw w2 wr) (fun i _=>nF-(intOf i).toNat)
 case atStart=>exact⟨0,by omega,rfl,Br⟩
 case round =>
  obtain⟨k,hk,rfl,hb⟩:=hrel;obtain⟨wp,jW⟩:∃wp,wp=wr:=⟨_,rfl⟩;subst jW;replace hR:=hR.after hb;replace hP:=hP.after hb;replace hF:=hF.after hb;replace hS:=hS.after hb;replace hO:=SsAt.after hO hb;replace hT:=hT.after hb;replace hX:=hX.after hb;replace ho:=bt ho hb;by_cases hlt:k<nF
  ·have hn:k<F.length:=by rw[←Ha.out];exact hlt
   have jn:k<(F.map E).length:=by simpa using hn
   have hY:=Kh (jH.out _ (Gm hn));obtain⟨b,o,rfl,jc,x1⟩:=SsAt.at_ hO jn;simp only[List.getElem_map]at x1;generalize (F[k]'hn)=s1 at x1 hY;have jo:(0:Int)≤(k:Int):=by omega
   have jp:(k:Int)<(nF:Int):=by omega
   go_wp2_with fail
   refine (validE_c s1 _ hY.out).mono ?_;rintro e w' ⟨rfl,rfl⟩;go_wp2;go_roundw
   case rel=>exact⟨k+1,by omega,by go_num,hb⟩
   case measure=>simp[intOf];omega
  ·clear hb;have h0:=hF.lt;obtain⟨hE,hH,hI,hJ,hL,hM⟩:=hF.x3;go_wp2_with fail
   refine (validE_c c _ HP.out).mono ?_;rintro e w' ⟨rfl,rfl⟩;go_wp2_with fail
   refine (svalidV_c (Z.map zI) _ true _ (by rw[List.length_map,←HK.out];exact jE) (fun x hx=>by obtain⟨z,hz,rfl⟩:=List.mem_map.1 hx;exact Nat.le_trans ((E_size_le _ 64).2 (jb.out z hz)) (by decide)) hT (by rw[List.all_map,List.all_eq_true];intro z hz;exact ivB_I z (lt64 (jb.out z hz)))).mono ?_;rintro e w5 ⟨rfl,Hh⟩;clear hE hH hI hJ hL hM;replace hR:=hR.after Hh;replace hP:=hP.after Hh;replace hF:=hF.after Hh;replace hS:=hS.after Hh;replace hO:=SsAt.after hO Hh;replace hT:=hT.after Hh;replace hX:=hX.after Hh;replace ho:=bt ho Hh;clear Hh h0;have h0:=hF.lt;have Hn:=hP.lt;have Hq:=hR.lt;by_cases jq:nF=n3∧nZ=n2
   ·obtain⟨e1,e2⟩:=jq;have Hb:Hid (F.length=N.eqs.length):=by rw[Hid,←Ha.out,←jK.out];exact e1
    have Ho:Hid (Z.length=N.vars.length):=by rw[Hid,←HK.out,←jm.out];exact e2
    subst e1 e2;rcases Nat.lt_or_ge c C with jr | js
    ·have jM:=cmp_neg c C jr;have HT:¬ 0≤cmpN c C:=by omega
     have jd:=Kh jr;clear jr;obtain⟨hE,hH,hI,hJ,hL,hM⟩:=hF.x3;obtain⟨he,hf,hg,hh,hi,hl⟩:=hP.x3;obtain⟨Hd,He,Hf,Hg⟩:=hR.x2;go_wp2_with fail
     refine (cmp_c c C _ HP.out HC.out).mono ?_;rintro e w' ⟨rfl,rfl⟩;go_wp2;clear hE hH hI hJ hL hM;clear he hf hg hh hi hl;clear Hd He Hf Hg;clear jM HT;go_loopw [79] (fun i wr=>∃k:Nat,k≤nZ∧i=.int .i64 k∧Hid (∀j,j<k→blJ N C K Z j=true)∧Bw w5 wr) (fun i _=>nZ-(intOf i).toNat)
     case atStart=>exact⟨0,by omega,rfl,fun j h=>absurd h (Nat.not_lt_zero _),Br⟩
     case round =>
      obtain⟨k,hk,rfl,HA,hb⟩:=hrel;obtain⟨wq,jX⟩:∃wp,wp=wr:=⟨_,rfl⟩;subst jX;replace hR:=hR.after hb;replace hP:=hP.after hb;replace hF:=hF.after hb;replace hS:=hS.after hb;replace hO:=SsAt.after hO hb;replace hT:=hT.after hb;replace hX:=hX.after hb;replace ho:=bt ho hb;clear h0 Hn Hq;have h0:=hF.lt;have Hn:=hP.lt;have Hq:=hR.lt;by_cases hlt:k<nZ
      ·have hn:k<N.vars.length:=by rw[←Ho.out,←HK.out];exact hlt
       have je:k<Z.length:=by rw[←HK.out];exact hlt
       have jN:k<(N.lims C K).length:=by rw[jL.out];exact hlt
       have jf:=Kh (blJ_at N C K Z k hn je);have jt:=Kh (lim_lt HM.out jU.out jV.out (Gm hn));have jO:=Kh (lt64 (jb.out _ (Gm je)));obtain⟨b,o,rfl,jc,x1⟩:=hS.vat hn;obtain⟨b',o',rfl,hp,y1,y2⟩:=hT.at_ je;obtain⟨b6,rfl,HU,z1,z2⟩:=hX.at_ jN;rw[lims_at N C K k hn jN]at z1 z2;generalize (N.vars[k]'hn)=vb at x1 z1 z2 jf jt;generalize (Z[k]'je)=zz at y1 y2 jf jO;generalize (lim N.ord C K vb).1=la at z1;generalize (lim N.ord C K vb).2=lb at z2 jf jt;have jo:(0:Int)≤(k:Int):=by omega
       have jp:(k:Int)<(nZ:Int):=by omega
       obtain⟨hV,h4⟩:=blk1 wq #[.string (E vb)] 71;have hd:=hF.after h4;have y1':=(h4.cell (p:=⟨b',o'+k*2,none⟩) hp).trans y1;have y2':=(h4.cell (p:=⟨b',o'+k*2+1,none⟩) hp).trans y2;have z2':=(h4.cell (p:=⟨b6,k*2+1,none⟩) HU).trans z2;have g1:=gcl (a:=⟨b',o'+k*2,none⟩) (Nl hp h4.size) y1';have g2:=gcl (a:=⟨b',o'+k*2+1,none⟩) (Nl hp h4.size) y2';have g3:=gcl (a:=⟨b6,k*2+1,none⟩) (Nl HU h4.size) z2'
       have Hi:Hid (∀w,Calls Tryz.prog 106 #[.agg #[.string (E vb)],.agg #[.bool (sg (zz)),.string (E (zz).natAbs)],.string (E lb)] w fun e w'=>e=.returned (.bool (blJ N C K Z k))∧Bw w w'):=fun w=>by
        rw[jf.out];exact below_c vb zz lb w jO.out (Nl jt.out (by decide))
       cases hZ:blJ N C K Z k
       ·have h3:Hid (r=2):=by rw[Hid,hW.out,ver_2b Hb.out Ho.out jd.out (ra_false hn hZ)]
        rw[hZ]at Hi;clear hZ;go_upto_region 19 with fail
        generalize wq.alloc (.cells #[.string (E vb)] 71)=wv at hV h4 hd y1' y2' z2' g1 g2 g3 ⊢;replace hV:Blk wv wq.heap.size 71 [.string (E vb)]:=hV;obtain⟨ju,jv⟩:=hV.x1;obtain⟨hq,ht,hu,hv,hw,hy⟩:=hd.x3;have jw:=hV.gcell 0;have hA:=hd.gcell 0;have hB:=hd.gcell 1;have hD:=hd.gcell 2;go_wp2_with fail
        refine wp_region_gw (by kernel_rfl) (by kernel_rfl) ?_;repeat (go_big_quiet_step (first | (go_at_call 106;exact gw_of (Hi.out _))))
        refine wpQuiet_nil ?_;rintro w7 ⟨xw7,rfl⟩;have h5:=gw_below xw7;generalize gw xw7=w7 at h5;go_wp2;go_ret
        exact⟨by rw[h3.out];rfl,bt (bt ho h4) h5⟩
       ·have HX:Hid (∀j,j<k+1→blJ N C K Z j=true):=fun j hj=>by
         by_cases e:j=k
         ·rw[e];exact hZ
         ·exact HA.out j (by omega)
        rw[hZ]at Hi;clear hZ;go_upto_region 19 with fail
        generalize wq.alloc (.cells #[.string (E vb)] 71)=wv at hV h4 hd y1' y2' z2' g1 g2 g3 ⊢;replace hV:Blk wv wq.heap.size 71 [.string (E vb)]:=hV;obtain⟨ju,jv⟩:=hV.x1;obtain⟨hq,ht,hu,hv,hw,hy⟩:=hd.x3;have jw:=hV.gcell 0;have hA:=hd.gcell 0;have hB:=hd.gcell 1;have hD:=hd.gcell 2;go_wp2_with fail
        refine wp_region_gw (by kernel_rfl) (by kernel_rfl) ?_;repeat (go_big_quiet_step (first | (go_at_call 106;exact gw_of (Hi.out _))))
        refine wpQuiet_nil ?_;rintro w7 ⟨xw7,rfl⟩;have h5:=gw_below xw7;generalize gw xw7=w7 at h5;go_wp2;go_roundw
        case rel=>exact⟨k+1,by omega,by go_num,HX,bt (bt hb h4) h5⟩
        case measure=>simp[intOf];omega
      ·have jx:Hid (ra N.vars.length (blJ N C K Z)=true):=ra_true fun j hj=>HA.out j (by have:=Ho.out;have:=HK.out;omega)
       clear hb HA;obtain⟨he,hf,hg,hh,hi,hl⟩:=hP.x3;go_wp2;clear he hf hg hh hi hl;go_loopw [101] (fun i wr=>∃k:Nat,k≤nF∧i=.int .i64 k∧Hid (∀j,j<k→hsJ N F j=true)∧Bw wq wr) (fun i _=>nF-(intOf i).toNat)
       case atStart=>exact⟨0,by omega,rfl,fun j h=>absurd h (Nat.not_lt_zero _),Br⟩
       case round =>
        clear hlt hk;obtain⟨k,hk,rfl,HA,hb⟩:=hrel;obtain⟨wt,jY⟩:∃wp,wp=wr:=⟨_,rfl⟩;subst jY;replace hR:=hR.after hb;replace hP:=hP.after hb;replace hF:=hF.after hb;replace hS:=hS.after hb;replace hO:=SsAt.after hO hb;replace hT:=hT.after hb;replace hX:=hX.after hb;replace ho:=bt ho hb;clear h0 Hn Hq;have h0:=hF.lt;have Hn:=hP.lt;have Hq:=hR.lt;by_cases hlt:k<nF
        ·have hn:k<N.eqs.length:=by rw[←Hb.out,←Ha.out];exact hlt
         have Hj:k<F.length:=by rw[←Ha.out];exact hlt
         have Hr:k<(F.map E).length:=by simpa using Hj
         have hY:=Kh (HM.out.e _ (Gm hn));have h6:=Kh (chk_elem ji.out k hn hY.out.1);have jg:=Kh (hsJ_at N F k hn Hj hY.out.1);have jP:=Kh (jH.out _ (Gm Hj));obtain⟨b,o,tv,rfl,jc,x1,x2,x3,HL⟩:=hS.eat hn;obtain⟨b',o',rfl,hp,y1⟩:=SsAt.at_ hO Hr;simp only[List.getElem_map]at y1;generalize (N.eqs[k]'hn)=q at x1 x2 x3 HL hY h6 jg;have h7:=hY.out.1;have jy:q.grp<n1:=by rw[jJ.out];exact h7
         have Hk:=Kh (HM.out.g _ (Gm h7));obtain⟨bg,og_,rfl,HN,z1,z2⟩:=hS.gat h7;generalize (N.grps[q.grp]'h7)=gg at z1 z2 Hk h6 jg;clear h7;obtain⟨p,qq⟩:=gg;simp only[]at z1 z2;generalize (F[k]'Hj)=ff at y1 jg jP;obtain⟨qg,HV⟩:∃g,g=q.grp:=⟨_,rfl⟩;obtain⟨qt,HW⟩:∃g,g=q.tgt:=⟨_,rfl⟩;rw[←HV]at x1 z1 z2 jy;rw[←HW]at x2;clear HV HW;obtain⟨to_,tc,rfl⟩:=HL.form;generalize q.trms.length=n4 at x3;have jo:(0:Int)≤(k:Int):=by omega
         have jp:(k:Int)<(nF:Int):=by omega
         have jZ:(0:Int)≤(qg:Int):=by omega
         have j0:(qg:Int)<(n1:Int):=by omega
         obtain⟨hQ,hN⟩:=blk1 wt #[.int .i64 (qg:Int),.string (E qt),.slice to_ n4 tc] 131;have hd:=hF.after hN;have Hc:=hP.after hN;have y1':=(hN.cell (p:=⟨b',o'+k,none⟩) hp).trans y1;have z1':=(hN.cell (p:=⟨bg,og_+qg*2,none⟩) HN).trans z1;have z2':=(hN.cell (p:=⟨bg,og_+qg*2+1,none⟩) HN).trans z2;have g1:=gcl (a:=⟨b',o'+k,none⟩) (Nl hp hN.size) y1';have g2:=gcl (a:=⟨bg,og_+qg*2,none⟩) (Nl HN hN.size) z1';have g3:=gcl (a:=⟨bg,og_+qg*2+1,none⟩) (Nl HN hN.size) z2'
         have Hi:Hid (∀w,Calls Tryz.prog 107 #[.agg #[.string (E p),.string (E qq)],.string (E ff)] w fun e w'=>e=.returned (.bool (hsJ N F k))∧Bw w w'):=fun w=>by
          rw[jg.out];exact pHas_c p qq ff w Hk.out.1 (lt128 Hk.out.2) h6.out.1 jP.out
         cases hZ:hsJ N F k
         ·have h3:Hid (r=13):=by rw[Hid,hW.out,ver_13 Hb.out Ho.out jd.out jx.out (ra_false hn hZ)]
          rw[hZ]at Hi;clear hZ;go_upto_region 25 with fail
          generalize wt.alloc (.cells #[.int .i64 (qg:Int),.string (E qt),.slice to_ n4 tc] 131)=wv at hQ hN hd Hc y1' z1' z2' g1 g2 g3 ⊢;replace hQ:Blk wv wt.heap.size 131 [.int .i64 (qg:Int),.string (E qt),.slice to_ n4 tc]:=hQ;obtain⟨Hs,Ht,Hu,Hv,Hw,Hx⟩:=hQ.x3;obtain⟨hq,ht,hu,hv,hw,hy⟩:=hd.x3;obtain⟨HY,HZ,H0,H1,H2,H3⟩:=Hc.x3;have Hy:=hQ.gcell 0;have Hz:=hQ.gcell 1;have HB:=hQ.gcell 2;have hA:=hd.gcell 0;have hB:=hd.gcell 1;have hD:=hd.gcell 2;have H4:=Hc.gcell 0;have H5:=Hc.gcell 1;have H6:=Hc.gcell 2;go_wp2_with fail
          refine wp_region_gw (by kernel_rfl) (by kernel_rfl) ?_;repeat (go_big_quiet_step (first | (go_at_call 107;exact gw_of (Hi.out _))))
          refine wpQuiet_nil ?_;rintro w7 ⟨xw7,rfl⟩;have h5:=gw_below xw7;generalize gw xw7=w7 at h5;go_wp2;go_ret
          exact⟨by rw[h3.out];rfl,bt (bt ho hN) h5⟩
         ·have HX:Hid (∀j,j<k+1→hsJ N F j=true):=fun j hj=>by
           by_cases e:j=k
           ·rw[e];exact hZ
           ·exact HA.out j (by omega)
          rw[hZ]at Hi;clear hZ;go_upto_region 25 with fail
          generalize wt.alloc (.cells #[.int .i64 (qg:Int),.string (E qt),.slice to_ n4 tc] 131)=wv at hQ hN hd Hc y1' z1' z2' g1 g2 g3 ⊢;replace hQ:Blk wv wt.heap.size 131 [.int .i64 (qg:Int),.string (E qt),.slice to_ n4 tc]:=hQ;obtain⟨Hs,Ht,Hu,Hv,Hw,Hx⟩:=hQ.x3;obtain⟨hq,ht,hu,hv,hw,hy⟩:=hd.x3;obtain⟨HY,HZ,H0,H1,H2,H3⟩:=Hc.x3;have Hy:=hQ.gcell 0;have Hz:=hQ.gcell 1;have HB:=hQ.gcell 2;have hA:=hd.gcell 0;have hB:=hd.gcell 1;have hD:=hd.gcell 2;have H4:=Hc.gcell 0;have H5:=Hc.gcell 1;have H6:=Hc.gcell 2;go_wp2_with fail
          refine wp_region_gw (by kernel_rfl) (by kernel_rfl) ?_;repeat (go_big_quiet_step (first | (go_at_call 107;exact gw_of (Hi.out _))))
          refine wpQuiet_nil ?_;rintro w7 ⟨xw7,rfl⟩;have h5:=gw_below xw7;generalize gw xw7=w7 at h5;go_wp2;go_roundw
          case rel=>exact⟨k+1,by omega,by go_num,HX,bt (bt hb hN) h5⟩
          case measure=>simp[intOf];omega
        ·have jz:Hid (ra N.eqs.length (hsJ N F)=true):=ra_true fun j hj=>HA.out j (by have:=Hb.out;have:=Ha.out;omega)
         clear hb HA;have H7:=Kh (Images_c N Z _ _ _ _ wt HM.out hS hT jb.out Ho.out ji.out);obtain⟨he,hf,hg,hh,hi,hl⟩:=hP.x3;obtain⟨hE,hH,hI,hJ,hL,hM⟩:=hF.x3;go_wp2_with fail
         refine H7.out.mono ?_;rintro e w8 ⟨iv,rfl,jQ,Hl⟩;clear he hf hg hh hi hl;clear hE hH hI hJ hL hM;replace hR:=hR.after Hl;replace hP:=hP.after Hl;replace hF:=hF.after Hl;replace hS:=hS.after Hl;replace hO:=SsAt.after hO Hl;replace hT:=hT.after Hl;replace hX:=hX.after Hl;replace ho:=bt ho Hl;clear Hl h0 Hn Hq H7;have H8:=jQ.ss;clear jQ;obtain⟨a7,c7,rfl⟩:=RAt.form H8;have jR:Hid (((N.imgs Z).map E).length=nF):=by rw[Hid,List.length_map,NSta.imgs,List.length_map,←Hb.out,←Ha.out]
         rw[jR.out]at H8 ⊢;have h0:=hF.lt;have Hn:=hP.lt;have Hq:=hR.lt;obtain⟨he,hf,hg,hh,hi,hl⟩:=hP.x3;go_wp2;clear he hf hg hh hi hl;go_loopw [133] (fun i wr=>∃k:Nat,k≤nF∧i=.int .i64 k∧Hid (∀j,j<k→imJ N F c Z j=true)∧Bw w8 wr) (fun i _=>nF-(intOf i).toNat)
         case atStart=>exact⟨0,by omega,rfl,fun j h=>absurd h (Nat.not_lt_zero _),Br⟩
         case round =>
          clear hlt hk;obtain⟨k,hk,rfl,HA,hb⟩:=hrel;obtain⟨wu,j1⟩:∃wp,wp=wr:=⟨_,rfl⟩;subst j1;replace hP:=hP.after hb;replace hF:=hF.after hb;replace hS:=hS.after hb;replace hO:=SsAt.after hO hb;replace ho:=bt ho hb;replace H8:=SsAt.after H8 hb;clear h0 Hn Hq;have h0:=hF.lt;have Hn:=hP.lt;by_cases hlt:k<nF
          ·have hn:k<N.eqs.length:=by rw[←Hb.out,←Ha.out];exact hlt
           have Hj:k<F.length:=by rw[←Ha.out];exact hlt
           have Hr:k<(F.map E).length:=by simpa using Hj
           have j2:k<((N.imgs Z).map E).length:=by rw[jR.out];exact hlt
           have hY:=Kh (HM.out.e _ (Gm hn));have h6:=Kh (chk_elem ji.out k hn hY.out.1);have HO:Hid (hsJ N F k=true):=ra_at jz.out hn;rw[hsJ_at N F k hn Hj hY.out.1]at HO;have h8:=Kh (imJ_at N F c Z k hn Hj hY.out.1);obtain⟨b,o,tv,rfl,jc,x1,x2,x3,HL⟩:=hS.eat hn;obtain⟨b',o',rfl,hp,y1⟩:=SsAt.at_ hO Hr;obtain⟨b7,o7,rfl,HD,i1⟩:=SsAt.at_ H8 j2;simp only[List.getElem_map]at y1;rw[show ((N.imgs Z).map E)[k]=E (imgV N Z (N.eqs[k]'hn)) by simp[NSta.imgs]]at i1;generalize (N.eqs[k]'hn)=q at x1 x2 x3 HL hY h6 HO h8 i1;have h7:=hY.out.1;have jy:q.grp<n1:=by rw[jJ.out];exact h7
           have Hk:=Kh (HM.out.g _ (Gm h7));obtain⟨bg,og_,rfl,HN,z1,z2⟩:=hS.gat h7;generalize (N.grps[q.grp]'h7)=gg at z1 z2 Hk h6 HO h8;clear h7;obtain⟨p,qq⟩:=gg;simp only[]at z1 z2 HO h8;generalize (F[k]'Hj)=ff at y1 HO h8;generalize imgV N Z q=iq at i1 h8;have jh:=Kh (has_powN c (grp_gt h6.out.1) h6.out.2.1);have jA:=Kh (fun w=>pexpN_c p qq q.tgt c w Hk.out.1 (lt128 Hk.out.2) h6.out.1 h6.out.2.1 HP.out);obtain⟨qg,HV⟩:∃g,g=q.grp:=⟨_,rfl⟩;obtain⟨qt,HW⟩:∃g,g=q.tgt:=⟨_,rfl⟩;rw[←HV]at x1 z1 z2 jy;rw[←HW]at x2 jA jh h8;clear HV HW;simp only[]at jh h8;generalize powI qt (c:Int) p=pv at jh jA h8;have jS:=Kh (fun w=>pmul_c p qq ff pv w Hk.out.1 (lt128 Hk.out.2) h6.out.1 HO.out jh.out);generalize ff*pv%p=yv at jS h8;obtain⟨to_,tc,rfl⟩:=HL.form;generalize q.trms.length=n4 at x3;have j3:=Kh (fun w=>ifromS_c c w HP.out);have jo:(0:Int)≤(k:Int):=by omega
           have jp:(k:Int)<(nF:Int):=by omega
           have jZ:(0:Int)≤(qg:Int):=by omega
           have j0:(qg:Int)<(n1:Int):=by omega
           obtain⟨hQ,hG,hN⟩:=blk2 wu #[.int .i64 (qg:Int),.string (E qt),.slice to_ n4 tc] #[.string (E p),.string (E qq)] 131 86;have hd:=hF.after hN;have y1':=(hN.cell (p:=⟨b',o'+k,none⟩) hp).trans y1;have i1':=(hN.cell (p:=⟨b7,o7+k,none⟩) HD).trans i1;have h9:=Nl hp hN.size;have hU:=Nl HD hN.size;clear HL;obtain⟨he,hf,hg,hh,hi,hl⟩:=hP.x3;go_upto_region 35 with fail
           clear he hf hg hh hi hl;generalize (wu.alloc (.cells #[.int .i64 (qg:Int),.string (E qt),.slice to_ n4 tc] 131)).alloc (.cells #[.string (E p),.string (E qq)] 86)=wv at hQ hG hN hd y1' i1' h9 hU ⊢;replace hQ:Blk wv wu.heap.size 131 [.int .i64 (qg:Int),.string (E qt),.slice to_ n4 tc]:=hQ;replace hG:Blk wv (wu.heap.size+1) 86 [.string (E p),.string (E qq)]:=hG;clear x1 x2 x3 y1 i1 z1 z2 jc hp HD HN;obtain⟨Hs,Ht,Hu,Hv,Hw,Hx⟩:=hQ.x3;obtain⟨hq,ht,hu,hv,hw,hy⟩:=hd.x3;obtain⟨HE,HF,HG,HH⟩:=hG.x2;have Hy:=hQ.gcell 0;have Hz:=hQ.gcell 1;have HB:=hQ.gcell 2;have hA:=hd.gcell 0;have hB:=hd.gcell 1;have hD:=hd.gcell 2;have HI:=hG.gcell 0;have HJ:=hG.gcell 1;go_wp2_with fail
           refine wp_region_gw (by kernel_rfl) (by kernel_rfl) ?_;repeat (go_big_quiet_step (first | (go_at_call 100;exact gw_of (j3.out _)) | (go_at_call 108;exact gw_of (jA.out _))))
           refine wpQuiet_nil ?_;rintro w9 ⟨xw9,rfl⟩;have hb9:=gw_below xw9;generalize gw xw9=w9 at hb9;clear Hs Ht Hu Hv Hw Hx;clear hq ht hu hv hw hy;clear HE HF HG HH;clear Hy Hz HB;clear hA hB hD;clear HI HJ;replace hd:=hd.after hb9;replace hG:=hG.after hb9;replace y1':=(hb9.cell (p:=⟨b',o'+k,none⟩) h9).trans y1';replace i1':=(hb9.cell (p:=⟨b7,o7+k,none⟩) hU).trans i1';replace h9:=Nl h9 hb9.size;replace hU:=Nl hU hb9.size;have H9:=bt hN hb9;clear hQ hb9 hN;have g1:=gcl (a:=⟨b',o'+k,none⟩) h9 y1';obtain⟨hq,ht,hu,hv,hw,hy⟩:=hd.x3;obtain⟨HE,HF,HG,HH⟩:=hG.x2;have hA:=hd.gcell 0;have hB:=hd.gcell 1;have hD:=hd.gcell 2;have HI:=hG.gcell 0;have HJ:=hG.gcell 1;go_wp2_with fail
           refine wp_region_gw (by kernel_rfl) (by kernel_rfl) ?_;repeat (go_big_quiet_step (first | (go_at_call 109;exact gw_of (jS.out _))))
           refine wpQuiet_nil ?_;rintro wz ⟨xwz,rfl⟩;have ja:=gw_below xwz;generalize gw xwz=wz at ja;clear hq ht hu hv hw hy;clear HE HF HG HH;clear hA hB hD;clear HI HJ;replace i1':=(ja.cell (p:=⟨b7,o7+k,none⟩) hU).trans i1';replace hU:=Nl hU ja.size;clear g1 y1' hd hG;by_cases Hp:yv=iq
           ·have h1:=eqT Hp;have h2:=eqE Hp
            have HX:Hid (∀j,j<k+1→imJ N F c Z j=true):=fun j hj=>by
             by_cases e:j=k
             ·rw[e,h8.out];exact Dt Hp
             ·exact HA.out j (by omega)
            clear Hp;go_wp2;go_roundw
            case rel=>exact⟨k+1,by omega,by go_num,HX,bt (bt hb H9) ja⟩
            case measure=>simp[intOf];omega
           ·have h1:=eqF Hp;have h2:=neE Hp;have h3:Hid (r=16):=by rw[Hid,hW.out,ver_16 Hb.out Ho.out jd.out jx.out jz.out (ra_false hn (by rw[h8.out];exact decide_eq_false Hp))]
            clear Hp;go_wp2;go_ret
            exact⟨by rw[h3.out];rfl,bt (bt ho H9) ja⟩
          ·have j4:Hid (ra N.eqs.length (imJ N F c Z)=true):=ra_true fun j hj=>HA.out j (by have:=Hb.out;have:=Ha.out;omega)
           have h3:Hid (r=0):=by rw[Hid,hW.out,ver_0 Hb.out Ho.out jd.out jx.out jz.out j4.out]
           go_wp2;go_ret
           exact⟨by rw[h3.out];rfl,ho⟩
    ·have jM:=cmp_nneg c C js;have HT:0≤cmpN c C:=by omega
     have h3:Hid (r=2):=by rw[Hid,hW.out,ver_2 Hb.out Ho.out js]
     clear js;obtain⟨hE,hH,hI,hJ,hL,hM⟩:=hF.x3;obtain⟨he,hf,hg,hh,hi,hl⟩:=hP.x3;obtain⟨Hd,He,Hf,Hg⟩:=hR.x2;go_wp2_with fail
     refine (cmp_c c C _ HP.out HC.out).mono ?_;rintro e w' ⟨rfl,rfl⟩;go_wp2;go_ret
     exact⟨by rw[h3.out];rfl,ho⟩
   ·have h3:Hid (r=6):=by
     rw[Hid,hW.out,ver_6];rw[←Ha.out,←jK.out,←HK.out,←jm.out];omega
    by_cases h1:nF=n3
    ·have h2:((nZ:Int) != (n2:Int))=true:=by rw[bne_iff_ne];omega
     have j5:((nZ:Int)==(n2:Int))=false:=by rw[beq_eq_false_iff_ne];omega
     subst h1;clear jq;obtain⟨hE,hH,hI,hJ,hL,hM⟩:=hF.x3;obtain⟨he,hf,hg,hh,hi,hl⟩:=hP.x3;go_wp2;go_ret
     exact⟨by rw[h3.out];rfl,ho⟩
    ·have h2:((nF:Int) != (n3:Int))=true:=by rw[bne_iff_ne];omega
     have j5:((nF:Int)==(n3:Int))=false:=by rw[beq_eq_false_iff_ne];omega
     clear jq h1;obtain⟨hE,hH,hI,hJ,hL,hM⟩:=hF.x3;obtain⟨he,hf,hg,hh,hi,hl⟩:=hP.x3;go_wp2;go_ret
     exact⟨by rw[h3.out];rfl,ho⟩
end
section
open Go.RowKit Go.Shelf
end
section
open Go.RowKit Go.Shelf
theorem eqNat_c (A B:List Nat) (u v:Value) (w:World) (ha:A.length≤1000) (hb:B.length≤1000) (hA:SsAt w u (A.map E)) (hB:SsAt w v (B.map E)) :
  Calls Tryz.prog 74 #[u,v] w fun e w'=>e=.returned (.bool (decide (A=B)))∧Bw w w':=by
 obtain⟨r,hr⟩:∃r:Bool,r=decide (A=B):=⟨_,rfl⟩;have hc:=Kh hr;rw[←hr];clear hr;obtain⟨a1,c1,e1⟩:=RAt.form hA;obtain⟨a2,c2,e2⟩:=RAt.form hB;rw[List.length_map]at e1 e2;obtain⟨n,hn⟩:∃n,n=A.length:=⟨_,rfl⟩;obtain⟨m,hm⟩:∃n,n=B.length:=⟨_,rfl⟩;have HN:=Kh hn;have HM:=Kh hm;rw[←hn]at e1 ha;rw[←hm]at e2 hb;subst e1 e2;clear hn hm;by_cases hh:n=m
 ·subst hh;have hx1:((n:Int) != (n:Int))=false:=by simp
  go_enter Tryz.func74,Tryz.ntmps74
  go_wp2;go_loopw [13] (fun i wr=>∃k:Nat,k≤n∧i=.int .i64 k∧Hid (∀j,j<k→A[j]?=B[j]?)∧Bw w wr) (fun i _=>n-(intOf i).toNat)
  case atStart=>exact⟨0,by omega,rfl,fun j h=>absurd h (Nat.not_lt_zero _),Br⟩
  case round =>
   obtain⟨k,hk,rfl,HA,hd⟩:=hrel;obtain⟨wp,hp⟩:∃wp,wp=wr:=⟨_,rfl⟩;subst hp;replace hA:=SsAt.after hA hd;replace hB:=SsAt.after hB hd;by_cases hlt:k<n
   ·have hf:k<A.length:=by rw[←HN.out];exact hlt
    have hg:k<B.length:=by rw[←HM.out];exact hlt
    obtain⟨b,o,rfl,hq,x1⟩:=SsAt.at_ hA (show k<(A.map E).length by simpa using hf);obtain⟨b',o',rfl,hi,y1⟩:=SsAt.at_ hB (show k<(B.map E).length by simpa using hg);simp only[List.getElem_map]at x1 y1;have hl:Hid (A[k]?=some (A[k]'hf)):=List.getElem?_eq_getElem hf;have ho:Hid (B[k]?=some (B[k]'hg)):=List.getElem?_eq_getElem hg;generalize (A[k]'hf)=xa at x1 hl;generalize (B[k]'hg)=xb at y1 ho;have ht:(0:Int)≤(k:Int):=by omega
    have hu:(k:Int)<(n:Int):=by omega
    have g1:=gcl (a:=⟨b,o+k,none⟩) hq x1;have g2:=gcl (a:=⟨b',o'+k,none⟩) hi y1;by_cases hx:xa=xb
    ·have h1:=eqT hx;have h2:=eqE hx
     have HX:Hid (∀j,j<k+1→A[j]?=B[j]?):=fun j hj=>by
      by_cases e:j=k
      ·rw[e,hl.out,ho.out,hx]
      ·exact HA.out j (by omega)
     clear hx;go_wp2_with fail
     refine wp_region_gw (by kernel_rfl) (by kernel_rfl) ?_;repeat (go_big_quiet_step (first | (fail)))
     refine wpQuiet_nil ?_;rintro w5 ⟨xw5,rfl⟩;have he:=gw_below xw5;generalize gw xw5=w5 at he;go_wp2;go_roundw
     case rel=>exact⟨k+1,by omega,by go_num,HX,bt hd he⟩
     case measure=>simp[intOf];omega
    ·have h1:=eqF hx;have h2:=neE hx
     have HF:Hid (r=false):=by
      rw[Hid,hc.out];exact decide_eq_false (fun e=>hx (by have h3:=hl.out;rw[e,ho.out]at h3;exact (Option.some.inj h3).symm))
     clear hx;go_wp2_with fail
     refine wp_region_gw (by kernel_rfl) (by kernel_rfl) ?_;repeat (go_big_quiet_step (first | (fail)))
     refine wpQuiet_nil ?_;rintro w5 ⟨xw5,rfl⟩;have he:=gw_below xw5;generalize gw xw5=w5 at he;go_wp2;go_ret
     exact⟨by rw[HF.out];rfl,bt hd he⟩
   ·have HF:Hid (r=true):=by
     rw[Hid,hc.out];refine Dt (List.ext_getElem? fun j=>?_);by_cases hj:j<k
     ·exact HA.out j hj
     ·rw[List.getElem?_eq_none (by rw[←HN.out];omega),List.getElem?_eq_none (by rw[←HM.out];omega)]
    go_wp2;go_ret
    exact⟨by rw[HF.out];rfl,hd⟩
 ·have hx1:((n:Int) != (m:Int))=true:=by rw[bne_iff_ne];omega
  have hv:((n:Int)==(m:Int))=false:=by rw[beq_eq_false_iff_ne];omega
  have HF:Hid (r=false):=by rw[Hid,hc.out];exact decide_eq_false (fun e=>hh (by rw[HN.out,HM.out,e]))
  clear hh;go_enter Tryz.func74,Tryz.ntmps74
  go_wp2;go_ret
  exact⟨by rw[HF.out];rfl,Br⟩
theorem eqNat_cV (A B:List Nat) (u v:Value) (r:Bool) (w:World) (ha:A.length≤1000) (hb:B.length≤1000) (hA:SsAt w u (A.map E)) (hB:SsAt w v (B.map E)) (h:decide (A=B)=r) :
  Calls Tryz.prog 74 #[u,v] w fun e w'=>e=.returned (.bool r)∧Bw w w':=by rw[←h];exact eqNat_c A B u v w ha hb hA hB
theorem eqZ_c (u v:Value) (L:List Int) (w:World) (hn:L.length≤1000) (hA:ZsAt w u L) (hB:ZsAt w v L) :
  Calls Tryz.prog 75 #[u,v] w fun e w'=>e=.returned (.bool true)∧Bw w w':=by
 obtain⟨ao,c,rfl⟩:=hA.form;obtain⟨bo,d,rfl⟩:=hB.form;obtain⟨n,hc⟩:∃n,L.length=n:=⟨_,rfl⟩;have hf:=Kh hc;rw[hc]at hA hB hn ⊢;clear hc;go_enter Tryz.func75,Tryz.ntmps75
 go_wp2;go_loopw [13] (fun i wr=>∃k:Nat,k≤n∧i=.int .i64 k∧Bw w wr) (fun i _=>n-(intOf i).toNat)
 case atStart=>exact⟨0,by omega,rfl,Br⟩
 case round =>
  obtain⟨k,hk,rfl,hb⟩:=hrel;obtain⟨wp,hg⟩:∃wp,wp=wr:=⟨_,rfl⟩;subst hg;replace hA:=ZsAt.after hA hb;replace hB:=ZsAt.after hB hb;by_cases hlt:k<n
  ·have hd:k<L.length:=by rw[hf.out];exact hlt
   obtain⟨b,o,rfl,l1,x1,x2⟩:=hA.at_ hd;obtain⟨b',o',rfl,l2,y1,y2⟩:=hB.at_ hd;generalize L[k]'hd=z at x1 x2 y1 y2;have hh:(0:Int)≤(k:Int):=by omega
   have hi:(k:Int)<(n:Int):=by omega
   have g1:=gcl (a:=⟨b,o+k*2,none⟩) l1 x1;have g2:=gcl (a:=⟨b,o+k*2+1,none⟩) l1 x2;have g3:=gcl (a:=⟨b',o'+k*2,none⟩) l2 y1;have g4:=gcl (a:=⟨b',o'+k*2+1,none⟩) l2 y2;clear x1 x2 y1 y2 hA hB;go_wp2_with fail
   refine wp_region_gw (by kernel_rfl) (by kernel_rfl) ?_;repeat (go_big_quiet_step (first | (fail)))
   refine wpQuiet_nil ?_;rintro w2 ⟨xw2,rfl⟩;have he:=gw_below xw2;generalize gw xw2=w2 at he;go_wp2;go_roundw
   case rel=>exact⟨k+1,by omega,by go_num,bt hb he⟩
   case measure=>simp[intOf];omega
  ·obtain rfl:k=n:=by omega
   go_wp2;go_ret
   exact⟨rfl,hb⟩
end
section
/- Differences of two proofs,in bytes: both sides return the same error,or there are numbers. -/
open Go.RowKit Go.Shelf
theorem numk {s:ByteArray} {k:Nat} (h:s.size≤k) (hv:vldB s=true):∃n,n<256^k∧s=E n:=by
 obtain⟨n,_,rfl⟩:=of_vldB hv;exact⟨n,lt_of_size h,rfl⟩
theorem few_ssm {S:Sta} (h:fewB S=true):SSm S:=by
 simp only[fewB,gszB,vszB,eszB,tszB,Bool.and_eq_true,decide_eq_true_eq,List.all_eq_true]at h;obtain⟨⟨⟨⟨⟨l1,l2⟩,l3⟩,hg⟩,hv⟩,he⟩:=h;exact⟨by omega,by omega,by omega,fun x hx=>by have:=hg x hx;omega,fun x hx=>by have:=hv x hx;omega,fun x hx=>⟨by have:=(he x hx).1.2;omega,by have:=(he x hx).1.1;omega,fun t ht=>by have:=(he x hx).2 t ht;omega⟩⟩
theorem bnd_two (S:Sta) (C K:ByteArray) (v1 v2 v3:Value) (w:World) (hC:C.size≤16) (hK:K.size≤16) (hf:fewB S=true) (hS:StAt w v1 v2 v3 S) :
  (∃k:Nat,k≠0∧(∀w',Bw w w'→Calls Tryz.prog 77 #[.agg #[.string C,.string K],.agg #[v1,v2,v3]] w' fun e w''=>e=.returned (.tuple #[.slice none 0 0,.int .i64 k])∧Bw w' w'') ∧
   (∀w',Bw w w'→Calls Tryz.prog 84 #[.agg #[.string C,.string K],.agg #[v1,v2,v3]] w' fun e w''=>e=.returned (.tuple #[.slice none 0 0,.slice none 0 0,.int .i64 k])∧Bw w' w'')) ∨
  (∃(N:NSta) (c k:Nat),C=E c∧K=E k∧c<256^16∧k<256^16∧S=N.s∧NOk N∧N.chk=0∧2≤c∧2≤k∧(N.vars.any vz=true→c≤N.ord)):=by
 have hg:=few_ssm hf;cases hr:(vldB C&&vldB K)
 ·exact .inl ⟨3,by decide,fun w' hb=>bounds_rule C K v1 v2 v3 w' (by omega) (by omega) hr,fun w' hb=>rbounds_rule C K v1 v2 v3 w' (by omega) (by omega) hr⟩
 ·simp only[Bool.and_eq_true]at hr;obtain⟨c,hc,rfl⟩:=numk hC hr.1;obtain⟨k,hk,rfl⟩:=numk hK hr.2;cases he:formB S
  ·exact .inl ⟨3,by decide,fun w' hb=>bounds_chk c k v1 v2 v3 3 w' hc hk (by decide) (fun w2 hd=>check_bad S v1 v2 v3 w2 hg (hS.after (bt hb hd)) he),
    fun w' hb=>rbounds_chk c k v1 v2 v3 3 w' hc hk (by decide) (fun w2 hd=>rCheck_bad S v1 v2 v3 w2 hg (hS.after (bt hb hd)) he)⟩
  ·obtain⟨N,rfl,hm⟩:=to_num S he hf;by_cases h0:N.chk=0
   ·by_cases h2:c<2∨k<2
    ·exact .inl ⟨2,by decide,fun w' hb=>bounds_two N c k v1 v2 v3 w' hc hk h2 hm (hS.after hb) h0,fun w' hb=>rbounds_two N c k v1 v2 v3 w' hc hk h2 hm (hS.after hb) h0⟩
    ·by_cases h3:N.vars.any vz=true∧N.ord<c
     ·exact .inl ⟨2,by decide,fun w' hb=>bounds_ord N c k v1 v2 v3 w' hc hk (by omega) (by omega) h3.1 h3.2 hm (hS.after hb) h0,fun w' hb=>rbounds_ord N c k v1 v2 v3 w' hc hk (by omega) (by omega) h3.1 h3.2 hm (hS.after hb) h0⟩
     ·exact .inr ⟨N,c,k,rfl,rfl,hc,hk,rfl,hm,h0,by omega,by omega,fun hv=>by
       apply Classical.byContradiction
       intro hn;exact h3 ⟨hv,by omega⟩⟩
   ·exact .inl ⟨N.chk,h0,fun w' hb=>bounds_chk c k v1 v2 v3 N.chk w' hc hk h0 (fun w2 hd=>check_c N v1 v2 v3 w2 hm (hS.after (bt hb hd))),
     fun w' hb=>rbounds_chk c k v1 v2 v3 N.chk w' hc hk h0 (fun w2 hd=>rCheck_c N v1 v2 v3 w2 hm (hS.after (bt hb hd)))⟩
theorem ints_lift (R:List (Bool × ByteArray)) (n:Nat) (h1:∀x∈R,ivB x.1 x.2=true) (h2:∀x∈R,x.2.size≤n):∃Z:List Int,Z.map zI=R∧∀z∈Z,z.natAbs<256^n:=
 list_lift zI (fun z=>z.natAbs<256^n) R fun x hx=>by
  obtain⟨z,_,e1,e2⟩:=of_ivB (h1 x hx);have h3:=h2 x hx;rw[e2]at h3;exact⟨z,by rw[zI,←e1,←e2],lt_of_size h3⟩
end
section
open Go.RowKit Go.Shelf
theorem own_keep2 {w w':World} {b:Nat} {e:TypeId} {s n:Nat} {v:Value} {x:List Value} {o:Option Nat} (h:w.ownsRow b e s v n x) (hg:w.grownBy w' o) (hd:∀g,v.ownBlock=some g→o≠some g):w'.ownsRow b e s v n x:=
 own_keep h fun g hv=>hg.block g (own_lt h hv).1 (fun e'=>hd g hv e'.symm)
theorem sBounds_c (N:NSta) (C K:Nat) (v1 v2 v3:Value) (w:World) (Hw:N.vars.length≤12)
  (hb:∀w',Bw w w'→Calls Tryz.prog 77 #[.agg #[.string (E C),.string (E K)],.agg #[v1,v2,v3]] w' (BPost w' (N.lims C K))) :
  Calls Tryz.prog 33 #[.agg #[.string (E C),.string (E K)],.agg #[v1,v2,v3]] w (B2Post w (N.lims C K)):=by
 obtain⟨i0,h7,hl,hm,ho⟩:=info_parts info_nat;have h8:=Kh h7;have h9:=Kh hl;have Ha:=Kh hm;have Hb:=Kh ho;clear h7 hl hm ho;have HB:=Kh hb;obtain⟨hR,hP,hp⟩:=blk2 w #[.string (E C),.string (E K)] #[v1,v2,v3] 24 29;clear hb;obtain⟨hF,hG,hH,hJ⟩:=hR.x2;obtain⟨hK,hL,hM,hN,hO,hQ⟩:=hP.x3;go_enter Tryz.func33,Tryz.ntmps33
 go_wp2_with fail
 refine (HB.out _ hp).mono ?_;rintro e wF ⟨lv,rfl,hB,Hc⟩;clear hF hG hH hJ;clear hK hL hM hN hO hQ;replace hp:=bt hp Hc;clear Hc hR hP;obtain⟨la,lc,rfl⟩:=hB.form;obtain⟨n,hn⟩:∃n,n=(N.lims C K).length:=⟨_,rfl⟩;have HN:=Kh hn;have Hd:Hid (n=N.vars.length):=by rw[Hid,hn,NSta.lims,List.length_map]
 have Hx:n≤12:=by have:=Hd.out;omega
 rw[←hn]at hB ⊢;clear hn;go_wp2;go_loopw [9,10,24] (fun v9 v10 i wr=>∃k:Nat,k≤n∧i=.int .i64 k∧RRel wF ((N.lims C K).take k) v9 v10 wr) (fun _ _ i _=>n-(intOf i).toNat)
 case atStart=>exact⟨0,by omega,rfl,⟨World.ownsRow_nil _ _ _ _,World.ownsRow_nil _ _ _ _,fun g h=>by simp[Value.ownBlock]at h,Br⟩⟩
 case round =>
  obtain⟨k,hk,rfl,hI⟩:=hrel;obtain⟨wq,Hp⟩:∃wq,wq=wr:=⟨_,rfl⟩;subst Hp;have hS:=hI.b;by_cases hlt:k<n
  ·have He:k<N.vars.length:=by rw[←Hd.out];exact hlt
   have Hf:k<(N.lims C K).length:=by rw[←HN.out];exact hlt
   have hU:=Kh (lims_step N C K k He);have Hg:=Kh (lims_at N C K k He Hf);obtain⟨bl,rfl,Hq,x1,x2⟩:=(LmOwn.after hB hS).at_ Hf;rw[Hg.out]at x1 x2;have Hy:(0:Int)≤(k:Int):=by omega
   have Hz:(k:Int)<(n:Int):=by omega
   obtain⟨l1',hV⟩:∃x,x=(lim N.ord C K N.vars[k]).1:=⟨_,rfl⟩;obtain⟨l2',hW⟩:∃x,x=(lim N.ord C K N.vars[k]).2:=⟨_,rfl⟩;have hq:Hid (((N.lims C K).take (k+1)).map (·.1)=((N.lims C K).take k).map (·.1)++[l1']):=by rw[Hid,hU.out,List.map_append,hV];rfl
   have hr:Hid (((N.lims C K).take (k+1)).map (·.2)=((N.lims C K).take k).map (·.2)++[l2']):=by rw[Hid,hU.out,List.map_append,hW];rfl
   rw[←hV]at x1;rw[←hW]at x2;clear hV hW hU Hg;have hX:(((N.lims C K).take k).map (·.1)).length=k:=by rw[List.length_map,List.length_take,NSta.lims,List.length_map];omega
   have hY:(((N.lims C K).take k).map (·.2)).length=k:=by rw[List.length_map,List.length_take,NSta.lims,List.length_map];omega
   have hh:wq.ownsRow wF.heap.size 22 1 u9 k (strs (((N.lims C K).take k).map (·.1))):=by have h:wq.ownsRow _ _ _ _ _ _:=hI.a;rw[hX]at h;exact h
   have hi:wq.ownsRow wF.heap.size 22 1 u10 k (strs (((N.lims C K).take k).map (·.2))):=by have h:wq.ownsRow _ _ _ _ _ _:=hI.z;rw[hY]at h;exact h
   have Hh:=Kh hI.d;have Hi:=Kh hX;have Hj:=Kh hY;clear hI hX hY;generalize ((N.lims C K).take k).map (·.1)=LA at hh hq Hi;generalize ((N.lims C K).take k).map (·.2)=LB at hi hr Hj;obtain⟨hT,hD⟩:=blk1 wq #[.string (E l1'),.string (E l2')] 165;have hj:=own_after hh hD;have hE:=own_after hi hD;have hZ:=bt hS hD;go_upto_region 8 with fail
   clear x1 x2 Hq hh hi hS hD hB;generalize wq.alloc (.cells #[.string (E l1'),.string (E l2')] 165)=wv at hT hj hE hZ ⊢;obtain⟨g12,ht⟩:∃g,wq.heap.size=g:=⟨_,rfl⟩;rw[ht]at hT ⊢;clear ht;replace hT:Blk wv g12 165 [.string (E l1'),.string (E l2')]:=hT;have hC:CA wv [(⟨g12,0,none⟩,.string (E l1')),(⟨g12,1,none⟩,.string (E l2'))]:=CA.cons hT.lt (hT.cell 0) (CA.cons hT.lt (hT.cell 1) (CA.nil _));have HA:=hZ.size
   have Hr:Hid (∀x∈([(⟨g12,0,none⟩,.string (E l1')),(⟨g12,1,none⟩,.string (E l2'))]:List (Addr × Value)),u9.ownBlock≠some x.1.block):=by
    have q1:=own_ne hj hT (by decide);intro x hx;simp only[List.mem_cons,List.not_mem_nil,or_false]at hx;rcases hx with rfl | rfl
    ·exact q1
    ·exact q1
   have Hs:Hid (∀x∈([(⟨g12,0,none⟩,.string (E l1')),(⟨g12,1,none⟩,.string (E l2'))]:List (Addr × Value)),u10.ownBlock≠some x.1.block):=by
    have q1:=own_ne hE hT (by decide);intro x hx;simp only[List.mem_cons,List.not_mem_nil,or_false]at hx;rcases hx with rfl | rfl
    ·exact q1
    ·exact q1
   clear hT
   go_region_held3 (fun w'=>w'.cell? ⟨g12,0,none⟩=some (.string (E l1'))∧w'.cell? ⟨g12,1,none⟩=some (.string (E l2'))) ((refine CA.k2 ?_;repeat (first | (with_reducible exact Hk) | (with_reducible exact h0) | (with_reducible exact hC) | (with_reducible refine CA.drew ?_) | (with_reducible refine CA.alloc ?_ _))))
    (first | (refine step_append_lies _ (by rfl) (.tmp 28) (.tmp 31) _ (by rfl) wF.heap.size 22 i0 _ 1 16 Tryz.underlying31 h8.out h9.out Ha.out Hb.out rfl (by omega) u9 k (strs LA) (by rfl) (by repeat (first | (with_reducible exact hj) | (with_reducible refine World.ownsRow.drew ?_) | (with_reducible refine World.ownsRow.alloc ?_ _))) _ 1 1 [.string (E l1')] (by rfl) rfl (Blk.cells (T:=22) (by first | exact blkN (by simp) | exact (blkN (by simp)).alloc _)) (by simp[Value.oneCell']) (by omega) (by simp only[maxLen];omega) (by omega) (by simp;omega) _ rfl ?_;intro ga ca wa he hc hu h3;have hw:wa.ownsRow wF.heap.size 22 1 u10 k (strs LB):=own_keep2 (by repeat (first | (with_reducible exact hE) | (with_reducible refine World.ownsRow.drew ?_) | (with_reducible refine World.ownsRow.alloc ?_ _))) hc (fun g hv e=>Hh.out g e hv);have h0:CA wa [(⟨g12,0,none⟩,.string (E l1')),(⟨g12,1,none⟩,.string (E l2'))]:=CA.grown (by repeat (first | (with_reducible exact hC) | (with_reducible refine CA.drew ?_) | (with_reducible refine CA.alloc ?_ _))) hc Hr.out;have hy:Bw wF wa:=Below.grown (by repeat (first | (with_reducible exact hZ) | (with_reducible refine Below.drew ?_) | (with_reducible refine Below.alloc ?_ (by first | omega | (simp;omega)) _))) hc (by simp;omega) (fun g hg=>(own_lt hj hg).2);have HC:=hc.size;have HD:=hy.size;have Hl:Hid (∀g,u10.ownBlock=some g→g≠ga):=(fun g hg e=>by subst e;rcases hu with h | h;exact Hh.out _ h hg;exact absurd (own_lt hE hg).1 (by first | omega | (simp at h;omega)));(try (have h4:Blk wa wv.heap.size 22 [.string (E l2')]:=Blk.grown (by first | exact (blkN (by simp)).alloc _) hc (fun e=>by have:=(own_lt hj e).1;omega)));(try (have h5:Blk wa (wv.heap.size+1) 22 [.string (E l2')]:=Blk.grown (by first | exact blkN (by simp)) hc (fun e=>by have:=(own_lt hj e).1;omega)))) | (refine step_append_lies _ (by rfl) (.tmp 33) (.tmp 36) _ (by rfl) wF.heap.size 22 i0 _ 1 16 Tryz.underlying31 h8.out h9.out Ha.out Hb.out rfl (by omega) u10 k (strs LB) (by rfl) (by repeat (first | (with_reducible exact hw) | (with_reducible refine World.ownsRow.drew ?_) | (with_reducible refine World.ownsRow.alloc ?_ _))) _ 1 1 [.string (E l2')] (by rfl) rfl (Blk.cells (T:=22) (by first | exact blkN (by simp) | exact h4 | exact h5)) (by simp[Value.oneCell']) (by omega) (by simp only[maxLen];omega) (by omega) (by have:=hy.size;simp;omega) _ rfl ?_;intro gb cb wb hf hd hz h6;have Hm:wb.ownsRow wF.heap.size 22 1 (.slice (some ⟨ga,0,none⟩) (k+1) ca) (k+1) (strs LA++[.string (E l1')]):=own_keep2 (by repeat (first | (with_reducible exact he) | (with_reducible refine World.ownsRow.drew ?_) | (with_reducible refine World.ownsRow.alloc ?_ _))) hd (fun g hv e=>Hl.out g e (by have e1:ga=g:=(by simpa [Value.ownBlock] using hv);exact e1.symm));have Hk:CA wb [(⟨g12,0,none⟩,.string (E l1')),(⟨g12,1,none⟩,.string (E l2'))]:=CA.grown (by repeat (first | (with_reducible exact h0) | (with_reducible refine CA.drew ?_) | (with_reducible refine CA.alloc ?_ _))) hd Hs.out;have Ht:Bw wF wb:=Below.grown (by repeat (first | (with_reducible exact hy) | (with_reducible refine Below.drew ?_) | (with_reducible refine Below.alloc ?_ (by have:=hy.size;first | omega | (simp;omega)) _))) hd (by have:=hy.size;simp;omega) (fun g hg=>(own_lt hw hg).2)))
   all_goals
    have Hu:Hid (∀g,(Value.slice (some ⟨ga,0,none⟩) (k+1) ca).ownBlock=some g→(Value.slice (some ⟨gb,0,none⟩) (k+1) cb).ownBlock≠some g):=by
     intro g h1 h2;have e1:ga=g:=by simpa [Value.ownBlock] using h1
     have e2:gb=g:=by simpa [Value.ownBlock] using h2
     have HE:=(own_lt he h1).1;rcases hz with h | h
     ·exact Hl.out gb h (e2.trans e1.symm)
     ·first | omega | (simp at h;omega)
    have Hn:NOwn wb wF.heap.size (.slice (some ⟨ga,0,none⟩) (k+1) ca) (LA++[l1']):=by rw[NOwn,List.length_append,Hi.out,←strs_app];exact Hm
    have Ho:NOwn wb wF.heap.size (.slice (some ⟨gb,0,none⟩) (k+1) cb) (LB++[l2']):=by rw[NOwn,List.length_append,Hj.out,←strs_app];exact hf
    rw[show LA++[l1']=((N.lims C K).take (k+1)).map (·.1) by rw[hq.out]]at Hn;rw[show LB++[l2']=((N.lims C K).take (k+1)).map (·.2) by rw[hr.out]]at Ho;clear Hm hf he hu hz hc hd h3 h6 h0 Hk;go_wp2;go_roundw
    case rel=>exact⟨k+1,by omega,by go_num,⟨Hn,Ho,Hu.out,Ht⟩⟩
    case measure=>simp[intOf];omega
  ·obtain rfl:n=k:=by omega
   have Hv:Hid ((N.lims C K).take n=N.lims C K):=List.take_of_length_le (by rw[←HN.out];omega);rw[Hv.out]at hI;have hA:=hp.size;go_wp2;go_ret3
   exact⟨_,_,rfl,own_mono hI.a hA,own_mono hI.z hA,bt hp hI.b⟩
end
end Go.Proofs.YtihjpddbjhcbmaaGreatDoor
