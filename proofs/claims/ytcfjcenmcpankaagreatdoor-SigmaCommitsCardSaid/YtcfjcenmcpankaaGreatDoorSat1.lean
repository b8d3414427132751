import Derived.Test.YtcfjcenmcpankaaGreatDoorSig4
import Derived.Test.YtcfjcenmcpankaaGreatDoorLck6
set_option linter.unusedVariables false
set_option linter.unusedSimpArgs false
set_option maxRecDepth 100000
set_option maxHeartbeats 16000000
namespace Go.Proofs.YtcfjcenmcpankaaGreatDoor
section
open Go.RowKit Go.Shelf
def ra (n:Nat) (p:Nat→Bool):Bool:=(List.range n).all p
theorem ra_true {n:Nat} {p:Nat→Bool} (h:∀j,j<n→p j=true):ra n p=true:=by
 unfold ra;rw [List.all_eq_true];intro x hx;exact h x (List.mem_range.1 hx)
theorem ra_false {n j:Nat} {p:Nat→Bool} (hj:j<n) (h:p j=false):ra n p=false:=by
 unfold ra;rw [List.all_eq_false];exact ⟨j,List.mem_range.2 hj,by simp [h]⟩
theorem ra_at {n j:Nat} {p:Nat→Bool} (h:ra n p=true) (hj:j<n):p j=true:=by
 unfold ra at h;rw [List.all_eq_true] at h;exact h j (List.mem_range.2 hj)
def NSta.eq (N:NSta) (j:Nat):NEqn:=N.eqs.getD j ⟨0,0,[]⟩
theorem eq_at (N:NSta) (j:Nat) (h:j<N.eqs.length):N.eq j=N.eqs[j]:=by
 unfold NSta.eq;rw [List.getD_eq_getElem?_getD,List.getElem?_eq_getElem h];rfl
def blJ (N:NSta) (C K:Nat) (Z:List Int) (j:Nat):Bool:=blw (N.vars.getD j 0) (Z.getD j 0) (lim N.ord C K (N.vars.getD j 0)).2
def hsJ (N:NSta) (F:List Nat) (j:Nat):Bool:=hasB (N.gp (N.eq j)).1 (N.gp (N.eq j)).2 (F.getD j 0)
def imJ (N:NSta) (F:List Nat) (c:Nat) (Z:List Int) (j:Nat):Bool:=decide (F.getD j 0*powI (N.eq j).tgt (c:Int) (N.gp (N.eq j)).1%(N.gp (N.eq j)).1=imgV N Z (N.eq j))
def NSta.ver (N:NSta) (C K:Nat) (F:List Nat) (c:Nat) (Z:List Int):Nat:=
 if F.length≠N.eqs.length∨Z.length≠N.vars.length then 6 else if C≤c then 2 else if ra N.vars.length (blJ N C K Z)=false then 2
 else if ra N.eqs.length (hsJ N F)=false then 13 else if ra N.eqs.length (imJ N F c Z)=false then 16 else 0
theorem ver_6 {N:NSta} {C K c:Nat} {F:List Nat} {Z:List Int} (h:F.length≠N.eqs.length∨Z.length≠N.vars.length):N.ver C K F c Z=6:=by unfold NSta.ver;rw [if_pos h]
theorem ver_2 {N:NSta} {C K c:Nat} {F:List Nat} {Z:List Int} (h1:F.length=N.eqs.length) (h2:Z.length=N.vars.length) (h:C≤c):N.ver C K F c Z=2:=by unfold NSta.ver;rw [if_neg (by simp [h1,h2]),if_pos h]
theorem ver_2b {N:NSta} {C K c:Nat} {F:List Nat} {Z:List Int} (h1:F.length=N.eqs.length) (h2:Z.length=N.vars.length) (h:c<C) (h3:ra N.vars.length (blJ N C K Z)=false):N.ver C K F c Z=2:=by unfold NSta.ver;rw [if_neg (by simp [h1,h2]),if_neg (by omega),if_pos h3]
theorem ver_13 {N:NSta} {C K c:Nat} {F:List Nat} {Z:List Int} (h1:F.length=N.eqs.length) (h2:Z.length=N.vars.length) (h:c<C) (h3:ra N.vars.length (blJ N C K Z)=true) (h4:ra N.eqs.length (hsJ N F)=false):N.ver C K F c Z=13:=by unfold NSta.ver;rw [if_neg (by simp [h1,h2]),if_neg (by omega),if_neg (by simp [h3]),if_pos h4]
theorem ver_16 {N:NSta} {C K c:Nat} {F:List Nat} {Z:List Int} (h1:F.length=N.eqs.length) (h2:Z.length=N.vars.length) (h:c<C) (h3:ra N.vars.length (blJ N C K Z)=true) (h4:ra N.eqs.length (hsJ N F)=true) (h5:ra N.eqs.length (imJ N F c Z)=false):N.ver C K F c Z=16:=by unfold NSta.ver;rw [if_neg (by simp [h1,h2]),if_neg (by omega),if_neg (by simp [h3]),if_neg (by simp [h4]),if_pos h5]
theorem ver_0 {N:NSta} {C K c:Nat} {F:List Nat} {Z:List Int} (h1:F.length=N.eqs.length) (h2:Z.length=N.vars.length) (h:c<C) (h3:ra N.vars.length (blJ N C K Z)=true) (h4:ra N.eqs.length (hsJ N F)=true) (h5:ra N.eqs.length (imJ N F c Z)=true):N.ver C K F c Z=0:=by unfold NSta.ver;rw [if_neg (by simp [h1,h2]),if_neg (by omega),if_neg (by simp [h3]),if_neg (by simp [h4]),if_neg (by simp [h5])]
theorem blJ_at (N:NSta) (C K:Nat) (Z:List Int) (j:Nat) (h:j<N.vars.length) (h2:j<Z.length):blJ N C K Z j=blw N.vars[j] Z[j] (lim N.ord C K N.vars[j]).2:=by
 unfold blJ;simp only [List.getD_eq_getElem?_getD,List.getElem?_eq_getElem h,List.getElem?_eq_getElem h2,Option.getD_some]
theorem hsJ_at (N:NSta) (F:List Nat) (j:Nat) (h:j<N.eqs.length) (h2:j<F.length) (hg:N.eqs[j].grp<N.grps.length):hsJ N F j=hasB N.grps[N.eqs[j].grp].1 N.grps[N.eqs[j].grp].2 F[j]:=by
 unfold hsJ;rw [eq_at N j h,gp_at N _ hg];simp only [List.getD_eq_getElem?_getD,List.getElem?_eq_getElem h2,Option.getD_some]
theorem imJ_at (N:NSta) (F:List Nat) (c:Nat) (Z:List Int) (j:Nat) (h:j<N.eqs.length) (h2:j<F.length) (hg:N.eqs[j].grp<N.grps.length):imJ N F c Z j=decide (F[j]*powI N.eqs[j].tgt (c:Int) N.grps[N.eqs[j].grp].1%N.grps[N.eqs[j].grp].1=imgV N Z N.eqs[j]):=by
 unfold imJ;rw [eq_at N j h,gp_at N _ hg];simp only [List.getD_eq_getElem?_getD,List.getElem?_eq_getElem h2,Option.getD_some]
theorem lim_lt {N:NSta} (hm:NOk N) {C K:Nat} (hC:C<256^16) (hK:K<256^16) {b:Nat} (hb:b∈N.vars):(lim N.ord C K b).2<256^48:=by
 unfold lim;split
 ·exact Nat.lt_of_lt_of_le (ord_lt hm) (by decide)
 ·exact Nat.lt_of_le_of_lt (Nat.sub_le _ _) (lt_mul3 hC hK (hm.v b hb)).2
theorem lims_at (N:NSta) (C K:Nat) (j:Nat) (h:j<N.vars.length) (h2:j<(N.lims C K).length):(N.lims C K)[j]=lim N.ord C K N.vars[j]:=by simp [NSta.lims]
theorem powI_nat (x c p:Nat):powI x (c:Int) p=x^c%p:=by
 unfold powI;rw [if_neg (by omega),Int.natAbs_natCast]
theorem has_powN {p q x:Nat} (c:Nat) (hp:2≤p) (h:hasB p q x=true):hasB p q (powI x (c:Int) p)=true:=by
 rw [powI_nat];have hx:=has_coprime hp h
 have h1:Nat.gcd (x^c%p) p=1:=by
  have h2:Nat.gcd (x^c) p=1:=Nat.Coprime.pow_left c hx;rw [Nat.gcd_comm,Nat.gcd_rec] at h2;exact h2
 have hlt:x^c%p<p:=Nat.mod_lt _ (by omega)
 have h0:x^c%p≠0:=by
  intro e;rw [e,Nat.gcd_zero_left] at h1;omega
 unfold hasB at h ⊢;by_cases hq:q=0
 ·rw [if_pos hq];exact decide_eq_true ⟨h0,hlt,h1⟩
 ·rw [if_neg hq] at h ⊢;have h3:=(of_decide_eq_true h).2.2;refine decide_eq_true ⟨h0,hlt,?_⟩;rw [←Nat.pow_mod,←Nat.pow_mul,Nat.mul_comm,Nat.pow_mul,Nat.pow_mod,h3,←Nat.pow_mod,Nat.one_pow]
theorem pexpN_c (p q x c:Nat) (w:World) (hp:p<256^8) (hq:q<256^128) (he:grpE p q=0) (hx:hasB p q x=true) (hc:c<256^128) :
  Calls Tryz.prog 63 #[.agg #[.string (E p),.string (E q)],.string (E x),.agg #[.bool (sg (c:Int)),.string (E c)]] w fun e w'=>e=.returned (.tuple #[.string (E (powI x (c:Int) p)),.int .i64 0])∧Below w.heap.size w w':=by
 have:=pexp_c p q x (c:Int) w hp hq he hx (by rw [Int.natAbs_natCast];exact hc);rwa [Int.natAbs_natCast] at this
theorem svalidV_c (l:List (Bool × ByteArray)) (v:Value) (b:Bool) (w:World) (hn:l.length≤1000) (hs:∀x∈l,x.2.size≤1000) (hR:IsAt w v l) (h:(l.all fun x=>ivB x.1 x.2)=b) :
  Calls Tryz.prog 48 #[v] w fun e w'=>e=.returned (.bool b)∧Below w.heap.size w w':=by rw [←h];exact svalid_c l v w hn hs hR
end
section
open Go.RowKit Go.Shelf
theorem verify_num (N:NSta) (C K c:Nat) (F:List Nat) (Z:List Int) (v1 v2 v3 f rs:Value) (w:World) (hC:C<256^16) (hK:K<256^16) (hm:NOk N) (hS:NAt w v1 v2 v3 N) (hc:N.chk=0)
  (hch:∀w',Below w.heap.size w w'→Calls Tryz.prog 42 #[.agg #[.string (E C),.string (E K)],.agg #[v1,v2,v3]] w' (BPost w' (N.lims C K)))
  (hFs:SsAt w f (F.map E)) (hZs:ZsAt w rs Z) (hf1:F.length≤1000) (hf2:∀x∈F,x<256^128) (hc2:c<256^128) (hz1:Z.length≤1000) (hz2:∀z∈Z,z.natAbs<256^64) :
  Calls Tryz.prog 23 #[.agg #[.string (E C),.string (E K)],.agg #[v1,v2,v3],.agg #[f,.string (E c),rs]] w fun e w'=>e=.returned (.int .i64 (N.ver C K F c Z:Nat))∧Below w.heap.size w w':=by
 obtain ⟨r,hr⟩:∃r:Nat,r=N.ver C K F c Z:=⟨_,rfl⟩;have HRES:=Lib.hid hr;rw [←hr];clear hr;have HCH:=Lib.hid hch;have HCK:=Lib.hid hc;have HC:=Lib.hid (lt128' hC (by decide));have HC8:=Lib.hid hC;have HK8:=Lib.hid hK;have HF2:=Lib.hid hf2;have HCC:=Lib.hid hc2;have HZ2:=Lib.hid hz2;obtain ⟨a4,c4,hfe⟩:=RAt.form hFs;obtain ⟨a5,c5,hze⟩:=hZs.form;rw [List.length_map] at hfe;obtain ⟨nF,hnF⟩:∃n,n=F.length:=⟨_,rfl⟩;obtain ⟨nZ,hnZ⟩:∃n,n=Z.length:=⟨_,rfl⟩;have HNF:=Lib.hid hnF;have HNZ:=Lib.hid hnZ;rw [←hnF] at hfe hf1;rw [←hnZ] at hze hz1;subst hfe hze;obtain ⟨a1,c1,a2,c2,a3,c3,rfl,rfl,rfl⟩:=hS.forms;obtain ⟨n1,hn1⟩:∃n,n=N.grps.length:=⟨_,rfl⟩;obtain ⟨n2,hn2⟩:∃n,n=N.vars.length:=⟨_,rfl⟩;obtain ⟨n3,hn3⟩:∃n,n=N.eqs.length:=⟨_,rfl⟩;have HN1:=Lib.hid hn1;have HN2:=Lib.hid hn2;have HN3:=Lib.hid hn3;have l1:n1≤10:=by rw [hn1];exact hm.ng
 have l2:n2≤12:=by rw [hn2];exact hm.nv
 have l3:n3≤12:=by rw [hn3];exact hm.ne
 have HM:=Lib.hid hm;rw [←hn1,←hn2,←hn3] at hS ⊢;rw [←hn1,←hn2,←hn3] at HCH;have hR:=blk3a w #[.string (E C),.string (E K)] #[.slice a1 n1 c1,.slice a2 n2 c2,.slice a3 n3 c3] #[.slice a4 nF c4,.string (E c),.slice a5 nZ c5] 24 29 52;have hP:=blk3b w #[.string (E C),.string (E K)] #[.slice a1 n1 c1,.slice a2 n2 c2,.slice a3 n3 c3] #[.slice a4 nF c4,.string (E c),.slice a5 nZ c5] 24 29 52;have hF:=blk3c w #[.string (E C),.string (E K)] #[.slice a1 n1 c1,.slice a2 n2 c2,.slice a3 n3 c3] #[.slice a4 nF c4,.string (E c),.slice a5 nZ c5] 24 29 52;have hBW:=b3 w (.cells #[.string (E C),.string (E K)] 24) (.cells #[.slice a1 n1 c1,.slice a2 n2 c2,.slice a3 n3 c3] 29) (.cells #[.slice a4 nF c4,.string (E c),.slice a5 nZ c5] 52);replace hS:=hS.after hBW;replace hFs:=SsAt.after hFs hBW;replace hZs:=hZs.after hBW;clear hm hn1 hn2 hn3 hC hK hc hch hf2 hc2 hz2 hnF hnZ;obtain ⟨hRc0,hRf0,hRc1,hRf1⟩:=hR.x2;obtain ⟨hPc0,hPf0,hPc1,hPf1,hPc2,hPf2⟩:=hP.x3;go_enter Tryz.func23,Tryz.ntmps23
 go_wp2_with fail
 refine (HCH.out _ hBW).mono ?_;rintro e w2 ⟨lv,rfl,hLm,hb2⟩;clear hRc0 hRf0 hRc1 hRf1;clear hPc0 hPf0 hPc1 hPf1 hPc2 hPf2;replace hR:=hR.after hb2;replace hP:=hP.after hb2;replace hF:=hF.after hb2;replace hS:=hS.after hb2;replace hFs:=SsAt.after hFs hb2;replace hZs:=hZs.after hb2;replace hBW:=bt hBW hb2;clear hb2;obtain ⟨a6,c6,rfl⟩:=hLm.form;have HLL:Hid ((N.lims C K).length=n2):=by rw [Hid,NSta.lims,List.length_map,HN2.out]
 rw [HLL.out] at hLm ⊢;have hFl:=hF.lt;obtain ⟨hFc0,hFf0,hFc1,hFf1,hFc2,hFf2⟩:=hF.x3;go_wp2;clear hFc0 hFf0 hFc1 hFf1 hFc2 hFf2;clear hFl;go_loopw [33] (fun i wr=>∃k:Nat,k≤nF∧i=.int .i64 k∧Below w2.heap.size w2 wr) (fun i _=>nF-(intOf i).toNat)
 case atStart=>exact ⟨0,by omega,rfl,Below.refl _ _⟩
 case round =>
  obtain ⟨k,hk,rfl,hbr⟩:=hrel;obtain ⟨wp,hwp⟩:∃wp,wp=wr:=⟨_,rfl⟩;subst hwp;replace hR:=hR.after hbr;replace hP:=hP.after hbr;replace hF:=hF.after hbr;replace hS:=hS.after hbr;replace hFs:=SsAt.after hFs hbr;replace hZs:=hZs.after hbr;replace hLm:=hLm.after hbr;replace hBW:=bt hBW hbr;by_cases hlt:k<nF
  ·have hkl:k<F.length:=by rw [←HNF.out];exact hlt
   have hkl':k<(F.map E).length:=by simpa using hkl
   have HSZ:=Lib.hid (HF2.out _ (List.getElem_mem hkl));obtain ⟨b,o,rfl,hbl,x1⟩:=SsAt.at_ hFs hkl';simp only [List.getElem_map] at x1;generalize (F[k]'hkl)=s1 at x1 HSZ;have h0k:(0:Int)≤(k:Int):=by omega
   have h1k:(k:Int)<(nF:Int):=by omega
   go_wp2_with fail
   refine (validE_c s1 _ HSZ.out).mono ?_;rintro e w' ⟨rfl,rfl⟩;go_wp2;go_roundw
   case rel=>exact ⟨k+1,by omega,by go_num,hbr⟩
   case measure=>simp [intOf];omega
  ·clear hbr;have hFl:=hF.lt;obtain ⟨hFc0,hFf0,hFc1,hFf1,hFc2,hFf2⟩:=hF.x3;go_wp2_with fail
   refine (validE_c c _ HCC.out).mono ?_;rintro e w' ⟨rfl,rfl⟩;go_wp2_with fail
   refine (svalidV_c (Z.map zI) _ true _ (by rw [List.length_map,←HNZ.out];exact hz1) (fun x hx=>by obtain ⟨z,hz,rfl⟩:=List.mem_map.1 hx;exact Nat.le_trans ((E_size_le _ 64).2 (HZ2.out z hz)) (by decide)) hZs (by rw [List.all_map,List.all_eq_true];intro z hz;exact ivB_I z (lt64 (HZ2.out z hz)))).mono ?_;rintro e w5 ⟨rfl,hb5⟩;clear hFc0 hFf0 hFc1 hFf1 hFc2 hFf2;replace hR:=hR.after hb5;replace hP:=hP.after hb5;replace hF:=hF.after hb5;replace hS:=hS.after hb5;replace hFs:=SsAt.after hFs hb5;replace hZs:=hZs.after hb5;replace hLm:=hLm.after hb5;replace hBW:=bt hBW hb5;clear hb5 hFl;have hFl:=hF.lt;have hPl:=hP.lt;have hRl:=hR.lt;by_cases hln:nF=n3∧nZ=n2
   ·obtain ⟨e1,e2⟩:=hln;have HL1:Hid (F.length=N.eqs.length):=by rw [Hid,←HNF.out,←HN3.out];exact e1
    have HL2:Hid (Z.length=N.vars.length):=by rw [Hid,←HNZ.out,←HN2.out];exact e2
    subst e1 e2;rcases Nat.lt_or_ge c C with hcl | hcg
    ·have hcm:=cmp_neg c C hcl;have hcm2:¬ 0≤cmpN c C:=by omega
     have HCL:=Lib.hid hcl;clear hcl;obtain ⟨hFc0,hFf0,hFc1,hFf1,hFc2,hFf2⟩:=hF.x3;obtain ⟨hPc0,hPf0,hPc1,hPf1,hPc2,hPf2⟩:=hP.x3;obtain ⟨hRc0,hRf0,hRc1,hRf1⟩:=hR.x2;go_wp2_with fail
     refine (cmp_c c C _ HCC.out HC.out).mono ?_;rintro e w' ⟨rfl,rfl⟩;go_wp2;clear hFc0 hFf0 hFc1 hFf1 hFc2 hFf2;clear hPc0 hPf0 hPc1 hPf1 hPc2 hPf2;clear hRc0 hRf0 hRc1 hRf1;clear hcm hcm2;go_loopw [79] (fun i wr=>∃k:Nat,k≤nZ∧i=.int .i64 k∧Hid (∀j,j<k→blJ N C K Z j=true)∧Below w5.heap.size w5 wr) (fun i _=>nZ-(intOf i).toNat)
     case atStart=>exact ⟨0,by omega,rfl,fun j h=>absurd h (Nat.not_lt_zero _),Below.refl _ _⟩
     case round =>
      obtain ⟨k,hk,rfl,HA,hbr⟩:=hrel;obtain ⟨wq,hwq⟩:∃wp,wp=wr:=⟨_,rfl⟩;subst hwq;replace hR:=hR.after hbr;replace hP:=hP.after hbr;replace hF:=hF.after hbr;replace hS:=hS.after hbr;replace hFs:=SsAt.after hFs hbr;replace hZs:=hZs.after hbr;replace hLm:=hLm.after hbr;replace hBW:=bt hBW hbr;clear hFl hPl hRl;have hFl:=hF.lt;have hPl:=hP.lt;have hRl:=hR.lt;by_cases hlt:k<nZ
      ·have hkl:k<N.vars.length:=by rw [←HL2.out,←HNZ.out];exact hlt
       have hkz:k<Z.length:=by rw [←HNZ.out];exact hlt
       have hkL:k<(N.lims C K).length:=by rw [HLL.out];exact hlt
       have HBJ:=Lib.hid (blJ_at N C K Z k hkl hkz);have HLT:=Lib.hid (lim_lt HM.out HC8.out HK8.out (List.getElem_mem hkl));have HZB:=Lib.hid (lt64 (HZ2.out _ (List.getElem_mem hkz)));obtain ⟨b,o,rfl,hbl,x1⟩:=hS.vat hkl;obtain ⟨b',o',rfl,hbl',y1,y2⟩:=hZs.at_ hkz;obtain ⟨b6,rfl,hbl6,z1,z2⟩:=hLm.at_ hkL;rw [lims_at N C K k hkl hkL] at z1 z2;generalize (N.vars[k]'hkl)=vb at x1 z1 z2 HBJ HLT;generalize (Z[k]'hkz)=zz at y1 y2 HBJ HZB;generalize (lim N.ord C K vb).1=la at z1;generalize (lim N.ord C K vb).2=lb at z2 HBJ HLT;have h0k:(0:Int)≤(k:Int):=by omega
       have h1k:(k:Int)<(nZ:Int):=by omega
       have hV:=Blk.new wq #[.string (E vb)] 99;have hbv:=b1 wq (.cells #[.string (E vb)] 99);have hFv:=hF.after hbv;have y1':=(hbv.cell (p:=⟨b',o'+k*2,none⟩) hbl').trans y1;have y2':=(hbv.cell (p:=⟨b',o'+k*2+1,none⟩) hbl').trans y2;have z2':=(hbv.cell (p:=⟨b6,k*2+1,none⟩) hbl6).trans z2;have g1:=gcl (a:=⟨b',o'+k*2,none⟩) (Nat.lt_of_lt_of_le hbl' hbv.size) y1';have g2:=gcl (a:=⟨b',o'+k*2+1,none⟩) (Nat.lt_of_lt_of_le hbl' hbv.size) y2';have g3:=gcl (a:=⟨b6,k*2+1,none⟩) (Nat.lt_of_lt_of_le hbl6 hbv.size) z2'
       have HBE:Hid (∀w,Calls Tryz.prog 52 #[.agg #[.string (E vb)],.agg #[.bool (sg (zz)),.string (E (zz).natAbs)],.string (E lb)] w fun e w'=>e=.returned (.bool (blJ N C K Z k))∧Below w.heap.size w w'):=fun w=>by
        rw [HBJ.out];exact below_c vb zz lb w HZB.out (Nat.lt_of_lt_of_le HLT.out (by decide))
       cases hbb:blJ N C K Z k
       ·have HF':Hid (r=2):=by rw [Hid,HRES.out,ver_2b HL1.out HL2.out HCL.out (ra_false hkl hbb)]
        rw [hbb] at HBE;clear hbb;go_upto_region 19 with fail
        generalize wq.alloc (.cells #[.string (E vb)] 99)=wv at hV hbv hFv y1' y2' z2' g1 g2 g3 ⊢;replace hV:Blk wv wq.heap.size 99 [.string (E vb)]:=hV;obtain ⟨hVc0,hVf0⟩:=hV.x1;obtain ⟨hFvc0,hFvf0,hFvc1,hFvf1,hFvc2,hFvf2⟩:=hFv.x3;have hVg0:=hV.gcell 0;have hFvg0:=hFv.gcell 0;have hFvg1:=hFv.gcell 1;have hFvg2:=hFv.gcell 2;go_wp2_with fail
        refine wp_region_gw (by kernel_rfl) (by kernel_rfl) ?_;repeat (go_big_quiet_step (first | (go_at_call 52;exact gw_of (HBE.out _))))
        refine wpQuiet_nil ?_;rintro w7 ⟨xw7,rfl⟩;have hb7:=gw_below xw7;generalize gw xw7=w7 at hb7;go_wp2;go_ret
        exact ⟨by rw [HF'.out];rfl,bt (bt hBW hbv) hb7⟩
       ·have HX:Hid (∀j,j<k+1→blJ N C K Z j=true):=fun j hj=>by
         by_cases e:j=k
         ·rw [e];exact hbb
         ·exact HA.out j (by omega)
        rw [hbb] at HBE;clear hbb;go_upto_region 19 with fail
        generalize wq.alloc (.cells #[.string (E vb)] 99)=wv at hV hbv hFv y1' y2' z2' g1 g2 g3 ⊢;replace hV:Blk wv wq.heap.size 99 [.string (E vb)]:=hV;obtain ⟨hVc0,hVf0⟩:=hV.x1;obtain ⟨hFvc0,hFvf0,hFvc1,hFvf1,hFvc2,hFvf2⟩:=hFv.x3;have hVg0:=hV.gcell 0;have hFvg0:=hFv.gcell 0;have hFvg1:=hFv.gcell 1;have hFvg2:=hFv.gcell 2;go_wp2_with fail
        refine wp_region_gw (by kernel_rfl) (by kernel_rfl) ?_;repeat (go_big_quiet_step (first | (go_at_call 52;exact gw_of (HBE.out _))))
        refine wpQuiet_nil ?_;rintro w7 ⟨xw7,rfl⟩;have hb7:=gw_below xw7;generalize gw xw7=w7 at hb7;go_wp2;go_roundw
        case rel=>exact ⟨k+1,by omega,by go_num,HX,bt (bt hbr hbv) hb7⟩
        case measure=>simp [intOf];omega
      ·have HBL:Hid (ra N.vars.length (blJ N C K Z)=true):=ra_true fun j hj=>HA.out j (by have:=HL2.out;have:=HNZ.out;omega)
       clear hbr HA;obtain ⟨hPc0,hPf0,hPc1,hPf1,hPc2,hPf2⟩:=hP.x3;go_wp2;clear hPc0 hPf0 hPc1 hPf1 hPc2 hPf2;go_loopw [101] (fun i wr=>∃k:Nat,k≤nF∧i=.int .i64 k∧Hid (∀j,j<k→hsJ N F j=true)∧Below wq.heap.size wq wr) (fun i _=>nF-(intOf i).toNat)
       case atStart=>exact ⟨0,by omega,rfl,fun j h=>absurd h (Nat.not_lt_zero _),Below.refl _ _⟩
       case round =>
        clear hlt hk;obtain ⟨k,hk,rfl,HA,hbr⟩:=hrel;obtain ⟨wt,hwt⟩:∃wp,wp=wr:=⟨_,rfl⟩;subst hwt;replace hR:=hR.after hbr;replace hP:=hP.after hbr;replace hF:=hF.after hbr;replace hS:=hS.after hbr;replace hFs:=SsAt.after hFs hbr;replace hZs:=hZs.after hbr;replace hLm:=hLm.after hbr;replace hBW:=bt hBW hbr;clear hFl hPl hRl;have hFl:=hF.lt;have hPl:=hP.lt;have hRl:=hR.lt;by_cases hlt:k<nF
        ·have hkl:k<N.eqs.length:=by rw [←HL1.out,←HNF.out];exact hlt
         have hkf:k<F.length:=by rw [←HNF.out];exact hlt
         have hkf':k<(F.map E).length:=by simpa using hkf
         have HSZ:=Lib.hid (HM.out.e _ (List.getElem_mem hkl));have HCE:=Lib.hid (chk_elem HCK.out k hkl HSZ.out.1);have HHJ:=Lib.hid (hsJ_at N F k hkl hkf HSZ.out.1);have HFB:=Lib.hid (HF2.out _ (List.getElem_mem hkf));obtain ⟨b,o,tv,rfl,hbl,x1,x2,x3,hTs⟩:=hS.eat hkl;obtain ⟨b',o',rfl,hbl',y1⟩:=SsAt.at_ hFs hkf';simp only [List.getElem_map] at y1;generalize (N.eqs[k]'hkl)=q at x1 x2 x3 hTs HSZ HCE HHJ;have hgl:=HSZ.out.1;have hgn:q.grp<n1:=by rw [HN1.out];exact hgl
         have HGZ:=Lib.hid (HM.out.g _ (List.getElem_mem hgl));obtain ⟨bg,og_,rfl,hbg,z1,z2⟩:=hS.gat hgl;generalize (N.grps[q.grp]'hgl)=gg at z1 z2 HGZ HCE HHJ;clear hgl;obtain ⟨p,qq⟩:=gg;simp only [] at z1 z2;generalize (F[k]'hkf)=ff at y1 HHJ HFB;obtain ⟨qg,hqg⟩:∃g,g=q.grp:=⟨_,rfl⟩;obtain ⟨qt,hqt⟩:∃g,g=q.tgt:=⟨_,rfl⟩;rw [←hqg] at x1 z1 z2 hgn;rw [←hqt] at x2;clear hqg hqt;obtain ⟨to_,tc,rfl⟩:=hTs.form;generalize q.trms.length=n4 at x3;have h0k:(0:Int)≤(k:Int):=by omega
         have h1k:(k:Int)<(nF:Int):=by omega
         have h0g:(0:Int)≤(qg:Int):=by omega
         have h1g:(qg:Int)<(n1:Int):=by omega
         have hQ:=Blk.new wt #[.int .i64 (qg:Int),.string (E qt),.slice to_ n4 tc] 84;have hbq:=b1 wt (.cells #[.int .i64 (qg:Int),.string (E qt),.slice to_ n4 tc] 84);have hFv:=hF.after hbq;have hPv:=hP.after hbq;have y1':=(hbq.cell (p:=⟨b',o'+k,none⟩) hbl').trans y1;have z1':=(hbq.cell (p:=⟨bg,og_+qg*2,none⟩) hbg).trans z1;have z2':=(hbq.cell (p:=⟨bg,og_+qg*2+1,none⟩) hbg).trans z2;have g1:=gcl (a:=⟨b',o'+k,none⟩) (Nat.lt_of_lt_of_le hbl' hbq.size) y1';have g2:=gcl (a:=⟨bg,og_+qg*2,none⟩) (Nat.lt_of_lt_of_le hbg hbq.size) z1';have g3:=gcl (a:=⟨bg,og_+qg*2+1,none⟩) (Nat.lt_of_lt_of_le hbg hbq.size) z2'
         have HBE:Hid (∀w,Calls Tryz.prog 61 #[.agg #[.string (E p),.string (E qq)],.string (E ff)] w fun e w'=>e=.returned (.bool (hsJ N F k))∧Below w.heap.size w w'):=fun w=>by
          rw [HHJ.out];exact pHas_c p qq ff w HGZ.out.1 (lt128 HGZ.out.2) HCE.out.1 HFB.out
         cases hbb:hsJ N F k
         ·have HF':Hid (r=13):=by rw [Hid,HRES.out,ver_13 HL1.out HL2.out HCL.out HBL.out (ra_false hkl hbb)]
          rw [hbb] at HBE;clear hbb;go_upto_region 25 with fail
          generalize wt.alloc (.cells #[.int .i64 (qg:Int),.string (E qt),.slice to_ n4 tc] 84)=wv at hQ hbq hFv hPv y1' z1' z2' g1 g2 g3 ⊢;replace hQ:Blk wv wt.heap.size 84 [.int .i64 (qg:Int),.string (E qt),.slice to_ n4 tc]:=hQ;obtain ⟨hQc0,hQf0,hQc1,hQf1,hQc2,hQf2⟩:=hQ.x3;obtain ⟨hFvc0,hFvf0,hFvc1,hFvf1,hFvc2,hFvf2⟩:=hFv.x3;obtain ⟨hPvc0,hPvf0,hPvc1,hPvf1,hPvc2,hPvf2⟩:=hPv.x3;have hQg0:=hQ.gcell 0;have hQg1:=hQ.gcell 1;have hQg2:=hQ.gcell 2;have hFvg0:=hFv.gcell 0;have hFvg1:=hFv.gcell 1;have hFvg2:=hFv.gcell 2;have hPvg0:=hPv.gcell 0;have hPvg1:=hPv.gcell 1;have hPvg2:=hPv.gcell 2;go_wp2_with fail
          refine wp_region_gw (by kernel_rfl) (by kernel_rfl) ?_;repeat (go_big_quiet_step (first | (go_at_call 61;exact gw_of (HBE.out _))))
          refine wpQuiet_nil ?_;rintro w7 ⟨xw7,rfl⟩;have hb7:=gw_below xw7;generalize gw xw7=w7 at hb7;go_wp2;go_ret
          exact ⟨by rw [HF'.out];rfl,bt (bt hBW hbq) hb7⟩
         ·have HX:Hid (∀j,j<k+1→hsJ N F j=true):=fun j hj=>by
           by_cases e:j=k
           ·rw [e];exact hbb
           ·exact HA.out j (by omega)
          rw [hbb] at HBE;clear hbb;go_upto_region 25 with fail
          generalize wt.alloc (.cells #[.int .i64 (qg:Int),.string (E qt),.slice to_ n4 tc] 84)=wv at hQ hbq hFv hPv y1' z1' z2' g1 g2 g3 ⊢;replace hQ:Blk wv wt.heap.size 84 [.int .i64 (qg:Int),.string (E qt),.slice to_ n4 tc]:=hQ;obtain ⟨hQc0,hQf0,hQc1,hQf1,hQc2,hQf2⟩:=hQ.x3;obtain ⟨hFvc0,hFvf0,hFvc1,hFvf1,hFvc2,hFvf2⟩:=hFv.x3;obtain ⟨hPvc0,hPvf0,hPvc1,hPvf1,hPvc2,hPvf2⟩:=hPv.x3;have hQg0:=hQ.gcell 0;have hQg1:=hQ.gcell 1;have hQg2:=hQ.gcell 2;have hFvg0:=hFv.gcell 0;have hFvg1:=hFv.gcell 1;have hFvg2:=hFv.gcell 2;have hPvg0:=hPv.gcell 0;have hPvg1:=hPv.gcell 1;have hPvg2:=hPv.gcell 2;go_wp2_with fail
          refine wp_region_gw (by kernel_rfl) (by kernel_rfl) ?_;repeat (go_big_quiet_step (first | (go_at_call 61;exact gw_of (HBE.out _))))
          refine wpQuiet_nil ?_;rintro w7 ⟨xw7,rfl⟩;have hb7:=gw_below xw7;generalize gw xw7=w7 at hb7;go_wp2;go_roundw
          case rel=>exact ⟨k+1,by omega,by go_num,HX,bt (bt hbr hbq) hb7⟩
          case measure=>simp [intOf];omega
        ·have HHS:Hid (ra N.eqs.length (hsJ N F)=true):=ra_true fun j hj=>HA.out j (by have:=HL1.out;have:=HNF.out;omega)
         clear hbr HA;have HIMG:=Lib.hid (Images_c N Z _ _ _ _ wt HM.out hS hZs HZ2.out HL2.out HCK.out);obtain ⟨hPc0,hPf0,hPc1,hPf1,hPc2,hPf2⟩:=hP.x3;obtain ⟨hFc0,hFf0,hFc1,hFf1,hFc2,hFf2⟩:=hF.x3;go_wp2_with fail
         refine HIMG.out.mono ?_;rintro e w8 ⟨iv,rfl,hIO,hb8⟩;clear hPc0 hPf0 hPc1 hPf1 hPc2 hPf2;clear hFc0 hFf0 hFc1 hFf1 hFc2 hFf2;replace hR:=hR.after hb8;replace hP:=hP.after hb8;replace hF:=hF.after hb8;replace hS:=hS.after hb8;replace hFs:=SsAt.after hFs hb8;replace hZs:=hZs.after hb8;replace hLm:=hLm.after hb8;replace hBW:=bt hBW hb8;clear hb8 hFl hPl hRl HIMG;have hIs:=hIO.ss;clear hIO;obtain ⟨a7,c7,rfl⟩:=RAt.form hIs;have HIL:Hid (((N.imgs Z).map E).length=nF):=by rw [Hid,List.length_map,NSta.imgs,List.length_map,←HL1.out,←HNF.out]
         rw [HIL.out] at hIs ⊢;have hFl:=hF.lt;have hPl:=hP.lt;have hRl:=hR.lt;obtain ⟨hPc0,hPf0,hPc1,hPf1,hPc2,hPf2⟩:=hP.x3;go_wp2;clear hPc0 hPf0 hPc1 hPf1 hPc2 hPf2;go_loopw [133] (fun i wr=>∃k:Nat,k≤nF∧i=.int .i64 k∧Hid (∀j,j<k→imJ N F c Z j=true)∧Below w8.heap.size w8 wr) (fun i _=>nF-(intOf i).toNat)
         case atStart=>exact ⟨0,by omega,rfl,fun j h=>absurd h (Nat.not_lt_zero _),Below.refl _ _⟩
         case round =>
          clear hlt hk;obtain ⟨k,hk,rfl,HA,hbr⟩:=hrel;obtain ⟨wu,hwu⟩:∃wp,wp=wr:=⟨_,rfl⟩;subst hwu;replace hP:=hP.after hbr;replace hF:=hF.after hbr;replace hS:=hS.after hbr;replace hFs:=SsAt.after hFs hbr;replace hBW:=bt hBW hbr;replace hIs:=SsAt.after hIs hbr;clear hFl hPl hRl;have hFl:=hF.lt;have hPl:=hP.lt;by_cases hlt:k<nF
          ·have hkl:k<N.eqs.length:=by rw [←HL1.out,←HNF.out];exact hlt
           have hkf:k<F.length:=by rw [←HNF.out];exact hlt
           have hkf':k<(F.map E).length:=by simpa using hkf
           have hki:k<((N.imgs Z).map E).length:=by rw [HIL.out];exact hlt
           have HSZ:=Lib.hid (HM.out.e _ (List.getElem_mem hkl));have HCE:=Lib.hid (chk_elem HCK.out k hkl HSZ.out.1);have HHF:Hid (hsJ N F k=true):=ra_at HHS.out hkl;rw [hsJ_at N F k hkl hkf HSZ.out.1] at HHF;have HIJ:=Lib.hid (imJ_at N F c Z k hkl hkf HSZ.out.1);obtain ⟨b,o,tv,rfl,hbl,x1,x2,x3,hTs⟩:=hS.eat hkl;obtain ⟨b',o',rfl,hbl',y1⟩:=SsAt.at_ hFs hkf';obtain ⟨b7,o7,rfl,hbl7,i1⟩:=SsAt.at_ hIs hki;simp only [List.getElem_map] at y1;rw [show ((N.imgs Z).map E)[k]=E (imgV N Z (N.eqs[k]'hkl)) by simp [NSta.imgs]] at i1;generalize (N.eqs[k]'hkl)=q at x1 x2 x3 hTs HSZ HCE HHF HIJ i1;have hgl:=HSZ.out.1;have hgn:q.grp<n1:=by rw [HN1.out];exact hgl
           have HGZ:=Lib.hid (HM.out.g _ (List.getElem_mem hgl));obtain ⟨bg,og_,rfl,hbg,z1,z2⟩:=hS.gat hgl;generalize (N.grps[q.grp]'hgl)=gg at z1 z2 HGZ HCE HHF HIJ;clear hgl;obtain ⟨p,qq⟩:=gg;simp only [] at z1 z2 HHF HIJ;generalize (F[k]'hkf)=ff at y1 HHF HIJ;generalize imgV N Z q=iq at i1 HIJ;have HPW:=Lib.hid (has_powN c (grp_gt HCE.out.1) HCE.out.2.1);have HEX:=Lib.hid (fun w=>pexpN_c p qq q.tgt c w HGZ.out.1 (lt128 HGZ.out.2) HCE.out.1 HCE.out.2.1 HCC.out);obtain ⟨qg,hqg⟩:∃g,g=q.grp:=⟨_,rfl⟩;obtain ⟨qt,hqt⟩:∃g,g=q.tgt:=⟨_,rfl⟩;rw [←hqg] at x1 z1 z2 hgn;rw [←hqt] at x2 HEX HPW HIJ;clear hqg hqt;simp only [] at HPW HIJ;generalize powI qt (c:Int) p=pv at HPW HEX HIJ;have HML:=Lib.hid (fun w=>pmul_c p qq ff pv w HGZ.out.1 (lt128 HGZ.out.2) HCE.out.1 HHF.out HPW.out);generalize ff*pv%p=yv at HML HIJ;obtain ⟨to_,tc,rfl⟩:=hTs.form;generalize q.trms.length=n4 at x3;have HFR:=Lib.hid (fun w=>ifromS_c c w HCC.out);have h0k:(0:Int)≤(k:Int):=by omega
           have h1k:(k:Int)<(nF:Int):=by omega
           have h0g:(0:Int)≤(qg:Int):=by omega
           have h1g:(qg:Int)<(n1:Int):=by omega
           have hQ:=blk2a wu #[.int .i64 (qg:Int),.string (E qt),.slice to_ n4 tc] #[.string (E p),.string (E qq)] 84 90;have hG:=blk2b wu #[.int .i64 (qg:Int),.string (E qt),.slice to_ n4 tc] #[.string (E p),.string (E qq)] 84 90;have hbq:=b2 wu (.cells #[.int .i64 (qg:Int),.string (E qt),.slice to_ n4 tc] 84) (.cells #[.string (E p),.string (E qq)] 90);have hFv:=hF.after hbq;have y1':=(hbq.cell (p:=⟨b',o'+k,none⟩) hbl').trans y1;have i1':=(hbq.cell (p:=⟨b7,o7+k,none⟩) hbl7).trans i1;have hbl3:=Nat.lt_of_lt_of_le hbl' hbq.size;have hbl8:=Nat.lt_of_lt_of_le hbl7 hbq.size;clear hTs;obtain ⟨hPc0,hPf0,hPc1,hPf1,hPc2,hPf2⟩:=hP.x3;go_upto_region 35 with fail
           clear hPc0 hPf0 hPc1 hPf1 hPc2 hPf2;generalize (wu.alloc (.cells #[.int .i64 (qg:Int),.string (E qt),.slice to_ n4 tc] 84)).alloc (.cells #[.string (E p),.string (E qq)] 90)=wv at hQ hG hbq hFv y1' i1' hbl3 hbl8 ⊢;replace hQ:Blk wv wu.heap.size 84 [.int .i64 (qg:Int),.string (E qt),.slice to_ n4 tc]:=hQ;replace hG:Blk wv (wu.heap.size+1) 90 [.string (E p),.string (E qq)]:=hG;clear x1 x2 x3 y1 i1 z1 z2 hbl hbl' hbl7 hbg;obtain ⟨hQc0,hQf0,hQc1,hQf1,hQc2,hQf2⟩:=hQ.x3;obtain ⟨hFvc0,hFvf0,hFvc1,hFvf1,hFvc2,hFvf2⟩:=hFv.x3;obtain ⟨hGc0,hGf0,hGc1,hGf1⟩:=hG.x2;have hQg0:=hQ.gcell 0;have hQg1:=hQ.gcell 1;have hQg2:=hQ.gcell 2;have hFvg0:=hFv.gcell 0;have hFvg1:=hFv.gcell 1;have hFvg2:=hFv.gcell 2;have hGg0:=hG.gcell 0;have hGg1:=hG.gcell 1;go_wp2_with fail
           refine wp_region_gw (by kernel_rfl) (by kernel_rfl) ?_;repeat (go_big_quiet_step (first | (go_at_call 64;exact gw_of (HFR.out _)) | (go_at_call 63;exact gw_of (HEX.out _))))
           refine wpQuiet_nil ?_;rintro w9 ⟨xw9,rfl⟩;have hb9:=gw_below xw9;generalize gw xw9=w9 at hb9;clear hQc0 hQf0 hQc1 hQf1 hQc2 hQf2;clear hFvc0 hFvf0 hFvc1 hFvf1 hFvc2 hFvf2;clear hGc0 hGf0 hGc1 hGf1;clear hQg0 hQg1 hQg2;clear hFvg0 hFvg1 hFvg2;clear hGg0 hGg1;replace hFv:=hFv.after hb9;replace hG:=hG.after hb9;replace y1':=(hb9.cell (p:=⟨b',o'+k,none⟩) hbl3).trans y1';replace i1':=(hb9.cell (p:=⟨b7,o7+k,none⟩) hbl8).trans i1';replace hbl3:=Nat.lt_of_lt_of_le hbl3 hb9.size;replace hbl8:=Nat.lt_of_lt_of_le hbl8 hb9.size;have hbq9:=bt hbq hb9;clear hQ hb9 hbq;have g1:=gcl (a:=⟨b',o'+k,none⟩) hbl3 y1';obtain ⟨hFvc0,hFvf0,hFvc1,hFvf1,hFvc2,hFvf2⟩:=hFv.x3;obtain ⟨hGc0,hGf0,hGc1,hGf1⟩:=hG.x2;have hFvg0:=hFv.gcell 0;have hFvg1:=hFv.gcell 1;have hFvg2:=hFv.gcell 2;have hGg0:=hG.gcell 0;have hGg1:=hG.gcell 1;go_wp2_with fail
           refine wp_region_gw (by kernel_rfl) (by kernel_rfl) ?_;repeat (go_big_quiet_step (first | (go_at_call 65;exact gw_of (HML.out _))))
           refine wpQuiet_nil ?_;rintro wz ⟨xwz,rfl⟩;have hbz:=gw_below xwz;generalize gw xwz=wz at hbz;clear hFvc0 hFvf0 hFvc1 hFvf1 hFvc2 hFvf2;clear hGc0 hGf0 hGc1 hGf1;clear hFvg0 hFvg1 hFvg2;clear hGg0 hGg1;replace i1':=(hbz.cell (p:=⟨b7,o7+k,none⟩) hbl8).trans i1';replace hbl8:=Nat.lt_of_lt_of_le hbl8 hbz.size;clear g1 y1' hFv hG;by_cases hyi:yv=iq
           ·have h1:=eqT hyi;have h2:=eqE hyi
            have HX:Hid (∀j,j<k+1→imJ N F c Z j=true):=fun j hj=>by
             by_cases e:j=k
             ·rw [e,HIJ.out];exact decide_eq_true hyi
             ·exact HA.out j (by omega)
            clear hyi;go_wp2;go_roundw
            case rel=>exact ⟨k+1,by omega,by go_num,HX,bt (bt hbr hbq9) hbz⟩
            case measure=>simp [intOf];omega
           ·have h1:=eqF hyi;have h2:=neE hyi;have HF':Hid (r=16):=by rw [Hid,HRES.out,ver_16 HL1.out HL2.out HCL.out HBL.out HHS.out (ra_false hkl (by rw [HIJ.out];exact decide_eq_false hyi))]
            clear hyi;go_wp2;go_ret
            exact ⟨by rw [HF'.out];rfl,bt (bt hBW hbq9) hbz⟩
          ·have HIM:Hid (ra N.eqs.length (imJ N F c Z)=true):=ra_true fun j hj=>HA.out j (by have:=HL1.out;have:=HNF.out;omega)
           have HF':Hid (r=0):=by rw [Hid,HRES.out,ver_0 HL1.out HL2.out HCL.out HBL.out HHS.out HIM.out]
           go_wp2;go_ret
           exact ⟨by rw [HF'.out];rfl,hBW⟩
    ·have hcm:=cmp_nneg c C hcg;have hcm2:0≤cmpN c C:=by omega
     have HF':Hid (r=2):=by rw [Hid,HRES.out,ver_2 HL1.out HL2.out hcg]
     clear hcg;obtain ⟨hFc0,hFf0,hFc1,hFf1,hFc2,hFf2⟩:=hF.x3;obtain ⟨hPc0,hPf0,hPc1,hPf1,hPc2,hPf2⟩:=hP.x3;obtain ⟨hRc0,hRf0,hRc1,hRf1⟩:=hR.x2;go_wp2_with fail
     refine (cmp_c c C _ HCC.out HC.out).mono ?_;rintro e w' ⟨rfl,rfl⟩;go_wp2;go_ret
     exact ⟨by rw [HF'.out];rfl,hBW⟩
   ·have HF':Hid (r=6):=by
     rw [Hid,HRES.out,ver_6];rw [←HNF.out,←HN3.out,←HNZ.out,←HN2.out];omega
    by_cases h1:nF=n3
    ·have h2:((nZ:Int) != (n2:Int))=true:=by rw [bne_iff_ne];omega
     have h2':((nZ:Int)==(n2:Int))=false:=by rw [beq_eq_false_iff_ne];omega
     subst h1;clear hln;obtain ⟨hFc0,hFf0,hFc1,hFf1,hFc2,hFf2⟩:=hF.x3;obtain ⟨hPc0,hPf0,hPc1,hPf1,hPc2,hPf2⟩:=hP.x3;go_wp2;go_ret
     exact ⟨by rw [HF'.out];rfl,hBW⟩
    ·have h2:((nF:Int) != (n3:Int))=true:=by rw [bne_iff_ne];omega
     have h2':((nF:Int)==(n3:Int))=false:=by rw [beq_eq_false_iff_ne];omega
     clear hln h1;obtain ⟨hFc0,hFf0,hFc1,hFf1,hFc2,hFf2⟩:=hF.x3;obtain ⟨hPc0,hPf0,hPc1,hPf1,hPc2,hPf2⟩:=hP.x3;go_wp2;go_ret
     exact ⟨by rw [HF'.out];rfl,hBW⟩
end
section
open Go.RowKit Go.Shelf
end
section
open Go.RowKit Go.Shelf
theorem eqNat_c (A B:List Nat) (u v:Value) (w:World) (ha:A.length≤1000) (hb:B.length≤1000) (hA:SsAt w u (A.map E)) (hB:SsAt w v (B.map E)) :
  Calls Tryz.prog 15 #[u,v] w fun e w'=>e=.returned (.bool (decide (A=B)))∧Below w.heap.size w w':=by
 obtain ⟨r,hr⟩:∃r:Bool,r=decide (A=B):=⟨_,rfl⟩;have HRES:=Lib.hid hr;rw [←hr];clear hr;obtain ⟨a1,c1,e1⟩:=RAt.form hA;obtain ⟨a2,c2,e2⟩:=RAt.form hB;rw [List.length_map] at e1 e2;obtain ⟨n,hn⟩:∃n,n=A.length:=⟨_,rfl⟩;obtain ⟨m,hm⟩:∃n,n=B.length:=⟨_,rfl⟩;have HN:=Lib.hid hn;have HM:=Lib.hid hm;rw [←hn] at e1 ha;rw [←hm] at e2 hb;subst e1 e2;clear hn hm;by_cases hnm:n=m
 ·subst hnm;have hx1:((n:Int) != (n:Int))=false:=by simp
  go_enter Tryz.func15,Tryz.ntmps15
  go_wp2;go_loopw [13] (fun i wr=>∃k:Nat,k≤n∧i=.int .i64 k∧Hid (∀j,j<k→A[j]?=B[j]?)∧Below w.heap.size w wr) (fun i _=>n-(intOf i).toNat)
  case atStart=>exact ⟨0,by omega,rfl,fun j h=>absurd h (Nat.not_lt_zero _),Below.refl _ _⟩
  case round =>
   obtain ⟨k,hk,rfl,HA,hbr⟩:=hrel;obtain ⟨wp,hwp⟩:∃wp,wp=wr:=⟨_,rfl⟩;subst hwp;replace hA:=SsAt.after hA hbr;replace hB:=SsAt.after hB hbr;by_cases hlt:k<n
   ·have hka:k<A.length:=by rw [←HN.out];exact hlt
    have hkb:k<B.length:=by rw [←HM.out];exact hlt
    obtain ⟨b,o,rfl,hbl,x1⟩:=SsAt.at_ hA (show k<(A.map E).length by simpa using hka);obtain ⟨b',o',rfl,hbl',y1⟩:=SsAt.at_ hB (show k<(B.map E).length by simpa using hkb);simp only [List.getElem_map] at x1 y1;have HKA:Hid (A[k]?=some (A[k]'hka)):=List.getElem?_eq_getElem hka;have HKB:Hid (B[k]?=some (B[k]'hkb)):=List.getElem?_eq_getElem hkb;generalize (A[k]'hka)=xa at x1 HKA;generalize (B[k]'hkb)=xb at y1 HKB;have h0k:(0:Int)≤(k:Int):=by omega
    have h1k:(k:Int)<(n:Int):=by omega
    have g1:=gcl (a:=⟨b,o+k,none⟩) hbl x1;have g2:=gcl (a:=⟨b',o'+k,none⟩) hbl' y1;by_cases hx:xa=xb
    ·have h1:=eqT hx;have h2:=eqE hx
     have HX:Hid (∀j,j<k+1→A[j]?=B[j]?):=fun j hj=>by
      by_cases e:j=k
      ·rw [e,HKA.out,HKB.out,hx]
      ·exact HA.out j (by omega)
     clear hx;go_wp2_with fail
     refine wp_region_gw (by kernel_rfl) (by kernel_rfl) ?_;repeat (go_big_quiet_step (first | (fail)))
     refine wpQuiet_nil ?_;rintro w5 ⟨xw5,rfl⟩;have hb5:=gw_below xw5;generalize gw xw5=w5 at hb5;go_wp2;go_roundw
     case rel=>exact ⟨k+1,by omega,by go_num,HX,bt hbr hb5⟩
     case measure=>simp [intOf];omega
    ·have h1:=eqF hx;have h2:=neE hx
     have HF:Hid (r=false):=by
      rw [Hid,HRES.out];exact decide_eq_false (fun e=>hx (by have h3:=HKA.out;rw [e,HKB.out] at h3;exact (Option.some.inj h3).symm))
     clear hx;go_wp2_with fail
     refine wp_region_gw (by kernel_rfl) (by kernel_rfl) ?_;repeat (go_big_quiet_step (first | (fail)))
     refine wpQuiet_nil ?_;rintro w5 ⟨xw5,rfl⟩;have hb5:=gw_below xw5;generalize gw xw5=w5 at hb5;go_wp2;go_ret
     exact ⟨by rw [HF.out];rfl,bt hbr hb5⟩
   ·have HF:Hid (r=true):=by
     rw [Hid,HRES.out];refine decide_eq_true (List.ext_getElem? fun j=>?_);by_cases hj:j<k
     ·exact HA.out j hj
     ·rw [List.getElem?_eq_none (by rw [←HN.out];omega),List.getElem?_eq_none (by rw [←HM.out];omega)]
    go_wp2;go_ret
    exact ⟨by rw [HF.out];rfl,hbr⟩
 ·have hx1:((n:Int) != (m:Int))=true:=by rw [bne_iff_ne];omega
  have hx2:((n:Int)==(m:Int))=false:=by rw [beq_eq_false_iff_ne];omega
  have HF:Hid (r=false):=by rw [Hid,HRES.out];exact decide_eq_false (fun e=>hnm (by rw [HN.out,HM.out,e]))
  clear hnm;go_enter Tryz.func15,Tryz.ntmps15
  go_wp2;go_ret
  exact ⟨by rw [HF.out];rfl,Below.refl _ _⟩
theorem eqNat_cV (A B:List Nat) (u v:Value) (r:Bool) (w:World) (ha:A.length≤1000) (hb:B.length≤1000) (hA:SsAt w u (A.map E)) (hB:SsAt w v (B.map E)) (h:decide (A=B)=r) :
  Calls Tryz.prog 15 #[u,v] w fun e w'=>e=.returned (.bool r)∧Below w.heap.size w w':=by rw [←h];exact eqNat_c A B u v w ha hb hA hB
theorem eqZ_c (u v:Value) (L:List Int) (w:World) (hn:L.length≤1000) (hA:ZsAt w u L) (hB:ZsAt w v L) :
  Calls Tryz.prog 41 #[u,v] w fun e w'=>e=.returned (.bool true)∧Below w.heap.size w w':=by
 obtain ⟨ao,c,rfl⟩:=hA.form;obtain ⟨bo,d,rfl⟩:=hB.form;obtain ⟨n,hLn⟩:∃n,L.length=n:=⟨_,rfl⟩;have HLN:=Lib.hid hLn;rw [hLn] at hA hB hn ⊢;clear hLn;go_enter Tryz.func41,Tryz.ntmps41
 go_wp2;go_loopw [13] (fun i wr=>∃k:Nat,k≤n∧i=.int .i64 k∧Below w.heap.size w wr) (fun i _=>n-(intOf i).toNat)
 case atStart=>exact ⟨0,by omega,rfl,Below.refl _ _⟩
 case round =>
  obtain ⟨k,hk,rfl,hbr⟩:=hrel;obtain ⟨wp,hwp⟩:∃wp,wp=wr:=⟨_,rfl⟩;subst hwp;replace hA:=ZsAt.after hA hbr;replace hB:=ZsAt.after hB hbr;by_cases hlt:k<n
  ·have hkl:k<L.length:=by rw [HLN.out];exact hlt
   obtain ⟨b,o,rfl,l1,x1,x2⟩:=hA.at_ hkl;obtain ⟨b',o',rfl,l2,y1,y2⟩:=hB.at_ hkl;generalize L[k]'hkl=z at x1 x2 y1 y2;have h0k:(0:Int)≤(k:Int):=by omega
   have h1k:(k:Int)<(n:Int):=by omega
   have g1:=gcl (a:=⟨b,o+k*2,none⟩) l1 x1;have g2:=gcl (a:=⟨b,o+k*2+1,none⟩) l1 x2;have g3:=gcl (a:=⟨b',o'+k*2,none⟩) l2 y1;have g4:=gcl (a:=⟨b',o'+k*2+1,none⟩) l2 y2;clear x1 x2 y1 y2 hA hB;go_wp2_with fail
   refine wp_region_gw (by kernel_rfl) (by kernel_rfl) ?_;repeat (go_big_quiet_step (first | (fail)))
   refine wpQuiet_nil ?_;rintro w2 ⟨xw2,rfl⟩;have hb2:=gw_below xw2;generalize gw xw2=w2 at hb2;go_wp2;go_roundw
   case rel=>exact ⟨k+1,by omega,by go_num,bt hbr hb2⟩
   case measure=>simp [intOf];omega
  ·obtain rfl:k=n:=by omega
   go_wp2;go_ret
   exact ⟨rfl,hbr⟩
end
section
/- Differences of two proofs,in bytes: both sides return the same error,or there are numbers. -/
open Go.RowKit Go.Shelf
theorem numk {s:ByteArray} {k:Nat} (h:s.size≤k) (hv:vldB s=true):∃n,n<256^k∧s=E n:=by
 obtain ⟨n,_,rfl⟩:=of_vldB hv;exact ⟨n,lt_of_size h,rfl⟩
theorem few_ssm {S:Sta} (h:fewB S=true):SSm S:=by
 simp only [fewB,gszB,vszB,eszB,tszB,Bool.and_eq_true,decide_eq_true_eq,List.all_eq_true] at h;obtain ⟨⟨⟨⟨⟨l1,l2⟩,l3⟩,hg⟩,hv⟩,he⟩:=h;exact ⟨by omega,by omega,by omega,fun x hx=>by have:=hg x hx;omega,fun x hx=>by have:=hv x hx;omega,fun x hx=>⟨by have:=(he x hx).1.2;omega,by have:=(he x hx).1.1;omega,fun t ht=>by have:=(he x hx).2 t ht;omega⟩⟩
theorem bnd_two (S:Sta) (C K:ByteArray) (v1 v2 v3:Value) (w:World) (hC:C.size≤16) (hK:K.size≤16) (hf:fewB S=true) (hS:StAt w v1 v2 v3 S) :
  (∃k:Nat,k≠0∧(∀w',Below w.heap.size w w'→Calls Tryz.prog 42 #[.agg #[.string C,.string K],.agg #[v1,v2,v3]] w' fun e w''=>e=.returned (.tuple #[.slice none 0 0,.int .i64 k])∧Below w'.heap.size w' w'') ∧
   (∀w',Below w.heap.size w w'→Calls Tryz.prog 14 #[.agg #[.string C,.string K],.agg #[v1,v2,v3]] w' fun e w''=>e=.returned (.tuple #[.slice none 0 0,.slice none 0 0,.int .i64 k])∧Below w'.heap.size w' w'')) ∨
  (∃(N:NSta) (c k:Nat),C=E c∧K=E k∧c<256^16∧k<256^16∧S=N.s∧NOk N∧N.chk=0∧2≤c∧2≤k∧(N.vars.any vz=true→c≤N.ord)):=by
 have hss:=few_ssm hf;cases hr:(vldB C&&vldB K)
 ·exact .inl ⟨3,by decide,fun w' hb=>bounds_rule C K v1 v2 v3 w' (by omega) (by omega) hr,fun w' hb=>rbounds_rule C K v1 v2 v3 w' (by omega) (by omega) hr⟩
 ·simp only [Bool.and_eq_true] at hr;obtain ⟨c,hc,rfl⟩:=numk hC hr.1;obtain ⟨k,hk,rfl⟩:=numk hK hr.2;cases hfm:formB S
  ·exact .inl ⟨3,by decide,fun w' hb=>bounds_chk c k v1 v2 v3 3 w' hc hk (by decide) (fun w2 hb2=>check_bad S v1 v2 v3 w2 hss (hS.after (bt hb hb2)) hfm),
    fun w' hb=>rbounds_chk c k v1 v2 v3 3 w' hc hk (by decide) (fun w2 hb2=>rCheck_bad S v1 v2 v3 w2 hss (hS.after (bt hb hb2)) hfm)⟩
  ·obtain ⟨N,rfl,hm⟩:=to_num S hfm hf;by_cases h0:N.chk=0
   ·by_cases h2:c<2∨k<2
    ·exact .inl ⟨2,by decide,fun w' hb=>bounds_two N c k v1 v2 v3 w' hc hk h2 hm (hS.after hb) h0,fun w' hb=>rbounds_two N c k v1 v2 v3 w' hc hk h2 hm (hS.after hb) h0⟩
    ·by_cases h3:N.vars.any vz=true∧N.ord<c
     ·exact .inl ⟨2,by decide,fun w' hb=>bounds_ord N c k v1 v2 v3 w' hc hk (by omega) (by omega) h3.1 h3.2 hm (hS.after hb) h0,fun w' hb=>rbounds_ord N c k v1 v2 v3 w' hc hk (by omega) (by omega) h3.1 h3.2 hm (hS.after hb) h0⟩
     ·exact .inr ⟨N,c,k,rfl,rfl,hc,hk,rfl,hm,h0,by omega,by omega,fun hv=>by
       apply Classical.byContradiction
       intro hn;exact h3 ⟨hv,by omega⟩⟩
   ·exact .inl ⟨N.chk,h0,fun w' hb=>bounds_chk c k v1 v2 v3 N.chk w' hc hk h0 (fun w2 hb2=>check_c N v1 v2 v3 w2 hm (hS.after (bt hb hb2))),
     fun w' hb=>rbounds_chk c k v1 v2 v3 N.chk w' hc hk h0 (fun w2 hb2=>rCheck_c N v1 v2 v3 w2 hm (hS.after (bt hb hb2)))⟩
theorem nums_lift (F:List ByteArray) (n:Nat) (h1:∀x∈F,vldB x=true) (h2:∀x∈F,x.size≤n):∃G:List Nat,G.map E=F∧∀x∈G,x<256^n:=
 list_lift E (fun x=>x<256^n) F fun x hx=>by
  obtain ⟨m,hm,rfl⟩:=numk (h2 x hx) (h1 x hx);exact ⟨m,rfl,hm⟩
theorem ints_lift (R:List (Bool × ByteArray)) (n:Nat) (h1:∀x∈R,ivB x.1 x.2=true) (h2:∀x∈R,x.2.size≤n):∃Z:List Int,Z.map zI=R∧∀z∈Z,z.natAbs<256^n:=
 list_lift zI (fun z=>z.natAbs<256^n) R fun x hx=>by
  obtain ⟨z,_,e1,e2⟩:=of_ivB (h1 x hx);have h3:=h2 x hx;rw [e2] at h3;exact ⟨z,by rw [zI,←e1,←e2],lt_of_size h3⟩
theorem ver_inv {N:NSta} {C K c:Nat} {F:List Nat} {Z:List Int} (h:N.ver C K F c Z=0):F.length=N.eqs.length∧Z.length=N.vars.length∧c<C∧ra N.vars.length (blJ N C K Z)=true:=by
 unfold NSta.ver at h;split at h
 ·omega
 ·rename_i h1;split at h
  ·omega
  ·rename_i h2;split at h
   ·omega
   ·rename_i h3;refine ⟨by omega,by omega,by omega,by simpa using h3⟩
end
section
open Go.RowKit Go.Shelf
theorem own_keep2 {w w':World} {b:Nat} {e:TypeId} {s n:Nat} {v:Value} {x:List Value} {o:Option Nat} (h:w.ownsRow b e s v n x) (hg:w.grownBy w' o) (hd:∀g,v.ownBlock=some g→o≠some g):w'.ownsRow b e s v n x:=
 own_keep h fun g hv=>hg.block g (own_lt h hv).1 (fun e'=>hd g hv e'.symm)
theorem sBounds_c (N:NSta) (C K:Nat) (v1 v2 v3:Value) (w:World) (hl6:N.vars.length≤12)
  (hb:∀w',Below w.heap.size w w'→Calls Tryz.prog 42 #[.agg #[.string (E C),.string (E K)],.agg #[v1,v2,v3]] w' (BPost w' (N.lims C K))) :
  Calls Tryz.prog 13 #[.agg #[.string (E C),.string (E K)],.agg #[v1,v2,v3]] w (B2Post w (N.lims C K)):=by
 obtain ⟨i0,hi0,hz00,hz01,hz02⟩:=info_parts info_nat;have HI0:=Lib.hid hi0;have HA0:=Lib.hid hz00;have HB0:=Lib.hid hz01;have HC0:=Lib.hid hz02;clear hi0 hz00 hz01 hz02;have HB:=Lib.hid hb;have hR:=blk2a w #[.string (E C),.string (E K)] #[v1,v2,v3] 24 29;have hP:=blk2b w #[.string (E C),.string (E K)] #[v1,v2,v3] 24 29;have hBW:=b2 w (.cells #[.string (E C),.string (E K)] 24) (.cells #[v1,v2,v3] 29);clear hb;obtain ⟨hRc0,hRf0,hRc1,hRf1⟩:=hR.x2;obtain ⟨hPc0,hPf0,hPc1,hPf1,hPc2,hPf2⟩:=hP.x3;go_enter Tryz.func13,Tryz.ntmps13
 go_wp2_with fail
 refine (HB.out _ hBW).mono ?_;rintro e wF ⟨lv,rfl,hLO,hbF⟩;clear hRc0 hRf0 hRc1 hRf1;clear hPc0 hPf0 hPc1 hPf1 hPc2 hPf2;replace hBW:=bt hBW hbF;clear hbF hR hP;obtain ⟨la,lc,rfl⟩:=hLO.form;obtain ⟨n,hn⟩:∃n,n=(N.lims C K).length:=⟨_,rfl⟩;have HN:=Lib.hid hn;have HNV:Hid (n=N.vars.length):=by rw [Hid,hn,NSta.lims,List.length_map]
 have hn6:n≤12:=by have:=HNV.out;omega
 rw [←hn] at hLO ⊢;clear hn;go_wp2;go_loopw [9,10,24] (fun v9 v10 i wr=>∃k:Nat,k≤n∧i=.int .i64 k∧RRel wF ((N.lims C K).take k) v9 v10 wr) (fun _ _ i _=>n-(intOf i).toNat)
 case atStart=>exact ⟨0,by omega,rfl,⟨World.ownsRow_nil _ _ _ _,World.ownsRow_nil _ _ _ _,fun g h=>by simp [Value.ownBlock] at h,Below.refl _ _⟩⟩
 case round =>
  obtain ⟨k,hk,rfl,hI⟩:=hrel;obtain ⟨wq,hwq⟩:∃wq,wq=wr:=⟨_,rfl⟩;subst hwq;have hbr:=hI.b;by_cases hlt:k<n
  ·have hkl:k<N.vars.length:=by rw [←HNV.out];exact hlt
   have hkL:k<(N.lims C K).length:=by rw [←HN.out];exact hlt
   have HST:=Lib.hid (lims_step N C K k hkl);have HLE:=Lib.hid (lims_at N C K k hkl hkL);obtain ⟨bl,rfl,hbl,x1,x2⟩:=(LmOwn.after hLO hbr).at_ hkL;rw [HLE.out] at x1 x2;have h0k:(0:Int)≤(k:Int):=by omega
   have h1k:(k:Int)<(n:Int):=by omega
   obtain ⟨l1',hl1⟩:∃x,x=(lim N.ord C K N.vars[k]).1:=⟨_,rfl⟩;obtain ⟨l2',hl2⟩:∃x,x=(lim N.ord C K N.vars[k]).2:=⟨_,rfl⟩;have HST1:Hid (((N.lims C K).take (k+1)).map (·.1)=((N.lims C K).take k).map (·.1)++[l1']):=by rw [Hid,HST.out,List.map_append,hl1];rfl
   have HST2:Hid (((N.lims C K).take (k+1)).map (·.2)=((N.lims C K).take k).map (·.2)++[l2']):=by rw [Hid,HST.out,List.map_append,hl2];rfl
   rw [←hl1] at x1;rw [←hl2] at x2;clear hl1 hl2 HST HLE;have hla:(((N.lims C K).take k).map (·.1)).length=k:=by rw [List.length_map,List.length_take,NSta.lims,List.length_map];omega
   have hlb:(((N.lims C K).take k).map (·.2)).length=k:=by rw [List.length_map,List.length_take,NSta.lims,List.length_map];omega
   have hOA0:wq.ownsRow wF.heap.size 22 1 u9 k (strs (((N.lims C K).take k).map (·.1))):=by have h:wq.ownsRow _ _ _ _ _ _:=hI.a;rw [hla] at h;exact h
   have hOB0:wq.ownsRow wF.heap.size 22 1 u10 k (strs (((N.lims C K).take k).map (·.2))):=by have h:wq.ownsRow _ _ _ _ _ _:=hI.z;rw [hlb] at h;exact h
   have HDJ:=Lib.hid hI.d;have HLA:=Lib.hid hla;have HLB:=Lib.hid hlb;clear hI hla hlb;generalize ((N.lims C K).take k).map (·.1)=LA at hOA0 HST1 HLA;generalize ((N.lims C K).take k).map (·.2)=LB at hOB0 HST2 HLB;have hT:=Blk.new wq #[.string (E l1'),.string (E l2')] 104;have hbq:=b1 wq (.cells #[.string (E l1'),.string (E l2')] 104);have hOA:=own_after hOA0 hbq;have hOB:=own_after hOB0 hbq;have hBx:=bt hbr hbq;go_upto_region 8 with fail
   clear x1 x2 hbl hOA0 hOB0 hbr hbq hLO;generalize wq.alloc (.cells #[.string (E l1'),.string (E l2')] 104)=wv at hT hOA hOB hBx ⊢;obtain ⟨g12,hg12⟩:∃g,wq.heap.size=g:=⟨_,rfl⟩;rw [hg12] at hT ⊢;clear hg12;replace hT:Blk wv g12 104 [.string (E l1'),.string (E l2')]:=hT;have hC:CA wv [(⟨g12,0,none⟩,.string (E l1')),(⟨g12,1,none⟩,.string (E l2'))]:=CA.cons hT.lt (hT.cell 0) (CA.cons hT.lt (hT.cell 1) (CA.nil _));have hsx:=hBx.size
   have HNA:Hid (∀x∈([(⟨g12,0,none⟩,.string (E l1')),(⟨g12,1,none⟩,.string (E l2'))]:List (Addr × Value)),u9.ownBlock≠some x.1.block):=by
    have q1:=own_ne hOA hT (by decide);intro x hx;simp only [List.mem_cons,List.not_mem_nil,or_false] at hx;rcases hx with rfl | rfl
    ·exact q1
    ·exact q1
   have HNB:Hid (∀x∈([(⟨g12,0,none⟩,.string (E l1')),(⟨g12,1,none⟩,.string (E l2'))]:List (Addr × Value)),u10.ownBlock≠some x.1.block):=by
    have q1:=own_ne hOB hT (by decide);intro x hx;simp only [List.mem_cons,List.not_mem_nil,or_false] at hx;rcases hx with rfl | rfl
    ·exact q1
    ·exact q1
   clear hT
   go_region_held3 (fun w'=>w'.cell? ⟨g12,0,none⟩=some (.string (E l1'))∧w'.cell? ⟨g12,1,none⟩=some (.string (E l2'))) ((refine CA.k2 ?_;repeat (first | (with_reducible exact hCb) | (with_reducible exact hCa) | (with_reducible exact hC) | (with_reducible refine CA.drew ?_) | (with_reducible refine CA.alloc ?_ _))))
    (first | (refine step_append_lies _ (by rfl) (.tmp 28) (.tmp 31) _ (by rfl) wF.heap.size 22 i0 _ 1 16 Tryz.underlying32 HI0.out HA0.out HB0.out HC0.out rfl (by omega) u9 k (strs LA) (by rfl) (by repeat (first | (with_reducible exact hOA) | (with_reducible refine World.ownsRow.drew ?_) | (with_reducible refine World.ownsRow.alloc ?_ _))) _ 1 1 [.string (E l1')] (by rfl) rfl (Blk.cells (T:=22) (by first | exact blkN (by simp) | exact (blkN (by simp)).alloc _)) (by simp [Value.oneCell']) (by omega) (by simp only [maxLen];omega) (by omega) (by simp;omega) _ rfl ?_;intro ga ca wa hownA hgrowA hatA hltA;have hOBa:wa.ownsRow wF.heap.size 22 1 u10 k (strs LB):=own_keep2 (by repeat (first | (with_reducible exact hOB) | (with_reducible refine World.ownsRow.drew ?_) | (with_reducible refine World.ownsRow.alloc ?_ _))) hgrowA (fun g hv e=>HDJ.out g e hv);have hCa:CA wa [(⟨g12,0,none⟩,.string (E l1')),(⟨g12,1,none⟩,.string (E l2'))]:=CA.grown (by repeat (first | (with_reducible exact hC) | (with_reducible refine CA.drew ?_) | (with_reducible refine CA.alloc ?_ _))) hgrowA HNA.out;have hBa:Below wF.heap.size wF wa:=Below.grown (by repeat (first | (with_reducible exact hBx) | (with_reducible refine Below.drew ?_) | (with_reducible refine Below.alloc ?_ (by first | omega | (simp;omega)) _))) hgrowA (by simp;omega) (fun g hg=>(own_lt hOA hg).2);have hsa:=hgrowA.size;have hsb:=hBa.size;have HDA:Hid (∀g,u10.ownBlock=some g→g≠ga):=(fun g hg e=>by subst e;rcases hatA with h | h;exact HDJ.out _ h hg;exact absurd (own_lt hOB hg).1 (by first | omega | (simp at h;omega)));(try (have hLB0:Blk wa wv.heap.size 22 [.string (E l2')]:=Blk.grown (by first | exact (blkN (by simp)).alloc _) hgrowA (fun e=>by have:=(own_lt hOA e).1;omega)));(try (have hLB1:Blk wa (wv.heap.size+1) 22 [.string (E l2')]:=Blk.grown (by first | exact blkN (by simp)) hgrowA (fun e=>by have:=(own_lt hOA e).1;omega)))) | (refine step_append_lies _ (by rfl) (.tmp 33) (.tmp 36) _ (by rfl) wF.heap.size 22 i0 _ 1 16 Tryz.underlying32 HI0.out HA0.out HB0.out HC0.out rfl (by omega) u10 k (strs LB) (by rfl) (by repeat (first | (with_reducible exact hOBa) | (with_reducible refine World.ownsRow.drew ?_) | (with_reducible refine World.ownsRow.alloc ?_ _))) _ 1 1 [.string (E l2')] (by rfl) rfl (Blk.cells (T:=22) (by first | exact blkN (by simp) | exact hLB0 | exact hLB1)) (by simp [Value.oneCell']) (by omega) (by simp only [maxLen];omega) (by omega) (by have:=hBa.size;simp;omega) _ rfl ?_;intro gb cb wb hownB hgrowB hatB hltB;have hAb:wb.ownsRow wF.heap.size 22 1 (.slice (some ⟨ga,0,none⟩) (k+1) ca) (k+1) (strs LA++[.string (E l1')]):=own_keep2 (by repeat (first | (with_reducible exact hownA) | (with_reducible refine World.ownsRow.drew ?_) | (with_reducible refine World.ownsRow.alloc ?_ _))) hgrowB (fun g hv e=>HDA.out g e (by have e1:ga=g:=(by simpa [Value.ownBlock] using hv);exact e1.symm));have hCb:CA wb [(⟨g12,0,none⟩,.string (E l1')),(⟨g12,1,none⟩,.string (E l2'))]:=CA.grown (by repeat (first | (with_reducible exact hCa) | (with_reducible refine CA.drew ?_) | (with_reducible refine CA.alloc ?_ _))) hgrowB HNB.out;have hBb:Below wF.heap.size wF wb:=Below.grown (by repeat (first | (with_reducible exact hBa) | (with_reducible refine Below.drew ?_) | (with_reducible refine Below.alloc ?_ (by have:=hBa.size;first | omega | (simp;omega)) _))) hgrowB (by have:=hBa.size;simp;omega) (fun g hg=>(own_lt hOBa hg).2)))
   all_goals
    have HDB:Hid (∀g,(Value.slice (some ⟨ga,0,none⟩) (k+1) ca).ownBlock=some g→(Value.slice (some ⟨gb,0,none⟩) (k+1) cb).ownBlock≠some g):=by
     intro g h1 h2;have e1:ga=g:=by simpa [Value.ownBlock] using h1
     have e2:gb=g:=by simpa [Value.ownBlock] using h2
     have hlA:=(own_lt hownA h1).1;rcases hatB with h | h
     ·exact HDA.out gb h (e2.trans e1.symm)
     ·first | omega | (simp at h;omega)
    have hRA:NOwn wb wF.heap.size (.slice (some ⟨ga,0,none⟩) (k+1) ca) (LA++[l1']):=by rw [NOwn,List.length_append,HLA.out,←strs_app];exact hAb
    have hRB:NOwn wb wF.heap.size (.slice (some ⟨gb,0,none⟩) (k+1) cb) (LB++[l2']):=by rw [NOwn,List.length_append,HLB.out,←strs_app];exact hownB
    rw [show LA++[l1']=((N.lims C K).take (k+1)).map (·.1) by rw [HST1.out]] at hRA;rw [show LB++[l2']=((N.lims C K).take (k+1)).map (·.2) by rw [HST2.out]] at hRB;clear hAb hownB hownA hatA hatB hgrowA hgrowB hltA hltB hCa hCb;go_wp2;go_roundw
    case rel=>exact ⟨k+1,by omega,by go_num,⟨hRA,hRB,HDB.out,hBb⟩⟩
    case measure=>simp [intOf];omega
  ·obtain rfl:n=k:=by omega
   have HTK:Hid ((N.lims C K).take n=N.lims C K):=List.take_of_length_le (by rw [←HN.out];omega);rw [HTK.out] at hI;have hszF:=hBW.size;go_wp2;go_ret3
   exact ⟨_,_,rfl,own_mono hI.a hszF,own_mono hI.z hszF,bt hBW hI.b⟩
end
end Go.Proofs.YtcfjcenmcpankaaGreatDoor
