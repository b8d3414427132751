import Derived.Test.YtdoacbdkbbpamaaGreatDoorSqr
import Derived.Test.YtdoacbdkbbpamaaGreatDoorMod16
import Derived.Test.YtdoacbdkbbpamaaGreatDoorLck6
import Derived.Deep.RegionHeld3
set_option linter.unusedVariables false
set_option linter.unusedSimpArgs false
set_option maxRecDepth 100000
set_option maxHeartbeats 16000000
namespace Go.Proofs.YtdoacbdkbbpamaaGreatDoor
section
open Go.RowKit
theorem imul_c (x y:Int) (w:World) (hx:x.natAbs<256^128) (hy:y.natAbs<256^128) (hxy:x.natAbs*y.natAbs<256^128) :
  Calls Tryz.prog 160 #[.agg #[.bool (sg (x)),.string (E (x).natAbs)],.agg #[.bool (sg (y)),.string (E (y).natAbs)]] w fun e w'=>e=.returned (.tuple #[.agg #[.bool (sg (x*y)),.string (E (x*y).natAbs)],.int .i64 0])∧Below w.heap.size w w':=by
 have HX:=Lib.hid hx;have HY:=Lib.hid hy;have HXY:=Lib.hid hxy;have hs:=(E_size_le _ 128).2 hxy;clear hx hy hxy;have HM:=Lib.hid (mul_made x y);have hA:=blk3a w #[Value.bool (sg x),Value.string (E x.natAbs)] #[Value.bool (sg y),Value.string (E y.natAbs)] #[Value.bool false,Value.string { data:=#[] }] 37 37 37;have hB:=blk3b w #[Value.bool (sg x),Value.string (E x.natAbs)] #[Value.bool (sg y),Value.string (E y.natAbs)] #[Value.bool false,Value.string { data:=#[] }] 37 37 37;have hC:=blk3c w #[Value.bool (sg x),Value.string (E x.natAbs)] #[Value.bool (sg y),Value.string (E y.natAbs)] #[Value.bool false,Value.string { data:=#[] }] 37 37 37;go_enter Tryz.func160,Tryz.ntmps160
 go_wp2_with fail
 refine (iboth_c x y _ HX.out HY.out).mono ?_;rintro e w1 ⟨rfl,hb1⟩;replace hA:=hA.after hb1;replace hB:=hB.after hb1;replace hC:=hC.after hb1;obtain ⟨hAc0,hAf0,hAc1,hAf1⟩:=hA.x2;obtain ⟨hBc0,hBf0,hBc1,hBf1⟩:=hB.x2;go_wp2_with fail
 refine (mul_c x.natAbs y.natAbs _ HX.out HY.out HXY.out).mono ?_;rintro e w2 ⟨rfl,hb2⟩;clear hAc0 hAf0 hAc1 hAf1;clear hBc0 hBf0 hBc1 hBf1;replace hA:=hA.after hb2;replace hB:=hB.after hb2;replace hC:=hC.after hb2;obtain ⟨hAc0,hAf0,hAc1,hAf1⟩:=hA.x2;obtain ⟨hBc0,hBf0,hBc1,hBf1⟩:=hB.x2;go_wp2_with fail
 refine (made_c (sg x != sg y) (x.natAbs*y.natAbs) (x*y) _ (by omega) HM.out).mono ?_;rintro e w3 ⟨rfl,hb3⟩;clear hAc0 hAf0 hAc1 hAf1;clear hBc0 hBf0 hBc1 hBf1;replace hC:=hC.after hb3;obtain ⟨hCc0,hCf0,hCc1,hCf1⟩:=hC.x2;go_wp2;refine bodyPost_ret (v:=.tuple #[.agg #[.bool (sg (x*y)),.string (E (x*y).natAbs)],.int .i64 0]) ?_ rfl ⟨rfl,?_⟩
 ·simp [results,Tryz.results160,go_sem,hCc0,hCc1]
 ·exact ((bt (bt (bt (b3 _ _ _ _) hb1) hb2) hb3).setCell (by simp;omega) _).setCell (by simp;omega) _
theorem checked_nil (p q:Nat) (w:World) (hp:p<256^8) (hq:q<256^128) (hg:grpE p q=0) :
  Calls Tryz.prog 108 #[.agg #[.string (E p),.string (E q)],.slice none 0 0,.slice none 0 0,.bool true] w fun e w'=>e=.returned (.int .i64 0)∧Below w.heap.size w w':=by
 have HC:=Lib.hid (fun w=>pcheckV_c p q 0 w hp hq hg);have hB:=Blk.new w #[Value.string (E p),Value.string (E q)] 33;have hBW:=b1 w (.cells #[Value.string (E p),Value.string (E q)] 33);clear hp hq hg;go_enter Tryz.func108,Tryz.ntmps108
 go_wp2;go_loop [18] (fun i=>i=.int .i64 0) (fun i=>0)
 case atStart=>rfl
 case round =>
  subst hrel;go_wp2;go_loop [28] (fun i=>i=.int .i64 0) (fun i=>0)
  case atStart=>rfl
  case round =>
   subst hrel;obtain ⟨hBc0,hBf0,hBc1,hBf1⟩:=hB.x2;go_wp2_with fail
   refine (HC.out _).mono ?_;rintro e w3 ⟨rfl,hb3⟩;go_wp2;go_loop [45] (fun i=>i=.int .i64 0) (fun i=>0)
   case atStart=>rfl
   case round =>
    subst hrel;go_wp2;go_ret
    exact ⟨rfl,bt hBW hb3⟩
theorem product_nil (p q:Nat) (w:World) (hp:p<256^8) (hq:q<256^128) (hg:grpE p q=0) :
  Calls Tryz.prog 72 #[.agg #[.string (E p),.string (E q)],.slice none 0 0,.slice none 0 0] w fun e w'=>e=.returned (.tuple #[.string (E 1),.int .i64 0])∧Below w.heap.size w w':=by
 have HCK:=Lib.hid (fun w=>checked_nil p q w hp hq hg)
 have hmk:∀w:World,(Instr.makeSlice 40 (.int .i64 0) (.int .i64 0)).run Tryz.prog w=.ok (.slice (some ⟨w.heap.size,0,none⟩) 0 0) (w.alloc (.cells #[] 31)):=fun w=>by
  have h:=run_mks (P:=Tryz.prog) Tryz.underlying40 info_nat 0 (by omega) (by omega) w;simpa using h
 have hG:=Blk.new w #[Value.string (E p),Value.string (E q)] 33;have hBW:=b1 w (.cells #[Value.string (E p),Value.string (E q)] 33);have HO:=Lib.hid (fun w=>ofK_c 1 1 w rfl (by decide));clear hp hq hg;obtain ⟨hGc0,hGf0,hGc1,hGf1⟩:=hG.x2;go_enter Tryz.func72,Tryz.ntmps72
 go_wp2_with fail
 refine (HCK.out _).mono ?_;rintro e w1 ⟨rfl,hb1⟩;clear hGc0 hGf0 hGc1 hGf1;replace hBW:=bt hBW hb1;go_wp2;go_loopw [10,37] (fun v i wr=>v=.int .i64 0∧i=.int .i64 0∧Below w1.heap.size w1 wr) (fun _ _ _=>0)
 case atStart=>exact ⟨rfl,rfl,b1 _ _⟩
 case round =>
  obtain ⟨rfl,rfl,hbr⟩:=hrel;obtain ⟨wp,hwp⟩:∃wp,wp=wr:=⟨_,rfl⟩;subst hwp;replace hBW:=bt hBW hbr;go_wp2_with fail
  refine (HO.out _).mono ?_;rintro e w3 ⟨rfl,hb3⟩;replace hBW:=ba (bt hBW hb3) (.cells #[.string (E 1)] 31);have hO:=Blk.new w3 #[.string (E 1)] 31;go_wp2;generalize hw4:w3.alloc (.cells #[.string (E 1)] 31)=w4 at hO hBW;go_loopw [17] (fun i wr=>i=.int .i64 (-1)∧Below w4.heap.size w4 wr) (fun _ _=>0)
  case atStart=>exact ⟨rfl,Below.refl _ _⟩
  case round =>
   obtain ⟨rfl,hbs⟩:=hrel;replace hO:=hO.after hbs;obtain ⟨hOc0,hOf0⟩:=hO.x1;go_wp2;go_ret2
   exact ⟨rfl,bt hBW hbs⟩
def NOwn (w:World) (base:Nat) (v:Value) (L:List Nat):Prop:=w.ownsRow base 31 1 v L.length (strs L)
def ZOwn (w:World) (base:Nat) (v:Value) (Z:List Int):Prop:=w.ownsRow base 37 2 v Z.length (ics (Z.map zI))
theorem NOwn.ss {w:World} {base:Nat} {v:Value} {L:List Nat} (h:NOwn w base v L):SsAt w v (L.map E):=by
 have h0:w.ownsRow base 31 1 v L.length (strs L):=h;rcases h0.2 with ⟨rfl,h2⟩ | ⟨g,cap,cur,rfl,h3,h4,_⟩
 ·exact ⟨none,0,by simp [h2],.inl (by simp [h2])⟩
 ·refine ⟨_,_,by simp;rfl,.inr ⟨g,0,rfl,(Array.getElem?_eq_some_iff.1 h4).1,fun j hj=>⟨_,rfl,fun i hi=>?_⟩⟩⟩;obtain rfl:i=0:=by omega
  have hj':j<L.length:=by simpa using hj
  rw [show (0+j*1+0:Nat)=j by omega];rw [own_cellS h0 j _ (by rw [strs,List.getElem?_map,List.getElem?_eq_getElem hj'];rfl)];simp
theorem ZOwn.zs {w:World} {base:Nat} {v:Value} {Z:List Int} (h:ZOwn w base v Z):ZsAt w v Z:=by
 have h0:w.ownsRow base 37 2 v Z.length (ics (Z.map zI)):=h;rcases h0.2 with ⟨rfl,h2⟩ | ⟨g,cap,cur,rfl,h3,h4,_⟩
 ·exact ⟨none,0,by simp [h2],.inl (by simp [h2])⟩
 ·refine ⟨_,_,by simp;rfl,.inr ⟨g,0,rfl,(Array.getElem?_eq_some_iff.1 h4).1,fun j hj=>⟨_,rfl,fun i hi=>?_⟩⟩⟩;obtain ⟨q1,q2⟩:=ics_get (Z.map zI) j hj;obtain rfl | rfl:i=0∨i=1:=by omega
  ·rw [show (0+j*2+0:Nat)=j*2 by omega,own_cellS h0 _ _ q1];rfl
  ·rw [show (0+j*2+1:Nat)=j*2+1 by omega,own_cellS h0 _ _ q2];rfl
theorem NOwn.form {w:World} {base:Nat} {v:Value} {L:List Nat} (h:NOwn w base v L) (h0:0<L.length):∃g c,v=.slice (some ⟨g,0,none⟩) L.length c∧base≤g∧L.length≤c∧NatsAt w g L:=by
 have k:w.ownsRow base 31 1 v L.length (strs L):=h;rcases k.2 with ⟨rfl,h2⟩ | ⟨g,cap,cur,rfl,h3,h4,h5,_⟩
 ·omega
 ·exact ⟨g,cap,rfl,h3,h5,(Array.getElem?_eq_some_iff.1 h4).1,fun j hj=>own_cellS k j _ (by rw [strs,List.getElem?_map,List.getElem?_eq_getElem hj];rfl)⟩
theorem ZOwn.form {w:World} {base:Nat} {v:Value} {Z:List Int} (h:ZOwn w base v Z) (h0:0<Z.length):∃g c,v=.slice (some ⟨g,0,none⟩) Z.length c∧base≤g∧Z.length≤c∧IntsAt w g Z:=by
 have k:w.ownsRow base 37 2 v Z.length (ics (Z.map zI)):=h;rcases k.2 with ⟨rfl,h2⟩ | ⟨g,cap,cur,rfl,h3,h4,h5,_⟩
 ·omega
 ·refine ⟨g,cap,rfl,h3,h5,(Array.getElem?_eq_some_iff.1 h4).1,fun j hj=>?_⟩;obtain ⟨q1,q2⟩:=ics_get (Z.map zI) j (by simpa using hj);refine ⟨?_,?_⟩
  ·rw [own_cellS k _ _ q1];simp [zI]
  ·rw [own_cellS k _ _ q2];simp [zI]
theorem NOwn.nilv {w:World} {base:Nat} {v:Value} {L:List Nat} (h:NOwn w base v L) (h0:L.length=0) (hv:L=[]→v=.slice none 0 0):v=.slice none 0 0:=hv (List.length_eq_zero_iff.1 h0)
theorem product_own (p q:Nat) (b1' b2':Nat) (L:List Nat) (Z:List Int) (v1 v2:Value) (w:World) (hp:p<256^8) (hq:q<256^128) (hg:grpE p q=0)
  (hn:L.length=Z.length) (hn1:L.length≤1000) (hx:∀x∈L,hasB p q x=true) (hzz:∀z∈Z,z.natAbs<256^128) (hL:NOwn w b1' v1 L) (hZ:ZOwn w b2' v2 Z)
  (h1:L=[]→v1=.slice none 0 0) (h2:Z=[]→v2=.slice none 0 0) :
  Calls Tryz.prog 72 #[.agg #[.string (E p),.string (E q)],v1,v2] w fun e w'=>e=.returned (.tuple #[.string (E (pw (prs p L Z) 0%p)),.int .i64 0])∧Below w.heap.size w w':=by
 rcases Nat.eq_zero_or_pos L.length with h0 | h0
 ·have e1:=List.length_eq_zero_iff.1 h0;have e2:=List.length_eq_zero_iff.1 (hn ▸ h0:Z.length=0);rw [h1 e1,h2 e2,e1,e2];have:=product_nil p q w hp hq hg;rw [show pw (prs p [] []) 0%p=1 by show 1%p=1;exact Nat.mod_eq_of_lt (by have:=grp_gt hg;omega)];exact this
 ·obtain ⟨g1,c1,rfl,_,k1,k2⟩:=hL.form h0;obtain ⟨g2,c2,rfl,_,k3,k4⟩:=hZ.form (by omega);rw [←hn] at k3 ⊢;exact product_g p q g1 g2 c1 c2 L.length L Z w hp hq hg rfl hn.symm hn1 k1 k3 hx hzz k2 k4
theorem prs_snoc (p:Nat) (L:List Nat) (Z:List Int) (k:Nat) (h1:k<L.length) (h2:k<Z.length):prs p (L.take (k+1)) (Z.take (k+1))=prs p (L.take k) (Z.take k)++[(bse p L[k] Z[k],Z[k].natAbs)]:=by
 rw [List.take_succ_eq_append_getElem h1,List.take_succ_eq_append_getElem h2];unfold prs;rw [List.zipWith_append (by simp;omega)];rfl
theorem pw_snoc (l:List (Nat × Nat)) (x e:Nat):pw (l++[(x,e)]) 0=pw l 0*x^e:=by
 induction l with
 | nil=>simp [pw]
 | cons y t ih=>simp only [List.cons_append,pw,ih,Nat.mul_assoc]
theorem powI_bse {p x:Nat} (z:Int) (hx:x<p):powI x z p=bse p x z^z.natAbs%p:=by
 unfold powI bse;rw [Nat.mod_eq_of_lt hx];split <;> rfl
theorem prodI_step (p:Nat) (L:List Nat) (Z:List Int) (k:Nat) (h1:k<L.length) (h2:k<Z.length) (hx:L[k]<p):pw (prs p (L.take k) (Z.take k)) 0%p*powI L[k] Z[k] p%p=pw (prs p (L.take (k+1)) (Z.take (k+1))) 0%p:=by
 rw [prs_snoc p L Z k h1 h2,pw_snoc,powI_bse _ hx,←Nat.mul_mod]
theorem rproduct_c (p q:Nat) (L:List Nat) (Z:List Int) (v1 v2:Value) (w:World) (hp:p<256^8) (hq:q<256^128) (hg:grpE p q=0)
  (hn:L.length=Z.length) (hn1:L.length≤1000) (hx:∀x∈L,hasB p q x=true) (hzz:∀z∈Z,z.natAbs<256^128) (hL:SsAt w v1 (L.map E)) (hZ:ZsAt w v2 Z) :
  Calls Tryz.prog 144 #[.agg #[.string (E p),.string (E q)],v1,v2] w fun e w'=>e=.returned (.tuple #[.string (E (pw (prs p L Z) 0%p)),.int .i64 0])∧Below w.heap.size w w':=by
 obtain ⟨a1,c1,e1⟩:=RAt.form hL;obtain ⟨a2,c2,e2⟩:=hZ.form;rw [List.length_map] at e1;rw [←hn] at e2;obtain ⟨n,hn'⟩:∃n,n=L.length:=⟨_,rfl⟩;have HNL:=Lib.hid hn';have HNZ:Hid (n=Z.length):=by rw [Hid,hn',hn]
 rw [←hn'] at e1 e2 hn1;subst e1 e2;have HP2:=Lib.hid (grp_gt hg);have HP:=Lib.hid hp;have HX:=Lib.hid hx;have HZZ:=Lib.hid hzz;have HG:=Lib.hid hg;have HQ:=Lib.hid hq;obtain ⟨r,hr⟩:∃r,r=pw (prs p L Z) 0%p:=⟨_,rfl⟩;have HRES:=Lib.hid hr;rw [←hr];have HC:=Lib.hid (fun w=>rpcheckV_c p q 0 w hp hq hg);have hB:=Blk.new w #[Value.string (E p),Value.string (E q)] 33;have hBW:=b1 w (.cells #[Value.string (E p),Value.string (E q)] 33);replace hL:=SsAt.after hL hBW;replace hZ:=hZ.after hBW;clear hp hq hg hx hzz hn hr hn';obtain ⟨hBc0,hBf0,hBc1,hBf1⟩:=hB.x2;go_enter Tryz.func144,Tryz.ntmps144
 go_wp2;clear hBc0 hBf0 hBc1 hBf1;generalize w.alloc (.cells #[Value.string (E p),Value.string (E q)] 33)=w1 at hB hBW hL hZ;replace hB:Blk w1 w.heap.size 33 [.string (E p),.string (E q)]:=hB;go_loopw [8] (fun i wr=>∃k:Nat,k≤n∧i=.int .i64 k∧Below w1.heap.size w1 wr) (fun i _=>n-(intOf i).toNat)
 case atStart=>exact ⟨0,by omega,rfl,Below.refl _ _⟩
 case round =>
  obtain ⟨k,hk,rfl,hbr⟩:=hrel;obtain ⟨wp,hwp⟩:∃wp,wp=wr:=⟨_,rfl⟩;subst hwp;replace hB:=hB.after hbr;replace hL:=SsAt.after hL hbr;replace hZ:=hZ.after hbr;replace hBW:=bt hBW hbr;by_cases hlt:k<n
  ·have hkl:k<L.length:=by rw [←HNL.out];exact hlt
   have hkl':k<(L.map E).length:=by simpa using hkl
   obtain ⟨b,o,rfl,hbl,x1⟩:=SsAt.at_ hL hkl';have HHX:=Lib.hid (HX.out _ (List.getElem_mem hkl));simp only [List.getElem_map] at x1;generalize (L[k]'hkl)=x at x1 HHX;have HN:=Lib.hid (lt128 (Nat.lt_trans (has_lt HHX.out) HP.out));have h0k:(0:Int)≤(k:Int):=by omega
   have h1k:(k:Int)<(n:Int):=by omega
   go_wp2_with fail
   refine (rvalidV_c (E x) true _ (by have:=szM HN.out;omega) (vldB_E x HN.out)).mono ?_;rintro e w' ⟨rfl,rfl⟩;go_wp2;go_roundw
   case rel=>exact ⟨k+1,by omega,by go_num,hbr⟩
   case measure=>simp [intOf];omega
  ·clear hbr;go_wp2;go_loopw [9] (fun i wr=>∃k:Nat,k≤n∧i=.int .i64 k∧Below wp.heap.size wp wr) (fun i _=>n-(intOf i).toNat)
   case atStart=>exact ⟨0,by omega,rfl,Below.refl _ _⟩
   case round =>
    obtain ⟨k,hk,rfl,hbr⟩:=hrel;obtain ⟨wq,hwq⟩:∃wq,wq=wr:=⟨_,rfl⟩;subst hwq;replace hB:=hB.after hbr;replace hL:=SsAt.after hL hbr;replace hZ:=hZ.after hbr;replace hBW:=bt hBW hbr;by_cases hlt:k<n
    ·have hkl:k<Z.length:=by rw [←HNZ.out];exact hlt
     obtain ⟨b,o,rfl,hbl,x1,x2⟩:=hZ.at_ hkl;have HZB:=Lib.hid (HZZ.out _ (List.getElem_mem hkl));generalize (Z[k]'hkl)=z at x1 x2 HZB;have h0k:(0:Int)≤(k:Int):=by omega
     have h1k:(k:Int)<(n:Int):=by omega
     go_wp2_with fail
     refine (rivalidI_c z _ HZB.out).mono ?_;rintro e w3 ⟨rfl,hb3⟩;go_wp2;go_roundw
     case rel=>exact ⟨k+1,by omega,by go_num,bt hbr hb3⟩
     case measure=>simp [intOf];omega
    ·clear hbr;have hBl:=hB.lt;obtain ⟨hBc0,hBf0,hBc1,hBf1⟩:=hB.x2;go_wp2_with fail
     refine (HC.out _).mono ?_;rintro e w3 ⟨rfl,hb3⟩;clear hBc0 hBf0 hBc1 hBf1;replace hB:=hB.after hb3;replace hL:=SsAt.after hL hb3;replace hZ:=hZ.after hb3;replace hBW:=bt hBW hb3;clear hb3 hBl;go_wp2;go_loopw [11] (fun i wr=>∃k:Nat,k≤n∧i=.int .i64 k∧Below w3.heap.size w3 wr) (fun i _=>n-(intOf i).toNat)
     case atStart=>exact ⟨0,by omega,rfl,Below.refl _ _⟩
     case round =>
      obtain ⟨k,hk,rfl,hbr⟩:=hrel;obtain ⟨wt,hwt⟩:∃wt,wt=wr:=⟨_,rfl⟩;subst hwt;replace hB:=hB.after hbr;replace hL:=SsAt.after hL hbr;replace hZ:=hZ.after hbr;replace hBW:=bt hBW hbr;have hBl:=hB.lt;by_cases hlt:k<n
      ·have hkl:k<L.length:=by rw [←HNL.out];exact hlt
       have hkl':k<(L.map E).length:=by simpa using hkl
       obtain ⟨b,o,rfl,hbl,x1⟩:=SsAt.at_ hL hkl';have HHX:=Lib.hid (HX.out _ (List.getElem_mem hkl));simp only [List.getElem_map] at x1;generalize (L[k]'hkl)=x at x1 HHX;have HN:=Lib.hid (lt128 (Nat.lt_trans (has_lt HHX.out) HP.out));have h0k:(0:Int)≤(k:Int):=by omega
       have h1k:(k:Int)<(n:Int):=by omega
       have g1:=gcl (a:=⟨b,o+k,none⟩) hbl x1;obtain ⟨hBc0,hBf0,hBc1,hBf1⟩:=hB.x2;have hBg0:=hB.gcell 0;have hBg1:=hB.gcell 1;go_wp2_with fail
       refine wp_region_gw (by kernel_rfl) (by kernel_rfl) ?_;repeat (go_big_quiet_step (first | (go_at_call 141;exact gw_of (rhasV_c p q x true _ HP.out HQ.out HG.out HN.out HHX.out))))
       refine wpQuiet_nil ?_;rintro w5 ⟨xw5,rfl⟩;have hb5:=gw_below xw5;generalize gw xw5=w5 at hb5;go_wp2;go_roundw
       case rel=>exact ⟨k+1,by omega,by go_num,bt hbr hb5⟩
       case measure=>simp [intOf];omega
      ·clear hbr;go_wp2;go_loopw [12,13] (fun v i wr=>∃k:Nat,∃y:Nat,k≤n∧i=.int .i64 k∧v=.string (E y)∧Hid (y=pw (prs p (L.take k) (Z.take k)) 0%p)∧Below wt.heap.size wt wr) (fun _ i _=>n-(intOf i).toNat)
       case atStart=>exact ⟨0,1,by omega,rfl,rfl,(Nat.mod_eq_of_lt (by have:=HP2.out;omega)).symm,Below.refl _ _⟩
       case round =>
        obtain ⟨k,y,hk,rfl,rfl,HY,hbr⟩:=hrel;obtain ⟨wu,hwu⟩:∃wu,wu=wr:=⟨_,rfl⟩;subst hwu;replace hB:=hB.after hbr;replace hL:=SsAt.after hL hbr;replace hZ:=hZ.after hbr;replace hBW:=bt hBW hbr;clear hBl;have hBl:=hB.lt;by_cases hlt:k<n
        ·have hkl:k<L.length:=by rw [←HNL.out];exact hlt
         have hkl':k<(L.map E).length:=by simpa using hkl
         have hkz:k<Z.length:=by rw [←HNZ.out];exact hlt
         obtain ⟨b,o,rfl,hbl,x1⟩:=SsAt.at_ hL hkl';obtain ⟨b',o',rfl,hbl',y1,y2⟩:=hZ.at_ hkz;have HHX:=Lib.hid (HX.out _ (List.getElem_mem hkl));have HZB:=Lib.hid (HZZ.out _ (List.getElem_mem hkz));have HST:=Lib.hid (prodI_step p L Z k hkl hkz (has_lt HHX.out));simp only [List.getElem_map] at x1;generalize (L[k]'hkl)=x at x1 HHX HST;generalize (Z[k]'hkz)=z at y1 y2 HZB HST;have HPW:=Lib.hid (fun w=>rraw_c p q x z w HP.out HG.out HHX.out HZB.out);have HY8:Hid (y<256^8):=by rw [Hid,HY.out];exact Nat.lt_trans (Nat.mod_lt _ (by have:=HP2.out;omega)) HP.out
         have HV8:Hid (powI x z p<256^8):=by rw [Hid,powI_bse z (has_lt HHX.out)];exact Nat.lt_trans (Nat.mod_lt _ (by have:=HP2.out;omega)) HP.out
         have HX2:Hid (y*powI x z p%p=pw (prs p (L.take (k+1)) (Z.take (k+1))) 0%p):=by rw [Hid,HY.out];exact HST.out
         generalize powI x z p=v at HPW HV8 HX2;have HMM:=Lib.hid (fun w=>rmul3_c y v p w (lt128 HY8.out) (lt128 HV8.out) (Nat.lt_of_lt_of_le HP.out (Nat.pow_le_pow_right (show 0<256 by decide) (show 8≤64 by decide))) (by have:=HP2.out;omega));have h0k:(0:Int)≤(k:Int):=by omega
         have h1k:(k:Int)<(n:Int):=by omega
         have g1:=gcl (a:=⟨b,o+k,none⟩) hbl x1;have g2:=gcl (a:=⟨b',o'+k*2,none⟩) hbl' y1;have g3:=gcl (a:=⟨b',o'+k*2+1,none⟩) hbl' y2;clear HST;obtain ⟨hBc0,hBf0,hBc1,hBf1⟩:=hB.x2;have hBg0:=hB.gcell 0;have hBg1:=hB.gcell 1;go_wp2_with fail
         refine wp_region_gw (by kernel_rfl) (by kernel_rfl) ?_;repeat (go_big_quiet_step (first | (go_at_call 168;exact gw_of (HPW.out _)) | (go_at_call 167;exact gw_of (HMM.out _))))
         refine wpQuiet_nil ?_;rintro w5 ⟨xw5,rfl⟩;have hb5:=gw_below xw5;generalize gw xw5=w5 at hb5;go_wp2;go_roundw
         case rel=>exact ⟨k+1,y*v%p,by omega,by go_num,rfl,HX2,bt hbr hb5⟩
         case measure=>simp [intOf];omega
        ·have HF:Hid (y=r):=by rw [Hid,HY.out,HRES.out,List.take_of_length_le (by rw [←HNL.out];omega),List.take_of_length_le (by rw [←HNZ.out];omega)]
         go_wp2;go_ret2
         exact ⟨by rw [HF.out];rfl,bt hBW (Below.refl _ _)⟩
end
section
open Go.RowKit Go.Shelf
def CA (w:World) (l:List (Addr × Value)):Prop:=∀x∈l,x.1.block<w.heap.size∧w.cell? x.1=some x.2
theorem CA.nil (w:World):CA w []:=fun x h=>by cases h
theorem CA.cons {w:World} {a:Addr} {v:Value} {l:List (Addr × Value)} (h1:a.block<w.heap.size) (h2:w.cell? a=some v) (h:CA w l):CA w ((a,v) :: l):=by
 intro x hx;rcases List.mem_cons.1 hx with rfl | hx
 ·exact ⟨h1,h2⟩
 ·exact h x hx
theorem CA.drew {w:World} {l:List (Addr × Value)} (h:CA w l):CA w.drew l:=h
theorem CA.after {w w':World} {l:List (Addr × Value)} (h:CA w l) (hb:Below w.heap.size w w'):CA w' l:=fun x hx=>⟨Nat.lt_of_lt_of_le (h x hx).1 hb.size,(hb.cell (h x hx).1).trans (h x hx).2⟩
theorem CA.alloc {w:World} {l:List (Addr × Value)} (h:CA w l) (o:Obj):CA (w.alloc o) l:=h.after (b1 _ _)
theorem CA.grown {w w':World} {row:Option Nat} {l:List (Addr × Value)} (h:CA w l) (hg:w.grownBy w' row) (hr:∀x∈l,row≠some x.1.block):CA w' l:=
 fun x hx=>⟨Nat.lt_of_lt_of_le (h x hx).1 hg.size,hg.cell (h x hx).2 (fun e=>hr x hx e.symm)⟩
theorem CA.set {w:World} {l:List (Addr × Value)} (h:CA w l) (g i:Nat) (v:Value) (hne:∀x∈l,x.1.block≠g):CA (w.setCell ⟨g,i,none⟩ v) l:=
 fun x hx=>⟨by rw [World.size_setCell];exact (h x hx).1,by rw [World.cell?_setCell_other _ _ _ _ (fun e=>hne x hx (congrArg Addr.block e).symm)];exact (h x hx).2⟩
theorem CA.k1 {w:World} {a0:Addr} {v0:Value} (h:CA w [(a0,v0)]):w.cell? a0=some v0:=(h (a0,v0) (by simp)).2
theorem CA.k2 {w:World} {a0 a1:Addr} {v0 v1:Value} (h:CA w [(a0,v0),(a1,v1)]):w.cell? a0=some v0∧w.cell? a1=some v1:=⟨(h (a0,v0) (by simp)).2,(h (a1,v1) (by simp)).2⟩
theorem CA.k3 {w:World} {a0 a1 a2:Addr} {v0 v1 v2:Value} (h:CA w [(a0,v0),(a1,v1),(a2,v2)]):w.cell? a0=some v0∧w.cell? a1=some v1∧w.cell? a2=some v2:=⟨(h (a0,v0) (by simp)).2,(h (a1,v1) (by simp)).2,(h (a2,v2) (by simp)).2⟩
theorem CA.k4 {w:World} {a0 a1 a2 a3:Addr} {v0 v1 v2 v3:Value} (h:CA w [(a0,v0),(a1,v1),(a2,v2),(a3,v3)]):w.cell? a0=some v0∧w.cell? a1=some v1∧w.cell? a2=some v2∧w.cell? a3=some v3:=⟨(h (a0,v0) (by simp)).2,(h (a1,v1) (by simp)).2,(h (a2,v2) (by simp)).2,(h (a3,v3) (by simp)).2⟩
theorem CA.k5 {w:World} {a0 a1 a2 a3 a4:Addr} {v0 v1 v2 v3 v4:Value} (h:CA w [(a0,v0),(a1,v1),(a2,v2),(a3,v3),(a4,v4)]):w.cell? a0=some v0∧w.cell? a1=some v1∧w.cell? a2=some v2∧w.cell? a3=some v3∧w.cell? a4=some v4:=⟨(h (a0,v0) (by simp)).2,(h (a1,v1) (by simp)).2,(h (a2,v2) (by simp)).2,(h (a3,v3) (by simp)).2,(h (a4,v4) (by simp)).2⟩
theorem CA.k6 {w:World} {a0 a1 a2 a3 a4 a5:Addr} {v0 v1 v2 v3 v4 v5:Value} (h:CA w [(a0,v0),(a1,v1),(a2,v2),(a3,v3),(a4,v4),(a5,v5)]):w.cell? a0=some v0∧w.cell? a1=some v1∧w.cell? a2=some v2∧w.cell? a3=some v3∧w.cell? a4=some v4∧w.cell? a5=some v5:=⟨(h (a0,v0) (by simp)).2,(h (a1,v1) (by simp)).2,(h (a2,v2) (by simp)).2,(h (a3,v3) (by simp)).2,(h (a4,v4) (by simp)).2,(h (a5,v5) (by simp)).2⟩
theorem CA.k7 {w:World} {a0 a1 a2 a3 a4 a5 a6:Addr} {v0 v1 v2 v3 v4 v5 v6:Value} (h:CA w [(a0,v0),(a1,v1),(a2,v2),(a3,v3),(a4,v4),(a5,v5),(a6,v6)]):w.cell? a0=some v0∧w.cell? a1=some v1∧w.cell? a2=some v2∧w.cell? a3=some v3∧w.cell? a4=some v4∧w.cell? a5=some v5∧w.cell? a6=some v6:=⟨(h (a0,v0) (by simp)).2,(h (a1,v1) (by simp)).2,(h (a2,v2) (by simp)).2,(h (a3,v3) (by simp)).2,(h (a4,v4) (by simp)).2,(h (a5,v5) (by simp)).2,(h (a6,v6) (by simp)).2⟩
theorem CA.k8 {w:World} {a0 a1 a2 a3 a4 a5 a6 a7:Addr} {v0 v1 v2 v3 v4 v5 v6 v7:Value} (h:CA w [(a0,v0),(a1,v1),(a2,v2),(a3,v3),(a4,v4),(a5,v5),(a6,v6),(a7,v7)]):w.cell? a0=some v0∧w.cell? a1=some v1∧w.cell? a2=some v2∧w.cell? a3=some v3∧w.cell? a4=some v4∧w.cell? a5=some v5∧w.cell? a6=some v6∧w.cell? a7=some v7:=⟨(h (a0,v0) (by simp)).2,(h (a1,v1) (by simp)).2,(h (a2,v2) (by simp)).2,(h (a3,v3) (by simp)).2,(h (a4,v4) (by simp)).2,(h (a5,v5) (by simp)).2,(h (a6,v6) (by simp)).2,(h (a7,v7) (by simp)).2⟩
theorem CA.k9 {w:World} {a0 a1 a2 a3 a4 a5 a6 a7 a8:Addr} {v0 v1 v2 v3 v4 v5 v6 v7 v8:Value} (h:CA w [(a0,v0),(a1,v1),(a2,v2),(a3,v3),(a4,v4),(a5,v5),(a6,v6),(a7,v7),(a8,v8)]):w.cell? a0=some v0∧w.cell? a1=some v1∧w.cell? a2=some v2∧w.cell? a3=some v3∧w.cell? a4=some v4∧w.cell? a5=some v5∧w.cell? a6=some v6∧w.cell? a7=some v7∧w.cell? a8=some v8:=⟨(h (a0,v0) (by simp)).2,(h (a1,v1) (by simp)).2,(h (a2,v2) (by simp)).2,(h (a3,v3) (by simp)).2,(h (a4,v4) (by simp)).2,(h (a5,v5) (by simp)).2,(h (a6,v6) (by simp)).2,(h (a7,v7) (by simp)).2,(h (a8,v8) (by simp)).2⟩
theorem CA.k10 {w:World} {a0 a1 a2 a3 a4 a5 a6 a7 a8 a9:Addr} {v0 v1 v2 v3 v4 v5 v6 v7 v8 v9:Value} (h:CA w [(a0,v0),(a1,v1),(a2,v2),(a3,v3),(a4,v4),(a5,v5),(a6,v6),(a7,v7),(a8,v8),(a9,v9)]):w.cell? a0=some v0∧w.cell? a1=some v1∧w.cell? a2=some v2∧w.cell? a3=some v3∧w.cell? a4=some v4∧w.cell? a5=some v5∧w.cell? a6=some v6∧w.cell? a7=some v7∧w.cell? a8=some v8∧w.cell? a9=some v9:=⟨(h (a0,v0) (by simp)).2,(h (a1,v1) (by simp)).2,(h (a2,v2) (by simp)).2,(h (a3,v3) (by simp)).2,(h (a4,v4) (by simp)).2,(h (a5,v5) (by simp)).2,(h (a6,v6) (by simp)).2,(h (a7,v7) (by simp)).2,(h (a8,v8) (by simp)).2,(h (a9,v9) (by simp)).2⟩
theorem blkN {w:World} {cs:Array Value} {T:TypeId} {g:Nat} (h:g=w.heap.size):Blk (w.alloc (.cells cs T)) g T cs.toList:=by subst h;exact Blk.new _ _ _
def ZBox (w:World) (z:Int) (s10 s11:Value) (wx:World):Prop:=∃g,s10=.pointer (some ⟨g,0,none⟩)∧s11=.int .i64 0∧Blk wx g 37 [.bool (sg z),.string (E z.natAbs)]∧w.heap.size≤g∧Below w.heap.size w wx
def imgB (q:NEqn):List Nat:=q.trms.map (·.base)
def imgX (Z:List Int) (q:NEqn):List Int:=q.trms.map fun t=>t.coef*Z.getD t.var 0
def imgV (N:NSta) (Z:List Int) (q:NEqn):Nat:=pw (prs (N.gp q).1 (imgB q) (imgX Z q)) 0%(N.gp q).1
def NSta.imgs (N:NSta) (Z:List Int):List Nat:=N.eqs.map (imgV N Z)
theorem info_Int:(Tryz.prog.info? 37).map (fun i=>(i.zero,i.size,i.bytes))=some (some (.agg #[.bool false,.string { data:=#[] }]),2,24):=by kernel_rfl
theorem imgB_step (q:NEqn) (k:Nat) (h:k<q.trms.length):(imgB q).take (k+1)=(imgB q).take k++[(q.trms[k]).base]:=by
 unfold imgB;rw [←List.map_take,List.take_succ_eq_append_getElem h,List.map_append,List.map_take];rfl
theorem imgX_step (Z:List Int) (q:NEqn) (k:Nat) (h:k<q.trms.length):(imgX Z q).take (k+1)=(imgX Z q).take k++[(q.trms[k]).coef*Z.getD (q.trms[k]).var 0]:=by
 unfold imgX;rw [←List.map_take,List.take_succ_eq_append_getElem h,List.map_append,List.map_take];rfl
theorem ics_app (a b:List Int):ics (a.map zI)++ics (b.map zI)=ics ((a++b).map zI):=by simp [ics]
theorem ics_oneI (z:Int):ics ([z].map zI)=[.bool (sg z),.string (E z.natAbs)]:=rfl
structure IRel (w1:World) (k:Nat) (L:List Nat) (Z:List Int) (v6 v7:Value) (wr:World):Prop where
 a:NOwn wr w1.heap.size v6 L
 z:ZOwn wr w1.heap.size v7 Z
 la:L.length=k
 lz:Z.length=k
 na:k=0→v6=.slice none 0 0
 nz:k=0→v7=.slice none 0 0
 b:Below w1.heap.size w1 wr
theorem IRel.after {w1:World} {k:Nat} {L:List Nat} {Z:List Int} {v6 v7:Value} {wr wx:World} (h:IRel w1 k L Z v6 v7 wr) (hb:Below wr.heap.size wr wx):IRel w1 k L Z v6 v7 wx:=
 ⟨own_after h.a hb,own_after h.z hb,h.la,h.lz,h.na,h.nz,bt h.b hb⟩
end
section
open Go.RowKit Go.Shelf
def LPost (w:World) (L:List Nat) (e:Ending) (w':World):Prop:=∃v,e=.returned (.tuple #[v,.int .i64 0])∧NOwn w' w.heap.size v L∧Below w.heap.size w w'
theorem imgs_step (N:NSta) (Z:List Int) (k:Nat) (h:k<N.eqs.length):(N.imgs Z).take (k+1)=(N.imgs Z).take k++[imgV N Z N.eqs[k]]:=by
 unfold NSta.imgs;rw [←List.map_take,List.take_succ_eq_append_getElem h,List.map_append,List.map_take];rfl
theorem chk_elem {N:NSta} (h:N.chk=0) (k:Nat) (hk:k<N.eqs.length) (hg:N.eqs[k].grp<N.grps.length):grpE N.grps[N.eqs[k].grp].1 N.grps[N.eqs[k].grp].2=0∧hasB N.grps[N.eqs[k].grp].1 N.grps[N.eqs[k].grp].2 N.eqs[k].tgt=true∧∀x∈imgB N.eqs[k],hasB N.grps[N.eqs[k].grp].1 N.grps[N.eqs[k].grp].2 x=true:=by
 obtain ⟨_,he,_⟩:=chk_inv h;unfold NSta.elem at he;rw [Bool.and_eq_true,List.all_eq_true,List.all_eq_true] at he;have h1:=he.1 _ (List.getElem_mem hg);have h2:=he.2 _ (List.getElem_mem hk);unfold elemQ at h2;rw [gp_at N _ hg,Bool.and_eq_true,List.all_eq_true] at h2;refine ⟨by simpa [gr0] using h1,h2.1,fun x hx=>?_⟩;obtain ⟨t,ht,rfl⟩:=List.mem_map.1 hx;exact h2.2 t ht
theorem imgX_lt {N:NSta} (hm:NOk N) (Z:List Int) (hz:∀z∈Z,z.natAbs<256^64) (q:NEqn) (hq:q∈N.eqs):∀z∈imgX Z q,z.natAbs<256^128:=by
 intro z hzz;obtain ⟨t,ht,rfl⟩:=List.mem_map.1 hzz;obtain ⟨_,_,_,h4⟩:=hm.e q hq;have h5:=(h4 t ht).2.2
 have h6:(Z.getD t.var 0).natAbs<256^64:=by
  rw [List.getD_eq_getElem?_getD];by_cases hv:t.var<Z.length
  ·rw [List.getElem?_eq_getElem hv];exact hz _ (List.getElem_mem hv)
  ·rw [List.getElem?_eq_none (by omega)];exact Nat.pow_pos (by decide)
 rw [Int.natAbs_mul];exact Nat.lt_of_lt_of_le (Nat.mul_lt_mul'' h5 h6) (by rw [←Nat.pow_add];exact Nat.pow_le_pow_right (show 0<256 by decide) (by decide))
theorem imgV_lt (N:NSta) (Z:List Int) (q:NEqn) (h0:0<(N.gp q).1):imgV N Z q<(N.gp q).1:=Nat.mod_lt _ h0
end
section
open Go.RowKit Go.Shelf
end
section
open Go.RowKit Go.Shelf
def kdN (b:Nat):Nat:=if b=0 then 0 else 1
theorem mul_cb {C K b:Nat} (h1:1≤K):(C-1)*(b-1)≤K*C*b:=by
 refine Nat.le_trans (Nat.mul_le_mul (Nat.sub_le C 1) (Nat.sub_le b 1)) ?_;exact Nat.mul_le_mul_right _ (Nat.le_mul_of_pos_left _ h1)
theorem lt_mul3 {C K b:Nat} (hC:C<256^16) (hK:K<256^16) (hb:b<256^26):K*C<256^32∧K*C*b<256^58:=by
 have h1:K*C<256^32:=by
  have:=Nat.mul_lt_mul'' hK hC;rwa [←Nat.pow_add] at this
 have h2:K*C*b<256^58:=by
  have:=Nat.mul_lt_mul'' h1 hb;rwa [←Nat.pow_add] at this
 exact ⟨h1,h2⟩
theorem lt128' {n k:Nat} (h:n<256^k) (hk:k≤128):n<256^128:=Nat.lt_of_lt_of_le h (Nat.pow_le_pow_right (by decide) hk)
theorem mulV_c (a b r:Nat) (w:World) (ha:a<256^128) (hb:b<256^128) (h:r<256^128) (hr:a*b=r) :
  Calls Tryz.prog 182 #[.string (E a),.string (E b)] w fun e w'=>e=.returned (.tuple #[.string (E r),.int .i64 0])∧Below w.heap.size w w':=by
 rw [←hr];exact mul_c a b w ha hb (by rw [hr];exact h)
theorem subV_c (a b r:Nat) (w:World) (ha:a<256^128) (hb:b≤a) (hr:a-b=r) :
  Calls Tryz.prog 99 #[.string (E a),.string (E b)] w fun e w'=>e=.returned (.tuple #[.string (E r),.int .i64 0])∧Below w.heap.size w w':=by
 rw [←hr];exact sub_c a b w ha hb
def blw (b:Nat) (x:Int) (l:Nat):Bool:=decide (x.natAbs<l)&&(!(vz b) || !(sg x))
theorem blw_ge {b l:Nat} {x:Int} (h:l≤x.natAbs):blw b x l=false:=by unfold blw;rw [decide_eq_false (by omega)];rfl
theorem blw_pos {b l:Nat} {x:Int} (h:x.natAbs<l) (hb:0<b):blw b x l=true:=by unfold blw;rw [decide_eq_true h,vz_pos hb];rfl
theorem blw_zero {l:Nat} {x:Int} (h:x.natAbs<l):blw 0 x l=!(sg x):=by unfold blw;rw [decide_eq_true h];rfl
end
section
open Go.RowKit Go.Shelf
def lim (q C K b:Nat):Nat × Nat:=if b=0 then (q,q) else (K*C*b,K*C*b-(C-1)*(b-1))
def NSta.lims (N:NSta) (C K:Nat):List (Nat × Nat):=N.vars.map (lim N.ord C K)
def NSta.bnd (N:NSta) (C K:Nat):Nat:=if N.chk≠0 then N.chk else if C<2∨K<2 then 2 else if N.vars.any vz=true∧N.ord<C then 2 else 0
def lcs (L:List (Nat × Nat)):List Value:=L.flatMap fun x=>[.string (E x.1),.string (E x.2)]
theorem lcs_app (a b:List (Nat × Nat)):lcs a++lcs b=lcs (a++b):=by simp [lcs]
theorem lcs_len (L:List (Nat × Nat)):(lcs L).length=L.length*2:=by
 induction L with
 | nil=>rfl
 | cons x t ih=>simp [lcs] at ih ⊢;omega
theorem lcs_get (L:List (Nat × Nat)) (j:Nat) (h:j<L.length):(lcs L)[j*2]?=some (.string (E L[j].1))∧(lcs L)[j*2+1]?=some (.string (E L[j].2)):=by
 induction L generalizing j with
 | nil=>simp at h
 | cons x t ih =>
  cases j with
  | zero=>exact ⟨rfl,rfl⟩
  | succ j =>
   have h':j<t.length:=by simpa using h
   have:=ih j h';rw [show (j+1)*2=j*2+2 by omega];simpa [lcs] using this
def SBox (w:World) (T:TypeId) (cs:List Value) (s8:Value) (wx:World):Prop:=∃g,s8=.pointer (some ⟨g,0,none⟩)∧Blk wx g T cs∧w.heap.size≤g∧Below w.heap.size w wx
theorem ord_lt {N:NSta} (hm:NOk N):N.ord<256^8:=by
 by_cases h:N.grps.all og=true
 ·rw [ord_none N h];decide
 ·unfold NSta.ord;cases hf:(N.grps.map (·.2)).find? (· != 0) with
  | none=>exact Nat.pow_pos (by decide)
  | some q =>
   have:=List.mem_of_find?_eq_some hf;obtain ⟨g,hg,rfl⟩:=List.mem_map.1 this;exact (hm.g g hg).2
end
section
open Go.RowKit Go.Shelf
theorem lims_step (N:NSta) (C K:Nat) (k:Nat) (h:k<N.vars.length):(N.lims C K).take (k+1)=(N.lims C K).take k++[lim N.ord C K N.vars[k]]:=by
 unfold NSta.lims;rw [←List.map_take,List.take_succ_eq_append_getElem h,List.map_append,List.map_take];rfl
end
section
open Go.RowKit Go.Shelf
theorem rorder2_c (p:Nat) (w:World) (h1:(E p).size≤1000000) :
  Calls Tryz.prog 81 #[.string (E p),.string { data:=#[2] }] w fun e w'=>e=.returned (.int .i64 (cmpN p 2))∧Below w.heap.size w w':=
 rorder_c p 2 w h1 (by decide)
def B2Post (w:World) (L:List (Nat × Nat)) (e:Ending) (w':World):Prop:=∃v u,e=.returned (.tuple #[v,u,.int .i64 0])∧NOwn w' w.heap.size v (L.map (·.1))∧NOwn w' w.heap.size u (L.map (·.2))∧Below w.heap.size w w'
structure RRel (wF:World) (L:List (Nat × Nat)) (v10 v11:Value) (wr:World):Prop where
 a:NOwn wr wF.heap.size v10 (L.map (·.1))
 z:NOwn wr wF.heap.size v11 (L.map (·.2))
 d:∀g,v10.ownBlock=some g→v11.ownBlock≠some g
 b:Below wF.heap.size wF wr
theorem szk {n k:Nat} (h:n<256^k) (hk:k≤1000):(E n).size≤1000:=Nat.le_trans ((E_size_le n k).2 h) hk
theorem sz8 {n:Nat} (h:n<256^16):(E n).size≤1000:=szk h (by decide)
end
section
open Go.RowKit Go.Shelf
def ra (n:Nat) (p:Nat→Bool):Bool:=(List.range n).all p
theorem ra_true {n:Nat} {p:Nat→Bool} (h:∀j,j<n→p j=true):ra n p=true:=by
 unfold ra;rw [List.all_eq_true];intro x hx;exact h x (List.mem_range.1 hx)
theorem ra_false {n j:Nat} {p:Nat→Bool} (hj:j<n) (h:p j=false):ra n p=false:=by
 unfold ra;rw [List.all_eq_false];exact ⟨j,List.mem_range.2 hj,by simp [h]⟩
theorem ra_at {n j:Nat} {p:Nat→Bool} (h:ra n p=true) (hj:j<n):p j=true:=by
 unfold ra at h;rw [List.all_eq_true] at h;exact h j (List.mem_range.2 hj)
def NSta.eq (N:NSta) (j:Nat):NEqn:=N.eqs.getD j ⟨0,0,[]⟩
theorem eq_at (N:NSta) (j:Nat) (h:j<N.eqs.length):N.eq j=N.eqs[j]:=by
 unfold NSta.eq;rw [List.getD_eq_getElem?_getD,List.getElem?_eq_getElem h];rfl
def blJ (N:NSta) (C K:Nat) (Z:List Int) (j:Nat):Bool:=blw (N.vars.getD j 0) (Z.getD j 0) (lim N.ord C K (N.vars.getD j 0)).2
def hsJ (N:NSta) (F:List Nat) (j:Nat):Bool:=hasB (N.gp (N.eq j)).1 (N.gp (N.eq j)).2 (F.getD j 0)
def imJ (N:NSta) (F:List Nat) (c:Nat) (Z:List Int) (j:Nat):Bool:=decide (F.getD j 0*powI (N.eq j).tgt (c:Int) (N.gp (N.eq j)).1%(N.gp (N.eq j)).1=imgV N Z (N.eq j))
def NSta.ver (N:NSta) (C K:Nat) (F:List Nat) (c:Nat) (Z:List Int):Nat:=
 if F.length≠N.eqs.length∨Z.length≠N.vars.length then 6 else if C≤c then 2 else if ra N.vars.length (blJ N C K Z)=false then 2
 else if ra N.eqs.length (hsJ N F)=false then 13 else if ra N.eqs.length (imJ N F c Z)=false then 16 else 0
theorem ver_6 {N:NSta} {C K c:Nat} {F:List Nat} {Z:List Int} (h:F.length≠N.eqs.length∨Z.length≠N.vars.length):N.ver C K F c Z=6:=by unfold NSta.ver;rw [if_pos h]
theorem ver_2 {N:NSta} {C K c:Nat} {F:List Nat} {Z:List Int} (h1:F.length=N.eqs.length) (h2:Z.length=N.vars.length) (h:C≤c):N.ver C K F c Z=2:=by unfold NSta.ver;rw [if_neg (by simp [h1,h2]),if_pos h]
theorem ver_2b {N:NSta} {C K c:Nat} {F:List Nat} {Z:List Int} (h1:F.length=N.eqs.length) (h2:Z.length=N.vars.length) (h:c<C) (h3:ra N.vars.length (blJ N C K Z)=false):N.ver C K F c Z=2:=by unfold NSta.ver;rw [if_neg (by simp [h1,h2]),if_neg (by omega),if_pos h3]
theorem ver_13 {N:NSta} {C K c:Nat} {F:List Nat} {Z:List Int} (h1:F.length=N.eqs.length) (h2:Z.length=N.vars.length) (h:c<C) (h3:ra N.vars.length (blJ N C K Z)=true) (h4:ra N.eqs.length (hsJ N F)=false):N.ver C K F c Z=13:=by unfold NSta.ver;rw [if_neg (by simp [h1,h2]),if_neg (by omega),if_neg (by simp [h3]),if_pos h4]
theorem ver_16 {N:NSta} {C K c:Nat} {F:List Nat} {Z:List Int} (h1:F.length=N.eqs.length) (h2:Z.length=N.vars.length) (h:c<C) (h3:ra N.vars.length (blJ N C K Z)=true) (h4:ra N.eqs.length (hsJ N F)=true) (h5:ra N.eqs.length (imJ N F c Z)=false):N.ver C K F c Z=16:=by unfold NSta.ver;rw [if_neg (by simp [h1,h2]),if_neg (by omega),if_neg (by simp [h3]),if_neg (by simp [h4]),if_pos h5]
theorem ver_0 {N:NSta} {C K c:Nat} {F:List Nat} {Z:List Int} (h1:F.length=N.eqs.length) (h2:Z.length=N.vars.length) (h:c<C) (h3:ra N.vars.length (blJ N C K Z)=true) (h4:ra N.eqs.length (hsJ N F)=true) (h5:ra N.eqs.length (imJ N F c Z)=true):N.ver C K F c Z=0:=by unfold NSta.ver;rw [if_neg (by simp [h1,h2]),if_neg (by omega),if_neg (by simp [h3]),if_neg (by simp [h4]),if_neg (by simp [h5])]
theorem blJ_at (N:NSta) (C K:Nat) (Z:List Int) (j:Nat) (h:j<N.vars.length) (h2:j<Z.length):blJ N C K Z j=blw N.vars[j] Z[j] (lim N.ord C K N.vars[j]).2:=by
 unfold blJ;simp only [List.getD_eq_getElem?_getD,List.getElem?_eq_getElem h,List.getElem?_eq_getElem h2,Option.getD_some]
theorem hsJ_at (N:NSta) (F:List Nat) (j:Nat) (h:j<N.eqs.length) (h2:j<F.length) (hg:N.eqs[j].grp<N.grps.length):hsJ N F j=hasB N.grps[N.eqs[j].grp].1 N.grps[N.eqs[j].grp].2 F[j]:=by
 unfold hsJ;rw [eq_at N j h,gp_at N _ hg];simp only [List.getD_eq_getElem?_getD,List.getElem?_eq_getElem h2,Option.getD_some]
theorem imJ_at (N:NSta) (F:List Nat) (c:Nat) (Z:List Int) (j:Nat) (h:j<N.eqs.length) (h2:j<F.length) (hg:N.eqs[j].grp<N.grps.length):imJ N F c Z j=decide (F[j]*powI N.eqs[j].tgt (c:Int) N.grps[N.eqs[j].grp].1%N.grps[N.eqs[j].grp].1=imgV N Z N.eqs[j]):=by
 unfold imJ;rw [eq_at N j h,gp_at N _ hg];simp only [List.getD_eq_getElem?_getD,List.getElem?_eq_getElem h2,Option.getD_some]
theorem lim_lt {N:NSta} (hm:NOk N) {C K:Nat} (hC:C<256^16) (hK:K<256^16) {b:Nat} (hb:b∈N.vars):(lim N.ord C K b).2<256^58:=by
 unfold lim;split
 ·exact Nat.lt_of_lt_of_le (ord_lt hm) (by decide)
 ·exact Nat.lt_of_le_of_lt (Nat.sub_le _ _) (lt_mul3 hC hK (hm.v b hb)).2
theorem lims_at (N:NSta) (C K:Nat) (j:Nat) (h:j<N.vars.length) (h2:j<(N.lims C K).length):(N.lims C K)[j]=lim N.ord C K N.vars[j]:=by simp [NSta.lims]
theorem powI_nat (x c p:Nat):powI x (c:Int) p=x^c%p:=by
 unfold powI;rw [if_neg (by omega),Int.natAbs_natCast]
theorem has_powN {p q x:Nat} (c:Nat) (hp:2≤p) (h:hasB p q x=true):hasB p q (powI x (c:Int) p)=true:=by
 rw [powI_nat];have hx:=has_coprime hp h
 have h1:Nat.gcd (x^c%p) p=1:=by
  have h2:Nat.gcd (x^c) p=1:=Nat.Coprime.pow_left c hx;rw [Nat.gcd_comm,Nat.gcd_rec] at h2;exact h2
 have hlt:x^c%p<p:=Nat.mod_lt _ (by omega)
 have h0:x^c%p≠0:=by
  intro e;rw [e,Nat.gcd_zero_left] at h1;omega
 unfold hasB at h ⊢;by_cases hq:q=0
 ·rw [if_pos hq];exact decide_eq_true ⟨h0,hlt,h1⟩
 ·rw [if_neg hq] at h ⊢;have h3:=(of_decide_eq_true h).2.2;refine decide_eq_true ⟨h0,hlt,?_⟩;rw [←Nat.pow_mod,←Nat.pow_mul,Nat.mul_comm,Nat.pow_mul,Nat.pow_mod,h3,←Nat.pow_mod,Nat.one_pow]
def prB (F:List ByteArray) (ch:ByteArray) (R:List (Bool × ByteArray)):Bool:=F.all vldB&&vldB ch&&R.all fun x=>ivB x.1 x.2
end
section
open Go.RowKit Go.Shelf
end
section
open Go.RowKit Go.Shelf
end
section
/- Differences of two proofs,in bytes: both sides return the same error,or there are numbers. -/
open Go.RowKit Go.Shelf
theorem numk {s:ByteArray} {k:Nat} (h:s.size≤k) (hv:vldB s=true):∃n,n<256^k∧s=E n:=by
 obtain ⟨n,_,rfl⟩:=of_vldB hv;exact ⟨n,lt_of_size h,rfl⟩
theorem few_ssm {S:Sta} (h:fewB S=true):SSm S:=by
 simp only [fewB,gszB,vszB,eszB,tszB,Bool.and_eq_true,decide_eq_true_eq,List.all_eq_true] at h;obtain ⟨⟨⟨⟨⟨l1,l2⟩,l3⟩,hg⟩,hv⟩,he⟩:=h;exact ⟨by omega,by omega,by omega,fun x hx=>by have:=hg x hx;omega,fun x hx=>by have:=hv x hx;omega,fun x hx=>⟨by have:=(he x hx).1.2;omega,by have:=(he x hx).1.1;omega,fun t ht=>by have:=(he x hx).2 t ht;omega⟩⟩
theorem nums_lift (F:List ByteArray) (n:Nat) (h1:∀x∈F,vldB x=true) (h2:∀x∈F,x.size≤n):∃G:List Nat,G.map E=F∧∀x∈G,x<256^n:=
 list_lift E (fun x=>x<256^n) F fun x hx=>by
  obtain ⟨m,hm,rfl⟩:=numk (h2 x hx) (h1 x hx);exact ⟨m,rfl,hm⟩
theorem ints_lift (R:List (Bool × ByteArray)) (n:Nat) (h1:∀x∈R,ivB x.1 x.2=true) (h2:∀x∈R,x.2.size≤n):∃Z:List Int,Z.map zI=R∧∀z∈Z,z.natAbs<256^n:=
 list_lift zI (fun z=>z.natAbs<256^n) R fun x hx=>by
  obtain ⟨z,_,e1,e2⟩:=of_ivB (h1 x hx);have h3:=h2 x hx;rw [e2] at h3;exact ⟨z,by rw [zI,←e1,←e2],lt_of_size h3⟩
theorem ver_inv {N:NSta} {C K c:Nat} {F:List Nat} {Z:List Int} (h:N.ver C K F c Z=0):F.length=N.eqs.length∧Z.length=N.vars.length∧c<C∧ra N.vars.length (blJ N C K Z)=true:=by
 unfold NSta.ver at h;split at h
 ·omega
 ·rename_i h1;split at h
  ·omega
  ·rename_i h2;split at h
   ·omega
   ·rename_i h3;refine ⟨by omega,by omega,by omega,by simpa using h3⟩
end
section
open Go.RowKit Go.Shelf
theorem own_keep2 {w w':World} {b:Nat} {e:TypeId} {s n:Nat} {v:Value} {x:List Value} {o:Option Nat} (h:w.ownsRow b e s v n x) (hg:w.grownBy w' o) (hd:∀g,v.ownBlock=some g→o≠some g):w'.ownsRow b e s v n x:=
 own_keep h fun g hv=>hg.block g (own_lt h hv).1 (fun e'=>hd g hv e'.symm)
end
section
open Go.RowKit Go.Shelf
def BB (w:World) (k:Nat) (L M:List Nat) (e:Ending) (w':World):Prop:=∃v u,e=.returned (.tuple #[v,u,.int .i64 k])∧NOwn w' w.heap.size v L∧NOwn w' w.heap.size u M∧Below w.heap.size w w'
theorem bb_err {w:World} {k:Nat} {e:Ending} {w':World} (h:e=.returned (.tuple #[.slice none 0 0,.slice none 0 0,.int .i64 k])∧Below w.heap.size w w'):BB w k [] [] e w':=⟨_,_,h.1,World.ownsRow_nil _ _ _ _,World.ownsRow_nil _ _ _ _,h.2⟩
theorem bb_num {w:World} {L:List (Nat × Nat)} {e:Ending} {w':World} (h:B2Post w L e w'):BB w 0 (L.map (·.1)) (L.map (·.2)) e w':=h
end
section
open Go.RowKit Go.Shelf
theorem ra_succ (n:Nat) (p:Nat→Bool):ra (n+1) p=(ra n p&&p n):=by
 unfold ra;rw [List.range_succ,List.all_append];simp
theorem negN (c:Nat) (w:World) (hc:c<256^128):Calls Tryz.prog 53 #[.agg #[.bool false,.string (E c)]] w fun e w'=>e=.returned (.agg #[.bool (sg (-(c:Int))),.string (E c)])∧Below w.heap.size w w':=by
 have h:=inegS_c (c:Int) w (by rw [Int.natAbs_natCast];exact hc);rwa [Int.natAbs_natCast,sg_nat] at h
theorem fromN (c:Nat) (w:World) (hc:c<256^128):Calls Tryz.prog 87 #[.string (E c)] w fun e w'=>e=.returned (.agg #[.bool false,.string (E c)])∧Below w.heap.size w w':=by
 have h:=ifrom_c c w hc;rwa [Int.natAbs_natCast,sg_nat] at h
def inJ (N:NSta) (Z:List Int) (j:Nat):Bool:=blw (N.vars.getD j 0) (Z.getD j 0) (if N.vars.getD j 0=0 then N.ord else N.vars.getD j 0)
theorem inJ_at (N:NSta) (Z:List Int) (j:Nat) (h:j<N.vars.length) (h2:j<Z.length):inJ N Z j=blw N.vars[j] Z[j] (if N.vars[j]=0 then N.ord else N.vars[j]):=by
 unfold inJ;simp only [List.getD_eq_getElem?_getD,List.getElem?_eq_getElem h,List.getElem?_eq_getElem h2,Option.getD_some]
def NSta.hldE (N:NSta) (Z:List Int):Nat:=if Z.length≠N.vars.length then 6 else 0
def NSta.hldB (N:NSta) (Z:List Int):Bool:=decide (Z.length=N.vars.length)&&(ra N.vars.length (inJ N Z)&&decide (N.imgs Z=N.eqs.map (·.tgt)))
def EPost (w:World) (k:Nat) (L:List Int) (e:Ending) (w':World):Prop:=∃v,e=.returned (.tuple #[v,.int .i64 k])∧ZOwn w' w.heap.size v L∧Below w.heap.size w w'
theorem epost_err {w w':World} {k:Nat} {L:List Int} (hL:L=[]) (h:Below w.heap.size w w'):EPost w k L (.returned (.tuple #[.slice none 0 0,.int .i64 k])) w':=⟨_,rfl,by rw [hL];exact World.ownsRow_nil _ _ _ _,h⟩
def ZBx (w:World) (a b:Value) (s:Value) (wx:World):Prop:=∃g,s=.pointer (some ⟨g,0,none⟩)∧Blk wx g 37 [a,b]∧w.heap.size≤g∧Below w.heap.size w wx
end
end Go.Proofs.YtdoacbdkbbpamaaGreatDoor
