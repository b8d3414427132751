import Derived.Test.YtcfjcenmcpankaaGreatDoorOwn
import Derived.Test.YtcfjcenmcpankaaGreatDoorPwr
import Derived.Test.YtcfjcenmcpankaaGreatDoorLck6
import Derived.Deep.RegionHeld3
set_option linter.unusedVariables false
set_option linter.unusedSimpArgs false
set_option maxRecDepth 100000
set_option maxHeartbeats 16000000
namespace Go.Proofs.YtcfjcenmcpankaaGreatDoor
section
open Go.RowKit
theorem imul_c (x y:Int) (w:World) (hx:x.natAbs<256^128) (hy:y.natAbs<256^128) (hxy:x.natAbs*y.natAbs<256^128) :
  Calls Tryz.prog 103 #[.agg #[.bool (sg (x)),.string (E (x).natAbs)],.agg #[.bool (sg (y)),.string (E (y).natAbs)]] w fun e w'=>e=.returned (.tuple #[.agg #[.bool (sg (x*y)),.string (E (x*y).natAbs)],.int .i64 0])∧Below w.heap.size w w':=by
 have HX:=Lib.hid hx;have HY:=Lib.hid hy;have HXY:=Lib.hid hxy;have hs:=(E_size_le _ 128).2 hxy;clear hx hy hxy;have HM:=Lib.hid (mul_made x y);have hA:=blk3a w #[Value.bool (sg x),Value.string (E x.natAbs)] #[Value.bool (sg y),Value.string (E y.natAbs)] #[Value.bool false,Value.string { data:=#[] }] 72 72 72;have hB:=blk3b w #[Value.bool (sg x),Value.string (E x.natAbs)] #[Value.bool (sg y),Value.string (E y.natAbs)] #[Value.bool false,Value.string { data:=#[] }] 72 72 72;have hC:=blk3c w #[Value.bool (sg x),Value.string (E x.natAbs)] #[Value.bool (sg y),Value.string (E y.natAbs)] #[Value.bool false,Value.string { data:=#[] }] 72 72 72;go_enter Tryz.func103,Tryz.ntmps103
 go_wp2_with fail
 refine (iboth_c x y _ HX.out HY.out).mono ?_;rintro e w1 ⟨rfl,hb1⟩;replace hA:=hA.after hb1;replace hB:=hB.after hb1;replace hC:=hC.after hb1;obtain ⟨hAc0,hAf0,hAc1,hAf1⟩:=hA.x2;obtain ⟨hBc0,hBf0,hBc1,hBf1⟩:=hB.x2;go_wp2_with fail
 refine (mul_c x.natAbs y.natAbs _ HX.out HY.out HXY.out).mono ?_;rintro e w2 ⟨rfl,hb2⟩;clear hAc0 hAf0 hAc1 hAf1;clear hBc0 hBf0 hBc1 hBf1;replace hA:=hA.after hb2;replace hB:=hB.after hb2;replace hC:=hC.after hb2;obtain ⟨hAc0,hAf0,hAc1,hAf1⟩:=hA.x2;obtain ⟨hBc0,hBf0,hBc1,hBf1⟩:=hB.x2;go_wp2_with fail
 refine (made_c (sg x != sg y) (x.natAbs*y.natAbs) (x*y) _ (by omega) HM.out).mono ?_;rintro e w3 ⟨rfl,hb3⟩;clear hAc0 hAf0 hAc1 hAf1;clear hBc0 hBf0 hBc1 hBf1;replace hC:=hC.after hb3;obtain ⟨hCc0,hCf0,hCc1,hCf1⟩:=hC.x2;go_wp2;refine bodyPost_ret (v:=.tuple #[.agg #[.bool (sg (x*y)),.string (E (x*y).natAbs)],.int .i64 0]) ?_ rfl ⟨rfl,?_⟩
 ·simp [results,Tryz.results103,go_sem,hCc0,hCc1]
 ·exact ((bt (bt (bt (b3 _ _ _ _) hb1) hb2) hb3).setCell (by simp;omega) _).setCell (by simp;omega) _
theorem checked_nil (p q:Nat) (w:World) (hp:p<256^8) (hq:q<256^128) (hg:grpE p q=0) :
  Calls Tryz.prog 84 #[.agg #[.string (E p),.string (E q)],.slice none 0 0,.slice none 0 0,.bool true] w fun e w'=>e=.returned (.int .i64 0)∧Below w.heap.size w w':=by
 have HC:=Lib.hid (fun w=>pcheckV_c p q 0 w hp hq hg);have hB:=Blk.new w #[Value.string (E p),Value.string (E q)] 90;have hBW:=b1 w (.cells #[Value.string (E p),Value.string (E q)] 90);clear hp hq hg;go_enter Tryz.func84,Tryz.ntmps84
 go_wp2;go_loop [18] (fun i=>i=.int .i64 0) (fun i=>0)
 case atStart=>rfl
 case round =>
  subst hrel;go_wp2;go_loop [28] (fun i=>i=.int .i64 0) (fun i=>0)
  case atStart=>rfl
  case round =>
   subst hrel;obtain ⟨hBc0,hBf0,hBc1,hBf1⟩:=hB.x2;go_wp2_with fail
   refine (HC.out _).mono ?_;rintro e w3 ⟨rfl,hb3⟩;go_wp2;go_loop [45] (fun i=>i=.int .i64 0) (fun i=>0)
   case atStart=>rfl
   case round =>
    subst hrel;go_wp2;go_ret
    exact ⟨rfl,bt hBW hb3⟩
theorem product_nil (p q:Nat) (w:World) (hp:p<256^8) (hq:q<256^128) (hg:grpE p q=0) :
  Calls Tryz.prog 37 #[.agg #[.string (E p),.string (E q)],.slice none 0 0,.slice none 0 0] w fun e w'=>e=.returned (.tuple #[.string (E 1),.int .i64 0])∧Below w.heap.size w w':=by
 have HCK:=Lib.hid (fun w=>checked_nil p q w hp hq hg)
 have hmk:∀w:World,(Instr.makeSlice 32 (.int .i64 0) (.int .i64 0)).run Tryz.prog w=.ok (.slice (some ⟨w.heap.size,0,none⟩) 0 0) (w.alloc (.cells #[] 22)):=fun w=>by
  have h:=run_mks (P:=Tryz.prog) Tryz.underlying32 info_nat 0 (by omega) (by omega) w;simpa using h
 have hG:=Blk.new w #[Value.string (E p),Value.string (E q)] 90;have hBW:=b1 w (.cells #[Value.string (E p),Value.string (E q)] 90);have HO:=Lib.hid (fun w=>ofK_c 1 1 w rfl (by decide));clear hp hq hg;obtain ⟨hGc0,hGf0,hGc1,hGf1⟩:=hG.x2;go_enter Tryz.func37,Tryz.ntmps37
 go_wp2_with fail
 refine (HCK.out _).mono ?_;rintro e w1 ⟨rfl,hb1⟩;clear hGc0 hGf0 hGc1 hGf1;replace hBW:=bt hBW hb1;go_wp2;go_loopw [10,37] (fun v i wr=>v=.int .i64 0∧i=.int .i64 0∧Below w1.heap.size w1 wr) (fun _ _ _=>0)
 case atStart=>exact ⟨rfl,rfl,b1 _ _⟩
 case round =>
  obtain ⟨rfl,rfl,hbr⟩:=hrel;obtain ⟨wp,hwp⟩:∃wp,wp=wr:=⟨_,rfl⟩;subst hwp;replace hBW:=bt hBW hbr;go_wp2_with fail
  refine (HO.out _).mono ?_;rintro e w3 ⟨rfl,hb3⟩;replace hBW:=ba (bt hBW hb3) (.cells #[.string (E 1)] 22);have hO:=Blk.new w3 #[.string (E 1)] 22;go_wp2;generalize hw4:w3.alloc (.cells #[.string (E 1)] 22)=w4 at hO hBW;go_loopw [17] (fun i wr=>i=.int .i64 (-1)∧Below w4.heap.size w4 wr) (fun _ _=>0)
  case atStart=>exact ⟨rfl,Below.refl _ _⟩
  case round =>
   obtain ⟨rfl,hbs⟩:=hrel;replace hO:=hO.after hbs;obtain ⟨hOc0,hOf0⟩:=hO.x1;go_wp2;go_ret2
   exact ⟨rfl,bt hBW hbs⟩
def NOwn (w:World) (base:Nat) (v:Value) (L:List Nat):Prop:=w.ownsRow base 22 1 v L.length (strs L)
def ZOwn (w:World) (base:Nat) (v:Value) (Z:List Int):Prop:=w.ownsRow base 72 2 v Z.length (ics (Z.map zI))
theorem NOwn.ss {w:World} {base:Nat} {v:Value} {L:List Nat} (h:NOwn w base v L):SsAt w v (L.map E):=by
 have h0:w.ownsRow base 22 1 v L.length (strs L):=h;rcases h0.2 with ⟨rfl,h2⟩ | ⟨g,cap,cur,rfl,h3,h4,_⟩
 ·exact ⟨none,0,by simp [h2],.inl (by simp [h2])⟩
 ·refine ⟨_,_,by simp;rfl,.inr ⟨g,0,rfl,(Array.getElem?_eq_some_iff.1 h4).1,fun j hj=>⟨_,rfl,fun i hi=>?_⟩⟩⟩;obtain rfl:i=0:=by omega
  have hj':j<L.length:=by simpa using hj
  rw [show (0+j*1+0:Nat)=j by omega];rw [own_cellS h0 j _ (by rw [strs,List.getElem?_map,List.getElem?_eq_getElem hj'];rfl)];simp
theorem ZOwn.zs {w:World} {base:Nat} {v:Value} {Z:List Int} (h:ZOwn w base v Z):ZsAt w v Z:=by
 have h0:w.ownsRow base 72 2 v Z.length (ics (Z.map zI)):=h;rcases h0.2 with ⟨rfl,h2⟩ | ⟨g,cap,cur,rfl,h3,h4,_⟩
 ·exact ⟨none,0,by simp [h2],.inl (by simp [h2])⟩
 ·refine ⟨_,_,by simp;rfl,.inr ⟨g,0,rfl,(Array.getElem?_eq_some_iff.1 h4).1,fun j hj=>⟨_,rfl,fun i hi=>?_⟩⟩⟩;obtain ⟨q1,q2⟩:=ics_get (Z.map zI) j hj;obtain rfl | rfl:i=0∨i=1:=by omega
  ·rw [show (0+j*2+0:Nat)=j*2 by omega,own_cellS h0 _ _ q1];rfl
  ·rw [show (0+j*2+1:Nat)=j*2+1 by omega,own_cellS h0 _ _ q2];rfl
theorem NOwn.form {w:World} {base:Nat} {v:Value} {L:List Nat} (h:NOwn w base v L) (h0:0<L.length):∃g c,v=.slice (some ⟨g,0,none⟩) L.length c∧base≤g∧L.length≤c∧NatsAt w g L:=by
 have k:w.ownsRow base 22 1 v L.length (strs L):=h;rcases k.2 with ⟨rfl,h2⟩ | ⟨g,cap,cur,rfl,h3,h4,h5,_⟩
 ·omega
 ·exact ⟨g,cap,rfl,h3,h5,(Array.getElem?_eq_some_iff.1 h4).1,fun j hj=>own_cellS k j _ (by rw [strs,List.getElem?_map,List.getElem?_eq_getElem hj];rfl)⟩
theorem ZOwn.form {w:World} {base:Nat} {v:Value} {Z:List Int} (h:ZOwn w base v Z) (h0:0<Z.length):∃g c,v=.slice (some ⟨g,0,none⟩) Z.length c∧base≤g∧Z.length≤c∧IntsAt w g Z:=by
 have k:w.ownsRow base 72 2 v Z.length (ics (Z.map zI)):=h;rcases k.2 with ⟨rfl,h2⟩ | ⟨g,cap,cur,rfl,h3,h4,h5,_⟩
 ·omega
 ·refine ⟨g,cap,rfl,h3,h5,(Array.getElem?_eq_some_iff.1 h4).1,fun j hj=>?_⟩;obtain ⟨q1,q2⟩:=ics_get (Z.map zI) j (by simpa using hj);refine ⟨?_,?_⟩
  ·rw [own_cellS k _ _ q1];simp [zI]
  ·rw [own_cellS k _ _ q2];simp [zI]
theorem product_own (p q:Nat) (b1' b2':Nat) (L:List Nat) (Z:List Int) (v1 v2:Value) (w:World) (hp:p<256^8) (hq:q<256^128) (hg:grpE p q=0)
  (hn:L.length=Z.length) (hn1:L.length≤1000) (hx:∀x∈L,hasB p q x=true) (hzz:∀z∈Z,z.natAbs<256^128) (hL:NOwn w b1' v1 L) (hZ:ZOwn w b2' v2 Z)
  (h1:L=[]→v1=.slice none 0 0) (h2:Z=[]→v2=.slice none 0 0) :
  Calls Tryz.prog 37 #[.agg #[.string (E p),.string (E q)],v1,v2] w fun e w'=>e=.returned (.tuple #[.string (E (pw (prs p L Z) 0%p)),.int .i64 0])∧Below w.heap.size w w':=by
 rcases Nat.eq_zero_or_pos L.length with h0 | h0
 ·have e1:=List.length_eq_zero_iff.1 h0;have e2:=List.length_eq_zero_iff.1 (hn ▸ h0:Z.length=0);rw [h1 e1,h2 e2,e1,e2];have:=product_nil p q w hp hq hg;rw [show pw (prs p [] []) 0%p=1 by show 1%p=1;exact Nat.mod_eq_of_lt (by have:=grp_gt hg;omega)];exact this
 ·obtain ⟨g1,c1,rfl,_,k1,k2⟩:=hL.form h0;obtain ⟨g2,c2,rfl,_,k3,k4⟩:=hZ.form (by omega);rw [←hn] at k3 ⊢;exact product_g p q g1 g2 c1 c2 L.length L Z w hp hq hg rfl hn.symm hn1 k1 k3 hx hzz k2 k4
theorem prs_snoc (p:Nat) (L:List Nat) (Z:List Int) (k:Nat) (h1:k<L.length) (h2:k<Z.length):prs p (L.take (k+1)) (Z.take (k+1))=prs p (L.take k) (Z.take k)++[(bse p L[k] Z[k],Z[k].natAbs)]:=by
 rw [List.take_succ_eq_append_getElem h1,List.take_succ_eq_append_getElem h2];unfold prs;rw [List.zipWith_append (by simp;omega)];rfl
theorem pw_snoc (l:List (Nat × Nat)) (x e:Nat):pw (l++[(x,e)]) 0=pw l 0*x^e:=by
 induction l with
 | nil=>simp [pw]
 | cons y t ih=>simp only [List.cons_append,pw,ih,Nat.mul_assoc]
theorem powI_bse {p x:Nat} (z:Int) (hx:x<p):powI x z p=bse p x z^z.natAbs%p:=by
 unfold powI bse;rw [Nat.mod_eq_of_lt hx];split <;> rfl
theorem prodI_step (p:Nat) (L:List Nat) (Z:List Int) (k:Nat) (h1:k<L.length) (h2:k<Z.length) (hx:L[k]<p):pw (prs p (L.take k) (Z.take k)) 0%p*powI L[k] Z[k] p%p=pw (prs p (L.take (k+1)) (Z.take (k+1))) 0%p:=by
 rw [prs_snoc p L Z k h1 h2,pw_snoc,powI_bse _ hx,←Nat.mul_mod]
theorem rproduct_c (p q:Nat) (L:List Nat) (Z:List Int) (v1 v2:Value) (w:World) (hp:p<256^8) (hq:q<256^128) (hg:grpE p q=0)
  (hn:L.length=Z.length) (hn1:L.length≤1000) (hx:∀x∈L,hasB p q x=true) (hzz:∀z∈Z,z.natAbs<256^128) (hL:SsAt w v1 (L.map E)) (hZ:ZsAt w v2 Z) :
  Calls Tryz.prog 162 #[.agg #[.string (E p),.string (E q)],v1,v2] w fun e w'=>e=.returned (.tuple #[.string (E (pw (prs p L Z) 0%p)),.int .i64 0])∧Below w.heap.size w w':=by
 obtain ⟨a1,c1,e1⟩:=RAt.form hL;obtain ⟨a2,c2,e2⟩:=hZ.form;rw [List.length_map] at e1;rw [←hn] at e2;obtain ⟨n,hn'⟩:∃n,n=L.length:=⟨_,rfl⟩;have HNL:=Lib.hid hn';have HNZ:Hid (n=Z.length):=by rw [Hid,hn',hn]
 rw [←hn'] at e1 e2 hn1;subst e1 e2;have HP2:=Lib.hid (grp_gt hg);have HP:=Lib.hid hp;have HX:=Lib.hid hx;have HZZ:=Lib.hid hzz;have HG:=Lib.hid hg;have HQ:=Lib.hid hq;obtain ⟨r,hr⟩:∃r,r=pw (prs p L Z) 0%p:=⟨_,rfl⟩;have HRES:=Lib.hid hr;rw [←hr];have HC:=Lib.hid (fun w=>rpcheckV_c p q 0 w hp hq hg);have hB:=Blk.new w #[Value.string (E p),Value.string (E q)] 90;have hBW:=b1 w (.cells #[Value.string (E p),Value.string (E q)] 90);replace hL:=SsAt.after hL hBW;replace hZ:=hZ.after hBW;clear hp hq hg hx hzz hn hr hn';obtain ⟨hBc0,hBf0,hBc1,hBf1⟩:=hB.x2;go_enter Tryz.func162,Tryz.ntmps162
 go_wp2;clear hBc0 hBf0 hBc1 hBf1;generalize w.alloc (.cells #[Value.string (E p),Value.string (E q)] 90)=w1 at hB hBW hL hZ;replace hB:Blk w1 w.heap.size 90 [.string (E p),.string (E q)]:=hB;go_loopw [8] (fun i wr=>∃k:Nat,k≤n∧i=.int .i64 k∧Below w1.heap.size w1 wr) (fun i _=>n-(intOf i).toNat)
 case atStart=>exact ⟨0,by omega,rfl,Below.refl _ _⟩
 case round =>
  obtain ⟨k,hk,rfl,hbr⟩:=hrel;obtain ⟨wp,hwp⟩:∃wp,wp=wr:=⟨_,rfl⟩;subst hwp;replace hB:=hB.after hbr;replace hL:=SsAt.after hL hbr;replace hZ:=hZ.after hbr;replace hBW:=bt hBW hbr;by_cases hlt:k<n
  ·have hkl:k<L.length:=by rw [←HNL.out];exact hlt
   have hkl':k<(L.map E).length:=by simpa using hkl
   obtain ⟨b,o,rfl,hbl,x1⟩:=SsAt.at_ hL hkl';have HHX:=Lib.hid (HX.out _ (List.getElem_mem hkl));simp only [List.getElem_map] at x1;generalize (L[k]'hkl)=x at x1 HHX;have HN:=Lib.hid (lt128 (Nat.lt_trans (has_lt HHX.out) HP.out));have h0k:(0:Int)≤(k:Int):=by omega
   have h1k:(k:Int)<(n:Int):=by omega
   go_wp2_with fail
   refine (rvalidV_c (E x) true _ (by have:=szM HN.out;omega) (vldB_E x HN.out)).mono ?_;rintro e w' ⟨rfl,rfl⟩;go_wp2;go_roundw
   case rel=>exact ⟨k+1,by omega,by go_num,hbr⟩
   case measure=>simp [intOf];omega
  ·clear hbr;go_wp2;go_loopw [9] (fun i wr=>∃k:Nat,k≤n∧i=.int .i64 k∧Below wp.heap.size wp wr) (fun i _=>n-(intOf i).toNat)
   case atStart=>exact ⟨0,by omega,rfl,Below.refl _ _⟩
   case round =>
    obtain ⟨k,hk,rfl,hbr⟩:=hrel;obtain ⟨wq,hwq⟩:∃wq,wq=wr:=⟨_,rfl⟩;subst hwq;replace hB:=hB.after hbr;replace hL:=SsAt.after hL hbr;replace hZ:=hZ.after hbr;replace hBW:=bt hBW hbr;by_cases hlt:k<n
    ·have hkl:k<Z.length:=by rw [←HNZ.out];exact hlt
     obtain ⟨b,o,rfl,hbl,x1,x2⟩:=hZ.at_ hkl;have HZB:=Lib.hid (HZZ.out _ (List.getElem_mem hkl));generalize (Z[k]'hkl)=z at x1 x2 HZB;have h0k:(0:Int)≤(k:Int):=by omega
     have h1k:(k:Int)<(n:Int):=by omega
     go_wp2_with fail
     refine (rivalidI_c z _ HZB.out).mono ?_;rintro e w3 ⟨rfl,hb3⟩;go_wp2;go_roundw
     case rel=>exact ⟨k+1,by omega,by go_num,bt hbr hb3⟩
     case measure=>simp [intOf];omega
    ·clear hbr;have hBl:=hB.lt;obtain ⟨hBc0,hBf0,hBc1,hBf1⟩:=hB.x2;go_wp2_with fail
     refine (HC.out _).mono ?_;rintro e w3 ⟨rfl,hb3⟩;clear hBc0 hBf0 hBc1 hBf1;replace hB:=hB.after hb3;replace hL:=SsAt.after hL hb3;replace hZ:=hZ.after hb3;replace hBW:=bt hBW hb3;clear hb3 hBl;go_wp2;go_loopw [11] (fun i wr=>∃k:Nat,k≤n∧i=.int .i64 k∧Below w3.heap.size w3 wr) (fun i _=>n-(intOf i).toNat)
     case atStart=>exact ⟨0,by omega,rfl,Below.refl _ _⟩
     case round =>
      obtain ⟨k,hk,rfl,hbr⟩:=hrel;obtain ⟨wt,hwt⟩:∃wt,wt=wr:=⟨_,rfl⟩;subst hwt;replace hB:=hB.after hbr;replace hL:=SsAt.after hL hbr;replace hZ:=hZ.after hbr;replace hBW:=bt hBW hbr;have hBl:=hB.lt;by_cases hlt:k<n
      ·have hkl:k<L.length:=by rw [←HNL.out];exact hlt
       have hkl':k<(L.map E).length:=by simpa using hkl
       obtain ⟨b,o,rfl,hbl,x1⟩:=SsAt.at_ hL hkl';have HHX:=Lib.hid (HX.out _ (List.getElem_mem hkl));simp only [List.getElem_map] at x1;generalize (L[k]'hkl)=x at x1 HHX;have HN:=Lib.hid (lt128 (Nat.lt_trans (has_lt HHX.out) HP.out));have h0k:(0:Int)≤(k:Int):=by omega
       have h1k:(k:Int)<(n:Int):=by omega
       have g1:=gcl (a:=⟨b,o+k,none⟩) hbl x1;obtain ⟨hBc0,hBf0,hBc1,hBf1⟩:=hB.x2;have hBg0:=hB.gcell 0;have hBg1:=hB.gcell 1;go_wp2_with fail
       refine wp_region_gw (by kernel_rfl) (by kernel_rfl) ?_;repeat (go_big_quiet_step (first | (go_at_call 115;exact gw_of (rhasV_c p q x true _ HP.out HQ.out HG.out HN.out HHX.out))))
       refine wpQuiet_nil ?_;rintro w5 ⟨xw5,rfl⟩;have hb5:=gw_below xw5;generalize gw xw5=w5 at hb5;go_wp2;go_roundw
       case rel=>exact ⟨k+1,by omega,by go_num,bt hbr hb5⟩
       case measure=>simp [intOf];omega
      ·clear hbr;go_wp2;go_loopw [12,13] (fun v i wr=>∃k:Nat,∃y:Nat,k≤n∧i=.int .i64 k∧v=.string (E y)∧Hid (y=pw (prs p (L.take k) (Z.take k)) 0%p)∧Below wt.heap.size wt wr) (fun _ i _=>n-(intOf i).toNat)
       case atStart=>exact ⟨0,1,by omega,rfl,rfl,(Nat.mod_eq_of_lt (by have:=HP2.out;omega)).symm,Below.refl _ _⟩
       case round =>
        obtain ⟨k,y,hk,rfl,rfl,HY,hbr⟩:=hrel;obtain ⟨wu,hwu⟩:∃wu,wu=wr:=⟨_,rfl⟩;subst hwu;replace hB:=hB.after hbr;replace hL:=SsAt.after hL hbr;replace hZ:=hZ.after hbr;replace hBW:=bt hBW hbr;clear hBl;have hBl:=hB.lt;by_cases hlt:k<n
        ·have hkl:k<L.length:=by rw [←HNL.out];exact hlt
         have hkl':k<(L.map E).length:=by simpa using hkl
         have hkz:k<Z.length:=by rw [←HNZ.out];exact hlt
         obtain ⟨b,o,rfl,hbl,x1⟩:=SsAt.at_ hL hkl';obtain ⟨b',o',rfl,hbl',y1,y2⟩:=hZ.at_ hkz;have HHX:=Lib.hid (HX.out _ (List.getElem_mem hkl));have HZB:=Lib.hid (HZZ.out _ (List.getElem_mem hkz));have HST:=Lib.hid (prodI_step p L Z k hkl hkz (has_lt HHX.out));simp only [List.getElem_map] at x1;generalize (L[k]'hkl)=x at x1 HHX HST;generalize (Z[k]'hkz)=z at y1 y2 HZB HST;have HPW:=Lib.hid (fun w=>rraw_c p q x z w HP.out HG.out HHX.out HZB.out);have HY8:Hid (y<256^8):=by rw [Hid,HY.out];exact Nat.lt_trans (Nat.mod_lt _ (by have:=HP2.out;omega)) HP.out
         have HV8:Hid (powI x z p<256^8):=by rw [Hid,powI_bse z (has_lt HHX.out)];exact Nat.lt_trans (Nat.mod_lt _ (by have:=HP2.out;omega)) HP.out
         have HX2:Hid (y*powI x z p%p=pw (prs p (L.take (k+1)) (Z.take (k+1))) 0%p):=by rw [Hid,HY.out];exact HST.out
         generalize powI x z p=v at HPW HV8 HX2;have HMM:=Lib.hid (fun w=>rmul3_c y v p w (lt128 HY8.out) (lt128 HV8.out) (Nat.lt_of_lt_of_le HP.out (Nat.pow_le_pow_right (show 0<256 by decide) (show 8≤64 by decide))) (by have:=HP2.out;omega));have h0k:(0:Int)≤(k:Int):=by omega
         have h1k:(k:Int)<(n:Int):=by omega
         have g1:=gcl (a:=⟨b,o+k,none⟩) hbl x1;have g2:=gcl (a:=⟨b',o'+k*2,none⟩) hbl' y1;have g3:=gcl (a:=⟨b',o'+k*2+1,none⟩) hbl' y2;clear HST;obtain ⟨hBc0,hBf0,hBc1,hBf1⟩:=hB.x2;have hBg0:=hB.gcell 0;have hBg1:=hB.gcell 1;go_wp2_with fail
         refine wp_region_gw (by kernel_rfl) (by kernel_rfl) ?_;repeat (go_big_quiet_step (first | (go_at_call 118;exact gw_of (HPW.out _)) | (go_at_call 119;exact gw_of (HMM.out _))))
         refine wpQuiet_nil ?_;rintro w5 ⟨xw5,rfl⟩;have hb5:=gw_below xw5;generalize gw xw5=w5 at hb5;go_wp2;go_roundw
         case rel=>exact ⟨k+1,y*v%p,by omega,by go_num,rfl,HX2,bt hbr hb5⟩
         case measure=>simp [intOf];omega
        ·have HF:Hid (y=r):=by rw [Hid,HY.out,HRES.out,List.take_of_length_le (by rw [←HNL.out];omega),List.take_of_length_le (by rw [←HNZ.out];omega)]
         go_wp2;go_ret2
         exact ⟨by rw [HF.out];rfl,bt hBW (Below.refl _ _)⟩
end
section
open Go.RowKit Go.Shelf
def CA (w:World) (l:List (Addr × Value)):Prop:=∀x∈l,x.1.block<w.heap.size∧w.cell? x.1=some x.2
theorem CA.nil (w:World):CA w []:=fun x h=>by cases h
theorem CA.cons {w:World} {a:Addr} {v:Value} {l:List (Addr × Value)} (h1:a.block<w.heap.size) (h2:w.cell? a=some v) (h:CA w l):CA w ((a,v) :: l):=by
 intro x hx;rcases List.mem_cons.1 hx with rfl | hx
 ·exact ⟨h1,h2⟩
 ·exact h x hx
theorem CA.drew {w:World} {l:List (Addr × Value)} (h:CA w l):CA w.drew l:=h
theorem CA.after {w w':World} {l:List (Addr × Value)} (h:CA w l) (hb:Below w.heap.size w w'):CA w' l:=fun x hx=>⟨Nat.lt_of_lt_of_le (h x hx).1 hb.size,(hb.cell (h x hx).1).trans (h x hx).2⟩
theorem CA.alloc {w:World} {l:List (Addr × Value)} (h:CA w l) (o:Obj):CA (w.alloc o) l:=h.after (b1 _ _)
theorem CA.grown {w w':World} {row:Option Nat} {l:List (Addr × Value)} (h:CA w l) (hg:w.grownBy w' row) (hr:∀x∈l,row≠some x.1.block):CA w' l:=
 fun x hx=>⟨Nat.lt_of_lt_of_le (h x hx).1 hg.size,hg.cell (h x hx).2 (fun e=>hr x hx e.symm)⟩
theorem CA.set {w:World} {l:List (Addr × Value)} (h:CA w l) (g i:Nat) (v:Value) (hne:∀x∈l,x.1.block≠g):CA (w.setCell ⟨g,i,none⟩ v) l:=
 fun x hx=>⟨by rw [World.size_setCell];exact (h x hx).1,by rw [World.cell?_setCell_other _ _ _ _ (fun e=>hne x hx (congrArg Addr.block e).symm)];exact (h x hx).2⟩
theorem CA.k1 {w:World} {a0:Addr} {v0:Value} (h:CA w [(a0,v0)]):w.cell? a0=some v0:=(h (a0,v0) (by simp)).2
theorem CA.k2 {w:World} {a0 a1:Addr} {v0 v1:Value} (h:CA w [(a0,v0),(a1,v1)]):w.cell? a0=some v0∧w.cell? a1=some v1:=⟨(h (a0,v0) (by simp)).2,(h (a1,v1) (by simp)).2⟩
theorem CA.k3 {w:World} {a0 a1 a2:Addr} {v0 v1 v2:Value} (h:CA w [(a0,v0),(a1,v1),(a2,v2)]):w.cell? a0=some v0∧w.cell? a1=some v1∧w.cell? a2=some v2:=⟨(h (a0,v0) (by simp)).2,(h (a1,v1) (by simp)).2,(h (a2,v2) (by simp)).2⟩
theorem CA.k4 {w:World} {a0 a1 a2 a3:Addr} {v0 v1 v2 v3:Value} (h:CA w [(a0,v0),(a1,v1),(a2,v2),(a3,v3)]):w.cell? a0=some v0∧w.cell? a1=some v1∧w.cell? a2=some v2∧w.cell? a3=some v3:=⟨(h (a0,v0) (by simp)).2,(h (a1,v1) (by simp)).2,(h (a2,v2) (by simp)).2,(h (a3,v3) (by simp)).2⟩
theorem CA.k5 {w:World} {a0 a1 a2 a3 a4:Addr} {v0 v1 v2 v3 v4:Value} (h:CA w [(a0,v0),(a1,v1),(a2,v2),(a3,v3),(a4,v4)]):w.cell? a0=some v0∧w.cell? a1=some v1∧w.cell? a2=some v2∧w.cell? a3=some v3∧w.cell? a4=some v4:=⟨(h (a0,v0) (by simp)).2,(h (a1,v1) (by simp)).2,(h (a2,v2) (by simp)).2,(h (a3,v3) (by simp)).2,(h (a4,v4) (by simp)).2⟩
theorem CA.k6 {w:World} {a0 a1 a2 a3 a4 a5:Addr} {v0 v1 v2 v3 v4 v5:Value} (h:CA w [(a0,v0),(a1,v1),(a2,v2),(a3,v3),(a4,v4),(a5,v5)]):w.cell? a0=some v0∧w.cell? a1=some v1∧w.cell? a2=some v2∧w.cell? a3=some v3∧w.cell? a4=some v4∧w.cell? a5=some v5:=⟨(h (a0,v0) (by simp)).2,(h (a1,v1) (by simp)).2,(h (a2,v2) (by simp)).2,(h (a3,v3) (by simp)).2,(h (a4,v4) (by simp)).2,(h (a5,v5) (by simp)).2⟩
theorem CA.k7 {w:World} {a0 a1 a2 a3 a4 a5 a6:Addr} {v0 v1 v2 v3 v4 v5 v6:Value} (h:CA w [(a0,v0),(a1,v1),(a2,v2),(a3,v3),(a4,v4),(a5,v5),(a6,v6)]):w.cell? a0=some v0∧w.cell? a1=some v1∧w.cell? a2=some v2∧w.cell? a3=some v3∧w.cell? a4=some v4∧w.cell? a5=some v5∧w.cell? a6=some v6:=⟨(h (a0,v0) (by simp)).2,(h (a1,v1) (by simp)).2,(h (a2,v2) (by simp)).2,(h (a3,v3) (by simp)).2,(h (a4,v4) (by simp)).2,(h (a5,v5) (by simp)).2,(h (a6,v6) (by simp)).2⟩
theorem CA.k8 {w:World} {a0 a1 a2 a3 a4 a5 a6 a7:Addr} {v0 v1 v2 v3 v4 v5 v6 v7:Value} (h:CA w [(a0,v0),(a1,v1),(a2,v2),(a3,v3),(a4,v4),(a5,v5),(a6,v6),(a7,v7)]):w.cell? a0=some v0∧w.cell? a1=some v1∧w.cell? a2=some v2∧w.cell? a3=some v3∧w.cell? a4=some v4∧w.cell? a5=some v5∧w.cell? a6=some v6∧w.cell? a7=some v7:=⟨(h (a0,v0) (by simp)).2,(h (a1,v1) (by simp)).2,(h (a2,v2) (by simp)).2,(h (a3,v3) (by simp)).2,(h (a4,v4) (by simp)).2,(h (a5,v5) (by simp)).2,(h (a6,v6) (by simp)).2,(h (a7,v7) (by simp)).2⟩
theorem blkN {w:World} {cs:Array Value} {T:TypeId} {g:Nat} (h:g=w.heap.size):Blk (w.alloc (.cells cs T)) g T cs.toList:=by subst h;exact Blk.new _ _ _
def ZBox (w:World) (z:Int) (s10 s11:Value) (wx:World):Prop:=∃g,s10=.pointer (some ⟨g,0,none⟩)∧s11=.int .i64 0∧Blk wx g 72 [.bool (sg z),.string (E z.natAbs)]∧w.heap.size≤g∧Below w.heap.size w wx
def imgB (q:NEqn):List Nat:=q.trms.map (·.base)
def imgX (Z:List Int) (q:NEqn):List Int:=q.trms.map fun t=>t.coef*Z.getD t.var 0
def imgV (N:NSta) (Z:List Int) (q:NEqn):Nat:=pw (prs (N.gp q).1 (imgB q) (imgX Z q)) 0%(N.gp q).1
def NSta.imgs (N:NSta) (Z:List Int):List Nat:=N.eqs.map (imgV N Z)
theorem info_Int:(Tryz.prog.info? 72).map (fun i=>(i.zero,i.size,i.bytes))=some (some (.agg #[.bool false,.string { data:=#[] }]),2,24):=by kernel_rfl
theorem imgB_step (q:NEqn) (k:Nat) (h:k<q.trms.length):(imgB q).take (k+1)=(imgB q).take k++[(q.trms[k]).base]:=by
 unfold imgB;rw [←List.map_take,List.take_succ_eq_append_getElem h,List.map_append,List.map_take];rfl
theorem imgX_step (Z:List Int) (q:NEqn) (k:Nat) (h:k<q.trms.length):(imgX Z q).take (k+1)=(imgX Z q).take k++[(q.trms[k]).coef*Z.getD (q.trms[k]).var 0]:=by
 unfold imgX;rw [←List.map_take,List.take_succ_eq_append_getElem h,List.map_append,List.map_take];rfl
theorem ics_app (a b:List Int):ics (a.map zI)++ics (b.map zI)=ics ((a++b).map zI):=by simp [ics]
structure IRel (w1:World) (k:Nat) (L:List Nat) (Z:List Int) (v6 v7:Value) (wr:World):Prop where
 a:NOwn wr w1.heap.size v6 L
 z:ZOwn wr w1.heap.size v7 Z
 la:L.length=k
 lz:Z.length=k
 na:k=0→v6=.slice none 0 0
 nz:k=0→v7=.slice none 0 0
 b:Below w1.heap.size w1 wr
theorem IRel.after {w1:World} {k:Nat} {L:List Nat} {Z:List Int} {v6 v7:Value} {wr wx:World} (h:IRel w1 k L Z v6 v7 wr) (hb:Below wr.heap.size wr wx):IRel w1 k L Z v6 v7 wx:=
 ⟨own_after h.a hb,own_after h.z hb,h.la,h.lz,h.na,h.nz,bt h.b hb⟩
theorem imc_c (Q:NEqn) (Z:List Int) (w:World) (qg:Int) (qt:ByteArray) (tv v4:Value) (bw:Nat) (nv:Nat) (hnv:Z.length=nv) (hn6:nv≤12) (hl8:Q.trms.length≤12)
  (ht:∀t∈Q.trms,t.base<256^16∧t.var<nv∧t.coef.natAbs<256^16) (hz:∀z∈Z,z.natAbs<256^64) (hT:TNAt w tv Q.trms) (hW:Blk w bw 39 [v4]) (hZ:ZsAt w v4 Z) :
  Calls Tryz.prog 158 #[.agg #[.int .i64 qg,.string qt,tv],.pointer (some ⟨bw,0,none⟩)] w fun e w'=>∃v1 v2,e=.returned (.tuple #[v1,v2,.int .i64 0])∧NOwn w' w.heap.size v1 (imgB Q)∧ZOwn w' w.heap.size v2 (imgX Z Q)∧(Q.trms.length=0→v1=.slice none 0 0∧v2=.slice none 0 0)∧Below w.heap.size w w':=by
 obtain ⟨i0,hi0,hz00,hz01,hz02⟩:=info_parts info_nat;obtain ⟨i1,hi1,hz10,hz11,hz12⟩:=info_parts info_Int;have HI0:=Lib.hid hi0;have HA0:=Lib.hid hz00;have HB0:=Lib.hid hz01;have HC0:=Lib.hid hz02;have HI1:=Lib.hid hi1;have HA1:=Lib.hid hz10;have HB1:=Lib.hid hz11;have HC1:=Lib.hid hz12;clear hi0 hz00 hz01 hz02 hi1 hz10 hz11 hz12;obtain ⟨to_,tc,rfl⟩:=hT.form;obtain ⟨a4,c4,rfl⟩:=hZ.form;obtain ⟨n,hn'⟩:∃n,n=Q.trms.length:=⟨_,rfl⟩;have HN:=Lib.hid hn';have HNV:=Lib.hid hnv;have HTS:=Lib.hid ht;have HZZ:=Lib.hid hz;rw [←hn'] at hT hl8;rw [hnv] at hZ hW;rw [show Q.trms.length=n from hn'.symm];have hq:=Blk.new w #[.int .i64 qg,.string qt,.slice to_ n tc] 84;have hBW:=b1 w (.cells #[.int .i64 qg,.string qt,.slice to_ n tc] 84);replace hT:=hT.after hBW;replace hW:=hW.after hBW;replace hZ:=hZ.after hBW;clear hn' hnv ht hz;obtain ⟨hqc0,hqf0,hqc1,hqf1,hqc2,hqf2⟩:=hq.x3;go_enter Tryz.func158,Tryz.ntmps158
 go_wp2;clear hqc0 hqf0 hqc1 hqf1 hqc2 hqf2;generalize hw1:w.alloc (.cells #[.int .i64 qg,.string qt,.slice to_ n tc] 84)=w1 at hq hBW hT hW hZ;have hsz1:w.heap.size<w1.heap.size:=hq.lt;clear hw1;have hIR:IRel w1 0 ((imgB Q).take 0) ((imgX Z Q).take 0) (.slice none 0 0) (.slice none 0 0) w1:=⟨World.ownsRow_nil _ _ _ _,World.ownsRow_nil _ _ _ _,rfl,rfl,fun _=>rfl,fun _=>rfl,Below.refl _ _⟩;go_loopw [6,7,15] (fun v6 v7 i wr=>∃k:Nat,k≤n∧i=.int .i64 k∧IRel w1 k ((imgB Q).take k) ((imgX Z Q).take k) v6 v7 wr) (fun _ _ i _=>n-(intOf i).toNat)
 case atStart=>exact ⟨0,by omega,rfl,hIR⟩
 case round =>
  clear hIR;obtain ⟨k,hk,rfl,hI⟩:=hrel;obtain ⟨wp,hwp⟩:∃wp,wp=wr:=⟨_,rfl⟩;subst hwp;have hT1:=hT.after hI.b;have hZ1:=hZ.after hI.b;have hW1:=hW.after hI.b;by_cases hlt:k<n
  ·have hkl:k<Q.trms.length:=by rw [←HN.out];exact hlt
   have HTK:=Lib.hid (HTS.out _ (List.getElem_mem hkl));have HSB:=Lib.hid (imgB_step Q k hkl);have HSX:=Lib.hid (imgX_step Z Q k hkl);obtain ⟨b,o,rfl,hbl,x1,x2,x3,x4⟩:=hT1.at_ hkl;generalize (Q.trms[k]'hkl)=t at x1 x2 x3 x4 HTK HSB HSX;obtain ⟨tb,tvv,tz⟩:=t;simp only [] at x1 x2 x3 x4;have hvl:tvv<Z.length:=by rw [HNV.out];exact HTK.out.2.1
   have hvn:tvv<nv:=HTK.out.2.1;obtain ⟨b',o',rfl,hbl',y1,y2⟩:=hZ1.at_ hvl;have HZB:=Lib.hid (HZZ.out _ (List.getElem_mem hvl));have HGD:Hid (Z.getD tvv 0=Z[tvv]'hvl):=by rw [Hid,List.getD_eq_getElem?_getD,List.getElem?_eq_getElem hvl];rfl
   generalize (Z[tvv]'hvl)=zz at y1 y2 HZB HGD;clear hvl;have HCO:=Lib.hid HTK.out.2.2;have HTB:=Lib.hid HTK.out.1;simp only [] at HCO HTB
   have HMUL:Hid (∀w:World,Calls Tryz.prog 103 #[.agg #[.bool (sg (tz)),.string (E (tz).natAbs)],.agg #[.bool (sg (zz)),.string (E (zz).natAbs)]] w fun e w'=>e=.returned (.tuple #[.agg #[.bool (sg (tz*zz)),.string (E (tz*zz).natAbs)],.int .i64 0])∧Below w.heap.size w w'):=fun w =>
    imul_c tz zz w (Nat.lt_of_lt_of_le HCO.out (Nat.pow_le_pow_right (show 0<256 by decide) (show 16≤128 by decide))) (lt64 HZB.out) (Nat.lt_of_lt_of_le (Nat.mul_lt_mul'' HCO.out HZB.out) (by rw [←Nat.pow_add];exact Nat.pow_le_pow_right (show 0<256 by decide) (by decide)))
   obtain ⟨pz,hpz⟩:∃p,p=tz*zz:=⟨_,rfl⟩;have HPZ:=Lib.hid hpz;rw [←hpz] at HMUL;clear hpz;have h0k:(0:Int)≤(k:Int):=by omega
   have h1k:(k:Int)<(n:Int):=by omega
   have h0v:(0:Int)≤(tvv:Int):=by omega
   have h1v:(tvv:Int)<(nv:Int):=by omega
   have hC:CA (wp.alloc (.cells #[.string (E tb),.int .i64 (tvv:Int),.bool (sg tz),.string (E tz.natAbs)] 86)) [(⟨wp.heap.size,1,none⟩,.int .i64 (tvv:Int)),(⟨wp.heap.size,2,none⟩,.bool (sg tz)),(⟨wp.heap.size,3,none⟩,.string (E tz.natAbs)),(⟨bw,0,none⟩,.slice (some ⟨b',o',none⟩) nv c4),(⟨b',o'+tvv*2,none⟩,.bool (sg zz)),(⟨b',o'+tvv*2+1,none⟩,.string (E zz.natAbs))]:=by
    have hB:=Blk.new wp #[.string (E tb),.int .i64 (tvv:Int),.bool (sg tz),.string (E tz.natAbs)] 86;exact CA.cons hB.lt (hB.cell 1) (CA.cons hB.lt (hB.cell 2) (CA.cons hB.lt (hB.cell 3) (CA.alloc (CA.cons hW1.lt (hW1.cell 0) (CA.cons hbl' y1 (CA.cons hbl' y2 (CA.nil _)))) _)))
   have hT9:=Blk.new wp #[.string (E tb),.int .i64 (tvv:Int),.bool (sg tz),.string (E tz.natAbs)] 86;have hI9:=hI.after (b1 wp (.cells #[.string (E tb),.int .i64 (tvv:Int),.bool (sg tz),.string (E tz.natAbs)] 86));have hrow:∀g,u7.ownBlock=some g→g<wp.heap.size:=fun g hg=>(own_lt hI.z hg).1
   go_wp2_with fail
   generalize wp.alloc (.cells #[.string (E tb),.int .i64 (tvv:Int),.bool (sg tz),.string (E tz.natAbs)] 86)=wA at hC hT9 hI9;generalize wp.heap.size=g9 at hC hT9 hrow ⊢;clear hT1 hZ1 hW1 hI x1 x2 x3 x4 y1 y2 hbl hbl';have hg9:g9<wA.heap.size:=hT9.lt;have hneA:=fun x hx=>Nat.ne_of_lt (hC x hx).1
   go_upto_region 6 with fail
   go_cut [10,11] (fun s10 s11 wx=>ZBox wA pz s10 s11 wx)
   case first =>
    go_region_held3 (fun w'=>w'.cell? ⟨g9,1,none⟩=some (.int .i64 (tvv:Int))∧w'.cell? ⟨g9,2,none⟩=some (.bool (sg tz))∧w'.cell? ⟨g9,3,none⟩=some (.string (E tz.natAbs))∧w'.cell? ⟨bw,0,none⟩=some (.slice (some ⟨b',o',none⟩) nv c4)∧w'.cell? ⟨b',o'+tvv*2,none⟩=some (.bool (sg zz))∧w'.cell? ⟨b',o'+tvv*2+1,none⟩=some (.string (E zz.natAbs))) ((refine CA.k6 ?_;repeat (first | (with_reducible exact hCf) | (with_reducible exact hC) | (with_reducible refine CA.drew ?_) | (with_reducible refine CA.alloc ?_ _) | (refine CA.set ?_ _ _ _ hneA))))
     ((go_at_call 103;refine (HMUL.out _).mono ?_;rintro e wf ⟨rfl,hbf⟩;have hCf:CA wf [(⟨g9,1,none⟩,.int .i64 (tvv:Int)),(⟨g9,2,none⟩,.bool (sg tz)),(⟨g9,3,none⟩,.string (E tz.natAbs)),(⟨bw,0,none⟩,.slice (some ⟨b',o',none⟩) nv c4),(⟨b',o'+tvv*2,none⟩,.bool (sg zz)),(⟨b',o'+tvv*2+1,none⟩,.string (E zz.natAbs))]:=(by first | exact hC.drew.after hbf | exact (hC.alloc _).drew.after hbf | exact (hC.drew.alloc _).after hbf);(try (have kA:=(Blk.new wA #[.bool false,.string { data:=#[] }] 72).drew.after hbf;have kA0:=kA.cell 0;have kA1:=kA.cell 1;have kA2:=kA.free 0;have kA3:=kA.free 1))))
    all_goals
     go_wp2_with fail
     go_meet
     first
      | exact ⟨_,rfl,rfl,Blk.new _ _ _,hbf.size,ba ((Below.drew (Below.refl _ _)).trans hbf) _⟩
      | exact ⟨_,rfl,rfl,(kA.set 0 _).set 1 _,Nat.le_refl _,((bt ((b1 wA _).drew) hbf).setCell (by simp) _).setCell (by simp) _⟩
   case rest =>
    obtain ⟨gx,rfl,rfl,hX,hgx,hbx⟩:=hcut;obtain ⟨wx,hwx⟩:∃wx,wx=wc:=⟨_,rfl⟩;subst hwx;replace hT9:=hT9.after hbx;replace hI9:=hI9.after hbx;clear hC hneA;have hRA:wx.ownsRow w1.heap.size 22 1 u6 k (strs ((imgB Q).take k)):=by have h:wx.ownsRow _ _ _ _ _ _:=hI9.a;rw [hI9.la] at h;exact h
    have hRZ:wx.ownsRow w1.heap.size 72 2 u7 k (ics (((imgX Z Q).take k).map zI)):=by have h:wx.ownsRow _ _ _ _ _ _:=hI9.z;rw [hI9.lz] at h;exact h
    have hBx:=hI9.b;have hsx:=hBx.size;have HLA:=Lib.hid hI9.la;have HLZ:=Lib.hid hI9.lz;clear hI9;generalize (imgB Q).take k=LB at hRA HSB HLA;generalize (imgX Z Q).take k=LX at hRZ HSX HLZ;have hC:CA wx [(⟨g9,0,none⟩,.string (E tb)),(⟨gx,0,none⟩,.bool (sg pz)),(⟨gx,1,none⟩,.string (E pz.natAbs))]:=CA.cons hT9.lt (hT9.cell 0) (CA.cons hX.lt (hX.cell 0) (CA.cons hX.lt (hX.cell 1) (CA.nil _)))
    have hneA:∀x∈[((⟨g9,0,none⟩:Addr),Value.string (E tb)),(⟨gx,0,none⟩,.bool (sg pz)),(⟨gx,1,none⟩,.string (E pz.natAbs))],u6.ownBlock≠some x.1.block:=by
     have q1:=own_ne hRA hT9 (by decide);have q2:=own_ne hRA hX (by decide);intro x hx;simp only [List.mem_cons,List.not_mem_nil,or_false] at hx;rcases hx with rfl | rfl | rfl
     ·exact q1
     ·exact q2
     ·exact q2
    have hneB:∀x∈[((⟨g9,0,none⟩:Addr),Value.string (E tb)),(⟨gx,0,none⟩,.bool (sg pz)),(⟨gx,1,none⟩,.string (E pz.natAbs))],u7.ownBlock≠some x.1.block:=by
     have q1:=own_ne hRZ hT9 (by decide);have q2:u7.ownBlock≠some gx:=fun e=>by have:=hrow gx e;omega
     intro x hx;simp only [List.mem_cons,List.not_mem_nil,or_false] at hx;rcases hx with rfl | rfl | rfl
     ·exact q1
     ·exact q2
     ·exact q2
    have HNA:=Lib.hid hneA;have HNB:=Lib.hid hneB;clear hneA hneB hrow;go_upto_region 9 with fail
    go_region_held3 (fun w'=>w'.cell? ⟨g9,0,none⟩=some (.string (E tb))∧w'.cell? ⟨gx,0,none⟩=some (.bool (sg pz))∧w'.cell? ⟨gx,1,none⟩=some (.string (E pz.natAbs))) ((refine CA.k3 ?_;repeat (first | (with_reducible exact hCb) | (with_reducible exact hCa) | (with_reducible exact hC) | (with_reducible refine CA.drew ?_) | (with_reducible refine CA.alloc ?_ _))))
     (first | (refine step_append_lies _ (by rfl) (.tmp 33) (.tmp 36) _ (by rfl) w1.heap.size 22 i0 _ 1 16 Tryz.underlying32 HI0.out HA0.out HB0.out HC0.out rfl (by omega) u6 k (strs LB) (by rfl) (by repeat (first | (with_reducible exact hRA) | (with_reducible refine World.ownsRow.drew ?_) | (with_reducible refine World.ownsRow.alloc ?_ _))) _ 1 1 [.string (E tb)] (by rfl) rfl (Blk.cells (T:=22) (by first | exact blkN (by simp) | exact (blkN (by simp)).alloc _)) (by simp [Value.oneCell']) (by omega) (by simp only [maxLen];omega) (by omega) (by simp;omega) _ rfl ?_;intro ga ca wa hownA hgrowA hatA hltA;clear hatA;have hZa:wa.ownsRow w1.heap.size 72 2 u7 k (ics (LX.map zI)):=own_grown (b1:=w1.heap.size) (b2:=w1.heap.size) (e1:=72) (e2:=22) (s1:=2) (s2:=1) (n1:=k) (n2:=k) (v1:=u7) (v2:=u6) (x1:=ics (LX.map zI)) (x2:=strs LB) (by repeat (first | (with_reducible exact hRZ) | (with_reducible refine World.ownsRow.drew ?_) | (with_reducible refine World.ownsRow.alloc ?_ _))) (by repeat (first | (with_reducible exact hRA) | (with_reducible refine World.ownsRow.drew ?_) | (with_reducible refine World.ownsRow.alloc ?_ _))) (by decide) hgrowA;have hCa:CA wa [(⟨g9,0,none⟩,.string (E tb)),(⟨gx,0,none⟩,.bool (sg pz)),(⟨gx,1,none⟩,.string (E pz.natAbs))]:=CA.grown (by repeat (first | (with_reducible exact hC) | (with_reducible refine CA.drew ?_) | (with_reducible refine CA.alloc ?_ _))) hgrowA HNA.out;have hBa:Below w1.heap.size w1 wa:=Below.grown (by repeat (first | (with_reducible exact hBx) | (with_reducible refine Below.drew ?_) | (with_reducible refine Below.alloc ?_ (by first | omega | (simp;omega)) _))) hgrowA (by simp;omega) (fun g hg=>(own_lt hRA hg).2);have hsa:=hgrowA.size;(try (have hLB0:Blk wa wx.heap.size 72 [.bool (sg pz),.string (E pz.natAbs)]:=Blk.grown (by first | exact (blkN (by simp)).alloc _) hgrowA (fun e=>by have:=(own_lt hRA e).1;omega)));(try (have hLB1:Blk wa (wx.heap.size+1) 72 [.bool (sg pz),.string (E pz.natAbs)]:=Blk.grown (by first | exact blkN (by simp)) hgrowA (fun e=>by have:=(own_lt hRA e).1;omega)))) | (refine step_append_lies _ (by rfl) (.tmp 38) (.tmp 40) _ (by rfl) w1.heap.size 72 i1 _ 2 24 Tryz.underlying39 HI1.out HA1.out HB1.out HC1.out rfl (by omega) u7 k (ics (LX.map zI)) (by rfl) (by repeat (first | (with_reducible exact hZa) | (with_reducible refine World.ownsRow.drew ?_) | (with_reducible refine World.ownsRow.alloc ?_ _))) _ 1 1 [.bool (sg pz),.string (E pz.natAbs)] (by rfl) rfl (Blk.cells (T:=72) (by first | exact blkN (by simp) | exact hLB0 | exact hLB1)) (by simp [Value.oneCell']) (by omega) (by simp only [maxLen];omega) (by omega) (by have:=hBa.size;simp;omega) _ rfl ?_;intro gb cb wb hownB hgrowB hatB hltB;clear hatB;have hAb:wb.ownsRow w1.heap.size 22 1 (.slice (some ⟨ga,0,none⟩) (k+1) ca) (k+1) (strs LB++[.string (E tb)]):=own_grown (b1:=w1.heap.size) (b2:=w1.heap.size) (e1:=22) (e2:=72) (s1:=1) (s2:=2) (n1:=k+1) (n2:=k) (v1:=.slice (some ⟨ga,0,none⟩) (k+1) ca) (v2:=u7) (x1:=strs LB++[.string (E tb)]) (x2:=ics (LX.map zI)) (by repeat (first | (with_reducible exact hownA) | (with_reducible refine World.ownsRow.drew ?_) | (with_reducible refine World.ownsRow.alloc ?_ _))) (by repeat (first | (with_reducible exact hZa) | (with_reducible refine World.ownsRow.drew ?_) | (with_reducible refine World.ownsRow.alloc ?_ _))) (by decide) hgrowB;have hCb:CA wb [(⟨g9,0,none⟩,.string (E tb)),(⟨gx,0,none⟩,.bool (sg pz)),(⟨gx,1,none⟩,.string (E pz.natAbs))]:=CA.grown (by repeat (first | (with_reducible exact hCa) | (with_reducible refine CA.drew ?_) | (with_reducible refine CA.alloc ?_ _))) hgrowB HNB.out;have hBb:Below w1.heap.size w1 wb:=Below.grown (by repeat (first | (with_reducible exact hBa) | (with_reducible refine Below.drew ?_) | (with_reducible refine Below.alloc ?_ (by have:=hBa.size;first | omega | (simp;omega)) _))) hgrowB (by have:=hBa.size;simp;omega) (fun g hg=>(own_lt hRZ hg).2)))
    all_goals
     have hIR:IRel w1 (k+1) (LB++[tb]) (LX++[pz]) (.slice (some ⟨ga,0,none⟩) (k+1) ca) (.slice (some ⟨gb,0,none⟩) (k+1) cb) wb:=by
      refine ⟨?_,?_,by simp [HLA.out],by simp [HLZ.out],fun h=>by omega,fun h=>by omega,hBb⟩
      ·rw [NOwn,List.length_append,HLA.out,←strs_app];exact hAb
      ·rw [ZOwn,List.length_append,HLZ.out,←ics_app];exact hownB
     rw [←HSB.out,HPZ.out,←HGD.out,←HSX.out] at hIR;clear hAb hownB hownA hCa hCb hBa hBb hgrowA hgrowB hZa;go_wp2;go_roundw
     case rel=>exact ⟨k+1,by omega,by go_num,hIR⟩
     case measure=>simp [intOf];omega
  ·obtain rfl:k=n:=by omega
   have HTB:Hid ((imgB Q).take k=imgB Q):=List.take_of_length_le (by rw [HN.out];simp [imgB]);have HTX:Hid ((imgX Z Q).take k=imgX Z Q):=List.take_of_length_le (by rw [HN.out];simp [imgX]);rw [HTB.out,HTX.out] at hI;go_wp2;go_ret3
   refine ⟨_,_,rfl,own_mono hI.a (by omega),own_mono hI.z (by omega),fun h=>⟨hI.na h,hI.nz h⟩,hBW.trans (hI.b.mono (by omega))⟩
end
section
open Go.RowKit Go.Shelf
def LPost (w:World) (L:List Nat) (e:Ending) (w':World):Prop:=∃v,e=.returned (.tuple #[v,.int .i64 0])∧NOwn w' w.heap.size v L∧Below w.heap.size w w'
theorem imgs_step (N:NSta) (Z:List Int) (k:Nat) (h:k<N.eqs.length):(N.imgs Z).take (k+1)=(N.imgs Z).take k++[imgV N Z N.eqs[k]]:=by
 unfold NSta.imgs;rw [←List.map_take,List.take_succ_eq_append_getElem h,List.map_append,List.map_take];rfl
theorem chk_elem {N:NSta} (h:N.chk=0) (k:Nat) (hk:k<N.eqs.length) (hg:N.eqs[k].grp<N.grps.length):grpE N.grps[N.eqs[k].grp].1 N.grps[N.eqs[k].grp].2=0∧hasB N.grps[N.eqs[k].grp].1 N.grps[N.eqs[k].grp].2 N.eqs[k].tgt=true∧∀x∈imgB N.eqs[k],hasB N.grps[N.eqs[k].grp].1 N.grps[N.eqs[k].grp].2 x=true:=by
 obtain ⟨_,he,_⟩:=chk_inv h;unfold NSta.elem at he;rw [Bool.and_eq_true,List.all_eq_true,List.all_eq_true] at he;have h1:=he.1 _ (List.getElem_mem hg);have h2:=he.2 _ (List.getElem_mem hk);unfold elemQ at h2;rw [gp_at N _ hg,Bool.and_eq_true,List.all_eq_true] at h2;refine ⟨by simpa [gr0] using h1,h2.1,fun x hx=>?_⟩;obtain ⟨t,ht,rfl⟩:=List.mem_map.1 hx;exact h2.2 t ht
theorem imgX_lt {N:NSta} (hm:NOk N) (Z:List Int) (hz:∀z∈Z,z.natAbs<256^64) (q:NEqn) (hq:q∈N.eqs):∀z∈imgX Z q,z.natAbs<256^128:=by
 intro z hzz;obtain ⟨t,ht,rfl⟩:=List.mem_map.1 hzz;obtain ⟨_,_,_,h4⟩:=hm.e q hq;have h5:=(h4 t ht).2.2
 have h6:(Z.getD t.var 0).natAbs<256^64:=by
  rw [List.getD_eq_getElem?_getD];by_cases hv:t.var<Z.length
  ·rw [List.getElem?_eq_getElem hv];exact hz _ (List.getElem_mem hv)
  ·rw [List.getElem?_eq_none (by omega)];exact Nat.pow_pos (by decide)
 rw [Int.natAbs_mul];exact Nat.lt_of_lt_of_le (Nat.mul_lt_mul'' h5 h6) (by rw [←Nat.pow_add];exact Nat.pow_le_pow_right (show 0<256 by decide) (by decide))
theorem images_c (N:NSta) (Z:List Int) (v1 v2 v3 v4:Value) (w:World) (hm:NOk N) (hS:NAt w v1 v2 v3 N) (hZ:ZsAt w v4 Z) (hz:∀z∈Z,z.natAbs<256^64) (hl:Z.length=N.vars.length) (hc:N.chk=0) :
  Calls Tryz.prog 112 #[.agg #[v1,v2,v3],v4] w (LPost w (N.imgs Z)):=by
 obtain ⟨i0,hi0,hz00,hz01,hz02⟩:=info_parts info_nat;have HI0:=Lib.hid hi0;have HA0:=Lib.hid hz00;have HB0:=Lib.hid hz01;have HC0:=Lib.hid hz02;clear hi0 hz00 hz01 hz02;obtain ⟨a4,c4,rfl⟩:=hZ.form;have HZZ:=Lib.hid hz;have HL:=Lib.hid hl;have HCK:=Lib.hid hc;have HMM:=Lib.hid hm;rw [hl] at hZ ⊢;clear hz hl hc;obtain ⟨a1,c1,a2,c2,a3,c3,rfl,rfl,rfl⟩:=hS.forms;obtain ⟨n1,hn1⟩:∃n,n=N.grps.length:=⟨_,rfl⟩;obtain ⟨n2,hn2⟩:∃n,n=N.vars.length:=⟨_,rfl⟩;obtain ⟨n3,hn3⟩:∃n,n=N.eqs.length:=⟨_,rfl⟩;have HN1:=Lib.hid hn1;have HN2:=Lib.hid hn2;have HN3:=Lib.hid hn3;have l1:n1≤10:=by rw [hn1];exact hm.ng
 have l2:n2≤12:=by rw [hn2];exact hm.nv
 have l3:n3≤12:=by rw [hn3];exact hm.ne
 have HM:=Lib.hid hm;rw [←hn1,←hn2,←hn3] at hS ⊢;clear hm hn1 hn2 hn3;rw [←HN2.out] at hZ;have hP:=blk2a w #[.slice a1 n1 c1,.slice a2 n2 c2,.slice a3 n3 c3] #[.slice a4 n2 c4] 29 39;have hW:=blk2b w #[.slice a1 n1 c1,.slice a2 n2 c2,.slice a3 n3 c3] #[.slice a4 n2 c4] 29 39;have hBW:=b2 w (.cells #[.slice a1 n1 c1,.slice a2 n2 c2,.slice a3 n3 c3] 29) (.cells #[.slice a4 n2 c4] 39);replace hS:=hS.after hBW;replace hZ:=hZ.after hBW;obtain ⟨hPc0,hPf0,hPc1,hPf1,hPc2,hPf2⟩:=hP.x3;go_enter Tryz.func112,Tryz.ntmps112
 go_wp2;clear hPc0 hPf0 hPc1 hPf1 hPc2 hPf2;generalize hw1:(w.alloc (.cells #[.slice a1 n1 c1,.slice a2 n2 c2,.slice a3 n3 c3] 29)).alloc (.cells #[.slice a4 n2 c4] 39)=w1 at hP hW hBW hS hZ;replace hP:Blk w1 w.heap.size 29 [.slice a1 n1 c1,.slice a2 n2 c2,.slice a3 n3 c3]:=hP;replace hW:Blk w1 (w.heap.size+1) 39 [.slice a4 n2 c4]:=hW;clear hw1;go_loopw [7,18] (fun v7 i wr=>∃k:Nat,k≤n3∧i=.int .i64 k∧NOwn wr w1.heap.size v7 ((N.imgs Z).take k)∧Below w1.heap.size w1 wr) (fun _ i _=>n3-(intOf i).toNat)
 case atStart=>exact ⟨0,by omega,rfl,World.ownsRow_nil _ _ _ _,Below.refl _ _⟩
 case round =>
  obtain ⟨k,hk,rfl,hO,hbr⟩:=hrel;obtain ⟨wp,hwp⟩:∃wp,wp=wr:=⟨_,rfl⟩;subst hwp;have hS1:=hS.after hbr;have hP1:=hP.after hbr;have hW1:=hW.after hbr;have hZ1:=hZ.after hbr;have hBW1:=bt hBW hbr;by_cases hlt:k<n3
  ·have hkl:k<N.eqs.length:=by rw [←HN3.out];exact hlt
   have HSZ:=Lib.hid (HM.out.e _ (List.getElem_mem hkl));have HCE:=Lib.hid (chk_elem HCK.out k hkl HSZ.out.1);have HXL:=Lib.hid (imgX_lt HM.out Z HZZ.out _ (List.getElem_mem hkl));have HST:=Lib.hid (imgs_step N Z k hkl);obtain ⟨b,o,tv,rfl,hbl,x1,x2,x3,hTs⟩:=hS1.eat hkl;generalize (N.eqs[k]'hkl)=q at x1 x2 x3 hTs HSZ HCE HXL HST;have hgl:=HSZ.out.1;have hgn:q.grp<n1:=by rw [HN1.out];exact hgl
   have HGP:=Lib.hid (gp_at N q hgl);have HGZ:=Lib.hid (HM.out.g _ (List.getElem_mem hgl));have HIV:Hid (imgV N Z q=pw (prs (N.grps[q.grp]'hgl).1 (imgB q) (imgX Z q)) 0%(N.grps[q.grp]'hgl).1):=by rw [Hid,imgV,HGP.out]
   obtain ⟨b',o',rfl,hbl',y1,y2⟩:=hS1.gat hgl;generalize (N.grps[q.grp]'hgl)=gg at y1 y2 HGZ HCE HIV;clear hgl HGP;obtain ⟨p,qq⟩:=gg;simp only [] at y1 y2
   have hIM:Hid (∀w',Below wp.heap.size wp w'→Calls Tryz.prog 158 #[.agg #[.int .i64 (q.grp:Int),.string (E q.tgt),tv],.pointer (some ⟨w.heap.size+1,0,none⟩)] w' fun e w''=>∃v1 v2,e=.returned (.tuple #[v1,v2,.int .i64 0])∧NOwn w'' w'.heap.size v1 (imgB q)∧ZOwn w'' w'.heap.size v2 (imgX Z q)∧(q.trms.length=0→v1=.slice none 0 0∧v2=.slice none 0 0)∧Below w'.heap.size w' w''):=fun w' hb' =>
    imc_c q Z w' _ _ _ _ _ n2 (by rw [HL.out,HN2.out]) l2 HSZ.out.2.2.1 (fun t ht=>by rw [HN2.out];exact HSZ.out.2.2.2 t ht) HZZ.out (hTs.after hb') (hW1.after hb') (hZ1.after hb')
   obtain ⟨to_,tc,rfl⟩:=hTs.form;obtain ⟨n4,hn4⟩:∃n,n=q.trms.length:=⟨_,rfl⟩;have HN4:=Lib.hid hn4;rw [←hn4] at x3 hTs hIM;clear hn4;obtain ⟨qg,hqg⟩:∃g,g=q.grp:=⟨_,rfl⟩;obtain ⟨qt,hqt⟩:∃g,g=q.tgt:=⟨_,rfl⟩;rw [←hqg] at x1 y1 y2 hgn hIM;rw [←hqt] at x2 hIM;clear hqg hqt;have h0k:(0:Int)≤(k:Int):=by omega
   have h1k:(k:Int)<(n3:Int):=by omega
   have h0g:(0:Int)≤(qg:Int):=by omega
   have h1g:(qg:Int)<(n1:Int):=by omega
   have hPl:=hP1.lt;have hB:=Blk.new wp #[.int .i64 (qg:Int),.string (E qt),.slice to_ n4 tc] 84;have hb9:=b1 wp (.cells #[.int .i64 (qg:Int),.string (E qt),.slice to_ n4 tc] 84);obtain ⟨hBc0,hBf0,hBc1,hBf1,hBc2,hBf2⟩:=hB.x3;go_wp2_with fail
   refine (hIM.out _ hb9).mono ?_;rintro e w2 ⟨u1,u2,rfl,hN,hX,hnil,hb2⟩;clear hBc0 hBf0 hBc1 hBf1 hBc2 hBf2;have hb92:=bt hb9 hb2;have hB2:=hB.after hb2;have hP2:=hP1.after hb92;have hO2:=own_after hO hb92;have hbr2:=bt hbr hb92;have z1:=(hb92.cell (p:=⟨b',o'+qg*2,none⟩) hbl').trans y1;have z2:=(hb92.cell (p:=⟨b',o'+qg*2+1,none⟩) hbl').trans y2;have hbl2:=Nat.lt_of_lt_of_le hbl' hb92.size;have hPl2:=hP2.lt;have hBl2:=hB2.lt;have HNIL:=Lib.hid hnil
   have HPR:Hid (Calls Tryz.prog 37 #[.agg #[.string (E p),.string (E qq)],u1,u2] w2 fun e w'=>e=.returned (.tuple #[.string (E (imgV N Z q)),.int .i64 0])∧Below w2.heap.size w2 w'):=by
    rw [HIV.out]
    exact product_own p qq _ _ (imgB q) (imgX Z q) u1 u2 w2 HGZ.out.1 (lt128 HGZ.out.2) HCE.out.1 (by simp [imgB,imgX]) (by have:=HSZ.out.2.2.1;simp [imgB];omega) HCE.out.2.2 HXL.out hN hX
     (fun h=>(HNIL.out (by rw [HN4.out];simpa [imgB] using h)).1) (fun h=>(HNIL.out (by rw [HN4.out];simpa [imgX] using h)).2)
   clear hnil hb2 hb92 hB hP1 hO hbr hN hX hS1 hW1 hZ1 hTs hIM hbl' y1 y2 x1 x2 x3 hPl;obtain ⟨hP2c0,hP2f0,hP2c1,hP2f1,hP2c2,hP2f2⟩:=hP2.x3;obtain ⟨hB2c0,hB2f0,hB2c1,hB2f1,hB2c2,hB2f2⟩:=hB2.x3;go_wp2_with fail
   refine HPR.out.mono ?_;rintro e w3 ⟨rfl,hb3⟩;clear hP2c0 hP2f0 hP2c1 hP2f1 hP2c2 hP2f2;clear hB2c0 hB2f0 hB2c1 hB2f1 hB2c2 hB2f2;have hO3:=own_after hO2 hb3;have hbr3:=bt hbr2 hb3;have hLE:Hid (((N.imgs Z).take k).length=k):=by rw [Hid,List.length_take,NSta.imgs,List.length_map];omega
   rw [hLE.out] at hO3;clear HPR hb3 hO2 hbr2 hP2 hB2;have hsz3:=hbr3.size;have HIM:=Lib.hid HST.out;generalize imgV N Z q=iv at HIM ⊢;generalize (N.imgs Z).take k=LI at hO3 HIM hLE;go_wp2_with (at_builtin;refine wpList_append_lies _ rfl (.tmp 47) (.tmp 49) _ rfl w1.heap.size 22 i0 _ 1 16 Tryz.underlying32 HI0.out HA0.out HB0.out HC0.out rfl (by omega) u7 k (strs LI) rfl (own_after hO3 (b1 _ (.cells #[.string (E iv)] 22))) ⟨w3.heap.size,0,none⟩ 1 1 [.string (E iv)] rfl rfl (Blk.new w3 #[.string (E iv)] 22).cells (by simp [Value.oneCell']) (by omega) (by simp only [maxLen];omega) (by omega) (by rw [World.size_alloc];omega) (w3.heap.size+1) (by simp) ?_;intro ga ca wa hown hgrow hat hlt2)
   have hOA:NOwn wa w1.heap.size (.slice (some ⟨ga,0,none⟩) (k+1) ca) (LI++[iv]):=by rw [NOwn,List.length_append,hLE.out,←strs_app];exact hown
   rw [←HIM.out] at hOA;have hbA:=(ba hbr3 (.cells #[.string (E iv)] 22)).grown hgrow (by rw [World.size_alloc];omega) (fun x hx=>(own_lt hO3 hx).2);clear hown hgrow hat hlt2 hO3 hbr3;go_wp2;go_roundw
   case rel=>exact ⟨k+1,by omega,by go_num,hOA,hbA⟩
   case measure=>simp [intOf];omega
  ·have HTK:Hid ((N.imgs Z).take k=N.imgs Z):=List.take_of_length_le (by rw [NSta.imgs,List.length_map,←HN3.out];omega);rw [HTK.out] at hO;have hs1:=hBW.size;obtain ⟨hP1c0,hP1f0,hP1c1,hP1f1,hP1c2,hP1f2⟩:=hP1.x3;go_wp2;go_ret2
   exact ⟨_,rfl,own_mono hO hs1,hBW1⟩
theorem Images_c (N:NSta) (Z:List Int) (v1 v2 v3 v4:Value) (w:World) (hm:NOk N) (hS:NAt w v1 v2 v3 N) (hZ:ZsAt w v4 Z) (hz:∀z∈Z,z.natAbs<256^64) (hl:Z.length=N.vars.length) (hc:N.chk=0) :
  Calls Tryz.prog 62 #[.agg #[v1,v2,v3],v4] w (LPost w (N.imgs Z)):=by
 obtain ⟨a4,c4,rfl⟩:=hZ.form;have hbox:=b1 w (.cells #[v1,v2,v3] 29);have HRD:=Lib.hid (ready_c N Z v1 v2 v3 _ _ hm (hS.after hbox) (hZ.after hbox) (fun z h=>lt64 (hz z h)) hl hc);have HIM:Hid (∀w',Below w.heap.size w w'→Calls Tryz.prog 112 #[.agg #[v1,v2,v3],.slice a4 Z.length c4] w' (LPost w' (N.imgs Z))):=fun w' hb'=>images_c N Z v1 v2 v3 _ w' hm (hS.after hb') (hZ.after hb') hz hl hc
 have hP:=Blk.new w #[v1,v2,v3] 29;obtain ⟨a1,c1,a2,c2,a3,c3,rfl,rfl,rfl⟩:=hS.forms;generalize Z.length=n at HRD HIM;generalize N.imgs Z=L at HIM;generalize N.grps.length=n1 at hP hbox HRD HIM;generalize N.vars.length=n2 at hP hbox HRD HIM;generalize N.eqs.length=n3 at hP hbox HRD HIM;clear hm hS hZ hz hl hc;obtain ⟨hPc0,hPf0,hPc1,hPf1,hPc2,hPf2⟩:=hP.x3;go_enter Tryz.func62,Tryz.ntmps62
 go_wp2_with fail
 refine HRD.out.mono ?_;rintro e w2 ⟨rfl,hb2⟩;clear hPc0 hPf0 hPc1 hPf1 hPc2 hPf2;replace hP:=hP.after hb2;have hBW:=bt hbox hb2;have hPl:=hP.lt;clear hb2;obtain ⟨hPc0,hPf0,hPc1,hPf1,hPc2,hPf2⟩:=hP.x3;go_wp2_with fail
 refine (HIM.out _ hBW).mono ?_;rintro e w3 ⟨v,rfl,hO,hb3⟩;go_wp2;go_ret2
 exact ⟨v,rfl,own_mono hO hBW.size,bt hBW hb3⟩
end
section
open Go.RowKit Go.Shelf
theorem rimages_c (N:NSta) (Z:List Int) (v1 v2 v3 v4:Value) (w:World) (hm:NOk N) (hS:NAt w v1 v2 v3 N) (hZ:ZsAt w v4 Z) (hz:∀z∈Z,z.natAbs<256^64) (hl:Z.length=N.vars.length) (hc:N.chk=0) :
  Calls Tryz.prog 117 #[.agg #[v1,v2,v3],v4] w (LPost w (N.imgs Z)):=by
 obtain ⟨i0,hi0,hz00,hz01,hz02⟩:=info_parts info_nat;obtain ⟨i1,hi1,hz10,hz11,hz12⟩:=info_parts info_Int;have HI0:=Lib.hid hi0;have HA0:=Lib.hid hz00;have HB0:=Lib.hid hz01;have HC0:=Lib.hid hz02;have HI1:=Lib.hid hi1;have HA1:=Lib.hid hz10;have HB1:=Lib.hid hz11;have HC1:=Lib.hid hz12;clear hi0 hz00 hz01 hz02 hi1 hz10 hz11 hz12;obtain ⟨a4,c4,rfl⟩:=hZ.form;have HZZ:=Lib.hid hz;have HL:=Lib.hid hl;have HCK:=Lib.hid hc;rw [hl] at hZ ⊢;clear hz hl hc;obtain ⟨a1,c1,a2,c2,a3,c3,rfl,rfl,rfl⟩:=hS.forms;obtain ⟨n1,hn1⟩:∃n,n=N.grps.length:=⟨_,rfl⟩;obtain ⟨n2,hn2⟩:∃n,n=N.vars.length:=⟨_,rfl⟩;obtain ⟨n3,hn3⟩:∃n,n=N.eqs.length:=⟨_,rfl⟩;have HN1:=Lib.hid hn1;have HN2:=Lib.hid hn2;have HN3:=Lib.hid hn3;have l1:n1≤10:=by rw [hn1];exact hm.ng
 have l2:n2≤12:=by rw [hn2];exact hm.nv
 have l3:n3≤12:=by rw [hn3];exact hm.ne
 have HM:=Lib.hid hm;rw [←hn1,←hn2,←hn3] at hS ⊢;clear hm hn1 hn2 hn3;rw [←HN2.out] at hZ;have hP:=Blk.new w #[.slice a1 n1 c1,.slice a2 n2 c2,.slice a3 n3 c3] 29;have hBW:=b1 w (.cells #[.slice a1 n1 c1,.slice a2 n2 c2,.slice a3 n3 c3] 29);replace hS:=hS.after hBW;replace hZ:=hZ.after (b1 w (.cells #[.slice a1 n1 c1,.slice a2 n2 c2,.slice a3 n3 c3] 29));obtain ⟨hPc0,hPf0,hPc1,hPf1,hPc2,hPf2⟩:=hP.x3;go_enter Tryz.func117,Tryz.ntmps117
 go_wp2;clear hPc0 hPf0 hPc1 hPf1 hPc2 hPf2;generalize w.alloc (.cells #[.slice a1 n1 c1,.slice a2 n2 c2,.slice a3 n3 c3] 29)=w1 at hP hBW hS hZ;replace hP:Blk w1 w.heap.size 29 [.slice a1 n1 c1,.slice a2 n2 c2,.slice a3 n3 c3]:=hP;go_loopw [6,7] (fun v6 i wr=>∃k:Nat,k≤n3∧i=.int .i64 k∧NOwn wr w1.heap.size v6 ((N.imgs Z).take k)∧Below w1.heap.size w1 wr) (fun _ i _=>n3-(intOf i).toNat)
 case atStart=>exact ⟨0,by omega,rfl,World.ownsRow_nil _ _ _ _,Below.refl _ _⟩
 case round =>
  obtain ⟨k,hk,rfl,hO,hbr⟩:=hrel;obtain ⟨wp,hwp⟩:∃wp,wp=wr:=⟨_,rfl⟩;subst hwp;have hS1:=hS.after hbr;have hP1:=hP.after hbr;have hZ1:=hZ.after hbr;have hBW1:=bt hBW hbr;have hPl:=hP1.lt;by_cases hlt:k<n3
  ·have hkl:k<N.eqs.length:=by rw [←HN3.out];exact hlt
   have HSZ:=Lib.hid (HM.out.e _ (List.getElem_mem hkl));have HCE:=Lib.hid (chk_elem HCK.out k hkl HSZ.out.1);have HXL:=Lib.hid (imgX_lt HM.out Z HZZ.out _ (List.getElem_mem hkl));have HST:=Lib.hid (imgs_step N Z k hkl);obtain ⟨b,o,tv,rfl,hbl,x1,x2,x3,hTs⟩:=hS1.eat hkl;generalize (N.eqs[k]'hkl)=q at x1 x2 x3 hTs HSZ HCE HXL HST;have hgl:=HSZ.out.1;have hgn:q.grp<n1:=by rw [HN1.out];exact hgl
   have HGP:=Lib.hid (gp_at N q hgl);have HGZ:=Lib.hid (HM.out.g _ (List.getElem_mem hgl));have HIV:Hid (imgV N Z q=pw (prs (N.grps[q.grp]'hgl).1 (imgB q) (imgX Z q)) 0%(N.grps[q.grp]'hgl).1):=by rw [Hid,imgV,HGP.out]
   obtain ⟨bg,og_,rfl,hbg,y1,y2⟩:=hS1.gat hgl;generalize (N.grps[q.grp]'hgl)=gg at y1 y2 HGZ HCE HIV;clear hgl HGP;obtain ⟨p,qq⟩:=gg;simp only [] at y1 y2;obtain ⟨to_,tc,rfl⟩:=hTs.form;obtain ⟨n4,hn4⟩:∃n,n=q.trms.length:=⟨_,rfl⟩;have HN4:=Lib.hid hn4;rw [←hn4] at x3 hTs;clear hn4;obtain ⟨qg,hqg⟩:∃g,g=q.grp:=⟨_,rfl⟩;obtain ⟨qt,hqt⟩:∃g,g=q.tgt:=⟨_,rfl⟩;rw [←hqg] at x1 y1 y2 hgn;rw [←hqt] at x2;clear hqg hqt;have l4:n4≤12:=by rw [HN4.out];exact HSZ.out.2.2.1
   have h0k:(0:Int)≤(k:Int):=by omega
   have h1k:(k:Int)<(n3:Int):=by omega
   have h0g:(0:Int)≤(qg:Int):=by omega
   have h1g:(qg:Int)<(n1:Int):=by omega
   have hQ:=Blk.new wp #[.int .i64 (qg:Int),.string (E qt),.slice to_ n4 tc] 84;have hb8:=b1 wp (.cells #[.int .i64 (qg:Int),.string (E qt),.slice to_ n4 tc] 84);obtain ⟨hP1c0,hP1f0,hP1c1,hP1f1,hP1c2,hP1f2⟩:=hP1.x3;go_wp2;clear hP1c0 hP1f0 hP1c1 hP1f1 hP1c2 hP1f2;have hP2:=hP1.after hb8;have hT2:=hTs.after hb8;have hZ2:=hZ1.after hb8;have hO2:=own_after hO hb8;have hbr2:=bt hbr hb8;have z1:=(hb8.cell (p:=⟨bg,og_+qg*2,none⟩) hbg).trans y1;have z2:=(hb8.cell (p:=⟨bg,og_+qg*2+1,none⟩) hbg).trans y2;have hbg2:=Nat.lt_of_lt_of_le hbg hb8.size;clear hS1 hP1 hZ1 hO hbr hTs y1 y2 x1 x2 x3 hbl hbg hPl;generalize wp.alloc (.cells #[.int .i64 (qg:Int),.string (E qt),.slice to_ n4 tc] 84)=wi at hQ hb8 hP2 hT2 hZ2 hO2 hbr2 z1 z2 hbg2;obtain ⟨g8,hg8⟩:∃g,wp.heap.size=g:=⟨_,rfl⟩;rw [hg8] at hQ ⊢;replace hQ:Blk wi g8 84 [.int .i64 (qg:Int),.string (E qt),.slice to_ n4 tc]:=hQ;clear hg8 hb8;have hIR:IRel wi 0 ((imgB q).take 0) ((imgX Z q).take 0) (.slice none 0 0) (.slice none 0 0) wi:=⟨World.ownsRow_nil _ _ _ _,World.ownsRow_nil _ _ _ _,rfl,rfl,fun _=>rfl,fun _=>rfl,Below.refl _ _⟩;go_loopw [9,10,11] (fun v9 v10 i wr=>∃k:Nat,k≤n4∧i=.int .i64 k∧IRel wi k ((imgB q).take k) ((imgX Z q).take k) v9 v10 wr) (fun _ _ i _=>n4-(intOf i).toNat)
   case atStart=>exact ⟨0,by omega,rfl,hIR⟩
   case round =>
    clear hIR;obtain ⟨j,hj,rfl,hI⟩:=hrel;obtain ⟨wq,hwq⟩:∃wq,wq=wr:=⟨_,rfl⟩;subst hwq;have hT3:=hT2.after hI.b;have hZ3:=hZ2.after hI.b;have hQ3:=hQ.after hI.b;have hQl:=hQ3.lt;by_cases hltj:j<n4
    ·have hjl:j<q.trms.length:=by rw [←HN4.out];exact hltj
     have HTK:=Lib.hid (HSZ.out.2.2.2 _ (List.getElem_mem hjl));have HSB:=Lib.hid (imgB_step q j hjl);have HSX:=Lib.hid (imgX_step Z q j hjl);obtain ⟨b,o,rfl,hbl,x1,x2,x3,x4⟩:=hT3.at_ hjl;generalize (q.trms[j]'hjl)=t at x1 x2 x3 x4 HTK HSB HSX;obtain ⟨tb,tvv,tz⟩:=t;simp only [] at x1 x2 x3 x4;have hvl:tvv<Z.length:=by rw [HL.out];exact HTK.out.2.1
     have hvn:tvv<n2:=by rw [HN2.out];exact HTK.out.2.1
     obtain ⟨b',o',rfl,hbl',y1,y2⟩:=hZ3.at_ hvl;have HZB:=Lib.hid (HZZ.out _ (List.getElem_mem hvl));have HGD:Hid (Z.getD tvv 0=Z[tvv]'hvl):=by rw [Hid,List.getD_eq_getElem?_getD,List.getElem?_eq_getElem hvl];rfl
     generalize (Z[tvv]'hvl)=zz at y1 y2 HZB HGD;clear hvl;have HCO:=Lib.hid HTK.out.2.2;have HTB:=Lib.hid HTK.out.1;simp only [] at HCO HTB
     have HMUL:Hid (∀w:World,Calls Tryz.prog 36 #[.agg #[.bool (sg (tz)),.string (E (tz).natAbs)],.agg #[.bool (sg (zz)),.string (E (zz).natAbs)]] w fun e w'=>e=.returned (.tuple #[.agg #[.bool (sg (tz*zz)),.string (E (tz*zz).natAbs)],.int .i64 0])∧Below w.heap.size w w'):=fun w =>
      rimul_c tz zz w (Nat.lt_of_lt_of_le HCO.out (Nat.pow_le_pow_right (show 0<256 by decide) (show 16≤128 by decide))) (lt64 HZB.out) (Nat.lt_of_lt_of_le (Nat.mul_lt_mul'' HCO.out HZB.out) (by rw [←Nat.pow_add];exact Nat.pow_le_pow_right (show 0<256 by decide) (by decide)))
     obtain ⟨pz,hpz⟩:∃p,p=tz*zz:=⟨_,rfl⟩;have HPZ:=Lib.hid hpz;rw [←hpz] at HMUL;clear hpz;have h0j:(0:Int)≤(j:Int):=by omega
     have h1j:(j:Int)<(n4:Int):=by omega
     have h0v:(0:Int)≤(tvv:Int):=by omega
     have h1v:(tvv:Int)<(n2:Int):=by omega
     have hC:CA wq [(⟨g8,2,none⟩,.slice (some ⟨b,o,none⟩) n4 tc),(⟨b,o+j*4+1,none⟩,.int .i64 (tvv:Int)),(⟨b,o+j*4+2,none⟩,.bool (sg tz)),(⟨b,o+j*4+3,none⟩,.string (E tz.natAbs)),(⟨b',o'+tvv*2,none⟩,.bool (sg zz)),(⟨b',o'+tvv*2+1,none⟩,.string (E zz.natAbs))]:=CA.cons hQl (hQ3.cell 2) (CA.cons hbl x2 (CA.cons hbl x3 (CA.cons hbl x4 (CA.cons hbl' y1 (CA.cons hbl' y2 (CA.nil _))))));have hneA:=fun x hx=>Nat.ne_of_lt (hC x hx).1
     clear hT3 hZ3 x2 x3 x4 y1 y2;obtain ⟨hQ3c0,hQ3f0,hQ3c1,hQ3f1,hQ3c2,hQ3f2⟩:=hQ3.x3;go_upto_region 11 with fail
     clear hQ3c0 hQ3f0 hQ3c1 hQ3f1 hQ3c2 hQ3f2;go_cut [12,13] (fun s12 s13 wx=>ZBox wq pz s12 s13 wx)
     case first =>
      go_region_held3 (fun w'=>w'.cell? ⟨g8,2,none⟩=some (.slice (some ⟨b,o,none⟩) n4 tc)∧w'.cell? ⟨b,o+j*4+1,none⟩=some (.int .i64 (tvv:Int))∧w'.cell? ⟨b,o+j*4+2,none⟩=some (.bool (sg tz))∧w'.cell? ⟨b,o+j*4+3,none⟩=some (.string (E tz.natAbs))∧w'.cell? ⟨b',o'+tvv*2,none⟩=some (.bool (sg zz))∧w'.cell? ⟨b',o'+tvv*2+1,none⟩=some (.string (E zz.natAbs))) ((refine CA.k6 ?_;repeat (first | (with_reducible exact hCf) | (with_reducible exact hC) | (with_reducible refine CA.drew ?_) | (with_reducible refine CA.alloc ?_ _) | (refine CA.set ?_ _ _ _ hneA))))
       ((go_at_call 36;refine (HMUL.out _).mono ?_;rintro e wf ⟨rfl,hbf⟩;have hCf:CA wf [(⟨g8,2,none⟩,.slice (some ⟨b,o,none⟩) n4 tc),(⟨b,o+j*4+1,none⟩,.int .i64 (tvv:Int)),(⟨b,o+j*4+2,none⟩,.bool (sg tz)),(⟨b,o+j*4+3,none⟩,.string (E tz.natAbs)),(⟨b',o'+tvv*2,none⟩,.bool (sg zz)),(⟨b',o'+tvv*2+1,none⟩,.string (E zz.natAbs))]:=(by first | exact hC.drew.after hbf | exact (hC.alloc _).drew.after hbf | exact (hC.drew.alloc _).after hbf);(try (have kA:=(Blk.new wq #[.bool false,.string { data:=#[] }] 72).drew.after hbf;have kA0:=kA.cell 0;have kA1:=kA.cell 1;have kA2:=kA.free 0;have kA3:=kA.free 1))))
      all_goals
       go_wp2_with fail
       go_meet
       first
        | exact ⟨_,rfl,rfl,Blk.new _ _ _,hbf.size,ba ((Below.drew (Below.refl _ _)).trans hbf) _⟩
        | exact ⟨_,rfl,rfl,(kA.set 0 _).set 1 _,Nat.le_refl _,((bt ((b1 wq _).drew) hbf).setCell (by simp) _).setCell (by simp) _⟩
     case rest =>
      obtain ⟨gx,rfl,rfl,hX,hgx,hbx⟩:=hcut;obtain ⟨wx,hwx⟩:∃wx,wx=wc:=⟨_,rfl⟩;subst hwx;have hrow:∀g,u10.ownBlock=some g→g<wq.heap.size:=fun g hg=>(own_lt hI.z hg).1
      have hQ4:=hQ3.after hbx;have x1':=(hbx.cell (p:=⟨b,o+j*4,none⟩) hbl).trans x1;have hbl4:=Nat.lt_of_lt_of_le hbl hbx.size;have hI9:=hI.after hbx;have hRA:wx.ownsRow wi.heap.size 22 1 u9 j (strs ((imgB q).take j)):=by have h:wx.ownsRow _ _ _ _ _ _:=hI9.a;rw [hI9.la] at h;exact h
      have hRZ:wx.ownsRow wi.heap.size 72 2 u10 j (ics (((imgX Z q).take j).map zI)):=by have h:wx.ownsRow _ _ _ _ _ _:=hI9.z;rw [hI9.lz] at h;exact h
      have hBx:=hI9.b;have hsx:=hBx.size;have HLA:=Lib.hid hI9.la;have HLZ:=Lib.hid hI9.lz;clear hI9 hI hC hneA hQ3 x1 hbl hbl';generalize (imgB q).take j=LB at hRA HSB HLA;generalize (imgX Z q).take j=LX at hRZ HSX HLZ;have hQl4:=hQ4.lt;have hrl:=fun g hg=>(own_lt hRA (g:=g) hg)
      obtain ⟨hQ4c0,hQ4f0,hQ4c1,hQ4f1,hQ4c2,hQ4f2⟩:=hQ4.x3;go_wp2_with (first | (at_builtin;refine wpList_append_lies _ rfl (.tmp 57) (.tmp 64) _ rfl wi.heap.size 22 i0 _ 1 16 Tryz.underlying32 HI0.out HA0.out HB0.out HC0.out rfl (by omega) u9 j (strs LB) rfl (own_after hRA (b1 _ (.cells #[.string (E tb)] 22))) ⟨wx.heap.size,0,none⟩ 1 1 [.string (E tb)] rfl rfl (Blk.new wx #[.string (E tb)] 22).cells (by simp [Value.oneCell']) (by omega) (by simp only [maxLen];omega) (by omega) (by rw [World.size_alloc];omega) (wx.heap.size+1) (by simp) ?_;intro ga ca wa hownA hgrowA hatA hltA;clear hatA hltA;have hXa:=(hX.alloc (.cells #[.string (E tb)] 22)).grown hgrowA (own_ne hRA hX (by decide));have hXal:=hXa.lt;have hXc0:=hXa.cell 0;have hXc1:=hXa.cell 1;have hRZa:wa.ownsRow wi.heap.size 72 2 u10 j (ics (LX.map zI)):=own_grown (own_after hRZ (b1 _ (.cells #[.string (E tb)] 22))) (own_after hRA (b1 _ (.cells #[.string (E tb)] 22))) (by decide) hgrowA;have hQa:=(hQ4.alloc (.cells #[.string (E tb)] 22)).grown hgrowA (own_ne hRA hQ4 (by decide));have hBa:Below wi.heap.size wi wa:=Below.grown (Below.alloc hBx (by omega) _) hgrowA (by simp;omega) (fun g hg=>(own_lt hRA hg).2);have hsa:=hBa.size) | (at_builtin;refine wpList_append_lies _ rfl (.tmp 66) (.tmp 68) _ rfl wi.heap.size 72 i1 _ 2 24 Tryz.underlying39 HI1.out HA1.out HB1.out HC1.out rfl (by omega) u10 j (ics (LX.map zI)) rfl (own_after hRZa (b1 _ (.cells #[.bool (sg pz),.string (E pz.natAbs)] 72))) ⟨wa.heap.size,0,none⟩ 1 1 [.bool (sg pz),.string (E pz.natAbs)] rfl rfl (Blk.new wa #[.bool (sg pz),.string (E pz.natAbs)] 72).cells (by simp [Value.oneCell']) (by omega) (by simp only [maxLen];omega) (by omega) (by rw [World.size_alloc];omega) (wa.heap.size+1) (by simp) ?_;intro gb cb wb hownB hgrowB hatB hltB;clear hatB hltB;have hAb:wb.ownsRow wi.heap.size 22 1 (.slice (some ⟨ga,0,none⟩) (j+1) ca) (j+1) (strs LB++[.string (E tb)]):=own_grown (own_after hownA (b1 _ (.cells #[.bool (sg pz),.string (E pz.natAbs)] 72))) (own_after hRZa (b1 _ (.cells #[.bool (sg pz),.string (E pz.natAbs)] 72))) (by decide) hgrowB;have hBb:Below wi.heap.size wi wb:=Below.grown (Below.alloc hBa (by omega) _) hgrowB (by simp;omega) (fun g hg=>(own_lt hRZa hg).2)))
      clear hQ4c0 hQ4f0 hQ4c1 hQ4f1 hQ4c2 hQ4f2
      have hIR:IRel wi (j+1) (LB++[tb]) (LX++[pz]) (.slice (some ⟨ga,0,none⟩) (j+1) ca) (.slice (some ⟨gb,0,none⟩) (j+1) cb) wb:=by
       refine ⟨?_,?_,by simp [HLA.out],by simp [HLZ.out],fun h=>by omega,fun h=>by omega,hBb⟩
       ·rw [NOwn,List.length_append,HLA.out,←strs_app];exact hAb
       ·rw [ZOwn,List.length_append,HLZ.out,←ics_app];exact hownB
      rw [←HSB.out,HPZ.out,←HGD.out,←HSX.out] at hIR;clear hAb hownB hownA hBa hBb hgrowA hgrowB hRZa hXa hQa hRA hRZ;go_wp2;go_roundw
      case rel=>exact ⟨j+1,by omega,by go_num,hIR⟩
      case measure=>simp [intOf];omega
    ·have HTB:Hid ((imgB q).take j=imgB q):=List.take_of_length_le (by have:=HN4.out;simp [imgB];omega);have HTX:Hid ((imgX Z q).take j=imgX Z q):=List.take_of_length_le (by have:=HN4.out;simp [imgX];omega);rw [HTB.out,HTX.out] at hI;have hP4:=hP2.after hI.b;have hO4:=own_after hO2 hI.b;have hbr4:=bt hbr2 hI.b;have t1:=(hI.b.cell (p:=⟨bg,og_+qg*2,none⟩) hbg2).trans z1;have t2:=(hI.b.cell (p:=⟨bg,og_+qg*2+1,none⟩) hbg2).trans z2;have hbg4:=Nat.lt_of_lt_of_le hbg2 hI.b.size;have hPl4:=hP4.lt
     have HPR:Hid (Calls Tryz.prog 162 #[.agg #[.string (E p),.string (E qq)],u9,u10] wq fun e w'=>e=.returned (.tuple #[.string (E (imgV N Z q)),.int .i64 0])∧Below wq.heap.size wq w'):=by
      rw [HIV.out];exact rproduct_c p qq (imgB q) (imgX Z q) u9 u10 wq HGZ.out.1 (lt128 HGZ.out.2) HCE.out.1 (by simp [imgB,imgX]) (by have:=HSZ.out.2.2.1;simp [imgB];omega) HCE.out.2.2 HXL.out hI.a.ss hI.z.zs
     clear hI hP2 hO2 hbr2 z1 z2 hbg2 hT2 hZ2;obtain ⟨hP4c0,hP4f0,hP4c1,hP4f1,hP4c2,hP4f2⟩:=hP4.x3;obtain ⟨hQ3c0,hQ3f0,hQ3c1,hQ3f1,hQ3c2,hQ3f2⟩:=hQ3.x3;go_wp2_with fail
     refine HPR.out.mono ?_;rintro e w3 ⟨rfl,hb3⟩;clear hP4c0 hP4f0 hP4c1 hP4f1 hP4c2 hP4f2;clear hQ3c0 hQ3f0 hQ3c1 hQ3f1 hQ3c2 hQ3f2;have hO3:=own_after hO4 hb3;have hbr3:=bt hbr4 hb3;have hLE:Hid (((N.imgs Z).take k).length=k):=by rw [Hid,List.length_take,NSta.imgs,List.length_map];omega
     rw [hLE.out] at hO3;clear HPR hb3 hO4 hbr4 hP4 hQ3 hQ;have hsz3:=hbr3.size;have HIM:=Lib.hid HST.out;generalize imgV N Z q=iv at HIM ⊢;generalize (N.imgs Z).take k=LI at hO3 HIM hLE;go_wp2_with (at_builtin;refine wpList_append_lies _ rfl (.tmp 82) (.tmp 84) _ rfl w1.heap.size 22 i0 _ 1 16 Tryz.underlying32 HI0.out HA0.out HB0.out HC0.out rfl (by omega) u6 k (strs LI) rfl (own_after hO3 (b1 _ (.cells #[.string (E iv)] 22))) ⟨w3.heap.size,0,none⟩ 1 1 [.string (E iv)] rfl rfl (Blk.new w3 #[.string (E iv)] 22).cells (by simp [Value.oneCell']) (by omega) (by simp only [maxLen];omega) (by omega) (by rw [World.size_alloc];omega) (w3.heap.size+1) (by simp) ?_;intro ga ca wa hown hgrow hat hlt2)
     have hOA:NOwn wa w1.heap.size (.slice (some ⟨ga,0,none⟩) (k+1) ca) (LI++[iv]):=by rw [NOwn,List.length_append,hLE.out,←strs_app];exact hown
     rw [←HIM.out] at hOA;have hbA:=(ba hbr3 (.cells #[.string (E iv)] 22)).grown hgrow (by rw [World.size_alloc];omega) (fun x hx=>(own_lt hO3 hx).2);clear hown hgrow hat hlt2 hO3 hbr3;go_wp2;go_roundw
     case rel=>exact ⟨k+1,by omega,by go_num,hOA,hbA⟩
     case measure=>simp [intOf];omega
  ·have HTK:Hid ((N.imgs Z).take k=N.imgs Z):=List.take_of_length_le (by rw [NSta.imgs,List.length_map,←HN3.out];omega);rw [HTK.out] at hO;have hs1:=hBW.size;obtain ⟨hP1c0,hP1f0,hP1c1,hP1f1,hP1c2,hP1f2⟩:=hP1.x3;go_wp2;go_ret2
   exact ⟨_,rfl,own_mono hO hs1,hBW1⟩
theorem rImages_c (N:NSta) (Z:List Int) (v1 v2 v3 v4:Value) (w:World) (hm:NOk N) (hS:NAt w v1 v2 v3 N) (hZ:ZsAt w v4 Z) (hz:∀z∈Z,z.natAbs<256^64) (hl:Z.length=N.vars.length) (hc:N.chk=0) :
  Calls Tryz.prog 67 #[.agg #[v1,v2,v3],v4] w (LPost w (N.imgs Z)):=by
 obtain ⟨a4,c4,rfl⟩:=hZ.form;have hbox:=b1 w (.cells #[v1,v2,v3] 29);have HRD:=Lib.hid (rcheck15_c N Z v1 v2 v3 _ _ hm (hS.after hbox) (hZ.after hbox) (fun z h=>lt64 (hz z h)) hl hc);have HIM:Hid (∀w',Below w.heap.size w w'→Calls Tryz.prog 117 #[.agg #[v1,v2,v3],.slice a4 Z.length c4] w' (LPost w' (N.imgs Z))):=fun w' hb'=>rimages_c N Z v1 v2 v3 _ w' hm (hS.after hb') (hZ.after hb') hz hl hc
 have hP:=Blk.new w #[v1,v2,v3] 29;obtain ⟨a1,c1,a2,c2,a3,c3,rfl,rfl,rfl⟩:=hS.forms;generalize Z.length=n at HRD HIM;generalize N.imgs Z=L at HIM;generalize N.grps.length=n1 at hP hbox HRD HIM;generalize N.vars.length=n2 at hP hbox HRD HIM;generalize N.eqs.length=n3 at hP hbox HRD HIM;clear hm hS hZ hz hl hc;obtain ⟨hPc0,hPf0,hPc1,hPf1,hPc2,hPf2⟩:=hP.x3;go_enter Tryz.func67,Tryz.ntmps67
 go_wp2_with fail
 refine HRD.out.mono ?_;rintro e w2 ⟨rfl,hb2⟩;clear hPc0 hPf0 hPc1 hPf1 hPc2 hPf2;replace hP:=hP.after hb2;have hBW:=bt hbox hb2;have hPl:=hP.lt;clear hb2;obtain ⟨hPc0,hPf0,hPc1,hPf1,hPc2,hPf2⟩:=hP.x3;go_wp2_with fail
 refine (HIM.out _ hBW).mono ?_;rintro e w3 ⟨v,rfl,hO,hb3⟩;go_wp2;go_ret2
 exact ⟨v,rfl,own_mono hO hBW.size,bt hBW hb3⟩
end
section
open Go.RowKit Go.Shelf
def kdN (b:Nat):Nat:=if b=0 then 0 else 1
theorem kind_c (b:Nat) (w:World):Calls Tryz.prog 96 #[.agg #[.string (E b)]] w fun e w'=>e=.returned (.int .i64 (kdN b:Nat))∧Below w.heap.size w w':=by
 rcases Nat.eq_zero_or_pos b with rfl | h0
 ·have hz:=zE (n:=0) rfl;go_enter Tryz.func96,Tryz.ntmps96
  go_wp2;go_ret
  exact ⟨rfl,b1 _ _⟩
 ·have hz:=nzE h0;have HK:Hid (kdN b=1):=if_neg (by omega);clear h0;go_enter Tryz.func96,Tryz.ntmps96
  go_wp2;go_ret
  exact ⟨by rw [HK.out];rfl,b1 _ _⟩
theorem kindV_c (b k:Nat) (w:World) (h:kdN b=k):Calls Tryz.prog 96 #[.agg #[.string (E b)]] w fun e w'=>e=.returned (.int .i64 k)∧Below w.heap.size w w':=by rw [←h];exact kind_c b w
theorem modular_c (C K q b:ByteArray) (w:World):Calls Tryz.prog 97 #[.agg #[.string C,.string K,.string q],.string b] w fun e w'=>e=.returned (.tuple #[.agg #[.string q,.string q],.int .i64 0])∧Below w.heap.size w w':=by
 have hA:=blk2a w #[Value.string C,Value.string K,Value.string q] #[.string { data:=#[] },.string { data:=#[] }] 154 104;have hB:=blk2b w #[Value.string C,Value.string K,Value.string q] #[.string { data:=#[] },.string { data:=#[] }] 154 104;have hBW:=b2 w (.cells #[Value.string C,Value.string K,Value.string q] 154) (.cells #[.string { data:=#[] },.string { data:=#[] }] 104);go_enter Tryz.func97,Tryz.ntmps97
 go_wp2;refine bodyPost_ret (v:=.tuple #[.agg #[.string q,.string q],.int .i64 0]) ?_ rfl ⟨rfl,?_⟩
 ·simp [results,Tryz.results97,go_sem]
 ·first | exact b2 _ _ _ | exact (hBW.setCell (by simp) _).setCell (by simp) _
theorem mul_cb {C K b:Nat} (h1:1≤K):(C-1)*(b-1)≤K*C*b:=by
 refine Nat.le_trans (Nat.mul_le_mul (Nat.sub_le C 1) (Nat.sub_le b 1)) ?_;exact Nat.mul_le_mul_right _ (Nat.le_mul_of_pos_left _ h1)
theorem lt_mul3 {C K b:Nat} (hC:C<256^16) (hK:K<256^16) (hb:b<256^16):K*C<256^32∧K*C*b<256^48:=by
 have h1:K*C<256^32:=by
  have:=Nat.mul_lt_mul'' hK hC;rwa [←Nat.pow_add] at this
 have h2:K*C*b<256^48:=by
  have:=Nat.mul_lt_mul'' h1 hb;rwa [←Nat.pow_add] at this
 exact ⟨h1,h2⟩
theorem lt128' {n k:Nat} (h:n<256^k) (hk:k≤128):n<256^128:=Nat.lt_of_lt_of_le h (Nat.pow_le_pow_right (by decide) hk)
theorem mulV_c (a b r:Nat) (w:World) (ha:a<256^128) (hb:b<256^128) (h:r<256^128) (hr:a*b=r) :
  Calls Tryz.prog 146 #[.string (E a),.string (E b)] w fun e w'=>e=.returned (.tuple #[.string (E r),.int .i64 0])∧Below w.heap.size w w':=by
 rw [←hr];exact mul_c a b w ha hb (by rw [hr];exact h)
theorem subV_c (a b r:Nat) (w:World) (ha:a<256^128) (hb:b≤a) (hr:a-b=r) :
  Calls Tryz.prog 147 #[.string (E a),.string (E b)] w fun e w'=>e=.returned (.tuple #[.string (E r),.int .i64 0])∧Below w.heap.size w w':=by
 rw [←hr];exact sub_c a b w ha hb
theorem integral_c (C K q b:Nat) (w:World) (hC:C<256^16) (hK:K<256^16) (hb:b<256^16) (h1:1≤C) (h2:1≤K) (h3:1≤b) :
  Calls Tryz.prog 98 #[.agg #[.string (E C),.string (E K),.string (E q)],.string (E b)] w fun e w'=>e=.returned (.tuple #[.agg #[.string (E (K*C*b)),.string (E (K*C*b-(C-1)*(b-1)))],.int .i64 0])∧Below w.heap.size w w':=by
 obtain ⟨hkc,hkcb⟩:=lt_mul3 hC hK hb;have hcb:=mul_cb (C:=C) (b:=b) h2;obtain ⟨m1,hm1⟩:∃m,m=K*C:=⟨_,rfl⟩;obtain ⟨m2,hm2⟩:∃m,m=m1*b:=⟨_,rfl⟩;obtain ⟨c1,hc1⟩:∃m,m=C-1:=⟨_,rfl⟩;obtain ⟨d1,hd1⟩:∃m,m=b-1:=⟨_,rfl⟩;obtain ⟨e1,he1⟩:∃m,m=c1*d1:=⟨_,rfl⟩;obtain ⟨t,ht⟩:∃m,m=m2-e1:=⟨_,rfl⟩;rw [←hm1,←hm2] at hkcb;rw [←hm1] at hkc;rw [←hc1,←hd1,←hm1,←hm2,←he1] at hcb ⊢;rw [←ht];have HO:=Lib.hid (fun w=>ofK_c 1 1 w rfl (by decide));have H1:=Lib.hid (fun w=>mulV_c K C m1 w (lt128' hK (by decide)) (lt128' hC (by decide)) (lt128' hkc (by decide)) hm1.symm);have H2:=Lib.hid (fun w=>mulV_c m1 b m2 w (lt128' hkc (by decide)) (lt128' hb (by decide)) (lt128' hkcb (by decide)) hm2.symm);have H3:=Lib.hid (fun w=>subV_c C 1 c1 w (lt128' hC (by decide)) h1 hc1.symm);have H4:=Lib.hid (fun w=>subV_c b 1 d1 w (lt128' hb (by decide)) h3 hd1.symm);have he:e1<256^128:=Nat.lt_of_le_of_lt hcb (lt128' hkcb (by decide));have H5:=Lib.hid (fun w=>mulV_c c1 d1 e1 w (by have:=lt128' hC (by decide);omega) (by have:=lt128' hb (show 16≤128 by decide);omega) he he1.symm);have H6:=Lib.hid (fun w=>subV_c m2 e1 t w (lt128' hkcb (by decide)) hcb ht.symm);have hA:=blk2a w #[Value.string (E C),Value.string (E K),Value.string (E q)] #[.string { data:=#[] },.string { data:=#[] }] 154 104;have hB:=blk2b w #[Value.string (E C),Value.string (E K),Value.string (E q)] #[.string { data:=#[] },.string { data:=#[] }] 154 104;have hBW:=b2 w (.cells #[Value.string (E C),Value.string (E K),Value.string (E q)] 154) (.cells #[.string { data:=#[] },.string { data:=#[] }] 104);clear hC hK hb h1 h2 h3 hkc hkcb hcb hm1 hm2 hc1 hd1 he1 ht he;go_enter Tryz.func98,Tryz.ntmps98
 go_wp2_with fail
 refine (HO.out _).mono ?_;rintro e w1 ⟨rfl,hb1⟩;replace hA:=hA.after hb1;replace hB:=hB.after hb1;replace hBW:=bt hBW hb1;clear hb1;obtain ⟨hAc0,hAf0,hAc1,hAf1,hAc2,hAf2⟩:=hA.x3;go_wp2_with fail
 refine (H1.out _).mono ?_;rintro e w2 ⟨rfl,hb2⟩;clear hAc0 hAf0 hAc1 hAf1 hAc2 hAf2;replace hA:=hA.after hb2;replace hB:=hB.after hb2;replace hBW:=bt hBW hb2;clear hb2;go_wp2_with fail
 refine (H2.out _).mono ?_;rintro e w3 ⟨rfl,hb3⟩;replace hA:=hA.after hb3;replace hB:=hB.after hb3;replace hBW:=bt hBW hb3;clear hb3;obtain ⟨hAc0,hAf0,hAc1,hAf1,hAc2,hAf2⟩:=hA.x3;go_wp2_with fail
 refine (H3.out _).mono ?_;rintro e w4 ⟨rfl,hb4⟩;clear hAc0 hAf0 hAc1 hAf1 hAc2 hAf2;replace hB:=hB.after hb4;replace hBW:=bt hBW hb4;clear hb4;go_wp2_with fail
 refine (H4.out _).mono ?_;rintro e w5 ⟨rfl,hb5⟩;replace hB:=hB.after hb5;replace hBW:=bt hBW hb5;clear hb5;go_wp2_with fail
 refine (H5.out _).mono ?_;rintro e w6 ⟨rfl,hb6⟩;replace hB:=hB.after hb6;replace hBW:=bt hBW hb6;clear hb6;go_wp2_with fail
 refine (H6.out _).mono ?_;rintro e w7 ⟨rfl,hb7⟩;replace hB:=hB.after hb7;replace hBW:=bt hBW hb7;clear hb7;have hBl:=hB.lt;obtain ⟨hBc0,hBf0,hBc1,hBf1⟩:=hB.x2;go_wp2;refine bodyPost_ret (v:=.tuple #[.agg #[.string (E m2),.string (E t)],.int .i64 0]) ?_ rfl ⟨rfl,?_⟩
 ·simp [results,Tryz.results98,go_sem,hBc0,hBc1,hBl]
 ·first | exact b2 _ _ _ | exact (hBW.setCell (by simp) _).setCell (by simp) _
def blw (b:Nat) (x:Int) (l:Nat):Bool:=decide (x.natAbs<l)&&(!(vz b) || !(sg x))
theorem blw_ge {b l:Nat} {x:Int} (h:l≤x.natAbs):blw b x l=false:=by unfold blw;rw [decide_eq_false (by omega)];rfl
theorem blw_pos {b l:Nat} {x:Int} (h:x.natAbs<l) (hb:0<b):blw b x l=true:=by unfold blw;rw [decide_eq_true h,vz_pos hb];rfl
theorem blw_zero {l:Nat} {x:Int} (h:x.natAbs<l):blw 0 x l=!(sg x):=by unfold blw;rw [decide_eq_true h];rfl
theorem below_c (b:Nat) (x:Int) (l:Nat) (w:World) (hx:x.natAbs<256^128) (hl:l<256^128) :
  Calls Tryz.prog 52 #[.agg #[.string (E b)],.agg #[.bool (sg (x)),.string (E (x).natAbs)],.string (E l)] w fun e w'=>e=.returned (.bool (blw b x l))∧Below w.heap.size w w':=by
 have HX:=Lib.hid hx;have HL:=Lib.hid hl;have hA:=blk2a w #[Value.string (E b)] #[.bool (sg x),.string (E x.natAbs)] 99 72;have hB:=blk2b w #[Value.string (E b)] #[.bool (sg x),.string (E x.natAbs)] 99 72;have hBW:=b2 w (.cells #[Value.string (E b)] 99) (.cells #[.bool (sg x),.string (E x.natAbs)] 72);clear hx hl;rcases Nat.lt_or_ge x.natAbs l with hlt | hge
 ·have hc:=cmp_neg _ _ hlt;have HLT:=Lib.hid hlt;clear hlt;rcases Nat.eq_zero_or_pos b with rfl | h0
  ·have HK:=Lib.hid (fun w=>kindV_c 0 0 w rfl);have HF:=Lib.hid (blw_zero HLT.out);go_enter Tryz.func52,Tryz.ntmps52
   go_wp2_with fail
   refine (cmp_c _ _ _ HX.out HL.out).mono ?_;rintro e w' ⟨rfl,rfl⟩;go_wp2_with fail
   refine (HK.out _).mono ?_;rintro e w1 ⟨rfl,hb1⟩;replace hB:=hB.after hb1;replace hBW:=bt hBW hb1;clear hb1;have hBl:=hB.lt;obtain ⟨hBc0,hBf0,hBc1,hBf1⟩:=hB.x2;go_wp2;go_ret
   exact ⟨by rw [HF.out];rfl,hBW⟩
  ·have HK:=Lib.hid (fun w=>kindV_c b 1 w (if_neg (by omega)));have HF:=Lib.hid (blw_pos HLT.out h0);clear h0;go_enter Tryz.func52,Tryz.ntmps52
   go_wp2_with fail
   refine (cmp_c _ _ _ HX.out HL.out).mono ?_;rintro e w' ⟨rfl,rfl⟩;go_wp2_with fail
   refine (HK.out _).mono ?_;rintro e w1 ⟨rfl,hb1⟩;replace hB:=hB.after hb1;replace hBW:=bt hBW hb1;clear hb1;have hBl:=hB.lt;obtain ⟨hBc0,hBf0,hBc1,hBf1⟩:=hB.x2;go_wp2;go_ret
   exact ⟨by rw [HF.out];rfl,hBW⟩
 ·have hc:=cmp_nneg _ _ hge;have HF:=Lib.hid (blw_ge (b:=b) hge);clear hge;go_enter Tryz.func52,Tryz.ntmps52
  go_wp2_with fail
  refine (cmp_c _ _ _ HX.out HL.out).mono ?_;rintro e w' ⟨rfl,rfl⟩;go_wp2;go_ret
  exact ⟨by rw [HF.out];rfl,hBW⟩
theorem svalid_c (l:List (Bool × ByteArray)) (v:Value) (w:World) (hn:l.length≤1000) (hs:∀x∈l,x.2.size≤1000) (hR:IsAt w v l) :
  Calls Tryz.prog 48 #[v] w fun e w'=>e=.returned (.bool (l.all fun x=>ivB x.1 x.2))∧Below w.heap.size w w':=by
 obtain ⟨r,hr⟩:∃r:Bool,r=l.all fun x=>ivB x.1 x.2:=⟨_,rfl⟩
 have HRES:=Lib.hid hr;rw [←hr];clear hr;obtain ⟨ao,c,rfl⟩:=RAt.form hR;obtain ⟨n,hn'⟩:∃n,n=l.length:=⟨_,rfl⟩;have HN:=Lib.hid hn';have HS:=Lib.hid hs;rw [←hn'] at hR hn ⊢;clear hn' hs;go_enter Tryz.func48,Tryz.ntmps48
 go_wp2;go_loopw [7] (fun i wr=>∃k:Nat,k≤n∧i=.int .i64 k∧Hid ((l.take k).all (fun x=>ivB x.1 x.2)=true)∧Below w.heap.size w wr) (fun i _=>n-(intOf i).toNat)
 case atStart=>exact ⟨0,by omega,rfl,rfl,Below.refl _ _⟩
 case round =>
  obtain ⟨k,hk,rfl,HA,hbr⟩:=hrel;obtain ⟨wp,hwp⟩:∃wp,wp=wr:=⟨_,rfl⟩;subst hwp;replace hR:=IsAt.after hR hbr;by_cases hlt:k<n
  ·have hkl:k<l.length:=by rw [←HN.out];exact hlt
   have HT:=Lib.hid (all_take (fun x:Bool × ByteArray=>ivB x.1 x.2) l k hkl);have HBAD:Hid (ivB (l[k]'hkl).1 (l[k]'hkl).2=false→r=false):=fun h=>by rw [HRES.out];exact all_bad (fun x:Bool × ByteArray=>ivB x.1 x.2) l k hkl h
   have HSZ:=Lib.hid (HS.out _ (List.getElem_mem hkl));obtain ⟨b,o,rfl,hbl,x1,x2⟩:=IsAt.at_ hR hkl;generalize (l[k]'hkl)=x at x1 x2 HT HBAD HSZ;obtain ⟨y1,y2⟩:=x;simp only [] at x1 x2;have h0k:(0:Int)≤(k:Int):=by omega
   have h1k:(k:Int)<(n:Int):=by omega
   clear hR;cases hv:ivB y1 y2
   ·have HF:Hid (r=false):=HBAD.out hv;have HV:=Lib.hid hv;clear hv HT HBAD;go_wp2_with fail
    refine (ivalB_c y1 y2 false _ HSZ.out HV.out).mono ?_;rintro e w2 ⟨rfl,hb2⟩;go_wp2;go_ret
    exact ⟨by rw [HF.out];rfl,bt (ba hbr _) hb2⟩
   ·have HX:Hid ((l.take (k+1)).all (fun x=>ivB x.1 x.2)=true):=by rw [Hid,HT.out,HA.out];exact hv
    have HV:=Lib.hid hv;clear hv HT HBAD;go_wp2_with fail
    refine (ivalB_c y1 y2 true _ HSZ.out HV.out).mono ?_;rintro e w2 ⟨rfl,hb2⟩;go_wp2;go_roundw
    case rel=>exact ⟨k+1,by omega,by go_num,HX,bt (ba hbr _) hb2⟩
    case measure=>simp [intOf];omega
  ·have HF:Hid (r=true):=by rw [Hid,HRES.out];exact all_end _ l k (by rw [←HN.out];omega) HA.out
   go_wp2;go_ret
   exact ⟨by rw [HF.out];rfl,hbr⟩
end
section
open Go.RowKit Go.Shelf
def lim (q C K b:Nat):Nat × Nat:=if b=0 then (q,q) else (K*C*b,K*C*b-(C-1)*(b-1))
def NSta.lims (N:NSta) (C K:Nat):List (Nat × Nat):=N.vars.map (lim N.ord C K)
def lcs (L:List (Nat × Nat)):List Value:=L.flatMap fun x=>[.string (E x.1),.string (E x.2)]
theorem lcs_app (a b:List (Nat × Nat)):lcs a++lcs b=lcs (a++b):=by simp [lcs]
theorem lcs_get (L:List (Nat × Nat)) (j:Nat) (h:j<L.length):(lcs L)[j*2]?=some (.string (E L[j].1))∧(lcs L)[j*2+1]?=some (.string (E L[j].2)):=by
 induction L generalizing j with
 | nil=>simp at h
 | cons x t ih =>
  cases j with
  | zero=>exact ⟨rfl,rfl⟩
  | succ j =>
   have h':j<t.length:=by simpa using h
   have:=ih j h';rw [show (j+1)*2=j*2+2 by omega];simpa [lcs] using this
def LmOwn (w:World) (base:Nat) (v:Value) (L:List (Nat × Nat)):Prop:=w.ownsRow base 104 2 v L.length (lcs L)
theorem LmOwn.after {w w':World} {base:Nat} {v:Value} {L:List (Nat × Nat)} (h:LmOwn w base v L) (hb:Below w.heap.size w w'):LmOwn w' base v L:=own_after h hb
theorem LmOwn.form {w:World} {base:Nat} {v:Value} {L:List (Nat × Nat)} (h:LmOwn w base v L):∃ao c,v=.slice ao L.length c:=by
 have k:w.ownsRow base 104 2 v L.length (lcs L):=h;rcases k.2 with ⟨rfl,h2⟩ | ⟨g,cap,cur,rfl,_⟩
 ·exact ⟨none,0,by rw [h2]⟩
 ·exact ⟨_,_,rfl⟩
theorem LmOwn.at_ {w:World} {base n c:Nat} {ao:Option Addr} {L:List (Nat × Nat)} (h:LmOwn w base (.slice ao n c) L) {j:Nat} (hj:j<L.length) :
  ∃b,ao=some ⟨b,0,none⟩∧b<w.heap.size∧w.cell? ⟨b,j*2,none⟩=some (.string (E L[j].1))∧w.cell? ⟨b,j*2+1,none⟩=some (.string (E L[j].2)):=by
 have k:w.ownsRow base 104 2 (.slice ao n c) L.length (lcs L):=h;rcases k.2 with ⟨hv,h2⟩ | ⟨g,cap,cur,hv,h3,h4,_⟩
 ·omega
 ·injection hv with e1 e2 e3
  subst e1 e2 e3;obtain ⟨q1,q2⟩:=lcs_get L j hj;exact ⟨g,rfl,(Array.getElem?_eq_some_iff.1 h4).1,own_cellS k _ _ q1,own_cellS k _ _ q2⟩
theorem info_lim:(Tryz.prog.info? 104).map (fun i=>(i.zero,i.size,i.bytes))=some (some (.agg #[.string { data:=#[] },.string { data:=#[] }]),2,32):=by kernel_rfl
theorem bounds_rule (C K:ByteArray) (v1 v2 v3:Value) (w:World) (hC:C.size≤1000) (hK:K.size≤1000) (h:(vldB C&&vldB K)=false) :
  Calls Tryz.prog 42 #[.agg #[.string C,.string K],.agg #[v1,v2,v3]] w fun e w'=>e=.returned (.tuple #[.slice none 0 0,.int .i64 3])∧Below w.heap.size w w':=by
 have HC:=Lib.hid hC;have HK:=Lib.hid hK;have hR:=blk2a w #[Value.string C,Value.string K] #[v1,v2,v3] 24 29;have hP:=blk2b w #[Value.string C,Value.string K] #[v1,v2,v3] 24 29;have hBW:=b2 w (.cells #[Value.string C,Value.string K] 24) (.cells #[v1,v2,v3] 29);clear hC hK;cases h1:vldB C
 ·have HV:=Lib.hid h1;clear h1 h;obtain ⟨hRc0,hRf0,hRc1,hRf1⟩:=hR.x2;go_enter Tryz.func42,Tryz.ntmps42
  go_wp2_with fail
  refine (validV_c C false _ (by have:=HC.out;omega) HV.out).mono ?_;rintro e w' ⟨rfl,rfl⟩;go_wp2;go_ret2
  exact ⟨rfl,hBW⟩
 ·have h2:vldB K=false:=by rw [h1] at h;exact h
  have HV:=Lib.hid h1;have HV2:=Lib.hid h2;clear h1 h2 h;obtain ⟨hRc0,hRf0,hRc1,hRf1⟩:=hR.x2;go_enter Tryz.func42,Tryz.ntmps42
  go_wp2_with fail
  refine (validV_c C true _ (by have:=HC.out;omega) HV.out).mono ?_;rintro e w' ⟨rfl,rfl⟩;go_wp2_with fail
  refine (validV_c K false _ (by have:=HK.out;omega) HV2.out).mono ?_;rintro e w' ⟨rfl,rfl⟩;go_wp2;go_ret2
  exact ⟨rfl,hBW⟩
theorem bounds_chk (C K:Nat) (v1 v2 v3:Value) (k:Nat) (w:World) (hC:C<256^16) (hK:K<256^16) (hk:k≠0)
  (hch:∀w',Below w.heap.size w w'→Calls Tryz.prog 94 #[.agg #[v1,v2,v3]] w' fun e w''=>e=.returned (.int .i64 k)∧Below w'.heap.size w' w'') :
  Calls Tryz.prog 42 #[.agg #[.string (E C),.string (E K)],.agg #[v1,v2,v3]] w fun e w'=>e=.returned (.tuple #[.slice none 0 0,.int .i64 k])∧Below w.heap.size w w':=by
 have HC:=Lib.hid (lt128' hC (by decide));have HK:=Lib.hid (lt128' hK (by decide));have HCH:=Lib.hid hch;have hkb:((k:Int) != 0)=true:=by rw [bne_iff_ne];omega
 have hR:=blk2a w #[.string (E C),.string (E K)] #[v1,v2,v3] 24 29;have hP:=blk2b w #[.string (E C),.string (E K)] #[v1,v2,v3] 24 29;have hBW:=b2 w (.cells #[.string (E C),.string (E K)] 24) (.cells #[v1,v2,v3] 29);clear hC hK hch hk;obtain ⟨hRc0,hRf0,hRc1,hRf1⟩:=hR.x2;obtain ⟨hPc0,hPf0,hPc1,hPf1,hPc2,hPf2⟩:=hP.x3;go_enter Tryz.func42,Tryz.ntmps42
 go_wp2_with fail
 refine (validE_c C _ HC.out).mono ?_;rintro e w' ⟨rfl,rfl⟩;go_wp2_with fail
 refine (validE_c K _ HK.out).mono ?_;rintro e w' ⟨rfl,rfl⟩;go_wp2_with fail
 refine (HCH.out _ hBW).mono ?_;rintro e w2 ⟨rfl,hb2⟩;go_wp2;go_ret2
 exact ⟨rfl,bt hBW hb2⟩
def SBox (w:World) (T:TypeId) (cs:List Value) (s8:Value) (wx:World):Prop:=∃g,s8=.pointer (some ⟨g,0,none⟩)∧Blk wx g T cs∧w.heap.size≤g∧Below w.heap.size w wx
theorem chk0_c (N:NSta) (v1 v2 v3:Value) (w:World) (hm:NOk N) (hS:NAt w v1 v2 v3 N) (hc:N.chk=0) :
  ∀w',Below w.heap.size w w'→Calls Tryz.prog 94 #[.agg #[v1,v2,v3]] w' fun e w''=>e=.returned (.int .i64 0)∧Below w'.heap.size w' w'':=fun w' hb'=>by
 have h:=check_c N v1 v2 v3 w' hm (hS.after hb');rw [hc] at h;exact h
theorem bounds_two (N:NSta) (C K:Nat) (v1 v2 v3:Value) (w:World) (hC:C<256^16) (hK:K<256^16) (h2:C<2∨K<2) (hm:NOk N) (hS:NAt w v1 v2 v3 N) (hc:N.chk=0) :
  Calls Tryz.prog 42 #[.agg #[.string (E C),.string (E K)],.agg #[v1,v2,v3]] w fun e w'=>e=.returned (.tuple #[.slice none 0 0,.int .i64 2])∧Below w.heap.size w w':=by
 have HC:=Lib.hid (lt128' hC (by decide));have HK:=Lib.hid (lt128' hK (by decide));have HTWO:=Lib.hid (fun w=>ofK_c 2 2 w rfl (by decide));have HCK:=Lib.hid hc;obtain ⟨a1,c1,a2,c2,a3,c3,rfl,rfl,rfl⟩:=hS.forms;obtain ⟨n1,hn1⟩:∃n,n=N.grps.length:=⟨_,rfl⟩;obtain ⟨n2,hn2⟩:∃n,n=N.vars.length:=⟨_,rfl⟩;obtain ⟨n3,hn3⟩:∃n,n=N.eqs.length:=⟨_,rfl⟩;have HN1:=Lib.hid hn1;have HN2:=Lib.hid hn2;have HN3:=Lib.hid hn3;have l1:n1≤10:=by rw [hn1];exact hm.ng
 have l2:n2≤12:=by rw [hn2];exact hm.nv
 have l3:n3≤12:=by rw [hn3];exact hm.ne
 have HM:=Lib.hid hm;rw [←hn1,←hn2,←hn3] at hS ⊢;clear hm hn1 hn2 hn3;have HCHK:=Lib.hid (chk0_c N _ _ _ w HM.out hS HCK.out);have hR:=blk2a w #[.string (E C),.string (E K)] #[.slice a1 n1 c1,.slice a2 n2 c2,.slice a3 n3 c3] 24 29;have hP:=blk2b w #[.string (E C),.string (E K)] #[.slice a1 n1 c1,.slice a2 n2 c2,.slice a3 n3 c3] 24 29;have hBW:=b2 w (.cells #[.string (E C),.string (E K)] 24) (.cells #[.slice a1 n1 c1,.slice a2 n2 c2,.slice a3 n3 c3] 29);replace hS:=hS.after hBW;clear hC hK hc;by_cases hc2:C<2
 ·have hlt:=cmp_neg C 2 hc2;clear hc2 h2;obtain ⟨hRc0,hRf0,hRc1,hRf1⟩:=hR.x2;obtain ⟨hPc0,hPf0,hPc1,hPf1,hPc2,hPf2⟩:=hP.x3;go_enter Tryz.func42,Tryz.ntmps42
  go_wp2_with fail
  refine (validE_c C _ HC.out).mono ?_;rintro e w' ⟨rfl,rfl⟩;go_wp2_with fail
  refine (validE_c K _ HK.out).mono ?_;rintro e w' ⟨rfl,rfl⟩;go_wp2_with fail
  refine (HCHK.out _ hBW).mono ?_;rintro e w2 ⟨rfl,hb2⟩;clear hRc0 hRf0 hRc1 hRf1;clear hPc0 hPf0 hPc1 hPf1 hPc2 hPf2;replace hR:=hR.after hb2;replace hP:=hP.after hb2;replace hS:=hS.after hb2;replace hBW:=bt hBW hb2;clear hb2;go_wp2_with fail
  refine (HTWO.out _).mono ?_;rintro e w3 ⟨rfl,hb3⟩;replace hR:=hR.after hb3;replace hP:=hP.after hb3;replace hS:=hS.after hb3;replace hBW:=bt hBW hb3;clear hb3;have hRl:=hR.lt;have hPl:=hP.lt;obtain ⟨hRc0,hRf0,hRc1,hRf1⟩:=hR.x2;go_wp2_with fail
  refine (cmp_c C 2 _ HC.out (by decide)).mono ?_;rintro e w' ⟨rfl,rfl⟩;go_wp2;go_ret2
  exact ⟨rfl,hBW⟩
 ·have hnl:=cmp_nneg C 2 (by omega);have hlt:=cmp_neg K 2 (by omega);clear hc2 h2;obtain ⟨hRc0,hRf0,hRc1,hRf1⟩:=hR.x2;obtain ⟨hPc0,hPf0,hPc1,hPf1,hPc2,hPf2⟩:=hP.x3;go_enter Tryz.func42,Tryz.ntmps42
  go_wp2_with fail
  refine (validE_c C _ HC.out).mono ?_;rintro e w' ⟨rfl,rfl⟩;go_wp2_with fail
  refine (validE_c K _ HK.out).mono ?_;rintro e w' ⟨rfl,rfl⟩;go_wp2_with fail
  refine (HCHK.out _ hBW).mono ?_;rintro e w2 ⟨rfl,hb2⟩;clear hRc0 hRf0 hRc1 hRf1;clear hPc0 hPf0 hPc1 hPf1 hPc2 hPf2;replace hR:=hR.after hb2;replace hP:=hP.after hb2;replace hS:=hS.after hb2;replace hBW:=bt hBW hb2;clear hb2;go_wp2_with fail
  refine (HTWO.out _).mono ?_;rintro e w3 ⟨rfl,hb3⟩;replace hR:=hR.after hb3;replace hP:=hP.after hb3;replace hS:=hS.after hb3;replace hBW:=bt hBW hb3;clear hb3;have hRl:=hR.lt;have hPl:=hP.lt;obtain ⟨hRc0,hRf0,hRc1,hRf1⟩:=hR.x2;go_wp2_with fail
  refine (cmp_c C 2 _ HC.out (by decide)).mono ?_;rintro e w' ⟨rfl,rfl⟩;go_wp2_with fail
  refine (cmp_c K 2 _ HK.out (by decide)).mono ?_;rintro e w' ⟨rfl,rfl⟩;go_wp2;go_ret2
  exact ⟨rfl,hBW⟩
theorem ord_lt {N:NSta} (hm:NOk N):N.ord<256^8:=by
 by_cases h:N.grps.all og=true
 ·rw [ord_none N h];decide
 ·unfold NSta.ord;cases hf:(N.grps.map (·.2)).find? (· != 0) with
  | none=>exact Nat.pow_pos (by decide)
  | some q =>
   have:=List.mem_of_find?_eq_some hf;obtain ⟨g,hg,rfl⟩:=List.mem_map.1 this;exact (hm.g g hg).2
theorem bounds_ord (N:NSta) (C K:Nat) (v1 v2 v3:Value) (w:World) (hC:C<256^16) (hK:K<256^16) (h2:2≤C) (h3:2≤K) (hv:N.vars.any vz=true) (ho:N.ord<C) (hm:NOk N) (hS:NAt w v1 v2 v3 N) (hc:N.chk=0) :
  Calls Tryz.prog 42 #[.agg #[.string (E C),.string (E K)],.agg #[v1,v2,v3]] w fun e w'=>e=.returned (.tuple #[.slice none 0 0,.int .i64 2])∧Below w.heap.size w w':=by
 have HC:=Lib.hid (lt128' hC (by decide));have HK:=Lib.hid (lt128' hK (by decide));have HO:=Lib.hid ho;have HV:=Lib.hid hv;have HTWO:=Lib.hid (fun w=>ofK_c 2 2 w rfl (by decide));have HCK:=Lib.hid hc;obtain ⟨a1,c1,a2,c2,a3,c3,rfl,rfl,rfl⟩:=hS.forms;obtain ⟨n1,hn1⟩:∃n,n=N.grps.length:=⟨_,rfl⟩;obtain ⟨n2,hn2⟩:∃n,n=N.vars.length:=⟨_,rfl⟩;obtain ⟨n3,hn3⟩:∃n,n=N.eqs.length:=⟨_,rfl⟩;have HN1:=Lib.hid hn1;have HN2:=Lib.hid hn2;have HN3:=Lib.hid hn3;have l1:n1≤10:=by rw [hn1];exact hm.ng
 have l2:n2≤12:=by rw [hn2];exact hm.nv
 have l3:n3≤12:=by rw [hn3];exact hm.ne
 have HM:=Lib.hid hm;rw [←hn1,←hn2,←hn3] at hS ⊢;clear hm hn1 hn2 hn3;have HCHK:=Lib.hid (chk0_c N _ _ _ w HM.out hS HCK.out);have hR:=blk2a w #[.string (E C),.string (E K)] #[.slice a1 n1 c1,.slice a2 n2 c2,.slice a3 n3 c3] 24 29;have hP:=blk2b w #[.string (E C),.string (E K)] #[.slice a1 n1 c1,.slice a2 n2 c2,.slice a3 n3 c3] 24 29;have hBW:=b2 w (.cells #[.string (E C),.string (E K)] 24) (.cells #[.slice a1 n1 c1,.slice a2 n2 c2,.slice a3 n3 c3] 29);replace hS:=hS.after hBW;have hnl:=cmp_nneg C 2 h2;have hnl2:=cmp_nneg K 2 h3;clear hC hK hc h2 h3 hv ho;obtain ⟨hRc0,hRf0,hRc1,hRf1⟩:=hR.x2;obtain ⟨hPc0,hPf0,hPc1,hPf1,hPc2,hPf2⟩:=hP.x3;go_enter Tryz.func42,Tryz.ntmps42
 go_wp2_with fail
 refine (validE_c C _ HC.out).mono ?_;rintro e w' ⟨rfl,rfl⟩;go_wp2_with fail
 refine (validE_c K _ HK.out).mono ?_;rintro e w' ⟨rfl,rfl⟩;go_wp2_with fail
 refine (HCHK.out _ hBW).mono ?_;rintro e w2 ⟨rfl,hb2⟩;clear hRc0 hRf0 hRc1 hRf1;clear hPc0 hPf0 hPc1 hPf1 hPc2 hPf2;replace hR:=hR.after hb2;replace hP:=hP.after hb2;replace hS:=hS.after hb2;replace hBW:=bt hBW hb2;clear hb2;go_wp2_with fail
 refine (HTWO.out _).mono ?_;rintro e w3 ⟨rfl,hb3⟩;replace hR:=hR.after hb3;replace hP:=hP.after hb3;replace hS:=hS.after hb3;replace hBW:=bt hBW hb3;clear hb3;have hRl:=hR.lt;have hPl:=hP.lt;obtain ⟨hRc0,hRf0,hRc1,hRf1⟩:=hR.x2;go_wp2_with fail
 refine (cmp_c C 2 _ HC.out (by decide)).mono ?_;rintro e w' ⟨rfl,rfl⟩;go_wp2_with fail
 refine (cmp_c K 2 _ HK.out (by decide)).mono ?_;rintro e w' ⟨rfl,rfl⟩;clear hRc0 hRf0 hRc1 hRf1;have hC5:CA w3 [(⟨w.heap.size,0,none⟩,.string (E C)),(⟨w.heap.size,1,none⟩,.string (E K)),(⟨w.heap.size+1,0,none⟩,.slice a1 n1 c1),(⟨w.heap.size+1,1,none⟩,.slice a2 n2 c2),(⟨w.heap.size+1,2,none⟩,.slice a3 n3 c3)]:=CA.cons hR.lt (hR.cell 0) (CA.cons hR.lt (hR.cell 1) (CA.cons hP.lt (hP.cell 0) (CA.cons hP.lt (hP.cell 1) (CA.cons hP.lt (hP.cell 2) (CA.nil _)))));have hneA:=fun x hx=>Nat.ne_of_lt (hC5 x hx).1
 have HORD:Hid (∀w',Below w3.heap.size w3 w'→Calls Tryz.prog 95 #[.agg #[.slice a1 n1 c1,.slice a2 n2 c2,.slice a3 n3 c3]] w' fun e w''=>e=.returned (.string (E N.ord))∧Below w'.heap.size w' w''):=fun w' hb'=>sorder_c N _ _ _ w' HM.out (hS.after hb')
 go_upto_region 9 with fail
 go_cut [8] (fun s8 wx=>SBox w3 154 [.string (E C),.string (E K),.string (E N.ord)] s8 wx)
 case first =>
  go_region_held3 (fun w'=>w'.cell? ⟨w.heap.size,0,none⟩=some (.string (E C))∧w'.cell? ⟨w.heap.size,1,none⟩=some (.string (E K))∧w'.cell? ⟨w.heap.size+1,0,none⟩=some (.slice a1 n1 c1)∧w'.cell? ⟨w.heap.size+1,1,none⟩=some (.slice a2 n2 c2)∧w'.cell? ⟨w.heap.size+1,2,none⟩=some (.slice a3 n3 c3)) ((refine CA.k5 ?_;repeat (first | (with_reducible exact hCf) | (with_reducible exact hC5) | (with_reducible refine CA.drew ?_) | (with_reducible refine CA.alloc ?_ _) | (refine CA.set ?_ _ _ _ hneA))))
   ((go_at_call 95;refine (HORD.out _ (by first | exact (Below.drew (Below.refl _ _)) | exact (b1 w3 _).drew)).mono ?_;rintro e wf ⟨rfl,hbf⟩;have hCf:CA wf [(⟨w.heap.size,0,none⟩,.string (E C)),(⟨w.heap.size,1,none⟩,.string (E K)),(⟨w.heap.size+1,0,none⟩,.slice a1 n1 c1),(⟨w.heap.size+1,1,none⟩,.slice a2 n2 c2),(⟨w.heap.size+1,2,none⟩,.slice a3 n3 c3)]:=(by first | exact hC5.drew.after hbf | exact (hC5.alloc _).drew.after hbf | exact (hC5.drew.alloc _).after hbf);(try (have kA:=(Blk.new w3 #[.string { data:=#[] },.string { data:=#[] },.string { data:=#[] }] 154).drew.after hbf;have kA0:=kA.cell 0;have kA1:=kA.cell 1;have kA2:=kA.free 0;have kA3:=kA.free 1;have kA4:=kA.cell 2;have kA5:=kA.free 2))))
  all_goals
   go_wp2_with fail
   go_meet
   first
    | exact ⟨_,rfl,Blk.new _ _ _,hbf.size,ba ((Below.drew (Below.refl _ _)).trans hbf) _⟩
    | exact ⟨_,rfl,((kA.set 0 _).set 1 _).set 2 _,Nat.le_refl _,(((bt ((b1 w3 _).drew) hbf).setCell (by simp) _).setCell (by simp) _).setCell (by simp) _⟩
 case rest =>
  obtain ⟨g8,rfl,h8,hg8,hbx⟩:=hcut;obtain ⟨wx,hwx⟩:∃wx,wx=wc:=⟨_,rfl⟩;subst hwx;replace hR:=hR.after hbx;replace hP:=hP.after hbx;replace hS:=hS.after hbx;replace hBW:=bt hBW hbx;clear hbx hC5 hneA HORD hRl hPl;have hPl:=hP.lt;have hQD:Hid (N.ord<256^128):=lt128 (ord_lt HM.out);obtain ⟨qd,hqd⟩:∃q,q=N.ord:=⟨_,rfl⟩;rw [←hqd] at h8;have HQ:=Lib.hid hqd;clear hqd;obtain ⟨hPc0,hPf0,hPc1,hPf1,hPc2,hPf2⟩:=hP.x3;go_wp2;clear hPc0 hPf0 hPc1 hPf1 hPc2 hPf2;clear hPl;go_loopw [52] (fun i wr=>∃k:Nat,k≤n2∧i=.int .i64 k∧Hid ((N.vars.take k).any vz=false)∧Below wx.heap.size wx wr) (fun i _=>n2-(intOf i).toNat)
  case atStart=>exact ⟨0,by omega,rfl,rfl,Below.refl _ _⟩
  case round =>
   obtain ⟨k,hk,rfl,HA,hbr⟩:=hrel;obtain ⟨wp,hwp⟩:∃wp,wp=wr:=⟨_,rfl⟩;subst hwp;replace hR:=hR.after hbr;replace hP:=hP.after hbr;replace hS:=hS.after hbr;replace h8:=h8.after hbr;replace hBW:=bt hBW hbr;have hRl:=hR.lt;have h8l:=h8.lt;by_cases hlt:k<n2
   ·have hkl:k<N.vars.length:=by rw [←HN2.out];exact hlt
    obtain ⟨b,o,rfl,hbl,x1⟩:=hS.vat hkl;have HVM:Hid ((N.vars[k]'hkl)∈N.vars):=List.getElem_mem hkl;have HT:=Lib.hid (any_take vz N.vars k hkl);generalize (N.vars[k]'hkl)=s1 at x1 HVM HT;have h0k:(0:Int)≤(k:Int):=by omega
    have h1k:(k:Int)<(n2:Int):=by omega
    have hV:=Blk.new wp #[.string (E s1)] 99;rcases Nat.eq_zero_or_pos s1 with rfl | h0
    ·have HKD:=Lib.hid (fun w=>kindV_c 0 0 w rfl);go_wp2_with fail
     refine (HKD.out _).mono ?_;rintro e w5 ⟨rfl,hb5⟩;have hR5:=(hR.alloc (.cells #[.string (E 0)] 99)).after hb5;have h85:=(h8.alloc (.cells #[.string (E 0)] 99)).after hb5;have hR5l:=hR5.lt;have h85l:=h85.lt;obtain ⟨hR5c0,hR5f0⟩:=hR5.x1;obtain ⟨h85c0,h85f0,h85c1,h85f1,h85c2,h85f2⟩:=h85.x3;have hgt:=cmp_pos C qd (by rw [HQ.out];exact HO.out);go_wp2_with fail
     refine (cmp_c C qd _ HC.out (by rw [HQ.out];exact hQD.out)).mono ?_;rintro e w' ⟨rfl,rfl⟩;go_wp2;go_ret2
     exact ⟨rfl,bt (ba hBW _) hb5⟩
    ·have HKD:=Lib.hid (fun w=>kindV_c s1 1 w (if_neg (by omega)));have HX:Hid ((N.vars.take (k+1)).any vz=(N.vars.take k).any vz):=by rw [Hid,HT.out,vz_pos h0,Bool.or_false]
     go_wp2_with fail
     refine (HKD.out _).mono ?_;rintro e w5 ⟨rfl,hb5⟩;go_wp2;go_roundw
     case rel=>exact ⟨k+1,by omega,by go_num,by rw [Hid,HX.out];exact HA.out,bt (ba hbr _) hb5⟩
     case measure=>simp [intOf];omega
   ·have hab:N.vars.any vz=false:=any_end vz N.vars k (by rw [←HN2.out];omega) HA.out;exact absurd (hab.symm.trans HV.out) (by decide)
end
section
open Go.RowKit Go.Shelf
@[go_sem] theorem run_store_func {P:Program} {w:World} {a:Addr} {m:Mode} (f:Fn) (b c:Array Value):(store a (.func f b c) m).run P w=stored P w a (.func f b c) m:=run_store P w a _ m rfl
def LBox (w:World) (l1 l2:Nat) (s15 s16:Value) (wx:World):Prop:=∃g,s15=.pointer (some ⟨g,0,none⟩)∧s16=.int .i64 0∧Blk wx g 104 [.string (E l1),.string (E l2)]∧w.heap.size≤g∧Below w.heap.size w wx
def BPost (w:World) (L:List (Nat × Nat)) (e:Ending) (w':World):Prop:=∃v,e=.returned (.tuple #[v,.int .i64 0])∧LmOwn w' w.heap.size v L∧Below w.heap.size w w'
theorem lims_step (N:NSta) (C K:Nat) (k:Nat) (h:k<N.vars.length):(N.lims C K).take (k+1)=(N.lims C K).take k++[lim N.ord C K N.vars[k]]:=by
 unfold NSta.lims;rw [←List.map_take,List.take_succ_eq_append_getElem h,List.map_append,List.map_take];rfl
theorem bounds_ok (N:NSta) (C K:Nat) (v1 v2 v3:Value) (w:World) (hC:C<256^16) (hK:K<256^16) (h2:2≤C) (h3:2≤K) (hv:N.vars.any vz=true→C≤N.ord) (hm:NOk N) (hS:NAt w v1 v2 v3 N) (hc:N.chk=0) :
  Calls Tryz.prog 42 #[.agg #[.string (E C),.string (E K)],.agg #[v1,v2,v3]] w (BPost w (N.lims C K)):=by
 obtain ⟨i0,hi0,hz00,hz01,hz02⟩:=info_parts info_lim;have HI0:=Lib.hid hi0;have HA0:=Lib.hid hz00;have HB0:=Lib.hid hz01;have HC0:=Lib.hid hz02;clear hi0 hz00 hz01 hz02;have HC:=Lib.hid (lt128' hC (by decide));have HK:=Lib.hid (lt128' hK (by decide));have HC8:=Lib.hid hC;have HK8:=Lib.hid hK;have HC1:Hid (1≤C):=by unfold Hid;omega
 have HK1:Hid (1≤K):=by unfold Hid;omega
 have HV:=Lib.hid hv;have HTWO:=Lib.hid (fun w=>ofK_c 2 2 w rfl (by decide));have HCK:=Lib.hid hc;obtain ⟨a1,c1,a2,c2,a3,c3,rfl,rfl,rfl⟩:=hS.forms;obtain ⟨n1,hn1⟩:∃n,n=N.grps.length:=⟨_,rfl⟩;obtain ⟨n2,hn2⟩:∃n,n=N.vars.length:=⟨_,rfl⟩;obtain ⟨n3,hn3⟩:∃n,n=N.eqs.length:=⟨_,rfl⟩;have HN1:=Lib.hid hn1;have HN2:=Lib.hid hn2;have HN3:=Lib.hid hn3;have l1:n1≤10:=by rw [hn1];exact hm.ng
 have l2:n2≤12:=by rw [hn2];exact hm.nv
 have l3:n3≤12:=by rw [hn3];exact hm.ne
 have HM:=Lib.hid hm;rw [←hn1,←hn2,←hn3] at hS ⊢;clear hm hn1 hn2 hn3;have HCHK:=Lib.hid (chk0_c N _ _ _ w HM.out hS HCK.out);have hR:=blk2a w #[.string (E C),.string (E K)] #[.slice a1 n1 c1,.slice a2 n2 c2,.slice a3 n3 c3] 24 29;have hP:=blk2b w #[.string (E C),.string (E K)] #[.slice a1 n1 c1,.slice a2 n2 c2,.slice a3 n3 c3] 24 29;have hBW:=b2 w (.cells #[.string (E C),.string (E K)] 24) (.cells #[.slice a1 n1 c1,.slice a2 n2 c2,.slice a3 n3 c3] 29);replace hS:=hS.after hBW;have hnl:=cmp_nneg C 2 h2;have hnl2:=cmp_nneg K 2 h3;clear hC hK hc h2 h3 hv;obtain ⟨hRc0,hRf0,hRc1,hRf1⟩:=hR.x2;obtain ⟨hPc0,hPf0,hPc1,hPf1,hPc2,hPf2⟩:=hP.x3;go_enter Tryz.func42,Tryz.ntmps42
 go_wp2_with fail
 refine (validE_c C _ HC.out).mono ?_;rintro e w' ⟨rfl,rfl⟩;go_wp2_with fail
 refine (validE_c K _ HK.out).mono ?_;rintro e w' ⟨rfl,rfl⟩;go_wp2_with fail
 refine (HCHK.out _ hBW).mono ?_;rintro e w2 ⟨rfl,hb2⟩;clear hRc0 hRf0 hRc1 hRf1;clear hPc0 hPf0 hPc1 hPf1 hPc2 hPf2;replace hR:=hR.after hb2;replace hP:=hP.after hb2;replace hS:=hS.after hb2;replace hBW:=bt hBW hb2;clear hb2;go_wp2_with fail
 refine (HTWO.out _).mono ?_;rintro e w3 ⟨rfl,hb3⟩;replace hR:=hR.after hb3;replace hP:=hP.after hb3;replace hS:=hS.after hb3;replace hBW:=bt hBW hb3;clear hb3;have hRl:=hR.lt;have hPl:=hP.lt;obtain ⟨hRc0,hRf0,hRc1,hRf1⟩:=hR.x2;go_wp2_with fail
 refine (cmp_c C 2 _ HC.out (by decide)).mono ?_;rintro e w' ⟨rfl,rfl⟩;go_wp2_with fail
 refine (cmp_c K 2 _ HK.out (by decide)).mono ?_;rintro e w' ⟨rfl,rfl⟩;clear hRc0 hRf0 hRc1 hRf1;have hC5:CA w3 [(⟨w.heap.size,0,none⟩,.string (E C)),(⟨w.heap.size,1,none⟩,.string (E K)),(⟨w.heap.size+1,0,none⟩,.slice a1 n1 c1),(⟨w.heap.size+1,1,none⟩,.slice a2 n2 c2),(⟨w.heap.size+1,2,none⟩,.slice a3 n3 c3)]:=CA.cons hR.lt (hR.cell 0) (CA.cons hR.lt (hR.cell 1) (CA.cons hP.lt (hP.cell 0) (CA.cons hP.lt (hP.cell 1) (CA.cons hP.lt (hP.cell 2) (CA.nil _)))));have hneA:=fun x hx=>Nat.ne_of_lt (hC5 x hx).1
 have HORD:Hid (∀w',Below w3.heap.size w3 w'→Calls Tryz.prog 95 #[.agg #[.slice a1 n1 c1,.slice a2 n2 c2,.slice a3 n3 c3]] w' fun e w''=>e=.returned (.string (E N.ord))∧Below w'.heap.size w' w''):=fun w' hb'=>sorder_c N _ _ _ w' HM.out (hS.after hb')
 go_upto_region 9 with fail
 go_cut [8] (fun s8 wx=>SBox w3 154 [.string (E C),.string (E K),.string (E N.ord)] s8 wx)
 case first =>
  go_region_held3 (fun w'=>w'.cell? ⟨w.heap.size,0,none⟩=some (.string (E C))∧w'.cell? ⟨w.heap.size,1,none⟩=some (.string (E K))∧w'.cell? ⟨w.heap.size+1,0,none⟩=some (.slice a1 n1 c1)∧w'.cell? ⟨w.heap.size+1,1,none⟩=some (.slice a2 n2 c2)∧w'.cell? ⟨w.heap.size+1,2,none⟩=some (.slice a3 n3 c3)) ((refine CA.k5 ?_;repeat (first | (with_reducible exact hCf) | (with_reducible exact hC5) | (with_reducible refine CA.drew ?_) | (with_reducible refine CA.alloc ?_ _) | (refine CA.set ?_ _ _ _ hneA))))
   ((go_at_call 95;refine (HORD.out _ (by first | exact (Below.drew (Below.refl _ _)) | exact (b1 w3 _).drew)).mono ?_;rintro e wf ⟨rfl,hbf⟩;have hCf:CA wf [(⟨w.heap.size,0,none⟩,.string (E C)),(⟨w.heap.size,1,none⟩,.string (E K)),(⟨w.heap.size+1,0,none⟩,.slice a1 n1 c1),(⟨w.heap.size+1,1,none⟩,.slice a2 n2 c2),(⟨w.heap.size+1,2,none⟩,.slice a3 n3 c3)]:=(by first | exact hC5.drew.after hbf | exact (hC5.alloc _).drew.after hbf | exact (hC5.drew.alloc _).after hbf);(try (have kA:=(Blk.new w3 #[.string { data:=#[] },.string { data:=#[] },.string { data:=#[] }] 154).drew.after hbf;have kA0:=kA.cell 0;have kA1:=kA.cell 1;have kA2:=kA.free 0;have kA3:=kA.free 1;have kA4:=kA.cell 2;have kA5:=kA.free 2))))
  all_goals
   go_wp2_with fail
   go_meet
   first
    | exact ⟨_,rfl,Blk.new _ _ _,hbf.size,ba ((Below.drew (Below.refl _ _)).trans hbf) _⟩
    | exact ⟨_,rfl,((kA.set 0 _).set 1 _).set 2 _,Nat.le_refl _,(((bt ((b1 w3 _).drew) hbf).setCell (by simp) _).setCell (by simp) _).setCell (by simp) _⟩
 case rest =>
  obtain ⟨g8,rfl,h8,hg8,hbx⟩:=hcut;obtain ⟨wx,hwx⟩:∃wx,wx=wc:=⟨_,rfl⟩;subst hwx;replace hR:=hR.after hbx;replace hP:=hP.after hbx;replace hS:=hS.after hbx;replace hBW:=bt hBW hbx;clear hbx hC5 hneA HORD hRl hPl;have hPl:=hP.lt;have hQD:Hid (N.ord<256^128):=lt128 (ord_lt HM.out);obtain ⟨qd,hqd⟩:∃q,q=N.ord:=⟨_,rfl⟩;rw [←hqd] at h8;have HQ:=Lib.hid hqd;clear hqd;obtain ⟨hPc0,hPf0,hPc1,hPf1,hPc2,hPf2⟩:=hP.x3;go_wp2;clear hPc0 hPf0 hPc1 hPf1 hPc2 hPf2;clear hPl;go_loopw [52] (fun i wr=>∃k:Nat,k≤n2∧i=.int .i64 k∧Hid (0≤k)∧Below wx.heap.size wx wr) (fun i _=>n2-(intOf i).toNat)
  case atStart=>exact ⟨0,by omega,rfl,Nat.zero_le _,Below.refl _ _⟩
  case round =>
   obtain ⟨k,hk,rfl,HA,hbr⟩:=hrel;obtain ⟨wp,hwp⟩:∃wp,wp=wr:=⟨_,rfl⟩;subst hwp;replace hR:=hR.after hbr;replace hP:=hP.after hbr;replace hS:=hS.after hbr;replace h8:=h8.after hbr;replace hBW:=bt hBW hbr;have hRl:=hR.lt;have h8l:=h8.lt;by_cases hlt:k<n2
   ·have hkl:k<N.vars.length:=by rw [←HN2.out];exact hlt
    obtain ⟨b,o,rfl,hbl,x1⟩:=hS.vat hkl;have HVM:Hid ((N.vars[k]'hkl)∈N.vars):=List.getElem_mem hkl;have HT:=Lib.hid (any_take vz N.vars k hkl);generalize (N.vars[k]'hkl)=s1 at x1 HVM HT;have h0k:(0:Int)≤(k:Int):=by omega
    have h1k:(k:Int)<(n2:Int):=by omega
    have hV:=Blk.new wp #[.string (E s1)] 99;rcases Nat.eq_zero_or_pos s1 with rfl | h0
    ·have HKD:=Lib.hid (fun w=>kindV_c 0 0 w rfl);go_wp2_with fail
     refine (HKD.out _).mono ?_;rintro e w5 ⟨rfl,hb5⟩;have hR5:=(hR.alloc (.cells #[.string (E 0)] 99)).after hb5;have h85:=(h8.alloc (.cells #[.string (E 0)] 99)).after hb5;have hR5l:=hR5.lt;have h85l:=h85.lt;obtain ⟨hR5c0,hR5f0⟩:=hR5.x1;obtain ⟨h85c0,h85f0,h85c1,h85f1,h85c2,h85f2⟩:=h85.x3;have hgt:=cmp_npos C qd (by rw [HQ.out];exact HV.out (List.any_eq_true.2 ⟨_,HVM.out,rfl⟩));go_wp2_with fail
     refine (cmp_c C qd _ HC.out (by rw [HQ.out];exact hQD.out)).mono ?_;rintro e w' ⟨rfl,rfl⟩;go_wp2;go_roundw
     case rel=>exact ⟨k+1,by omega,by go_num,Nat.zero_le _,bt (ba hbr _) hb5⟩
     case measure=>simp [intOf];omega
    ·have HKD:=Lib.hid (fun w=>kindV_c s1 1 w (if_neg (by omega)));have HX:Hid ((N.vars.take (k+1)).any vz=(N.vars.take k).any vz):=by rw [Hid,HT.out,vz_pos h0,Bool.or_false]
     go_wp2_with fail
     refine (HKD.out _).mono ?_;rintro e w5 ⟨rfl,hb5⟩;go_wp2;go_roundw
     case rel=>exact ⟨k+1,by omega,by go_num,Nat.zero_le _,bt (ba hbr _) hb5⟩
     case measure=>simp [intOf];omega
   ·clear hbr HA;have hPl:=hP.lt;obtain ⟨hPc0,hPf0,hPc1,hPf1,hPc2,hPf2⟩:=hP.x3;obtain ⟨h8c0,h8f0,h8c1,h8f1,h8c2,h8f2⟩:=h8.x3;go_wp2;clear hPc0 hPf0 hPc1 hPf1 hPc2 hPf2;clear h8c0 h8f0 h8c1 h8f1 h8c2 h8f2;have hF:=Blk.new wp #[.func (.func 97) #[.agg #[.string (E C),.string (E K),.string (E qd)]] #[],.func (.func 98) #[.agg #[.string (E C),.string (E K),.string (E qd)]] #[]] 157;have hbF0:=b1 wp (.cells #[.func (.func 97) #[.agg #[.string (E C),.string (E K),.string (E qd)]] #[],.func (.func 98) #[.agg #[.string (E C),.string (E K),.string (E qd)]] #[]] 157);replace hP:=hP.after hbF0;replace hS:=hS.after hbF0;replace hBW:=bt hBW hbF0;clear hPl hRl h8l;obtain ⟨g11,hg11⟩:∃g,wp.heap.size=g:=⟨_,rfl⟩;rw [hg11] at hF ⊢;clear hg11 hbF0;generalize wp.alloc (.cells #[.func (.func 97) #[.agg #[.string (E C),.string (E K),.string (E qd)]] #[],.func (.func 98) #[.agg #[.string (E C),.string (E K),.string (E qd)]] #[]] 157)=wF at hF hP hS hBW ⊢;replace hF:Blk wF g11 157 [.func (.func 97) #[.agg #[.string (E C),.string (E K),.string (E qd)]] #[],.func (.func 98) #[.agg #[.string (E C),.string (E K),.string (E qd)]] #[]]:=hF;go_loopw [12,76] (fun v12 i wr=>∃k:Nat,k≤n2∧i=.int .i64 k∧LmOwn wr wF.heap.size v12 ((N.lims C K).take k)∧Below wF.heap.size wF wr) (fun _ i _=>n2-(intOf i).toNat)
    case atStart=>exact ⟨0,by omega,rfl,World.ownsRow_nil _ _ _ _,Below.refl _ _⟩
    case round =>
     clear hlt hk;obtain ⟨k,hk,rfl,hO,hbr⟩:=hrel;obtain ⟨wq,hwq⟩:∃wq,wq=wr:=⟨_,rfl⟩;subst hwq;have hS1:=hS.after hbr;have hBW1:=bt hBW hbr;by_cases hlt:k<n2
     ·have hkl:k<N.vars.length:=by rw [←HN2.out];exact hlt
      have HBZ:=Lib.hid (HM.out.v _ (List.getElem_mem hkl));have HST:=Lib.hid (lims_step N C K k hkl);obtain ⟨b0,o0,rfl,hbl,x1⟩:=hS1.vat hkl;generalize (N.vars[k]'hkl)=b at x1 HBZ HST;have h0k:(0:Int)≤(k:Int):=by omega
      have h1k:(k:Int)<(n2:Int):=by omega
      obtain ⟨l1',hl1⟩:∃x,x=(lim N.ord C K b).1:=⟨_,rfl⟩;obtain ⟨l2',hl2⟩:∃x,x=(lim N.ord C K b).2:=⟨_,rfl⟩;rw [show lim N.ord C K b=(l1',l2') by rw [hl1,hl2]] at HST;have HL1:=Lib.hid hl1;have HL2:=Lib.hid hl2;clear hl1 hl2;have h14:=Blk.new wq #[.string (E b)] 99;have hb14:=b1 wq (.cells #[.string (E b)] 99);have hO1:=hO.after hb14;have hF1:=(hF.after hbr).after hb14;have hbr1:=bt hbr hb14;clear hO hS1;rcases Nat.eq_zero_or_pos b with rfl | h0
      ·have HE1:Hid (l1'=qd):=by rw [Hid,HL1.out,HQ.out];rfl
       have HE2:Hid (l2'=qd):=by rw [Hid,HL2.out,HQ.out];rfl
       have HKD:Hid (∀w,Calls Tryz.prog 96 #[.agg #[.string (E 0)]] w fun e w'=>e=.returned (.int .i64 0)∧Below w.heap.size w w'):=fun w=>kindV_c 0 0 w rfl
       have HDY:Hid (∀w,Calls Tryz.prog 97 #[.agg #[.string (E C),.string (E K),.string (E qd)],.string (E 0)] w fun e w'=>e=.returned (.tuple #[.agg #[.string (E l1'),.string (E l2')],.int .i64 0])∧Below w.heap.size w w'):=fun w=>by
        rw [HE1.out,HE2.out];exact modular_c _ _ _ _ w
       go_wp2_with fail
       generalize wq.alloc (.cells #[.string (E 0)] 99)=wA at h14 hO1 hF1 hbr1;obtain ⟨g14,hg14⟩:∃g,wq.heap.size=g:=⟨_,rfl⟩;rw [hg14] at h14 ⊢;clear hg14 hbr hb14 hbl x1;obtain ⟨b,hb0⟩:∃b,b=0:=⟨_,rfl⟩;rw [←hb0] at h14;replace h14:Blk wA g14 99 [.string (E b)]:=h14;have HBEQ:=Lib.hid hb0;rw [←hb0] at HKD HDY;clear hb0;have hC:CA wA [(⟨g14,0,none⟩,.string (E b)),(⟨g11,0,none⟩,.func (.func 97) #[.agg #[.string (E C),.string (E K),.string (E qd)]] #[]),(⟨g11,1,none⟩,.func (.func 98) #[.agg #[.string (E C),.string (E K),.string (E qd)]] #[])]:=CA.cons h14.lt (h14.cell 0) (CA.cons hF1.lt (hF1.cell 0) (CA.cons hF1.lt (hF1.cell 1) (CA.nil _)));have hneA:=fun x hx=>Nat.ne_of_lt (hC x hx).1
       go_upto_region 21 with fail
       go_cut [15,16] (fun s15 s16 wx=>LBox wA l1' l2' s15 s16 wx)
       case first =>
        go_region_held3 (fun w'=>w'.cell? ⟨g14,0,none⟩=some (.string (E b))∧w'.cell? ⟨g11,0,none⟩=some (.func (.func 97) #[.agg #[.string (E C),.string (E K),.string (E qd)]] #[])∧w'.cell? ⟨g11,1,none⟩=some (.func (.func 98) #[.agg #[.string (E C),.string (E K),.string (E qd)]] #[])) ((refine CA.k3 ?_;repeat (first | (with_reducible exact hCd) | (with_reducible exact hCf) | (with_reducible exact hC) | (with_reducible refine CA.drew ?_) | (with_reducible refine CA.alloc ?_ _) | (refine CA.set ?_ _ _ _ hneA) | (refine CA.set ?_ _ _ _ (fun x hx=>Nat.ne_of_lt (hCf x hx).1)))))
         (first | (go_at_call 96;refine (HKD.out _).mono ?_;rintro e wf ⟨rfl,hbf⟩;have hCf:CA wf [(⟨g14,0,none⟩,.string (E b)),(⟨g11,0,none⟩,.func (.func 97) #[.agg #[.string (E C),.string (E K),.string (E qd)]] #[]),(⟨g11,1,none⟩,.func (.func 98) #[.agg #[.string (E C),.string (E K),.string (E qd)]] #[])]:=(by first | exact hC.drew.after hbf | exact (hC.alloc _).drew.after hbf | exact (hC.drew.alloc _).after hbf);(try (have hbF:Below wA.heap.size wA wf:=(Below.drew (Below.refl _ _)).trans hbf));(try (have hbF:Below wA.heap.size wA wf:=bt ((b1 wA _).drew) hbf));(try (have kA:=(Blk.new wA #[.string { data:=#[] },.string { data:=#[] }] 104).drew.after hbf))) | (go_at_call 97;refine (HDY.out _).mono ?_;rintro e wd ⟨rfl,hbd⟩;have hCd:CA wd [(⟨g14,0,none⟩,.string (E b)),(⟨g11,0,none⟩,.func (.func 97) #[.agg #[.string (E C),.string (E K),.string (E qd)]] #[]),(⟨g11,1,none⟩,.func (.func 98) #[.agg #[.string (E C),.string (E K),.string (E qd)]] #[])]:=(by first | exact hCf.after hbd | exact (hCf.alloc _).after hbd);(try (have hbD:Below wA.heap.size wA wd:=bt hbF hbd));(try (have hbD:Below wA.heap.size wA wd:=bt (ba hbF _) hbd));(try (have kD:=kA.after hbd;have kA0:=kD.cell 0;have kA1:=kD.cell 1;have kA2:=kD.free 0;have kA3:=kD.free 1;have kl:=kD.lt));(try (have kB:=(Blk.new wf #[.string { data:=#[] },.string { data:=#[] }] 104).after hbd;have kB0:=kB.cell 0;have kB1:=kB.cell 1;have kB2:=kB.free 0;have kB3:=kB.free 1;have kbl:=kB.lt))))
        all_goals
         go_wp2_with fail
         go_meet
         first
          | exact ⟨_,rfl,rfl,Blk.new _ _ _,hbD.size,ba hbD _⟩
          | exact ⟨_,rfl,rfl,(kD.set 0 _).set 1 _,Nat.le_refl _,(hbD.setCell (by simp) _).setCell (by simp) _⟩
          | exact ⟨_,rfl,rfl,(kB.set 0 _).set 1 _,hbF.size,(hbD.setCell (by have:=hbF.size;simp;omega) _).setCell (by have:=hbF.size;simp;omega) _⟩
       case rest =>
        obtain ⟨g15,rfl,rfl,h15,hg15,hbx⟩:=hcut;obtain ⟨wy,hwy⟩:∃wy,wy=wc:=⟨_,rfl⟩;subst hwy;clear hC hneA;have hO2:=own_after hO1 hbx;have hF2:=hF1.after hbx;have hbr2:=bt hbr1 hbx;have h15l:=h15.lt;have hLE:Hid (((N.lims C K).take k).length=k):=by rw [Hid,List.length_take,NSta.lims,List.length_map];omega
        rw [hLE.out] at hO2;clear hbx hO1;have hszy:=hbr2.size;generalize (N.lims C K).take k=LI at hO2 HST hLE;obtain ⟨h15c0,h15f0,h15c1,h15f1⟩:=h15.x2;go_wp2_with (at_builtin;(refine wpList_append_lies _ rfl (.tmp 93) (.tmp 95) _ rfl wF.heap.size 104 i0 _ 2 32 Tryz.underlying100 HI0.out HA0.out HB0.out HC0.out rfl (by omega) u12 k (lcs LI) rfl (own_after hO2 (b1 _ (.cells #[.string (E l1'),.string (E l2')] 104))) ⟨wy.heap.size,0,none⟩ 1 1 [.string (E l1'),.string (E l2')] rfl rfl (Blk.new wy #[.string (E l1'),.string (E l2')] 104).cells (by simp [Value.oneCell']) (by omega) (by simp only [maxLen];omega) (by omega) (by rw [World.size_alloc];omega) (wy.heap.size+1) (by simp) ?_);intro ga ca wa hown hgrow hat hlt2)
        have hOA:LmOwn wa wF.heap.size (.slice (some ⟨ga,0,none⟩) (k+1) ca) (LI++[(l1',l2')]):=by rw [LmOwn,List.length_append,hLE.out,←lcs_app];exact hown
        rw [←HST.out] at hOA;have hbA:=(ba hbr2 (.cells #[.string (E l1'),.string (E l2')] 104)).grown hgrow (by rw [World.size_alloc];omega) (fun x hx=>(own_lt hO2 hx).2);clear hown hgrow hat hlt2 hO2 hbr2;go_wp2;go_roundw
        case rel=>exact ⟨k+1,by omega,by go_num,hOA,hbA⟩
        case measure=>simp [intOf];omega
      ·have HE1:Hid (l1'=K*C*b):=by rw [Hid,HL1.out,lim,if_neg (by omega)]
       have HE2:Hid (l2'=K*C*b-(C-1)*(b-1)):=by rw [Hid,HL2.out,lim,if_neg (by omega)]
       have HKD:Hid (∀w,Calls Tryz.prog 96 #[.agg #[.string (E b)]] w fun e w'=>e=.returned (.int .i64 1)∧Below w.heap.size w w'):=fun w=>kindV_c b 1 w (if_neg (by omega))
       have HDY:Hid (∀w,Calls Tryz.prog 98 #[.agg #[.string (E C),.string (E K),.string (E qd)],.string (E b)] w fun e w'=>e=.returned (.tuple #[.agg #[.string (E l1'),.string (E l2')],.int .i64 0])∧Below w.heap.size w w'):=fun w=>by
        rw [HE1.out,HE2.out];exact integral_c C K qd b w HC8.out HK8.out HBZ.out HC1.out HK1.out h0
       clear h0;go_wp2_with fail
       generalize wq.alloc (.cells #[.string (E b)] 99)=wA at h14 hO1 hF1 hbr1;obtain ⟨g14,hg14⟩:∃g,wq.heap.size=g:=⟨_,rfl⟩;rw [hg14] at h14 ⊢;replace h14:Blk wA g14 99 [.string (E b)]:=h14;clear hg14 hbr hb14 hbl x1;have hC:CA wA [(⟨g14,0,none⟩,.string (E b)),(⟨g11,0,none⟩,.func (.func 97) #[.agg #[.string (E C),.string (E K),.string (E qd)]] #[]),(⟨g11,1,none⟩,.func (.func 98) #[.agg #[.string (E C),.string (E K),.string (E qd)]] #[])]:=CA.cons h14.lt (h14.cell 0) (CA.cons hF1.lt (hF1.cell 0) (CA.cons hF1.lt (hF1.cell 1) (CA.nil _)));have hneA:=fun x hx=>Nat.ne_of_lt (hC x hx).1
       go_upto_region 21 with fail
       go_cut [15,16] (fun s15 s16 wx=>LBox wA l1' l2' s15 s16 wx)
       case first =>
        go_region_held3 (fun w'=>w'.cell? ⟨g14,0,none⟩=some (.string (E b))∧w'.cell? ⟨g11,0,none⟩=some (.func (.func 97) #[.agg #[.string (E C),.string (E K),.string (E qd)]] #[])∧w'.cell? ⟨g11,1,none⟩=some (.func (.func 98) #[.agg #[.string (E C),.string (E K),.string (E qd)]] #[])) ((refine CA.k3 ?_;repeat (first | (with_reducible exact hCd) | (with_reducible exact hCf) | (with_reducible exact hC) | (with_reducible refine CA.drew ?_) | (with_reducible refine CA.alloc ?_ _) | (refine CA.set ?_ _ _ _ hneA) | (refine CA.set ?_ _ _ _ (fun x hx=>Nat.ne_of_lt (hCf x hx).1)))))
         (first | (go_at_call 96;refine (HKD.out _).mono ?_;rintro e wf ⟨rfl,hbf⟩;have hCf:CA wf [(⟨g14,0,none⟩,.string (E b)),(⟨g11,0,none⟩,.func (.func 97) #[.agg #[.string (E C),.string (E K),.string (E qd)]] #[]),(⟨g11,1,none⟩,.func (.func 98) #[.agg #[.string (E C),.string (E K),.string (E qd)]] #[])]:=(by first | exact hC.drew.after hbf | exact (hC.alloc _).drew.after hbf | exact (hC.drew.alloc _).after hbf);(try (have hbF:Below wA.heap.size wA wf:=(Below.drew (Below.refl _ _)).trans hbf));(try (have hbF:Below wA.heap.size wA wf:=bt ((b1 wA _).drew) hbf));(try (have kA:=(Blk.new wA #[.string { data:=#[] },.string { data:=#[] }] 104).drew.after hbf))) | (go_at_call 98;refine (HDY.out _).mono ?_;rintro e wd ⟨rfl,hbd⟩;have hCd:CA wd [(⟨g14,0,none⟩,.string (E b)),(⟨g11,0,none⟩,.func (.func 97) #[.agg #[.string (E C),.string (E K),.string (E qd)]] #[]),(⟨g11,1,none⟩,.func (.func 98) #[.agg #[.string (E C),.string (E K),.string (E qd)]] #[])]:=(by first | exact hCf.after hbd | exact (hCf.alloc _).after hbd);(try (have hbD:Below wA.heap.size wA wd:=bt hbF hbd));(try (have hbD:Below wA.heap.size wA wd:=bt (ba hbF _) hbd));(try (have kD:=kA.after hbd;have kA0:=kD.cell 0;have kA1:=kD.cell 1;have kA2:=kD.free 0;have kA3:=kD.free 1;have kl:=kD.lt));(try (have kB:=(Blk.new wf #[.string { data:=#[] },.string { data:=#[] }] 104).after hbd;have kB0:=kB.cell 0;have kB1:=kB.cell 1;have kB2:=kB.free 0;have kB3:=kB.free 1;have kbl:=kB.lt))))
        all_goals
         go_wp2_with fail
         go_meet
         first
          | exact ⟨_,rfl,rfl,Blk.new _ _ _,hbD.size,ba hbD _⟩
          | exact ⟨_,rfl,rfl,(kD.set 0 _).set 1 _,Nat.le_refl _,(hbD.setCell (by simp) _).setCell (by simp) _⟩
          | exact ⟨_,rfl,rfl,(kB.set 0 _).set 1 _,hbF.size,(hbD.setCell (by have:=hbF.size;simp;omega) _).setCell (by have:=hbF.size;simp;omega) _⟩
       case rest =>
        obtain ⟨g15,rfl,rfl,h15,hg15,hbx⟩:=hcut;obtain ⟨wy,hwy⟩:∃wy,wy=wc:=⟨_,rfl⟩;subst hwy;clear hC hneA;have hO2:=own_after hO1 hbx;have hF2:=hF1.after hbx;have hbr2:=bt hbr1 hbx;have h15l:=h15.lt;have hLE:Hid (((N.lims C K).take k).length=k):=by rw [Hid,List.length_take,NSta.lims,List.length_map];omega
        rw [hLE.out] at hO2;clear hbx hO1;have hszy:=hbr2.size;generalize (N.lims C K).take k=LI at hO2 HST hLE;obtain ⟨h15c0,h15f0,h15c1,h15f1⟩:=h15.x2;go_wp2_with (at_builtin;(refine wpList_append_lies _ rfl (.tmp 93) (.tmp 95) _ rfl wF.heap.size 104 i0 _ 2 32 Tryz.underlying100 HI0.out HA0.out HB0.out HC0.out rfl (by omega) u12 k (lcs LI) rfl (own_after hO2 (b1 _ (.cells #[.string (E l1'),.string (E l2')] 104))) ⟨wy.heap.size,0,none⟩ 1 1 [.string (E l1'),.string (E l2')] rfl rfl (Blk.new wy #[.string (E l1'),.string (E l2')] 104).cells (by simp [Value.oneCell']) (by omega) (by simp only [maxLen];omega) (by omega) (by rw [World.size_alloc];omega) (wy.heap.size+1) (by simp) ?_);intro ga ca wa hown hgrow hat hlt2)
        have hOA:LmOwn wa wF.heap.size (.slice (some ⟨ga,0,none⟩) (k+1) ca) (LI++[(l1',l2')]):=by rw [LmOwn,List.length_append,hLE.out,←lcs_app];exact hown
        rw [←HST.out] at hOA;have hbA:=(ba hbr2 (.cells #[.string (E l1'),.string (E l2')] 104)).grown hgrow (by rw [World.size_alloc];omega) (fun x hx=>(own_lt hO2 hx).2);clear hown hgrow hat hlt2 hO2 hbr2;go_wp2;go_roundw
        case rel=>exact ⟨k+1,by omega,by go_num,hOA,hbA⟩
        case measure=>simp [intOf];omega
     ·have HTK:Hid ((N.lims C K).take k=N.lims C K):=List.take_of_length_le (by rw [NSta.lims,List.length_map,←HN2.out];omega);rw [HTK.out] at hO;have hs1:=hBW.size;go_wp2;go_ret2
      exact ⟨_,rfl,own_mono hO hs1,hBW1⟩
end
section
open Go.RowKit Go.Shelf
theorem rorder2_c (p:Nat) (w:World) (h1:(E p).size≤1000000) :
  Calls Tryz.prog 44 #[.string (E p),.string { data:=#[2] }] w fun e w'=>e=.returned (.int .i64 (cmpN p 2))∧Below w.heap.size w w':=
 rorder_c p 2 w h1 (by decide)
def B2Post (w:World) (L:List (Nat × Nat)) (e:Ending) (w':World):Prop:=∃v u,e=.returned (.tuple #[v,u,.int .i64 0])∧NOwn w' w.heap.size v (L.map (·.1))∧NOwn w' w.heap.size u (L.map (·.2))∧Below w.heap.size w w'
theorem rbounds_rule (C K:ByteArray) (v1 v2 v3:Value) (w:World) (hC:C.size≤1000) (hK:K.size≤1000) (h:(vldB C&&vldB K)=false) :
  Calls Tryz.prog 14 #[.agg #[.string C,.string K],.agg #[v1,v2,v3]] w fun e w'=>e=.returned (.tuple #[.slice none 0 0,.slice none 0 0,.int .i64 3])∧Below w.heap.size w w':=by
 have HC:=Lib.hid hC;have HK:=Lib.hid hK;have hR:=blk2a w #[Value.string C,Value.string K] #[v1,v2,v3] 24 29;have hP:=blk2b w #[Value.string C,Value.string K] #[v1,v2,v3] 24 29;have hBW:=b2 w (.cells #[Value.string C,Value.string K] 24) (.cells #[v1,v2,v3] 29);clear hC hK;cases h1:vldB C
 ·have HV:=Lib.hid h1;clear h1 h;obtain ⟨hRc0,hRf0,hRc1,hRf1⟩:=hR.x2;go_enter Tryz.func14,Tryz.ntmps14
  go_wp2_with fail
  refine (rvalidV_c C false _ (by have:=HC.out;omega) HV.out).mono ?_;rintro e w' ⟨rfl,rfl⟩;go_wp2;go_ret3
  exact ⟨rfl,hBW⟩
 ·have h2:vldB K=false:=by rw [h1] at h;exact h
  have HV:=Lib.hid h1;have HV2:=Lib.hid h2;clear h1 h2 h;obtain ⟨hRc0,hRf0,hRc1,hRf1⟩:=hR.x2;go_enter Tryz.func14,Tryz.ntmps14
  go_wp2_with fail
  refine (rvalidV_c C true _ (by have:=HC.out;omega) HV.out).mono ?_;rintro e w' ⟨rfl,rfl⟩;go_wp2_with fail
  refine (rvalidV_c K false _ (by have:=HK.out;omega) HV2.out).mono ?_;rintro e w' ⟨rfl,rfl⟩;go_wp2;go_ret3
  exact ⟨rfl,hBW⟩
theorem rbounds_chk (C K:Nat) (v1 v2 v3:Value) (k:Nat) (w:World) (hC:C<256^16) (hK:K<256^16) (hk:k≠0)
  (hch:∀w',Below w.heap.size w w'→Calls Tryz.prog 33 #[.agg #[v1,v2,v3]] w' fun e w''=>e=.returned (.int .i64 k)∧Below w'.heap.size w' w'') :
  Calls Tryz.prog 14 #[.agg #[.string (E C),.string (E K)],.agg #[v1,v2,v3]] w fun e w'=>e=.returned (.tuple #[.slice none 0 0,.slice none 0 0,.int .i64 k])∧Below w.heap.size w w':=by
 have HC:=Lib.hid (lt128' hC (by decide));have HK:=Lib.hid (lt128' hK (by decide));have HCH:=Lib.hid hch;have hkb:((k:Int) != 0)=true:=by rw [bne_iff_ne];omega
 have hR:=blk2a w #[.string (E C),.string (E K)] #[v1,v2,v3] 24 29;have hP:=blk2b w #[.string (E C),.string (E K)] #[v1,v2,v3] 24 29;have hBW:=b2 w (.cells #[.string (E C),.string (E K)] 24) (.cells #[v1,v2,v3] 29);clear hC hK hch hk;obtain ⟨hRc0,hRf0,hRc1,hRf1⟩:=hR.x2;obtain ⟨hPc0,hPf0,hPc1,hPf1,hPc2,hPf2⟩:=hP.x3;go_enter Tryz.func14,Tryz.ntmps14
 go_wp2_with fail
 refine (rvalidE_c C _ HC.out).mono ?_;rintro e w' ⟨rfl,rfl⟩;go_wp2_with fail
 refine (rvalidE_c K _ HK.out).mono ?_;rintro e w' ⟨rfl,rfl⟩;go_wp2_with fail
 refine (HCH.out _ hBW).mono ?_;rintro e w2 ⟨rfl,hb2⟩;go_wp2;go_ret3
 exact ⟨rfl,bt hBW hb2⟩
theorem rchk0_c (N:NSta) (v1 v2 v3:Value) (w:World) (hm:NOk N) (hS:NAt w v1 v2 v3 N) (hc:N.chk=0) :
  ∀w',Below w.heap.size w w'→Calls Tryz.prog 33 #[.agg #[v1,v2,v3]] w' fun e w''=>e=.returned (.int .i64 0)∧Below w'.heap.size w' w'':=fun w' hb'=>by
 have h:=rCheck_c N v1 v2 v3 w' hm (hS.after hb');rw [hc] at h;exact h
theorem rbounds_two (N:NSta) (C K:Nat) (v1 v2 v3:Value) (w:World) (hC:C<256^16) (hK:K<256^16) (h2:C<2∨K<2) (hm:NOk N) (hS:NAt w v1 v2 v3 N) (hc:N.chk=0) :
  Calls Tryz.prog 14 #[.agg #[.string (E C),.string (E K)],.agg #[v1,v2,v3]] w fun e w'=>e=.returned (.tuple #[.slice none 0 0,.slice none 0 0,.int .i64 2])∧Below w.heap.size w w':=by
 have HC:=Lib.hid (lt128' hC (by decide));have HK:=Lib.hid (lt128' hK (by decide));have HCK:=Lib.hid hc;obtain ⟨a1,c1,a2,c2,a3,c3,rfl,rfl,rfl⟩:=hS.forms;obtain ⟨n1,hn1⟩:∃n,n=N.grps.length:=⟨_,rfl⟩;obtain ⟨n2,hn2⟩:∃n,n=N.vars.length:=⟨_,rfl⟩;obtain ⟨n3,hn3⟩:∃n,n=N.eqs.length:=⟨_,rfl⟩;have HN1:=Lib.hid hn1;have HN2:=Lib.hid hn2;have HN3:=Lib.hid hn3;have l1:n1≤10:=by rw [hn1];exact hm.ng
 have l2:n2≤12:=by rw [hn2];exact hm.nv
 have l3:n3≤12:=by rw [hn3];exact hm.ne
 have HM:=Lib.hid hm;rw [←hn1,←hn2,←hn3] at hS ⊢;clear hm hn1 hn2 hn3;have HCHK:=Lib.hid (rchk0_c N _ _ _ w HM.out hS HCK.out);have hR:=blk2a w #[.string (E C),.string (E K)] #[.slice a1 n1 c1,.slice a2 n2 c2,.slice a3 n3 c3] 24 29;have hP:=blk2b w #[.string (E C),.string (E K)] #[.slice a1 n1 c1,.slice a2 n2 c2,.slice a3 n3 c3] 24 29;have hBW:=b2 w (.cells #[.string (E C),.string (E K)] 24) (.cells #[.slice a1 n1 c1,.slice a2 n2 c2,.slice a3 n3 c3] 29);replace hS:=hS.after hBW;clear hC hK hc;by_cases hc2:C<2
 ·have hlt:=cmp_neg C 2 hc2;clear hc2 h2;obtain ⟨hRc0,hRf0,hRc1,hRf1⟩:=hR.x2;obtain ⟨hPc0,hPf0,hPc1,hPf1,hPc2,hPf2⟩:=hP.x3;go_enter Tryz.func14,Tryz.ntmps14
  go_wp2_with fail
  refine (rvalidE_c C _ HC.out).mono ?_;rintro e w' ⟨rfl,rfl⟩;go_wp2_with fail
  refine (rvalidE_c K _ HK.out).mono ?_;rintro e w' ⟨rfl,rfl⟩;go_wp2_with fail
  refine (HCHK.out _ hBW).mono ?_;rintro e w2 ⟨rfl,hb2⟩;clear hRc0 hRf0 hRc1 hRf1;clear hPc0 hPf0 hPc1 hPf1 hPc2 hPf2;replace hR:=hR.after hb2;replace hP:=hP.after hb2;replace hS:=hS.after hb2;replace hBW:=bt hBW hb2;clear hb2;have hRl:=hR.lt;have hPl:=hP.lt;obtain ⟨hRc0,hRf0,hRc1,hRf1⟩:=hR.x2;go_wp2_with fail
  refine (rorder2_c C _ (szM HC.out)).mono ?_;rintro e w3 ⟨rfl,hb3⟩;clear hRc0 hRf0 hRc1 hRf1;replace hR:=hR.after hb3;replace hP:=hP.after hb3;replace hS:=hS.after hb3;replace hBW:=bt hBW hb3;clear hb3 hRl hPl;have hRl:=hR.lt;have hPl:=hP.lt;go_wp2;go_ret3
  exact ⟨rfl,hBW⟩
 ·have hnl:=cmp_nneg C 2 (by omega);have hlt:=cmp_neg K 2 (by omega);clear hc2 h2;obtain ⟨hRc0,hRf0,hRc1,hRf1⟩:=hR.x2;obtain ⟨hPc0,hPf0,hPc1,hPf1,hPc2,hPf2⟩:=hP.x3;go_enter Tryz.func14,Tryz.ntmps14
  go_wp2_with fail
  refine (rvalidE_c C _ HC.out).mono ?_;rintro e w' ⟨rfl,rfl⟩;go_wp2_with fail
  refine (rvalidE_c K _ HK.out).mono ?_;rintro e w' ⟨rfl,rfl⟩;go_wp2_with fail
  refine (HCHK.out _ hBW).mono ?_;rintro e w2 ⟨rfl,hb2⟩;clear hRc0 hRf0 hRc1 hRf1;clear hPc0 hPf0 hPc1 hPf1 hPc2 hPf2;replace hR:=hR.after hb2;replace hP:=hP.after hb2;replace hS:=hS.after hb2;replace hBW:=bt hBW hb2;clear hb2;have hRl:=hR.lt;have hPl:=hP.lt;obtain ⟨hRc0,hRf0,hRc1,hRf1⟩:=hR.x2;go_wp2_with fail
  refine (rorder2_c C _ (szM HC.out)).mono ?_;rintro e w3 ⟨rfl,hb3⟩;clear hRc0 hRf0 hRc1 hRf1;replace hR:=hR.after hb3;replace hP:=hP.after hb3;replace hS:=hS.after hb3;replace hBW:=bt hBW hb3;clear hb3 hRl hPl;have hRl:=hR.lt;have hPl:=hP.lt;obtain ⟨hRc0,hRf0,hRc1,hRf1⟩:=hR.x2;go_wp2_with fail
  refine (rorder2_c K _ (szM HK.out)).mono ?_;rintro e w4 ⟨rfl,hb4⟩;clear hRc0 hRf0 hRc1 hRf1;replace hR:=hR.after hb4;replace hP:=hP.after hb4;replace hS:=hS.after hb4;replace hBW:=bt hBW hb4;clear hb4 hRl hPl;have hRl:=hR.lt;have hPl:=hP.lt;go_wp2;go_ret3
  exact ⟨rfl,hBW⟩
theorem rbounds_ord (N:NSta) (C K:Nat) (v1 v2 v3:Value) (w:World) (hC:C<256^16) (hK:K<256^16) (h2:2≤C) (h3:2≤K) (hv:N.vars.any vz=true) (ho:N.ord<C) (hm:NOk N) (hS:NAt w v1 v2 v3 N) (hc:N.chk=0) :
  Calls Tryz.prog 14 #[.agg #[.string (E C),.string (E K)],.agg #[v1,v2,v3]] w fun e w'=>e=.returned (.tuple #[.slice none 0 0,.slice none 0 0,.int .i64 2])∧Below w.heap.size w w':=by
 have HC:=Lib.hid (lt128' hC (by decide));have HK:=Lib.hid (lt128' hK (by decide));have HO:=Lib.hid ho;have HV:=Lib.hid hv;have HCK:=Lib.hid hc;obtain ⟨a1,c1,a2,c2,a3,c3,rfl,rfl,rfl⟩:=hS.forms;obtain ⟨n1,hn1⟩:∃n,n=N.grps.length:=⟨_,rfl⟩;obtain ⟨n2,hn2⟩:∃n,n=N.vars.length:=⟨_,rfl⟩;obtain ⟨n3,hn3⟩:∃n,n=N.eqs.length:=⟨_,rfl⟩;have HN1:=Lib.hid hn1;have HN2:=Lib.hid hn2;have HN3:=Lib.hid hn3;have l1:n1≤10:=by rw [hn1];exact hm.ng
 have l2:n2≤12:=by rw [hn2];exact hm.nv
 have l3:n3≤12:=by rw [hn3];exact hm.ne
 have HM:=Lib.hid hm;rw [←hn1,←hn2,←hn3] at hS ⊢;clear hm hn1 hn2 hn3;have HCHK:=Lib.hid (rchk0_c N _ _ _ w HM.out hS HCK.out);have hR:=blk2a w #[.string (E C),.string (E K)] #[.slice a1 n1 c1,.slice a2 n2 c2,.slice a3 n3 c3] 24 29;have hP:=blk2b w #[.string (E C),.string (E K)] #[.slice a1 n1 c1,.slice a2 n2 c2,.slice a3 n3 c3] 24 29;have hBW:=b2 w (.cells #[.string (E C),.string (E K)] 24) (.cells #[.slice a1 n1 c1,.slice a2 n2 c2,.slice a3 n3 c3] 29);replace hS:=hS.after hBW;have hnl:=cmp_nneg C 2 h2;have hnl2:=cmp_nneg K 2 h3;clear hC hK hc h2 h3 hv ho;obtain ⟨hRc0,hRf0,hRc1,hRf1⟩:=hR.x2;obtain ⟨hPc0,hPf0,hPc1,hPf1,hPc2,hPf2⟩:=hP.x3;go_enter Tryz.func14,Tryz.ntmps14
 go_wp2_with fail
 refine (rvalidE_c C _ HC.out).mono ?_;rintro e w' ⟨rfl,rfl⟩;go_wp2_with fail
 refine (rvalidE_c K _ HK.out).mono ?_;rintro e w' ⟨rfl,rfl⟩;go_wp2_with fail
 refine (HCHK.out _ hBW).mono ?_;rintro e w2 ⟨rfl,hb2⟩;clear hRc0 hRf0 hRc1 hRf1;clear hPc0 hPf0 hPc1 hPf1 hPc2 hPf2;replace hR:=hR.after hb2;replace hP:=hP.after hb2;replace hS:=hS.after hb2;replace hBW:=bt hBW hb2;clear hb2;have hRl:=hR.lt;have hPl:=hP.lt;obtain ⟨hRc0,hRf0,hRc1,hRf1⟩:=hR.x2;go_wp2_with fail
 refine (rorder2_c C _ (szM HC.out)).mono ?_;rintro e w3 ⟨rfl,hb3⟩;clear hRc0 hRf0 hRc1 hRf1;replace hR:=hR.after hb3;replace hP:=hP.after hb3;replace hS:=hS.after hb3;replace hBW:=bt hBW hb3;clear hb3 hRl hPl;have hRl:=hR.lt;have hPl:=hP.lt;obtain ⟨hRc0,hRf0,hRc1,hRf1⟩:=hR.x2;go_wp2_with fail
 refine (rorder2_c K _ (szM HK.out)).mono ?_;rintro e w4 ⟨rfl,hb4⟩;clear hRc0 hRf0 hRc1 hRf1;replace hR:=hR.after hb4;replace hP:=hP.after hb4;replace hS:=hS.after hb4;replace hBW:=bt hBW hb4;clear hb4 hRl hPl;have hRl:=hR.lt;have hPl:=hP.lt;obtain ⟨hPc0,hPf0,hPc1,hPf1,hPc2,hPf2⟩:=hP.x3;go_wp2_with fail
 refine (rorder16_c N _ _ _ _ HM.out hS).mono ?_;rintro e wx ⟨rfl,hb5⟩;clear hPc0 hPf0 hPc1 hPf1 hPc2 hPf2;replace hR:=hR.after hb5;replace hP:=hP.after hb5;replace hS:=hS.after hb5;replace hBW:=bt hBW hb5;clear hb5 hRl hPl;have HQD:=Lib.hid (ord_lt HM.out);obtain ⟨qd,hqd⟩:∃q,q=N.ord:=⟨_,rfl⟩;rw [←hqd];have HQ:=Lib.hid hqd;rw [←hqd] at HQD;clear hqd;go_wp2;go_loopw [9] (fun i wr=>∃k:Nat,k≤n2∧i=.int .i64 k∧Hid ((N.vars.take k).any vz=false)∧Below wx.heap.size wx wr) (fun i _=>n2-(intOf i).toNat)
 case atStart=>exact ⟨0,by omega,rfl,rfl,Below.refl _ _⟩
 case round =>
  obtain ⟨k,hk,rfl,HA,hbr⟩:=hrel;obtain ⟨wp,hwp⟩:∃wp,wp=wr:=⟨_,rfl⟩;subst hwp;replace hR:=hR.after hbr;replace hP:=hP.after hbr;replace hS:=hS.after hbr;replace hBW:=bt hBW hbr;have hRl:=hR.lt;have hPl:=hP.lt;by_cases hlt:k<n2
  ·have hkl:k<N.vars.length:=by rw [←HN2.out];exact hlt
   obtain ⟨b,o,rfl,hbl,x1⟩:=hS.vat hkl;have HVM:Hid ((N.vars[k]'hkl)∈N.vars):=List.getElem_mem hkl;have HT:=Lib.hid (any_take vz N.vars k hkl);generalize (N.vars[k]'hkl)=s1 at x1 HVM HT;have h0k:(0:Int)≤(k:Int):=by omega
   have h1k:(k:Int)<(n2:Int):=by omega
   rcases Nat.eq_zero_or_pos s1 with rfl | h0
   ·have hz:=zE (n:=0) rfl;obtain ⟨hPc0,hPf0,hPc1,hPf1,hPc2,hPf2⟩:=hP.x3;obtain ⟨hRc0,hRf0,hRc1,hRf1⟩:=hR.x2;have hgt:=cmp_pos C qd (by rw [HQ.out];exact HO.out);go_wp2_with fail
    refine (rorder_c C qd _ (szM HC.out) (szM (lt128 HQD.out))).mono ?_;rintro e w6 ⟨rfl,hb6⟩;go_wp2;go_ret3
    exact ⟨rfl,bt hBW hb6⟩
   ·have hz:=nzE h0;have HX:Hid ((N.vars.take (k+1)).any vz=(N.vars.take k).any vz):=by rw [Hid,HT.out,vz_pos h0,Bool.or_false]
    obtain ⟨hPc0,hPf0,hPc1,hPf1,hPc2,hPf2⟩:=hP.x3;obtain ⟨hRc0,hRf0,hRc1,hRf1⟩:=hR.x2;go_wp2;go_roundw
    case rel=>exact ⟨k+1,by omega,by go_num,by rw [Hid,HX.out];exact HA.out,hbr⟩
    case measure=>simp [intOf];omega
  ·have hab:N.vars.any vz=false:=any_end vz N.vars k (by rw [←HN2.out];omega) HA.out;exact absurd (hab.symm.trans HV.out) (by decide)
structure RRel (wF:World) (L:List (Nat × Nat)) (v10 v11:Value) (wr:World):Prop where
 a:NOwn wr wF.heap.size v10 (L.map (·.1))
 z:NOwn wr wF.heap.size v11 (L.map (·.2))
 d:∀g,v10.ownBlock=some g→v11.ownBlock≠some g
 b:Below wF.heap.size wF wr
theorem szk {n k:Nat} (h:n<256^k) (hk:k≤1000):(E n).size≤1000:=Nat.le_trans ((E_size_le n k).2 h) hk
theorem sz8 {n:Nat} (h:n<256^16):(E n).size≤1000:=szk h (by decide)
theorem rbounds_ok (N:NSta) (C K:Nat) (v1 v2 v3:Value) (w:World) (hC:C<256^16) (hK:K<256^16) (h2:2≤C) (h3:2≤K) (hv:N.vars.any vz=true→C≤N.ord) (hm:NOk N) (hS:NAt w v1 v2 v3 N) (hc:N.chk=0) :
  Calls Tryz.prog 14 #[.agg #[.string (E C),.string (E K)],.agg #[v1,v2,v3]] w (B2Post w (N.lims C K)):=by
 obtain ⟨i0,hi0,hz00,hz01,hz02⟩:=info_parts info_nat;have HI0:=Lib.hid hi0;have HA0:=Lib.hid hz00;have HB0:=Lib.hid hz01;have HC0:=Lib.hid hz02;clear hi0 hz00 hz01 hz02;have HC:=Lib.hid (lt128' hC (by decide));have HK:=Lib.hid (lt128' hK (by decide));have HC8:=Lib.hid hC;have HK8:=Lib.hid hK;have HC1:Hid (1≤C):=by unfold Hid;omega
 have HK1:Hid (1≤K):=by unfold Hid;omega
 have HV:=Lib.hid hv;have HCK:=Lib.hid hc;obtain ⟨a1,c1,a2,c2,a3,c3,rfl,rfl,rfl⟩:=hS.forms;obtain ⟨n1,hn1⟩:∃n,n=N.grps.length:=⟨_,rfl⟩;obtain ⟨n2,hn2⟩:∃n,n=N.vars.length:=⟨_,rfl⟩;obtain ⟨n3,hn3⟩:∃n,n=N.eqs.length:=⟨_,rfl⟩;have HN1:=Lib.hid hn1;have HN2:=Lib.hid hn2;have HN3:=Lib.hid hn3;have l1:n1≤10:=by rw [hn1];exact hm.ng
 have l2:n2≤12:=by rw [hn2];exact hm.nv
 have l3:n3≤12:=by rw [hn3];exact hm.ne
 have HM:=Lib.hid hm;rw [←hn1,←hn2,←hn3] at hS ⊢;clear hm hn1 hn2 hn3;have HCHK:=Lib.hid (rchk0_c N _ _ _ w HM.out hS HCK.out);have hR:=blk2a w #[.string (E C),.string (E K)] #[.slice a1 n1 c1,.slice a2 n2 c2,.slice a3 n3 c3] 24 29;have hP:=blk2b w #[.string (E C),.string (E K)] #[.slice a1 n1 c1,.slice a2 n2 c2,.slice a3 n3 c3] 24 29;have hBW:=b2 w (.cells #[.string (E C),.string (E K)] 24) (.cells #[.slice a1 n1 c1,.slice a2 n2 c2,.slice a3 n3 c3] 29);replace hS:=hS.after hBW;have hnl:=cmp_nneg C 2 h2;have hnl2:=cmp_nneg K 2 h3;clear hC hK hc h2 h3 hv;obtain ⟨hRc0,hRf0,hRc1,hRf1⟩:=hR.x2;obtain ⟨hPc0,hPf0,hPc1,hPf1,hPc2,hPf2⟩:=hP.x3;go_enter Tryz.func14,Tryz.ntmps14
 go_wp2_with fail
 refine (rvalidE_c C _ HC.out).mono ?_;rintro e w' ⟨rfl,rfl⟩;go_wp2_with fail
 refine (rvalidE_c K _ HK.out).mono ?_;rintro e w' ⟨rfl,rfl⟩;go_wp2_with fail
 refine (HCHK.out _ hBW).mono ?_;rintro e w2 ⟨rfl,hb2⟩;clear hRc0 hRf0 hRc1 hRf1;clear hPc0 hPf0 hPc1 hPf1 hPc2 hPf2;replace hR:=hR.after hb2;replace hP:=hP.after hb2;replace hS:=hS.after hb2;replace hBW:=bt hBW hb2;clear hb2;have hRl:=hR.lt;have hPl:=hP.lt;obtain ⟨hRc0,hRf0,hRc1,hRf1⟩:=hR.x2;go_wp2_with fail
 refine (rorder2_c C _ (szM HC.out)).mono ?_;rintro e w3 ⟨rfl,hb3⟩;clear hRc0 hRf0 hRc1 hRf1;replace hR:=hR.after hb3;replace hP:=hP.after hb3;replace hS:=hS.after hb3;replace hBW:=bt hBW hb3;clear hb3 hRl hPl;have hRl:=hR.lt;have hPl:=hP.lt;obtain ⟨hRc0,hRf0,hRc1,hRf1⟩:=hR.x2;go_wp2_with fail
 refine (rorder2_c K _ (szM HK.out)).mono ?_;rintro e w4 ⟨rfl,hb4⟩;clear hRc0 hRf0 hRc1 hRf1;replace hR:=hR.after hb4;replace hP:=hP.after hb4;replace hS:=hS.after hb4;replace hBW:=bt hBW hb4;clear hb4 hRl hPl;have hRl:=hR.lt;have hPl:=hP.lt;obtain ⟨hPc0,hPf0,hPc1,hPf1,hPc2,hPf2⟩:=hP.x3;go_wp2_with fail
 refine (rorder16_c N _ _ _ _ HM.out hS).mono ?_;rintro e wx ⟨rfl,hb5⟩;clear hPc0 hPf0 hPc1 hPf1 hPc2 hPf2;replace hR:=hR.after hb5;replace hP:=hP.after hb5;replace hS:=hS.after hb5;replace hBW:=bt hBW hb5;clear hb5 hRl hPl;have HQD:=Lib.hid (ord_lt HM.out);obtain ⟨qd,hqd⟩:∃q,q=N.ord:=⟨_,rfl⟩;rw [←hqd];have HQ:=Lib.hid hqd;rw [←hqd] at HQD;clear hqd;go_wp2;go_loopw [9] (fun i wr=>∃k:Nat,k≤n2∧i=.int .i64 k∧Hid (0≤k)∧Below wx.heap.size wx wr) (fun i _=>n2-(intOf i).toNat)
 case atStart=>exact ⟨0,by omega,rfl,Nat.zero_le _,Below.refl _ _⟩
 case round =>
  obtain ⟨k,hk,rfl,HA,hbr⟩:=hrel;obtain ⟨wp,hwp⟩:∃wp,wp=wr:=⟨_,rfl⟩;subst hwp;replace hR:=hR.after hbr;replace hP:=hP.after hbr;replace hS:=hS.after hbr;replace hBW:=bt hBW hbr;have hRl:=hR.lt;have hPl:=hP.lt;by_cases hlt:k<n2
  ·have hkl:k<N.vars.length:=by rw [←HN2.out];exact hlt
   obtain ⟨b,o,rfl,hbl,x1⟩:=hS.vat hkl;have HVM:Hid ((N.vars[k]'hkl)∈N.vars):=List.getElem_mem hkl;have HT:=Lib.hid (any_take vz N.vars k hkl);generalize (N.vars[k]'hkl)=s1 at x1 HVM HT;have h0k:(0:Int)≤(k:Int):=by omega
   have h1k:(k:Int)<(n2:Int):=by omega
   rcases Nat.eq_zero_or_pos s1 with rfl | h0
   ·have hz:=zE (n:=0) rfl;obtain ⟨hPc0,hPf0,hPc1,hPf1,hPc2,hPf2⟩:=hP.x3;obtain ⟨hRc0,hRf0,hRc1,hRf1⟩:=hR.x2;have hgt:=cmp_npos C qd (by rw [HQ.out];exact HV.out (List.any_eq_true.2 ⟨_,HVM.out,rfl⟩));go_wp2_with fail
    refine (rorder_c C qd _ (szM HC.out) (szM (lt128 HQD.out))).mono ?_;rintro e w6 ⟨rfl,hb6⟩;go_wp2;go_roundw
    case rel=>exact ⟨k+1,by omega,by go_num,Nat.zero_le _,bt hbr hb6⟩
    case measure=>simp [intOf];omega
   ·have hz:=nzE h0;have HX:Hid ((N.vars.take (k+1)).any vz=(N.vars.take k).any vz):=by rw [Hid,HT.out,vz_pos h0,Bool.or_false]
    obtain ⟨hPc0,hPf0,hPc1,hPf1,hPc2,hPf2⟩:=hP.x3;obtain ⟨hRc0,hRf0,hRc1,hRf1⟩:=hR.x2;go_wp2;go_roundw
    case rel=>exact ⟨k+1,by omega,by go_num,Nat.zero_le _,hbr⟩
    case measure=>simp [intOf];omega
  ·clear hbr HA;obtain ⟨hPc0,hPf0,hPc1,hPf1,hPc2,hPf2⟩:=hP.x3;obtain ⟨hRc0,hRf0,hRc1,hRf1⟩:=hR.x2;go_wp2;clear hPc0 hPf0 hPc1 hPf1 hPc2 hPf2;clear hRc0 hRf0 hRc1 hRf1;clear hRl hPl;obtain ⟨wF,hwF⟩:∃wF,wF=wp:=⟨_,rfl⟩;rw [←hwF] at hR hP hS hBW ⊢;clear hwF;go_loopw [10,11,12] (fun v10 v11 i wr=>∃k:Nat,k≤n2∧i=.int .i64 k∧RRel wF ((N.lims C K).take k) v10 v11 wr) (fun _ _ i _=>n2-(intOf i).toNat)
   case atStart=>exact ⟨0,by omega,rfl,⟨World.ownsRow_nil _ _ _ _,World.ownsRow_nil _ _ _ _,fun g h=>by simp [Value.ownBlock] at h,Below.refl _ _⟩⟩
   case round =>
    clear hlt hk;obtain ⟨k,hk,rfl,hI⟩:=hrel;obtain ⟨wq,hwq⟩:∃wq,wq=wr:=⟨_,rfl⟩;subst hwq;have hbr:=hI.b;have hS1:=hS.after hbr;have hP1:=hP.after hbr;have hR1:=hR.after hbr;have hBW1:=bt hBW hbr;have hPl:=hP1.lt;have hRl:=hR1.lt;by_cases hlt:k<n2
    ·have hkl:k<N.vars.length:=by rw [←HN2.out];exact hlt
     have HBZ:=Lib.hid (HM.out.v _ (List.getElem_mem hkl));have HST:=Lib.hid (lims_step N C K k hkl);obtain ⟨b0,o0,rfl,hbl,x1⟩:=hS1.vat hkl;generalize (N.vars[k]'hkl)=b at x1 HBZ HST;have h0k:(0:Int)≤(k:Int):=by omega
     have h1k:(k:Int)<(n2:Int):=by omega
     obtain ⟨l1',hl1⟩:∃x,x=(lim N.ord C K b).1:=⟨_,rfl⟩;obtain ⟨l2',hl2⟩:∃x,x=(lim N.ord C K b).2:=⟨_,rfl⟩;have HST1:Hid (((N.lims C K).take (k+1)).map (·.1)=((N.lims C K).take k).map (·.1)++[l1']):=by rw [Hid,HST.out,List.map_append,hl1];rfl
     have HST2:Hid (((N.lims C K).take (k+1)).map (·.2)=((N.lims C K).take k).map (·.2)++[l2']):=by rw [Hid,HST.out,List.map_append,hl2];rfl
     have HL1:=Lib.hid hl1;have HL2:=Lib.hid hl2;clear hl1 hl2 HST;have hla:(((N.lims C K).take k).map (·.1)).length=k:=by rw [List.length_map,List.length_take,NSta.lims,List.length_map];omega
     have hlb:(((N.lims C K).take k).map (·.2)).length=k:=by rw [List.length_map,List.length_take,NSta.lims,List.length_map];omega
     have hOA0:wq.ownsRow wF.heap.size 22 1 u10 k (strs (((N.lims C K).take k).map (·.1))):=by have h:wq.ownsRow _ _ _ _ _ _:=hI.a;rw [hla] at h;exact h
     have hOB0:wq.ownsRow wF.heap.size 22 1 u11 k (strs (((N.lims C K).take k).map (·.2))):=by have h:wq.ownsRow _ _ _ _ _ _:=hI.z;rw [hlb] at h;exact h
     have HDJ:=Lib.hid hI.d;have HLA:=Lib.hid hla;have HLB:=Lib.hid hlb;clear hI hla hlb;generalize ((N.lims C K).take k).map (·.1)=LA at hOA0 HST1 HLA;generalize ((N.lims C K).take k).map (·.2)=LB at hOB0 HST2 HLB;have hszq:=hbr.size;rcases Nat.eq_zero_or_pos b with rfl | h0
     ·have hz:=zE (n:=0) rfl;have HE1:Hid (l1'=qd):=by rw [Hid,HL1.out,HQ.out];rfl
      have HE2:Hid (l2'=qd):=by rw [Hid,HL2.out,HQ.out];rfl
      rw [HE1.out] at HST1;rw [HE2.out] at HST2;obtain ⟨hP1c0,hP1f0,hP1c1,hP1f1,hP1c2,hP1f2⟩:=hP1.x3;obtain ⟨hR1c0,hR1f0,hR1c1,hR1f1⟩:=hR1.x2;go_wp2_with (first | (at_builtin;refine wpList_append_lies _ rfl (.tmp 79) (.tmp 81) _ rfl wF.heap.size 22 i0 _ 1 16 Tryz.underlying32 HI0.out HA0.out HB0.out HC0.out rfl (by omega) u10 k (strs LA) rfl (own_after hOA0 (b1 _ (.cells #[.string (E qd)] 22))) ⟨wq.heap.size,0,none⟩ 1 1 [.string (E qd)] rfl rfl (Blk.new wq #[.string (E qd)] 22).cells (by simp [Value.oneCell']) (by omega) (by simp only [maxLen];omega) (by omega) (by rw [World.size_alloc];omega) (wq.heap.size+1) (by simp) ?_;intro ga ca wa hownA hgrowA hatA hltA;have hOBa:wa.ownsRow wF.heap.size 22 1 u11 k (strs LB):=own_keep (own_after hOB0 (b1 _ (.cells #[.string (E qd)] 22))) (fun g hv=>hgrowA.block g (Nat.lt_of_lt_of_le (own_lt hOB0 hv).1 (b1 wq _).size) (fun e=>HDJ.out g e.symm hv));have hBa:Below wF.heap.size wF wa:=Below.grown (ba hbr (.cells #[.string (E qd)] 22)) hgrowA (by rw [World.size_alloc];omega) (fun g hg=>(own_lt hOA0 hg).2);have hsa:=hBa.size;have HDA:Hid (∀g,u11.ownBlock=some g→g≠ga):=(fun g hg e=>by subst e;rcases hatA with h | h;exact HDJ.out _ h hg;exact absurd (own_lt hOB0 hg).1 (by omega));clear hatA hltA hgrowA) | (at_builtin;refine wpList_append_lies _ rfl (.tmp 83) (.tmp 85) _ rfl wF.heap.size 22 i0 _ 1 16 Tryz.underlying32 HI0.out HA0.out HB0.out HC0.out rfl (by omega) u11 k (strs LB) rfl (own_after hOBa (b1 _ (.cells #[.string (E qd)] 22))) ⟨wa.heap.size,0,none⟩ 1 1 [.string (E qd)] rfl rfl (Blk.new wa #[.string (E qd)] 22).cells (by simp [Value.oneCell']) (by omega) (by simp only [maxLen];omega) (by omega) (by rw [World.size_alloc];omega) (wa.heap.size+1) (by simp) ?_;intro gb cb wb hownB hgrowB hatB hltB))
      clear hP1c0 hP1f0 hP1c1 hP1f1 hP1c2 hP1f2;clear hR1c0 hR1f0 hR1c1 hR1f1;have hAb:wb.ownsRow wF.heap.size 22 1 (.slice (some ⟨ga,0,none⟩) (k+1) ca) (k+1) (strs LA++[.string (E qd)]):=own_keep (own_after hownA (b1 _ (.cells #[.string (E qd)] 22))) (fun g hv=>hgrowB.block g (Nat.lt_of_lt_of_le (own_lt hownA hv).1 (b1 _ _).size) (fun e=>by have e1:ga=g:=(by simpa [Value.ownBlock] using hv);exact HDA.out g e.symm e1.symm));have hBb:Below wF.heap.size wF wb:=Below.grown (ba hBa (.cells #[.string (E qd)] 22)) hgrowB (by rw [World.size_alloc];omega) (fun g hg=>(own_lt hOBa hg).2)
      have HDB:Hid (∀g,(Value.slice (some ⟨ga,0,none⟩) (k+1) ca).ownBlock=some g→(Value.slice (some ⟨gb,0,none⟩) (k+1) cb).ownBlock≠some g):=by
       intro g h1 h2;have e1:ga=g:=by simpa [Value.ownBlock] using h1
       have e2:gb=g:=by simpa [Value.ownBlock] using h2
       have hlA:=(own_lt hownA h1).1;rcases hatB with h | h
       ·exact HDA.out gb h (e2.trans e1.symm)
       ·omega
      clear hatB hltB hgrowB;have hRA:NOwn wb wF.heap.size (.slice (some ⟨ga,0,none⟩) (k+1) ca) (LA++[qd]):=by rw [NOwn,List.length_append,HLA.out,←strs_app];exact hAb
      have hRB:NOwn wb wF.heap.size (.slice (some ⟨gb,0,none⟩) (k+1) cb) (LB++[qd]):=by rw [NOwn,List.length_append,HLB.out,←strs_app];exact hownB
      rw [show LA++[qd]=((N.lims C K).take (k+1)).map (·.1) by rw [HST1.out]] at hRA;rw [show LB++[qd]=((N.lims C K).take (k+1)).map (·.2) by rw [HST2.out]] at hRB;clear hAb hownB hownA;go_wp2;go_roundw
      case rel=>exact ⟨k+1,by omega,by go_num,⟨hRA,hRB,HDB.out,hBb⟩⟩
      case measure=>simp [intOf];omega
     ·have hz:=nzE h0;have HE1:Hid (l1'=K*C*b):=by rw [Hid,HL1.out,lim,if_neg (by omega)]
      have HE2:Hid (l2'=K*C*b-(C-1)*(b-1)):=by rw [Hid,HL2.out,lim,if_neg (by omega)]
      have H3:=Lib.hid (lt_mul3 HC8.out HK8.out HBZ.out);have HCB:=Lib.hid (mul_cb (C:=C) (b:=b) HK1.out);have HB0':Hid (1≤b):=h0;clear h0;obtain ⟨m1,hm1⟩:∃m,m=K*C:=⟨_,rfl⟩;rw [←hm1] at H3 HCB HE1 HE2;obtain ⟨m2,hm2⟩:∃m,m=m1*b:=⟨_,rfl⟩;rw [←hm2] at H3 HCB HE1 HE2;obtain ⟨e1,he1⟩:∃m,m=(C-1)*(b-1):=⟨_,rfl⟩;rw [←he1] at HCB HE2;have HT1:Hid (∀w,Calls Tryz.prog 46 #[.string (E K),.string (E C)] w fun e w'=>e=.returned (.string (E m1))∧Below w.heap.size w w'):=fun w=>by rw [hm1];exact rtimes_c K C w (sz8 HK8.out) (sz8 HC8.out)
      have HT2:Hid (∀w,Calls Tryz.prog 46 #[.string (E m1),.string (E b)] w fun e w'=>e=.returned (.string (E m2))∧Below w.heap.size w w'):=fun w=>by rw [hm2];exact rtimes_c m1 b w (szk H3.out.1 (by decide)) (szk HBZ.out (by decide))
      have HT3:Hid (∀w,Calls Tryz.prog 46 #[.string (E (C-1)),.string (E (b-1))] w fun e w'=>e=.returned (.string (E e1))∧Below w.heap.size w w'):=fun w=>by rw [he1];exact rtimes_c (C-1) (b-1) w (szk (Nat.lt_of_le_of_lt (Nat.sub_le _ _) HC8.out) (by decide)) (szk (Nat.lt_of_le_of_lt (Nat.sub_le _ _) HBZ.out) (by decide))
      have HM2:Hid (m2<256^128):=lt128' H3.out.2 (by decide);clear hm1 hm2 he1;generalize hc1:C-1=c1 at HT3;generalize hd1:b-1=d1 at HT3;have HN1':Hid (∀w,Calls Tryz.prog 47 #[.string (E C),.string { data:=#[1] }] w fun e w'=>e=.returned (.string (E c1))∧Below w.heap.size w w'):=fun w=>by rw [←hc1];exact rminus1_c C w (szM HC.out) HC1.out
      have HN2':Hid (∀w,Calls Tryz.prog 47 #[.string (E b),.string { data:=#[1] }] w fun e w'=>e=.returned (.string (E d1))∧Below w.heap.size w w'):=fun w=>by rw [←hd1];exact rminus1_c b w (szM (lt128' HBZ.out (by decide))) HB0'.out
      have HN3':Hid (∀w,Calls Tryz.prog 47 #[.string (E m2),.string (E e1)] w fun e w'=>e=.returned (.string (E (m2-e1)))∧Below w.heap.size w w'):=fun w=>rminus_c m2 e1 w (szM HM2.out) HCB.out
      generalize hdf:m2-e1=df at HN3' HE2;have HDF:=Lib.hid hdf;clear hc1 hd1 hdf;rw [HE1.out] at HST1;rw [HE2.out] at HST2;clear HE1 HE2 HL1 HL2 HCB H3;obtain ⟨hP1c0,hP1f0,hP1c1,hP1f1,hP1c2,hP1f2⟩:=hP1.x3;obtain ⟨hR1c0,hR1f0,hR1c1,hR1f1⟩:=hR1.x2;go_wp2_with fail
      refine (HT1.out _).mono ?_;rintro e y1 ⟨rfl,hy1⟩;go_wp2_with fail
      refine (HT2.out _).mono ?_;rintro e y2 ⟨rfl,hy2⟩;clear hP1c0 hP1f0 hP1c1 hP1f1 hP1c2 hP1f2;clear hR1c0 hR1f0 hR1c1 hR1f1;have hbe:=bt hy1 hy2;replace hR1:=hR1.after hbe;replace hP1:=hP1.after hbe;replace hbr:=bt hbr hbe;replace hOA0:=own_after hOA0 hbe;replace hOB0:=own_after hOB0 hbe;replace hBW1:=bt hBW1 hbe;clear hy1 hy2 hbe hRl hPl x1 hbl hS1;have hRl:=hR1.lt;obtain ⟨hR1c0,hR1f0,hR1c1,hR1f1⟩:=hR1.x2;go_wp2_with fail
      refine (HN1'.out _).mono ?_;rintro e y3 ⟨rfl,hy3⟩;go_wp2_with fail
      refine (HN2'.out _).mono ?_;rintro e y4 ⟨rfl,hy4⟩;go_wp2_with fail
      refine (HT3.out _).mono ?_;rintro e y5 ⟨rfl,hy5⟩;go_wp2_with fail
      refine (rvalidV_c (E m2) true _ (by have:=szM HM2.out;omega) (vldB_E m2 HM2.out)).mono ?_;rintro e w' ⟨rfl,rfl⟩;clear hR1c0 hR1f0 hR1c1 hR1f1;have hbe:=bt (bt hy3 hy4) hy5;replace hbr:=bt hbr hbe;replace hOA0:=own_after hOA0 hbe;replace hOB0:=own_after hOB0 hbe;replace hBW1:=bt hBW1 hbe;replace hszq:=hbr.size;clear hy3 hy4 hy5 hbe hRl hR1 hP1 HT1 HT2 HT3 HN1' HN2';obtain ⟨wq,hwq⟩:∃wq,wq=y5:=⟨_,rfl⟩;subst hwq;go_wp2_with (at_builtin;refine wpList_append_lies _ rfl (.tmp 103) (.tmp 105) _ rfl wF.heap.size 22 i0 _ 1 16 Tryz.underlying32 HI0.out HA0.out HB0.out HC0.out rfl (by omega) u10 k (strs LA) rfl (own_after hOA0 (b1 _ (.cells #[.string (E m2)] 22))) ⟨wq.heap.size,0,none⟩ 1 1 [.string (E m2)] rfl rfl (Blk.new wq #[.string (E m2)] 22).cells (by simp [Value.oneCell']) (by omega) (by simp only [maxLen];omega) (by omega) (by rw [World.size_alloc];omega) (wq.heap.size+1) (by simp) ?_;intro ga ca wa hownA hgrowA hatA hltA;have hOBa:wa.ownsRow wF.heap.size 22 1 u11 k (strs LB):=own_keep (own_after hOB0 (b1 _ (.cells #[.string (E m2)] 22))) (fun g hv=>hgrowA.block g (Nat.lt_of_lt_of_le (own_lt hOB0 hv).1 (b1 wq _).size) (fun e=>HDJ.out g e.symm hv));have hBa:Below wF.heap.size wF wa:=Below.grown (ba hbr (.cells #[.string (E m2)] 22)) hgrowA (by rw [World.size_alloc];omega) (fun g hg=>(own_lt hOA0 hg).2);have hsa:=hBa.size;have HDA:Hid (∀g,u11.ownBlock=some g→g≠ga):=(fun g hg e=>by subst e;rcases hatA with h | h;exact HDJ.out _ h hg;exact absurd (own_lt hOB0 hg).1 (by omega));clear hatA hltA hgrowA)
      refine (HN3'.out _).mono ?_;rintro e wm ⟨rfl,hym⟩;have hAm:=own_after hownA hym;have hOBm:=own_after hOBa hym;have hBm:=bt hBa hym;have hsm:=hBm.size;clear hym;go_wp2_with (at_builtin;refine wpList_append_lies _ rfl (.tmp 107) (.tmp 111) _ rfl wF.heap.size 22 i0 _ 1 16 Tryz.underlying32 HI0.out HA0.out HB0.out HC0.out rfl (by omega) u11 k (strs LB) rfl (own_after hOBm (b1 _ (.cells #[.string (E df)] 22))) ⟨wm.heap.size,0,none⟩ 1 1 [.string (E df)] rfl rfl (Blk.new wm #[.string (E df)] 22).cells (by simp [Value.oneCell']) (by omega) (by simp only [maxLen];omega) (by omega) (by rw [World.size_alloc];omega) (wm.heap.size+1) (by simp) ?_;intro gb cb wb hownB hgrowB hatB hltB)
      have hAb:wb.ownsRow wF.heap.size 22 1 (.slice (some ⟨ga,0,none⟩) (k+1) ca) (k+1) (strs LA++[.string (E m2)]):=own_keep (own_after hAm (b1 _ (.cells #[.string (E df)] 22))) (fun g hv=>hgrowB.block g (Nat.lt_of_lt_of_le (own_lt hAm hv).1 (b1 _ _).size) (fun e=>by have e1:ga=g:=(by simpa [Value.ownBlock] using hv);exact HDA.out g e.symm e1.symm));have hBb:Below wF.heap.size wF wb:=Below.grown (ba hBm (.cells #[.string (E df)] 22)) hgrowB (by rw [World.size_alloc];omega) (fun g hg=>(own_lt hOBm hg).2)
      have HDB:Hid (∀g,(Value.slice (some ⟨ga,0,none⟩) (k+1) ca).ownBlock=some g→(Value.slice (some ⟨gb,0,none⟩) (k+1) cb).ownBlock≠some g):=by
       intro g h1 h2;have e1:ga=g:=by simpa [Value.ownBlock] using h1
       have e2:gb=g:=by simpa [Value.ownBlock] using h2
       have hlA:=(own_lt hAm h1).1;rcases hatB with h | h
       ·exact HDA.out gb h (e2.trans e1.symm)
       ·omega
      clear hatB hltB hgrowB;have hRA:NOwn wb wF.heap.size (.slice (some ⟨ga,0,none⟩) (k+1) ca) (LA++[m2]):=by rw [NOwn,List.length_append,HLA.out,←strs_app];exact hAb
      have hRB:NOwn wb wF.heap.size (.slice (some ⟨gb,0,none⟩) (k+1) cb) (LB++[df]):=by rw [NOwn,List.length_append,HLB.out,←strs_app];exact hownB
      rw [show LA++[m2]=((N.lims C K).take (k+1)).map (·.1) by rw [HST1.out]] at hRA;rw [show LB++[df]=((N.lims C K).take (k+1)).map (·.2) by rw [HST2.out]] at hRB;clear hAb hownB hownA;go_wp2;go_roundw
      case rel=>exact ⟨k+1,by omega,by go_num,⟨hRA,hRB,HDB.out,hBb⟩⟩
      case measure=>simp [intOf];omega
    ·have HTK:Hid ((N.lims C K).take k=N.lims C K):=List.take_of_length_le (by rw [NSta.lims,List.length_map,←HN2.out];omega);have ha:=hI.a;have hz':=hI.z;rw [HTK.out] at ha hz';have hs1:=hBW.size;obtain ⟨hP1c0,hP1f0,hP1c1,hP1f1,hP1c2,hP1f2⟩:=hP1.x3;go_wp2;go_ret3
     exact ⟨_,_,rfl,own_mono ha hs1,own_mono hz' hs1,hBW1⟩
end
end Go.Proofs.YtcfjcenmcpankaaGreatDoor
