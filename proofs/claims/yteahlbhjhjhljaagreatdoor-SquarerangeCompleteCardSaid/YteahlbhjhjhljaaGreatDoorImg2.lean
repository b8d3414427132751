import Derived.Test.YteahlbhjhjhljaaGreatDoorRow27
import Derived.Test.YteahlbhjhjhljaaGreatDoorLc27
import Derived.Test.YteahlbhjhjhljaaGreatDoorLck6
import Derived.Deep.RegionHeld3
set_option linter.unusedVariables false
set_option linter.unusedSimpArgs false
set_option maxRecDepth 100000
set_option maxHeartbeats 16000000
namespace Go.Proofs.YteahlbhjhjhljaaGreatDoor
section
open Go.RowKit
theorem imul_c (x y:Int) (w:World) (hx:x.natAbs<256^128) (hy:y.natAbs<256^128) (hxy:x.natAbs*y.natAbs<256^128) :
  Calls Tryz.prog 110 #[.agg #[.bool (sg (x)),.string (E (x).natAbs)],.agg #[.bool (sg (y)),.string (E (y).natAbs)]] w fun e w'=>e=.returned (.tuple #[.agg #[.bool (sg (x*y)),.string (E (x*y).natAbs)],.int .i64 0])∧Below w.heap.size w w':=by
 have HX:=Lib.hid hx;have HY:=Lib.hid hy;have HXY:=Lib.hid hxy;have hs:=(E_size_le _ 128).2 hxy;clear hx hy hxy;have HM:=Lib.hid (mul_made x y);have hA:=blk3a w #[Value.bool (sg x),Value.string (E x.natAbs)] #[Value.bool (sg y),Value.string (E y.natAbs)] #[Value.bool false,Value.string { data:=#[] }] 28 28 28;have hB:=blk3b w #[Value.bool (sg x),Value.string (E x.natAbs)] #[Value.bool (sg y),Value.string (E y.natAbs)] #[Value.bool false,Value.string { data:=#[] }] 28 28 28;have hC:=blk3c w #[Value.bool (sg x),Value.string (E x.natAbs)] #[Value.bool (sg y),Value.string (E y.natAbs)] #[Value.bool false,Value.string { data:=#[] }] 28 28 28;go_enter Tryz.func110,Tryz.ntmps110
 go_wp2_with fail
 refine (iboth_c x y _ HX.out HY.out).mono ?_;rintro e w1 ⟨rfl,hb1⟩;replace hA:=hA.after hb1;replace hB:=hB.after hb1;replace hC:=hC.after hb1;obtain ⟨hAc0,hAf0,hAc1,hAf1⟩:=hA.x2;obtain ⟨hBc0,hBf0,hBc1,hBf1⟩:=hB.x2;go_wp2_with fail
 refine (mul_c x.natAbs y.natAbs _ HX.out HY.out HXY.out).mono ?_;rintro e w2 ⟨rfl,hb2⟩;clear hAc0 hAf0 hAc1 hAf1;clear hBc0 hBf0 hBc1 hBf1;replace hA:=hA.after hb2;replace hB:=hB.after hb2;replace hC:=hC.after hb2;obtain ⟨hAc0,hAf0,hAc1,hAf1⟩:=hA.x2;obtain ⟨hBc0,hBf0,hBc1,hBf1⟩:=hB.x2;go_wp2_with fail
 refine (made_c (sg x != sg y) (x.natAbs*y.natAbs) (x*y) _ (by omega) HM.out).mono ?_;rintro e w3 ⟨rfl,hb3⟩;clear hAc0 hAf0 hAc1 hAf1;clear hBc0 hBf0 hBc1 hBf1;replace hC:=hC.after hb3;obtain ⟨hCc0,hCf0,hCc1,hCf1⟩:=hC.x2;go_wp2;refine bodyPost_ret (v:=.tuple #[.agg #[.bool (sg (x*y)),.string (E (x*y).natAbs)],.int .i64 0]) ?_ rfl ⟨rfl,?_⟩
 ·simp [results,Tryz.results110,go_sem,hCc0,hCc1]
 ·exact ((bt (bt (bt (b3 _ _ _ _) hb1) hb2) hb3).setCell (by simp;omega) _).setCell (by simp;omega) _
def NOwn (w:World) (base:Nat) (v:Value) (L:List Nat):Prop:=w.ownsRow base 22 1 v L.length (strs L)
def ZOwn (w:World) (base:Nat) (v:Value) (Z:List Int):Prop:=w.ownsRow base 28 2 v Z.length (ics (Z.map zI))
theorem NOwn.ss {w:World} {base:Nat} {v:Value} {L:List Nat} (h:NOwn w base v L):SsAt w v (L.map E):=by
 have h0:w.ownsRow base 22 1 v L.length (strs L):=h;rcases h0.2 with ⟨rfl,h2⟩ | ⟨g,cap,cur,rfl,h3,h4,_⟩
 ·exact ⟨none,0,by simp [h2],.inl (by simp [h2])⟩
 ·refine ⟨_,_,by simp;rfl,.inr ⟨g,0,rfl,(Array.getElem?_eq_some_iff.1 h4).1,fun j hj=>⟨_,rfl,fun i hi=>?_⟩⟩⟩;obtain rfl:i=0:=by omega
  have hj':j<L.length:=by simpa using hj
  rw [show (0+j*1+0:Nat)=j by omega];rw [own_cellS h0 j _ (by rw [strs,List.getElem?_map,List.getElem?_eq_getElem hj'];rfl)];simp
theorem ZOwn.zs {w:World} {base:Nat} {v:Value} {Z:List Int} (h:ZOwn w base v Z):ZsAt w v Z:=by
 have h0:w.ownsRow base 28 2 v Z.length (ics (Z.map zI)):=h;rcases h0.2 with ⟨rfl,h2⟩ | ⟨g,cap,cur,rfl,h3,h4,_⟩
 ·exact ⟨none,0,by simp [h2],.inl (by simp [h2])⟩
 ·refine ⟨_,_,by simp;rfl,.inr ⟨g,0,rfl,(Array.getElem?_eq_some_iff.1 h4).1,fun j hj=>⟨_,rfl,fun i hi=>?_⟩⟩⟩;obtain ⟨q1,q2⟩:=ics_get (Z.map zI) j hj;obtain rfl | rfl:i=0∨i=1:=by omega
  ·rw [show (0+j*2+0:Nat)=j*2 by omega,own_cellS h0 _ _ q1];rfl
  ·rw [show (0+j*2+1:Nat)=j*2+1 by omega,own_cellS h0 _ _ q2];rfl
theorem NOwn.form {w:World} {base:Nat} {v:Value} {L:List Nat} (h:NOwn w base v L) (h0:0<L.length):∃g c,v=.slice (some ⟨g,0,none⟩) L.length c∧base≤g∧L.length≤c∧NatsAt w g L:=by
 have k:w.ownsRow base 22 1 v L.length (strs L):=h;rcases k.2 with ⟨rfl,h2⟩ | ⟨g,cap,cur,rfl,h3,h4,h5,_⟩
 ·omega
 ·exact ⟨g,cap,rfl,h3,h5,(Array.getElem?_eq_some_iff.1 h4).1,fun j hj=>own_cellS k j _ (by rw [strs,List.getElem?_map,List.getElem?_eq_getElem hj];rfl)⟩
theorem ZOwn.form {w:World} {base:Nat} {v:Value} {Z:List Int} (h:ZOwn w base v Z) (h0:0<Z.length):∃g c,v=.slice (some ⟨g,0,none⟩) Z.length c∧base≤g∧Z.length≤c∧IntsAt w g Z:=by
 have k:w.ownsRow base 28 2 v Z.length (ics (Z.map zI)):=h;rcases k.2 with ⟨rfl,h2⟩ | ⟨g,cap,cur,rfl,h3,h4,h5,_⟩
 ·omega
 ·refine ⟨g,cap,rfl,h3,h5,(Array.getElem?_eq_some_iff.1 h4).1,fun j hj=>?_⟩;obtain ⟨q1,q2⟩:=ics_get (Z.map zI) j (by simpa using hj);refine ⟨?_,?_⟩
  ·rw [own_cellS k _ _ q1];simp [zI]
  ·rw [own_cellS k _ _ q2];simp [zI]
theorem prs_snoc (p:Nat) (L:List Nat) (Z:List Int) (k:Nat) (h1:k<L.length) (h2:k<Z.length):prs p (L.take (k+1)) (Z.take (k+1))=prs p (L.take k) (Z.take k)++[(bse p L[k] Z[k],Z[k].natAbs)]:=by
 rw [List.take_succ_eq_append_getElem h1,List.take_succ_eq_append_getElem h2];unfold prs;rw [List.zipWith_append (by simp;omega)];rfl
theorem pw_snoc (l:List (Nat × Nat)) (x e:Nat):pw (l++[(x,e)]) 0=pw l 0*x^e:=by
 induction l with
 | nil=>simp [pw]
 | cons y t ih=>simp only [List.cons_append,pw,ih,Nat.mul_assoc]
theorem powI_bse {p x:Nat} (z:Int) (hx:x<p):powI x z p=bse p x z^z.natAbs%p:=by
 unfold powI bse;rw [Nat.mod_eq_of_lt hx];split <;> rfl
theorem prodI_step (p:Nat) (L:List Nat) (Z:List Int) (k:Nat) (h1:k<L.length) (h2:k<Z.length) (hx:L[k]<p):pw (prs p (L.take k) (Z.take k)) 0%p*powI L[k] Z[k] p%p=pw (prs p (L.take (k+1)) (Z.take (k+1))) 0%p:=by
 rw [prs_snoc p L Z k h1 h2,pw_snoc,powI_bse _ hx,←Nat.mul_mod]
theorem rproduct_c (p q:Nat) (L:List Nat) (Z:List Int) (v1 v2:Value) (w:World) (hp:p<256^8) (hq:q<256^128) (hg:grpE p q=0)
  (hn:L.length=Z.length) (hn1:L.length≤1000) (hx:∀x∈L,hasB p q x=true) (hzz:∀z∈Z,z.natAbs<256^128) (hL:SsAt w v1 (L.map E)) (hZ:ZsAt w v2 Z) :
  Calls Tryz.prog 114 #[.agg #[.string (E p),.string (E q)],v1,v2] w fun e w'=>e=.returned (.tuple #[.string (E (pw (prs p L Z) 0%p)),.int .i64 0])∧Below w.heap.size w w':=by
 obtain ⟨a1,c1,e1⟩:=RAt.form hL;obtain ⟨a2,c2,e2⟩:=hZ.form;rw [List.length_map] at e1;rw [←hn] at e2;obtain ⟨n,hn'⟩:∃n,n=L.length:=⟨_,rfl⟩;have HNL:=Lib.hid hn';have HNZ:Hid (n=Z.length):=by rw [Hid,hn',hn]
 rw [←hn'] at e1 e2 hn1;subst e1 e2;have HP2:=Lib.hid (grp_gt hg);have HP:=Lib.hid hp;have HX:=Lib.hid hx;have HZZ:=Lib.hid hzz;have HG:=Lib.hid hg;have HQ:=Lib.hid hq;obtain ⟨r,hr⟩:∃r,r=pw (prs p L Z) 0%p:=⟨_,rfl⟩;have HRES:=Lib.hid hr;rw [←hr];have HC:=Lib.hid (fun w=>rpcheckV_c p q 0 w hp hq hg);have hB:=Blk.new w #[Value.string (E p),Value.string (E q)] 24;have hBW:=b1 w (.cells #[Value.string (E p),Value.string (E q)] 24);replace hL:=SsAt.after hL hBW;replace hZ:=hZ.after hBW;clear hp hq hg hx hzz hn hr hn';obtain ⟨hBc0,hBf0,hBc1,hBf1⟩:=hB.x2;go_enter Tryz.func114,Tryz.ntmps114
 go_wp2;clear hBc0 hBf0 hBc1 hBf1;generalize w.alloc (.cells #[Value.string (E p),Value.string (E q)] 24)=w1 at hB hBW hL hZ;replace hB:Blk w1 w.heap.size 24 [.string (E p),.string (E q)]:=hB;go_loopw [8] (fun i wr=>∃k:Nat,k≤n∧i=.int .i64 k∧Below w1.heap.size w1 wr) (fun i _=>n-(intOf i).toNat)
 case atStart=>exact ⟨0,by omega,rfl,Below.refl _ _⟩
 case round =>
  obtain ⟨k,hk,rfl,hbr⟩:=hrel;obtain ⟨wp,hwp⟩:∃wp,wp=wr:=⟨_,rfl⟩;subst hwp;replace hB:=hB.after hbr;replace hL:=SsAt.after hL hbr;replace hZ:=hZ.after hbr;replace hBW:=bt hBW hbr;by_cases hlt:k<n
  ·have hkl:k<L.length:=by rw [←HNL.out];exact hlt
   have hkl':k<(L.map E).length:=by simpa using hkl
   obtain ⟨b,o,rfl,hbl,x1⟩:=SsAt.at_ hL hkl';have HHX:=Lib.hid (HX.out _ (List.getElem_mem hkl));simp only [List.getElem_map] at x1;generalize (L[k]'hkl)=x at x1 HHX;have HN:=Lib.hid (lt128 (Nat.lt_trans (has_lt HHX.out) HP.out));have h0k:(0:Int)≤(k:Int):=by omega
   have h1k:(k:Int)<(n:Int):=by omega
   go_wp2_with fail
   refine (rvalidV_c (E x) true _ (by have:=szM HN.out;omega) (vldB_E x HN.out)).mono ?_;rintro e w' ⟨rfl,rfl⟩;go_wp2;go_roundw
   case rel=>exact ⟨k+1,by omega,by go_num,hbr⟩
   case measure=>simp [intOf];omega
  ·clear hbr;go_wp2;go_loopw [9] (fun i wr=>∃k:Nat,k≤n∧i=.int .i64 k∧Below wp.heap.size wp wr) (fun i _=>n-(intOf i).toNat)
   case atStart=>exact ⟨0,by omega,rfl,Below.refl _ _⟩
   case round =>
    obtain ⟨k,hk,rfl,hbr⟩:=hrel;obtain ⟨wq,hwq⟩:∃wq,wq=wr:=⟨_,rfl⟩;subst hwq;replace hB:=hB.after hbr;replace hL:=SsAt.after hL hbr;replace hZ:=hZ.after hbr;replace hBW:=bt hBW hbr;by_cases hlt:k<n
    ·have hkl:k<Z.length:=by rw [←HNZ.out];exact hlt
     obtain ⟨b,o,rfl,hbl,x1,x2⟩:=hZ.at_ hkl;have HZB:=Lib.hid (HZZ.out _ (List.getElem_mem hkl));generalize (Z[k]'hkl)=z at x1 x2 HZB;have h0k:(0:Int)≤(k:Int):=by omega
     have h1k:(k:Int)<(n:Int):=by omega
     go_wp2_with fail
     refine (rivalidI_c z _ HZB.out).mono ?_;rintro e w3 ⟨rfl,hb3⟩;go_wp2;go_roundw
     case rel=>exact ⟨k+1,by omega,by go_num,bt hbr hb3⟩
     case measure=>simp [intOf];omega
    ·clear hbr;have hBl:=hB.lt;obtain ⟨hBc0,hBf0,hBc1,hBf1⟩:=hB.x2;go_wp2_with fail
     refine (HC.out _).mono ?_;rintro e w3 ⟨rfl,hb3⟩;clear hBc0 hBf0 hBc1 hBf1;replace hB:=hB.after hb3;replace hL:=SsAt.after hL hb3;replace hZ:=hZ.after hb3;replace hBW:=bt hBW hb3;clear hb3 hBl;go_wp2;go_loopw [11] (fun i wr=>∃k:Nat,k≤n∧i=.int .i64 k∧Below w3.heap.size w3 wr) (fun i _=>n-(intOf i).toNat)
     case atStart=>exact ⟨0,by omega,rfl,Below.refl _ _⟩
     case round =>
      obtain ⟨k,hk,rfl,hbr⟩:=hrel;obtain ⟨wt,hwt⟩:∃wt,wt=wr:=⟨_,rfl⟩;subst hwt;replace hB:=hB.after hbr;replace hL:=SsAt.after hL hbr;replace hZ:=hZ.after hbr;replace hBW:=bt hBW hbr;have hBl:=hB.lt;by_cases hlt:k<n
      ·have hkl:k<L.length:=by rw [←HNL.out];exact hlt
       have hkl':k<(L.map E).length:=by simpa using hkl
       obtain ⟨b,o,rfl,hbl,x1⟩:=SsAt.at_ hL hkl';have HHX:=Lib.hid (HX.out _ (List.getElem_mem hkl));simp only [List.getElem_map] at x1;generalize (L[k]'hkl)=x at x1 HHX;have HN:=Lib.hid (lt128 (Nat.lt_trans (has_lt HHX.out) HP.out));have h0k:(0:Int)≤(k:Int):=by omega
       have h1k:(k:Int)<(n:Int):=by omega
       have g1:=gcl (a:=⟨b,o+k,none⟩) hbl x1;obtain ⟨hBc0,hBf0,hBc1,hBf1⟩:=hB.x2;have hBg0:=hB.gcell 0;have hBg1:=hB.gcell 1;go_wp2_with fail
       refine wp_region_gw (by kernel_rfl) (by kernel_rfl) ?_;repeat (go_big_quiet_step (first | (go_at_call 60;exact gw_of (rhasV_c p q x true _ HP.out HQ.out HG.out HN.out HHX.out))))
       refine wpQuiet_nil ?_;rintro w5 ⟨xw5,rfl⟩;have hb5:=gw_below xw5;generalize gw xw5=w5 at hb5;go_wp2;go_roundw
       case rel=>exact ⟨k+1,by omega,by go_num,bt hbr hb5⟩
       case measure=>simp [intOf];omega
      ·clear hbr;go_wp2;go_loopw [12,13] (fun v i wr=>∃k:Nat,∃y:Nat,k≤n∧i=.int .i64 k∧v=.string (E y)∧Hid (y=pw (prs p (L.take k) (Z.take k)) 0%p)∧Below wt.heap.size wt wr) (fun _ i _=>n-(intOf i).toNat)
       case atStart=>exact ⟨0,1,by omega,rfl,rfl,(Nat.mod_eq_of_lt (by have:=HP2.out;omega)).symm,Below.refl _ _⟩
       case round =>
        obtain ⟨k,y,hk,rfl,rfl,HY,hbr⟩:=hrel;obtain ⟨wu,hwu⟩:∃wu,wu=wr:=⟨_,rfl⟩;subst hwu;replace hB:=hB.after hbr;replace hL:=SsAt.after hL hbr;replace hZ:=hZ.after hbr;replace hBW:=bt hBW hbr;clear hBl;have hBl:=hB.lt;by_cases hlt:k<n
        ·have hkl:k<L.length:=by rw [←HNL.out];exact hlt
         have hkl':k<(L.map E).length:=by simpa using hkl
         have hkz:k<Z.length:=by rw [←HNZ.out];exact hlt
         obtain ⟨b,o,rfl,hbl,x1⟩:=SsAt.at_ hL hkl';obtain ⟨b',o',rfl,hbl',y1,y2⟩:=hZ.at_ hkz;have HHX:=Lib.hid (HX.out _ (List.getElem_mem hkl));have HZB:=Lib.hid (HZZ.out _ (List.getElem_mem hkz));have HST:=Lib.hid (prodI_step p L Z k hkl hkz (has_lt HHX.out));simp only [List.getElem_map] at x1;generalize (L[k]'hkl)=x at x1 HHX HST;generalize (Z[k]'hkz)=z at y1 y2 HZB HST;have HPW:=Lib.hid (fun w=>rraw_c p q x z w HP.out HG.out HHX.out HZB.out);have HY8:Hid (y<256^8):=by rw [Hid,HY.out];exact Nat.lt_trans (Nat.mod_lt _ (by have:=HP2.out;omega)) HP.out
         have HV8:Hid (powI x z p<256^8):=by rw [Hid,powI_bse z (has_lt HHX.out)];exact Nat.lt_trans (Nat.mod_lt _ (by have:=HP2.out;omega)) HP.out
         have HX2:Hid (y*powI x z p%p=pw (prs p (L.take (k+1)) (Z.take (k+1))) 0%p):=by rw [Hid,HY.out];exact HST.out
         generalize powI x z p=v at HPW HV8 HX2;have HMM:=Lib.hid (fun w=>rmul3_c y v p w (lt128 HY8.out) (lt128 HV8.out) (Nat.lt_of_lt_of_le HP.out (Nat.pow_le_pow_right (show 0<256 by decide) (show 8≤64 by decide))) (by have:=HP2.out;omega));have h0k:(0:Int)≤(k:Int):=by omega
         have h1k:(k:Int)<(n:Int):=by omega
         have g1:=gcl (a:=⟨b,o+k,none⟩) hbl x1;have g2:=gcl (a:=⟨b',o'+k*2,none⟩) hbl' y1;have g3:=gcl (a:=⟨b',o'+k*2+1,none⟩) hbl' y2;clear HST;obtain ⟨hBc0,hBf0,hBc1,hBf1⟩:=hB.x2;have hBg0:=hB.gcell 0;have hBg1:=hB.gcell 1;go_wp2_with fail
         refine wp_region_gw (by kernel_rfl) (by kernel_rfl) ?_;repeat (go_big_quiet_step (first | (go_at_call 61;exact gw_of (HPW.out _)) | (go_at_call 178;exact gw_of (HMM.out _))))
         refine wpQuiet_nil ?_;rintro w5 ⟨xw5,rfl⟩;have hb5:=gw_below xw5;generalize gw xw5=w5 at hb5;go_wp2;go_roundw
         case rel=>exact ⟨k+1,y*v%p,by omega,by go_num,rfl,HX2,bt hbr hb5⟩
         case measure=>simp [intOf];omega
        ·have HF:Hid (y=r):=by rw [Hid,HY.out,HRES.out,List.take_of_length_le (by rw [←HNL.out];omega),List.take_of_length_le (by rw [←HNZ.out];omega)]
         go_wp2;go_ret2
         exact ⟨by rw [HF.out];rfl,bt hBW (Below.refl _ _)⟩
end
section
open Go.RowKit Go.Shelf
def CA (w:World) (l:List (Addr × Value)):Prop:=∀x∈l,x.1.block<w.heap.size∧w.cell? x.1=some x.2
theorem CA.nil (w:World):CA w []:=fun x h=>by cases h
theorem CA.cons {w:World} {a:Addr} {v:Value} {l:List (Addr × Value)} (h1:a.block<w.heap.size) (h2:w.cell? a=some v) (h:CA w l):CA w ((a,v) :: l):=by
 intro x hx;rcases List.mem_cons.1 hx with rfl | hx
 ·exact ⟨h1,h2⟩
 ·exact h x hx
theorem CA.drew {w:World} {l:List (Addr × Value)} (h:CA w l):CA w.drew l:=h
theorem CA.after {w w':World} {l:List (Addr × Value)} (h:CA w l) (hb:Below w.heap.size w w'):CA w' l:=fun x hx=>⟨Nat.lt_of_lt_of_le (h x hx).1 hb.size,(hb.cell (h x hx).1).trans (h x hx).2⟩
theorem CA.alloc {w:World} {l:List (Addr × Value)} (h:CA w l) (o:Obj):CA (w.alloc o) l:=h.after (b1 _ _)
theorem CA.grown {w w':World} {row:Option Nat} {l:List (Addr × Value)} (h:CA w l) (hg:w.grownBy w' row) (hr:∀x∈l,row≠some x.1.block):CA w' l:=
 fun x hx=>⟨Nat.lt_of_lt_of_le (h x hx).1 hg.size,hg.cell (h x hx).2 (fun e=>hr x hx e.symm)⟩
theorem CA.set {w:World} {l:List (Addr × Value)} (h:CA w l) (g i:Nat) (v:Value) (hne:∀x∈l,x.1.block≠g):CA (w.setCell ⟨g,i,none⟩ v) l:=
 fun x hx=>⟨by rw [World.size_setCell];exact (h x hx).1,by rw [World.cell?_setCell_other _ _ _ _ (fun e=>hne x hx (congrArg Addr.block e).symm)];exact (h x hx).2⟩
theorem CA.k1 {w:World} {a0:Addr} {v0:Value} (h:CA w [(a0,v0)]):w.cell? a0=some v0:=(h (a0,v0) (by simp)).2
theorem CA.k2 {w:World} {a0 a1:Addr} {v0 v1:Value} (h:CA w [(a0,v0),(a1,v1)]):w.cell? a0=some v0∧w.cell? a1=some v1:=⟨(h (a0,v0) (by simp)).2,(h (a1,v1) (by simp)).2⟩
theorem CA.k3 {w:World} {a0 a1 a2:Addr} {v0 v1 v2:Value} (h:CA w [(a0,v0),(a1,v1),(a2,v2)]):w.cell? a0=some v0∧w.cell? a1=some v1∧w.cell? a2=some v2:=⟨(h (a0,v0) (by simp)).2,(h (a1,v1) (by simp)).2,(h (a2,v2) (by simp)).2⟩
theorem CA.k4 {w:World} {a0 a1 a2 a3:Addr} {v0 v1 v2 v3:Value} (h:CA w [(a0,v0),(a1,v1),(a2,v2),(a3,v3)]):w.cell? a0=some v0∧w.cell? a1=some v1∧w.cell? a2=some v2∧w.cell? a3=some v3:=⟨(h (a0,v0) (by simp)).2,(h (a1,v1) (by simp)).2,(h (a2,v2) (by simp)).2,(h (a3,v3) (by simp)).2⟩
theorem CA.k5 {w:World} {a0 a1 a2 a3 a4:Addr} {v0 v1 v2 v3 v4:Value} (h:CA w [(a0,v0),(a1,v1),(a2,v2),(a3,v3),(a4,v4)]):w.cell? a0=some v0∧w.cell? a1=some v1∧w.cell? a2=some v2∧w.cell? a3=some v3∧w.cell? a4=some v4:=⟨(h (a0,v0) (by simp)).2,(h (a1,v1) (by simp)).2,(h (a2,v2) (by simp)).2,(h (a3,v3) (by simp)).2,(h (a4,v4) (by simp)).2⟩
theorem CA.k6 {w:World} {a0 a1 a2 a3 a4 a5:Addr} {v0 v1 v2 v3 v4 v5:Value} (h:CA w [(a0,v0),(a1,v1),(a2,v2),(a3,v3),(a4,v4),(a5,v5)]):w.cell? a0=some v0∧w.cell? a1=some v1∧w.cell? a2=some v2∧w.cell? a3=some v3∧w.cell? a4=some v4∧w.cell? a5=some v5:=⟨(h (a0,v0) (by simp)).2,(h (a1,v1) (by simp)).2,(h (a2,v2) (by simp)).2,(h (a3,v3) (by simp)).2,(h (a4,v4) (by simp)).2,(h (a5,v5) (by simp)).2⟩
theorem CA.k8 {w:World} {a0 a1 a2 a3 a4 a5 a6 a7:Addr} {v0 v1 v2 v3 v4 v5 v6 v7:Value} (h:CA w [(a0,v0),(a1,v1),(a2,v2),(a3,v3),(a4,v4),(a5,v5),(a6,v6),(a7,v7)]):w.cell? a0=some v0∧w.cell? a1=some v1∧w.cell? a2=some v2∧w.cell? a3=some v3∧w.cell? a4=some v4∧w.cell? a5=some v5∧w.cell? a6=some v6∧w.cell? a7=some v7:=⟨(h (a0,v0) (by simp)).2,(h (a1,v1) (by simp)).2,(h (a2,v2) (by simp)).2,(h (a3,v3) (by simp)).2,(h (a4,v4) (by simp)).2,(h (a5,v5) (by simp)).2,(h (a6,v6) (by simp)).2,(h (a7,v7) (by simp)).2⟩
theorem CA.k9 {w:World} {a0 a1 a2 a3 a4 a5 a6 a7 a8:Addr} {v0 v1 v2 v3 v4 v5 v6 v7 v8:Value} (h:CA w [(a0,v0),(a1,v1),(a2,v2),(a3,v3),(a4,v4),(a5,v5),(a6,v6),(a7,v7),(a8,v8)]):w.cell? a0=some v0∧w.cell? a1=some v1∧w.cell? a2=some v2∧w.cell? a3=some v3∧w.cell? a4=some v4∧w.cell? a5=some v5∧w.cell? a6=some v6∧w.cell? a7=some v7∧w.cell? a8=some v8:=⟨(h (a0,v0) (by simp)).2,(h (a1,v1) (by simp)).2,(h (a2,v2) (by simp)).2,(h (a3,v3) (by simp)).2,(h (a4,v4) (by simp)).2,(h (a5,v5) (by simp)).2,(h (a6,v6) (by simp)).2,(h (a7,v7) (by simp)).2,(h (a8,v8) (by simp)).2⟩
theorem blkN {w:World} {cs:Array Value} {T:TypeId} {g:Nat} (h:g=w.heap.size):Blk (w.alloc (.cells cs T)) g T cs.toList:=by subst h;exact Blk.new _ _ _
def ZBox (w:World) (z:Int) (s10 s11:Value) (wx:World):Prop:=∃g,s10=.pointer (some ⟨g,0,none⟩)∧s11=.int .i64 0∧Blk wx g 28 [.bool (sg z),.string (E z.natAbs)]∧w.heap.size≤g∧Below w.heap.size w wx
def imgB (q:NEqn):List Nat:=q.trms.map (·.base)
def imgX (Z:List Int) (q:NEqn):List Int:=q.trms.map fun t=>t.coef*Z.getD t.var 0
def imgV (N:NSta) (Z:List Int) (q:NEqn):Nat:=pw (prs (N.gp q).1 (imgB q) (imgX Z q)) 0%(N.gp q).1
def NSta.imgs (N:NSta) (Z:List Int):List Nat:=N.eqs.map (imgV N Z)
theorem info_Int:(Tryz.prog.info? 28).map (fun i=>(i.zero,i.size,i.bytes))=some (some (.agg #[.bool false,.string { data:=#[] }]),2,24):=by kernel_rfl
theorem imgB_step (q:NEqn) (k:Nat) (h:k<q.trms.length):(imgB q).take (k+1)=(imgB q).take k++[(q.trms[k]).base]:=by
 unfold imgB;rw [←List.map_take,List.take_succ_eq_append_getElem h,List.map_append,List.map_take];rfl
theorem imgX_step (Z:List Int) (q:NEqn) (k:Nat) (h:k<q.trms.length):(imgX Z q).take (k+1)=(imgX Z q).take k++[(q.trms[k]).coef*Z.getD (q.trms[k]).var 0]:=by
 unfold imgX;rw [←List.map_take,List.take_succ_eq_append_getElem h,List.map_append,List.map_take];rfl
theorem ics_app (a b:List Int):ics (a.map zI)++ics (b.map zI)=ics ((a++b).map zI):=by simp [ics]
structure IRel (w1:World) (k:Nat) (L:List Nat) (Z:List Int) (v6 v7:Value) (wr:World):Prop where
 a:NOwn wr w1.heap.size v6 L
 z:ZOwn wr w1.heap.size v7 Z
 la:L.length=k
 lz:Z.length=k
 na:k=0→v6=.slice none 0 0
 nz:k=0→v7=.slice none 0 0
 b:Below w1.heap.size w1 wr
theorem IRel.after {w1:World} {k:Nat} {L:List Nat} {Z:List Int} {v6 v7:Value} {wr wx:World} (h:IRel w1 k L Z v6 v7 wr) (hb:Below wr.heap.size wr wx):IRel w1 k L Z v6 v7 wx:=
 ⟨own_after h.a hb,own_after h.z hb,h.la,h.lz,h.na,h.nz,bt h.b hb⟩
end
end Go.Proofs.YteahlbhjhjhljaaGreatDoor
