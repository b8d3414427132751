import Derived.Test.YtdoacbdkbbpamaaGreatDoorFwx24
import Derived.Test.YtdoacbdkbbpamaaGreatDoorPpU24K
import Derived.Test.YtdoacbdkbbpamaaGreatDoorLck6
set_option linter.unusedVariables false
set_option linter.unusedSimpArgs false
set_option maxRecDepth 100000
set_option maxHeartbeats 16000000
namespace Go.Proofs.YtdoacbdkbbpamaaGreatDoor
open Go.RowKit
def NOwn (w:World) (base:Nat) (v:Value) (L:List Nat):Prop:=w.ownsRow base 31 1 v L.length (strs L)
def ZOwn (w:World) (base:Nat) (v:Value) (Z:List Int):Prop:=w.ownsRow base 37 2 v Z.length (ics (Z.map zI))
theorem NOwn.ss {w:World} {base:Nat} {v:Value} {L:List Nat} (h:NOwn w base v L):SsAt w v (L.map E):=by
 have h0:w.ownsRow base 31 1 v L.length (strs L):=h;rcases h0.2 with ⟨rfl,h2⟩ | ⟨g,cap,cur,rfl,h3,h4,_⟩
 ·exact ⟨none,0,by simp [h2],.inl (by simp [h2])⟩
 ·refine ⟨_,_,by simp;rfl,.inr ⟨g,0,rfl,(Array.getElem?_eq_some_iff.1 h4).1,fun j hj=>⟨_,rfl,fun i hi=>?_⟩⟩⟩;obtain rfl:i=0:=by omega
  have hj':j<L.length:=by simpa using hj
  rw [show (0+j*1+0:Nat)=j by omega];rw [own_cellS h0 j _ (by rw [strs,List.getElem?_map,List.getElem?_eq_getElem hj'];rfl)];simp
theorem ZOwn.zs {w:World} {base:Nat} {v:Value} {Z:List Int} (h:ZOwn w base v Z):ZsAt w v Z:=by
 have h0:w.ownsRow base 37 2 v Z.length (ics (Z.map zI)):=h;rcases h0.2 with ⟨rfl,h2⟩ | ⟨g,cap,cur,rfl,h3,h4,_⟩
 ·exact ⟨none,0,by simp [h2],.inl (by simp [h2])⟩
 ·refine ⟨_,_,by simp;rfl,.inr ⟨g,0,rfl,(Array.getElem?_eq_some_iff.1 h4).1,fun j hj=>⟨_,rfl,fun i hi=>?_⟩⟩⟩;obtain ⟨q1,q2⟩:=ics_get (Z.map zI) j hj;obtain rfl | rfl:i=0∨i=1:=by omega
  ·rw [show (0+j*2+0:Nat)=j*2 by omega,own_cellS h0 _ _ q1];rfl
  ·rw [show (0+j*2+1:Nat)=j*2+1 by omega,own_cellS h0 _ _ q2];rfl
theorem NOwn.form {w:World} {base:Nat} {v:Value} {L:List Nat} (h:NOwn w base v L) (h0:0<L.length):∃g c,v=.slice (some ⟨g,0,none⟩) L.length c∧base≤g∧L.length≤c∧NatsAt w g L:=by
 have k:w.ownsRow base 31 1 v L.length (strs L):=h;rcases k.2 with ⟨rfl,h2⟩ | ⟨g,cap,cur,rfl,h3,h4,h5,_⟩
 ·omega
 ·exact ⟨g,cap,rfl,h3,h5,(Array.getElem?_eq_some_iff.1 h4).1,fun j hj=>own_cellS k j _ (by rw [strs,List.getElem?_map,List.getElem?_eq_getElem hj];rfl)⟩
theorem ZOwn.form {w:World} {base:Nat} {v:Value} {Z:List Int} (h:ZOwn w base v Z) (h0:0<Z.length):∃g c,v=.slice (some ⟨g,0,none⟩) Z.length c∧base≤g∧Z.length≤c∧IntsAt w g Z:=by
 have k:w.ownsRow base 37 2 v Z.length (ics (Z.map zI)):=h;rcases k.2 with ⟨rfl,h2⟩ | ⟨g,cap,cur,rfl,h3,h4,h5,_⟩
 ·omega
 ·refine ⟨g,cap,rfl,h3,h5,(Array.getElem?_eq_some_iff.1 h4).1,fun j hj=>?_⟩;obtain ⟨q1,q2⟩:=ics_get (Z.map zI) j (by simpa using hj);refine ⟨?_,?_⟩
  ·rw [own_cellS k _ _ q1];simp [zI]
  ·rw [own_cellS k _ _ q2];simp [zI]
theorem prs_snoc (p:Nat) (L:List Nat) (Z:List Int) (k:Nat) (h1:k<L.length) (h2:k<Z.length):prs p (L.take (k+1)) (Z.take (k+1))=prs p (L.take k) (Z.take k)++[(bse p L[k] Z[k],Z[k].natAbs)]:=by
 rw [List.take_succ_eq_append_getElem h1,List.take_succ_eq_append_getElem h2];unfold prs;rw [List.zipWith_append (by simp;omega)];rfl
theorem pw_snoc (l:List (Nat × Nat)) (x e:Nat):pw (l++[(x,e)]) 0=pw l 0*x^e:=by
 induction l with
 | nil=>simp [pw]
 | cons y t ih=>simp only [List.cons_append,pw,ih,Nat.mul_assoc]
theorem powI_bse {p x:Nat} (z:Int) (hx:x<p):powI x z p=bse p x z^z.natAbs%p:=by
 unfold powI bse;rw [Nat.mod_eq_of_lt hx];split <;> rfl
theorem prodI_step (p:Nat) (L:List Nat) (Z:List Int) (k:Nat) (h1:k<L.length) (h2:k<Z.length) (hx:L[k]<p):pw (prs p (L.take k) (Z.take k)) 0%p*powI L[k] Z[k] p%p=pw (prs p (L.take (k+1)) (Z.take (k+1))) 0%p:=by
 rw [prs_snoc p L Z k h1 h2,pw_snoc,powI_bse _ hx,←Nat.mul_mod]
theorem rproduct_c (p q:Nat) (L:List Nat) (Z:List Int) (v1 v2:Value) (w:World) (hp:p<256^8) (hq:q<256^128) (hg:grpE p q=0)
  (hn:L.length=Z.length) (hn1:L.length≤1000) (hx:∀x∈L,hasB p q x=true) (hzz:∀z∈Z,z.natAbs<256^128) (hL:SsAt w v1 (L.map E)) (hZ:ZsAt w v2 Z) :
  Calls Tryz.prog 144 #[.agg #[.string (E p),.string (E q)],v1,v2] w fun e w'=>e=.returned (.tuple #[.string (E (pw (prs p L Z) 0%p)),.int .i64 0])∧Below w.heap.size w w':=by
 obtain ⟨a1,c1,e1⟩:=RAt.form hL;obtain ⟨a2,c2,e2⟩:=hZ.form;rw [List.length_map] at e1;rw [←hn] at e2;obtain ⟨n,hn'⟩:∃n,n=L.length:=⟨_,rfl⟩;have HNL:=Lib.hid hn';have HNZ:Hid (n=Z.length):=by rw [Hid,hn',hn]
 rw [←hn'] at e1 e2 hn1;subst e1 e2;have HP2:=Lib.hid (grp_gt hg);have HP:=Lib.hid hp;have HX:=Lib.hid hx;have HZZ:=Lib.hid hzz;have HG:=Lib.hid hg;have HQ:=Lib.hid hq;obtain ⟨r,hr⟩:∃r,r=pw (prs p L Z) 0%p:=⟨_,rfl⟩;have HRES:=Lib.hid hr;rw [←hr];have HC:=Lib.hid (fun w=>rpcheckV_c p q 0 w hp hq hg);have hB:=Blk.new w #[Value.string (E p),Value.string (E q)] 33;have hBW:=b1 w (.cells #[Value.string (E p),Value.string (E q)] 33);replace hL:=SsAt.after hL hBW;replace hZ:=hZ.after hBW;clear hp hq hg hx hzz hn hr hn';obtain ⟨hBc0,hBf0,hBc1,hBf1⟩:=hB.x2;go_enter Tryz.func144,Tryz.ntmps144
 go_wp2;clear hBc0 hBf0 hBc1 hBf1;generalize w.alloc (.cells #[Value.string (E p),Value.string (E q)] 33)=w1 at hB hBW hL hZ;replace hB:Blk w1 w.heap.size 33 [.string (E p),.string (E q)]:=hB;go_loopw [8] (fun i wr=>∃k:Nat,k≤n∧i=.int .i64 k∧Below w1.heap.size w1 wr) (fun i _=>n-(intOf i).toNat)
 case atStart=>exact ⟨0,by omega,rfl,Below.refl _ _⟩
 case round =>
  obtain ⟨k,hk,rfl,hbr⟩:=hrel;obtain ⟨wp,hwp⟩:∃wp,wp=wr:=⟨_,rfl⟩;subst hwp;replace hB:=hB.after hbr;replace hL:=SsAt.after hL hbr;replace hZ:=hZ.after hbr;replace hBW:=bt hBW hbr;by_cases hlt:k<n
  ·have hkl:k<L.length:=by rw [←HNL.out];exact hlt
   have hkl':k<(L.map E).length:=by simpa using hkl
   obtain ⟨b,o,rfl,hbl,x1⟩:=SsAt.at_ hL hkl';have HHX:=Lib.hid (HX.out _ (List.getElem_mem hkl));simp only [List.getElem_map] at x1;generalize (L[k]'hkl)=x at x1 HHX;have HN:=Lib.hid (lt128 (Nat.lt_trans (has_lt HHX.out) HP.out));have h0k:(0:Int)≤(k:Int):=by omega
   have h1k:(k:Int)<(n:Int):=by omega
   go_wp2_with fail
   refine (rvalidV_c (E x) true _ (by have:=szM HN.out;omega) (vldB_E x HN.out)).mono ?_;rintro e w' ⟨rfl,rfl⟩;go_wp2;go_roundw
   case rel=>exact ⟨k+1,by omega,by go_num,hbr⟩
   case measure=>simp [intOf];omega
  ·clear hbr;go_wp2;go_loopw [9] (fun i wr=>∃k:Nat,k≤n∧i=.int .i64 k∧Below wp.heap.size wp wr) (fun i _=>n-(intOf i).toNat)
   case atStart=>exact ⟨0,by omega,rfl,Below.refl _ _⟩
   case round =>
    obtain ⟨k,hk,rfl,hbr⟩:=hrel;obtain ⟨wq,hwq⟩:∃wq,wq=wr:=⟨_,rfl⟩;subst hwq;replace hB:=hB.after hbr;replace hL:=SsAt.after hL hbr;replace hZ:=hZ.after hbr;replace hBW:=bt hBW hbr;by_cases hlt:k<n
    ·have hkl:k<Z.length:=by rw [←HNZ.out];exact hlt
     obtain ⟨b,o,rfl,hbl,x1,x2⟩:=hZ.at_ hkl;have HZB:=Lib.hid (HZZ.out _ (List.getElem_mem hkl));generalize (Z[k]'hkl)=z at x1 x2 HZB;have h0k:(0:Int)≤(k:Int):=by omega
     have h1k:(k:Int)<(n:Int):=by omega
     go_wp2_with fail
     refine (rivalidI_c z _ HZB.out).mono ?_;rintro e w3 ⟨rfl,hb3⟩;go_wp2;go_roundw
     case rel=>exact ⟨k+1,by omega,by go_num,bt hbr hb3⟩
     case measure=>simp [intOf];omega
    ·clear hbr;have hBl:=hB.lt;obtain ⟨hBc0,hBf0,hBc1,hBf1⟩:=hB.x2;go_wp2_with fail
     refine (HC.out _).mono ?_;rintro e w3 ⟨rfl,hb3⟩;clear hBc0 hBf0 hBc1 hBf1;replace hB:=hB.after hb3;replace hL:=SsAt.after hL hb3;replace hZ:=hZ.after hb3;replace hBW:=bt hBW hb3;clear hb3 hBl;go_wp2;go_loopw [11] (fun i wr=>∃k:Nat,k≤n∧i=.int .i64 k∧Below w3.heap.size w3 wr) (fun i _=>n-(intOf i).toNat)
     case atStart=>exact ⟨0,by omega,rfl,Below.refl _ _⟩
     case round =>
      obtain ⟨k,hk,rfl,hbr⟩:=hrel;obtain ⟨wt,hwt⟩:∃wt,wt=wr:=⟨_,rfl⟩;subst hwt;replace hB:=hB.after hbr;replace hL:=SsAt.after hL hbr;replace hZ:=hZ.after hbr;replace hBW:=bt hBW hbr;have hBl:=hB.lt;by_cases hlt:k<n
      ·have hkl:k<L.length:=by rw [←HNL.out];exact hlt
       have hkl':k<(L.map E).length:=by simpa using hkl
       obtain ⟨b,o,rfl,hbl,x1⟩:=SsAt.at_ hL hkl';have HHX:=Lib.hid (HX.out _ (List.getElem_mem hkl));simp only [List.getElem_map] at x1;generalize (L[k]'hkl)=x at x1 HHX;have HN:=Lib.hid (lt128 (Nat.lt_trans (has_lt HHX.out) HP.out));have h0k:(0:Int)≤(k:Int):=by omega
       have h1k:(k:Int)<(n:Int):=by omega
       have g1:=gcl (a:=⟨b,o+k,none⟩) hbl x1;obtain ⟨hBc0,hBf0,hBc1,hBf1⟩:=hB.x2;have hBg0:=hB.gcell 0;have hBg1:=hB.gcell 1;go_wp2_with fail
       refine wp_region_gw (by kernel_rfl) (by kernel_rfl) ?_;repeat (go_big_quiet_step (first | (go_at_call 141;exact gw_of (rhasV_c p q x true _ HP.out HQ.out HG.out HN.out HHX.out))))
       refine wpQuiet_nil ?_;rintro w5 ⟨xw5,rfl⟩;have hb5:=gw_below xw5;generalize gw xw5=w5 at hb5;go_wp2;go_roundw
       case rel=>exact ⟨k+1,by omega,by go_num,bt hbr hb5⟩
       case measure=>simp [intOf];omega
      ·clear hbr;go_wp2;go_loopw [12,13] (fun v i wr=>∃k:Nat,∃y:Nat,k≤n∧i=.int .i64 k∧v=.string (E y)∧Hid (y=pw (prs p (L.take k) (Z.take k)) 0%p)∧Below wt.heap.size wt wr) (fun _ i _=>n-(intOf i).toNat)
       case atStart=>exact ⟨0,1,by omega,rfl,rfl,(Nat.mod_eq_of_lt (by have:=HP2.out;omega)).symm,Below.refl _ _⟩
       case round =>
        obtain ⟨k,y,hk,rfl,rfl,HY,hbr⟩:=hrel;obtain ⟨wu,hwu⟩:∃wu,wu=wr:=⟨_,rfl⟩;subst hwu;replace hB:=hB.after hbr;replace hL:=SsAt.after hL hbr;replace hZ:=hZ.after hbr;replace hBW:=bt hBW hbr;clear hBl;have hBl:=hB.lt;by_cases hlt:k<n
        ·have hkl:k<L.length:=by rw [←HNL.out];exact hlt
         have hkl':k<(L.map E).length:=by simpa using hkl
         have hkz:k<Z.length:=by rw [←HNZ.out];exact hlt
         obtain ⟨b,o,rfl,hbl,x1⟩:=SsAt.at_ hL hkl';obtain ⟨b',o',rfl,hbl',y1,y2⟩:=hZ.at_ hkz;have HHX:=Lib.hid (HX.out _ (List.getElem_mem hkl));have HZB:=Lib.hid (HZZ.out _ (List.getElem_mem hkz));have HST:=Lib.hid (prodI_step p L Z k hkl hkz (has_lt HHX.out));simp only [List.getElem_map] at x1;generalize (L[k]'hkl)=x at x1 HHX HST;generalize (Z[k]'hkz)=z at y1 y2 HZB HST;have HPW:=Lib.hid (fun w=>rraw_c p q x z w HP.out HG.out HHX.out HZB.out);have HY8:Hid (y<256^8):=by rw [Hid,HY.out];exact Nat.lt_trans (Nat.mod_lt _ (by have:=HP2.out;omega)) HP.out
         have HV8:Hid (powI x z p<256^8):=by rw [Hid,powI_bse z (has_lt HHX.out)];exact Nat.lt_trans (Nat.mod_lt _ (by have:=HP2.out;omega)) HP.out
         have HX2:Hid (y*powI x z p%p=pw (prs p (L.take (k+1)) (Z.take (k+1))) 0%p):=by rw [Hid,HY.out];exact HST.out
         generalize powI x z p=v at HPW HV8 HX2;have HMM:=Lib.hid (fun w=>rmul3_c y v p w (lt128 HY8.out) (lt128 HV8.out) (Nat.lt_of_lt_of_le HP.out (Nat.pow_le_pow_right (show 0<256 by decide) (show 8≤64 by decide))) (by have:=HP2.out;omega));have h0k:(0:Int)≤(k:Int):=by omega
         have h1k:(k:Int)<(n:Int):=by omega
         have g1:=gcl (a:=⟨b,o+k,none⟩) hbl x1;have g2:=gcl (a:=⟨b',o'+k*2,none⟩) hbl' y1;have g3:=gcl (a:=⟨b',o'+k*2+1,none⟩) hbl' y2;clear HST;obtain ⟨hBc0,hBf0,hBc1,hBf1⟩:=hB.x2;have hBg0:=hB.gcell 0;have hBg1:=hB.gcell 1;go_wp2_with fail
         refine wp_region_gw (by kernel_rfl) (by kernel_rfl) ?_;repeat (go_big_quiet_step (first | (go_at_call 168;exact gw_of (HPW.out _)) | (go_at_call 167;exact gw_of (HMM.out _))))
         refine wpQuiet_nil ?_;rintro w5 ⟨xw5,rfl⟩;have hb5:=gw_below xw5;generalize gw xw5=w5 at hb5;go_wp2;go_roundw
         case rel=>exact ⟨k+1,y*v%p,by omega,by go_num,rfl,HX2,bt hbr hb5⟩
         case measure=>simp [intOf];omega
        ·have HF:Hid (y=r):=by rw [Hid,HY.out,HRES.out,List.take_of_length_le (by rw [←HNL.out];omega),List.take_of_length_le (by rw [←HNZ.out];omega)]
         go_wp2;go_ret2
         exact ⟨by rw [HF.out];rfl,bt hBW (Below.refl _ _)⟩
end Go.Proofs.YtdoacbdkbbpamaaGreatDoor
