import Derived.Test.YtihjpddbjhcbmaaGreatDoorOwn
import Derived.Test.YtihjpddbjhcbmaaGreatDoorPwr
import Derived.Test.YtihjpddbjhcbmaaGreatDoorLck6
import Derived.Deep.RegionHeld3
set_option linter.unusedVariables false
set_option linter.unusedSimpArgs false
set_option maxRecDepth 100000
set_option maxHeartbeats 16000000
namespace Go.Proofs.YtihjpddbjhcbmaaGreatDoor
section
open Go.RowKit
theorem imul_c (x y:Int) (w:World) (hx:x.natAbs<256^128) (hy:y.natAbs<256^128) (hl:x.natAbs*y.natAbs<256^128) :
  Calls Tryz.prog 114 #[.agg #[.bool (sg (x)),.string (E (x).natAbs)],.agg #[.bool (sg (y)),.string (E (y).natAbs)]] w fun e w'=>e=.returned (.tuple #[.agg #[.bool (sg (x*y)),.string (E (x*y).natAbs)],.int .i64 0])∧Bw w w':=by
 have HX:=Kh hx;have HY:=Kh hy;have hp:=Kh hl;have hs:=(E_size_le _ 128).2 hl;clear hx hy hl;have HM:=Kh (mul_made x y);have hA:=blk3a w #[Value.bool (sg x),Value.string (E x.natAbs)] #[Value.bool (sg y),Value.string (E y.natAbs)] #[Value.bool false,Value.string { data:=#[] }] 74 74 74;have hB:=blk3b w #[Value.bool (sg x),Value.string (E x.natAbs)] #[Value.bool (sg y),Value.string (E y.natAbs)] #[Value.bool false,Value.string { data:=#[] }] 74 74 74;have hC:=blk3c w #[Value.bool (sg x),Value.string (E x.natAbs)] #[Value.bool (sg y),Value.string (E y.natAbs)] #[Value.bool false,Value.string { data:=#[] }] 74 74 74;go_enter Tryz.func114,Tryz.ntmps114
 go_wp2_with fail
 refine (iboth_c x y _ HX.out HY.out).mono ?_;rintro e w1 ⟨rfl,hj⟩;replace hA:=hA.after hj;replace hB:=hB.after hj;replace hC:=hC.after hj;obtain⟨hb,hc,hd,he⟩:=hA.x2;obtain⟨hf,hg,hh,hi⟩:=hB.x2;go_wp2_with fail
 refine (mul_c x.natAbs y.natAbs _ HX.out HY.out hp.out).mono ?_;rintro e w2 ⟨rfl,hk⟩;clear hb hc hd he;clear hf hg hh hi;replace hA:=hA.after hk;replace hB:=hB.after hk;replace hC:=hC.after hk;obtain⟨hb,hc,hd,he⟩:=hA.x2;obtain⟨hf,hg,hh,hi⟩:=hB.x2;go_wp2_with fail
 refine (made_c (sg x != sg y) (x.natAbs*y.natAbs) (x*y) _ (by omega) HM.out).mono ?_;rintro e w3 ⟨rfl,ho⟩;clear hb hc hd he;clear hf hg hh hi;replace hC:=hC.after ho;obtain⟨hm,hq,hn,hr⟩:=hC.x2;go_wp2;refine bodyPost_ret (v:=.tuple #[.agg #[.bool (sg (x*y)),.string (E (x*y).natAbs)],.int .i64 0]) ?_ rfl ⟨rfl,?_⟩
 ·simp[results,Tryz.results114,go_sem,hm,hn]
 ·exact ((bt (bt (bt (b3 _ _ _ _) hj) hk) ho).setCell (by simp;omega) _).setCell (by simp;omega) _
theorem checked_nil (p q:Nat) (w:World) (hp:p<256^8) (hq:q<256^128) (hg:grpE p q=0) :
  Calls Tryz.prog 204 #[.agg #[.string (E p),.string (E q)],.slice none 0 0,.slice none 0 0,.bool true] w fun e w'=>e=.returned (.int .i64 0)∧Bw w w':=by
 have HC:=Kh (fun w=>pcheckV_c p q 0 w hp hq hg);obtain⟨hB,hb⟩:=blk1 w #[Value.string (E p),Value.string (E q)] 86;clear hp hq hg;go_enter Tryz.func204,Tryz.ntmps204
 go_wp2;go_loop [18] (fun i=>i=.int .i64 0) (fun i=>0)
 case atStart=>rfl
 case round =>
  subst hrel;go_wp2;go_loop [28] (fun i=>i=.int .i64 0) (fun i=>0)
  case atStart=>rfl
  case round =>
   subst hrel;obtain⟨hc,hd,he,hf⟩:=hB.x2;go_wp2_with fail
   refine (HC.out _).mono ?_;rintro e w3 ⟨rfl,hh⟩;go_wp2;go_loop [45] (fun i=>i=.int .i64 0) (fun i=>0)
   case atStart=>rfl
   case round =>
    subst hrel;go_wp2;go_ret
    exact⟨rfl,bt hb hh⟩
theorem product_nil (p q:Nat) (w:World) (hp:p<256^8) (hq:q<256^128) (hg:grpE p q=0) :
  Calls Tryz.prog 203 #[.agg #[.string (E p),.string (E q)],.slice none 0 0,.slice none 0 0] w fun e w'=>e=.returned (.tuple #[.string (E 1),.int .i64 0])∧Bw w w':=by
 have hi:=Kh (fun w=>checked_nil p q w hp hq hg)
 have hr:∀w:World,(Instr.makeSlice 31 (.int .i64 0) (.int .i64 0)).run Tryz.prog w=.ok (.slice (some ⟨w.heap.size,0,none⟩) 0 0) (w.alloc (.cells #[] 22)):=fun w=>by
  have h:=run_mks (P:=Tryz.prog) Tryz.underlying31 info_nat 0 (by omega) (by omega) w;simpa using h
 obtain⟨hG,hb⟩:=blk1 w #[Value.string (E p),Value.string (E q)] 86;have HO:=Kh (fun w=>ofK_c 1 1 w rfl (by decide));clear hp hq hg;obtain⟨hc,hd,he,hf⟩:=hG.x2;go_enter Tryz.func203,Tryz.ntmps203
 go_wp2_with fail
 refine (hi.out _).mono ?_;rintro e w1 ⟨rfl,hj⟩;clear hc hd he hf;replace hb:=bt hb hj;go_wp2;go_loopw [10,37] (fun v i wr=>v=.int .i64 0∧i=.int .i64 0∧Bw w1 wr) (fun _ _ _=>0)
 case atStart=>exact⟨rfl,rfl,b1 _ _⟩
 case round =>
  obtain⟨rfl,rfl,hk⟩:=hrel;obtain⟨wp,hl⟩:∃wp,wp=wr:=⟨_,rfl⟩;subst hl;replace hb:=bt hb hk;go_wp2_with fail
  refine (HO.out _).mono ?_;rintro e w3 ⟨rfl,hm⟩;replace hb:=ba (bt hb hm) (.cells #[.string (E 1)] 22);have hO:=Blk.new w3 #[.string (E 1)] 22;go_wp2;generalize ht:w3.alloc (.cells #[.string (E 1)] 22)=w4 at hO hb;go_loopw [17] (fun i wr=>i=.int .i64 (-1)∧Bw w4 wr) (fun _ _=>0)
  case atStart=>exact⟨rfl,Br⟩
  case round =>
   obtain⟨rfl,hh⟩:=hrel;replace hO:=hO.after hh;obtain⟨hn,ho⟩:=hO.x1;go_wp2;go_ret2
   exact⟨rfl,bt hb hh⟩
def NOwn (w:World) (base:Nat) (v:Value) (L:List Nat):Prop:=w.ownsRow base 22 1 v L.length (strs L)
def ZOwn (w:World) (base:Nat) (v:Value) (Z:List Int):Prop:=w.ownsRow base 74 2 v Z.length (ics (Z.map zI))
theorem NOwn.ss {w:World} {base:Nat} {v:Value} {L:List Nat} (h:NOwn w base v L):SsAt w v (L.map E):=by
 have h0:w.ownsRow base 22 1 v L.length (strs L):=h;rcases h0.2 with⟨rfl,h2⟩ | ⟨g,cap,cur,rfl,h3,h4,_⟩
 ·exact⟨none,0,by simp[h2],.inl (by simp[h2])⟩
 ·refine⟨_,_,by simp;rfl,.inr ⟨g,0,rfl,(Array.getElem?_eq_some_iff.1 h4).1,fun j hj=>⟨_,rfl,fun i hi=>?_⟩⟩⟩;obtain rfl:i=0:=by omega
  have hb:j<L.length:=by simpa using hj
  rw[show (0+j*1+0:Nat)=j by omega];rw[own_cellS h0 j _ (by rw[strs,List.getElem?_map,List.getElem?_eq_getElem hb];rfl)];simp
theorem ZOwn.zs {w:World} {base:Nat} {v:Value} {Z:List Int} (h:ZOwn w base v Z):ZsAt w v Z:=by
 have h0:w.ownsRow base 74 2 v Z.length (ics (Z.map zI)):=h;rcases h0.2 with⟨rfl,h2⟩ | ⟨g,cap,cur,rfl,h3,h4,_⟩
 ·exact⟨none,0,by simp[h2],.inl (by simp[h2])⟩
 ·refine⟨_,_,by simp;rfl,.inr ⟨g,0,rfl,(Array.getElem?_eq_some_iff.1 h4).1,fun j hj=>⟨_,rfl,fun i hi=>?_⟩⟩⟩;obtain⟨q1,q2⟩:=ics_get (Z.map zI) j hj;obtain rfl | rfl:i=0∨i=1:=by omega
  ·rw[show (0+j*2+0:Nat)=j*2 by omega,own_cellS h0 _ _ q1];rfl
  ·rw[show (0+j*2+1:Nat)=j*2+1 by omega,own_cellS h0 _ _ q2];rfl
theorem NOwn.form {w:World} {base:Nat} {v:Value} {L:List Nat} (h:NOwn w base v L) (h0:0<L.length):∃g c,v=.slice (some ⟨g,0,none⟩) L.length c∧base≤g∧L.length≤c∧NatsAt w g L:=by
 have k:w.ownsRow base 22 1 v L.length (strs L):=h;rcases k.2 with⟨rfl,h2⟩ | ⟨g,cap,cur,rfl,h3,h4,h5,_⟩
 ·omega
 ·exact⟨g,cap,rfl,h3,h5,(Array.getElem?_eq_some_iff.1 h4).1,fun j hj=>own_cellS k j _ (by rw[strs,List.getElem?_map,List.getElem?_eq_getElem hj];rfl)⟩
theorem ZOwn.form {w:World} {base:Nat} {v:Value} {Z:List Int} (h:ZOwn w base v Z) (h0:0<Z.length):∃g c,v=.slice (some ⟨g,0,none⟩) Z.length c∧base≤g∧Z.length≤c∧IntsAt w g Z:=by
 have k:w.ownsRow base 74 2 v Z.length (ics (Z.map zI)):=h;rcases k.2 with⟨rfl,h2⟩ | ⟨g,cap,cur,rfl,h3,h4,h5,_⟩
 ·omega
 ·refine⟨g,cap,rfl,h3,h5,(Array.getElem?_eq_some_iff.1 h4).1,fun j hj=>?_⟩;obtain⟨q1,q2⟩:=ics_get (Z.map zI) j (by simpa using hj);refine⟨?_,?_⟩
  ·rw[own_cellS k _ _ q1];simp[zI]
  ·rw[own_cellS k _ _ q2];simp[zI]
theorem product_own (p q:Nat) (b1' b2':Nat) (L:List Nat) (Z:List Int) (v1 v2:Value) (w:World) (hp:p<256^8) (hq:q<256^128) (hg:grpE p q=0)
  (hn:L.length=Z.length) (hb:L.length≤1000) (hx:∀x∈L,hasB p q x=true) (hc:∀z∈Z,z.natAbs<256^128) (hL:NOwn w b1' v1 L) (hZ:ZOwn w b2' v2 Z)
  (h1:L=[]→v1=.slice none 0 0) (h2:Z=[]→v2=.slice none 0 0) :
  Calls Tryz.prog 203 #[.agg #[.string (E p),.string (E q)],v1,v2] w fun e w'=>e=.returned (.tuple #[.string (E (pw (prs p L Z) 0%p)),.int .i64 0])∧Bw w w':=by
 rcases Nat.eq_zero_or_pos L.length with h0 | h0
 ·have e1:=List.length_eq_zero_iff.1 h0;have e2:=List.length_eq_zero_iff.1 (hn ▸ h0:Z.length=0);rw[h1 e1,h2 e2,e1,e2];have:=product_nil p q w hp hq hg;rw[show pw (prs p [] []) 0%p=1 by show 1%p=1;exact Nat.mod_eq_of_lt (by have:=grp_gt hg;omega)];exact this
 ·obtain⟨g1,c1,rfl,_,k1,k2⟩:=hL.form h0;obtain⟨g2,c2,rfl,_,k3,k4⟩:=hZ.form (by omega);rw[←hn]at k3 ⊢;exact product_g p q g1 g2 c1 c2 L.length L Z w hp hq hg rfl hn.symm hb k1 k3 hx hc k2 k4
theorem prs_snoc (p:Nat) (L:List Nat) (Z:List Int) (k:Nat) (h1:k<L.length) (h2:k<Z.length):prs p (L.take (k+1)) (Z.take (k+1))=prs p (L.take k) (Z.take k)++[(bse p L[k] Z[k],Z[k].natAbs)]:=by
 rw[List.take_succ_eq_append_getElem h1,List.take_succ_eq_append_getElem h2];unfold prs;rw[List.zipWith_append (by simp;omega)];rfl
theorem pw_snoc (l:List (Nat × Nat)) (x e:Nat):pw (l++[(x,e)]) 0=pw l 0*x^e:=by
 induction l with
 | nil=>simp[pw]
 | cons y t ih=>simp only[List.cons_append,pw,ih,Nat.mul_assoc]
theorem powI_bse {p x:Nat} (z:Int) (hx:x<p):powI x z p=bse p x z^z.natAbs%p:=by
 unfold powI bse;rw[Nat.mod_eq_of_lt hx];split <;> rfl
theorem prodI_step (p:Nat) (L:List Nat) (Z:List Int) (k:Nat) (h1:k<L.length) (h2:k<Z.length) (hx:L[k]<p):pw (prs p (L.take k) (Z.take k)) 0%p*powI L[k] Z[k] p%p=pw (prs p (L.take (k+1)) (Z.take (k+1))) 0%p:=by
 rw[prs_snoc p L Z k h1 h2,pw_snoc,powI_bse _ hx,←Nat.mul_mod]
theorem rproduct_c (p q:Nat) (L:List Nat) (Z:List Int) (v1 v2:Value) (w:World) (hp:p<256^8) (hq:q<256^128) (hg:grpE p q=0)
  (hn:L.length=Z.length) (hQ:L.length≤1000) (hx:∀x∈L,hasB p q x=true) (hK:∀z∈Z,z.natAbs<256^128) (hL:SsAt w v1 (L.map E)) (hZ:ZsAt w v2 Z) :
  Calls Tryz.prog 169 #[.agg #[.string (E p),.string (E q)],v1,v2] w fun e w'=>e=.returned (.tuple #[.string (E (pw (prs p L Z) 0%p)),.int .i64 0])∧Bw w w':=by
 obtain⟨a1,c1,e1⟩:=RAt.form hL;obtain⟨a2,c2,e2⟩:=hZ.form;rw[List.length_map]at e1;rw[←hn]at e2;obtain⟨n,hw⟩:∃n,n=L.length:=⟨_,rfl⟩;have hy:=Kh hw;have hE:Hid (n=Z.length):=by rw[Hid,hw,hn]
 rw[←hw]at e1 e2 hQ;subst e1 e2;have hz:=Kh (grp_gt hg);have HP:=Kh hp;have HX:=Kh hx;have hM:=Kh hK;have HG:=Kh hg;have HQ:=Kh hq;obtain⟨r,hr⟩:∃r,r=pw (prs p L Z) 0%p:=⟨_,rfl⟩;have hF:=Kh hr;rw[←hr];have HC:=Kh (fun w=>rpcheckV_c p q 0 w hp hq hg);obtain⟨hB,hd⟩:=blk1 w #[Value.string (E p),Value.string (E q)] 86;replace hL:=SsAt.after hL hd;replace hZ:=hZ.after hd;clear hp hq hg hx hK hn hr hw;obtain⟨he,hf,hh,hi⟩:=hB.x2;go_enter Tryz.func169,Tryz.ntmps169
 go_wp2;clear he hf hh hi;generalize w.alloc (.cells #[Value.string (E p),Value.string (E q)] 86)=w1 at hB hd hL hZ;replace hB:Blk w1 w.heap.size 86 [.string (E p),.string (E q)]:=hB;go_loopw [8] (fun i wr=>∃k:Nat,k≤n∧i=.int .i64 k∧Bw w1 wr) (fun i _=>n-(intOf i).toNat)
 case atStart=>exact⟨0,by omega,rfl,Br⟩
 case round =>
  obtain⟨k,hk,rfl,hb⟩:=hrel;obtain⟨wp,hR⟩:∃wp,wp=wr:=⟨_,rfl⟩;subst hR;replace hB:=hB.after hb;replace hL:=SsAt.after hL hb;replace hZ:=hZ.after hb;replace hd:=bt hd hb;by_cases hlt:k<n
  ·have hc:k<L.length:=by rw[←hy.out];exact hlt
   have hj:k<(L.map E).length:=by simpa using hc
   obtain⟨b,o,rfl,ho,x1⟩:=SsAt.at_ hL hj;have hl:=Kh (HX.out _ (Gm hc));simp only[List.getElem_map]at x1;generalize (L[k]'hc)=x at x1 hl;have HN:=Kh (lt128 (Nat.lt_trans (has_lt hl.out) HP.out));have hG:(0:Int)≤(k:Int):=by omega
   have hH:(k:Int)<(n:Int):=by omega
   go_wp2_with fail
   refine (rvalidV_c (E x) true _ (by have:=szM HN.out;omega) (vldB_E x HN.out)).mono ?_;rintro e w' ⟨rfl,rfl⟩;go_wp2;go_roundw
   case rel=>exact⟨k+1,by omega,by go_num,hb⟩
   case measure=>simp[intOf];omega
  ·clear hb;go_wp2;go_loopw [9] (fun i wr=>∃k:Nat,k≤n∧i=.int .i64 k∧Bw wp wr) (fun i _=>n-(intOf i).toNat)
   case atStart=>exact⟨0,by omega,rfl,Br⟩
   case round =>
    obtain⟨k,hk,rfl,hb⟩:=hrel;obtain⟨wq,hS⟩:∃wq,wq=wr:=⟨_,rfl⟩;subst hS;replace hB:=hB.after hb;replace hL:=SsAt.after hL hb;replace hZ:=hZ.after hb;replace hd:=bt hd hb;by_cases hlt:k<n
    ·have hc:k<Z.length:=by rw[←hE.out];exact hlt
     obtain⟨b,o,rfl,ho,x1,x2⟩:=hZ.at_ hc;have ht:=Kh (hM.out _ (Gm hc));generalize (Z[k]'hc)=z at x1 x2 ht;have hG:(0:Int)≤(k:Int):=by omega
     have hH:(k:Int)<(n:Int):=by omega
     go_wp2_with fail
     refine (rivalidI_c z _ ht.out).mono ?_;rintro e w3 ⟨rfl,hm⟩;go_wp2;go_roundw
     case rel=>exact⟨k+1,by omega,by go_num,bt hb hm⟩
     case measure=>simp[intOf];omega
    ·clear hb;have hA:=hB.lt;obtain⟨he,hf,hh,hi⟩:=hB.x2;go_wp2_with fail
     refine (HC.out _).mono ?_;rintro e w3 ⟨rfl,hm⟩;clear he hf hh hi;replace hB:=hB.after hm;replace hL:=SsAt.after hL hm;replace hZ:=hZ.after hm;replace hd:=bt hd hm;clear hm hA;go_wp2;go_loopw [11] (fun i wr=>∃k:Nat,k≤n∧i=.int .i64 k∧Bw w3 wr) (fun i _=>n-(intOf i).toNat)
     case atStart=>exact⟨0,by omega,rfl,Br⟩
     case round =>
      obtain⟨k,hk,rfl,hb⟩:=hrel;obtain⟨wt,hT⟩:∃wt,wt=wr:=⟨_,rfl⟩;subst hT;replace hB:=hB.after hb;replace hL:=SsAt.after hL hb;replace hZ:=hZ.after hb;replace hd:=bt hd hb;have hA:=hB.lt;by_cases hlt:k<n
      ·have hc:k<L.length:=by rw[←hy.out];exact hlt
       have hj:k<(L.map E).length:=by simpa using hc
       obtain⟨b,o,rfl,ho,x1⟩:=SsAt.at_ hL hj;have hl:=Kh (HX.out _ (Gm hc));simp only[List.getElem_map]at x1;generalize (L[k]'hc)=x at x1 hl;have HN:=Kh (lt128 (Nat.lt_trans (has_lt hl.out) HP.out));have hG:(0:Int)≤(k:Int):=by omega
       have hH:(k:Int)<(n:Int):=by omega
       have g1:=gcl (a:=⟨b,o+k,none⟩) ho x1;obtain⟨he,hf,hh,hi⟩:=hB.x2;have hI:=hB.gcell 0;have hJ:=hB.gcell 1;go_wp2_with fail
       refine wp_region_gw (by kernel_rfl) (by kernel_rfl) ?_;repeat (go_big_quiet_step (first | (go_at_call 164;exact gw_of (rhasV_c p q x true _ HP.out HQ.out HG.out HN.out hl.out))))
       refine wpQuiet_nil ?_;rintro w5 ⟨xw5,rfl⟩;have hu:=gw_below xw5;generalize gw xw5=w5 at hu;go_wp2;go_roundw
       case rel=>exact⟨k+1,by omega,by go_num,bt hb hu⟩
       case measure=>simp[intOf];omega
      ·clear hb;go_wp2;go_loopw [12,13] (fun v i wr=>∃k:Nat,∃y:Nat,k≤n∧i=.int .i64 k∧v=.string (E y)∧Hid (y=pw (prs p (L.take k) (Z.take k)) 0%p)∧Bw wt wr) (fun _ i _=>n-(intOf i).toNat)
       case atStart=>exact⟨0,1,by omega,rfl,rfl,(Nat.mod_eq_of_lt (by have:=hz.out;omega)).symm,Br⟩
       case round =>
        obtain⟨k,y,hk,rfl,rfl,HY,hb⟩:=hrel;obtain⟨wu,hU⟩:∃wu,wu=wr:=⟨_,rfl⟩;subst hU;replace hB:=hB.after hb;replace hL:=SsAt.after hL hb;replace hZ:=hZ.after hb;replace hd:=bt hd hb;clear hA;have hA:=hB.lt;by_cases hlt:k<n
        ·have hc:k<L.length:=by rw[←hy.out];exact hlt
         have hj:k<(L.map E).length:=by simpa using hc
         have hC:k<Z.length:=by rw[←hE.out];exact hlt
         obtain⟨b,o,rfl,ho,x1⟩:=SsAt.at_ hL hj;obtain⟨b',o',rfl,hv,y1,y2⟩:=hZ.at_ hC;have hl:=Kh (HX.out _ (Gm hc));have ht:=Kh (hM.out _ (Gm hC));have hD:=Kh (prodI_step p L Z k hc hC (has_lt hl.out));simp only[List.getElem_map]at x1;generalize (L[k]'hc)=x at x1 hl hD;generalize (Z[k]'hC)=z at y1 y2 ht hD;have hN:=Kh (fun w=>rraw_c p q x z w HP.out HG.out hl.out ht.out);have hV:Hid (y<256^8):=by rw[Hid,HY.out];exact Nat.lt_trans (Nat.mod_lt _ (by have:=hz.out;omega)) HP.out
         have hO:Hid (powI x z p<256^8):=by rw[Hid,powI_bse z (has_lt hl.out)];exact Nat.lt_trans (Nat.mod_lt _ (by have:=hz.out;omega)) HP.out
         have hP:Hid (y*powI x z p%p=pw (prs p (L.take (k+1)) (Z.take (k+1))) 0%p):=by rw[Hid,HY.out];exact hD.out
         generalize powI x z p=v at hN hO hP;have hW:=Kh (fun w=>rmul3_c y v p w (lt128 hV.out) (lt128 hO.out) (Nl HP.out (Nat.pow_le_pow_right (show 0<256 by decide) (show 8≤64 by decide))) (by have:=hz.out;omega));have hG:(0:Int)≤(k:Int):=by omega
         have hH:(k:Int)<(n:Int):=by omega
         have g1:=gcl (a:=⟨b,o+k,none⟩) ho x1;have g2:=gcl (a:=⟨b',o'+k*2,none⟩) hv y1;have g3:=gcl (a:=⟨b',o'+k*2+1,none⟩) hv y2;clear hD;obtain⟨he,hf,hh,hi⟩:=hB.x2;have hI:=hB.gcell 0;have hJ:=hB.gcell 1;go_wp2_with fail
         refine wp_region_gw (by kernel_rfl) (by kernel_rfl) ?_;repeat (go_big_quiet_step (first | (go_at_call 165;exact gw_of (hN.out _)) | (go_at_call 172;exact gw_of (hW.out _))))
         refine wpQuiet_nil ?_;rintro w5 ⟨xw5,rfl⟩;have hu:=gw_below xw5;generalize gw xw5=w5 at hu;go_wp2;go_roundw
         case rel=>exact⟨k+1,y*v%p,by omega,by go_num,rfl,hP,bt hb hu⟩
         case measure=>simp[intOf];omega
        ·have HF:Hid (y=r):=by rw[Hid,HY.out,hF.out,List.take_of_length_le (by rw[←hy.out];omega),List.take_of_length_le (by rw[←hE.out];omega)]
         go_wp2;go_ret2
         exact⟨by rw[HF.out];rfl,bt hd Br⟩
end
section
open Go.RowKit Go.Shelf
def CA (w:World) (l:List (Addr × Value)):Prop:=∀x∈l,x.1.block<w.heap.size∧w.cell? x.1=some x.2
theorem CA.nil (w:World):CA w []:=fun x h=>by cases h
theorem CA.cons {w:World} {a:Addr} {v:Value} {l:List (Addr × Value)} (h1:a.block<w.heap.size) (h2:w.cell? a=some v) (h:CA w l):CA w ((a,v) :: l):=by
 intro x hx;rcases List.mem_cons.1 hx with rfl | hx
 ·exact⟨h1,h2⟩
 ·exact h x hx
theorem CA.drew {w:World} {l:List (Addr × Value)} (h:CA w l):CA w.drew l:=h
theorem CA.after {w w':World} {l:List (Addr × Value)} (h:CA w l) (hb:Bw w w'):CA w' l:=fun x hx=>⟨Nl (h x hx).1 hb.size,(hb.cell (h x hx).1).trans (h x hx).2⟩
theorem CA.alloc {w:World} {l:List (Addr × Value)} (h:CA w l) (o:Obj):CA (w.alloc o) l:=h.after (b1 _ _)
theorem CA.grown {w w':World} {row:Option Nat} {l:List (Addr × Value)} (h:CA w l) (hg:w.grownBy w' row) (hr:∀x∈l,row≠some x.1.block):CA w' l:=
 fun x hx=>⟨Nl (h x hx).1 hg.size,hg.cell (h x hx).2 (fun e=>hr x hx e.symm)⟩
theorem CA.set {w:World} {l:List (Addr × Value)} (h:CA w l) (g i:Nat) (v:Value) (hb:∀x∈l,x.1.block≠g):CA (w.setCell ⟨g,i,none⟩ v) l:=
 fun x hx=>⟨by rw[World.size_setCell];exact (h x hx).1,by rw[World.cell?_setCell_other _ _ _ _ (fun e=>hb x hx (congrArg Addr.block e).symm)];exact (h x hx).2⟩
theorem CA.k2 {w:World} {a0 a1:Addr} {v0 v1:Value} (h:CA w [(a0,v0),(a1,v1)]):w.cell? a0=some v0∧w.cell? a1=some v1:=⟨(h (a0,v0) (by simp)).2,(h (a1,v1) (by simp)).2⟩
theorem CA.k3 {w:World} {a0 a1 a2:Addr} {v0 v1 v2:Value} (h:CA w [(a0,v0),(a1,v1),(a2,v2)]):w.cell? a0=some v0∧w.cell? a1=some v1∧w.cell? a2=some v2:=⟨(h (a0,v0) (by simp)).2,(h (a1,v1) (by simp)).2,(h (a2,v2) (by simp)).2⟩
theorem CA.k4 {w:World} {a0 a1 a2 a3:Addr} {v0 v1 v2 v3:Value} (h:CA w [(a0,v0),(a1,v1),(a2,v2),(a3,v3)]):w.cell? a0=some v0∧w.cell? a1=some v1∧w.cell? a2=some v2∧w.cell? a3=some v3:=⟨(h (a0,v0) (by simp)).2,(h (a1,v1) (by simp)).2,(h (a2,v2) (by simp)).2,(h (a3,v3) (by simp)).2⟩
theorem CA.k5 {w:World} {a0 a1 a2 a3 a4:Addr} {v0 v1 v2 v3 v4:Value} (h:CA w [(a0,v0),(a1,v1),(a2,v2),(a3,v3),(a4,v4)]):w.cell? a0=some v0∧w.cell? a1=some v1∧w.cell? a2=some v2∧w.cell? a3=some v3∧w.cell? a4=some v4:=⟨(h (a0,v0) (by simp)).2,(h (a1,v1) (by simp)).2,(h (a2,v2) (by simp)).2,(h (a3,v3) (by simp)).2,(h (a4,v4) (by simp)).2⟩
theorem CA.k6 {w:World} {a0 a1 a2 a3 a4 a5:Addr} {v0 v1 v2 v3 v4 v5:Value} (h:CA w [(a0,v0),(a1,v1),(a2,v2),(a3,v3),(a4,v4),(a5,v5)]):w.cell? a0=some v0∧w.cell? a1=some v1∧w.cell? a2=some v2∧w.cell? a3=some v3∧w.cell? a4=some v4∧w.cell? a5=some v5:=⟨(h (a0,v0) (by simp)).2,(h (a1,v1) (by simp)).2,(h (a2,v2) (by simp)).2,(h (a3,v3) (by simp)).2,(h (a4,v4) (by simp)).2,(h (a5,v5) (by simp)).2⟩
theorem CA.k7 {w:World} {a0 a1 a2 a3 a4 a5 a6:Addr} {v0 v1 v2 v3 v4 v5 v6:Value} (h:CA w [(a0,v0),(a1,v1),(a2,v2),(a3,v3),(a4,v4),(a5,v5),(a6,v6)]):w.cell? a0=some v0∧w.cell? a1=some v1∧w.cell? a2=some v2∧w.cell? a3=some v3∧w.cell? a4=some v4∧w.cell? a5=some v5∧w.cell? a6=some v6:=⟨(h (a0,v0) (by simp)).2,(h (a1,v1) (by simp)).2,(h (a2,v2) (by simp)).2,(h (a3,v3) (by simp)).2,(h (a4,v4) (by simp)).2,(h (a5,v5) (by simp)).2,(h (a6,v6) (by simp)).2⟩
theorem blkN {w:World} {cs:Array Value} {T:TypeId} {g:Nat} (h:g=w.heap.size):Blk (w.alloc (.cells cs T)) g T cs.toList:=by subst h;exact Blk.new _ _ _
def ZBox (w:World) (z:Int) (s10 s11:Value) (wx:World):Prop:=∃g,s10=.pointer (some ⟨g,0,none⟩)∧s11=.int .i64 0∧Blk wx g 74 [.bool (sg z),.string (E z.natAbs)]∧w.heap.size≤g∧Bw w wx
def imgB (q:NEqn):List Nat:=q.trms.map (·.base)
def imgX (Z:List Int) (q:NEqn):List Int:=q.trms.map fun t=>t.coef*Z.getD t.var 0
def imgV (N:NSta) (Z:List Int) (q:NEqn):Nat:=pw (prs (N.gp q).1 (imgB q) (imgX Z q)) 0%(N.gp q).1
def NSta.imgs (N:NSta) (Z:List Int):List Nat:=N.eqs.map (imgV N Z)
theorem info_Int:(Tryz.prog.info? 74).map (fun i=>(i.zero,i.size,i.bytes))=some (some (.agg #[.bool false,.string { data:=#[] }]),2,24):=by kernel_rfl
theorem imgB_step (q:NEqn) (k:Nat) (h:k<q.trms.length):(imgB q).take (k+1)=(imgB q).take k++[(q.trms[k]).base]:=by
 unfold imgB;rw[←List.map_take,List.take_succ_eq_append_getElem h,List.map_append,List.map_take];rfl
theorem imgX_step (Z:List Int) (q:NEqn) (k:Nat) (h:k<q.trms.length):(imgX Z q).take (k+1)=(imgX Z q).take k++[(q.trms[k]).coef*Z.getD (q.trms[k]).var 0]:=by
 unfold imgX;rw[←List.map_take,List.take_succ_eq_append_getElem h,List.map_append,List.map_take];rfl
theorem ics_app (a b:List Int):ics (a.map zI)++ics (b.map zI)=ics ((a++b).map zI):=by simp[ics]
structure IRel (w1:World) (k:Nat) (L:List Nat) (Z:List Int) (v6 v7:Value) (wr:World):Prop where
 a:NOwn wr w1.heap.size v6 L
 z:ZOwn wr w1.heap.size v7 Z
 la:L.length=k
 lz:Z.length=k
 na:k=0→v6=.slice none 0 0
 nz:k=0→v7=.slice none 0 0
 b:Bw w1 wr
theorem IRel.after {w1:World} {k:Nat} {L:List Nat} {Z:List Int} {v6 v7:Value} {wr wx:World} (h:IRel w1 k L Z v6 v7 wr) (hb:Bw wr wx):IRel w1 k L Z v6 v7 wx:=
 ⟨own_after h.a hb,own_after h.z hb,h.la,h.lz,h.na,h.nz,bt h.b hb⟩
theorem imc_c (Q:NEqn) (Z:List Int) (w:World) (qg:Int) (qt:ByteArray) (tv v4:Value) (bw:Nat) (nv:Nat) (hM:Z.length=nv) (HK:nv≤12) (Hm:Q.trms.length≤12)
  (ht:∀t∈Q.trms,t.base<256^16∧t.var<nv∧t.coef.natAbs<256^16) (hz:∀z∈Z,z.natAbs<256^64) (hT:TNAt w tv Q.trms) (hW:Blk w bw 30 [v4]) (hZ:ZsAt w v4 Z) :
  Calls Tryz.prog 208 #[.agg #[.int .i64 qg,.string qt,tv],.pointer (some ⟨bw,0,none⟩)] w fun e w'=>∃v1 v2,e=.returned (.tuple #[v1,v2,.int .i64 0])∧NOwn w' w.heap.size v1 (imgB Q)∧ZOwn w' w.heap.size v2 (imgX Z Q)∧(Q.trms.length=0→v1=.slice none 0 0∧v2=.slice none 0 0)∧Bw w w':=by
 obtain⟨i0,Hc,hp,hr,hu⟩:=info_parts info_nat;obtain⟨i1,Hd,hv,hw,hy⟩:=info_parts info_Int;have Hn:=Kh Hc;have Ho:=Kh hp;have Hp:=Kh hr;have Hq:=Kh hu;have Hr:=Kh Hd;have Hs:=Kh hv;have Ht:=Kh hw;have Hu:=Kh hy;clear Hc hp hr hu Hd hv hw hy;obtain⟨to_,tc,rfl⟩:=hT.form;obtain⟨a4,c4,rfl⟩:=hZ.form;obtain⟨n,hK⟩:∃n,n=Q.trms.length:=⟨_,rfl⟩;have HN:=Kh hK;have Hv:=Kh hM;have Hw:=Kh ht;have Hx:=Kh hz;rw[←hK]at hT Hm;rw[hM]at hZ hW;rw[show Q.trms.length=n from hK.symm];obtain⟨hq,hA⟩:=blk1 w #[.int .i64 qg,.string qt,.slice to_ n tc] 131;replace hT:=hT.after hA;replace hW:=hW.after hA;replace hZ:=hZ.after hA;clear hK hM ht hz;obtain⟨hN,hO,hP,hQ,hR,hS⟩:=hq.x3;go_enter Tryz.func208,Tryz.ntmps208
 go_wp2;clear hN hO hP hQ hR hS;generalize Hy:w.alloc (.cells #[.int .i64 qg,.string qt,.slice to_ n tc] 131)=w1 at hq hA hT hW hZ;have Hz:w.heap.size<w1.heap.size:=hq.lt;clear Hy;have hD:IRel w1 0 ((imgB Q).take 0) ((imgX Z Q).take 0) (.slice none 0 0) (.slice none 0 0) w1:=⟨World.ownsRow_nil _ _ _ _,World.ownsRow_nil _ _ _ _,rfl,rfl,fun _=>rfl,fun _=>rfl,Br⟩;go_loopw [6,7,15] (fun v6 v7 i wr=>∃k:Nat,k≤n∧i=.int .i64 k∧IRel w1 k ((imgB Q).take k) ((imgX Z Q).take k) v6 v7 wr) (fun _ _ i _=>n-(intOf i).toNat)
 case atStart=>exact⟨0,by omega,rfl,hD⟩
 case round =>
  clear hD;obtain⟨k,hk,rfl,hI⟩:=hrel;obtain⟨wp,HA⟩:∃wp,wp=wr:=⟨_,rfl⟩;subst HA;have He:=hT.after hI.b;have Hf:=hZ.after hI.b;have hU:=hW.after hI.b;by_cases hlt:k<n
  ·have hE:k<Q.trms.length:=by rw[←HN.out];exact hlt
   have hF:=Kh (Hw.out _ (Gm hE));have hV:=Kh (imgB_step Q k hE);have hY:=Kh (imgX_step Z Q k hE);obtain⟨b,o,rfl,HB,x1,x2,x3,x4⟩:=He.at_ hE;generalize (Q.trms[k]'hE)=t at x1 x2 x3 x4 hF hV hY;obtain⟨tb,tvv,tz⟩:=t;simp only[]at x1 x2 x3 x4;have ho:tvv<Z.length:=by rw[Hv.out];exact hF.out.2.1
   have HL:tvv<nv:=hF.out.2.1;obtain⟨b',o',rfl,hl,y1,y2⟩:=Hf.at_ ho;have h0:=Kh (Hx.out _ (Gm ho));have Hg:Hid (Z.getD tvv 0=Z[tvv]'ho):=by rw[Hid,List.getD_eq_getElem?_getD,List.getElem?_eq_getElem ho];rfl
   generalize (Z[tvv]'ho)=zz at y1 y2 h0 Hg;clear ho;have h1:=Kh hF.out.2.2;have h2:=Kh hF.out.1;simp only[]at h1 h2
   have hG:Hid (∀w:World,Calls Tryz.prog 114 #[.agg #[.bool (sg (tz)),.string (E (tz).natAbs)],.agg #[.bool (sg (zz)),.string (E (zz).natAbs)]] w fun e w'=>e=.returned (.tuple #[.agg #[.bool (sg (tz*zz)),.string (E (tz*zz).natAbs)],.int .i64 0])∧Bw w w'):=fun w =>
    imul_c tz zz w (Nl h1.out (Nat.pow_le_pow_right (show 0<256 by decide) (show 16≤128 by decide))) (lt64 h0.out) (Nl (Nat.mul_lt_mul'' h1.out h0.out) (by rw[←Nat.pow_add];exact Nat.pow_le_pow_right (show 0<256 by decide) (by decide)))
   obtain⟨pz,h3⟩:∃p,p=tz*zz:=⟨_,rfl⟩;have HC:=Kh h3;rw[←h3]at hG;clear h3;have HM:(0:Int)≤(k:Int):=by omega
   have HO:(k:Int)<(n:Int):=by omega
   have HP:(0:Int)≤(tvv:Int):=by omega
   have HQ:(tvv:Int)<(nv:Int):=by omega
   have hC:CA (wp.alloc (.cells #[.string (E tb),.int .i64 (tvv:Int),.bool (sg tz),.string (E tz.natAbs)] 133)) [(⟨wp.heap.size,1,none⟩,.int .i64 (tvv:Int)),(⟨wp.heap.size,2,none⟩,.bool (sg tz)),(⟨wp.heap.size,3,none⟩,.string (E tz.natAbs)),(⟨bw,0,none⟩,.slice (some ⟨b',o',none⟩) nv c4),(⟨b',o'+tvv*2,none⟩,.bool (sg zz)),(⟨b',o'+tvv*2+1,none⟩,.string (E zz.natAbs))]:=by
    have hB:=Blk.new wp #[.string (E tb),.int .i64 (tvv:Int),.bool (sg tz),.string (E tz.natAbs)] 133;exact CA.cons hB.lt (hB.cell 1) (CA.cons hB.lt (hB.cell 2) (CA.cons hB.lt (hB.cell 3) (CA.alloc (CA.cons hU.lt (hU.cell 0) (CA.cons hl y1 (CA.cons hl y2 (CA.nil _)))) _)))
   have hf:=Blk.new wp #[.string (E tb),.int .i64 (tvv:Int),.bool (sg tz),.string (E tz.natAbs)] 133;have hd:=hI.after (b1 wp (.cells #[.string (E tb),.int .i64 (tvv:Int),.bool (sg tz),.string (E tz.natAbs)] 133));have hm:∀g,u7.ownBlock=some g→g<wp.heap.size:=fun g hg=>(own_lt hI.z hg).1
   go_wp2_with fail
   generalize wp.alloc (.cells #[.string (E tb),.int .i64 (tvv:Int),.bool (sg tz),.string (E tz.natAbs)] 133)=wA at hC hf hd;generalize wp.heap.size=g9 at hC hf hm ⊢;clear He Hf hU hI x1 x2 x3 x4 y1 y2 HB hl;have HR:g9<wA.heap.size:=hf.lt;have he:=fun x hx=>Nat.ne_of_lt (hC x hx).1
   go_upto_region 6 with fail
   go_cut [10,11] (fun s10 s11 wx=>ZBox wA pz s10 s11 wx)
   case first =>
    go_region_held3 (fun w'=>w'.cell? ⟨g9,1,none⟩=some (.int .i64 (tvv:Int))∧w'.cell? ⟨g9,2,none⟩=some (.bool (sg tz))∧w'.cell? ⟨g9,3,none⟩=some (.string (E tz.natAbs))∧w'.cell? ⟨bw,0,none⟩=some (.slice (some ⟨b',o',none⟩) nv c4)∧w'.cell? ⟨b',o'+tvv*2,none⟩=some (.bool (sg zz))∧w'.cell? ⟨b',o'+tvv*2+1,none⟩=some (.string (E zz.natAbs))) ((refine CA.k6 ?_;repeat (first | (with_reducible exact HD) | (with_reducible exact hC) | (with_reducible refine CA.drew ?_) | (with_reducible refine CA.alloc ?_ _) | (refine CA.set ?_ _ _ _ he))))
     ((go_at_call 114;refine (hG.out _).mono ?_;rintro e wf ⟨rfl,hn⟩;have HD:CA wf [(⟨g9,1,none⟩,.int .i64 (tvv:Int)),(⟨g9,2,none⟩,.bool (sg tz)),(⟨g9,3,none⟩,.string (E tz.natAbs)),(⟨bw,0,none⟩,.slice (some ⟨b',o',none⟩) nv c4),(⟨b',o'+tvv*2,none⟩,.bool (sg zz)),(⟨b',o'+tvv*2+1,none⟩,.string (E zz.natAbs))]:=(by first | exact hC.drew.after hn | exact (hC.alloc _).drew.after hn | exact (hC.drew.alloc _).after hn);(try (have kA:=(Blk.new wA #[.bool false,.string { data:=#[] }] 74).drew.after hn;have kA0:=kA.cell 0;have kA1:=kA.cell 1;have kA2:=kA.free 0;have kA3:=kA.free 1))))
    all_goals
     go_wp2_with fail
     go_meet
     first
      | exact⟨_,rfl,rfl,Blk.new _ _ _,hn.size,ba ((Below.drew Br).trans hn) _⟩
      | exact⟨_,rfl,rfl,(kA.set 0 _).set 1 _,Nat.le_refl _,((bt ((b1 wA _).drew) hn).setCell (by simp) _).setCell (by simp) _⟩
   case rest =>
    obtain⟨gx,rfl,rfl,hX,HS,Hh⟩:=hcut;obtain⟨wx,HE⟩:∃wx,wx=wc:=⟨_,rfl⟩;subst HE;replace hf:=hf.after Hh;replace hd:=hd.after Hh;clear hC he;have hh:wx.ownsRow w1.heap.size 22 1 u6 k (strs ((imgB Q).take k)):=by have h:wx.ownsRow _ _ _ _ _ _:=hd.a;rw[hd.la]at h;exact h
    have hL:wx.ownsRow w1.heap.size 74 2 u7 k (ics (((imgX Z Q).take k).map zI)):=by have h:wx.ownsRow _ _ _ _ _ _:=hd.z;rw[hd.lz]at h;exact h
    have Hi:=hd.b;have HT:=Hi.size;have h4:=Kh hd.la;have h5:=Kh hd.lz;clear hd;generalize (imgB Q).take k=LB at hh hV h4;generalize (imgX Z Q).take k=LX at hL hY h5;have hC:CA wx [(⟨g9,0,none⟩,.string (E tb)),(⟨gx,0,none⟩,.bool (sg pz)),(⟨gx,1,none⟩,.string (E pz.natAbs))]:=CA.cons hf.lt (hf.cell 0) (CA.cons hX.lt (hX.cell 0) (CA.cons hX.lt (hX.cell 1) (CA.nil _)))
    have he:∀x∈[((⟨g9,0,none⟩:Addr),Value.string (E tb)),(⟨gx,0,none⟩,.bool (sg pz)),(⟨gx,1,none⟩,.string (E pz.natAbs))],u6.ownBlock≠some x.1.block:=by
     have q1:=own_ne hh hf (by decide);have q2:=own_ne hh hX (by decide);intro x hx;simp only[List.mem_cons,List.not_mem_nil,or_false]at hx;rcases hx with rfl | rfl | rfl
     ·exact q1
     ·exact q2
     ·exact q2
    have hH:∀x∈[((⟨g9,0,none⟩:Addr),Value.string (E tb)),(⟨gx,0,none⟩,.bool (sg pz)),(⟨gx,1,none⟩,.string (E pz.natAbs))],u7.ownBlock≠some x.1.block:=by
     have q1:=own_ne hL hf (by decide);have q2:u7.ownBlock≠some gx:=fun e=>by have:=hm gx e;omega
     intro x hx;simp only[List.mem_cons,List.not_mem_nil,or_false]at hx;rcases hx with rfl | rfl | rfl
     ·exact q1
     ·exact q2
     ·exact q2
    have HF:=Kh he;have HG:=Kh hH;clear he hH hm;go_upto_region 9 with fail
    go_region_held3 (fun w'=>w'.cell? ⟨g9,0,none⟩=some (.string (E tb))∧w'.cell? ⟨gx,0,none⟩=some (.bool (sg pz))∧w'.cell? ⟨gx,1,none⟩=some (.string (E pz.natAbs))) ((refine CA.k3 ?_;repeat (first | (with_reducible exact Hj) | (with_reducible exact h6) | (with_reducible exact hC) | (with_reducible refine CA.drew ?_) | (with_reducible refine CA.alloc ?_ _))))
     (first | (refine step_append_lies _ (by rfl) (.tmp 33) (.tmp 36) _ (by rfl) w1.heap.size 22 i0 _ 1 16 Tryz.underlying31 Hn.out Ho.out Hp.out Hq.out rfl (by omega) u6 k (strs LB) (by rfl) (by repeat (first | (with_reducible exact hh) | (with_reducible refine World.ownsRow.drew ?_) | (with_reducible refine World.ownsRow.alloc ?_ _))) _ 1 1 [.string (E tb)] (by rfl) rfl (Blk.cells (T:=22) (by first | exact blkN (by simp) | exact (blkN (by simp)).alloc _)) (by simp[Value.oneCell']) (by omega) (by simp only[maxLen];omega) (by omega) (by simp;omega) _ rfl ?_;intro ga ca wa hi hb h7 HH;clear h7;have h8:wa.ownsRow w1.heap.size 74 2 u7 k (ics (LX.map zI)):=own_grown (b1:=w1.heap.size) (b2:=w1.heap.size) (e1:=74) (e2:=22) (s1:=2) (s2:=1) (n1:=k) (n2:=k) (v1:=u7) (v2:=u6) (x1:=ics (LX.map zI)) (x2:=strs LB) (by repeat (first | (with_reducible exact hL) | (with_reducible refine World.ownsRow.drew ?_) | (with_reducible refine World.ownsRow.alloc ?_ _))) (by repeat (first | (with_reducible exact hh) | (with_reducible refine World.ownsRow.drew ?_) | (with_reducible refine World.ownsRow.alloc ?_ _))) (by decide) hb;have h6:CA wa [(⟨g9,0,none⟩,.string (E tb)),(⟨gx,0,none⟩,.bool (sg pz)),(⟨gx,1,none⟩,.string (E pz.natAbs))]:=CA.grown (by repeat (first | (with_reducible exact hC) | (with_reducible refine CA.drew ?_) | (with_reducible refine CA.alloc ?_ _))) hb HF.out;have hJ:Bw w1 wa:=Below.grown (by repeat (first | (with_reducible exact Hi) | (with_reducible refine Below.drew ?_) | (with_reducible refine Below.alloc ?_ (by first | omega | (simp;omega)) _))) hb (by simp;omega) (fun g hg=>(own_lt hh hg).2);have HU:=hb.size;(try (have h9:Blk wa wx.heap.size 74 [.bool (sg pz),.string (E pz.natAbs)]:=Blk.grown (by first | exact (blkN (by simp)).alloc _) hb (fun e=>by have:=(own_lt hh e).1;omega)));(try (have Ha:Blk wa (wx.heap.size+1) 74 [.bool (sg pz),.string (E pz.natAbs)]:=Blk.grown (by first | exact blkN (by simp)) hb (fun e=>by have:=(own_lt hh e).1;omega)))) | (refine step_append_lies _ (by rfl) (.tmp 38) (.tmp 40) _ (by rfl) w1.heap.size 74 i1 _ 2 24 Tryz.underlying30 Hr.out Hs.out Ht.out Hu.out rfl (by omega) u7 k (ics (LX.map zI)) (by rfl) (by repeat (first | (with_reducible exact h8) | (with_reducible refine World.ownsRow.drew ?_) | (with_reducible refine World.ownsRow.alloc ?_ _))) _ 1 1 [.bool (sg pz),.string (E pz.natAbs)] (by rfl) rfl (Blk.cells (T:=74) (by first | exact blkN (by simp) | exact h9 | exact Ha)) (by simp[Value.oneCell']) (by omega) (by simp only[maxLen];omega) (by omega) (by have:=hJ.size;simp;omega) _ rfl ?_;intro gb cb wb hj hc Hb HI;clear Hb;have Hk:wb.ownsRow w1.heap.size 22 1 (.slice (some ⟨ga,0,none⟩) (k+1) ca) (k+1) (strs LB++[.string (E tb)]):=own_grown (b1:=w1.heap.size) (b2:=w1.heap.size) (e1:=22) (e2:=74) (s1:=1) (s2:=2) (n1:=k+1) (n2:=k) (v1:=.slice (some ⟨ga,0,none⟩) (k+1) ca) (v2:=u7) (x1:=strs LB++[.string (E tb)]) (x2:=ics (LX.map zI)) (by repeat (first | (with_reducible exact hi) | (with_reducible refine World.ownsRow.drew ?_) | (with_reducible refine World.ownsRow.alloc ?_ _))) (by repeat (first | (with_reducible exact h8) | (with_reducible refine World.ownsRow.drew ?_) | (with_reducible refine World.ownsRow.alloc ?_ _))) (by decide) hc;have Hj:CA wb [(⟨g9,0,none⟩,.string (E tb)),(⟨gx,0,none⟩,.bool (sg pz)),(⟨gx,1,none⟩,.string (E pz.natAbs))]:=CA.grown (by repeat (first | (with_reducible exact h6) | (with_reducible refine CA.drew ?_) | (with_reducible refine CA.alloc ?_ _))) hc HG.out;have Hl:Bw w1 wb:=Below.grown (by repeat (first | (with_reducible exact hJ) | (with_reducible refine Below.drew ?_) | (with_reducible refine Below.alloc ?_ (by have:=hJ.size;first | omega | (simp;omega)) _))) hc (by have:=hJ.size;simp;omega) (fun g hg=>(own_lt hL hg).2)))
    all_goals
     have hD:IRel w1 (k+1) (LB++[tb]) (LX++[pz]) (.slice (some ⟨ga,0,none⟩) (k+1) ca) (.slice (some ⟨gb,0,none⟩) (k+1) cb) wb:=by
      refine⟨?_,?_,by simp[h4.out],by simp[h5.out],fun h=>by omega,fun h=>by omega,Hl⟩
      ·rw[NOwn,List.length_append,h4.out,←strs_app];exact Hk
      ·rw[ZOwn,List.length_append,h5.out,←ics_app];exact hj
     rw[←hV.out,HC.out,←Hg.out,←hY.out]at hD;clear Hk hj hi h6 Hj hJ Hl hb hc h8;go_wp2;go_roundw
     case rel=>exact⟨k+1,by omega,by go_num,hD⟩
     case measure=>simp[intOf];omega
  ·obtain rfl:k=n:=by omega
   have h2:Hid ((imgB Q).take k=imgB Q):=List.take_of_length_le (by rw[HN.out];simp[imgB]);have HJ:Hid ((imgX Z Q).take k=imgX Z Q):=List.take_of_length_le (by rw[HN.out];simp[imgX]);rw[h2.out,HJ.out]at hI;go_wp2;go_ret3
   refine⟨_,_,rfl,own_mono hI.a (by omega),own_mono hI.z (by omega),fun h=>⟨hI.na h,hI.nz h⟩,hA.trans (hI.b.mono (by omega))⟩
end
section
open Go.RowKit Go.Shelf
def LPost (w:World) (L:List Nat) (e:Ending) (w':World):Prop:=∃v,e=.returned (.tuple #[v,.int .i64 0])∧NOwn w' w.heap.size v L∧Bw w w'
theorem imgs_step (N:NSta) (Z:List Int) (k:Nat) (h:k<N.eqs.length):(N.imgs Z).take (k+1)=(N.imgs Z).take k++[imgV N Z N.eqs[k]]:=by
 unfold NSta.imgs;rw[←List.map_take,List.take_succ_eq_append_getElem h,List.map_append,List.map_take];rfl
theorem chk_elem {N:NSta} (h:N.chk=0) (k:Nat) (hk:k<N.eqs.length) (hg:N.eqs[k].grp<N.grps.length):grpE N.grps[N.eqs[k].grp].1 N.grps[N.eqs[k].grp].2=0∧hasB N.grps[N.eqs[k].grp].1 N.grps[N.eqs[k].grp].2 N.eqs[k].tgt=true∧∀x∈imgB N.eqs[k],hasB N.grps[N.eqs[k].grp].1 N.grps[N.eqs[k].grp].2 x=true:=by
 obtain⟨_,he,_⟩:=chk_inv h;unfold NSta.elem at he;rw[Bool.and_eq_true,List.all_eq_true,List.all_eq_true]at he;have h1:=he.1 _ (Gm hg);have h2:=he.2 _ (Gm hk);unfold elemQ at h2;rw[gp_at N _ hg,Bool.and_eq_true,List.all_eq_true]at h2;refine⟨by simpa [gr0] using h1,h2.1,fun x hx=>?_⟩;obtain⟨t,ht,rfl⟩:=List.mem_map.1 hx;exact h2.2 t ht
theorem imgX_lt {N:NSta} (hm:NOk N) (Z:List Int) (hz:∀z∈Z,z.natAbs<256^64) (q:NEqn) (hq:q∈N.eqs):∀z∈imgX Z q,z.natAbs<256^128:=by
 intro z hb;obtain⟨t,ht,rfl⟩:=List.mem_map.1 hb;obtain⟨_,_,_,h4⟩:=hm.e q hq;have h5:=(h4 t ht).2.2
 have h6:(Z.getD t.var 0).natAbs<256^64:=by
  rw[List.getD_eq_getElem?_getD];by_cases hv:t.var<Z.length
  ·rw[List.getElem?_eq_getElem hv];exact hz _ (Gm hv)
  ·rw[List.getElem?_eq_none (by omega)];exact Nat.pow_pos (by decide)
 rw[Int.natAbs_mul];exact Nl (Nat.mul_lt_mul'' h5 h6) (by rw[←Nat.pow_add];exact Nat.pow_le_pow_right (show 0<256 by decide) (by decide))
theorem images_c (N:NSta) (Z:List Int) (v1 v2 v3 v4:Value) (w:World) (hm:NOk N) (hS:NAt w v1 v2 v3 N) (hZ:ZsAt w v4 Z) (hz:∀z∈Z,z.natAbs<256^64) (hl:Z.length=N.vars.length) (hc:N.chk=0) :
  Calls Tryz.prog 112 #[.agg #[v1,v2,v3],v4] w (LPost w (N.imgs Z)):=by
 obtain⟨i0,Hq,hn,ho,hp⟩:=info_parts info_nat;have HN:=Kh Hq;have HO:=Kh hn;have HP:=Kh ho;have HQ:=Kh hp;clear Hq hn ho hp;obtain⟨a4,c4,rfl⟩:=hZ.form;have Hr:=Kh hz;have HL:=Kh hl;have HR:=Kh hc;have H5:=Kh hm;rw[hl]at hZ ⊢;clear hz hl hc;obtain⟨a1,c1,a2,c2,a3,c3,rfl,rfl,rfl⟩:=hS.forms;obtain⟨n1,hT⟩:∃n,n=N.grps.length:=⟨_,rfl⟩;obtain⟨n2,hU⟩:∃n,n=N.vars.length:=⟨_,rfl⟩;obtain⟨n3,hV⟩:∃n,n=N.eqs.length:=⟨_,rfl⟩;have HS:=Kh hT;have h1:=Kh hU;have Hs:=Kh hV;have l1:n1≤10:=by rw[hT];exact hm.ng
 have l2:n2≤12:=by rw[hU];exact hm.nv
 have l3:n3≤12:=by rw[hV];exact hm.ne
 have HM:=Kh hm;rw[←hT,←hU,←hV]at hS ⊢;clear hm hT hU hV;rw[←h1.out]at hZ;obtain⟨hP,hW,hq⟩:=blk2 w #[.slice a1 n1 c1,.slice a2 n2 c2,.slice a3 n3 c3] #[.slice a4 n2 c4] 29 30;replace hS:=hS.after hq;replace hZ:=hZ.after hq;obtain⟨h2,h3,h4,h5,h6,h7⟩:=hP.x3;go_enter Tryz.func112,Tryz.ntmps112
 go_wp2;clear h2 h3 h4 h5 h6 h7;generalize HT:(w.alloc (.cells #[.slice a1 n1 c1,.slice a2 n2 c2,.slice a3 n3 c3] 29)).alloc (.cells #[.slice a4 n2 c4] 30)=w1 at hP hW hq hS hZ;replace hP:Blk w1 w.heap.size 29 [.slice a1 n1 c1,.slice a2 n2 c2,.slice a3 n3 c3]:=hP;replace hW:Blk w1 (w.heap.size+1) 30 [.slice a4 n2 c4]:=hW;clear HT;go_loopw [7,18] (fun v7 i wr=>∃k:Nat,k≤n3∧i=.int .i64 k∧NOwn wr w1.heap.size v7 ((N.imgs Z).take k)∧Bw w1 wr) (fun _ i _=>n3-(intOf i).toNat)
 case atStart=>exact⟨0,by omega,rfl,World.ownsRow_nil _ _ _ _,Br⟩
 case round =>
  obtain⟨k,hk,rfl,hO,hg⟩:=hrel;obtain⟨wp,HU⟩:∃wp,wp=wr:=⟨_,rfl⟩;subst HU;have h8:=hS.after hg;have hY:=hP.after hg;have Ht:=hW.after hg;have Hu:=hZ.after hg;have h9:=bt hq hg;by_cases hlt:k<n3
  ·have hi:k<N.eqs.length:=by rw[←Hs.out];exact hlt
   have hj:=Kh (HM.out.e _ (Gm hi));have h0:=Kh (chk_elem HR.out k hi hj.out.1);have Hv:=Kh (imgX_lt HM.out Z Hr.out _ (Gm hi));have Hw:=Kh (imgs_step N Z k hi);obtain⟨b,o,tv,rfl,H6,x1,x2,x3,hr⟩:=h8.eat hi;generalize (N.eqs[k]'hi)=q at x1 x2 x3 hr hj h0 Hv Hw;have he:=hj.out.1;have HV:q.grp<n1:=by rw[HS.out];exact he
   have Hx:=Kh (gp_at N q he);have Ha:=Kh (HM.out.g _ (Gm he));have Hy:Hid (imgV N Z q=pw (prs (N.grps[q.grp]'he).1 (imgB q) (imgX Z q)) 0%(N.grps[q.grp]'he).1):=by rw[Hid,imgV,Hx.out]
   obtain⟨b',o',rfl,hd,y1,y2⟩:=h8.gat he;generalize (N.grps[q.grp]'he)=gg at y1 y2 Ha h0 Hy;clear he Hx;obtain⟨p,qq⟩:=gg;simp only[]at y1 y2
   have hu:Hid (∀w',Bw wp w'→Calls Tryz.prog 208 #[.agg #[.int .i64 (q.grp:Int),.string (E q.tgt),tv],.pointer (some ⟨w.heap.size+1,0,none⟩)] w' fun e w''=>∃v1 v2,e=.returned (.tuple #[v1,v2,.int .i64 0])∧NOwn w'' w'.heap.size v1 (imgB q)∧ZOwn w'' w'.heap.size v2 (imgX Z q)∧(q.trms.length=0→v1=.slice none 0 0∧v2=.slice none 0 0)∧Bw w' w''):=fun w' Hb =>
    imc_c q Z w' _ _ _ _ _ n2 (by rw[HL.out,h1.out]) l2 hj.out.2.2.1 (fun t ht=>by rw[h1.out];exact hj.out.2.2.2 t ht) Hr.out (hr.after Hb) (Ht.after Hb) (Hu.after Hb)
   obtain⟨to_,tc,rfl⟩:=hr.form;obtain⟨n4,Hc⟩:∃n,n=q.trms.length:=⟨_,rfl⟩;have Hz:=Kh Hc;rw[←Hc]at x3 hr hu;clear Hc;obtain⟨qg,HA⟩:∃g,g=q.grp:=⟨_,rfl⟩;obtain⟨qt,HB⟩:∃g,g=q.tgt:=⟨_,rfl⟩;rw[←HA]at x1 y1 y2 HV hu;rw[←HB]at x2 hu;clear HA HB;have H7:(0:Int)≤(k:Int):=by omega
   have H8:(k:Int)<(n3:Int):=by omega
   have H9:(0:Int)≤(qg:Int):=by omega
   have ja:(qg:Int)<(n1:Int):=by omega
   have HW:=hY.lt;obtain⟨hB,hb9⟩:=blk1 wp #[.int .i64 (qg:Int),.string (E qt),.slice to_ n4 tc] 131;obtain⟨Hd,He,Hf,Hg,Hh,Hi⟩:=hB.x3;go_wp2_with fail
   refine (hu.out _ hb9).mono ?_;rintro e w2 ⟨u1,u2,rfl,hN,hX,hv,Hj⟩;clear Hd He Hf Hg Hh Hi;have hb:=bt hb9 Hj;have Hk:=hB.after Hj;have Hl:=hY.after hb;have HC:=own_after hO hb;have hw:=bt hg hb;have z1:=(hb.cell (p:=⟨b',o'+qg*2,none⟩) hd).trans y1;have z2:=(hb.cell (p:=⟨b',o'+qg*2+1,none⟩) hd).trans y2;have HX:=Nl hd hb.size;have HY:=Hl.lt;have HZ:=Hk.lt;have hy:=Kh hv
   have HD:Hid (Calls Tryz.prog 203 #[.agg #[.string (E p),.string (E qq)],u1,u2] w2 fun e w'=>e=.returned (.tuple #[.string (E (imgV N Z q)),.int .i64 0])∧Bw w2 w'):=by
    rw[Hy.out]
    exact product_own p qq _ _ (imgB q) (imgX Z q) u1 u2 w2 Ha.out.1 (lt128 Ha.out.2) h0.out.1 (by simp[imgB,imgX]) (by have:=hj.out.2.2.1;simp[imgB];omega) h0.out.2.2 Hv.out hN hX
     (fun h=>(hy.out (by rw[Hz.out];simpa [imgB] using h)).1) (fun h=>(hy.out (by rw[Hz.out];simpa [imgX] using h)).2)
   clear hv Hj hb hB hY hO hg hN hX h8 Ht Hu hr hu hd y1 y2 x1 x2 x3 HW;obtain⟨hA,hC,hD,hE,hF,hG⟩:=Hl.x3;obtain⟨hH,hI,hJ,hK,hL,hM⟩:=Hk.x3;go_wp2_with fail
   refine HD.out.mono ?_;rintro e w3 ⟨rfl,Hm⟩;clear hA hC hD hE hF hG;clear hH hI hJ hK hL hM;have hQ:=own_after HC Hm;have hh:=bt hw Hm;have Hn:Hid (((N.imgs Z).take k).length=k):=by rw[Hid,List.length_take,NSta.imgs,List.length_map];omega
   rw[Hn.out]at hQ;clear HD Hm HC hw Hl Hk;have H0:=hh.size;have Ho:=Kh Hw.out;generalize imgV N Z q=iv at Ho ⊢;generalize (N.imgs Z).take k=LI at hQ Ho Hn;go_wp2_with (at_builtin;refine wpList_append_lies _ rfl (.tmp 47) (.tmp 49) _ rfl w1.heap.size 22 i0 _ 1 16 Tryz.underlying31 HN.out HO.out HP.out HQ.out rfl (by omega) u7 k (strs LI) rfl (own_after hQ (b1 _ (.cells #[.string (E iv)] 22))) ⟨w3.heap.size,0,none⟩ 1 1 [.string (E iv)] rfl rfl (Blk.new w3 #[.string (E iv)] 22).cells (by simp[Value.oneCell']) (by omega) (by simp only[maxLen];omega) (by omega) (by rw[World.size_alloc];omega) (w3.heap.size+1) (by simp) ?_;intro ga ca wa hR hf H1 Hp)
   have HE:NOwn wa w1.heap.size (.slice (some ⟨ga,0,none⟩) (k+1) ca) (LI++[iv]):=by rw[NOwn,List.length_append,Hn.out,←strs_app];exact hR
   rw[←Ho.out]at HE;have H2:=(ba hh (.cells #[.string (E iv)] 22)).grown hf (by rw[World.size_alloc];omega) (fun x hx=>(own_lt hQ hx).2);clear hR hf H1 Hp hQ hh;go_wp2;go_roundw
   case rel=>exact⟨k+1,by omega,by go_num,HE,H2⟩
   case measure=>simp[intOf];omega
  ·have H3:Hid ((N.imgs Z).take k=N.imgs Z):=List.take_of_length_le (by rw[NSta.imgs,List.length_map,←Hs.out];omega);rw[H3.out]at hO;have H4:=hq.size;obtain⟨HF,HG,HH,HI,HJ,HK⟩:=hY.x3;go_wp2;go_ret2
   exact⟨_,rfl,own_mono hO H4,h9⟩
theorem Images_c (N:NSta) (Z:List Int) (v1 v2 v3 v4:Value) (w:World) (hm:NOk N) (hS:NAt w v1 v2 v3 N) (hZ:ZsAt w v4 Z) (hz:∀z∈Z,z.natAbs<256^64) (hl:Z.length=N.vars.length) (hc:N.chk=0) :
  Calls Tryz.prog 82 #[.agg #[v1,v2,v3],v4] w (LPost w (N.imgs Z)):=by
 obtain⟨a4,c4,rfl⟩:=hZ.form;have hb:=b1 w (.cells #[v1,v2,v3] 29);have he:=Kh (ready_c N Z v1 v2 v3 _ _ hm (hS.after hb) (hZ.after hb) (fun z h=>lt64 (hz z h)) hl hc);have hd:Hid (∀w',Bw w w'→Calls Tryz.prog 112 #[.agg #[v1,v2,v3],.slice a4 Z.length c4] w' (LPost w' (N.imgs Z))):=fun w' hp=>images_c N Z v1 v2 v3 _ w' hm (hS.after hp) (hZ.after hp) hz hl hc
 have hP:=Blk.new w #[v1,v2,v3] 29;obtain⟨a1,c1,a2,c2,a3,c3,rfl,rfl,rfl⟩:=hS.forms;generalize Z.length=n at he hd;generalize N.imgs Z=L at hd;generalize N.grps.length=n1 at hP hb he hd;generalize N.vars.length=n2 at hP hb he hd;generalize N.eqs.length=n3 at hP hb he hd;clear hm hS hZ hz hl hc;obtain⟨hf,hg,hh,hi,hj,hk⟩:=hP.x3;go_enter Tryz.func82,Tryz.ntmps82
 go_wp2_with fail
 refine he.out.mono ?_;rintro e w2 ⟨rfl,hn⟩;clear hf hg hh hi hj hk;replace hP:=hP.after hn;have ho:=bt hb hn;have hr:=hP.lt;clear hn;obtain⟨hf,hg,hh,hi,hj,hk⟩:=hP.x3;go_wp2_with fail
 refine (hd.out _ ho).mono ?_;rintro e w3 ⟨v,rfl,hO,hq⟩;go_wp2;go_ret2
 exact⟨v,rfl,own_mono hO ho.size,bt ho hq⟩
end
section
open Go.RowKit Go.Shelf
theorem rimages_c (N:NSta) (Z:List Int) (v1 v2 v3 v4:Value) (w:World) (hm:NOk N) (hS:NAt w v1 v2 v3 N) (hZ:ZsAt w v4 Z) (hz:∀z∈Z,z.natAbs<256^64) (hl:Z.length=N.vars.length) (hc:N.chk=0) :
  Calls Tryz.prog 161 #[.agg #[v1,v2,v3],v4] w (LPost w (N.imgs Z)):=by
 obtain⟨i0,jb,h0,h1,h2⟩:=info_parts info_nat;obtain⟨i1,jc,h3,h4,h5⟩:=info_parts info_Int;have jd:=Kh jb;have je:=Kh h0;have jf:=Kh h1;have jg:=Kh h2;have jB:=Kh jc;have jC:=Kh h3;have jD:=Kh h4;have jE:=Kh h5;clear jb h0 h1 h2 jc h3 h4 h5;obtain⟨a4,c4,rfl⟩:=hZ.form;have jh:=Kh hz;have HL:=Kh hl;have jF:=Kh hc;rw[hl]at hZ ⊢;clear hz hl hc;obtain⟨a1,c1,a2,c2,a3,c3,rfl,rfl,rfl⟩:=hS.forms;obtain⟨n1,Hr⟩:∃n,n=N.grps.length:=⟨_,rfl⟩;obtain⟨n2,Hs⟩:∃n,n=N.vars.length:=⟨_,rfl⟩;obtain⟨n3,Ht⟩:∃n,n=N.eqs.length:=⟨_,rfl⟩;have jG:=Kh Hr;have ji:=Kh Hs;have jj:=Kh Ht;have l1:n1≤10:=by rw[Hr];exact hm.ng
 have l2:n2≤12:=by rw[Hs];exact hm.nv
 have l3:n3≤12:=by rw[Ht];exact hm.ne
 have HM:=Kh hm;rw[←Hr,←Hs,←Ht]at hS ⊢;clear hm Hr Hs Ht;rw[←ji.out]at hZ;obtain⟨hP,Hu⟩:=blk1 w #[.slice a1 n1 c1,.slice a2 n2 c2,.slice a3 n3 c3] 29;replace hS:=hS.after Hu;replace hZ:=hZ.after (b1 w (.cells #[.slice a1 n1 c1,.slice a2 n2 c2,.slice a3 n3 c3] 29));obtain⟨HB,HC,HD,HE,HF,HG⟩:=hP.x3;go_enter Tryz.func161,Tryz.ntmps161
 go_wp2;clear HB HC HD HE HF HG;generalize w.alloc (.cells #[.slice a1 n1 c1,.slice a2 n2 c2,.slice a3 n3 c3] 29)=w1 at hP Hu hS hZ;replace hP:Blk w1 w.heap.size 29 [.slice a1 n1 c1,.slice a2 n2 c2,.slice a3 n3 c3]:=hP;go_loopw [6,7] (fun v6 i wr=>∃k:Nat,k≤n3∧i=.int .i64 k∧NOwn wr w1.heap.size v6 ((N.imgs Z).take k)∧Bw w1 wr) (fun _ i _=>n3-(intOf i).toNat)
 case atStart=>exact⟨0,by omega,rfl,World.ownsRow_nil _ _ _ _,Br⟩
 case round =>
  obtain⟨k,hk,rfl,hO,hU⟩:=hrel;obtain⟨wp,jH⟩:∃wp,wp=wr:=⟨_,rfl⟩;subst jH;have HH:=hS.after hU;have h6:=hP.after hU;have jk:=hZ.after hU;have HI:=bt Hu hU;have jI:=h6.lt;by_cases hlt:k<n3
  ·have hV:k<N.eqs.length:=by rw[←jj.out];exact hlt
   have hW:=Kh (HM.out.e _ (Gm hV));have Hv:=Kh (chk_elem jF.out k hV hW.out.1);have jl:=Kh (imgX_lt HM.out Z jh.out _ (Gm hV));have jm:=Kh (imgs_step N Z k hV);obtain⟨b,o,tv,rfl,ht,x1,x2,x3,h7⟩:=HH.eat hV;generalize (N.eqs[k]'hV)=q at x1 x2 x3 h7 hW Hv jl jm;have hu:=hW.out.1;have jJ:q.grp<n1:=by rw[jG.out];exact hu
   have jn:=Kh (gp_at N q hu);have HJ:=Kh (HM.out.g _ (Gm hu));have jo:Hid (imgV N Z q=pw (prs (N.grps[q.grp]'hu).1 (imgB q) (imgX Z q)) 0%(N.grps[q.grp]'hu).1):=by rw[Hid,imgV,jn.out]
   obtain⟨bg,og_,rfl,Hw,y1,y2⟩:=HH.gat hu;generalize (N.grps[q.grp]'hu)=gg at y1 y2 HJ Hv jo;clear hu jn;obtain⟨p,qq⟩:=gg;simp only[]at y1 y2;obtain⟨to_,tc,rfl⟩:=h7.form;obtain⟨n4,HK⟩:∃n,n=q.trms.length:=⟨_,rfl⟩;have Hx:=Kh HK;rw[←HK]at x3 h7;clear HK;obtain⟨qg,jp⟩:∃g,g=q.grp:=⟨_,rfl⟩;obtain⟨qt,jq⟩:∃g,g=q.tgt:=⟨_,rfl⟩;rw[←jp]at x1 y1 y2 jJ;rw[←jq]at x2;clear jp jq;have l4:n4≤12:=by rw[Hx.out];exact hW.out.2.2.1
   have j3:(0:Int)≤(k:Int):=by omega
   have j4:(k:Int)<(n3:Int):=by omega
   have j5:(0:Int)≤(qg:Int):=by omega
   have j6:(qg:Int)<(n1:Int):=by omega
   obtain⟨hQ,hq⟩:=blk1 wp #[.int .i64 (qg:Int),.string (E qt),.slice to_ n4 tc] 131;obtain⟨hv,hw,hy,hA,hB,hD⟩:=h6.x3;go_wp2;clear hv hw hy hA hB hD;have HN:=h6.after hq;have HO:=h7.after hq;have HP:=jk.after hq;have HQ:=own_after hO hq;have hK:=bt hU hq;have z1:=(hq.cell (p:=⟨bg,og_+qg*2,none⟩) Hw).trans y1;have z2:=(hq.cell (p:=⟨bg,og_+qg*2+1,none⟩) Hw).trans y2;have he:=Nl Hw hq.size;clear HH h6 jk hO hU h7 y1 y2 x1 x2 x3 ht Hw jI;generalize wp.alloc (.cells #[.int .i64 (qg:Int),.string (E qt),.slice to_ n4 tc] 131)=wi at hQ hq HN HO HP HQ hK z1 z2 he;obtain⟨g8,jr⟩:∃g,wp.heap.size=g:=⟨_,rfl⟩;rw[jr]at hQ ⊢;replace hQ:Blk wi g8 131 [.int .i64 (qg:Int),.string (E qt),.slice to_ n4 tc]:=hQ;clear jr hq;have h8:IRel wi 0 ((imgB q).take 0) ((imgX Z q).take 0) (.slice none 0 0) (.slice none 0 0) wi:=⟨World.ownsRow_nil _ _ _ _,World.ownsRow_nil _ _ _ _,rfl,rfl,fun _=>rfl,fun _=>rfl,Br⟩;go_loopw [9,10,11] (fun v9 v10 i wr=>∃k:Nat,k≤n4∧i=.int .i64 k∧IRel wi k ((imgB q).take k) ((imgX Z q).take k) v9 v10 wr) (fun _ _ i _=>n4-(intOf i).toNat)
   case atStart=>exact⟨0,by omega,rfl,h8⟩
   case round =>
    clear h8;obtain⟨j,hj,rfl,hI⟩:=hrel;obtain⟨wq,jK⟩:∃wq,wq=wr:=⟨_,rfl⟩;subst jK;have js:=HO.after hI.b;have jt:=HP.after hI.b;have hL:=hQ.after hI.b;have jL:=hL.lt;by_cases HR:j<n4
    ·have h9:j<q.trms.length:=by rw[←Hx.out];exact HR
     have hM:=Kh (hW.out.2.2.2 _ (Gm h9));have HS:=Kh (imgB_step q j h9);have HT:=Kh (imgX_step Z q j h9);obtain⟨b,o,rfl,ht,x1,x2,x3,x4⟩:=js.at_ h9;generalize (q.trms[j]'h9)=t at x1 x2 x3 x4 hM HS HT;obtain⟨tb,tvv,tz⟩:=t;simp only[]at x1 x2 x3 x4;have hY:tvv<Z.length:=by rw[HL.out];exact hM.out.2.1
     have j7:tvv<n2:=by rw[ji.out];exact hM.out.2.1
     obtain⟨b',o',rfl,hN,y1,y2⟩:=jt.at_ hY;have HU:=Kh (jh.out _ (Gm hY));have ju:Hid (Z.getD tvv 0=Z[tvv]'hY):=by rw[Hid,List.getD_eq_getElem?_getD,List.getElem?_eq_getElem hY];rfl
     generalize (Z[tvv]'hY)=zz at y1 y2 HU ju;clear hY;have HV:=Kh hM.out.2.2;have HW:=Kh hM.out.1;simp only[]at HV HW
     have Ha:Hid (∀w:World,Calls Tryz.prog 67 #[.agg #[.bool (sg (tz)),.string (E (tz).natAbs)],.agg #[.bool (sg (zz)),.string (E (zz).natAbs)]] w fun e w'=>e=.returned (.tuple #[.agg #[.bool (sg (tz*zz)),.string (E (tz*zz).natAbs)],.int .i64 0])∧Bw w w'):=fun w =>
      rimul_c tz zz w (Nl HV.out (Nat.pow_le_pow_right (show 0<256 by decide) (show 16≤128 by decide))) (lt64 HU.out) (Nl (Nat.mul_lt_mul'' HV.out HU.out) (by rw[←Nat.pow_add];exact Nat.pow_le_pow_right (show 0<256 by decide) (by decide)))
     obtain⟨pz,HX⟩:∃p,p=tz*zz:=⟨_,rfl⟩;have jM:=Kh HX;rw[←HX]at Ha;clear HX;have j8:(0:Int)≤(j:Int):=by omega
     have j9:(j:Int)<(n4:Int):=by omega
     have Ja:(0:Int)≤(tvv:Int):=by omega
     have Jb:(tvv:Int)<(n2:Int):=by omega
     have hC:CA wq [(⟨g8,2,none⟩,.slice (some ⟨b,o,none⟩) n4 tc),(⟨b,o+j*4+1,none⟩,.int .i64 (tvv:Int)),(⟨b,o+j*4+2,none⟩,.bool (sg tz)),(⟨b,o+j*4+3,none⟩,.string (E tz.natAbs)),(⟨b',o'+tvv*2,none⟩,.bool (sg zz)),(⟨b',o'+tvv*2+1,none⟩,.string (E zz.natAbs))]:=CA.cons jL (hL.cell 2) (CA.cons ht x2 (CA.cons ht x3 (CA.cons ht x4 (CA.cons hN y1 (CA.cons hN y2 (CA.nil _))))));have Hb:=fun x hx=>Nat.ne_of_lt (hC x hx).1
     clear js jt x2 x3 x4 y1 y2;obtain⟨hf,hh,hi,hn,ho,hp⟩:=hL.x3;go_upto_region 11 with fail
     clear hf hh hi hn ho hp;go_cut [12,13] (fun s12 s13 wx=>ZBox wq pz s12 s13 wx)
     case first =>
      go_region_held3 (fun w'=>w'.cell? ⟨g8,2,none⟩=some (.slice (some ⟨b,o,none⟩) n4 tc)∧w'.cell? ⟨b,o+j*4+1,none⟩=some (.int .i64 (tvv:Int))∧w'.cell? ⟨b,o+j*4+2,none⟩=some (.bool (sg tz))∧w'.cell? ⟨b,o+j*4+3,none⟩=some (.string (E tz.natAbs))∧w'.cell? ⟨b',o'+tvv*2,none⟩=some (.bool (sg zz))∧w'.cell? ⟨b',o'+tvv*2+1,none⟩=some (.string (E zz.natAbs))) ((refine CA.k6 ?_;repeat (first | (with_reducible exact jN) | (with_reducible exact hC) | (with_reducible refine CA.drew ?_) | (with_reducible refine CA.alloc ?_ _) | (refine CA.set ?_ _ _ _ Hb))))
       ((go_at_call 67;refine (Ha.out _).mono ?_;rintro e wf ⟨rfl,hR⟩;have jN:CA wf [(⟨g8,2,none⟩,.slice (some ⟨b,o,none⟩) n4 tc),(⟨b,o+j*4+1,none⟩,.int .i64 (tvv:Int)),(⟨b,o+j*4+2,none⟩,.bool (sg tz)),(⟨b,o+j*4+3,none⟩,.string (E tz.natAbs)),(⟨b',o'+tvv*2,none⟩,.bool (sg zz)),(⟨b',o'+tvv*2+1,none⟩,.string (E zz.natAbs))]:=(by first | exact hC.drew.after hR | exact (hC.alloc _).drew.after hR | exact (hC.drew.alloc _).after hR);(try (have kA:=(Blk.new wq #[.bool false,.string { data:=#[] }] 74).drew.after hR;have kA0:=kA.cell 0;have kA1:=kA.cell 1;have kA2:=kA.free 0;have kA3:=kA.free 1))))
      all_goals
       go_wp2_with fail
       go_meet
       first
        | exact⟨_,rfl,rfl,Blk.new _ _ _,hR.size,ba ((Below.drew Br).trans hR) _⟩
        | exact⟨_,rfl,rfl,(kA.set 0 _).set 1 _,Nat.le_refl _,((bt ((b1 wq _).drew) hR).setCell (by simp) _).setCell (by simp) _⟩
     case rest =>
      obtain⟨gx,rfl,rfl,hX,Jc,Hy⟩:=hcut;obtain⟨wx,jO⟩:∃wx,wx=wc:=⟨_,rfl⟩;subst jO;have jP:∀g,u10.ownBlock=some g→g<wq.heap.size:=fun g hg=>(own_lt hI.z hg).1
      have Hz:=hL.after Hy;have x1':=(Hy.cell (p:=⟨b,o+j*4,none⟩) ht).trans x1;have jQ:=Nl ht Hy.size;have hE:=hI.after Hy;have hF:wx.ownsRow wi.heap.size 22 1 u9 j (strs ((imgB q).take j)):=by have h:wx.ownsRow _ _ _ _ _ _:=hE.a;rw[hE.la]at h;exact h
      have HY:wx.ownsRow wi.heap.size 74 2 u10 j (ics (((imgX Z q).take j).map zI)):=by have h:wx.ownsRow _ _ _ _ _ _:=hE.z;rw[hE.lz]at h;exact h
      have jv:=hE.b;have Jd:=jv.size;have HZ:=Kh hE.la;have H0:=Kh hE.lz;clear hE hI hC Hb hL x1 ht hN;generalize (imgB q).take j=LB at hF HS HZ;generalize (imgX Z q).take j=LX at HY HT H0;have jR:=Hz.lt;have Je:=fun g hg=>(own_lt hF (g:=g) hg)
      obtain⟨Hc,Hd,He,Hf,Hg,Hh⟩:=Hz.x3;go_wp2_with (first | (at_builtin;refine wpList_append_lies _ rfl (.tmp 57) (.tmp 64) _ rfl wi.heap.size 22 i0 _ 1 16 Tryz.underlying31 jd.out je.out jf.out jg.out rfl (by omega) u9 j (strs LB) rfl (own_after hF (b1 _ (.cells #[.string (E tb)] 22))) ⟨wx.heap.size,0,none⟩ 1 1 [.string (E tb)] rfl rfl (Blk.new wx #[.string (E tb)] 22).cells (by simp[Value.oneCell']) (by omega) (by simp only[maxLen];omega) (by omega) (by rw[World.size_alloc];omega) (wx.heap.size+1) (by simp) ?_;intro ga ca wa hG hb H1 H2;clear H1 H2;have HA:=(hX.alloc (.cells #[.string (E tb)] 22)).grown hb (own_ne hF hX (by decide));have jS:=HA.lt;have jT:=HA.cell 0;have jU:=HA.cell 1;have hr:wa.ownsRow wi.heap.size 74 2 u10 j (ics (LX.map zI)):=own_grown (own_after HY (b1 _ (.cells #[.string (E tb)] 22))) (own_after hF (b1 _ (.cells #[.string (E tb)] 22))) (by decide) hb;have jV:=(Hz.alloc (.cells #[.string (E tb)] 22)).grown hb (own_ne hF Hz (by decide));have H3:Bw wi wa:=Below.grown (Below.alloc jv (by omega) _) hb (by simp;omega) (fun g hg=>(own_lt hF hg).2);have Jf:=H3.size) | (at_builtin;refine wpList_append_lies _ rfl (.tmp 66) (.tmp 68) _ rfl wi.heap.size 74 i1 _ 2 24 Tryz.underlying30 jB.out jC.out jD.out jE.out rfl (by omega) u10 j (ics (LX.map zI)) rfl (own_after hr (b1 _ (.cells #[.bool (sg pz),.string (E pz.natAbs)] 74))) ⟨wa.heap.size,0,none⟩ 1 1 [.bool (sg pz),.string (E pz.natAbs)] rfl rfl (Blk.new wa #[.bool (sg pz),.string (E pz.natAbs)] 74).cells (by simp[Value.oneCell']) (by omega) (by simp only[maxLen];omega) (by omega) (by rw[World.size_alloc];omega) (wa.heap.size+1) (by simp) ?_;intro gb cb wb hH hd H4 H5;clear H4 H5;have jw:wb.ownsRow wi.heap.size 22 1 (.slice (some ⟨ga,0,none⟩) (j+1) ca) (j+1) (strs LB++[.string (E tb)]):=own_grown (own_after hG (b1 _ (.cells #[.bool (sg pz),.string (E pz.natAbs)] 74))) (own_after hr (b1 _ (.cells #[.bool (sg pz),.string (E pz.natAbs)] 74))) (by decide) hd;have jx:Bw wi wb:=Below.grown (Below.alloc H3 (by omega) _) hd (by simp;omega) (fun g hg=>(own_lt hr hg).2)))
      clear Hc Hd He Hf Hg Hh
      have h8:IRel wi (j+1) (LB++[tb]) (LX++[pz]) (.slice (some ⟨ga,0,none⟩) (j+1) ca) (.slice (some ⟨gb,0,none⟩) (j+1) cb) wb:=by
       refine⟨?_,?_,by simp[HZ.out],by simp[H0.out],fun h=>by omega,fun h=>by omega,jx⟩
       ·rw[NOwn,List.length_append,HZ.out,←strs_app];exact jw
       ·rw[ZOwn,List.length_append,H0.out,←ics_app];exact hH
      rw[←HS.out,jM.out,←ju.out,←HT.out]at h8;clear jw hH hG H3 jx hb hd hr HA jV hF HY;go_wp2;go_roundw
      case rel=>exact⟨j+1,by omega,by go_num,h8⟩
      case measure=>simp[intOf];omega
    ·have HW:Hid ((imgB q).take j=imgB q):=List.take_of_length_le (by have:=Hx.out;simp[imgB];omega);have jW:Hid ((imgX Z q).take j=imgX Z q):=List.take_of_length_le (by have:=Hx.out;simp[imgX];omega);rw[HW.out,jW.out]at hI;have H6:=HN.after hI.b;have jy:=own_after HQ hI.b;have Hi:=bt hK hI.b;have t1:=(hI.b.cell (p:=⟨bg,og_+qg*2,none⟩) he).trans z1;have t2:=(hI.b.cell (p:=⟨bg,og_+qg*2+1,none⟩) he).trans z2;have jX:=Nl he hI.b.size;have jY:=H6.lt
     have jz:Hid (Calls Tryz.prog 169 #[.agg #[.string (E p),.string (E qq)],u9,u10] wq fun e w'=>e=.returned (.tuple #[.string (E (imgV N Z q)),.int .i64 0])∧Bw wq w'):=by
      rw[jo.out];exact rproduct_c p qq (imgB q) (imgX Z q) u9 u10 wq HJ.out.1 (lt128 HJ.out.2) Hv.out.1 (by simp[imgB,imgX]) (by have:=hW.out.2.2.1;simp[imgB];omega) Hv.out.2.2 jl.out hI.a.ss hI.z.zs
     clear hI HN HQ hK z1 z2 he HO HP;obtain⟨Hj,Hk,Hl,Hm,Hn,Ho⟩:=H6.x3;obtain⟨hf,hh,hi,hn,ho,hp⟩:=hL.x3;go_wp2_with fail
     refine jz.out.mono ?_;rintro e w3 ⟨rfl,H7⟩;clear Hj Hk Hl Hm Hn Ho;clear hf hh hi hn ho hp;have Hp:=own_after jy H7;have hT:=bt Hi H7;have H8:Hid (((N.imgs Z).take k).length=k):=by rw[Hid,List.length_take,NSta.imgs,List.length_map];omega
     rw[H8.out]at Hp;clear jz H7 jy Hi H6 hL hQ;have jZ:=hT.size;have H9:=Kh jm.out;generalize imgV N Z q=iv at H9 ⊢;generalize (N.imgs Z).take k=LI at Hp H9 H8;go_wp2_with (at_builtin;refine wpList_append_lies _ rfl (.tmp 82) (.tmp 84) _ rfl w1.heap.size 22 i0 _ 1 16 Tryz.underlying31 jd.out je.out jf.out jg.out rfl (by omega) u6 k (strs LI) rfl (own_after Hp (b1 _ (.cells #[.string (E iv)] 22))) ⟨w3.heap.size,0,none⟩ 1 1 [.string (E iv)] rfl rfl (Blk.new w3 #[.string (E iv)] 22).cells (by simp[Value.oneCell']) (by omega) (by simp only[maxLen];omega) (by omega) (by rw[World.size_alloc];omega) (w3.heap.size+1) (by simp) ?_;intro ga ca wa Hq hJ j0 ja)
     have jA:NOwn wa w1.heap.size (.slice (some ⟨ga,0,none⟩) (k+1) ca) (LI++[iv]):=by rw[NOwn,List.length_append,H8.out,←strs_app];exact Hq
     rw[←H9.out]at jA;have j1:=(ba hT (.cells #[.string (E iv)] 22)).grown hJ (by rw[World.size_alloc];omega) (fun x hx=>(own_lt Hp hx).2);clear Hq hJ j0 ja Hp hT;go_wp2;go_roundw
     case rel=>exact⟨k+1,by omega,by go_num,jA,j1⟩
     case measure=>simp[intOf];omega
  ·have hM:Hid ((N.imgs Z).take k=N.imgs Z):=List.take_of_length_le (by rw[NSta.imgs,List.length_map,←jj.out];omega);rw[hM.out]at hO;have j2:=Hu.size;obtain⟨hv,hw,hy,hA,hB,hD⟩:=h6.x3;go_wp2;go_ret2
   exact⟨_,rfl,own_mono hO j2,HI⟩
theorem rImages_c (N:NSta) (Z:List Int) (v1 v2 v3 v4:Value) (w:World) (hm:NOk N) (hS:NAt w v1 v2 v3 N) (hZ:ZsAt w v4 Z) (hz:∀z∈Z,z.natAbs<256^64) (hl:Z.length=N.vars.length) (hc:N.chk=0) :
  Calls Tryz.prog 189 #[.agg #[v1,v2,v3],v4] w (LPost w (N.imgs Z)):=by
 obtain⟨a4,c4,rfl⟩:=hZ.form;have hb:=b1 w (.cells #[v1,v2,v3] 29);have he:=Kh (rcheck15_c N Z v1 v2 v3 _ _ hm (hS.after hb) (hZ.after hb) (fun z h=>lt64 (hz z h)) hl hc);have hd:Hid (∀w',Bw w w'→Calls Tryz.prog 161 #[.agg #[v1,v2,v3],.slice a4 Z.length c4] w' (LPost w' (N.imgs Z))):=fun w' hp=>rimages_c N Z v1 v2 v3 _ w' hm (hS.after hp) (hZ.after hp) hz hl hc
 have hP:=Blk.new w #[v1,v2,v3] 29;obtain⟨a1,c1,a2,c2,a3,c3,rfl,rfl,rfl⟩:=hS.forms;generalize Z.length=n at he hd;generalize N.imgs Z=L at hd;generalize N.grps.length=n1 at hP hb he hd;generalize N.vars.length=n2 at hP hb he hd;generalize N.eqs.length=n3 at hP hb he hd;clear hm hS hZ hz hl hc;obtain⟨hf,hg,hh,hi,hj,hk⟩:=hP.x3;go_enter Tryz.func189,Tryz.ntmps189
 go_wp2_with fail
 refine he.out.mono ?_;rintro e w2 ⟨rfl,hn⟩;clear hf hg hh hi hj hk;replace hP:=hP.after hn;have ho:=bt hb hn;have hr:=hP.lt;clear hn;obtain⟨hf,hg,hh,hi,hj,hk⟩:=hP.x3;go_wp2_with fail
 refine (hd.out _ ho).mono ?_;rintro e w3 ⟨v,rfl,hO,hq⟩;go_wp2;go_ret2
 exact⟨v,rfl,own_mono hO ho.size,bt ho hq⟩
end
section
open Go.RowKit Go.Shelf
def kdN (b:Nat):Nat:=if b=0 then 0 else 1
theorem kind_c (b:Nat) (w:World):Calls Tryz.prog 179 #[.agg #[.string (E b)]] w fun e w'=>e=.returned (.int .i64 (kdN b:Nat))∧Bw w w':=by
 rcases Nat.eq_zero_or_pos b with rfl | h0
 ·have hz:=zE (n:=0) rfl;go_enter Tryz.func179,Tryz.ntmps179
  go_wp2;go_ret
  exact⟨rfl,b1 _ _⟩
 ·have hz:=nzE h0;have HK:Hid (kdN b=1):=if_neg (by omega);clear h0;go_enter Tryz.func179,Tryz.ntmps179
  go_wp2;go_ret
  exact⟨by rw[HK.out];rfl,b1 _ _⟩
theorem kindV_c (b k:Nat) (w:World) (h:kdN b=k):Calls Tryz.prog 179 #[.agg #[.string (E b)]] w fun e w'=>e=.returned (.int .i64 k)∧Bw w w':=by rw[←h];exact kind_c b w
theorem modular_c (C K q b:ByteArray) (w:World):Calls Tryz.prog 180 #[.agg #[.string C,.string K,.string q],.string b] w fun e w'=>e=.returned (.tuple #[.agg #[.string q,.string q],.int .i64 0])∧Bw w w':=by
 obtain⟨hA,hB,hb⟩:=blk2 w #[Value.string C,Value.string K,Value.string q] #[.string { data:=#[] },.string { data:=#[] }] 224 165;go_enter Tryz.func180,Tryz.ntmps180
 go_wp2;refine bodyPost_ret (v:=.tuple #[.agg #[.string q,.string q],.int .i64 0]) ?_ rfl ⟨rfl,?_⟩
 ·simp[results,Tryz.results180,go_sem]
 ·first | exact b2 _ _ _ | exact (hb.setCell (by simp) _).setCell (by simp) _
theorem mul_cb {C K b:Nat} (h1:1≤K):(C-1)*(b-1)≤K*C*b:=by
 refine Nat.le_trans (Nat.mul_le_mul (Nat.sub_le C 1) (Nat.sub_le b 1)) ?_;exact Nat.mul_le_mul_right _ (Nat.le_mul_of_pos_left _ h1)
theorem lt_mul3 {C K b:Nat} (hC:C<256^16) (hK:K<256^16) (hb:b<256^16):K*C<256^32∧K*C*b<256^48:=by
 have h1:K*C<256^32:=by
  have:=Nat.mul_lt_mul'' hK hC;rwa [←Nat.pow_add]at this
 have h2:K*C*b<256^48:=by
  have:=Nat.mul_lt_mul'' h1 hb;rwa [←Nat.pow_add]at this
 exact⟨h1,h2⟩
theorem lt128' {n k:Nat} (h:n<256^k) (hk:k≤128):n<256^128:=Nl h (Nat.pow_le_pow_right (by decide) hk)
theorem mulV_c (a b r:Nat) (w:World) (ha:a<256^128) (hb:b<256^128) (h:r<256^128) (hr:a*b=r) :
  Calls Tryz.prog 211 #[.string (E a),.string (E b)] w fun e w'=>e=.returned (.tuple #[.string (E r),.int .i64 0])∧Bw w w':=by
 rw[←hr];exact mul_c a b w ha hb (by rw[hr];exact h)
theorem subV_c (a b r:Nat) (w:World) (ha:a<256^128) (hb:b≤a) (hr:a-b=r) :
  Calls Tryz.prog 195 #[.string (E a),.string (E b)] w fun e w'=>e=.returned (.tuple #[.string (E r),.int .i64 0])∧Bw w w':=by
 rw[←hr];exact sub_c a b w ha hb
theorem integral_c (C K q b:Nat) (w:World) (hC:C<256^16) (hK:K<256^16) (hb:b<256^16) (h1:1≤C) (h2:1≤K) (h3:1≤b) :
  Calls Tryz.prog 181 #[.agg #[.string (E C),.string (E K),.string (E q)],.string (E b)] w fun e w'=>e=.returned (.tuple #[.agg #[.string (E (K*C*b)),.string (E (K*C*b-(C-1)*(b-1)))],.int .i64 0])∧Bw w w':=by
 obtain⟨hm,hd⟩:=lt_mul3 hC hK hb;have hn:=mul_cb (C:=C) (b:=b) h2;obtain⟨m1,hl⟩:∃m,m=K*C:=⟨_,rfl⟩;obtain⟨m2,ho⟩:∃m,m=m1*b:=⟨_,rfl⟩;obtain⟨c1,hu⟩:∃m,m=C-1:=⟨_,rfl⟩;obtain⟨d1,hv⟩:∃m,m=b-1:=⟨_,rfl⟩;obtain⟨e1,hw⟩:∃m,m=c1*d1:=⟨_,rfl⟩;obtain⟨t,ht⟩:∃m,m=m2-e1:=⟨_,rfl⟩;rw[←hl,←ho]at hd;rw[←hl]at hm;rw[←hu,←hv,←hl,←ho,←hw]at hn ⊢;rw[←ht];have HO:=Kh (fun w=>ofK_c 1 1 w rfl (by decide));have H1:=Kh (fun w=>mulV_c K C m1 w (lt128' hK (by decide)) (lt128' hC (by decide)) (lt128' hm (by decide)) hl.symm);have H2:=Kh (fun w=>mulV_c m1 b m2 w (lt128' hm (by decide)) (lt128' hb (by decide)) (lt128' hd (by decide)) ho.symm);have H3:=Kh (fun w=>subV_c C 1 c1 w (lt128' hC (by decide)) h1 hu.symm);have H4:=Kh (fun w=>subV_c b 1 d1 w (lt128' hb (by decide)) h3 hv.symm);have he:e1<256^128:=Nat.lt_of_le_of_lt hn (lt128' hd (by decide));have H5:=Kh (fun w=>mulV_c c1 d1 e1 w (by have:=lt128' hC (by decide);omega) (by have:=lt128' hb (show 16≤128 by decide);omega) he hw.symm);have H6:=Kh (fun w=>subV_c m2 e1 t w (lt128' hd (by decide)) hn ht.symm);obtain⟨hA,hB,hc⟩:=blk2 w #[Value.string (E C),Value.string (E K),Value.string (E q)] #[.string { data:=#[] },.string { data:=#[] }] 224 165;clear hC hK hb h1 h2 h3 hm hd hn hl ho hu hv hw ht he;go_enter Tryz.func181,Tryz.ntmps181
 go_wp2_with fail
 refine (HO.out _).mono ?_;rintro e w1 ⟨rfl,hp⟩;replace hA:=hA.after hp;replace hB:=hB.after hp;replace hc:=bt hc hp;clear hp;obtain⟨hf,hg,hh,hi,hj,hk⟩:=hA.x3;go_wp2_with fail
 refine (H1.out _).mono ?_;rintro e w2 ⟨rfl,hq⟩;clear hf hg hh hi hj hk;replace hA:=hA.after hq;replace hB:=hB.after hq;replace hc:=bt hc hq;clear hq;go_wp2_with fail
 refine (H2.out _).mono ?_;rintro e w3 ⟨rfl,hr⟩;replace hA:=hA.after hr;replace hB:=hB.after hr;replace hc:=bt hc hr;clear hr;obtain⟨hf,hg,hh,hi,hj,hk⟩:=hA.x3;go_wp2_with fail
 refine (H3.out _).mono ?_;rintro e w4 ⟨rfl,hb4⟩;clear hf hg hh hi hj hk;replace hB:=hB.after hb4;replace hc:=bt hc hb4;clear hb4;go_wp2_with fail
 refine (H4.out _).mono ?_;rintro e w5 ⟨rfl,hx⟩;replace hB:=hB.after hx;replace hc:=bt hc hx;clear hx;go_wp2_with fail
 refine (H5.out _).mono ?_;rintro e w6 ⟨rfl,hy⟩;replace hB:=hB.after hy;replace hc:=bt hc hy;clear hy;go_wp2_with fail
 refine (H6.out _).mono ?_;rintro e w7 ⟨rfl,hz⟩;replace hB:=hB.after hz;replace hc:=bt hc hz;clear hz;have hF:=hB.lt;obtain⟨hD,hG,hE,hH⟩:=hB.x2;go_wp2;refine bodyPost_ret (v:=.tuple #[.agg #[.string (E m2),.string (E t)],.int .i64 0]) ?_ rfl ⟨rfl,?_⟩
 ·simp[results,Tryz.results181,go_sem,hD,hE,hF]
 ·first | exact b2 _ _ _ | exact (hc.setCell (by simp) _).setCell (by simp) _
def blw (b:Nat) (x:Int) (l:Nat):Bool:=decide (x.natAbs<l)&&(!(vz b) || !(sg x))
theorem blw_ge {b l:Nat} {x:Int} (h:l≤x.natAbs):blw b x l=false:=by unfold blw;rw[decide_eq_false (by omega)];rfl
theorem blw_pos {b l:Nat} {x:Int} (h:x.natAbs<l) (hb:0<b):blw b x l=true:=by unfold blw;rw[Dt h,vz_pos hb];rfl
theorem blw_zero {l:Nat} {x:Int} (h:x.natAbs<l):blw 0 x l=!(sg x):=by unfold blw;rw[Dt h];rfl
theorem below_c (b:Nat) (x:Int) (l:Nat) (w:World) (hx:x.natAbs<256^128) (hl:l<256^128) :
  Calls Tryz.prog 106 #[.agg #[.string (E b)],.agg #[.bool (sg (x)),.string (E (x).natAbs)],.string (E l)] w fun e w'=>e=.returned (.bool (blw b x l))∧Bw w w':=by
 have HX:=Kh hx;have HL:=Kh hl;obtain⟨hA,hB,hb⟩:=blk2 w #[Value.string (E b)] #[.bool (sg x),.string (E x.natAbs)] 71 74;clear hx hl;rcases Nat.lt_or_ge x.natAbs l with hlt | he
 ·have hc:=cmp_neg _ _ hlt;have hj:=Kh hlt;clear hlt;rcases Nat.eq_zero_or_pos b with rfl | h0
  ·have HK:=Kh (fun w=>kindV_c 0 0 w rfl);have HF:=Kh (blw_zero hj.out);go_enter Tryz.func106,Tryz.ntmps106
   go_wp2_with fail
   refine (cmp_c _ _ _ HX.out HL.out).mono ?_;rintro e w' ⟨rfl,rfl⟩;go_wp2_with fail
   refine (HK.out _).mono ?_;rintro e w1 ⟨rfl,hd⟩;replace hB:=hB.after hd;replace hb:=bt hb hd;clear hd;have hk:=hB.lt;obtain⟨hf,hg,hh,hi⟩:=hB.x2;go_wp2;go_ret
   exact⟨by rw[HF.out];rfl,hb⟩
  ·have HK:=Kh (fun w=>kindV_c b 1 w (if_neg (by omega)));have HF:=Kh (blw_pos hj.out h0);clear h0;go_enter Tryz.func106,Tryz.ntmps106
   go_wp2_with fail
   refine (cmp_c _ _ _ HX.out HL.out).mono ?_;rintro e w' ⟨rfl,rfl⟩;go_wp2_with fail
   refine (HK.out _).mono ?_;rintro e w1 ⟨rfl,hd⟩;replace hB:=hB.after hd;replace hb:=bt hb hd;clear hd;have hk:=hB.lt;obtain⟨hf,hg,hh,hi⟩:=hB.x2;go_wp2;go_ret
   exact⟨by rw[HF.out];rfl,hb⟩
 ·have hc:=cmp_nneg _ _ he;have HF:=Kh (blw_ge (b:=b) he);clear he;go_enter Tryz.func106,Tryz.ntmps106
  go_wp2_with fail
  refine (cmp_c _ _ _ HX.out HL.out).mono ?_;rintro e w' ⟨rfl,rfl⟩;go_wp2;go_ret
  exact⟨by rw[HF.out];rfl,hb⟩
theorem rbelow_c (N:NSta) (v1 v2 v3:Value) (j:Nat) (x:Int) (l:Nat) (w:World) (hm:NOk N) (hS:NAt w v1 v2 v3 N) (hj:j<N.vars.length) (hx:x.natAbs<256^128) (hl:l<256^128) :
  Calls Tryz.prog 188 #[.agg #[v1,v2,v3],.int .i64 (j:Int),.agg #[.bool (sg (x)),.string (E (x).natAbs)],.string (E l)] w fun e w'=>e=.returned (.bool (blw (N.vars[j]'hj) x l))∧Bw w w':=by
 have HX:=Kh (szM hx);have HL:=Kh (szM hl);obtain⟨b,hb⟩:∃b,b=N.vars[j]'hj:=⟨_,rfl⟩;rw[←hb];have hC:=Kh hb;have HJ:=Kh hj;clear hx hl hb;obtain⟨a1,c1,a2,c2,a3,c3,rfl,rfl,rfl⟩:=hS.forms;obtain⟨n1,hn⟩:∃n,n=N.grps.length:=⟨_,rfl⟩;obtain⟨n2,ho⟩:∃n,n=N.vars.length:=⟨_,rfl⟩;obtain⟨n3,hp⟩:∃n,n=N.eqs.length:=⟨_,rfl⟩;have hH:=Kh hn;have hE:=Kh ho;have hI:=Kh hp;have l1:n1≤10:=by rw[hn];exact hm.ng
 have l2:n2≤12:=by rw[ho];exact hm.nv
 have l3:n3≤12:=by rw[hp];exact hm.ne
 have HM:=Kh hm;rw[←hn,←ho,←hp]at hS ⊢;clear hm hn ho hp;obtain⟨hP,hB,hi⟩:=blk2 w #[.slice a1 n1 c1,.slice a2 n2 c2,.slice a3 n3 c3] #[.bool (sg x),.string (E x.natAbs)] 29 74;replace hS:=hS.after hi;obtain⟨bv,ov,rfl,hk,y1⟩:=hS.vat HJ.out;rw[←hC.out]at y1;have hJ:(0:Int)≤(j:Int):=by omega
 have hK:(j:Int)<(n2:Int):=by rw[hE.out];omega
 clear hC hj;rcases Nat.lt_or_ge x.natAbs l with hlt | hq
 ·have hc:=cmp_neg _ _ hlt;have hD:=Kh hlt;clear hlt;rcases Nat.eq_zero_or_pos b with rfl | h0
  ·have hz:=zE (n:=0) rfl;have HF:=Kh (blw_zero hD.out);obtain⟨he,hf,hg,hh⟩:=hB.x2;go_enter Tryz.func188,Tryz.ntmps188
   go_wp2_with fail
   refine (rorder_c _ _ _ HX.out HL.out).mono ?_;rintro e w1 ⟨rfl,hd⟩;clear he hf hg hh;have y2:=(hd.cell (p:=⟨bv,ov+j,none⟩) hk).trans y1;have hr:=Nl hk hd.size;replace hB:=hB.after hd;replace hP:=hP.after hd;replace hi:=bt hi hd;clear hd y1 hk;have hF:=hB.lt;have hG:=hP.lt;obtain⟨he,hf,hg,hh⟩:=hB.x2;obtain⟨ht,hu,hv,hw,hy,hA⟩:=hP.x3;go_wp2;go_ret
   exact⟨by rw[HF.out];rfl,hi⟩
  ·have hz:=nzE h0;have HF:=Kh (blw_pos hD.out h0);clear h0;obtain⟨he,hf,hg,hh⟩:=hB.x2;go_enter Tryz.func188,Tryz.ntmps188
   go_wp2_with fail
   refine (rorder_c _ _ _ HX.out HL.out).mono ?_;rintro e w1 ⟨rfl,hd⟩;clear he hf hg hh;have y2:=(hd.cell (p:=⟨bv,ov+j,none⟩) hk).trans y1;have hr:=Nl hk hd.size;replace hB:=hB.after hd;replace hP:=hP.after hd;replace hi:=bt hi hd;clear hd y1 hk;have hF:=hB.lt;have hG:=hP.lt;obtain⟨he,hf,hg,hh⟩:=hB.x2;obtain⟨ht,hu,hv,hw,hy,hA⟩:=hP.x3;go_wp2;go_ret
   exact⟨by rw[HF.out];rfl,hi⟩
 ·have hc:=cmp_nneg _ _ hq;have HF:=Kh (blw_ge (b:=b) hq);clear hq;obtain⟨he,hf,hg,hh⟩:=hB.x2;go_enter Tryz.func188,Tryz.ntmps188
  go_wp2_with fail
  refine (rorder_c _ _ _ HX.out HL.out).mono ?_;rintro e w1 ⟨rfl,hd⟩;go_wp2;go_ret
  exact⟨by rw[HF.out];rfl,bt hi hd⟩
theorem svalid_c (l:List (Bool × ByteArray)) (v:Value) (w:World) (hn:l.length≤1000) (hs:∀x∈l,x.2.size≤1000) (hR:IsAt w v l) :
  Calls Tryz.prog 78 #[v] w fun e w'=>e=.returned (.bool (l.all fun x=>ivB x.1 x.2))∧Bw w w':=by
 obtain⟨r,hr⟩:∃r:Bool,r=l.all fun x=>ivB x.1 x.2:=⟨_,rfl⟩
 have hd:=Kh hr;rw[←hr];clear hr;obtain⟨ao,c,rfl⟩:=RAt.form hR;obtain⟨n,hf⟩:∃n,n=l.length:=⟨_,rfl⟩;have HN:=Kh hf;have HS:=Kh hs;rw[←hf]at hR hn ⊢;clear hf hs;go_enter Tryz.func78,Tryz.ntmps78
 go_wp2;go_loopw [7] (fun i wr=>∃k:Nat,k≤n∧i=.int .i64 k∧Hid ((l.take k).all (fun x=>ivB x.1 x.2)=true)∧Bw w wr) (fun i _=>n-(intOf i).toNat)
 case atStart=>exact⟨0,by omega,rfl,rfl,Br⟩
 case round =>
  obtain⟨k,hk,rfl,HA,he⟩:=hrel;obtain⟨wp,hi⟩:∃wp,wp=wr:=⟨_,rfl⟩;subst hi;replace hR:=IsAt.after hR he;by_cases hlt:k<n
  ·have hc:k<l.length:=by rw[←HN.out];exact hlt
   have HT:=Kh (all_take (fun x:Bool × ByteArray=>ivB x.1 x.2) l k hc);have hb:Hid (ivB (l[k]'hc).1 (l[k]'hc).2=false→r=false):=fun h=>by rw[hd.out];exact all_bad (fun x:Bool × ByteArray=>ivB x.1 x.2) l k hc h
   have hg:=Kh (HS.out _ (Gm hc));obtain⟨b,o,rfl,hj,x1,x2⟩:=IsAt.at_ hR hc;generalize (l[k]'hc)=x at x1 x2 HT hb hg;obtain⟨y1,y2⟩:=x;simp only[]at x1 x2;have hl:(0:Int)≤(k:Int):=by omega
   have hm:(k:Int)<(n:Int):=by omega
   clear hR;cases hv:ivB y1 y2
   ·have HF:Hid (r=false):=hb.out hv;have HV:=Kh hv;clear hv HT hb;go_wp2_with fail
    refine (ivalB_c y1 y2 false _ hg.out HV.out).mono ?_;rintro e w2 ⟨rfl,hh⟩;go_wp2;go_ret
    exact⟨by rw[HF.out];rfl,bt (ba he _) hh⟩
   ·have HX:Hid ((l.take (k+1)).all (fun x=>ivB x.1 x.2)=true):=by rw[Hid,HT.out,HA.out];exact hv
    have HV:=Kh hv;clear hv HT hb;go_wp2_with fail
    refine (ivalB_c y1 y2 true _ hg.out HV.out).mono ?_;rintro e w2 ⟨rfl,hh⟩;go_wp2;go_roundw
    case rel=>exact⟨k+1,by omega,by go_num,HX,bt (ba he _) hh⟩
    case measure=>simp[intOf];omega
  ·have HF:Hid (r=true):=by rw[Hid,hd.out];exact all_end _ l k (by rw[←HN.out];omega) HA.out
   go_wp2;go_ret
   exact⟨by rw[HF.out];rfl,he⟩
theorem rformed16_c (l:List (Bool × ByteArray)) (v:Value) (w:World) (hn:l.length≤1000) (hs:∀x∈l,x.2.size≤1000) (hR:IsAt w v l) :
  Calls Tryz.prog 85 #[v] w fun e w'=>e=.returned (.bool (l.all fun x=>ivB x.1 x.2))∧Bw w w':=by
 obtain⟨r,hr⟩:∃r:Bool,r=l.all fun x=>ivB x.1 x.2:=⟨_,rfl⟩
 have hd:=Kh hr;rw[←hr];clear hr;obtain⟨ao,c,rfl⟩:=RAt.form hR;obtain⟨n,hf⟩:∃n,n=l.length:=⟨_,rfl⟩;have HN:=Kh hf;have HS:=Kh hs;rw[←hf]at hR hn ⊢;clear hf hs;go_enter Tryz.func85,Tryz.ntmps85
 go_wp2;go_loopw [3] (fun i wr=>∃k:Nat,k≤n∧i=.int .i64 k∧Hid ((l.take k).all (fun x=>ivB x.1 x.2)=true)∧Bw w wr) (fun i _=>n-(intOf i).toNat)
 case atStart=>exact⟨0,by omega,rfl,rfl,Br⟩
 case round =>
  obtain⟨k,hk,rfl,HA,he⟩:=hrel;obtain⟨wp,hi⟩:∃wp,wp=wr:=⟨_,rfl⟩;subst hi;replace hR:=IsAt.after hR he;by_cases hlt:k<n
  ·have hc:k<l.length:=by rw[←HN.out];exact hlt
   have HT:=Kh (all_take (fun x:Bool × ByteArray=>ivB x.1 x.2) l k hc);have hb:Hid (ivB (l[k]'hc).1 (l[k]'hc).2=false→r=false):=fun h=>by rw[hd.out];exact all_bad (fun x:Bool × ByteArray=>ivB x.1 x.2) l k hc h
   have hg:=Kh (HS.out _ (Gm hc));obtain⟨b,o,rfl,hj,x1,x2⟩:=IsAt.at_ hR hc;generalize (l[k]'hc)=x at x1 x2 HT hb hg;obtain⟨y1,y2⟩:=x;simp only[]at x1 x2;have hl:(0:Int)≤(k:Int):=by omega
   have hm:(k:Int)<(n:Int):=by omega
   clear hR;cases hv:ivB y1 y2
   ·have HF:Hid (r=false):=hb.out hv;have HV:=Kh hv;clear hv HT hb;go_wp2_with fail
    refine (rivalB_c y1 y2 false _ hg.out HV.out).mono ?_;rintro e w2 ⟨rfl,hh⟩;go_wp2;go_ret
    exact⟨by rw[HF.out];rfl,bt (he) hh⟩
   ·have HX:Hid ((l.take (k+1)).all (fun x=>ivB x.1 x.2)=true):=by rw[Hid,HT.out,HA.out];exact hv
    have HV:=Kh hv;clear hv HT hb;go_wp2_with fail
    refine (rivalB_c y1 y2 true _ hg.out HV.out).mono ?_;rintro e w2 ⟨rfl,hh⟩;go_wp2;go_roundw
    case rel=>exact⟨k+1,by omega,by go_num,HX,bt (he) hh⟩
    case measure=>simp[intOf];omega
  ·have HF:Hid (r=true):=by rw[Hid,hd.out];exact all_end _ l k (by rw[←HN.out];omega) HA.out
   go_wp2;go_ret
   exact⟨by rw[HF.out];rfl,he⟩
end
section
open Go.RowKit Go.Shelf
def lim (q C K b:Nat):Nat × Nat:=if b=0 then (q,q) else (K*C*b,K*C*b-(C-1)*(b-1))
def NSta.lims (N:NSta) (C K:Nat):List (Nat × Nat):=N.vars.map (lim N.ord C K)
def lcs (L:List (Nat × Nat)):List Value:=L.flatMap fun x=>[.string (E x.1),.string (E x.2)]
theorem lcs_app (a b:List (Nat × Nat)):lcs a++lcs b=lcs (a++b):=by simp[lcs]
theorem lcs_get (L:List (Nat × Nat)) (j:Nat) (h:j<L.length):(lcs L)[j*2]?=some (.string (E L[j].1))∧(lcs L)[j*2+1]?=some (.string (E L[j].2)):=by
 induction L generalizing j with
 | nil=>simp at h
 | cons x t ih =>
  cases j with
  | zero=>exact⟨rfl,rfl⟩
  | succ j =>
   have h':j<t.length:=by simpa using h
   have:=ih j h';rw[show (j+1)*2=j*2+2 by omega];simpa [lcs] using this
def LmOwn (w:World) (base:Nat) (v:Value) (L:List (Nat × Nat)):Prop:=w.ownsRow base 165 2 v L.length (lcs L)
theorem LmOwn.after {w w':World} {base:Nat} {v:Value} {L:List (Nat × Nat)} (h:LmOwn w base v L) (hb:Bw w w'):LmOwn w' base v L:=own_after h hb
theorem LmOwn.form {w:World} {base:Nat} {v:Value} {L:List (Nat × Nat)} (h:LmOwn w base v L):∃ao c,v=.slice ao L.length c:=by
 have k:w.ownsRow base 165 2 v L.length (lcs L):=h;rcases k.2 with⟨rfl,h2⟩ | ⟨g,cap,cur,rfl,_⟩
 ·exact⟨none,0,by rw[h2]⟩
 ·exact⟨_,_,rfl⟩
theorem LmOwn.at_ {w:World} {base n c:Nat} {ao:Option Addr} {L:List (Nat × Nat)} (h:LmOwn w base (.slice ao n c) L) {j:Nat} (hj:j<L.length) :
  ∃b,ao=some ⟨b,0,none⟩∧b<w.heap.size∧w.cell? ⟨b,j*2,none⟩=some (.string (E L[j].1))∧w.cell? ⟨b,j*2+1,none⟩=some (.string (E L[j].2)):=by
 have k:w.ownsRow base 165 2 (.slice ao n c) L.length (lcs L):=h;rcases k.2 with⟨hv,h2⟩ | ⟨g,cap,cur,hv,h3,h4,_⟩
 ·omega
 ·injection hv with e1 e2 e3
  subst e1 e2 e3;obtain⟨q1,q2⟩:=lcs_get L j hj;exact⟨g,rfl,(Array.getElem?_eq_some_iff.1 h4).1,own_cellS k _ _ q1,own_cellS k _ _ q2⟩
theorem info_lim:(Tryz.prog.info? 165).map (fun i=>(i.zero,i.size,i.bytes))=some (some (.agg #[.string { data:=#[] },.string { data:=#[] }]),2,32):=by kernel_rfl
theorem bounds_rule (C K:ByteArray) (v1 v2 v3:Value) (w:World) (hC:C.size≤1000) (hK:K.size≤1000) (h:(vldB C&&vldB K)=false) :
  Calls Tryz.prog 77 #[.agg #[.string C,.string K],.agg #[v1,v2,v3]] w fun e w'=>e=.returned (.tuple #[.slice none 0 0,.int .i64 3])∧Bw w w':=by
 have HC:=Kh hC;have HK:=Kh hK;obtain⟨hR,hP,hf⟩:=blk2 w #[Value.string C,Value.string K] #[v1,v2,v3] 24 29;clear hC hK;cases h1:vldB C
 ·have HV:=Kh h1;clear h1 h;obtain⟨hb,hc,hd,he⟩:=hR.x2;go_enter Tryz.func77,Tryz.ntmps77
  go_wp2_with fail
  refine (validV_c C false _ (by have:=HC.out;omega) HV.out).mono ?_;rintro e w' ⟨rfl,rfl⟩;go_wp2;go_ret2
  exact⟨rfl,hf⟩
 ·have h2:vldB K=false:=by rw[h1]at h;exact h
  have HV:=Kh h1;have hg:=Kh h2;clear h1 h2 h;obtain⟨hb,hc,hd,he⟩:=hR.x2;go_enter Tryz.func77,Tryz.ntmps77
  go_wp2_with fail
  refine (validV_c C true _ (by have:=HC.out;omega) HV.out).mono ?_;rintro e w' ⟨rfl,rfl⟩;go_wp2_with fail
  refine (validV_c K false _ (by have:=HK.out;omega) hg.out).mono ?_;rintro e w' ⟨rfl,rfl⟩;go_wp2;go_ret2
  exact⟨rfl,hf⟩
theorem bounds_chk (C K:Nat) (v1 v2 v3:Value) (k:Nat) (w:World) (hC:C<256^16) (hK:K<256^16) (hk:k≠0)
  (hb:∀w',Bw w w'→Calls Tryz.prog 177 #[.agg #[v1,v2,v3]] w' fun e w''=>e=.returned (.int .i64 k)∧Bw w' w'') :
  Calls Tryz.prog 77 #[.agg #[.string (E C),.string (E K)],.agg #[v1,v2,v3]] w fun e w'=>e=.returned (.tuple #[.slice none 0 0,.int .i64 k])∧Bw w w':=by
 have HC:=Kh (lt128' hC (by decide));have HK:=Kh (lt128' hK (by decide));have hd:=Kh hb;have hq:((k:Int) != 0)=true:=by rw[bne_iff_ne];omega
 obtain⟨hR,hP,hc⟩:=blk2 w #[.string (E C),.string (E K)] #[v1,v2,v3] 24 29;clear hC hK hb hk;obtain⟨he,hf,hg,hh⟩:=hR.x2;obtain⟨hi,hj,hl,hm,hn,ho⟩:=hP.x3;go_enter Tryz.func77,Tryz.ntmps77
 go_wp2_with fail
 refine (validE_c C _ HC.out).mono ?_;rintro e w' ⟨rfl,rfl⟩;go_wp2_with fail
 refine (validE_c K _ HK.out).mono ?_;rintro e w' ⟨rfl,rfl⟩;go_wp2_with fail
 refine (hd.out _ hc).mono ?_;rintro e w2 ⟨rfl,hp⟩;go_wp2;go_ret2
 exact⟨rfl,bt hc hp⟩
def SBox (w:World) (T:TypeId) (cs:List Value) (s8:Value) (wx:World):Prop:=∃g,s8=.pointer (some ⟨g,0,none⟩)∧Blk wx g T cs∧w.heap.size≤g∧Bw w wx
theorem chk0_c (N:NSta) (v1 v2 v3:Value) (w:World) (hm:NOk N) (hS:NAt w v1 v2 v3 N) (hc:N.chk=0) :
  ∀w',Bw w w'→Calls Tryz.prog 177 #[.agg #[v1,v2,v3]] w' fun e w''=>e=.returned (.int .i64 0)∧Bw w' w'':=fun w' hb=>by
 have h:=check_c N v1 v2 v3 w' hm (hS.after hb);rw[hc]at h;exact h
theorem bounds_two (N:NSta) (C K:Nat) (v1 v2 v3:Value) (w:World) (hC:C<256^16) (hK:K<256^16) (h2:C<2∨K<2) (hm:NOk N) (hS:NAt w v1 v2 v3 N) (hc:N.chk=0) :
  Calls Tryz.prog 77 #[.agg #[.string (E C),.string (E K)],.agg #[v1,v2,v3]] w fun e w'=>e=.returned (.tuple #[.slice none 0 0,.int .i64 2])∧Bw w w':=by
 have HC:=Kh (lt128' hC (by decide));have HK:=Kh (lt128' hK (by decide));have hq:=Kh (fun w=>ofK_c 2 2 w rfl (by decide));have hx:=Kh hc;obtain⟨a1,c1,a2,c2,a3,c3,rfl,rfl,rfl⟩:=hS.forms;obtain⟨n1,ht⟩:∃n,n=N.grps.length:=⟨_,rfl⟩;obtain⟨n2,hu⟩:∃n,n=N.vars.length:=⟨_,rfl⟩;obtain⟨n3,hv⟩:∃n,n=N.eqs.length:=⟨_,rfl⟩;have hA:=Kh ht;have hB:=Kh hu;have hD:=Kh hv;have l1:n1≤10:=by rw[ht];exact hm.ng
 have l2:n2≤12:=by rw[hu];exact hm.nv
 have l3:n3≤12:=by rw[hv];exact hm.ne
 have HM:=Kh hm;rw[←ht,←hu,←hv]at hS ⊢;clear hm ht hu hv;have hr:=Kh (chk0_c N _ _ _ w HM.out hS hx.out);obtain⟨hR,hP,hb⟩:=blk2 w #[.string (E C),.string (E K)] #[.slice a1 n1 c1,.slice a2 n2 c2,.slice a3 n3 c3] 24 29;replace hS:=hS.after hb;clear hC hK hc;by_cases hw:C<2
 ·have hlt:=cmp_neg C 2 hw;clear hw h2;obtain⟨hd,he,hf,hg⟩:=hR.x2;obtain⟨hj,hk,hl,hn,ho,hp⟩:=hP.x3;go_enter Tryz.func77,Tryz.ntmps77
  go_wp2_with fail
  refine (validE_c C _ HC.out).mono ?_;rintro e w' ⟨rfl,rfl⟩;go_wp2_with fail
  refine (validE_c K _ HK.out).mono ?_;rintro e w' ⟨rfl,rfl⟩;go_wp2_with fail
  refine (hr.out _ hb).mono ?_;rintro e w2 ⟨rfl,hh⟩;clear hd he hf hg;clear hj hk hl hn ho hp;replace hR:=hR.after hh;replace hP:=hP.after hh;replace hS:=hS.after hh;replace hb:=bt hb hh;clear hh;go_wp2_with fail
  refine (hq.out _).mono ?_;rintro e w3 ⟨rfl,hi⟩;replace hR:=hR.after hi;replace hP:=hP.after hi;replace hS:=hS.after hi;replace hb:=bt hb hi;clear hi;have hy:=hR.lt;have hz:=hP.lt;obtain⟨hd,he,hf,hg⟩:=hR.x2;go_wp2_with fail
  refine (cmp_c C 2 _ HC.out (by decide)).mono ?_;rintro e w' ⟨rfl,rfl⟩;go_wp2;go_ret2
  exact⟨rfl,hb⟩
 ·have hE:=cmp_nneg C 2 (by omega);have hlt:=cmp_neg K 2 (by omega);clear hw h2;obtain⟨hd,he,hf,hg⟩:=hR.x2;obtain⟨hj,hk,hl,hn,ho,hp⟩:=hP.x3;go_enter Tryz.func77,Tryz.ntmps77
  go_wp2_with fail
  refine (validE_c C _ HC.out).mono ?_;rintro e w' ⟨rfl,rfl⟩;go_wp2_with fail
  refine (validE_c K _ HK.out).mono ?_;rintro e w' ⟨rfl,rfl⟩;go_wp2_with fail
  refine (hr.out _ hb).mono ?_;rintro e w2 ⟨rfl,hh⟩;clear hd he hf hg;clear hj hk hl hn ho hp;replace hR:=hR.after hh;replace hP:=hP.after hh;replace hS:=hS.after hh;replace hb:=bt hb hh;clear hh;go_wp2_with fail
  refine (hq.out _).mono ?_;rintro e w3 ⟨rfl,hi⟩;replace hR:=hR.after hi;replace hP:=hP.after hi;replace hS:=hS.after hi;replace hb:=bt hb hi;clear hi;have hy:=hR.lt;have hz:=hP.lt;obtain⟨hd,he,hf,hg⟩:=hR.x2;go_wp2_with fail
  refine (cmp_c C 2 _ HC.out (by decide)).mono ?_;rintro e w' ⟨rfl,rfl⟩;go_wp2_with fail
  refine (cmp_c K 2 _ HK.out (by decide)).mono ?_;rintro e w' ⟨rfl,rfl⟩;go_wp2;go_ret2
  exact⟨rfl,hb⟩
theorem ord_lt {N:NSta} (hm:NOk N):N.ord<256^8:=by
 by_cases h:N.grps.all og=true
 ·rw[ord_none N h];decide
 ·unfold NSta.ord;cases hf:(N.grps.map (·.2)).find? (· != 0) with
  | none=>exact Nat.pow_pos (by decide)
  | some q =>
   have:=List.mem_of_find?_eq_some hf;obtain⟨g,hg,rfl⟩:=List.mem_map.1 this;exact (hm.g g hg).2
theorem bounds_ord (N:NSta) (C K:Nat) (v1 v2 v3:Value) (w:World) (hC:C<256^16) (hK:K<256^16) (h2:2≤C) (h3:2≤K) (hv:N.vars.any vz=true) (ho:N.ord<C) (hm:NOk N) (hS:NAt w v1 v2 v3 N) (hc:N.chk=0) :
  Calls Tryz.prog 77 #[.agg #[.string (E C),.string (E K)],.agg #[v1,v2,v3]] w fun e w'=>e=.returned (.tuple #[.slice none 0 0,.int .i64 2])∧Bw w w':=by
 have HC:=Kh (lt128' hC (by decide));have HK:=Kh (lt128' hK (by decide));have HO:=Kh ho;have HV:=Kh hv;have hH:=Kh (fun w=>ofK_c 2 2 w rfl (by decide));have h6:=Kh hc;obtain⟨a1,c1,a2,c2,a3,c3,rfl,rfl,rfl⟩:=hS.forms;obtain⟨n1,hE⟩:∃n,n=N.grps.length:=⟨_,rfl⟩;obtain⟨n2,hF⟩:∃n,n=N.vars.length:=⟨_,rfl⟩;obtain⟨n3,hG⟩:∃n,n=N.eqs.length:=⟨_,rfl⟩;have Hi:=Kh hE;have hN:=Kh hF;have Hj:=Kh hG;have l1:n1≤10:=by rw[hE];exact hm.ng
 have l2:n2≤12:=by rw[hF];exact hm.nv
 have l3:n3≤12:=by rw[hG];exact hm.ne
 have HM:=Kh hm;rw[←hE,←hF,←hG]at hS ⊢;clear hm hE hF hG;have hI:=Kh (chk0_c N _ _ _ w HM.out hS h6.out);obtain⟨hR,hP,hb⟩:=blk2 w #[.string (E C),.string (E K)] #[.slice a1 n1 c1,.slice a2 n2 c2,.slice a3 n3 c3] 24 29;replace hS:=hS.after hb;have Hk:=cmp_nneg C 2 h2;have h7:=cmp_nneg K 2 h3;clear hC hK hc h2 h3 hv ho;obtain⟨hd,he,hf,hg⟩:=hR.x2;obtain⟨hh,hi,hj,hl,hn,hp⟩:=hP.x3;go_enter Tryz.func77,Tryz.ntmps77
 go_wp2_with fail
 refine (validE_c C _ HC.out).mono ?_;rintro e w' ⟨rfl,rfl⟩;go_wp2_with fail
 refine (validE_c K _ HK.out).mono ?_;rintro e w' ⟨rfl,rfl⟩;go_wp2_with fail
 refine (hI.out _ hb).mono ?_;rintro e w2 ⟨rfl,hu⟩;clear hd he hf hg;clear hh hi hj hl hn hp;replace hR:=hR.after hu;replace hP:=hP.after hu;replace hS:=hS.after hu;replace hb:=bt hb hu;clear hu;go_wp2_with fail
 refine (hH.out _).mono ?_;rintro e w3 ⟨rfl,hw⟩;replace hR:=hR.after hw;replace hP:=hP.after hw;replace hS:=hS.after hw;replace hb:=bt hb hw;clear hw;have hO:=hR.lt;have hJ:=hP.lt;obtain⟨hd,he,hf,hg⟩:=hR.x2;go_wp2_with fail
 refine (cmp_c C 2 _ HC.out (by decide)).mono ?_;rintro e w' ⟨rfl,rfl⟩;go_wp2_with fail
 refine (cmp_c K 2 _ HK.out (by decide)).mono ?_;rintro e w' ⟨rfl,rfl⟩;clear hd he hf hg;have hr:CA w3 [(⟨w.heap.size,0,none⟩,.string (E C)),(⟨w.heap.size,1,none⟩,.string (E K)),(⟨w.heap.size+1,0,none⟩,.slice a1 n1 c1),(⟨w.heap.size+1,1,none⟩,.slice a2 n2 c2),(⟨w.heap.size+1,2,none⟩,.slice a3 n3 c3)]:=CA.cons hR.lt (hR.cell 0) (CA.cons hR.lt (hR.cell 1) (CA.cons hP.lt (hP.cell 0) (CA.cons hP.lt (hP.cell 1) (CA.cons hP.lt (hP.cell 2) (CA.nil _)))));have hy:=fun x hx=>Nat.ne_of_lt (hr x hx).1
 have hz:Hid (∀w',Bw w3 w'→Calls Tryz.prog 178 #[.agg #[.slice a1 n1 c1,.slice a2 n2 c2,.slice a3 n3 c3]] w' fun e w''=>e=.returned (.string (E N.ord))∧Bw w' w''):=fun w' h9=>sorder_c N _ _ _ w' HM.out (hS.after h9)
 go_upto_region 9 with fail
 go_cut [8] (fun s8 wx=>SBox w3 224 [.string (E C),.string (E K),.string (E N.ord)] s8 wx)
 case first =>
  go_region_held3 (fun w'=>w'.cell? ⟨w.heap.size,0,none⟩=some (.string (E C))∧w'.cell? ⟨w.heap.size,1,none⟩=some (.string (E K))∧w'.cell? ⟨w.heap.size+1,0,none⟩=some (.slice a1 n1 c1)∧w'.cell? ⟨w.heap.size+1,1,none⟩=some (.slice a2 n2 c2)∧w'.cell? ⟨w.heap.size+1,2,none⟩=some (.slice a3 n3 c3)) ((refine CA.k5 ?_;repeat (first | (with_reducible exact Ha) | (with_reducible exact hr) | (with_reducible refine CA.drew ?_) | (with_reducible refine CA.alloc ?_ _) | (refine CA.set ?_ _ _ _ hy))))
   ((go_at_call 178;refine (hz.out _ (by first | exact (Below.drew Br) | exact (b1 w3 _).drew)).mono ?_;rintro e wf ⟨rfl,hq⟩;have Ha:CA wf [(⟨w.heap.size,0,none⟩,.string (E C)),(⟨w.heap.size,1,none⟩,.string (E K)),(⟨w.heap.size+1,0,none⟩,.slice a1 n1 c1),(⟨w.heap.size+1,1,none⟩,.slice a2 n2 c2),(⟨w.heap.size+1,2,none⟩,.slice a3 n3 c3)]:=(by first | exact hr.drew.after hq | exact (hr.alloc _).drew.after hq | exact (hr.drew.alloc _).after hq);(try (have kA:=(Blk.new w3 #[.string { data:=#[] },.string { data:=#[] },.string { data:=#[] }] 224).drew.after hq;have kA0:=kA.cell 0;have kA1:=kA.cell 1;have kA2:=kA.free 0;have kA3:=kA.free 1;have kA4:=kA.cell 2;have kA5:=kA.free 2))))
  all_goals
   go_wp2_with fail
   go_meet
   first
    | exact⟨_,rfl,Blk.new _ _ _,hq.size,ba ((Below.drew Br).trans hq) _⟩
    | exact⟨_,rfl,((kA.set 0 _).set 1 _).set 2 _,Nat.le_refl _,(((bt ((b1 w3 _).drew) hq).setCell (by simp) _).setCell (by simp) _).setCell (by simp) _⟩
 case rest =>
  obtain⟨g8,rfl,h8,Hl,hA⟩:=hcut;obtain⟨wx,Hb⟩:∃wx,wx=wc:=⟨_,rfl⟩;subst Hb;replace hR:=hR.after hA;replace hP:=hP.after hA;replace hS:=hS.after hA;replace hb:=bt hb hA;clear hA hr hy hz hO hJ;have hJ:=hP.lt;have Hc:Hid (N.ord<256^128):=lt128 (ord_lt HM.out);obtain⟨qd,hL⟩:∃q,q=N.ord:=⟨_,rfl⟩;rw[←hL]at h8;have HQ:=Kh hL;clear hL;obtain⟨hh,hi,hj,hl,hn,hp⟩:=hP.x3;go_wp2;clear hh hi hj hl hn hp;clear hJ;go_loopw [52] (fun i wr=>∃k:Nat,k≤n2∧i=.int .i64 k∧Hid ((N.vars.take k).any vz=false)∧Bw wx wr) (fun i _=>n2-(intOf i).toNat)
  case atStart=>exact⟨0,by omega,rfl,rfl,Br⟩
  case round =>
   obtain⟨k,hk,rfl,HA,ht⟩:=hrel;obtain⟨wp,Hd⟩:∃wp,wp=wr:=⟨_,rfl⟩;subst Hd;replace hR:=hR.after ht;replace hP:=hP.after ht;replace hS:=hS.after ht;replace h8:=h8.after ht;replace hb:=bt hb ht;have hO:=hR.lt;have Hm:=h8.lt;by_cases hlt:k<n2
   ·have hB:k<N.vars.length:=by rw[←hN.out];exact hlt
    obtain⟨b,o,rfl,Hn,x1⟩:=hS.vat hB;have He:Hid ((N.vars[k]'hB)∈N.vars):=Gm hB;have HT:=Kh (any_take vz N.vars k hB);generalize (N.vars[k]'hB)=s1 at x1 He HT;have Ho:(0:Int)≤(k:Int):=by omega
    have Hp:(k:Int)<(n2:Int):=by omega
    have hV:=Blk.new wp #[.string (E s1)] 71;rcases Nat.eq_zero_or_pos s1 with rfl | h0
    ·have hM:=Kh (fun w=>kindV_c 0 0 w rfl);go_wp2_with fail
     refine (hM.out _).mono ?_;rintro e w5 ⟨rfl,hD⟩;have hQ:=(hR.alloc (.cells #[.string (E 0)] 71)).after hD;have hT:=(h8.alloc (.cells #[.string (E 0)] 71)).after hD;have Hf:=hQ.lt;have Hg:=hT.lt;obtain⟨hU,hW⟩:=hQ.x1;obtain⟨hX,hY,hZ,h1,h4,h5⟩:=hT.x3;have Hq:=cmp_pos C qd (by rw[HQ.out];exact HO.out);go_wp2_with fail
     refine (cmp_c C qd _ HC.out (by rw[HQ.out];exact Hc.out)).mono ?_;rintro e w' ⟨rfl,rfl⟩;go_wp2;go_ret2
     exact⟨rfl,bt (ba hb _) hD⟩
    ·have hM:=Kh (fun w=>kindV_c s1 1 w (if_neg (by omega)));have HX:Hid ((N.vars.take (k+1)).any vz=(N.vars.take k).any vz):=by rw[Hid,HT.out,vz_pos h0,Bool.or_false]
     go_wp2_with fail
     refine (hM.out _).mono ?_;rintro e w5 ⟨rfl,hD⟩;go_wp2;go_roundw
     case rel=>exact⟨k+1,by omega,by go_num,by rw[Hid,HX.out];exact HA.out,bt (ba ht _) hD⟩
     case measure=>simp[intOf];omega
   ·have Hh:N.vars.any vz=false:=any_end vz N.vars k (by rw[←hN.out];omega) HA.out;exact absurd (Hh.symm.trans HV.out) (by decide)
end
section
open Go.RowKit Go.Shelf
@[go_sem] theorem run_store_func {P:Program} {w:World} {a:Addr} {m:Mode} (f:Fn) (b c:Array Value):(store a (.func f b c) m).run P w=stored P w a (.func f b c) m:=run_store P w a _ m rfl
def LBox (w:World) (l1 l2:Nat) (s15 s16:Value) (wx:World):Prop:=∃g,s15=.pointer (some ⟨g,0,none⟩)∧s16=.int .i64 0∧Blk wx g 165 [.string (E l1),.string (E l2)]∧w.heap.size≤g∧Bw w wx
def BPost (w:World) (L:List (Nat × Nat)) (e:Ending) (w':World):Prop:=∃v,e=.returned (.tuple #[v,.int .i64 0])∧LmOwn w' w.heap.size v L∧Bw w w'
theorem lims_step (N:NSta) (C K:Nat) (k:Nat) (h:k<N.vars.length):(N.lims C K).take (k+1)=(N.lims C K).take k++[lim N.ord C K N.vars[k]]:=by
 unfold NSta.lims;rw[←List.map_take,List.take_succ_eq_append_getElem h,List.map_append,List.map_take];rfl
theorem bounds_ok (N:NSta) (C K:Nat) (v1 v2 v3:Value) (w:World) (hC:C<256^16) (hK:K<256^16) (h2:2≤C) (h3:2≤K) (hv:N.vars.any vz=true→C≤N.ord) (hm:NOk N) (hS:NAt w v1 v2 v3 N) (hc:N.chk=0) :
  Calls Tryz.prog 77 #[.agg #[.string (E C),.string (E K)],.agg #[v1,v2,v3]] w (BPost w (N.lims C K)):=by
 obtain⟨i0,HO,hY,hZ,h1⟩:=info_parts info_lim;have HP:=Kh HO;have HR:=Kh hY;have HS:=Kh hZ;have HU:=Kh h1;clear HO hY hZ h1;have HC:=Kh (lt128' hC (by decide));have HK:=Kh (lt128' hK (by decide));have jc:=Kh hC;have jd:=Kh hK;have je:Hid (1≤C):=by unfold Hid;omega
 have jf:Hid (1≤K):=by unfold Hid;omega
 have HV:=Kh hv;have Hm:=Kh (fun w=>ofK_c 2 2 w rfl (by decide));have jg:=Kh hc;obtain⟨a1,c1,a2,c2,a3,c3,rfl,rfl,rfl⟩:=hS.forms;obtain⟨n1,Hh⟩:∃n,n=N.grps.length:=⟨_,rfl⟩;obtain⟨n2,Hi⟩:∃n,n=N.vars.length:=⟨_,rfl⟩;obtain⟨n3,Hj⟩:∃n,n=N.eqs.length:=⟨_,rfl⟩;have jw:=Kh Hh;have Hn:=Kh Hi;have jx:=Kh Hj;have l1:n1≤10:=by rw[Hh];exact hm.ng
 have l2:n2≤12:=by rw[Hi];exact hm.nv
 have l3:n3≤12:=by rw[Hj];exact hm.ne
 have HM:=Kh hm;rw[←Hh,←Hi,←Hj]at hS ⊢;clear hm Hh Hi Hj;have Ho:=Kh (chk0_c N _ _ _ w HM.out hS jg.out);obtain⟨hR,hP,hf⟩:=blk2 w #[.string (E C),.string (E K)] #[.slice a1 n1 c1,.slice a2 n2 c2,.slice a3 n3 c3] 24 29;replace hS:=hS.after hf;have jy:=cmp_nneg C 2 h2;have jh:=cmp_nneg K 2 h3;clear hC hK hc h2 h3 hv;obtain⟨hJ,hL,hM,hN⟩:=hR.x2;obtain⟨ho,hp,hq,hr,ht,hu⟩:=hP.x3;go_enter Tryz.func77,Tryz.ntmps77
 go_wp2_with fail
 refine (validE_c C _ HC.out).mono ?_;rintro e w' ⟨rfl,rfl⟩;go_wp2_with fail
 refine (validE_c K _ HK.out).mono ?_;rintro e w' ⟨rfl,rfl⟩;go_wp2_with fail
 refine (Ho.out _ hf).mono ?_;rintro e w2 ⟨rfl,h4⟩;clear hJ hL hM hN;clear ho hp hq hr ht hu;replace hR:=hR.after h4;replace hP:=hP.after h4;replace hS:=hS.after h4;replace hf:=bt hf h4;clear h4;go_wp2_with fail
 refine (Hm.out _).mono ?_;rintro e w3 ⟨rfl,h5⟩;replace hR:=hR.after h5;replace hP:=hP.after h5;replace hS:=hS.after h5;replace hf:=bt hf h5;clear h5;have Hp:=hR.lt;have h6:=hP.lt;obtain⟨hJ,hL,hM,hN⟩:=hR.x2;go_wp2_with fail
 refine (cmp_c C 2 _ HC.out (by decide)).mono ?_;rintro e w' ⟨rfl,rfl⟩;go_wp2_with fail
 refine (cmp_c K 2 _ HK.out (by decide)).mono ?_;rintro e w' ⟨rfl,rfl⟩;clear hJ hL hM hN;have hU:CA w3 [(⟨w.heap.size,0,none⟩,.string (E C)),(⟨w.heap.size,1,none⟩,.string (E K)),(⟨w.heap.size+1,0,none⟩,.slice a1 n1 c1),(⟨w.heap.size+1,1,none⟩,.slice a2 n2 c2),(⟨w.heap.size+1,2,none⟩,.slice a3 n3 c3)]:=CA.cons hR.lt (hR.cell 0) (CA.cons hR.lt (hR.cell 1) (CA.cons hP.lt (hP.cell 0) (CA.cons hP.lt (hP.cell 1) (CA.cons hP.lt (hP.cell 2) (CA.nil _)))));have hd:=fun x hx=>Nat.ne_of_lt (hU x hx).1
 have h7:Hid (∀w',Bw w3 w'→Calls Tryz.prog 178 #[.agg #[.slice a1 n1 c1,.slice a2 n2 c2,.slice a3 n3 c3]] w' fun e w''=>e=.returned (.string (E N.ord))∧Bw w' w''):=fun w' ji=>sorder_c N _ _ _ w' HM.out (hS.after ji)
 go_upto_region 9 with fail
 go_cut [8] (fun s8 wx=>SBox w3 224 [.string (E C),.string (E K),.string (E N.ord)] s8 wx)
 case first =>
  go_region_held3 (fun w'=>w'.cell? ⟨w.heap.size,0,none⟩=some (.string (E C))∧w'.cell? ⟨w.heap.size,1,none⟩=some (.string (E K))∧w'.cell? ⟨w.heap.size+1,0,none⟩=some (.slice a1 n1 c1)∧w'.cell? ⟨w.heap.size+1,1,none⟩=some (.slice a2 n2 c2)∧w'.cell? ⟨w.heap.size+1,2,none⟩=some (.slice a3 n3 c3)) ((refine CA.k5 ?_;repeat (first | (with_reducible exact hw) | (with_reducible exact hU) | (with_reducible refine CA.drew ?_) | (with_reducible refine CA.alloc ?_ _) | (refine CA.set ?_ _ _ _ hd))))
   ((go_at_call 178;refine (h7.out _ (by first | exact (Below.drew Br) | exact (b1 w3 _).drew)).mono ?_;rintro e wf ⟨rfl,hb⟩;have hw:CA wf [(⟨w.heap.size,0,none⟩,.string (E C)),(⟨w.heap.size,1,none⟩,.string (E K)),(⟨w.heap.size+1,0,none⟩,.slice a1 n1 c1),(⟨w.heap.size+1,1,none⟩,.slice a2 n2 c2),(⟨w.heap.size+1,2,none⟩,.slice a3 n3 c3)]:=(by first | exact hU.drew.after hb | exact (hU.alloc _).drew.after hb | exact (hU.drew.alloc _).after hb);(try (have kA:=(Blk.new w3 #[.string { data:=#[] },.string { data:=#[] },.string { data:=#[] }] 224).drew.after hb;have kA0:=kA.cell 0;have kA1:=kA.cell 1;have kA2:=kA.free 0;have kA3:=kA.free 1;have kA4:=kA.cell 2;have kA5:=kA.free 2))))
  all_goals
   go_wp2_with fail
   go_meet
   first
    | exact⟨_,rfl,Blk.new _ _ _,hb.size,ba ((Below.drew Br).trans hb) _⟩
    | exact⟨_,rfl,((kA.set 0 _).set 1 _).set 2 _,Nat.le_refl _,(((bt ((b1 w3 _).drew) hb).setCell (by simp) _).setCell (by simp) _).setCell (by simp) _⟩
 case rest =>
  obtain⟨g8,rfl,h8,jz,hg⟩:=hcut;obtain⟨wx,jj⟩:∃wx,wx=wc:=⟨_,rfl⟩;subst jj;replace hR:=hR.after hg;replace hP:=hP.after hg;replace hS:=hS.after hg;replace hf:=bt hf hg;clear hg hU hd h7 Hp h6;have h6:=hP.lt;have jk:Hid (N.ord<256^128):=lt128 (ord_lt HM.out);obtain⟨qd,Hq⟩:∃q,q=N.ord:=⟨_,rfl⟩;rw[←Hq]at h8;have HQ:=Kh Hq;clear Hq;obtain⟨ho,hp,hq,hr,ht,hu⟩:=hP.x3;go_wp2;clear ho hp hq hr ht hu;clear h6;go_loopw [52] (fun i wr=>∃k:Nat,k≤n2∧i=.int .i64 k∧Hid (0≤k)∧Bw wx wr) (fun i _=>n2-(intOf i).toNat)
  case atStart=>exact⟨0,by omega,rfl,Nat.zero_le _,Br⟩
  case round =>
   obtain⟨k,hk,rfl,HA,hh⟩:=hrel;obtain⟨wp,jl⟩:∃wp,wp=wr:=⟨_,rfl⟩;subst jl;replace hR:=hR.after hh;replace hP:=hP.after hh;replace hS:=hS.after hh;replace h8:=h8.after hh;replace hf:=bt hf hh;have Hp:=hR.lt;have jm:=h8.lt;by_cases hlt:k<n2
   ·have hE:k<N.vars.length:=by rw[←Hn.out];exact hlt
    obtain⟨b,o,rfl,Hr,x1⟩:=hS.vat hE;have HW:Hid ((N.vars[k]'hE)∈N.vars):=Gm hE;have HT:=Kh (any_take vz N.vars k hE);generalize (N.vars[k]'hE)=s1 at x1 HW HT;have jn:(0:Int)≤(k:Int):=by omega
    have jo:(k:Int)<(n2:Int):=by omega
    have hV:=Blk.new wp #[.string (E s1)] 71;rcases Nat.eq_zero_or_pos s1 with rfl | h0
    ·have hI:=Kh (fun w=>kindV_c 0 0 w rfl);go_wp2_with fail
     refine (hI.out _).mono ?_;rintro e w5 ⟨rfl,h9⟩;have HY:=(hR.alloc (.cells #[.string (E 0)] 71)).after h9;have HZ:=(h8.alloc (.cells #[.string (E 0)] 71)).after h9;have jp:=HY.lt;have jq:=HZ.lt;obtain⟨H0,H1⟩:=HY.x1;obtain⟨H2,H3,H4,H5,H6,H7⟩:=HZ.x3;have jA:=cmp_npos C qd (by rw[HQ.out];exact HV.out (List.any_eq_true.2 ⟨_,HW.out,rfl⟩));go_wp2_with fail
     refine (cmp_c C qd _ HC.out (by rw[HQ.out];exact jk.out)).mono ?_;rintro e w' ⟨rfl,rfl⟩;go_wp2;go_roundw
     case rel=>exact⟨k+1,by omega,by go_num,Nat.zero_le _,bt (ba hh _) h9⟩
     case measure=>simp[intOf];omega
    ·have hI:=Kh (fun w=>kindV_c s1 1 w (if_neg (by omega)));have HX:Hid ((N.vars.take (k+1)).any vz=(N.vars.take k).any vz):=by rw[Hid,HT.out,vz_pos h0,Bool.or_false]
     go_wp2_with fail
     refine (hI.out _).mono ?_;rintro e w5 ⟨rfl,h9⟩;go_wp2;go_roundw
     case rel=>exact⟨k+1,by omega,by go_num,Nat.zero_le _,bt (ba hh _) h9⟩
     case measure=>simp[intOf];omega
   ·clear hh HA;have h6:=hP.lt;obtain⟨ho,hp,hq,hr,ht,hu⟩:=hP.x3;obtain⟨Hs,Ht,Hu,Hv,Hw,Hx⟩:=h8.x3;go_wp2;clear ho hp hq hr ht hu;clear Hs Ht Hu Hv Hw Hx;obtain⟨hF,hG⟩:=blk1 wp #[.func (.func 180) #[.agg #[.string (E C),.string (E K),.string (E qd)]] #[],.func (.func 181) #[.agg #[.string (E C),.string (E K),.string (E qd)]] #[]] 226;replace hP:=hP.after hG;replace hS:=hS.after hG;replace hf:=bt hf hG;clear h6 Hp jm;obtain⟨g11,Ha⟩:∃g,wp.heap.size=g:=⟨_,rfl⟩;rw[Ha]at hF ⊢;clear Ha hG;generalize wp.alloc (.cells #[.func (.func 180) #[.agg #[.string (E C),.string (E K),.string (E qd)]] #[],.func (.func 181) #[.agg #[.string (E C),.string (E K),.string (E qd)]] #[]] 226)=wF at hF hP hS hf ⊢;replace hF:Blk wF g11 226 [.func (.func 180) #[.agg #[.string (E C),.string (E K),.string (E qd)]] #[],.func (.func 181) #[.agg #[.string (E C),.string (E K),.string (E qd)]] #[]]:=hF;go_loopw [12,76] (fun v12 i wr=>∃k:Nat,k≤n2∧i=.int .i64 k∧LmOwn wr wF.heap.size v12 ((N.lims C K).take k)∧Bw wF wr) (fun _ i _=>n2-(intOf i).toNat)
    case atStart=>exact⟨0,by omega,rfl,World.ownsRow_nil _ _ _ _,Br⟩
    case round =>
     clear hlt hk;obtain⟨k,hk,rfl,hO,hh⟩:=hrel;obtain⟨wq,jr⟩:∃wq,wq=wr:=⟨_,rfl⟩;subst jr;have H8:=hS.after hh;have Hy:=bt hf hh;by_cases hlt:k<n2
     ·have hE:k<N.vars.length:=by rw[←Hn.out];exact hlt
      have H9:=Kh (HM.out.v _ (Gm hE));have hW:=Kh (lims_step N C K k hE);obtain⟨b0,o0,rfl,Hr,x1⟩:=H8.vat hE;generalize (N.vars[k]'hE)=b at x1 H9 hW;have jn:(0:Int)≤(k:Int):=by omega
      have jo:(k:Int)<(n2:Int):=by omega
      obtain⟨l1',Hz⟩:∃x,x=(lim N.ord C K b).1:=⟨_,rfl⟩;obtain⟨l2',HB⟩:∃x,x=(lim N.ord C K b).2:=⟨_,rfl⟩;rw[show lim N.ord C K b=(l1',l2') by rw[Hz,HB]]at hW;have ja:=Kh Hz;have jb:=Kh HB;clear Hz HB;obtain⟨hj,hy⟩:=blk1 wq #[.string (E b)] 71;have hX:=hO.after hy;have hn:=(hF.after hh).after hy;have hH:=bt hh hy;clear hO H8;rcases Nat.eq_zero_or_pos b with rfl | h0
      ·have HD:Hid (l1'=qd):=by rw[Hid,ja.out,HQ.out];rfl
       have HE:Hid (l2'=qd):=by rw[Hid,jb.out,HQ.out];rfl
       have hI:Hid (∀w,Calls Tryz.prog 179 #[.agg #[.string (E 0)]] w fun e w'=>e=.returned (.int .i64 0)∧Bw w w'):=fun w=>kindV_c 0 0 w rfl
       have Hk:Hid (∀w,Calls Tryz.prog 180 #[.agg #[.string (E C),.string (E K),.string (E qd)],.string (E 0)] w fun e w'=>e=.returned (.tuple #[.agg #[.string (E l1'),.string (E l2')],.int .i64 0])∧Bw w w'):=fun w=>by
        rw[HD.out,HE.out];exact modular_c _ _ _ _ w
       go_wp2_with fail
       generalize wq.alloc (.cells #[.string (E 0)] 71)=wA at hj hX hn hH;obtain⟨g14,hz⟩:∃g,wq.heap.size=g:=⟨_,rfl⟩;rw[hz]at hj ⊢;clear hz hh hy Hr x1;obtain⟨b,Hl⟩:∃b,b=0:=⟨_,rfl⟩;rw[←Hl]at hj;replace hj:Blk wA g14 71 [.string (E b)]:=hj;have js:=Kh Hl;rw[←Hl]at hI Hk;clear Hl;have hC:CA wA [(⟨g14,0,none⟩,.string (E b)),(⟨g11,0,none⟩,.func (.func 180) #[.agg #[.string (E C),.string (E K),.string (E qd)]] #[]),(⟨g11,1,none⟩,.func (.func 181) #[.agg #[.string (E C),.string (E K),.string (E qd)]] #[])]:=CA.cons hj.lt (hj.cell 0) (CA.cons hn.lt (hn.cell 0) (CA.cons hn.lt (hn.cell 1) (CA.nil _)));have hd:=fun x hx=>Nat.ne_of_lt (hC x hx).1
       go_upto_region 21 with fail
       go_cut [15,16] (fun s15 s16 wx=>LBox wA l1' l2' s15 s16 wx)
       case first =>
        go_region_held3 (fun w'=>w'.cell? ⟨g14,0,none⟩=some (.string (E b))∧w'.cell? ⟨g11,0,none⟩=some (.func (.func 180) #[.agg #[.string (E C),.string (E K),.string (E qd)]] #[])∧w'.cell? ⟨g11,1,none⟩=some (.func (.func 181) #[.agg #[.string (E C),.string (E K),.string (E qd)]] #[])) ((refine CA.k3 ?_;repeat (first | (with_reducible exact HF) | (with_reducible exact hw) | (with_reducible exact hC) | (with_reducible refine CA.drew ?_) | (with_reducible refine CA.alloc ?_ _) | (refine CA.set ?_ _ _ _ hd) | (refine CA.set ?_ _ _ _ (fun x hx=>Nat.ne_of_lt (hw x hx).1)))))
         (first | (go_at_call 179;refine (hI.out _).mono ?_;rintro e wf ⟨rfl,hb⟩;have hw:CA wf [(⟨g14,0,none⟩,.string (E b)),(⟨g11,0,none⟩,.func (.func 180) #[.agg #[.string (E C),.string (E K),.string (E qd)]] #[]),(⟨g11,1,none⟩,.func (.func 181) #[.agg #[.string (E C),.string (E K),.string (E qd)]] #[])]:=(by first | exact hC.drew.after hb | exact (hC.alloc _).drew.after hb | exact (hC.drew.alloc _).after hb);(try (have hl:Bw wA wf:=(Below.drew Br).trans hb));(try (have hl:Bw wA wf:=bt ((b1 wA _).drew) hb));(try (have kA:=(Blk.new wA #[.string { data:=#[] },.string { data:=#[] }] 165).drew.after hb))) | (go_at_call 180;refine (Hk.out _).mono ?_;rintro e wd ⟨rfl,hbd⟩;have HF:CA wd [(⟨g14,0,none⟩,.string (E b)),(⟨g11,0,none⟩,.func (.func 180) #[.agg #[.string (E C),.string (E K),.string (E qd)]] #[]),(⟨g11,1,none⟩,.func (.func 181) #[.agg #[.string (E C),.string (E K),.string (E qd)]] #[])]:=(by first | exact hw.after hbd | exact (hw.alloc _).after hbd);(try (have hA:Bw wA wd:=bt hl hbd));(try (have hA:Bw wA wd:=bt (ba hl _) hbd));(try (have kD:=kA.after hbd;have kA0:=kD.cell 0;have kA1:=kD.cell 1;have kA2:=kD.free 0;have kA3:=kD.free 1;have kl:=kD.lt));(try (have kB:=(Blk.new wf #[.string { data:=#[] },.string { data:=#[] }] 165).after hbd;have kB0:=kB.cell 0;have kB1:=kB.cell 1;have kB2:=kB.free 0;have kB3:=kB.free 1;have kbl:=kB.lt))))
        all_goals
         go_wp2_with fail
         go_meet
         first
          | exact⟨_,rfl,rfl,Blk.new _ _ _,hA.size,ba hA _⟩
          | exact⟨_,rfl,rfl,(kD.set 0 _).set 1 _,Nat.le_refl _,(hA.setCell (by simp) _).setCell (by simp) _⟩
          | exact⟨_,rfl,rfl,(kB.set 0 _).set 1 _,hl.size,(hA.setCell (by have:=hl.size;simp;omega) _).setCell (by have:=hl.size;simp;omega) _⟩
       case rest =>
        obtain⟨g15,rfl,rfl,Hb,HG,hg⟩:=hcut;obtain⟨wy,HH⟩:∃wy,wy=wc:=⟨_,rfl⟩;subst HH;clear hC hd;have hB:=own_after hX hg;have jt:=hn.after hg;have hi:=bt hH hg;have HI:=Hb.lt;have hQ:Hid (((N.lims C K).take k).length=k):=by rw[Hid,List.length_take,NSta.lims,List.length_map];omega
        rw[hQ.out]at hB;clear hg hX;have HJ:=hi.size;generalize (N.lims C K).take k=LI at hB hW hQ;obtain⟨Hc,Hd,He,Hf⟩:=Hb.x2;go_wp2_with (at_builtin;(refine wpList_append_lies _ rfl (.tmp 93) (.tmp 95) _ rfl wF.heap.size 165 i0 _ 2 32 Tryz.underlying136 HP.out HR.out HS.out HU.out rfl (by omega) u12 k (lcs LI) rfl (own_after hB (b1 _ (.cells #[.string (E l1'),.string (E l2')] 165))) ⟨wy.heap.size,0,none⟩ 1 1 [.string (E l1'),.string (E l2')] rfl rfl (Blk.new wy #[.string (E l1'),.string (E l2')] 165).cells (by simp[Value.oneCell']) (by omega) (by simp only[maxLen];omega) (by omega) (by rw[World.size_alloc];omega) (wy.heap.size+1) (by simp) ?_);intro ga ca wa hD he HL hT)
        have Hg:LmOwn wa wF.heap.size (.slice (some ⟨ga,0,none⟩) (k+1) ca) (LI++[(l1',l2')]):=by rw[LmOwn,List.length_append,hQ.out,←lcs_app];exact hD
        rw[←hW.out]at Hg;have HN:=(ba hi (.cells #[.string (E l1'),.string (E l2')] 165)).grown he (by rw[World.size_alloc];omega) (fun x hx=>(own_lt hB hx).2);clear hD he HL hT hB hi;go_wp2;go_roundw
        case rel=>exact⟨k+1,by omega,by go_num,Hg,HN⟩
        case measure=>simp[intOf];omega
      ·have HD:Hid (l1'=K*C*b):=by rw[Hid,ja.out,lim,if_neg (by omega)]
       have HE:Hid (l2'=K*C*b-(C-1)*(b-1)):=by rw[Hid,jb.out,lim,if_neg (by omega)]
       have hI:Hid (∀w,Calls Tryz.prog 179 #[.agg #[.string (E b)]] w fun e w'=>e=.returned (.int .i64 1)∧Bw w w'):=fun w=>kindV_c b 1 w (if_neg (by omega))
       have Hk:Hid (∀w,Calls Tryz.prog 181 #[.agg #[.string (E C),.string (E K),.string (E qd)],.string (E b)] w fun e w'=>e=.returned (.tuple #[.agg #[.string (E l1'),.string (E l2')],.int .i64 0])∧Bw w w'):=fun w=>by
        rw[HD.out,HE.out];exact integral_c C K qd b w jc.out jd.out H9.out je.out jf.out h0
       clear h0;go_wp2_with fail
       generalize wq.alloc (.cells #[.string (E b)] 71)=wA at hj hX hn hH;obtain⟨g14,hz⟩:∃g,wq.heap.size=g:=⟨_,rfl⟩;rw[hz]at hj ⊢;replace hj:Blk wA g14 71 [.string (E b)]:=hj;clear hz hh hy Hr x1;have hC:CA wA [(⟨g14,0,none⟩,.string (E b)),(⟨g11,0,none⟩,.func (.func 180) #[.agg #[.string (E C),.string (E K),.string (E qd)]] #[]),(⟨g11,1,none⟩,.func (.func 181) #[.agg #[.string (E C),.string (E K),.string (E qd)]] #[])]:=CA.cons hj.lt (hj.cell 0) (CA.cons hn.lt (hn.cell 0) (CA.cons hn.lt (hn.cell 1) (CA.nil _)));have hd:=fun x hx=>Nat.ne_of_lt (hC x hx).1
       go_upto_region 21 with fail
       go_cut [15,16] (fun s15 s16 wx=>LBox wA l1' l2' s15 s16 wx)
       case first =>
        go_region_held3 (fun w'=>w'.cell? ⟨g14,0,none⟩=some (.string (E b))∧w'.cell? ⟨g11,0,none⟩=some (.func (.func 180) #[.agg #[.string (E C),.string (E K),.string (E qd)]] #[])∧w'.cell? ⟨g11,1,none⟩=some (.func (.func 181) #[.agg #[.string (E C),.string (E K),.string (E qd)]] #[])) ((refine CA.k3 ?_;repeat (first | (with_reducible exact HF) | (with_reducible exact hw) | (with_reducible exact hC) | (with_reducible refine CA.drew ?_) | (with_reducible refine CA.alloc ?_ _) | (refine CA.set ?_ _ _ _ hd) | (refine CA.set ?_ _ _ _ (fun x hx=>Nat.ne_of_lt (hw x hx).1)))))
         (first | (go_at_call 179;refine (hI.out _).mono ?_;rintro e wf ⟨rfl,hb⟩;have hw:CA wf [(⟨g14,0,none⟩,.string (E b)),(⟨g11,0,none⟩,.func (.func 180) #[.agg #[.string (E C),.string (E K),.string (E qd)]] #[]),(⟨g11,1,none⟩,.func (.func 181) #[.agg #[.string (E C),.string (E K),.string (E qd)]] #[])]:=(by first | exact hC.drew.after hb | exact (hC.alloc _).drew.after hb | exact (hC.drew.alloc _).after hb);(try (have hl:Bw wA wf:=(Below.drew Br).trans hb));(try (have hl:Bw wA wf:=bt ((b1 wA _).drew) hb));(try (have kA:=(Blk.new wA #[.string { data:=#[] },.string { data:=#[] }] 165).drew.after hb))) | (go_at_call 181;refine (Hk.out _).mono ?_;rintro e wd ⟨rfl,hbd⟩;have HF:CA wd [(⟨g14,0,none⟩,.string (E b)),(⟨g11,0,none⟩,.func (.func 180) #[.agg #[.string (E C),.string (E K),.string (E qd)]] #[]),(⟨g11,1,none⟩,.func (.func 181) #[.agg #[.string (E C),.string (E K),.string (E qd)]] #[])]:=(by first | exact hw.after hbd | exact (hw.alloc _).after hbd);(try (have hA:Bw wA wd:=bt hl hbd));(try (have hA:Bw wA wd:=bt (ba hl _) hbd));(try (have kD:=kA.after hbd;have kA0:=kD.cell 0;have kA1:=kD.cell 1;have kA2:=kD.free 0;have kA3:=kD.free 1;have kl:=kD.lt));(try (have kB:=(Blk.new wf #[.string { data:=#[] },.string { data:=#[] }] 165).after hbd;have kB0:=kB.cell 0;have kB1:=kB.cell 1;have kB2:=kB.free 0;have kB3:=kB.free 1;have kbl:=kB.lt))))
        all_goals
         go_wp2_with fail
         go_meet
         first
          | exact⟨_,rfl,rfl,Blk.new _ _ _,hA.size,ba hA _⟩
          | exact⟨_,rfl,rfl,(kD.set 0 _).set 1 _,Nat.le_refl _,(hA.setCell (by simp) _).setCell (by simp) _⟩
          | exact⟨_,rfl,rfl,(kB.set 0 _).set 1 _,hl.size,(hA.setCell (by have:=hl.size;simp;omega) _).setCell (by have:=hl.size;simp;omega) _⟩
       case rest =>
        obtain⟨g15,rfl,rfl,Hb,HG,hg⟩:=hcut;obtain⟨wy,HH⟩:∃wy,wy=wc:=⟨_,rfl⟩;subst HH;clear hC hd;have hB:=own_after hX hg;have jt:=hn.after hg;have hi:=bt hH hg;have HI:=Hb.lt;have hQ:Hid (((N.lims C K).take k).length=k):=by rw[Hid,List.length_take,NSta.lims,List.length_map];omega
        rw[hQ.out]at hB;clear hg hX;have HJ:=hi.size;generalize (N.lims C K).take k=LI at hB hW hQ;obtain⟨Hc,Hd,He,Hf⟩:=Hb.x2;go_wp2_with (at_builtin;(refine wpList_append_lies _ rfl (.tmp 93) (.tmp 95) _ rfl wF.heap.size 165 i0 _ 2 32 Tryz.underlying136 HP.out HR.out HS.out HU.out rfl (by omega) u12 k (lcs LI) rfl (own_after hB (b1 _ (.cells #[.string (E l1'),.string (E l2')] 165))) ⟨wy.heap.size,0,none⟩ 1 1 [.string (E l1'),.string (E l2')] rfl rfl (Blk.new wy #[.string (E l1'),.string (E l2')] 165).cells (by simp[Value.oneCell']) (by omega) (by simp only[maxLen];omega) (by omega) (by rw[World.size_alloc];omega) (wy.heap.size+1) (by simp) ?_);intro ga ca wa hD he HL hT)
        have Hg:LmOwn wa wF.heap.size (.slice (some ⟨ga,0,none⟩) (k+1) ca) (LI++[(l1',l2')]):=by rw[LmOwn,List.length_append,hQ.out,←lcs_app];exact hD
        rw[←hW.out]at Hg;have HN:=(ba hi (.cells #[.string (E l1'),.string (E l2')] 165)).grown he (by rw[World.size_alloc];omega) (fun x hx=>(own_lt hB hx).2);clear hD he HL hT hB hi;go_wp2;go_roundw
        case rel=>exact⟨k+1,by omega,by go_num,Hg,HN⟩
        case measure=>simp[intOf];omega
     ·have ju:Hid ((N.lims C K).take k=N.lims C K):=List.take_of_length_le (by rw[NSta.lims,List.length_map,←Hn.out];omega);rw[ju.out]at hO;have jv:=hf.size;go_wp2;go_ret2
      exact⟨_,rfl,own_mono hO jv,Hy⟩
end
section
open Go.RowKit Go.Shelf
theorem rorder2_c (p:Nat) (w:World) (h1:(E p).size≤1000000) :
  Calls Tryz.prog 87 #[.string (E p),.string { data:=#[2] }] w fun e w'=>e=.returned (.int .i64 (cmpN p 2))∧Bw w w':=
 rorder_c p 2 w h1 (by decide)
def B2Post (w:World) (L:List (Nat × Nat)) (e:Ending) (w':World):Prop:=∃v u,e=.returned (.tuple #[v,u,.int .i64 0])∧NOwn w' w.heap.size v (L.map (·.1))∧NOwn w' w.heap.size u (L.map (·.2))∧Bw w w'
theorem rbounds_rule (C K:ByteArray) (v1 v2 v3:Value) (w:World) (hC:C.size≤1000) (hK:K.size≤1000) (h:(vldB C&&vldB K)=false) :
  Calls Tryz.prog 84 #[.agg #[.string C,.string K],.agg #[v1,v2,v3]] w fun e w'=>e=.returned (.tuple #[.slice none 0 0,.slice none 0 0,.int .i64 3])∧Bw w w':=by
 have HC:=Kh hC;have HK:=Kh hK;obtain⟨hR,hP,hf⟩:=blk2 w #[Value.string C,Value.string K] #[v1,v2,v3] 24 29;clear hC hK;cases h1:vldB C
 ·have HV:=Kh h1;clear h1 h;obtain⟨hb,hc,hd,he⟩:=hR.x2;go_enter Tryz.func84,Tryz.ntmps84
  go_wp2_with fail
  refine (rvalidV_c C false _ (by have:=HC.out;omega) HV.out).mono ?_;rintro e w' ⟨rfl,rfl⟩;go_wp2;go_ret3
  exact⟨rfl,hf⟩
 ·have h2:vldB K=false:=by rw[h1]at h;exact h
  have HV:=Kh h1;have hg:=Kh h2;clear h1 h2 h;obtain⟨hb,hc,hd,he⟩:=hR.x2;go_enter Tryz.func84,Tryz.ntmps84
  go_wp2_with fail
  refine (rvalidV_c C true _ (by have:=HC.out;omega) HV.out).mono ?_;rintro e w' ⟨rfl,rfl⟩;go_wp2_with fail
  refine (rvalidV_c K false _ (by have:=HK.out;omega) hg.out).mono ?_;rintro e w' ⟨rfl,rfl⟩;go_wp2;go_ret3
  exact⟨rfl,hf⟩
theorem rbounds_chk (C K:Nat) (v1 v2 v3:Value) (k:Nat) (w:World) (hC:C<256^16) (hK:K<256^16) (hk:k≠0)
  (hb:∀w',Bw w w'→Calls Tryz.prog 184 #[.agg #[v1,v2,v3]] w' fun e w''=>e=.returned (.int .i64 k)∧Bw w' w'') :
  Calls Tryz.prog 84 #[.agg #[.string (E C),.string (E K)],.agg #[v1,v2,v3]] w fun e w'=>e=.returned (.tuple #[.slice none 0 0,.slice none 0 0,.int .i64 k])∧Bw w w':=by
 have HC:=Kh (lt128' hC (by decide));have HK:=Kh (lt128' hK (by decide));have hd:=Kh hb;have hq:((k:Int) != 0)=true:=by rw[bne_iff_ne];omega
 obtain⟨hR,hP,hc⟩:=blk2 w #[.string (E C),.string (E K)] #[v1,v2,v3] 24 29;clear hC hK hb hk;obtain⟨he,hf,hg,hh⟩:=hR.x2;obtain⟨hi,hj,hl,hm,hn,ho⟩:=hP.x3;go_enter Tryz.func84,Tryz.ntmps84
 go_wp2_with fail
 refine (rvalidE_c C _ HC.out).mono ?_;rintro e w' ⟨rfl,rfl⟩;go_wp2_with fail
 refine (rvalidE_c K _ HK.out).mono ?_;rintro e w' ⟨rfl,rfl⟩;go_wp2_with fail
 refine (hd.out _ hc).mono ?_;rintro e w2 ⟨rfl,hp⟩;go_wp2;go_ret3
 exact⟨rfl,bt hc hp⟩
theorem rchk0_c (N:NSta) (v1 v2 v3:Value) (w:World) (hm:NOk N) (hS:NAt w v1 v2 v3 N) (hc:N.chk=0) :
  ∀w',Bw w w'→Calls Tryz.prog 184 #[.agg #[v1,v2,v3]] w' fun e w''=>e=.returned (.int .i64 0)∧Bw w' w'':=fun w' hb=>by
 have h:=rCheck_c N v1 v2 v3 w' hm (hS.after hb);rw[hc]at h;exact h
theorem rbounds_two (N:NSta) (C K:Nat) (v1 v2 v3:Value) (w:World) (hC:C<256^16) (hK:K<256^16) (h2:C<2∨K<2) (hm:NOk N) (hS:NAt w v1 v2 v3 N) (hc:N.chk=0) :
  Calls Tryz.prog 84 #[.agg #[.string (E C),.string (E K)],.agg #[v1,v2,v3]] w fun e w'=>e=.returned (.tuple #[.slice none 0 0,.slice none 0 0,.int .i64 2])∧Bw w w':=by
 have HC:=Kh (lt128' hC (by decide));have HK:=Kh (lt128' hK (by decide));have hy:=Kh hc;obtain⟨a1,c1,a2,c2,a3,c3,rfl,rfl,rfl⟩:=hS.forms;obtain⟨n1,hu⟩:∃n,n=N.grps.length:=⟨_,rfl⟩;obtain⟨n2,hv⟩:∃n,n=N.vars.length:=⟨_,rfl⟩;obtain⟨n3,hw⟩:∃n,n=N.eqs.length:=⟨_,rfl⟩;have hz:=Kh hu;have hA:=Kh hv;have hB:=Kh hw;have l1:n1≤10:=by rw[hu];exact hm.ng
 have l2:n2≤12:=by rw[hv];exact hm.nv
 have l3:n3≤12:=by rw[hw];exact hm.ne
 have HM:=Kh hm;rw[←hu,←hv,←hw]at hS ⊢;clear hm hu hv hw;have ht:=Kh (rchk0_c N _ _ _ w HM.out hS hy.out);obtain⟨hR,hP,hg⟩:=blk2 w #[.string (E C),.string (E K)] #[.slice a1 n1 c1,.slice a2 n2 c2,.slice a3 n3 c3] 24 29;replace hS:=hS.after hg;clear hC hK hc;by_cases hx:C<2
 ·have hlt:=cmp_neg C 2 hx;clear hx h2;obtain⟨hb,hd,he,hf⟩:=hR.x2;obtain⟨hj,hk,hl,hn,ho,hp⟩:=hP.x3;go_enter Tryz.func84,Tryz.ntmps84
  go_wp2_with fail
  refine (rvalidE_c C _ HC.out).mono ?_;rintro e w' ⟨rfl,rfl⟩;go_wp2_with fail
  refine (rvalidE_c K _ HK.out).mono ?_;rintro e w' ⟨rfl,rfl⟩;go_wp2_with fail
  refine (ht.out _ hg).mono ?_;rintro e w2 ⟨rfl,hh⟩;clear hb hd he hf;clear hj hk hl hn ho hp;replace hR:=hR.after hh;replace hP:=hP.after hh;replace hS:=hS.after hh;replace hg:=bt hg hh;clear hh;have hq:=hR.lt;have hr:=hP.lt;obtain⟨hb,hd,he,hf⟩:=hR.x2;go_wp2_with fail
  refine (rorder2_c C _ (szM HC.out)).mono ?_;rintro e w3 ⟨rfl,hi⟩;clear hb hd he hf;replace hR:=hR.after hi;replace hP:=hP.after hi;replace hS:=hS.after hi;replace hg:=bt hg hi;clear hi hq hr;have hq:=hR.lt;have hr:=hP.lt;go_wp2;go_ret3
  exact⟨rfl,hg⟩
 ·have hD:=cmp_nneg C 2 (by omega);have hlt:=cmp_neg K 2 (by omega);clear hx h2;obtain⟨hb,hd,he,hf⟩:=hR.x2;obtain⟨hj,hk,hl,hn,ho,hp⟩:=hP.x3;go_enter Tryz.func84,Tryz.ntmps84
  go_wp2_with fail
  refine (rvalidE_c C _ HC.out).mono ?_;rintro e w' ⟨rfl,rfl⟩;go_wp2_with fail
  refine (rvalidE_c K _ HK.out).mono ?_;rintro e w' ⟨rfl,rfl⟩;go_wp2_with fail
  refine (ht.out _ hg).mono ?_;rintro e w2 ⟨rfl,hh⟩;clear hb hd he hf;clear hj hk hl hn ho hp;replace hR:=hR.after hh;replace hP:=hP.after hh;replace hS:=hS.after hh;replace hg:=bt hg hh;clear hh;have hq:=hR.lt;have hr:=hP.lt;obtain⟨hb,hd,he,hf⟩:=hR.x2;go_wp2_with fail
  refine (rorder2_c C _ (szM HC.out)).mono ?_;rintro e w3 ⟨rfl,hi⟩;clear hb hd he hf;replace hR:=hR.after hi;replace hP:=hP.after hi;replace hS:=hS.after hi;replace hg:=bt hg hi;clear hi hq hr;have hq:=hR.lt;have hr:=hP.lt;obtain⟨hb,hd,he,hf⟩:=hR.x2;go_wp2_with fail
  refine (rorder2_c K _ (szM HK.out)).mono ?_;rintro e w4 ⟨rfl,hb4⟩;clear hb hd he hf;replace hR:=hR.after hb4;replace hP:=hP.after hb4;replace hS:=hS.after hb4;replace hg:=bt hg hb4;clear hb4 hq hr;have hq:=hR.lt;have hr:=hP.lt;go_wp2;go_ret3
  exact⟨rfl,hg⟩
theorem rbounds_ord (N:NSta) (C K:Nat) (v1 v2 v3:Value) (w:World) (hC:C<256^16) (hK:K<256^16) (h2:2≤C) (h3:2≤K) (hv:N.vars.any vz=true) (ho:N.ord<C) (hm:NOk N) (hS:NAt w v1 v2 v3 N) (hc:N.chk=0) :
  Calls Tryz.prog 84 #[.agg #[.string (E C),.string (E K)],.agg #[v1,v2,v3]] w fun e w'=>e=.returned (.tuple #[.slice none 0 0,.slice none 0 0,.int .i64 2])∧Bw w w':=by
 have HC:=Kh (lt128' hC (by decide));have HK:=Kh (lt128' hK (by decide));have HO:=Kh ho;have HV:=Kh hv;have hI:=Kh hc;obtain⟨a1,c1,a2,c2,a3,c3,rfl,rfl,rfl⟩:=hS.forms;obtain⟨n1,hA⟩:∃n,n=N.grps.length:=⟨_,rfl⟩;obtain⟨n2,hB⟩:∃n,n=N.vars.length:=⟨_,rfl⟩;obtain⟨n3,hD⟩:∃n,n=N.eqs.length:=⟨_,rfl⟩;have hQ:=Kh hA;have hG:=Kh hB;have hT:=Kh hD;have l1:n1≤10:=by rw[hA];exact hm.ng
 have l2:n2≤12:=by rw[hB];exact hm.nv
 have l3:n3≤12:=by rw[hD];exact hm.ne
 have HM:=Kh hm;rw[←hA,←hB,←hD]at hS ⊢;clear hm hA hB hD;have hF:=Kh (rchk0_c N _ _ _ w HM.out hS hI.out);obtain⟨hR,hP,hg⟩:=blk2 w #[.string (E C),.string (E K)] #[.slice a1 n1 c1,.slice a2 n2 c2,.slice a3 n3 c3] 24 29;replace hS:=hS.after hg;have hU:=cmp_nneg C 2 h2;have hJ:=cmp_nneg K 2 h3;clear hC hK hc h2 h3 hv ho;obtain⟨hb,hd,he,hf⟩:=hR.x2;obtain⟨hh,hi,hj,hl,hn,hp⟩:=hP.x3;go_enter Tryz.func84,Tryz.ntmps84
 go_wp2_with fail
 refine (rvalidE_c C _ HC.out).mono ?_;rintro e w' ⟨rfl,rfl⟩;go_wp2_with fail
 refine (rvalidE_c K _ HK.out).mono ?_;rintro e w' ⟨rfl,rfl⟩;go_wp2_with fail
 refine (hF.out _ hg).mono ?_;rintro e w2 ⟨rfl,ht⟩;clear hb hd he hf;clear hh hi hj hl hn hp;replace hR:=hR.after ht;replace hP:=hP.after ht;replace hS:=hS.after ht;replace hg:=bt hg ht;clear ht;have hq:=hR.lt;have hr:=hP.lt;obtain⟨hb,hd,he,hf⟩:=hR.x2;go_wp2_with fail
 refine (rorder2_c C _ (szM HC.out)).mono ?_;rintro e w3 ⟨rfl,hu⟩;clear hb hd he hf;replace hR:=hR.after hu;replace hP:=hP.after hu;replace hS:=hS.after hu;replace hg:=bt hg hu;clear hu hq hr;have hq:=hR.lt;have hr:=hP.lt;obtain⟨hb,hd,he,hf⟩:=hR.x2;go_wp2_with fail
 refine (rorder2_c K _ (szM HK.out)).mono ?_;rintro e w4 ⟨rfl,hb4⟩;clear hb hd he hf;replace hR:=hR.after hb4;replace hP:=hP.after hb4;replace hS:=hS.after hb4;replace hg:=bt hg hb4;clear hb4 hq hr;have hq:=hR.lt;have hr:=hP.lt;obtain⟨hh,hi,hj,hl,hn,hp⟩:=hP.x3;go_wp2_with fail
 refine (rorder16_c N _ _ _ _ HM.out hS).mono ?_;rintro e wx ⟨rfl,hw⟩;clear hh hi hj hl hn hp;replace hR:=hR.after hw;replace hP:=hP.after hw;replace hS:=hS.after hw;replace hg:=bt hg hw;clear hw hq hr;have hH:=Kh (ord_lt HM.out);obtain⟨qd,hE⟩:∃q,q=N.ord:=⟨_,rfl⟩;rw[←hE];have HQ:=Kh hE;rw[←hE]at hH;clear hE;go_wp2;go_loopw [9] (fun i wr=>∃k:Nat,k≤n2∧i=.int .i64 k∧Hid ((N.vars.take k).any vz=false)∧Bw wx wr) (fun i _=>n2-(intOf i).toNat)
 case atStart=>exact⟨0,by omega,rfl,rfl,Br⟩
 case round =>
  obtain⟨k,hk,rfl,HA,hx⟩:=hrel;obtain⟨wp,hL⟩:∃wp,wp=wr:=⟨_,rfl⟩;subst hL;replace hR:=hR.after hx;replace hP:=hP.after hx;replace hS:=hS.after hx;replace hg:=bt hg hx;have hq:=hR.lt;have hr:=hP.lt;by_cases hlt:k<n2
  ·have hy:k<N.vars.length:=by rw[←hG.out];exact hlt
   obtain⟨b,o,rfl,hV,x1⟩:=hS.vat hy;have hM:Hid ((N.vars[k]'hy)∈N.vars):=Gm hy;have HT:=Kh (any_take vz N.vars k hy);generalize (N.vars[k]'hy)=s1 at x1 hM HT;have hW:(0:Int)≤(k:Int):=by omega
   have hX:(k:Int)<(n2:Int):=by omega
   rcases Nat.eq_zero_or_pos s1 with rfl | h0
   ·have hz:=zE (n:=0) rfl;obtain⟨hh,hi,hj,hl,hn,hp⟩:=hP.x3;obtain⟨hb,hd,he,hf⟩:=hR.x2;have hY:=cmp_pos C qd (by rw[HQ.out];exact HO.out);go_wp2_with fail
    refine (rorder_c C qd _ (szM HC.out) (szM (lt128 hH.out))).mono ?_;rintro e w6 ⟨rfl,hN⟩;go_wp2;go_ret3
    exact⟨rfl,bt hg hN⟩
   ·have hz:=nzE h0;have HX:Hid ((N.vars.take (k+1)).any vz=(N.vars.take k).any vz):=by rw[Hid,HT.out,vz_pos h0,Bool.or_false]
    obtain⟨hh,hi,hj,hl,hn,hp⟩:=hP.x3;obtain⟨hb,hd,he,hf⟩:=hR.x2;go_wp2;go_roundw
    case rel=>exact⟨k+1,by omega,by go_num,by rw[Hid,HX.out];exact HA.out,hx⟩
    case measure=>simp[intOf];omega
  ·have hO:N.vars.any vz=false:=any_end vz N.vars k (by rw[←hG.out];omega) HA.out;exact absurd (hO.symm.trans HV.out) (by decide)
structure RRel (wF:World) (L:List (Nat × Nat)) (v10 v11:Value) (wr:World):Prop where
 a:NOwn wr wF.heap.size v10 (L.map (·.1))
 z:NOwn wr wF.heap.size v11 (L.map (·.2))
 d:∀g,v10.ownBlock=some g→v11.ownBlock≠some g
 b:Bw wF wr
theorem szk {n k:Nat} (h:n<256^k) (hk:k≤1000):(E n).size≤1000:=Nat.le_trans ((E_size_le n k).2 h) hk
theorem sz8 {n:Nat} (h:n<256^16):(E n).size≤1000:=szk h (by decide)
theorem rbounds_ok (N:NSta) (C K:Nat) (v1 v2 v3:Value) (w:World) (hC:C<256^16) (hK:K<256^16) (h2:2≤C) (h3:2≤K) (hv:N.vars.any vz=true→C≤N.ord) (hm:NOk N) (hS:NAt w v1 v2 v3 N) (hc:N.chk=0) :
  Calls Tryz.prog 84 #[.agg #[.string (E C),.string (E K)],.agg #[v1,v2,v3]] w (B2Post w (N.lims C K)):=by
 obtain⟨i0,H7,Ha,Hb,Hc⟩:=info_parts info_nat;have Hr:=Kh H7;have Hs:=Kh Ha;have Ht:=Kh Hb;have Hu:=Kh Hc;clear H7 Ha Hb Hc;have HC:=Kh (lt128' hC (by decide));have HK:=Kh (lt128' hK (by decide));have HF:=Kh hC;have H8:=Kh hK;have jp:Hid (1≤C):=by unfold Hid;omega
 have jq:Hid (1≤K):=by unfold Hid;omega
 have HV:=Kh hv;have jr:=Kh hc;obtain⟨a1,c1,a2,c2,a3,c3,rfl,rfl,rfl⟩:=hS.forms;obtain⟨n1,Hv⟩:∃n,n=N.grps.length:=⟨_,rfl⟩;obtain⟨n2,Hw⟩:∃n,n=N.vars.length:=⟨_,rfl⟩;obtain⟨n3,Hx⟩:∃n,n=N.eqs.length:=⟨_,rfl⟩;have jA:=Kh Hv;have HG:=Kh Hw;have jB:=Kh Hx;have l1:n1≤10:=by rw[Hv];exact hm.ng
 have l2:n2≤12:=by rw[Hw];exact hm.nv
 have l3:n3≤12:=by rw[Hx];exact hm.ne
 have HM:=Kh hm;rw[←Hv,←Hw,←Hx]at hS ⊢;clear hm Hv Hw Hx;have HH:=Kh (rchk0_c N _ _ _ w HM.out hS jr.out);obtain⟨hR,hP,hw⟩:=blk2 w #[.string (E C),.string (E K)] #[.slice a1 n1 c1,.slice a2 n2 c2,.slice a3 n3 c3] 24 29;replace hS:=hS.after hw;have jC:=cmp_nneg C 2 h2;have js:=cmp_nneg K 2 h3;clear hC hK hc h2 h3 hv;obtain⟨hi,hj,hl,hn⟩:=hR.x2;obtain⟨hx,hy,hA,hB,hD,hE⟩:=hP.x3;go_enter Tryz.func84,Tryz.ntmps84
 go_wp2_with fail
 refine (rvalidE_c C _ HC.out).mono ?_;rintro e w' ⟨rfl,rfl⟩;go_wp2_with fail
 refine (rvalidE_c K _ HK.out).mono ?_;rintro e w' ⟨rfl,rfl⟩;go_wp2_with fail
 refine (HH.out _ hw).mono ?_;rintro e w2 ⟨rfl,Hd⟩;clear hi hj hl hn;clear hx hy hA hB hD hE;replace hR:=hR.after Hd;replace hP:=hP.after Hd;replace hS:=hS.after Hd;replace hw:=bt hw Hd;clear Hd;have hO:=hR.lt;have hY:=hP.lt;obtain⟨hi,hj,hl,hn⟩:=hR.x2;go_wp2_with fail
 refine (rorder2_c C _ (szM HC.out)).mono ?_;rintro e w3 ⟨rfl,He⟩;clear hi hj hl hn;replace hR:=hR.after He;replace hP:=hP.after He;replace hS:=hS.after He;replace hw:=bt hw He;clear He hO hY;have hO:=hR.lt;have hY:=hP.lt;obtain⟨hi,hj,hl,hn⟩:=hR.x2;go_wp2_with fail
 refine (rorder2_c K _ (szM HK.out)).mono ?_;rintro e w4 ⟨rfl,hb4⟩;clear hi hj hl hn;replace hR:=hR.after hb4;replace hP:=hP.after hb4;replace hS:=hS.after hb4;replace hw:=bt hw hb4;clear hb4 hO hY;have hO:=hR.lt;have hY:=hP.lt;obtain⟨hx,hy,hA,hB,hD,hE⟩:=hP.x3;go_wp2_with fail
 refine (rorder16_c N _ _ _ _ HM.out hS).mono ?_;rintro e wx ⟨rfl,Hf⟩;clear hx hy hA hB hD hE;replace hR:=hR.after Hf;replace hP:=hP.after Hf;replace hS:=hS.after Hf;replace hw:=bt hw Hf;clear Hf hO hY;have H9:=Kh (ord_lt HM.out);obtain⟨qd,Hy⟩:∃q,q=N.ord:=⟨_,rfl⟩;rw[←Hy];have HQ:=Kh Hy;rw[←Hy]at H9;clear Hy;go_wp2;go_loopw [9] (fun i wr=>∃k:Nat,k≤n2∧i=.int .i64 k∧Hid (0≤k)∧Bw wx wr) (fun i _=>n2-(intOf i).toNat)
 case atStart=>exact⟨0,by omega,rfl,Nat.zero_le _,Br⟩
 case round =>
  obtain⟨k,hk,rfl,HA,hh⟩:=hrel;obtain⟨wp,jt⟩:∃wp,wp=wr:=⟨_,rfl⟩;subst jt;replace hR:=hR.after hh;replace hP:=hP.after hh;replace hS:=hS.after hh;replace hw:=bt hw hh;have hO:=hR.lt;have hY:=hP.lt;by_cases hlt:k<n2
  ·have hX:k<N.vars.length:=by rw[←HG.out];exact hlt
   obtain⟨b,o,rfl,ja,x1⟩:=hS.vat hX;have jb:Hid ((N.vars[k]'hX)∈N.vars):=Gm hX;have HT:=Kh (any_take vz N.vars k hX);generalize (N.vars[k]'hX)=s1 at x1 jb HT;have ju:(0:Int)≤(k:Int):=by omega
   have jv:(k:Int)<(n2:Int):=by omega
   rcases Nat.eq_zero_or_pos s1 with rfl | h0
   ·have hz:=zE (n:=0) rfl;obtain⟨hx,hy,hA,hB,hD,hE⟩:=hP.x3;obtain⟨hi,hj,hl,hn⟩:=hR.x2;have jD:=cmp_npos C qd (by rw[HQ.out];exact HV.out (List.any_eq_true.2 ⟨_,jb.out,rfl⟩));go_wp2_with fail
    refine (rorder_c C qd _ (szM HC.out) (szM (lt128 H9.out))).mono ?_;rintro e w6 ⟨rfl,jw⟩;go_wp2;go_roundw
    case rel=>exact⟨k+1,by omega,by go_num,Nat.zero_le _,bt hh jw⟩
    case measure=>simp[intOf];omega
   ·have hz:=nzE h0;have HX:Hid ((N.vars.take (k+1)).any vz=(N.vars.take k).any vz):=by rw[Hid,HT.out,vz_pos h0,Bool.or_false]
    obtain⟨hx,hy,hA,hB,hD,hE⟩:=hP.x3;obtain⟨hi,hj,hl,hn⟩:=hR.x2;go_wp2;go_roundw
    case rel=>exact⟨k+1,by omega,by go_num,Nat.zero_le _,hh⟩
    case measure=>simp[intOf];omega
  ·clear hh HA;obtain⟨hx,hy,hA,hB,hD,hE⟩:=hP.x3;obtain⟨hi,hj,hl,hn⟩:=hR.x2;go_wp2;clear hx hy hA hB hD hE;clear hi hj hl hn;clear hO hY;obtain⟨wF,jc⟩:∃wF,wF=wp:=⟨_,rfl⟩;rw[←jc]at hR hP hS hw ⊢;clear jc;go_loopw [10,11,12] (fun v10 v11 i wr=>∃k:Nat,k≤n2∧i=.int .i64 k∧RRel wF ((N.lims C K).take k) v10 v11 wr) (fun _ _ i _=>n2-(intOf i).toNat)
   case atStart=>exact⟨0,by omega,rfl,⟨World.ownsRow_nil _ _ _ _,World.ownsRow_nil _ _ _ _,fun g h=>by simp[Value.ownBlock]at h,Br⟩⟩
   case round =>
    clear hlt hk;obtain⟨k,hk,rfl,hI⟩:=hrel;obtain⟨wq,HI⟩:∃wq,wq=wr:=⟨_,rfl⟩;subst HI;have hh:=hI.b;have jd:=hS.after hh;have h6:=hP.after hh;have h4:=hR.after hh;have hQ:=bt hw hh;have hY:=h6.lt;have hO:=h4.lt;by_cases hlt:k<n2
    ·have hX:k<N.vars.length:=by rw[←HG.out];exact hlt
     have Hg:=Kh (HM.out.v _ (Gm hX));have Hz:=Kh (lims_step N C K k hX);obtain⟨b0,o0,rfl,ja,x1⟩:=jd.vat hX;generalize (N.vars[k]'hX)=b at x1 Hg Hz;have ju:(0:Int)≤(k:Int):=by omega
     have jv:(k:Int)<(n2:Int):=by omega
     obtain⟨l1',HJ⟩:∃x,x=(lim N.ord C K b).1:=⟨_,rfl⟩;obtain⟨l2',HL⟩:∃x,x=(lim N.ord C K b).2:=⟨_,rfl⟩;have hT:Hid (((N.lims C K).take (k+1)).map (·.1)=((N.lims C K).take k).map (·.1)++[l1']):=by rw[Hid,Hz.out,List.map_append,HJ];rfl
     have hU:Hid (((N.lims C K).take (k+1)).map (·.2)=((N.lims C K).take k).map (·.2)++[l2']):=by rw[Hid,Hz.out,List.map_append,HL];rfl
     have HN:=Kh HJ;have HO:=Kh HL;clear HJ HL Hz;have HP:(((N.lims C K).take k).map (·.1)).length=k:=by rw[List.length_map,List.length_take,NSta.lims,List.length_map];omega
     have HR:(((N.lims C K).take k).map (·.2)).length=k:=by rw[List.length_map,List.length_take,NSta.lims,List.length_map];omega
     have ho:wq.ownsRow wF.heap.size 22 1 u10 k (strs (((N.lims C K).take k).map (·.1))):=by have h:wq.ownsRow _ _ _ _ _ _:=hI.a;rw[HP]at h;exact h
     have he:wq.ownsRow wF.heap.size 22 1 u11 k (strs (((N.lims C K).take k).map (·.2))):=by have h:wq.ownsRow _ _ _ _ _ _:=hI.z;rw[HR]at h;exact h
     have HB:=Kh hI.d;have HS:=Kh HP;have HU:=Kh HR;clear hI HP HR;generalize ((N.lims C K).take k).map (·.1)=LA at ho hT HS;generalize ((N.lims C K).take k).map (·.2)=LB at he hU HU;have HW:=hh.size;rcases Nat.eq_zero_or_pos b with rfl | h0
     ·have hz:=zE (n:=0) rfl;have h9:Hid (l1'=qd):=by rw[Hid,HN.out,HQ.out];rfl
      have h5:Hid (l2'=qd):=by rw[Hid,HO.out,HQ.out];rfl
      rw[h9.out]at hT;rw[h5.out]at hU;obtain⟨hF,hG,hH,hJ,hL,hM⟩:=h6.x3;obtain⟨hp,hq,hr,ht⟩:=h4.x2;go_wp2_with (first | (at_builtin;refine wpList_append_lies _ rfl (.tmp 79) (.tmp 81) _ rfl wF.heap.size 22 i0 _ 1 16 Tryz.underlying31 Hr.out Hs.out Ht.out Hu.out rfl (by omega) u10 k (strs LA) rfl (own_after ho (b1 _ (.cells #[.string (E qd)] 22))) ⟨wq.heap.size,0,none⟩ 1 1 [.string (E qd)] rfl rfl (Blk.new wq #[.string (E qd)] 22).cells (by simp[Value.oneCell']) (by omega) (by simp only[maxLen];omega) (by omega) (by rw[World.size_alloc];omega) (wq.heap.size+1) (by simp) ?_;intro ga ca wa hf hb hV h7;have hZ:wa.ownsRow wF.heap.size 22 1 u11 k (strs LB):=own_keep (own_after he (b1 _ (.cells #[.string (E qd)] 22))) (fun g hv=>hb.block g (Nl (own_lt he hv).1 (b1 wq _).size) (fun e=>HB.out g e.symm hv));have Hh:Bw wF wa:=Below.grown (ba hh (.cells #[.string (E qd)] 22)) hb (by rw[World.size_alloc];omega) (fun g hg=>(own_lt ho hg).2);have jx:=Hh.size;have Hi:Hid (∀g,u11.ownBlock=some g→g≠ga):=(fun g hg e=>by subst e;rcases hV with h | h;exact HB.out _ h hg;exact absurd (own_lt he hg).1 (by omega));clear hV h7 hb) | (at_builtin;refine wpList_append_lies _ rfl (.tmp 83) (.tmp 85) _ rfl wF.heap.size 22 i0 _ 1 16 Tryz.underlying31 Hr.out Hs.out Ht.out Hu.out rfl (by omega) u11 k (strs LB) rfl (own_after hZ (b1 _ (.cells #[.string (E qd)] 22))) ⟨wa.heap.size,0,none⟩ 1 1 [.string (E qd)] rfl rfl (Blk.new wa #[.string (E qd)] 22).cells (by simp[Value.oneCell']) (by omega) (by simp only[maxLen];omega) (by omega) (by rw[World.size_alloc];omega) (wa.heap.size+1) (by simp) ?_;intro gb cb wb hu hd hW h8))
      clear hF hG hH hJ hL hM;clear hp hq hr ht;have Hj:wb.ownsRow wF.heap.size 22 1 (.slice (some ⟨ga,0,none⟩) (k+1) ca) (k+1) (strs LA++[.string (E qd)]):=own_keep (own_after hf (b1 _ (.cells #[.string (E qd)] 22))) (fun g hv=>hd.block g (Nl (own_lt hf hv).1 (b1 _ _).size) (fun e=>by have e1:ga=g:=(by simpa [Value.ownBlock] using hv);exact Hi.out g e.symm e1.symm));have HY:Bw wF wb:=Below.grown (ba Hh (.cells #[.string (E qd)] 22)) hd (by rw[World.size_alloc];omega) (fun g hg=>(own_lt hZ hg).2)
      have HZ:Hid (∀g,(Value.slice (some ⟨ga,0,none⟩) (k+1) ca).ownBlock=some g→(Value.slice (some ⟨gb,0,none⟩) (k+1) cb).ownBlock≠some g):=by
       intro g h1 h2;have e1:ga=g:=by simpa [Value.ownBlock] using h1
       have e2:gb=g:=by simpa [Value.ownBlock] using h2
       have jy:=(own_lt hf h1).1;rcases hW with h | h
       ·exact Hi.out gb h (e2.trans e1.symm)
       ·omega
      clear hW h8 hd;have Hk:NOwn wb wF.heap.size (.slice (some ⟨ga,0,none⟩) (k+1) ca) (LA++[qd]):=by rw[NOwn,List.length_append,HS.out,←strs_app];exact Hj
      have Hl:NOwn wb wF.heap.size (.slice (some ⟨gb,0,none⟩) (k+1) cb) (LB++[qd]):=by rw[NOwn,List.length_append,HU.out,←strs_app];exact hu
      rw[show LA++[qd]=((N.lims C K).take (k+1)).map (·.1) by rw[hT.out]]at Hk;rw[show LB++[qd]=((N.lims C K).take (k+1)).map (·.2) by rw[hU.out]]at Hl;clear Hj hu hf;go_wp2;go_roundw
      case rel=>exact⟨k+1,by omega,by go_num,⟨Hk,Hl,HZ.out,HY⟩⟩
      case measure=>simp[intOf];omega
     ·have hz:=nzE h0;have h9:Hid (l1'=K*C*b):=by rw[Hid,HN.out,lim,if_neg (by omega)]
      have h5:Hid (l2'=K*C*b-(C-1)*(b-1)):=by rw[Hid,HO.out,lim,if_neg (by omega)]
      have H3:=Kh (lt_mul3 HF.out H8.out Hg.out);have Hm:=Kh (mul_cb (C:=C) (b:=b) jq.out);have H0:Hid (1≤b):=h0;clear h0;obtain⟨m1,H1⟩:∃m,m=K*C:=⟨_,rfl⟩;rw[←H1]at H3 Hm h9 h5;obtain⟨m2,H2⟩:∃m,m=m1*b:=⟨_,rfl⟩;rw[←H2]at H3 Hm h9 h5;obtain⟨e1,H4⟩:∃m,m=(C-1)*(b-1):=⟨_,rfl⟩;rw[←H4]at Hm h5;have je:Hid (∀w,Calls Tryz.prog 186 #[.string (E K),.string (E C)] w fun e w'=>e=.returned (.string (E m1))∧Bw w w'):=fun w=>by rw[H1];exact rtimes_c K C w (sz8 H8.out) (sz8 HF.out)
      have jf:Hid (∀w,Calls Tryz.prog 186 #[.string (E m1),.string (E b)] w fun e w'=>e=.returned (.string (E m2))∧Bw w w'):=fun w=>by rw[H2];exact rtimes_c m1 b w (szk H3.out.1 (by decide)) (szk Hg.out (by decide))
      have HD:Hid (∀w,Calls Tryz.prog 186 #[.string (E (C-1)),.string (E (b-1))] w fun e w'=>e=.returned (.string (E e1))∧Bw w w'):=fun w=>by rw[H4];exact rtimes_c (C-1) (b-1) w (szk (Nat.lt_of_le_of_lt (Nat.sub_le _ _) HF.out) (by decide)) (szk (Nat.lt_of_le_of_lt (Nat.sub_le _ _) Hg.out) (by decide))
      have H5:Hid (m2<256^128):=lt128' H3.out.2 (by decide);clear H1 H2 H4;generalize jg:C-1=c1 at HD;generalize jh:b-1=d1 at HD;have Hn:Hid (∀w,Calls Tryz.prog 187 #[.string (E C),.string { data:=#[1] }] w fun e w'=>e=.returned (.string (E c1))∧Bw w w'):=fun w=>by rw[←jg];exact rminus1_c C w (szM HC.out) jp.out
      have Ho:Hid (∀w,Calls Tryz.prog 187 #[.string (E b),.string { data:=#[1] }] w fun e w'=>e=.returned (.string (E d1))∧Bw w w'):=fun w=>by rw[←jh];exact rminus1_c b w (szM (lt128' Hg.out (by decide))) H0.out
      have Hp:Hid (∀w,Calls Tryz.prog 187 #[.string (E m2),.string (E e1)] w fun e w'=>e=.returned (.string (E (m2-e1)))∧Bw w w'):=fun w=>rminus_c m2 e1 w (szM H5.out) Hm.out
      generalize hdf:m2-e1=df at Hp h5;have jE:=Kh hdf;clear jg jh hdf;rw[h9.out]at hT;rw[h5.out]at hU;clear h9 h5 HN HO Hm H3;obtain⟨hF,hG,hH,hJ,hL,hM⟩:=h6.x3;obtain⟨hp,hq,hr,ht⟩:=h4.x2;go_wp2_with fail
      refine (je.out _).mono ?_;rintro e y1 ⟨rfl,hy1⟩;go_wp2_with fail
      refine (jf.out _).mono ?_;rintro e y2 ⟨rfl,ji⟩;clear hF hG hH hJ hL hM;clear hp hq hr ht;have hN:=bt hy1 ji;replace h4:=h4.after hN;replace h6:=h6.after hN;replace hh:=bt hh hN;replace ho:=own_after ho hN;replace he:=own_after he hN;replace hQ:=bt hQ hN;clear hy1 ji hN hO hY x1 ja jd;have hO:=h4.lt;obtain⟨hp,hq,hr,ht⟩:=h4.x2;go_wp2_with fail
      refine (Hn.out _).mono ?_;rintro e y3 ⟨rfl,jj⟩;go_wp2_with fail
      refine (Ho.out _).mono ?_;rintro e y4 ⟨rfl,jk⟩;go_wp2_with fail
      refine (HD.out _).mono ?_;rintro e y5 ⟨rfl,jl⟩;go_wp2_with fail
      refine (rvalidV_c (E m2) true _ (by have:=szM H5.out;omega) (vldB_E m2 H5.out)).mono ?_;rintro e w' ⟨rfl,rfl⟩;clear hp hq hr ht;have hN:=bt (bt jj jk) jl;replace hh:=bt hh hN;replace ho:=own_after ho hN;replace he:=own_after he hN;replace hQ:=bt hQ hN;replace HW:=hh.size;clear jj jk jl hN hO h4 h6 je jf HD Hn Ho;obtain⟨wq,HI⟩:∃wq,wq=y5:=⟨_,rfl⟩;subst HI;go_wp2_with (at_builtin;refine wpList_append_lies _ rfl (.tmp 103) (.tmp 105) _ rfl wF.heap.size 22 i0 _ 1 16 Tryz.underlying31 Hr.out Hs.out Ht.out Hu.out rfl (by omega) u10 k (strs LA) rfl (own_after ho (b1 _ (.cells #[.string (E m2)] 22))) ⟨wq.heap.size,0,none⟩ 1 1 [.string (E m2)] rfl rfl (Blk.new wq #[.string (E m2)] 22).cells (by simp[Value.oneCell']) (by omega) (by simp only[maxLen];omega) (by omega) (by rw[World.size_alloc];omega) (wq.heap.size+1) (by simp) ?_;intro ga ca wa hf hb hV h7;have hZ:wa.ownsRow wF.heap.size 22 1 u11 k (strs LB):=own_keep (own_after he (b1 _ (.cells #[.string (E m2)] 22))) (fun g hv=>hb.block g (Nl (own_lt he hv).1 (b1 wq _).size) (fun e=>HB.out g e.symm hv));have Hh:Bw wF wa:=Below.grown (ba hh (.cells #[.string (E m2)] 22)) hb (by rw[World.size_alloc];omega) (fun g hg=>(own_lt ho hg).2);have jx:=Hh.size;have Hi:Hid (∀g,u11.ownBlock=some g→g≠ga):=(fun g hg e=>by subst e;rcases hV with h | h;exact HB.out _ h hg;exact absurd (own_lt he hg).1 (by omega));clear hV h7 hb)
      refine (Hp.out _).mono ?_;rintro e wm ⟨rfl,HE⟩;have H6:=own_after hf HE;have Hq:=own_after hZ HE;have jm:=bt Hh HE;have jF:=jm.size;clear HE;go_wp2_with (at_builtin;refine wpList_append_lies _ rfl (.tmp 107) (.tmp 111) _ rfl wF.heap.size 22 i0 _ 1 16 Tryz.underlying31 Hr.out Hs.out Ht.out Hu.out rfl (by omega) u11 k (strs LB) rfl (own_after Hq (b1 _ (.cells #[.string (E df)] 22))) ⟨wm.heap.size,0,none⟩ 1 1 [.string (E df)] rfl rfl (Blk.new wm #[.string (E df)] 22).cells (by simp[Value.oneCell']) (by omega) (by simp only[maxLen];omega) (by omega) (by rw[World.size_alloc];omega) (wm.heap.size+1) (by simp) ?_;intro gb cb wb hu hd hW h8)
      have Hj:wb.ownsRow wF.heap.size 22 1 (.slice (some ⟨ga,0,none⟩) (k+1) ca) (k+1) (strs LA++[.string (E m2)]):=own_keep (own_after H6 (b1 _ (.cells #[.string (E df)] 22))) (fun g hv=>hd.block g (Nl (own_lt H6 hv).1 (b1 _ _).size) (fun e=>by have e1:ga=g:=(by simpa [Value.ownBlock] using hv);exact Hi.out g e.symm e1.symm));have HY:Bw wF wb:=Below.grown (ba jm (.cells #[.string (E df)] 22)) hd (by rw[World.size_alloc];omega) (fun g hg=>(own_lt Hq hg).2)
      have HZ:Hid (∀g,(Value.slice (some ⟨ga,0,none⟩) (k+1) ca).ownBlock=some g→(Value.slice (some ⟨gb,0,none⟩) (k+1) cb).ownBlock≠some g):=by
       intro g h1 h2;have e1:ga=g:=by simpa [Value.ownBlock] using h1
       have e2:gb=g:=by simpa [Value.ownBlock] using h2
       have jy:=(own_lt H6 h1).1;rcases hW with h | h
       ·exact Hi.out gb h (e2.trans e1.symm)
       ·omega
      clear hW h8 hd;have Hk:NOwn wb wF.heap.size (.slice (some ⟨ga,0,none⟩) (k+1) ca) (LA++[m2]):=by rw[NOwn,List.length_append,HS.out,←strs_app];exact Hj
      have Hl:NOwn wb wF.heap.size (.slice (some ⟨gb,0,none⟩) (k+1) cb) (LB++[df]):=by rw[NOwn,List.length_append,HU.out,←strs_app];exact hu
      rw[show LA++[m2]=((N.lims C K).take (k+1)).map (·.1) by rw[hT.out]]at Hk;rw[show LB++[df]=((N.lims C K).take (k+1)).map (·.2) by rw[hU.out]]at Hl;clear Hj hu hf;go_wp2;go_roundw
      case rel=>exact⟨k+1,by omega,by go_num,⟨Hk,Hl,HZ.out,HY⟩⟩
      case measure=>simp[intOf];omega
    ·have jz:Hid ((N.lims C K).take k=N.lims C K):=List.take_of_length_le (by rw[NSta.lims,List.length_map,←HG.out];omega);have ha:=hI.a;have jn:=hI.z;rw[jz.out]at ha jn;have jo:=hw.size;obtain⟨hF,hG,hH,hJ,hL,hM⟩:=h6.x3;go_wp2;go_ret3
     exact⟨_,_,rfl,own_mono ha jo,own_mono jn jo,hQ⟩
end
end Go.Proofs.YtihjpddbjhcbmaaGreatDoor
