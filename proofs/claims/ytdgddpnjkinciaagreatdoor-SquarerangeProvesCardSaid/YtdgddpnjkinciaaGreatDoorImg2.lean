import Derived.Test.YtdgddpnjkinciaaGreatDoorRow27
import Derived.Test.YtdgddpnjkinciaaGreatDoorLck6
import Derived.Deep.RegionHeld3
set_option linter.all false
set_option maxRecDepth 100000
set_option maxHeartbeats 16000000
namespace Go.Proofs.YtdgddpnjkinciaaGreatDoor
section
open Go.RowKit
theorem imul_c (x y:Int) (w:World) (hx:x.natAbs<256^128) (hy:y.natAbs<256^128) (hl:x.natAbs*y.natAbs<256^128) :
  Calls Tryz.prog 54 #[.agg #[.bool (sg (x)),.string (E (x).natAbs)],.agg #[.bool (sg (y)),.string (E (y).natAbs)]] w fun e w'=>e=.returned (.tuple #[.agg #[.bool (sg (x*y)),.string (E (x*y).natAbs)],.int .i64 0])∧Bw w w':=by
 have HX:=Kh hx;have HY:=Kh hy;have hp:=Kh hl;have hs:=(E_size_le _ 128).2 hl;clear hx hy hl;have HM:=Kh (mul_made x y);have hA:=blk3a w #[Value.bool (sg x),Value.string (E x.natAbs)] #[Value.bool (sg y),Value.string (E y.natAbs)] #[Value.bool false,Value.string { data:=#[] }] 28 28 28;have hB:=blk3b w #[Value.bool (sg x),Value.string (E x.natAbs)] #[Value.bool (sg y),Value.string (E y.natAbs)] #[Value.bool false,Value.string { data:=#[] }] 28 28 28;have hC:=blk3c w #[Value.bool (sg x),Value.string (E x.natAbs)] #[Value.bool (sg y),Value.string (E y.natAbs)] #[Value.bool false,Value.string { data:=#[] }] 28 28 28;go_enter Tryz.func54,Tryz.ntmps54
 go_wp2_with fail
 refine (iboth_c x y _ HX.out HY.out).mono ?_;rintro e w1 ⟨rfl,hj⟩;replace hA:=hA.after hj;replace hB:=hB.after hj;replace hC:=hC.after hj;obtain⟨hb,hc,hd,he⟩:=hA.x2;obtain⟨hf,hg,hh,hi⟩:=hB.x2;go_wp2_with fail
 refine (mul_c x.natAbs y.natAbs _ HX.out HY.out hp.out).mono ?_;rintro e w2 ⟨rfl,hk⟩;clear hb hc hd he;clear hf hg hh hi;replace hA:=hA.after hk;replace hB:=hB.after hk;replace hC:=hC.after hk;obtain⟨hb,hc,hd,he⟩:=hA.x2;obtain⟨hf,hg,hh,hi⟩:=hB.x2;go_wp2_with fail
 refine (made_c (sg x != sg y) (x.natAbs*y.natAbs) (x*y) _ (by omega) HM.out).mono ?_;rintro e w3 ⟨rfl,ho⟩;clear hb hc hd he;clear hf hg hh hi;replace hC:=hC.after ho;obtain⟨hm,hq,hn,hr⟩:=hC.x2;go_wp2;refine bodyPost_ret (v:=.tuple #[.agg #[.bool (sg (x*y)),.string (E (x*y).natAbs)],.int .i64 0]) ?_ rfl ⟨rfl,?_⟩
 ·simp[results,Tryz.results54,go_sem,hm,hn]
 ·exact ((bt (bt (bt (b3 _ _ _ _) hj) hk) ho).setCell (by simp;omega) _).setCell (by simp;omega) _
theorem checked_nil (p q:Nat) (w:World) (hp:p<256^8) (hq:q<256^128) (hg:grpE p q=0) :
  Calls Tryz.prog 87 #[.agg #[.string (E p),.string (E q)],.slice none 0 0,.slice none 0 0,.bool true] w fun e w'=>e=.returned (.int .i64 0)∧Bw w w':=by
 have HC:=Kh (fun w=>pcheckV_c p q 0 w hp hq hg);obtain⟨hB,hb⟩:=blk1 w #[Value.string (E p),Value.string (E q)] 24;clear hp hq hg;go_enter Tryz.func87,Tryz.ntmps87
 go_wp2;go_loop [18] (fun i=>i=.int .i64 0) (fun i=>0)
 case atStart=>rfl
 case round =>
  subst hrel;go_wp2;go_loop [28] (fun i=>i=.int .i64 0) (fun i=>0)
  case atStart=>rfl
  case round =>
   subst hrel;obtain⟨hc,hd,he,hf⟩:=hB.x2;go_wp2_with fail
   refine (HC.out _).mono ?_;rintro e w3 ⟨rfl,hh⟩;go_wp2;go_loop [45] (fun i=>i=.int .i64 0) (fun i=>0)
   case atStart=>rfl
   case round =>
    subst hrel;go_wp2;go_ret
    exact⟨rfl,bt hb hh⟩
theorem product_nil (p q:Nat) (w:World) (hp:p<256^8) (hq:q<256^128) (hg:grpE p q=0) :
  Calls Tryz.prog 85 #[.agg #[.string (E p),.string (E q)],.slice none 0 0,.slice none 0 0] w fun e w'=>e=.returned (.tuple #[.string (E 1),.int .i64 0])∧Bw w w':=by
 have hi:=Kh (fun w=>checked_nil p q w hp hq hg)
 have hr:∀w:World,(Instr.makeSlice 33 (.int .i64 0) (.int .i64 0)).run Tryz.prog w=.ok (.slice (some ⟨w.heap.size,0,none⟩) 0 0) (w.alloc (.cells #[] 22)):=fun w=>by
  have h:=run_mks (P:=Tryz.prog) Tryz.underlying33 info_nat 0 (by omega) (by omega) w;simpa using h
 obtain⟨hG,hb⟩:=blk1 w #[Value.string (E p),Value.string (E q)] 24;have HO:=Kh (fun w=>ofK_c 1 1 w rfl (by decide));clear hp hq hg;obtain⟨hc,hd,he,hf⟩:=hG.x2;go_enter Tryz.func85,Tryz.ntmps85
 go_wp2_with fail
 refine (hi.out _).mono ?_;rintro e w1 ⟨rfl,hj⟩;clear hc hd he hf;replace hb:=bt hb hj;go_wp2;go_loopw [10,37] (fun v i wr=>v=.int .i64 0∧i=.int .i64 0∧Bw w1 wr) (fun _ _ _=>0)
 case atStart=>exact⟨rfl,rfl,b1 _ _⟩
 case round =>
  obtain⟨rfl,rfl,hk⟩:=hrel;obtain⟨wp,hl⟩:∃wp,wp=wr:=⟨_,rfl⟩;subst hl;replace hb:=bt hb hk;go_wp2_with fail
  refine (HO.out _).mono ?_;rintro e w3 ⟨rfl,hm⟩;replace hb:=ba (bt hb hm) (.cells #[.string (E 1)] 22);have hO:=Blk.new w3 #[.string (E 1)] 22;go_wp2;generalize ht:w3.alloc (.cells #[.string (E 1)] 22)=w4 at hO hb;go_loopw [17] (fun i wr=>i=.int .i64 (-1)∧Bw w4 wr) (fun _ _=>0)
  case atStart=>exact⟨rfl,Br⟩
  case round =>
   obtain⟨rfl,hh⟩:=hrel;replace hO:=hO.after hh;obtain⟨hn,ho⟩:=hO.x1;go_wp2;go_ret2
   exact⟨rfl,bt hb hh⟩
def NOwn (w:World) (base:Nat) (v:Value) (L:List Nat):Prop:=w.ownsRow base 22 1 v L.length (strs L)
def ZOwn (w:World) (base:Nat) (v:Value) (Z:List Int):Prop:=w.ownsRow base 28 2 v Z.length (ics (Z.map zI))
theorem NOwn.ss {w:World} {base:Nat} {v:Value} {L:List Nat} (h:NOwn w base v L):SsAt w v (L.map E):=by
 have h0:w.ownsRow base 22 1 v L.length (strs L):=h;rcases h0.2 with⟨rfl,h2⟩ | ⟨g,cap,cur,rfl,h3,h4,_⟩
 ·exact⟨none,0,by simp[h2],.inl (by simp[h2])⟩
 ·refine⟨_,_,by simp;rfl,.inr ⟨g,0,rfl,(Array.getElem?_eq_some_iff.1 h4).1,fun j hj=>⟨_,rfl,fun i hi=>?_⟩⟩⟩;obtain rfl:i=0:=by omega
  have hb:j<L.length:=by simpa using hj
  rw[show (0+j*1+0:Nat)=j by omega];rw[own_cellS h0 j _ (by rw[strs,List.getElem?_map,List.getElem?_eq_getElem hb];rfl)];simp
theorem ZOwn.zs {w:World} {base:Nat} {v:Value} {Z:List Int} (h:ZOwn w base v Z):ZsAt w v Z:=by
 have h0:w.ownsRow base 28 2 v Z.length (ics (Z.map zI)):=h;rcases h0.2 with⟨rfl,h2⟩ | ⟨g,cap,cur,rfl,h3,h4,_⟩
 ·exact⟨none,0,by simp[h2],.inl (by simp[h2])⟩
 ·refine⟨_,_,by simp;rfl,.inr ⟨g,0,rfl,(Array.getElem?_eq_some_iff.1 h4).1,fun j hj=>⟨_,rfl,fun i hi=>?_⟩⟩⟩;obtain⟨q1,q2⟩:=ics_get (Z.map zI) j hj;obtain rfl | rfl:i=0∨i=1:=by omega
  ·rw[show (0+j*2+0:Nat)=j*2 by omega,own_cellS h0 _ _ q1];rfl
  ·rw[show (0+j*2+1:Nat)=j*2+1 by omega,own_cellS h0 _ _ q2];rfl
theorem NOwn.form {w:World} {base:Nat} {v:Value} {L:List Nat} (h:NOwn w base v L) (h0:0<L.length):∃g c,v=.slice (some ⟨g,0,none⟩) L.length c∧base≤g∧L.length≤c∧NatsAt w g L:=by
 have k:w.ownsRow base 22 1 v L.length (strs L):=h;rcases k.2 with⟨rfl,h2⟩ | ⟨g,cap,cur,rfl,h3,h4,h5,_⟩
 ·omega
 ·exact⟨g,cap,rfl,h3,h5,(Array.getElem?_eq_some_iff.1 h4).1,fun j hj=>own_cellS k j _ (by rw[strs,List.getElem?_map,List.getElem?_eq_getElem hj];rfl)⟩
theorem ZOwn.form {w:World} {base:Nat} {v:Value} {Z:List Int} (h:ZOwn w base v Z) (h0:0<Z.length):∃g c,v=.slice (some ⟨g,0,none⟩) Z.length c∧base≤g∧Z.length≤c∧IntsAt w g Z:=by
 have k:w.ownsRow base 28 2 v Z.length (ics (Z.map zI)):=h;rcases k.2 with⟨rfl,h2⟩ | ⟨g,cap,cur,rfl,h3,h4,h5,_⟩
 ·omega
 ·refine⟨g,cap,rfl,h3,h5,(Array.getElem?_eq_some_iff.1 h4).1,fun j hj=>?_⟩;obtain⟨q1,q2⟩:=ics_get (Z.map zI) j (by simpa using hj);refine⟨?_,?_⟩
  ·rw[own_cellS k _ _ q1];simp[zI]
  ·rw[own_cellS k _ _ q2];simp[zI]
theorem product_own (p q:Nat) (b1' b2':Nat) (L:List Nat) (Z:List Int) (v1 v2:Value) (w:World) (hp:p<256^8) (hq:q<256^128) (hg:grpE p q=0)
  (hn:L.length=Z.length) (hb:L.length≤1000) (hx:∀x∈L,hasB p q x=true) (hc:∀z∈Z,z.natAbs<256^128) (hL:NOwn w b1' v1 L) (hZ:ZOwn w b2' v2 Z)
  (h1:L=[]→v1=.slice none 0 0) (h2:Z=[]→v2=.slice none 0 0) :
  Calls Tryz.prog 85 #[.agg #[.string (E p),.string (E q)],v1,v2] w fun e w'=>e=.returned (.tuple #[.string (E (pw (prs p L Z) 0%p)),.int .i64 0])∧Bw w w':=by
 rcases Nat.eq_zero_or_pos L.length with h0 | h0
 ·have e1:=List.length_eq_zero_iff.1 h0;have e2:=List.length_eq_zero_iff.1 (hn ▸ h0:Z.length=0);rw[h1 e1,h2 e2,e1,e2];have:=product_nil p q w hp hq hg;rw[show pw (prs p [] []) 0%p=1 by show 1%p=1;exact Nat.mod_eq_of_lt (by have:=grp_gt hg;omega)];exact this
 ·obtain⟨g1,c1,rfl,_,k1,k2⟩:=hL.form h0;obtain⟨g2,c2,rfl,_,k3,k4⟩:=hZ.form (by omega);rw[←hn]at k3 ⊢;exact product_g p q g1 g2 c1 c2 L.length L Z w hp hq hg rfl hn.symm hb k1 k3 hx hc k2 k4
theorem prs_snoc (p:Nat) (L:List Nat) (Z:List Int) (k:Nat) (h1:k<L.length) (h2:k<Z.length):prs p (L.take (k+1)) (Z.take (k+1))=prs p (L.take k) (Z.take k)++[(bse p L[k] Z[k],Z[k].natAbs)]:=by
 rw[List.take_succ_eq_append_getElem h1,List.take_succ_eq_append_getElem h2];unfold prs;rw[List.zipWith_append (by simp;omega)];rfl
theorem pw_snoc (l:List (Nat × Nat)) (x e:Nat):pw (l++[(x,e)]) 0=pw l 0*x^e:=by
 induction l with
 | nil=>simp[pw]
 | cons y t ih=>simp only[List.cons_append,pw,ih,Nat.mul_assoc]
theorem powI_bse {p x:Nat} (z:Int) (hx:x<p):powI x z p=bse p x z^z.natAbs%p:=by
 unfold powI bse;rw[Nat.mod_eq_of_lt hx];split <;> rfl
theorem prodI_step (p:Nat) (L:List Nat) (Z:List Int) (k:Nat) (h1:k<L.length) (h2:k<Z.length) (hx:L[k]<p):pw (prs p (L.take k) (Z.take k)) 0%p*powI L[k] Z[k] p%p=pw (prs p (L.take (k+1)) (Z.take (k+1))) 0%p:=by
 rw[prs_snoc p L Z k h1 h2,pw_snoc,powI_bse _ hx,←Nat.mul_mod]
theorem rproduct_c (p q:Nat) (L:List Nat) (Z:List Int) (v1 v2:Value) (w:World) (hp:p<256^8) (hq:q<256^128) (hg:grpE p q=0)
  (hn:L.length=Z.length) (hQ:L.length≤1000) (hx:∀x∈L,hasB p q x=true) (hK:∀z∈Z,z.natAbs<256^128) (hL:SsAt w v1 (L.map E)) (hZ:ZsAt w v2 Z) :
  Calls Tryz.prog 58 #[.agg #[.string (E p),.string (E q)],v1,v2] w fun e w'=>e=.returned (.tuple #[.string (E (pw (prs p L Z) 0%p)),.int .i64 0])∧Bw w w':=by
 obtain⟨a1,c1,e1⟩:=RAt.form hL;obtain⟨a2,c2,e2⟩:=hZ.form;rw[List.length_map]at e1;rw[←hn]at e2;obtain⟨n,hw⟩:∃n,n=L.length:=⟨_,rfl⟩;have hy:=Kh hw;have hE:Hid (n=Z.length):=by rw[Hid,hw,hn]
 rw[←hw]at e1 e2 hQ;subst e1 e2;have hz:=Kh (grp_gt hg);have HP:=Kh hp;have HX:=Kh hx;have hM:=Kh hK;have HG:=Kh hg;have HQ:=Kh hq;obtain⟨r,hr⟩:∃r,r=pw (prs p L Z) 0%p:=⟨_,rfl⟩;have hF:=Kh hr;rw[←hr];have HC:=Kh (fun w=>rpcheckV_c p q 0 w hp hq hg);obtain⟨hB,hd⟩:=blk1 w #[Value.string (E p),Value.string (E q)] 24;replace hL:=SsAt.after hL hd;replace hZ:=hZ.after hd;clear hp hq hg hx hK hn hr hw;obtain⟨he,hf,hh,hi⟩:=hB.x2;go_enter Tryz.func58,Tryz.ntmps58
 go_wp2;clear he hf hh hi;generalize w.alloc (.cells #[Value.string (E p),Value.string (E q)] 24)=w1 at hB hd hL hZ;replace hB:Blk w1 w.heap.size 24 [.string (E p),.string (E q)]:=hB;go_loopw [8] (fun i wr=>∃k:Nat,k≤n∧i=.int .i64 k∧Bw w1 wr) (fun i _=>n-(intOf i).toNat)
 case atStart=>exact⟨0,by omega,rfl,Br⟩
 case round =>
  obtain⟨k,hk,rfl,hb⟩:=hrel;obtain⟨wp,hR⟩:∃wp,wp=wr:=⟨_,rfl⟩;subst hR;replace hB:=hB.after hb;replace hL:=SsAt.after hL hb;replace hZ:=hZ.after hb;replace hd:=bt hd hb;by_cases hlt:k<n
  ·have hc:k<L.length:=by rw[←hy.out];exact hlt
   have hj:k<(L.map E).length:=by simpa using hc
   obtain⟨b,o,rfl,ho,x1⟩:=SsAt.at_ hL hj;have hl:=Kh (HX.out _ (Gm hc));simp only[List.getElem_map]at x1;generalize (L[k]'hc)=x at x1 hl;have HN:=Kh (lt128 (Nat.lt_trans (has_lt hl.out) HP.out));have hG:(0:Int)≤(k:Int):=by omega
   have hH:(k:Int)<(n:Int):=by omega
   go_wp2_with fail
   refine (rvalidV_c (E x) true _ (by have:=szM HN.out;omega) (vldB_E x HN.out)).mono ?_;rintro e w' ⟨rfl,rfl⟩;go_wp2;go_roundw
   case rel=>exact⟨k+1,by omega,by go_num,hb⟩
   case measure=>simp[intOf];omega
  ·clear hb;go_wp2;go_loopw [9] (fun i wr=>∃k:Nat,k≤n∧i=.int .i64 k∧Bw wp wr) (fun i _=>n-(intOf i).toNat)
   case atStart=>exact⟨0,by omega,rfl,Br⟩
   case round =>
    obtain⟨k,hk,rfl,hb⟩:=hrel;obtain⟨wq,hS⟩:∃wq,wq=wr:=⟨_,rfl⟩;subst hS;replace hB:=hB.after hb;replace hL:=SsAt.after hL hb;replace hZ:=hZ.after hb;replace hd:=bt hd hb;by_cases hlt:k<n
    ·have hc:k<Z.length:=by rw[←hE.out];exact hlt
     obtain⟨b,o,rfl,ho,x1,x2⟩:=hZ.at_ hc;have ht:=Kh (hM.out _ (Gm hc));generalize (Z[k]'hc)=z at x1 x2 ht;have hG:(0:Int)≤(k:Int):=by omega
     have hH:(k:Int)<(n:Int):=by omega
     go_wp2_with fail
     refine (rivalidI_c z _ ht.out).mono ?_;rintro e w3 ⟨rfl,hm⟩;go_wp2;go_roundw
     case rel=>exact⟨k+1,by omega,by go_num,bt hb hm⟩
     case measure=>simp[intOf];omega
    ·clear hb;have hA:=hB.lt;obtain⟨he,hf,hh,hi⟩:=hB.x2;go_wp2_with fail
     refine (HC.out _).mono ?_;rintro e w3 ⟨rfl,hm⟩;clear he hf hh hi;replace hB:=hB.after hm;replace hL:=SsAt.after hL hm;replace hZ:=hZ.after hm;replace hd:=bt hd hm;clear hm hA;go_wp2;go_loopw [11] (fun i wr=>∃k:Nat,k≤n∧i=.int .i64 k∧Bw w3 wr) (fun i _=>n-(intOf i).toNat)
     case atStart=>exact⟨0,by omega,rfl,Br⟩
     case round =>
      obtain⟨k,hk,rfl,hb⟩:=hrel;obtain⟨wt,hT⟩:∃wt,wt=wr:=⟨_,rfl⟩;subst hT;replace hB:=hB.after hb;replace hL:=SsAt.after hL hb;replace hZ:=hZ.after hb;replace hd:=bt hd hb;have hA:=hB.lt;by_cases hlt:k<n
      ·have hc:k<L.length:=by rw[←hy.out];exact hlt
       have hj:k<(L.map E).length:=by simpa using hc
       obtain⟨b,o,rfl,ho,x1⟩:=SsAt.at_ hL hj;have hl:=Kh (HX.out _ (Gm hc));simp only[List.getElem_map]at x1;generalize (L[k]'hc)=x at x1 hl;have HN:=Kh (lt128 (Nat.lt_trans (has_lt hl.out) HP.out));have hG:(0:Int)≤(k:Int):=by omega
       have hH:(k:Int)<(n:Int):=by omega
       have g1:=gcl (a:=⟨b,o+k,none⟩) ho x1;obtain⟨he,hf,hh,hi⟩:=hB.x2;have hI:=hB.gcell 0;have hJ:=hB.gcell 1;go_wp2_with fail
       refine wp_region_gw (by kernel_rfl) (by kernel_rfl) ?_;repeat (go_big_quiet_step (first | (go_at_call 105;exact gw_of (rhasV_c p q x true _ HP.out HQ.out HG.out HN.out hl.out))))
       refine wpQuiet_nil ?_;rintro w5 ⟨xw5,rfl⟩;have hu:=gw_below xw5;generalize gw xw5=w5 at hu;go_wp2;go_roundw
       case rel=>exact⟨k+1,by omega,by go_num,bt hb hu⟩
       case measure=>simp[intOf];omega
      ·clear hb;go_wp2;go_loopw [12,13] (fun v i wr=>∃k:Nat,∃y:Nat,k≤n∧i=.int .i64 k∧v=.string (E y)∧Hid (y=pw (prs p (L.take k) (Z.take k)) 0%p)∧Bw wt wr) (fun _ i _=>n-(intOf i).toNat)
       case atStart=>exact⟨0,1,by omega,rfl,rfl,(Nat.mod_eq_of_lt (by have:=hz.out;omega)).symm,Br⟩
       case round =>
        obtain⟨k,y,hk,rfl,rfl,HY,hb⟩:=hrel;obtain⟨wu,hU⟩:∃wu,wu=wr:=⟨_,rfl⟩;subst hU;replace hB:=hB.after hb;replace hL:=SsAt.after hL hb;replace hZ:=hZ.after hb;replace hd:=bt hd hb;clear hA;have hA:=hB.lt;by_cases hlt:k<n
        ·have hc:k<L.length:=by rw[←hy.out];exact hlt
         have hj:k<(L.map E).length:=by simpa using hc
         have hC:k<Z.length:=by rw[←hE.out];exact hlt
         obtain⟨b,o,rfl,ho,x1⟩:=SsAt.at_ hL hj;obtain⟨b',o',rfl,hv,y1,y2⟩:=hZ.at_ hC;have hl:=Kh (HX.out _ (Gm hc));have ht:=Kh (hM.out _ (Gm hC));have hD:=Kh (prodI_step p L Z k hc hC (has_lt hl.out));simp only[List.getElem_map]at x1;generalize (L[k]'hc)=x at x1 hl hD;generalize (Z[k]'hC)=z at y1 y2 ht hD;have hN:=Kh (fun w=>rraw_c p q x z w HP.out HG.out hl.out ht.out);have hV:Hid (y<256^8):=by rw[Hid,HY.out];exact Nat.lt_trans (Nat.mod_lt _ (by have:=hz.out;omega)) HP.out
         have hO:Hid (powI x z p<256^8):=by rw[Hid,powI_bse z (has_lt hl.out)];exact Nat.lt_trans (Nat.mod_lt _ (by have:=hz.out;omega)) HP.out
         have hP:Hid (y*powI x z p%p=pw (prs p (L.take (k+1)) (Z.take (k+1))) 0%p):=by rw[Hid,HY.out];exact hD.out
         generalize powI x z p=v at hN hO hP;have hW:=Kh (fun w=>rmul3_c y v p w (lt128 hV.out) (lt128 hO.out) (Nl HP.out (Nat.pow_le_pow_right (show 0<256 by decide) (show 8≤64 by decide))) (by have:=hz.out;omega));have hG:(0:Int)≤(k:Int):=by omega
         have hH:(k:Int)<(n:Int):=by omega
         have g1:=gcl (a:=⟨b,o+k,none⟩) ho x1;have g2:=gcl (a:=⟨b',o'+k*2,none⟩) hv y1;have g3:=gcl (a:=⟨b',o'+k*2+1,none⟩) hv y2;clear hD;obtain⟨he,hf,hh,hi⟩:=hB.x2;have hI:=hB.gcell 0;have hJ:=hB.gcell 1;go_wp2_with fail
         refine wp_region_gw (by kernel_rfl) (by kernel_rfl) ?_;repeat (go_big_quiet_step (first | (go_at_call 107;exact gw_of (hN.out _)) | (go_at_call 106;exact gw_of (hW.out _))))
         refine wpQuiet_nil ?_;rintro w5 ⟨xw5,rfl⟩;have hu:=gw_below xw5;generalize gw xw5=w5 at hu;go_wp2;go_roundw
         case rel=>exact⟨k+1,y*v%p,by omega,by go_num,rfl,hP,bt hb hu⟩
         case measure=>simp[intOf];omega
        ·have HF:Hid (y=r):=by rw[Hid,HY.out,hF.out,List.take_of_length_le (by rw[←hy.out];omega),List.take_of_length_le (by rw[←hE.out];omega)]
         go_wp2;go_ret2
         exact⟨by rw[HF.out];rfl,bt hd Br⟩
end
section
open Go.RowKit Go.Shelf
def CA (w:World) (l:List (Addr × Value)):Prop:=∀x∈l,x.1.block<w.heap.size∧w.cell? x.1=some x.2
theorem CA.nil (w:World):CA w []:=fun x h=>by cases h
theorem CA.cons {w:World} {a:Addr} {v:Value} {l:List (Addr × Value)} (h1:a.block<w.heap.size) (h2:w.cell? a=some v) (h:CA w l):CA w ((a,v) :: l):=by
 intro x hx;rcases List.mem_cons.1 hx with rfl | hx
 ·exact⟨h1,h2⟩
 ·exact h x hx
theorem CA.drew {w:World} {l:List (Addr × Value)} (h:CA w l):CA w.drew l:=h
theorem CA.after {w w':World} {l:List (Addr × Value)} (h:CA w l) (hb:Bw w w'):CA w' l:=fun x hx=>⟨Nl (h x hx).1 hb.size,(hb.cell (h x hx).1).trans (h x hx).2⟩
theorem CA.alloc {w:World} {l:List (Addr × Value)} (h:CA w l) (o:Obj):CA (w.alloc o) l:=h.after (b1 _ _)
theorem CA.grown {w w':World} {row:Option Nat} {l:List (Addr × Value)} (h:CA w l) (hg:w.grownBy w' row) (hr:∀x∈l,row≠some x.1.block):CA w' l:=
 fun x hx=>⟨Nl (h x hx).1 hg.size,hg.cell (h x hx).2 (fun e=>hr x hx e.symm)⟩
theorem CA.set {w:World} {l:List (Addr × Value)} (h:CA w l) (g i:Nat) (v:Value) (hb:∀x∈l,x.1.block≠g):CA (w.setCell ⟨g,i,none⟩ v) l:=
 fun x hx=>⟨by rw[World.size_setCell];exact (h x hx).1,by rw[World.cell?_setCell_other _ _ _ _ (fun e=>hb x hx (congrArg Addr.block e).symm)];exact (h x hx).2⟩
theorem CA.k2 {w:World} {a0 a1:Addr} {v0 v1:Value} (h:CA w [(a0,v0),(a1,v1)]):w.cell? a0=some v0∧w.cell? a1=some v1:=⟨(h (a0,v0) (by simp)).2,(h (a1,v1) (by simp)).2⟩
theorem CA.k3 {w:World} {a0 a1 a2:Addr} {v0 v1 v2:Value} (h:CA w [(a0,v0),(a1,v1),(a2,v2)]):w.cell? a0=some v0∧w.cell? a1=some v1∧w.cell? a2=some v2:=⟨(h (a0,v0) (by simp)).2,(h (a1,v1) (by simp)).2,(h (a2,v2) (by simp)).2⟩
theorem CA.k4 {w:World} {a0 a1 a2 a3:Addr} {v0 v1 v2 v3:Value} (h:CA w [(a0,v0),(a1,v1),(a2,v2),(a3,v3)]):w.cell? a0=some v0∧w.cell? a1=some v1∧w.cell? a2=some v2∧w.cell? a3=some v3:=⟨(h (a0,v0) (by simp)).2,(h (a1,v1) (by simp)).2,(h (a2,v2) (by simp)).2,(h (a3,v3) (by simp)).2⟩
theorem CA.k5 {w:World} {a0 a1 a2 a3 a4:Addr} {v0 v1 v2 v3 v4:Value} (h:CA w [(a0,v0),(a1,v1),(a2,v2),(a3,v3),(a4,v4)]):w.cell? a0=some v0∧w.cell? a1=some v1∧w.cell? a2=some v2∧w.cell? a3=some v3∧w.cell? a4=some v4:=⟨(h (a0,v0) (by simp)).2,(h (a1,v1) (by simp)).2,(h (a2,v2) (by simp)).2,(h (a3,v3) (by simp)).2,(h (a4,v4) (by simp)).2⟩
theorem CA.k6 {w:World} {a0 a1 a2 a3 a4 a5:Addr} {v0 v1 v2 v3 v4 v5:Value} (h:CA w [(a0,v0),(a1,v1),(a2,v2),(a3,v3),(a4,v4),(a5,v5)]):w.cell? a0=some v0∧w.cell? a1=some v1∧w.cell? a2=some v2∧w.cell? a3=some v3∧w.cell? a4=some v4∧w.cell? a5=some v5:=⟨(h (a0,v0) (by simp)).2,(h (a1,v1) (by simp)).2,(h (a2,v2) (by simp)).2,(h (a3,v3) (by simp)).2,(h (a4,v4) (by simp)).2,(h (a5,v5) (by simp)).2⟩
theorem CA.k9 {w:World} {a0 a1 a2 a3 a4 a5 a6 a7 a8:Addr} {v0 v1 v2 v3 v4 v5 v6 v7 v8:Value} (h:CA w [(a0,v0),(a1,v1),(a2,v2),(a3,v3),(a4,v4),(a5,v5),(a6,v6),(a7,v7),(a8,v8)]):w.cell? a0=some v0∧w.cell? a1=some v1∧w.cell? a2=some v2∧w.cell? a3=some v3∧w.cell? a4=some v4∧w.cell? a5=some v5∧w.cell? a6=some v6∧w.cell? a7=some v7∧w.cell? a8=some v8:=⟨(h (a0,v0) (by simp)).2,(h (a1,v1) (by simp)).2,(h (a2,v2) (by simp)).2,(h (a3,v3) (by simp)).2,(h (a4,v4) (by simp)).2,(h (a5,v5) (by simp)).2,(h (a6,v6) (by simp)).2,(h (a7,v7) (by simp)).2,(h (a8,v8) (by simp)).2⟩
theorem blkN {w:World} {cs:Array Value} {T:TypeId} {g:Nat} (h:g=w.heap.size):Blk (w.alloc (.cells cs T)) g T cs.toList:=by subst h;exact Blk.new _ _ _
def ZBox (w:World) (z:Int) (s10 s11:Value) (wx:World):Prop:=∃g,s10=.pointer (some ⟨g,0,none⟩)∧s11=.int .i64 0∧Blk wx g 28 [.bool (sg z),.string (E z.natAbs)]∧w.heap.size≤g∧Bw w wx
def imgB (q:NEqn):List Nat:=q.trms.map (·.base)
def imgX (Z:List Int) (q:NEqn):List Int:=q.trms.map fun t=>t.coef*Z.getD t.var 0
def imgV (N:NSta) (Z:List Int) (q:NEqn):Nat:=pw (prs (N.gp q).1 (imgB q) (imgX Z q)) 0%(N.gp q).1
def NSta.imgs (N:NSta) (Z:List Int):List Nat:=N.eqs.map (imgV N Z)
theorem info_Int:(Tryz.prog.info? 28).map (fun i=>(i.zero,i.size,i.bytes))=some (some (.agg #[.bool false,.string { data:=#[] }]),2,24):=by kernel_rfl
theorem imgB_step (q:NEqn) (k:Nat) (h:k<q.trms.length):(imgB q).take (k+1)=(imgB q).take k++[(q.trms[k]).base]:=by
 unfold imgB;rw[←List.map_take,List.take_succ_eq_append_getElem h,List.map_append,List.map_take];rfl
theorem imgX_step (Z:List Int) (q:NEqn) (k:Nat) (h:k<q.trms.length):(imgX Z q).take (k+1)=(imgX Z q).take k++[(q.trms[k]).coef*Z.getD (q.trms[k]).var 0]:=by
 unfold imgX;rw[←List.map_take,List.take_succ_eq_append_getElem h,List.map_append,List.map_take];rfl
theorem ics_app (a b:List Int):ics (a.map zI)++ics (b.map zI)=ics ((a++b).map zI):=by simp[ics]
structure IRel (w1:World) (k:Nat) (L:List Nat) (Z:List Int) (v6 v7:Value) (wr:World):Prop where
 a:NOwn wr w1.heap.size v6 L
 z:ZOwn wr w1.heap.size v7 Z
 la:L.length=k
 lz:Z.length=k
 na:k=0→v6=.slice none 0 0
 nz:k=0→v7=.slice none 0 0
 b:Bw w1 wr
theorem IRel.after {w1:World} {k:Nat} {L:List Nat} {Z:List Int} {v6 v7:Value} {wr wx:World} (h:IRel w1 k L Z v6 v7 wr) (hb:Bw wr wx):IRel w1 k L Z v6 v7 wx:=
 ⟨own_after h.a hb,own_after h.z hb,h.la,h.lz,h.na,h.nz,bt h.b hb⟩
theorem imc_c (Q:NEqn) (Z:List Int) (w:World) (qg:Int) (qt:ByteArray) (tv v4:Value) (bw:Nat) (nv:Nat) (hM:Z.length=nv) (HL:nv≤12) (Hn:Q.trms.length≤12)
  (ht:∀t∈Q.trms,t.base<256^16∧t.var<nv∧t.coef.natAbs<256^16) (hz:∀z∈Z,z.natAbs<256^64) (hT:TNAt w tv Q.trms) (hW:Blk w bw 44 [v4]) (hZ:ZsAt w v4 Z) :
  Calls Tryz.prog 125 #[.agg #[.int .i64 qg,.string qt,tv],.pointer (some ⟨bw,0,none⟩)] w fun e w'=>∃v1 v2,e=.returned (.tuple #[v1,v2,.int .i64 0])∧NOwn w' w.heap.size v1 (imgB Q)∧ZOwn w' w.heap.size v2 (imgX Z Q)∧(Q.trms.length=0→v1=.slice none 0 0∧v2=.slice none 0 0)∧Bw w w':=by
 obtain⟨i0,Hd,hp,hr,hu⟩:=info_parts info_nat;obtain⟨i1,He,hv,hw,hy⟩:=info_parts info_Int;have Ho:=Kh Hd;have Hp:=Kh hp;have Hq:=Kh hr;have Hr:=Kh hu;have Hs:=Kh He;have Ht:=Kh hv;have Hu:=Kh hw;have Hv:=Kh hy;clear Hd hp hr hu He hv hw hy;obtain⟨to_,tc,rfl⟩:=hT.form;obtain⟨a4,c4,rfl⟩:=hZ.form;obtain⟨n,hK⟩:∃n,n=Q.trms.length:=⟨_,rfl⟩;have HN:=Kh hK;have Hw:=Kh hM;have Hx:=Kh ht;have Hy:=Kh hz;rw[←hK]at hT Hn;rw[hM]at hZ hW;rw[show Q.trms.length=n from hK.symm];obtain⟨hq,hA⟩:=blk1 w #[.int .i64 qg,.string qt,.slice to_ n tc] 87;replace hT:=hT.after hA;replace hW:=hW.after hA;replace hZ:=hZ.after hA;clear hK hM ht hz;obtain⟨hN,hO,hP,hQ,hR,hS⟩:=hq.x3;go_enter Tryz.func125,Tryz.ntmps125
 go_wp2;clear hN hO hP hQ hR hS;generalize Hz:w.alloc (.cells #[.int .i64 qg,.string qt,.slice to_ n tc] 87)=w1 at hq hA hT hW hZ;have HA:w.heap.size<w1.heap.size:=hq.lt;clear Hz;have hD:IRel w1 0 ((imgB Q).take 0) ((imgX Z Q).take 0) (.slice none 0 0) (.slice none 0 0) w1:=⟨World.ownsRow_nil _ _ _ _,World.ownsRow_nil _ _ _ _,rfl,rfl,fun _=>rfl,fun _=>rfl,Br⟩;go_loopw [6,7,15] (fun v6 v7 i wr=>∃k:Nat,k≤n∧i=.int .i64 k∧IRel w1 k ((imgB Q).take k) ((imgX Z Q).take k) v6 v7 wr) (fun _ _ i _=>n-(intOf i).toNat)
 case atStart=>exact⟨0,by omega,rfl,hD⟩
 case round =>
  clear hD;obtain⟨k,hk,rfl,hI⟩:=hrel;obtain⟨wp,HB⟩:∃wp,wp=wr:=⟨_,rfl⟩;subst HB;have Hf:=hT.after hI.b;have Hg:=hZ.after hI.b;have hU:=hW.after hI.b;by_cases hlt:k<n
  ·have hE:k<Q.trms.length:=by rw[←HN.out];exact hlt
   have hF:=Kh (Hx.out _ (Gm hE));have hV:=Kh (imgB_step Q k hE);have hY:=Kh (imgX_step Z Q k hE);obtain⟨b,o,rfl,HC,x1,x2,x3,x4⟩:=Hf.at_ hE;generalize (Q.trms[k]'hE)=t at x1 x2 x3 x4 hF hV hY;obtain⟨tb,tvv,tz⟩:=t;simp only[]at x1 x2 x3 x4;have ho:tvv<Z.length:=by rw[Hw.out];exact hF.out.2.1
   have HM:tvv<nv:=hF.out.2.1;obtain⟨b',o',rfl,hl,y1,y2⟩:=Hg.at_ ho;have h0:=Kh (Hy.out _ (Gm ho));have Hh:Hid (Z.getD tvv 0=Z[tvv]'ho):=by rw[Hid,List.getD_eq_getElem?_getD,List.getElem?_eq_getElem ho];rfl
   generalize (Z[tvv]'ho)=zz at y1 y2 h0 Hh;clear ho;have h2:=Kh hF.out.2.2;have h3:=Kh hF.out.1;simp only[]at h2 h3
   have hG:Hid (∀w:World,Calls Tryz.prog 54 #[.agg #[.bool (sg (tz)),.string (E (tz).natAbs)],.agg #[.bool (sg (zz)),.string (E (zz).natAbs)]] w fun e w'=>e=.returned (.tuple #[.agg #[.bool (sg (tz*zz)),.string (E (tz*zz).natAbs)],.int .i64 0])∧Bw w w'):=fun w =>
    imul_c tz zz w (Nl h2.out (Nat.pow_le_pow_right (show 0<256 by decide) (show 16≤128 by decide))) (lt64 h0.out) (Nl (Nat.mul_lt_mul'' h2.out h0.out) (by rw[←Nat.pow_add];exact Nat.pow_le_pow_right (show 0<256 by decide) (by decide)))
   obtain⟨pz,h4⟩:∃p,p=tz*zz:=⟨_,rfl⟩;have HD:=Kh h4;rw[←h4]at hG;clear h4;have HO:(0:Int)≤(k:Int):=by omega
   have HP:(k:Int)<(n:Int):=by omega
   have HQ:(0:Int)≤(tvv:Int):=by omega
   have HR:(tvv:Int)<(nv:Int):=by omega
   have hC:CA (wp.alloc (.cells #[.string (E tb),.int .i64 (tvv:Int),.bool (sg tz),.string (E tz.natAbs)] 129)) [(⟨wp.heap.size,1,none⟩,.int .i64 (tvv:Int)),(⟨wp.heap.size,2,none⟩,.bool (sg tz)),(⟨wp.heap.size,3,none⟩,.string (E tz.natAbs)),(⟨bw,0,none⟩,.slice (some ⟨b',o',none⟩) nv c4),(⟨b',o'+tvv*2,none⟩,.bool (sg zz)),(⟨b',o'+tvv*2+1,none⟩,.string (E zz.natAbs))]:=by
    have hB:=Blk.new wp #[.string (E tb),.int .i64 (tvv:Int),.bool (sg tz),.string (E tz.natAbs)] 129;exact CA.cons hB.lt (hB.cell 1) (CA.cons hB.lt (hB.cell 2) (CA.cons hB.lt (hB.cell 3) (CA.alloc (CA.cons hU.lt (hU.cell 0) (CA.cons hl y1 (CA.cons hl y2 (CA.nil _)))) _)))
   have hf:=Blk.new wp #[.string (E tb),.int .i64 (tvv:Int),.bool (sg tz),.string (E tz.natAbs)] 129;have hd:=hI.after (b1 wp (.cells #[.string (E tb),.int .i64 (tvv:Int),.bool (sg tz),.string (E tz.natAbs)] 129));have hm:∀g,u7.ownBlock=some g→g<wp.heap.size:=fun g hg=>(own_lt hI.z hg).1
   go_wp2_with fail
   generalize wp.alloc (.cells #[.string (E tb),.int .i64 (tvv:Int),.bool (sg tz),.string (E tz.natAbs)] 129)=wA at hC hf hd;generalize wp.heap.size=g9 at hC hf hm ⊢;clear Hf Hg hU hI x1 x2 x3 x4 y1 y2 HC hl;have HS:g9<wA.heap.size:=hf.lt;have he:=fun x hx=>Nat.ne_of_lt (hC x hx).1
   go_upto_region 6 with fail
   go_cut [10,11] (fun s10 s11 wx=>ZBox wA pz s10 s11 wx)
   case first =>
    go_region_held3 (fun w'=>w'.cell? ⟨g9,1,none⟩=some (.int .i64 (tvv:Int))∧w'.cell? ⟨g9,2,none⟩=some (.bool (sg tz))∧w'.cell? ⟨g9,3,none⟩=some (.string (E tz.natAbs))∧w'.cell? ⟨bw,0,none⟩=some (.slice (some ⟨b',o',none⟩) nv c4)∧w'.cell? ⟨b',o'+tvv*2,none⟩=some (.bool (sg zz))∧w'.cell? ⟨b',o'+tvv*2+1,none⟩=some (.string (E zz.natAbs))) ((refine CA.k6 ?_;repeat (first | (with_reducible exact HE) | (with_reducible exact hC) | (with_reducible refine CA.drew ?_) | (with_reducible refine CA.alloc ?_ _) | (refine CA.set ?_ _ _ _ he))))
     ((go_at_call 54;refine (hG.out _).mono ?_;rintro e wf ⟨rfl,hn⟩;have HE:CA wf [(⟨g9,1,none⟩,.int .i64 (tvv:Int)),(⟨g9,2,none⟩,.bool (sg tz)),(⟨g9,3,none⟩,.string (E tz.natAbs)),(⟨bw,0,none⟩,.slice (some ⟨b',o',none⟩) nv c4),(⟨b',o'+tvv*2,none⟩,.bool (sg zz)),(⟨b',o'+tvv*2+1,none⟩,.string (E zz.natAbs))]:=(by first | exact hC.drew.after hn | exact (hC.alloc _).drew.after hn | exact (hC.drew.alloc _).after hn);(try (have kA:=(Blk.new wA #[.bool false,.string { data:=#[] }] 28).drew.after hn;have kA0:=kA.cell 0;have kA1:=kA.cell 1;have kA2:=kA.free 0;have kA3:=kA.free 1))))
    all_goals
     go_wp2_with fail
     go_meet
     first
      | exact⟨_,rfl,rfl,Blk.new _ _ _,hn.size,ba ((Below.drew Br).trans hn) _⟩
      | exact⟨_,rfl,rfl,(kA.set 0 _).set 1 _,Nat.le_refl _,((bt ((b1 wA _).drew) hn).setCell (by simp) _).setCell (by simp) _⟩
   case rest =>
    obtain⟨gx,rfl,rfl,hX,HT,Hi⟩:=hcut;obtain⟨wx,HF⟩:∃wx,wx=wc:=⟨_,rfl⟩;subst HF;replace hf:=hf.after Hi;replace hd:=hd.after Hi;clear hC he;have hh:wx.ownsRow w1.heap.size 22 1 u6 k (strs ((imgB Q).take k)):=by have h:wx.ownsRow _ _ _ _ _ _:=hd.a;rw[hd.la]at h;exact h
    have hL:wx.ownsRow w1.heap.size 28 2 u7 k (ics (((imgX Z Q).take k).map zI)):=by have h:wx.ownsRow _ _ _ _ _ _:=hd.z;rw[hd.lz]at h;exact h
    have Hj:=hd.b;have HU:=Hj.size;have h5:=Kh hd.la;have h6:=Kh hd.lz;clear hd;generalize (imgB Q).take k=LB at hh hV h5;generalize (imgX Z Q).take k=LX at hL hY h6;have hC:CA wx [(⟨g9,0,none⟩,.string (E tb)),(⟨gx,0,none⟩,.bool (sg pz)),(⟨gx,1,none⟩,.string (E pz.natAbs))]:=CA.cons hf.lt (hf.cell 0) (CA.cons hX.lt (hX.cell 0) (CA.cons hX.lt (hX.cell 1) (CA.nil _)))
    have he:∀x∈[((⟨g9,0,none⟩:Addr),Value.string (E tb)),(⟨gx,0,none⟩,.bool (sg pz)),(⟨gx,1,none⟩,.string (E pz.natAbs))],u6.ownBlock≠some x.1.block:=by
     have q1:=own_ne hh hf (by decide);have q2:=own_ne hh hX (by decide);intro x hx;simp only[List.mem_cons,List.not_mem_nil,or_false]at hx;rcases hx with rfl | rfl | rfl
     ·exact q1
     ·exact q2
     ·exact q2
    have hH:∀x∈[((⟨g9,0,none⟩:Addr),Value.string (E tb)),(⟨gx,0,none⟩,.bool (sg pz)),(⟨gx,1,none⟩,.string (E pz.natAbs))],u7.ownBlock≠some x.1.block:=by
     have q1:=own_ne hL hf (by decide);have q2:u7.ownBlock≠some gx:=fun e=>by have:=hm gx e;omega
     intro x hx;simp only[List.mem_cons,List.not_mem_nil,or_false]at hx;rcases hx with rfl | rfl | rfl
     ·exact q1
     ·exact q2
     ·exact q2
    have HG:=Kh he;have HH:=Kh hH;clear he hH hm;go_upto_region 9 with fail
    go_region_held3 (fun w'=>w'.cell? ⟨g9,0,none⟩=some (.string (E tb))∧w'.cell? ⟨gx,0,none⟩=some (.bool (sg pz))∧w'.cell? ⟨gx,1,none⟩=some (.string (E pz.natAbs))) ((refine CA.k3 ?_;repeat (first | (with_reducible exact Hk) | (with_reducible exact h7) | (with_reducible exact hC) | (with_reducible refine CA.drew ?_) | (with_reducible refine CA.alloc ?_ _))))
     (first | (refine step_append_lies _ (by rfl) (.tmp 33) (.tmp 36) _ (by rfl) w1.heap.size 22 i0 _ 1 16 Tryz.underlying33 Ho.out Hp.out Hq.out Hr.out rfl (by omega) u6 k (strs LB) (by rfl) (by repeat (first | (with_reducible exact hh) | (with_reducible refine World.ownsRow.drew ?_) | (with_reducible refine World.ownsRow.alloc ?_ _))) _ 1 1 [.string (E tb)] (by rfl) rfl (Blk.cells (T:=22) (by first | exact blkN (by simp) | exact (blkN (by simp)).alloc _)) (by simp[Value.oneCell']) (by omega) (by simp only[maxLen];omega) (by omega) (by simp;omega) _ rfl ?_;intro ga ca wa hi hb h8 HI;clear h8;have h9:wa.ownsRow w1.heap.size 28 2 u7 k (ics (LX.map zI)):=own_grown (b1:=w1.heap.size) (b2:=w1.heap.size) (e1:=28) (e2:=22) (s1:=2) (s2:=1) (n1:=k) (n2:=k) (v1:=u7) (v2:=u6) (x1:=ics (LX.map zI)) (x2:=strs LB) (by repeat (first | (with_reducible exact hL) | (with_reducible refine World.ownsRow.drew ?_) | (with_reducible refine World.ownsRow.alloc ?_ _))) (by repeat (first | (with_reducible exact hh) | (with_reducible refine World.ownsRow.drew ?_) | (with_reducible refine World.ownsRow.alloc ?_ _))) (by decide) hb;have h7:CA wa [(⟨g9,0,none⟩,.string (E tb)),(⟨gx,0,none⟩,.bool (sg pz)),(⟨gx,1,none⟩,.string (E pz.natAbs))]:=CA.grown (by repeat (first | (with_reducible exact hC) | (with_reducible refine CA.drew ?_) | (with_reducible refine CA.alloc ?_ _))) hb HG.out;have hJ:Bw w1 wa:=Below.grown (by repeat (first | (with_reducible exact Hj) | (with_reducible refine Below.drew ?_) | (with_reducible refine Below.alloc ?_ (by first | omega | (simp;omega)) _))) hb (by simp;omega) (fun g hg=>(own_lt hh hg).2);have HV:=hb.size;(try (have Ha:Blk wa wx.heap.size 28 [.bool (sg pz),.string (E pz.natAbs)]:=Blk.grown (by first | exact (blkN (by simp)).alloc _) hb (fun e=>by have:=(own_lt hh e).1;omega)));(try (have Hb:Blk wa (wx.heap.size+1) 28 [.bool (sg pz),.string (E pz.natAbs)]:=Blk.grown (by first | exact blkN (by simp)) hb (fun e=>by have:=(own_lt hh e).1;omega)))) | (refine step_append_lies _ (by rfl) (.tmp 38) (.tmp 40) _ (by rfl) w1.heap.size 28 i1 _ 2 24 Tryz.underlying44 Hs.out Ht.out Hu.out Hv.out rfl (by omega) u7 k (ics (LX.map zI)) (by rfl) (by repeat (first | (with_reducible exact h9) | (with_reducible refine World.ownsRow.drew ?_) | (with_reducible refine World.ownsRow.alloc ?_ _))) _ 1 1 [.bool (sg pz),.string (E pz.natAbs)] (by rfl) rfl (Blk.cells (T:=28) (by first | exact blkN (by simp) | exact Ha | exact Hb)) (by simp[Value.oneCell']) (by omega) (by simp only[maxLen];omega) (by omega) (by have:=hJ.size;simp;omega) _ rfl ?_;intro gb cb wb hj hc Hc HJ;clear Hc;have Hl:wb.ownsRow w1.heap.size 22 1 (.slice (some ⟨ga,0,none⟩) (k+1) ca) (k+1) (strs LB++[.string (E tb)]):=own_grown (b1:=w1.heap.size) (b2:=w1.heap.size) (e1:=22) (e2:=28) (s1:=1) (s2:=2) (n1:=k+1) (n2:=k) (v1:=.slice (some ⟨ga,0,none⟩) (k+1) ca) (v2:=u7) (x1:=strs LB++[.string (E tb)]) (x2:=ics (LX.map zI)) (by repeat (first | (with_reducible exact hi) | (with_reducible refine World.ownsRow.drew ?_) | (with_reducible refine World.ownsRow.alloc ?_ _))) (by repeat (first | (with_reducible exact h9) | (with_reducible refine World.ownsRow.drew ?_) | (with_reducible refine World.ownsRow.alloc ?_ _))) (by decide) hc;have Hk:CA wb [(⟨g9,0,none⟩,.string (E tb)),(⟨gx,0,none⟩,.bool (sg pz)),(⟨gx,1,none⟩,.string (E pz.natAbs))]:=CA.grown (by repeat (first | (with_reducible exact h7) | (with_reducible refine CA.drew ?_) | (with_reducible refine CA.alloc ?_ _))) hc HH.out;have Hm:Bw w1 wb:=Below.grown (by repeat (first | (with_reducible exact hJ) | (with_reducible refine Below.drew ?_) | (with_reducible refine Below.alloc ?_ (by have:=hJ.size;first | omega | (simp;omega)) _))) hc (by have:=hJ.size;simp;omega) (fun g hg=>(own_lt hL hg).2)))
    all_goals
     have hD:IRel w1 (k+1) (LB++[tb]) (LX++[pz]) (.slice (some ⟨ga,0,none⟩) (k+1) ca) (.slice (some ⟨gb,0,none⟩) (k+1) cb) wb:=by
      refine⟨?_,?_,by simp[h5.out],by simp[h6.out],fun h=>by omega,fun h=>by omega,Hm⟩
      ·rw[NOwn,List.length_append,h5.out,←strs_app];exact Hl
      ·rw[ZOwn,List.length_append,h6.out,←ics_app];exact hj
     rw[←hV.out,HD.out,←Hh.out,←hY.out]at hD;clear Hl hj hi h7 Hk hJ Hm hb hc h9;go_wp2;go_roundw
     case rel=>exact⟨k+1,by omega,by go_num,hD⟩
     case measure=>simp[intOf];omega
  ·obtain rfl:k=n:=by omega
   have h3:Hid ((imgB Q).take k=imgB Q):=List.take_of_length_le (by rw[HN.out];simp[imgB]);have HK:Hid ((imgX Z Q).take k=imgX Z Q):=List.take_of_length_le (by rw[HN.out];simp[imgX]);rw[h3.out,HK.out]at hI;go_wp2;go_ret3
   refine⟨_,_,rfl,own_mono hI.a (by omega),own_mono hI.z (by omega),fun h=>⟨hI.na h,hI.nz h⟩,hA.trans (hI.b.mono (by omega))⟩
end
end Go.Proofs.YtdgddpnjkinciaaGreatDoor
