/- SquarerangeSound: the law's premises hold. -/
import Derived.Test.YtfgandecbkbleaaGreatDoorSn27
set_option linter.unusedVariables false
set_option linter.unusedSimpArgs false
set_option maxRecDepth 100000
set_option maxHeartbeats 16000000
namespace Go.Proofs.YtfgandecbkbleaaGreatDoor
open Go.RowKit Go.Shelf
theorem stR_k0 {a b c d:ByteArray} {lo:Int} {cc:ByteArray} {P:List ByteArray} {vl rd:ByteArray} (h:(stR a b c d lo cc P vl rd).1=0):chkV [] (cc :: vl :: rd :: P) a b c d=0:=by
 unfold stR at h;split at h
 ·rename_i h1;exact absurd h h1
 ·rename_i h1;exact Decidable.not_not.1 h1
theorem stR_ok {p g h c1 vb rb:Nat} {lo:Int} {P:List Nat} (hk:(stR (E p) (E 0) (E g) (E h) lo (E c1) (P.map E) (E vb) (E rb)).1=0) :
  vb≠0∧rb≠0∧P.length=4∧hasAll p c1 P=true∧stR (E p) (E 0) (E g) (E h) lo (E c1) (P.map E) (E vb) (E rb)=(0,stN p g h lo c1 P vb rb):=by
 have hz:=stR_zero (lo:=lo) (stR_k0 hk);rw [hz] at hk ⊢;split at hk
 ·cases hk
 rename_i h1;split at hk
 ·cases hk
 rename_i h2;split at hk
 ·cases hk
 rename_i h3;have h2:P.length=4:=Decidable.not_not.1 h2;have h3:hasAll p c1 P=true:=by cases hh:hasAll p c1 P;exact absurd hh h3;rfl
 refine ⟨fun e=>h1 (.inl e),fun e=>h1 (.inr e),h2,h3,?_⟩;rw [if_neg h1,if_neg (fun hh=>hh h2),if_neg (by rw [h3];decide)]
theorem chk_other {a b c d cc cc' vl rd:ByteArray} {P:List ByteArray} (h:chkV [] (cc :: vl :: rd :: P) a b c d=0) (hv:vldB cc'=true):chkV [] (cc' :: vl :: rd :: P) a b c d=0:=by
 obtain ⟨h1,h2,h3,h4,h5⟩:=chk_nums h;unfold chkV;rw [if_pos ⟨rfl,by simp only [List.all_cons,hv,h3,h4,h5,Bool.and_true]⟩,h1]
theorem E_big {v k:Nat} (h:k+1≤(E v).size):256^k≤v:=by
 rcases Nat.lt_or_ge v (256^k) with h1 | h1
 ·have:=(E_size_le v k).2 h1;omega
 ·exact h1
theorem xs4 (n:Nat→Int):xsN n 4=[(n 0,n 1),(n 2,n 3),(n 4,n 5),(n 6,n 7)]:=rfl
theorem ws4 (n:Nat→Int):wsN n 4++[n 8]=zs9 [(n 0,n 1),(n 2,n 3),(n 4,n 5),(n 6,n 7)] (n 8):=rfl
theorem cms_has {p g h:Nat} (t:Two p g h) (X:List (Int × Int)):∀x∈cms p g h X,hasB p 0 x=true:=fun x hx=>by
 unfold cms at hx;obtain ⟨y,_,rfl⟩:=List.mem_map.1 hx;exact cmt_has t _ _
theorem sn27_c (a b c d:ByteArray) (lo:Int) (vn:Bool) (va:ByteArray) (rn:Bool) (ra vl rd:ByteArray) (n:Nat→Int) (w:World) (hn:∀j,(n j).natAbs≤32768) (hva:va.size≤9223372036854775807) (hra:ra.size≤9223372036854775807) :
  Calls Tryz.prog 7 #[.agg #[.string a,.string b,.string c,.string d,.int .i64 lo,.bool vn,.string va,.bool rn,.string ra,.string vl,.string rd],.agg #[.int .i16 (n 0),.int .i16 (n 1),.int .i16 (n 2),.int .i16 (n 3),.int .i16 (n 4),.int .i16 (n 5),.int .i16 (n 6),.int .i16 (n 7),.int .i16 (n 8)]] w fun e w'=>e=.returned (.bool true)∧Below w.heap.size w w':=by
 have up8:∀z:Int,z.natAbs<1152921504606846976→z.natAbs<256^8:=fun z h=>Nat.lt_trans h (by decide)
 have sz8:∀z:Int,z.natAbs<1152921504606846976→(E z.natAbs).size≤8:=fun z h=>(E_size_le _ _).2 (up8 z h)
 refine sn_walk a b c d lo vn va rn ra vl rd n w (gate27 a b c d lo va ra vl rd) (fun m r=>cmC a b c d (sg m) (E m.natAbs) (sg r) (E r.natAbs)) (fun m r=>cmE a b c d (sg m) (E m.natAbs) (sg r) (E r.natAbs)) hn
  (fun w'=>l27small_c a b c d lo vn va rn ra vl rd w' hva hra) (fun hg=>by obtain ⟨_,_,_,_,_,h6,h7⟩:=hg;omega) (fun hg m r w' hm hr=>?_) (fun hg h3 h4 S R hS hR=>?_)
 ·obtain ⟨k1,k2,k3,k4⟩:=kfw_inv hg.1;exact ⟨cmC_lt _ _ _ _ _ _ _ _ k1,r14commitO_c a b c d _ _ _ _ w' k1 (by omega) (by omega) (by omega) (by have:=sz8 m hm;omega) (by have:=sz8 r hr;omega)⟩
 ·obtain ⟨hkf,_,_,hvl,hrd,hl1,hl2⟩:=hg;obtain ⟨k1,k2,k3,k4⟩:=kfw_inv hkf
  have hSB:S.natAbs<1152921504606846976:=by
   have h2:=(sqs_le hn 4).1;omega
  have hRB:R.natAbs<1152921504606846976:=by
   have h2:=(sqs_le hn 4).2;have h3:=hn 8;omega
  obtain ⟨cf,hcf⟩:∃cf:Int→Int→Nat,cf=fun m r=>cmC a b c d (sg m) (E m.natAbs) (sg r) (E r.natAbs):=⟨_,rfl⟩
  have hcl:∀m r,cf m r<256^8:=fun m r=>by rw [hcf];exact cmC_lt _ _ _ _ _ _ _ _ k1
  have hPl:((psN cf n 4).map E).length≤8:=by rw [List.length_map,psN_len];decide
  have hPs:∀x∈(psN cf n 4).map E,x.size≤12:=fun x hx=>by
   obtain ⟨y,hy,rfl⟩:=List.mem_map.1 hx;unfold psN at hy;obtain ⟨z,_,rfl⟩:=List.mem_map.1 hy;have:=(E_size_le _ 8).2 (hcl z.1 z.2);omega
  have hce:(cmE a b c d (sg S) (E S.natAbs) (sg R) (E R.natAbs))=0→True:=fun _=>trivial
  show ∃k N,(∀(vP:Value) (w':World),SsAt w' vP ((psN (fun m r=>cmC a b c d (sg m) (E m.natAbs) (sg r) (E r.natAbs)) n 4).map E)→_)∧_;simp only [←hcf];have hcS:cmC a b c d (sg S) (E S.natAbs) (sg R) (E R.natAbs)=cf S R:=by rw [hcf]
  rw [hcS]
  have hst:∀(x:Nat) (vP:Value) (w':World),x<256^8→SsAt w' vP ((psN cf n 4).map E)→Calls Tryz.prog 20 #[.agg #[.string a,.string b,.string c,.string d],.int .i64 lo,.string (E x),vP,.string vl,.string rd] w' (StPost w' (stR a b c d lo (E x) ((psN cf n 4).map E) vl rd)):=fun x vP w' hx hP =>
   sqstat_c a b c d lo (E x) _ vl rd vP w' k1 (by omega) (by omega) (by omega) (by have:=(E_size_le _ 8).2 hx;omega) hPl hPs hvl hrd hl1 hl2 hP
  refine ⟨(stR a b c d lo (E (cf S R)) ((psN cf n 4).map E) vl rd).1,(stR a b c d lo (E (cf S R)) ((psN cf n 4).map E) vl rd).2,fun vP w' hP=>hst _ vP w' (hcl _ _) hP,fun he hk=>?_⟩;have hchk:=stR_k0 hk;obtain ⟨hky,hvc,hvv,hvr,hvp⟩:=chk_nums hchk;obtain ⟨vb,hvb,rfl⟩:=of_vldB hvv;obtain ⟨rb,hrb,rfl⟩:=of_vldB hvr;obtain ⟨p,g,h,⟨hp,hg,hh⟩,rfl,rfl,rfl,rfl,hpe⟩:=kyV_zero hky k1;obtain ⟨t,hg1,hgr,hhg,hhh⟩:=ped_two hpe
  have hcn:∀m r:Int,m.natAbs<1152921504606846976→r.natAbs<1152921504606846976→cf m r=cmtN p g h m r:=fun m r hm hr=>by
   rw [hcf];exact (cmC_num m r (Nat.lt_of_lt_of_le hp (by decide)) hg hh (Nat.lt_of_lt_of_le (up8 m hm) (by decide)) (Nat.lt_of_lt_of_le (up8 r hr) (by decide)) hpe).2
  have hn60:∀j,(n j).natAbs<1152921504606846976:=fun j=>by have:=hn j;omega
  have hPC:psN cf n 4=cms p g h [(n 0,n 1),(n 2,n 3),(n 4,n 5),(n 6,n 7)]:=by
   show [cf (n 0) (n 1),cf (n 2) (n 3),cf (n 4) (n 5),cf (n 6) (n 7)]=[cmtN p g h (n 0) (n 1),cmtN p g h (n 2) (n 3),cmtN p g h (n 4) (n 5),cmtN p g h (n 6) (n 7)];rw [hcn _ _ (hn60 0) (hn60 1),hcn _ _ (hn60 2) (hn60 3),hcn _ _ (hn60 4) (hn60 5),hcn _ _ (hn60 6) (hn60 7)]
  have hcS2:=hcn S R hSB hRB;obtain ⟨x,hx⟩:∃x,x=cf S R:=⟨_,rfl⟩;have hxl:=hcl S R;rw [←hx] at hk hchk hcS2 hxl ⊢;rw [hPC] at hk hchk hst hvp hPl hPs ⊢;obtain ⟨hv0,hr0,hP4,hall,hR0⟩:=stR_ok hk;have hxh:hasB p 0 x=true:=by unfold hasAll at hall;rw [Bool.and_eq_true] at hall;exact hall.1
  have hPh:=cms_has t [(n 0,n 1),(n 2,n 3),(n 4,n 5),(n 6,n 7)];have hvb12:vb<256^12:=lt_of_size hvl;have hrb12:rb<256^12:=lt_of_size hrd;have hob:hasB p 0 (x*g%p)=true:=has_mulq t.p2 hxh hhg;have hol:x*g%p<256^8:=Nat.lt_trans (has_lt hob) hp
  have hR2:stR (E p) (E 0) (E g) (E h) lo (E (x*g%p)) ((cms p g h [(n 0,n 1),(n 2,n 3),(n 4,n 5),(n 6,n 7)]).map E) (E vb) (E rb)=(0,stN p g h lo (x*g%p) (cms p g h [(n 0,n 1),(n 2,n 3),(n 4,n 5),(n 6,n 7)]) vb rb):=by
   rw [stR_zero (chk_other hchk (vldB_E _ (Nat.lt_of_lt_of_le hol (by decide)))),if_neg (by omega),if_neg (fun hh=>hh hP4),if_neg];rw [Bool.not_eq_false];unfold hasAll;rw [hob,Bool.true_and,List.all_eq_true];exact hPh
  have hvbig:65536≤vb:=E_big (k:=2) h3;have hrbig:16777216≤rb:=E_big (k:=3) h4
  have hbnd:bnd27 vb rb [(n 0,n 1),(n 2,n 3),(n 4,n 5),(n 6,n 7)] (n 8)=true:=by
   have e:∀j,(n j).natAbs<vb:=fun j=>by have:=hn j;omega
   have e2:∀j,(n j).natAbs<rb:=fun j=>by have:=hn j;omega
   have e3:(n 8).natAbs<lastB vb rb:=by
    have h1:rb≤lastB vb rb:=by unfold lastB;exact Nat.le_mul_of_pos_left rb (by omega)
    have:=e2 8;omega
   simp only [bnd27,List.all_cons,List.all_nil,e,e2,e3,decide_true,Bool.and_true]
  have hsd:=sound27 (lo:=lo) t hg1 hv0 hr0 (n 0) (n 1) (n 2) (n 3) (n 4) (n 5) (n 6) (n 7) (n 8) hbnd x (by rw [hcS2,hS,hR];rfl)
  have hzb:∀z∈wsN n 4++[n 8],z.natAbs<256^64:=fun z hz=>by
   have hz:z∈[n 0,n 1,n 2,n 3,n 4,n 5,n 6,n 7,n 8]:=hz;have h60:(1152921504606846976:Nat)<256^64:=by decide
   simp only [List.mem_cons,List.not_mem_nil,or_false] at hz;rcases hz with rfl | rfl | rfl | rfl | rfl | rfl | rfl | rfl | rfl <;> exact Nat.lt_trans (hn60 _) h60
  have hhold:∀(y:Nat) (hy:hasB p 0 y=true) (v1 v2 v3 vW:Value) (w':World),NAt w' v1 v2 v3 (stN p g h lo y (cms p g h [(n 0,n 1),(n 2,n 3),(n 4,n 5),(n 6,n 7)]) vb rb)→ZsAt w' vW (wsN n 4++[n 8]) →
    Calls Tryz.prog 24 #[.agg #[v1,v2,v3],vW] w' fun e w''=>e=.returned (.tuple #[.bool ((stN p g h lo y (cms p g h [(n 0,n 1),(n 2,n 3),(n 4,n 5),(n 6,n 7)]) vb rb).hldB (wsN n 4++[n 8])),.int .i64 0])∧Below w'.heap.size w' w'':=fun y hy v1 v2 v3 vW w' hN hZ=>by
   have h9:=rholds_c _ (wsN n 4++[n 8]) v1 v2 v3 vW w' (stN_ok (lo:=lo) hp hpe hy hP4 hPh hvb12 hrb12) hN hZ hzb (show 9≤1000 by decide) (stN_chk (lo:=lo) hpe hy hP4 hPh hv0 hr0);rw [show (stN p g h lo y (cms p g h [(n 0,n 1),(n 2,n 3),(n 4,n 5),(n 6,n 7)]) vb rb).hldE (wsN n 4++[n 8])=0 from rfl] at h9;exact h9
  rw [hR0];refine ⟨x*g%p,stN p g h lo (x*g%p) (cms p g h [(n 0,n 1),(n 2,n 3),(n 4,n 5),(n 6,n 7)]) vb rb,fun v1 v2 v3 vW w' hN hZ=>?_,fun w'=>?_,fun vP w' hP=>?_,fun v1 v2 v3 vW w' hN hZ=>?_,fun w'=>?_⟩
  ·have h9:=hhold x hxh v1 v2 v3 vW w' hN hZ;rw [ws4,hsd.1] at h9;exact h9
  ·exact rmul13_c p 0 x g w' hp (by decide) hgr hxh hhg
  ·have h9:=hst _ vP w' hol hP;rw [hR2] at h9;exact h9
  ·have h9:=hhold _ hob v1 v2 v3 vW w' hN hZ;rw [ws4,hsd.2] at h9;exact h9
  ·rw [hcS2];exact opens_c p g h S R w' hp hg hh (Nat.lt_of_lt_of_le (up8 S hSB) (by decide)) (Nat.lt_of_lt_of_le (up8 R hRB) (by decide)) hpe
end Go.Proofs.YtfgandecbkbleaaGreatDoor
