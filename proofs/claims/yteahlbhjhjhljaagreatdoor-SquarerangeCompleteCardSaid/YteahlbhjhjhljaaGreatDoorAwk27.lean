/- law 27's awake returns true. -/
import Derived.Test.YteahlbhjhjhljaaGreatDoorBn16
import Derived.Test.YteahlbhjhjhljaaGreatDoorSf27
import Derived.Deep.RegionLaw
import Derived.Deep.AppendLies
import Derived.RangeFuncLeaves
import Derived.Shelf.Abstract
import Derived.Test.YteahlbhjhjhljaaGreatDoorRq0
import Derived.Test.YteahlbhjhjhljaaGreatDoorRinv
import Derived.Test.YteahlbhjhjhljaaGreatDoorLc27
set_option linter.unusedVariables false
set_option linter.unusedSimpArgs false
set_option maxRecDepth 100000
set_option maxHeartbeats 16000000
namespace Go.Proofs.YteahlbhjhjhljaaGreatDoor
section
open Go.RowKit Go.Shelf
theorem sameNats_c (A B:List Nat) (u v:Value) (w:World) (ha:A.length≤1000) (hb:B.length≤1000) (hA:SsAt w u (A.map E)) (hB:SsAt w v (B.map E)) :
  Calls Tryz.prog 46 #[u,v] w fun e w'=>e=.returned (.bool (decide (A=B)))∧Below w.heap.size w w':=by
 obtain ⟨r,hr⟩:∃r:Bool,r=decide (A=B):=⟨_,rfl⟩;have HRES:=Lib.hid hr;rw [←hr];clear hr;obtain ⟨a1,c1,e1⟩:=RAt.form hA;obtain ⟨a2,c2,e2⟩:=RAt.form hB;rw [List.length_map] at e1 e2;obtain ⟨n,hn⟩:∃n,n=A.length:=⟨_,rfl⟩;obtain ⟨m,hm⟩:∃n,n=B.length:=⟨_,rfl⟩;have HN:=Lib.hid hn;have HM:=Lib.hid hm;rw [←hn] at e1 ha;rw [←hm] at e2 hb;subst e1 e2;clear hn hm;by_cases hnm:n=m
 ·subst hnm;have hx1:((n:Int) != (n:Int))=false:=by simp
  go_enter Tryz.func46,Tryz.ntmps46
  go_wp2;go_loopw [5] (fun i wr=>∃k:Nat,k≤n∧i=.int .i64 k∧Hid (∀j,j<k→A[j]?=B[j]?)∧Below w.heap.size w wr) (fun i _=>n-(intOf i).toNat)
  case atStart=>exact ⟨0,by omega,rfl,fun j h=>absurd h (Nat.not_lt_zero _),Below.refl _ _⟩
  case round =>
   obtain ⟨k,hk,rfl,HA,hbr⟩:=hrel;obtain ⟨wp,hwp⟩:∃wp,wp=wr:=⟨_,rfl⟩;subst hwp;replace hA:=SsAt.after hA hbr;replace hB:=SsAt.after hB hbr;by_cases hlt:k<n
   ·have hka:k<A.length:=by rw [←HN.out];exact hlt
    have hkb:k<B.length:=by rw [←HM.out];exact hlt
    obtain ⟨b,o,rfl,hbl,x1⟩:=SsAt.at_ hA (show k<(A.map E).length by simpa using hka);obtain ⟨b',o',rfl,hbl',y1⟩:=SsAt.at_ hB (show k<(B.map E).length by simpa using hkb);simp only [List.getElem_map] at x1 y1;have HKA:Hid (A[k]?=some (A[k]'hka)):=List.getElem?_eq_getElem hka;have HKB:Hid (B[k]?=some (B[k]'hkb)):=List.getElem?_eq_getElem hkb;generalize (A[k]'hka)=xa at x1 HKA;generalize (B[k]'hkb)=xb at y1 HKB;have h0k:(0:Int)≤(k:Int):=by omega
    have h1k:(k:Int)<(n:Int):=by omega
    have g1:=gcl (a:=⟨b,o+k,none⟩) hbl x1;have g2:=gcl (a:=⟨b',o'+k,none⟩) hbl' y1;by_cases hx:xa=xb
    ·have h1:=eqT hx;have h2:=eqE hx
     have HX:Hid (∀j,j<k+1→A[j]?=B[j]?):=fun j hj=>by
      by_cases e:j=k
      ·rw [e,HKA.out,HKB.out,hx]
      ·exact HA.out j (by omega)
     clear hx;go_wp2_with fail
     refine wp_region_gw (by kernel_rfl) (by kernel_rfl) ?_;repeat (go_big_quiet_step (first | (fail)))
     refine wpQuiet_nil ?_;rintro w5 ⟨xw5,rfl⟩;have hb5:=gw_below xw5;generalize gw xw5=w5 at hb5;go_wp2;go_roundw
     case rel=>exact ⟨k+1,by omega,by go_num,HX,bt hbr hb5⟩
     case measure=>simp [intOf];omega
    ·have h1:=eqF hx;have h2:=neE hx
     have HF:Hid (r=false):=by
      rw [Hid,HRES.out];exact decide_eq_false (fun e=>hx (by have h3:=HKA.out;rw [e,HKB.out] at h3;exact (Option.some.inj h3).symm))
     clear hx;go_wp2_with fail
     refine wp_region_gw (by kernel_rfl) (by kernel_rfl) ?_;repeat (go_big_quiet_step (first | (fail)))
     refine wpQuiet_nil ?_;rintro w5 ⟨xw5,rfl⟩;have hb5:=gw_below xw5;generalize gw xw5=w5 at hb5;go_wp2;go_ret
     exact ⟨by rw [HF.out];rfl,bt hbr hb5⟩
   ·have HF:Hid (r=true):=by
     rw [Hid,HRES.out];refine decide_eq_true (List.ext_getElem? fun j=>?_);by_cases hj:j<k
     ·exact HA.out j hj
     ·rw [List.getElem?_eq_none (by rw [←HN.out];omega),List.getElem?_eq_none (by rw [←HM.out];omega)]
    go_wp2;go_ret
    exact ⟨by rw [HF.out];rfl,hbr⟩
 ·have hx1:((n:Int) != (m:Int))=true:=by rw [bne_iff_ne];omega
  have hx2:((n:Int)==(m:Int))=false:=by rw [beq_eq_false_iff_ne];omega
  have HF:Hid (r=false):=by rw [Hid,HRES.out];exact decide_eq_false (fun e=>hnm (by rw [HN.out,HM.out,e]))
  clear hnm;go_enter Tryz.func46,Tryz.ntmps46
  go_wp2;go_ret
  exact ⟨by rw [HF.out];rfl,Below.refl _ _⟩
theorem sameNats_cV (A B:List Nat) (u v:Value) (r:Bool) (w:World) (ha:A.length≤1000) (hb:B.length≤1000) (hA:SsAt w u (A.map E)) (hB:SsAt w v (B.map E)) (h:decide (A=B)=r) :
  Calls Tryz.prog 46 #[u,v] w fun e w'=>e=.returned (.bool r)∧Below w.heap.size w w':=by rw [←h];exact sameNats_c A B u v w ha hb hA hB
theorem sameInts_c (Z:List Int) (u v:Value) (w:World) (ha:Z.length≤1000) (hA:ZsAt w u Z) (hB:ZsAt w v Z) :
  Calls Tryz.prog 48 #[u,v] w fun e w'=>e=.returned (.bool true)∧Below w.heap.size w w':=by
 obtain ⟨a1,c1,rfl⟩:=hA.form;obtain ⟨a2,c2,rfl⟩:=hB.form;obtain ⟨n,hn⟩:∃n,n=Z.length:=⟨_,rfl⟩;have HN:=Lib.hid hn;rw [←hn] at hA hB ha ⊢;clear hn;have hx1:((n:Int) != (n:Int))=false:=by simp
 go_enter Tryz.func48,Tryz.ntmps48
 go_wp2;go_loopw [5] (fun i wr=>∃k:Nat,k≤n∧i=.int .i64 k∧Below w.heap.size w wr) (fun i _=>n-(intOf i).toNat)
 case atStart=>exact ⟨0,by omega,rfl,Below.refl _ _⟩
 case round =>
  obtain ⟨k,hk,rfl,hbr⟩:=hrel;obtain ⟨wp,hwp⟩:∃wp,wp=wr:=⟨_,rfl⟩;subst hwp;replace hA:=hA.after hbr;replace hB:=hB.after hbr;by_cases hlt:k<n
  ·have hkz:k<Z.length:=by rw [←HN.out];exact hlt
   obtain ⟨b,o,rfl,hbl,x1,x2⟩:=hA.at_ hkz;obtain ⟨b',o',rfl,hbl',y1,y2⟩:=hB.at_ hkz;generalize (Z[k]'hkz)=z at x1 x2 y1 y2;have h0k:(0:Int)≤(k:Int):=by omega
   have h1k:(k:Int)<(n:Int):=by omega
   have g1:=gcl (a:=⟨b,o+k*2,none⟩) hbl x1;have g2:=gcl (a:=⟨b,o+k*2+1,none⟩) hbl x2;have g3:=gcl (a:=⟨b',o'+k*2,none⟩) hbl' y1;have g4:=gcl (a:=⟨b',o'+k*2+1,none⟩) hbl' y2;go_wp2_with fail
   refine wp_region_gw (by kernel_rfl) (by kernel_rfl) ?_;repeat (go_big_quiet_step (first | (fail)))
   refine wpQuiet_nil ?_;rintro w5 ⟨xw5,rfl⟩;have hb5:=gw_below xw5;generalize gw xw5=w5 at hb5;go_wp2;go_roundw
   case rel=>exact ⟨k+1,by omega,by go_num,bt hbr hb5⟩
   case measure=>simp [intOf];omega
  ·go_wp2;go_ret
   exact ⟨rfl,hbr⟩
end
section
open Go.RowKit
theorem Stm.one {w:World} {g1 g2 g3 g4 c4 p q t b:Nat} (h1:Blk w g1 24 [.string (E p),.string (E q)]) (h2:Blk w g2 114 [.string { data:=#[] }])
  (h3:Blk w g3 120 [.int .i64 0,.string (E t),.slice (some ⟨g4,0,none⟩) 1 c4]) (h4:Blk w g4 181 [.string (E b),.int .i64 0,.bool false,.string (E 1)]) (hc:1≤c4):Stm w g1 g2 g3 g4 c4 p q t [b] where
 l1:=h1.lt
 l2:=h2.lt
 l3:=h3.lt
 l4:=h4.lt
 m0:=h1.cell 0
 m1:=h1.cell 1
 vs:=fun j hj=>by
            obtain rfl:j=0:=by simp at hj;exact hj
            exact h2.cell 0
 e0:=h3.cell 0
 e1:=h3.cell 1
 e2:=h3.cell 2
 t0:=fun j hj=>by
            obtain rfl:j=0:=by simp at hj;exact hj
            exact h4.cell 0
 t1:=fun j hj=>by
            obtain rfl:j=0:=by simp at hj;exact hj
            exact h4.cell 1
 t2:=fun j hj=>by
            obtain rfl:j=0:=by simp at hj;exact hj
            exact h4.cell 2
 t3:=fun j hj=>by
            obtain rfl:j=0:=by simp at hj;exact hj
            exact h4.cell 3
 cap:=hc
theorem two_cases {j:Nat} {l:List Nat} {b c:Nat} (h:l=[b,c]) (hj:j<l.length):j=0∨j=1:=by subst h;simp at hj;omega
theorem Stm.two {w:World} {g1 g2 g3 g4 c4 p q t b c:Nat} (h1:Blk w g1 24 [.string (E p),.string (E q)]) (h2:Blk w g2 114 [.string { data:=#[] },.string { data:=#[] }])
  (h3:Blk w g3 120 [.int .i64 0,.string (E t),.slice (some ⟨g4,0,none⟩) 2 c4]) (h4:Blk w g4 181 [.string (E b),.int .i64 0,.bool false,.string (E 1),.string (E c),.int .i64 1,.bool false,.string (E 1)]) (hc:2≤c4):Stm w g1 g2 g3 g4 c4 p q t [b,c] where
 l1:=h1.lt
 l2:=h2.lt
 l3:=h3.lt
 l4:=h4.lt
 m0:=h1.cell 0
 m1:=h1.cell 1
 vs:=fun j hj=>by
            rcases two_cases rfl hj with rfl | rfl
            ·exact h2.cell 0
            ·exact h2.cell 1
 e0:=h3.cell 0
 e1:=h3.cell 1
 e2:=h3.cell 2
 t0:=fun j hj=>by
            rcases two_cases rfl hj with rfl | rfl
            ·exact h4.cell 0
            ·exact h4.cell 4
 t1:=fun j hj=>by
            rcases two_cases rfl hj with rfl | rfl
            ·exact h4.cell 1
            ·exact h4.cell 5
 t2:=fun j hj=>by
            rcases two_cases rfl hj with rfl | rfl
            ·exact h4.cell 2
            ·exact h4.cell 6
 t3:=fun j hj=>by
            rcases two_cases rfl hj with rfl | rfl
            ·exact h4.cell 3
            ·exact h4.cell 7
 cap:=hc
theorem Stm.set {w:World} {g1 g2 g3 g4 c4 p q t r i:Nat} {B:List Nat} {v:Value} (h:Stm w g1 g2 g3 g4 c4 p q t B) (h1:g1≠r) (h2:g2≠r) (h3:g3≠r) (h4:g4≠r):Stm (w.setCell ⟨r,i,none⟩ v) g1 g2 g3 g4 c4 p q t B:=by
 have k:∀(g j:Nat),g≠r→(w.setCell ⟨r,i,none⟩ v).cell? ⟨g,j,none⟩=w.cell? ⟨g,j,none⟩:=fun g j hg=>World.cell?_setCell_other _ _ _ _ (fun e=>hg (congrArg Addr.block e).symm)
 exact ⟨by rw [World.size_setCell];exact h.l1,by rw [World.size_setCell];exact h.l2,by rw [World.size_setCell];exact h.l3,by rw [World.size_setCell];exact h.l4,
  (k _ _ h1).trans h.m0,(k _ _ h1).trans h.m1,fun j hj=>(k _ _ h2).trans (h.vs j hj),(k _ _ h3).trans h.e0,(k _ _ h3).trans h.e1,(k _ _ h3).trans h.e2,
  fun j hj=>(k _ _ h4).trans (h.t0 j hj),fun j hj=>(k _ _ h4).trans (h.t1 j hj),fun j hj=>(k _ _ h4).trans (h.t2 j hj),fun j hj=>(k _ _ h4).trans (h.t3 j hj),h.cap⟩
theorem Stm.drew {w:World} {g1 g2 g3 g4 c4 p q t:Nat} {B:List Nat} (h:Stm w g1 g2 g3 g4 c4 p q t B):Stm w.drew g1 g2 g3 g4 c4 p q t B:=h.after (Below.refl _ _).drew
end
section
/- A call of a Go function at a step of a region that draws its order,by the callee's contract. -/
open Go.RowKit Go.Shelf
end
section
/- law 27: the key and the example. -/
open Go.RowKit Go.Shelf
theorem l27key_c (w:World):Calls Tryz.prog 44 #[] w fun e w'=>e=.returned (.agg #[.string (E 77),.string ⟨#[]⟩,.string (E 4),.string (E 9)])∧Below w.heap.size w w':=by
 have H1:Hid (∀w,Calls Tryz.prog 17 #[.int .u64 77] w fun e w'=>e=.returned (.string (E 77))∧Below w.heap.size w w'):=fun w=>l27num_c 77 w (by decide)
 have H2:Hid (∀w,Calls Tryz.prog 17 #[.int .u64 4] w fun e w'=>e=.returned (.string (E 4))∧Below w.heap.size w w'):=fun w=>l27num_c 4 w (by decide)
 have H3:Hid (∀w,Calls Tryz.prog 17 #[.int .u64 9] w fun e w'=>e=.returned (.string (E 9))∧Below w.heap.size w w'):=fun w=>l27num_c 9 w (by decide)
 generalize E 77=s1 at H1 ⊢;generalize E 4=s2 at H2 ⊢;generalize E 9=s3 at H3 ⊢;have hR:=Blk.new w #[.string ⟨#[]⟩,.string ⟨#[]⟩,.string ⟨#[]⟩,.string ⟨#[]⟩] 26;have hbR:=b1 w (.cells #[.string ⟨#[]⟩,.string ⟨#[]⟩,.string ⟨#[]⟩,.string ⟨#[]⟩] 26);go_enter Tryz.func44,Tryz.ntmps44
 go_wp2_with fail
 refine (H1.out _).mono ?_;rintro e w1 ⟨rfl,hb1⟩;go_wp2_with fail
 refine (H2.out _).mono ?_;rintro e w2 ⟨rfl,hb2⟩;go_wp2_with fail
 refine (H3.out _).mono ?_;rintro e w3 ⟨rfl,hb3⟩;have hR3:=((hR.after hb1).after hb2).after hb3;have hb:=bt (bt (bt hbR hb1) hb2) hb3;have hl:=hR3.lt;clear hR hbR hb1 hb2 hb3;obtain ⟨hR3c0,hR3f0,hR3c1,hR3f1,hR3c2,hR3f2,hR3c3,hR3f3⟩:=hR3.x4;go_wp2;refine bodyPost_ret (v:=.agg #[.string s1,.string ⟨#[]⟩,.string s2,.string s3]) ?_ rfl ⟨rfl,(((hb.setCell (Nat.le_refl _) _).setCell (Nat.le_refl _) _).setCell (Nat.le_refl _) _).setCell (Nat.le_refl _) _⟩;simp [results,Tryz.results44,go_sem,hR3c0,hR3c1,hR3c2,hR3c3,hl]
def exT:Tp:=⟨[E 1,E 0,E 0,E 2],⟨#[]⟩,0⟩
def exP:List Nat:=[67,4,4,16]
def exO:List (Nat × Nat):=[(2,1),(1,0),(1,0),(1,2)]
def exW:List Int:=[2,1,1,0,1,0,1,2,-2]
theorem exT_ok:exT.Ok:=⟨by decide,by
 intro x hx;have hx:x∈[E 1,E 0,E 0,E 2]:=hx;simp only [List.mem_cons,List.not_mem_nil,or_false] at hx;rcases hx with rfl | rfl | rfl | rfl <;> exact Nat.le_trans ((E_size_le _ 1).2 (by decide)) (by decide),by decide⟩
theorem ex_ky:kyV (E 77) (E 0) (E 4) (E 9)=0:=by
 unfold kyV;rw [pedV_E (by decide) (by decide) (by decide) (by decide),show pedE 77 0 4 9=0 by decide];rfl
theorem ex_good:exT.good=true:=by
 unfold Tp.good exT;simp only [List.all_cons,List.all_nil,vldB_E 0 (by decide),vldB_E 1 (by decide),vldB_E 2 (by decide)];decide
theorem ex_coin (att:Att) (j:Nat) (x:Nat) (hj:j<4) (hx:exT.vals[j]'hj=E x) (h5:x<5):prC att 5 exT j=(0,x):=by
 unfold prC coin
 have hg:(exT.on j).good=true:=by
  have h:=ex_good;unfold Tp.good at h ⊢;rw [Bool.and_eq_true] at h;rw [Bool.and_eq_true];refine ⟨h.1,?_⟩;show (decide (0≤(0:Int)+(j:Int))&&decide ((0:Int)+(j:Int)≤2147483647))=true;rw [decide_eq_true (by omega),decide_eq_true (by omega)];rfl
 rw [hg,if_neg (by decide),if_neg (by decide)];have e:(exT.on j).pos.toNat=j:=by show ((0:Int)+(j:Int)).toNat=j;omega
 refine coinD_val (T:=exT.on j) (x:=x) (by rw [e];exact hj) ?_ h5;have:(exT.on j).vals=exT.vals:=rfl;simp only [e,this];exact hx
theorem ex_pr (att:Att):prR att (E 77) (E 0) (E 4) (E 9) 3 false (E 10) false (E 2) (E 5) exT=⟨0,exP,exO,exT.on 4⟩:=by
 unfold prR
 have hv:∀n:Nat,n<256→ivB false (E n)=true:=fun n h=>by
  have:=ivB_I (n:Int) (by rw [Int.natAbs_natCast];exact Nat.lt_of_lt_of_le h (by decide));rwa [sg_nat,Int.natAbs_natCast] at this
 rw [hv 10 (by decide),hv 2 (by decide),vldB_E 5 (by decide),ex_good,if_neg (by decide),ex_ky,if_neg (by decide),if_neg (by rw [empty_E];decide)];have e1:intb false (E 10)=10:=by unfold intb;rw [numb_E];rfl
 rw [e1,numb_E,numb_E,numb_E,numb_E,if_neg (by decide)];have c0:=ex_coin att 0 1 (by decide) rfl (by decide);have c1:=ex_coin att 1 0 (by decide) rfl (by decide);have c2:=ex_coin att 2 0 (by decide) rfl (by decide);have c3:=ex_coin att 3 2 (by decide) rfl (by decide);have hr:roots (10-3)=[2,1,1,1]:=by decide
 rw [hr,prN_ok (fun j hj=>by
  match j,hj with
  | 0,_=>rw [c0]
  | 1,_=>rw [c1]
  | 2,_=>rw [c2]
  | 3,_=>rw [c3])]
 have hp:prP att 77 4 9 5 [2,1,1,1] exT 4=exP:=by
  show [cmtN 77 4 9 (2:Nat) ((prC att 5 exT 0).2:Nat),cmtN 77 4 9 (1:Nat) ((prC att 5 exT 1).2:Nat),cmtN 77 4 9 (1:Nat) ((prC att 5 exT 2).2:Nat),cmtN 77 4 9 (1:Nat) ((prC att 5 exT 3).2:Nat)]=exP;rw [c0,c1,c2,c3];decide
 have ho:prO att 5 [2,1,1,1] exT 4=exO:=by
  show [(2,(prC att 5 exT 0).2),(1,(prC att 5 exT 1).2),(1,(prC att 5 exT 2).2),(1,(prC att 5 exT 3).2)]=exO;rw [c0,c1,c2,c3];decide
 rw [hp,ho]
theorem ex_wit:witR (E 77) (E 0) (E 4) (E 9) false (E 10) false (E 2) (exO.map nop)=(0,exW):=by
 have hv:∀n:Nat,n<256→ivB false (E n)=true:=fun n h=>by
  have:=ivB_I (n:Int) (by rw [Int.natAbs_natCast];exact Nat.lt_of_lt_of_le h (by decide));rwa [sg_nat,Int.natAbs_natCast] at this
 have hc:chkV ((false,E 10) :: (false,E 2) :: oL (exO.map nop)) [] (E 77) (E 0) (E 4) (E 9)=0:=by
  unfold chkV;rw [if_pos,ex_ky];refine ⟨?_,rfl⟩;show (([(false,E 10),(false,E 2),(false,E 2),(false,E 1),(false,E 1),(false,E 0),(false,E 1),(false,E 0),(false,E 1),(false,E 2)]:List (Bool × ByteArray)).all iv2)=true;simp only [List.all_cons,List.all_nil,iv2,hv 10 (by decide),hv 2 (by decide),hv 1 (by decide),hv 0 (by decide),Bool.and_self]
 unfold witR;rw [hc,if_neg (by decide),if_neg (by decide)];have hi:∀n:Nat,intb false (E n)=(n:Int):=fun n=>by unfold intb;rw [numb_E];rfl
 have h1:oZ (exO.map nop)=[2,1,1,0,1,0,1,2]:=by
  show [intb false (E 2),intb false (E 1),intb false (E 1),intb false (E 0),intb false (E 1),intb false (E 0),intb false (E 1),intb false (E 2)]=_;simp only [hi];rfl
 have h2:restL (intb false (E 2)) (exO.map nop)=-2:=by
  show intb false (E 2)-intb false (E 2)*intb false (E 1)-intb false (E 1)*intb false (E 0)-intb false (E 1)*intb false (E 0)-intb false (E 1)*intb false (E 2)=-2;simp only [hi];rfl
 rw [h1,h2];rfl
end
section
open Go.RowKit Go.Shelf
def vAw (B gO:Nat):RV:=fun st i v w=>match i with
 | 0=>v=.agg #[.string (E 77),.string ⟨#[]⟩,.string (E 4),.string (E 9)]
 | 1=>v=.agg #[.bool false,.string (E 10),.bool false,.string (E 2)]
 | 2=>v=.string (E 5)
 | 3=>v=.string (E 1)
 | 4=>v=.string (E 0)
 | 5=>v=.string (E 0)
 | 6=>v=.string (E 2)
 | 7=>st=false→∃b,v=.slice (some ⟨b,0,none⟩) 4 4∧SsAt w v exT.vals
 | 8=>st=false→∃u,v=.agg #[u,.string ⟨#[]⟩,.int .i64 0]∧SsAt w u exT.vals
 | 9=>∃p o t,v=.tuple #[p,o,t,.int .i64 0]∧NOwn w 0 p exP∧OOwn w 0 o exO∧∃ao n c,t=.agg #[.slice ao n c,.string ⟨#[]⟩,.int .i64 4]
 | 10=>∃p o t,v=.tuple #[p,o,t,.int .i64 0]∧NOwn w 0 p exP∧OOwn w 0 o exO∧∃ao n c,t=.agg #[.slice ao n c,.string ⟨#[]⟩,.int .i64 4]
 | 11=>NOwn w 0 v exP
 | 12=>OOwn w 0 v exO
 | 13=>∃ao n c,v=.agg #[.slice ao n c,.string ⟨#[]⟩,.int .i64 4]
 | 14=>v=.int .i64 0
 | 15=>∃g x y z,v=.pointer (some ⟨g,0,none⟩)∧B≤g∧Blk w g 35 [x,y,z]∧(st=true→z=.int .i64 4)
 | 16=>NOwn w 0 v exP
 | 17=>OOwn w 0 v exO
 | 19=>v=.int .i64 0
 | _=>True
theorem vAw_st (B gO:Nat):∀b j u w w',Below w.heap.size w w'→vAw B gO b j u w→vAw B gO b j u w':=by
 intro b j u w w' hb h;unfold vAw at h ⊢;split at h
 all_goals first
  | exact h
  | (intro h0;obtain ⟨x,h1,h2⟩:=h h0;exact ⟨x,h1,SsAt.after h2 hb⟩)
  | (obtain ⟨p,o,t,h1,h2,h3,h4⟩:=h;exact ⟨p,o,t,h1,own_after h2 hb,own_after h3 hb,h4⟩)
  | exact own_after h hb
  | (obtain ⟨g,x,y,z,h1,h2,h3,h4⟩:=h;exact ⟨g,x,y,z,h1,h2,h3.after hb,h4⟩)
theorem vAw_store {B gO g:Nat} {w:World} {y0 y1 y2:Value} (hG:Blk w g 35 [y0,y1,y2]) (hB:B≤g) (x0 x1:Value):∀(j:Nat) (u:Value),(j=15→u=.pointer (some ⟨g,0,none⟩))→vAw B gO false j u w→vAw B gO true j u (((w.setCell ⟨g,0,none⟩ x0).setCell ⟨g,1,none⟩ x1).setCell ⟨g,2,none⟩ (.int .i64 4)):=by
 intro j u h15 h;have hN:∀{v l},NOwn w 0 v l→NOwn (((w.setCell ⟨g,0,none⟩ x0).setCell ⟨g,1,none⟩ x1).setCell ⟨g,2,none⟩ (.int .i64 4)) 0 v l:=fun h=>own_set (own_set (own_set h (own_ne h hG (by decide))) (own_ne h hG (by decide))) (own_ne h hG (by decide))
 have hO:∀{v l},OOwn w 0 v l→OOwn (((w.setCell ⟨g,0,none⟩ x0).setCell ⟨g,1,none⟩ x1).setCell ⟨g,2,none⟩ (.int .i64 4)) 0 v l:=fun h=>own_set (own_set (own_set h (own_ne h hG (by decide))) (own_ne h hG (by decide))) (own_ne h hG (by decide))
 unfold vAw at h ⊢;split at h
 all_goals first
  | exact h
  | exact hN h
  | exact hO h
  | (intro h0;cases h0;done)
  | (obtain ⟨p,o,t,h1,h2,h3,h4⟩:=h;exact ⟨p,o,t,h1,hN h2,hO h3,h4⟩)
  | exact ⟨g,_,_,_,h15 rfl,hB,((hG.set 0 x0).set 1 x1).set 2 (.int .i64 4),fun _=>rfl⟩
def vAx (u3:Value):RV:=fun _ i v w=>match i with
 | 0=>v=.agg #[.string (E 77),.string ⟨#[]⟩,.string (E 4),.string (E 9)]
 | 1=>v=.agg #[.bool false,.string (E 10),.bool false,.string (E 2)]
 | 2=>v=u3
 | 3=>∃z,v=.tuple #[z,.int .i64 0]∧ZsAt w z exW
 | 4=>∃z,v=.tuple #[z,.int .i64 0]∧ZsAt w z exW
 | 5=>ZsAt w v exW
 | 6=>v=.int .i64 0
 | 7=>ZsAt w v exW
 | 8=>v=.int .i64 0
 | _=>True
theorem vAx_st (u3:Value):∀b j u w w',Below w.heap.size w w'→vAx u3 b j u w→vAx u3 b j u w':=by
 intro b j u w w' hb h;unfold vAx at h ⊢;split at h
 all_goals first
  | exact h
  | (obtain ⟨z,h1,h2⟩:=h;exact ⟨z,h1,ZsAt.after h2 hb⟩)
  | exact ZsAt.after h hb
theorem awake27_c (w:World):Calls Tryz.prog 11 #[] w fun e w'=>e=.returned (.bool true)∧Below w.heap.size w w':=by
 have HW:Hid (∀(n:Nat) (w:World),n<9223372036854775807→Calls Tryz.prog 15 #[.int .i64 (n:Int)] w fun e w'=>e=.returned (.agg #[.bool false,.string (E n)])∧Below w.heap.size w w'):=fun n w hn=>by
  have h:=l27whole_c (n:Int) w (by omega) (by omega);rwa [sg_nat,Int.natAbs_natCast] at h
 have H10:=Lib.hid (fun w=>HW.out 10 w (by decide));have H2:=Lib.hid (fun w=>HW.out 2 w (by decide));go_enter Tryz.func11,Tryz.ntmps11
 go_wp2_with fail
 refine (H10.out _).mono ?_;rintro e w1 ⟨rfl,hb1⟩;go_wp2_with fail
 refine (H2.out _).mono ?_;rintro e w2 ⟨rfl,hb2⟩;have hO:=Blk.new w2 #[.bool false,.string (E 10),.bool false,.string (E 2)] 30;have hb:=ba (bt hb1 hb2) (.cells #[.bool false,.string (E 10),.bool false,.string (E 2)] 30);clear hb1 hb2 H10 H2;go_upto_region 2 with fail
 generalize w2.alloc (.cells #[.bool false,.string (E 10),.bool false,.string (E 2)] 30)=w3 at hO hb ⊢;obtain ⟨gO,hgO⟩:∃g,w2.heap.size=g:=⟨_,rfl⟩;rw [hgO] at hO ⊢;replace hO:Blk w3 gO 30 [.bool false,.string (E 10),.bool false,.string (E 2)]:=hO;clear hgO
 have HPR:Hid (∀(u:Value) (w:World),SsAt w u exT.vals→Calls Tryz.prog 43 #[.agg #[.string (E 77),.string ⟨#[]⟩,.string (E 4),.string (E 9)],.int .i64 3,.agg #[.bool false,.string (E 10),.bool false,.string (E 2)],.string (E 5),.agg #[u,.string ⟨#[]⟩,.int .i64 0]] w (PrPost w ⟨0,exP,exO,exT.on 4⟩)):=fun u w hu=>by
  have hz:∀n k:Nat,n<256^k→(E n).size≤k:=fun n k h=>(E_size_le n k).2 h
  have h:=sqprep_c (fun _ _ _ _=>0) (E 77) (E 0) (E 4) (E 9) 3 false (E 10) false (E 2) (E 5) exT u w (fun h=>absurd rfl h) exT_ok (hz 77 8 (by decide)) (Nat.le_trans (hz 0 8 (by decide)) (by decide)) (Nat.le_trans (hz 4 8 (by decide)) (by decide)) (Nat.le_trans (hz 9 8 (by decide)) (by decide)) (hz 10 12 (by decide)) (hz 2 12 (by decide)) (hz 5 12 (by decide)) (by decide) (by decide) hu;rw [ex_pr] at h;exact h
 go_cut [2,3,4,5] (fun s2 s3 s4 s5 wx=>∃g x y,s4=.pointer (some ⟨g,0,none⟩)∧s5=.int .i64 0∧NOwn wx 0 s2 exP∧OOwn wx 0 s3 exO∧Blk wx g 35 [x,y,.int .i64 4]∧Below w3.heap.size w3 wx)
 case first =>
  refine wp_region_inv (vAw w3.heap.size gO) 18 66 (by kernel_rfl) rfl (by kernel_rfl) ?_ ?_ (by kernel_rfl)
  ·intro hsl done a' w' i o hI ho hun hpre;have hi:i<20:=(Array.getElem?_eq_some_iff.1 ho).1;have hst:=vAw_st w3.heap.size gO;have hwz:=hI.bw.size;have c13:done.getD 18 false=true→done.getD 13 false=true:=fun h=>hI.pr 18 _ rfl h { on:=13,ground:=Ground.data } (by simp) rfl
   have c15:done.getD 18 false=true→done.getD 15 false=true:=fun h=>hI.pr 18 _ rfl h { on:=15,ground:=Ground.data } (by simp) rfl
   have c10:done.getD 13 false=true→done.getD 10 false=true:=fun h=>hI.pr 13 _ rfl h { on:=10,ground:=Ground.data } (by simp) rfl
   have c9:done.getD 10 false=true→done.getD 9 false=true:=fun h=>hI.pr 10 _ rfl h { on:=9,ground:=Ground.data } (by simp) rfl
   have c8:done.getD 9 false=true→done.getD 8 false=true:=fun h=>hI.pr 9 _ rfl h { on:=8,ground:=Ground.data } (by simp) rfl
   match i,hi,ho,hun,hpre with
   | 0,_,ho,hun,hpre =>
    simp at ho;subst ho;refine hI.op (d:=12) hsl hst hwz rfl rfl rfl (by decide) hpre ?_;simp only [List.getElem_toArray,List.getElem_cons_zero,List.getElem_cons_succ] at hpre ⊢;refine wp_callX 44 #[] #[] rfl (enters_of Tryz.func44 (by kernel_rfl) rfl) ?_;simp only [List.map_toArray,List.map_nil];refine (l27key_c w').mono ?_;rintro e w'' ⟨rfl,hb⟩;exact ⟨_,rfl,hb,rfl⟩
   | 1,_,ho,hun,hpre =>
    simp at ho;subst ho;refine hI.op (d:=13) hsl hst hwz rfl rfl rfl (by decide) hpre ?_;simp only [List.getElem_toArray,List.getElem_cons_zero,List.getElem_cons_succ] at hpre ⊢;have q1:=hI.keep 1 (.pointer (some ⟨gO,0,none⟩)) rfl (by kernel_rfl);have hOx:=hO.after hI.bw;have hOl:=hOx.lt;have x0:=hOx.cell 0;have x1:=hOx.cell 1;have x2:=hOx.cell 2;have x3:=hOx.cell 3;refine wp_val (v:=.agg #[.bool false,.string (E 10),.bool false,.string (E 2)]) (by simp [execOp,q1,go_sem,x0,x1,x2,x3]) rfl
   | 2,_,ho,hun,hpre =>
    simp at ho;subst ho;refine hI.op (d:=14) hsl hst hwz rfl rfl rfl (by decide) hpre ?_;simp only [List.getElem_toArray,List.getElem_cons_zero,List.getElem_cons_succ] at hpre ⊢;refine wp_callX 17 #[.const (.int .u64 5)] #[55] rfl (enters_of Tryz.func17 (by kernel_rfl) rfl) ?_;simp only [List.map_toArray,List.map_cons,List.map_nil,eval_const];refine (l27num_c 5 w' (by decide)).mono ?_;rintro e w'' ⟨rfl,hb⟩;exact ⟨_,rfl,hb,rfl⟩
   | 3,_,ho,hun,hpre =>
    simp at ho;subst ho;refine hI.op (d:=15) hsl hst hwz rfl rfl rfl (by decide) hpre ?_;simp only [List.getElem_toArray,List.getElem_cons_zero,List.getElem_cons_succ] at hpre ⊢;refine wp_callX 17 #[.const (.int .u64 1)] #[55] rfl (enters_of Tryz.func17 (by kernel_rfl) rfl) ?_;simp only [List.map_toArray,List.map_cons,List.map_nil,eval_const];refine (l27num_c 1 w' (by decide)).mono ?_;rintro e w'' ⟨rfl,hb⟩;exact ⟨_,rfl,hb,rfl⟩
   | 4,_,ho,hun,hpre =>
    simp at ho;subst ho;refine hI.op (d:=16) hsl hst hwz rfl rfl rfl (by decide) hpre ?_;simp only [List.getElem_toArray,List.getElem_cons_zero,List.getElem_cons_succ] at hpre ⊢;refine wp_callX 17 #[.const (.int .u64 0)] #[55] rfl (enters_of Tryz.func17 (by kernel_rfl) rfl) ?_;simp only [List.map_toArray,List.map_cons,List.map_nil,eval_const];refine (l27num_c 0 w' (by decide)).mono ?_;rintro e w'' ⟨rfl,hb⟩;exact ⟨_,rfl,hb,rfl⟩
   | 5,_,ho,hun,hpre =>
    simp at ho;subst ho;refine hI.op (d:=17) hsl hst hwz rfl rfl rfl (by decide) hpre ?_;simp only [List.getElem_toArray,List.getElem_cons_zero,List.getElem_cons_succ] at hpre ⊢;refine wp_callX 17 #[.const (.int .u64 0)] #[55] rfl (enters_of Tryz.func17 (by kernel_rfl) rfl) ?_;simp only [List.map_toArray,List.map_cons,List.map_nil,eval_const];refine (l27num_c 0 w' (by decide)).mono ?_;rintro e w'' ⟨rfl,hb⟩;exact ⟨_,rfl,hb,rfl⟩
   | 6,_,ho,hun,hpre =>
    simp at ho;subst ho;refine hI.op (d:=18) hsl hst hwz rfl rfl rfl (by decide) hpre ?_;simp only [List.getElem_toArray,List.getElem_cons_zero,List.getElem_cons_succ] at hpre ⊢;refine wp_callX 17 #[.const (.int .u64 2)] #[55] rfl (enters_of Tryz.func17 (by kernel_rfl) rfl) ?_;simp only [List.map_toArray,List.map_cons,List.map_nil,eval_const];refine (l27num_c 2 w' (by decide)).mono ?_;rintro e w'' ⟨rfl,hb⟩;exact ⟨_,rfl,hb,rfl⟩
   | 7,_,ho,hun,hpre =>
    simp at ho;subst ho;refine hI.op (d:=19) hsl hst hwz rfl rfl rfl (by decide) hpre ?_;simp only [List.getElem_toArray,List.getElem_cons_zero,List.getElem_cons_succ] at hpre ⊢;obtain ⟨v15,ev15,hv15⟩:=hI.dn 3 _ 15 rfl (hpre { on:=3,ground:=Ground.data } (by simp) rfl) rfl;have qv15:=eval_of ev15;obtain ⟨v16,ev16,hv16⟩:=hI.dn 4 _ 16 rfl (hpre { on:=4,ground:=Ground.data } (by simp) rfl) rfl;have qv16:=eval_of ev16;obtain ⟨v17,ev17,hv17⟩:=hI.dn 5 _ 17 rfl (hpre { on:=5,ground:=Ground.data } (by simp) rfl) rfl;have qv17:=eval_of ev17;obtain ⟨v18,ev18,hv18⟩:=hI.dn 6 _ 18 rfl (hpre { on:=6,ground:=Ground.data } (by simp) rfl) rfl;have qv18:=eval_of ev18;obtain rfl:v15=.string (E 1):=hv15;obtain rfl:v16=.string (E 0):=hv16;obtain rfl:v17=.string (E 0):=hv17;obtain rfl:v18=.string (E 2):=hv18;have hN:=Blk.new w' #[.string (E 1),.string (E 0),.string (E 0),.string (E 2)] 22;have hSS:SsAt (w'.alloc (.cells #[.string (E 1),.string (E 0),.string (E 0),.string (E 2)] 22)) (.slice (some ⟨w'.heap.size,0,none⟩) 4 4) exT.vals:=ss_own (base:=0) exT.vals rfl (own_blk hN rfl (by decide));simp [Oper.wp,execOp,ev15,ev16,ev17,ev18,go_sem];exact ⟨_,rfl,b1 _ _,fun _=>⟨w'.heap.size,rfl,hSS⟩⟩
   | 8,_,ho,hun,hpre =>
    simp at ho;subst ho;refine hI.op (d:=20) hsl hst hwz rfl rfl rfl (by decide) hpre ?_;simp only [List.getElem_toArray,List.getElem_cons_zero,List.getElem_cons_succ] at hpre ⊢;obtain ⟨v19,ev19,hv19⟩:=hI.dn 7 _ 19 rfl (hpre { on:=7,ground:=Ground.data } (by simp) rfl) rfl;have qv19:=eval_of ev19;have st0:done.getD 18 false=false:=Bool.eq_false_iff.2 fun h=>by rw [c8 (c9 (c10 (c13 h)))] at hun;cases hun
    obtain ⟨b,rfl,hS⟩:=hv19 st0;refine wp_callX 45 #[.tmp 19] #[33] rfl (enters_of Tryz.func45 (by kernel_rfl) rfl) ?_;simp only [List.map_toArray,List.map_cons,List.map_nil,qv19];refine (cvalues_c exT.vals ⟨b,0,none⟩ 4 4 w' (by decide) hS).mono ?_;rintro e w'' ⟨u,rfl,hu,hb⟩;exact ⟨_,rfl,hb,fun _=>⟨u,rfl,hu⟩⟩
   | 9,_,ho,hun,hpre =>
    simp at ho;subst ho;refine hI.op (d:=21) hsl hst hwz rfl rfl rfl (by decide) hpre ?_;simp only [List.getElem_toArray,List.getElem_cons_zero,List.getElem_cons_succ] at hpre ⊢;obtain ⟨v12,ev12,hv12⟩:=hI.dn 0 _ 12 rfl (hpre { on:=0,ground:=Ground.data } (by simp) rfl) rfl;have qv12:=eval_of ev12;obtain ⟨v13,ev13,hv13⟩:=hI.dn 1 _ 13 rfl (hpre { on:=1,ground:=Ground.data } (by simp) rfl) rfl;have qv13:=eval_of ev13;obtain ⟨v14,ev14,hv14⟩:=hI.dn 2 _ 14 rfl (hpre { on:=2,ground:=Ground.data } (by simp) rfl) rfl;have qv14:=eval_of ev14;obtain ⟨v20,ev20,hv20⟩:=hI.dn 8 _ 20 rfl (hpre { on:=8,ground:=Ground.data } (by simp) rfl) rfl;have qv20:=eval_of ev20;obtain rfl:v12=.agg #[.string (E 77),.string ⟨#[]⟩,.string (E 4),.string (E 9)]:=hv12;obtain rfl:v13=.agg #[.bool false,.string (E 10),.bool false,.string (E 2)]:=hv13;obtain rfl:v14=.string (E 5):=hv14;have st0:done.getD 18 false=false:=Bool.eq_false_iff.2 fun h=>by rw [c9 (c10 (c13 h))] at hun;cases hun
    obtain ⟨u,rfl,hu⟩:=hv20 st0;refine wp_callX 43 #[.tmp 12,.const (.int .i64 3),.tmp 13,.tmp 14,.tmp 20] #[26,3,30,22,35] rfl (enters_of Tryz.func43 (by kernel_rfl) rfl) ?_;simp only [List.map_toArray,List.map_cons,List.map_nil,qv12,qv13,qv14,qv20,eval_const];refine (HPR.out u w' hu).mono ?_;rintro e w'' ⟨p,o,t,rfl,hp,ho,⟨x,rfl,hx⟩,hb⟩;obtain ⟨ao,c,rfl⟩:=RAt.form hx;exact ⟨_,rfl,hb,p,o,_,rfl,own_mono hp (Nat.zero_le _),own_mono ho (Nat.zero_le _),ao,_,c,rfl⟩
   | 10,_,ho,hun,hpre =>
    simp at ho;subst ho;refine hI.op (d:=11) hsl hst hwz rfl rfl rfl (by decide) hpre ?_;simp only [List.getElem_toArray,List.getElem_cons_zero,List.getElem_cons_succ] at hpre ⊢;obtain ⟨v21,ev21,hv21⟩:=hI.dn 9 _ 21 rfl (hpre { on:=9,ground:=Ground.data } (by simp) rfl) rfl;have qv21:=eval_of ev21;refine wp_val (v:=v21) (by simp [execOp,ev21,go_sem]) ?_;exact hv21
   | 11,_,ho,hun,hpre =>
    simp at ho;subst ho;refine hI.op (d:=22) hsl hst hwz rfl rfl rfl (by decide) hpre ?_;simp only [List.getElem_toArray,List.getElem_cons_zero,List.getElem_cons_succ] at hpre ⊢;obtain ⟨v11,ev11,hv11⟩:=hI.dn 10 _ 11 rfl (hpre { on:=10,ground:=Ground.data } (by simp) rfl) rfl;have qv11:=eval_of ev11;obtain ⟨p,o,t,rfl,hp,ho,hx⟩:=hv11;refine wp_val (v:=p) (by simp [execOp,ev11,go_sem]) ?_;exact hp
   | 12,_,ho,hun,hpre =>
    simp at ho;subst ho;refine hI.op (d:=23) hsl hst hwz rfl rfl rfl (by decide) hpre ?_;simp only [List.getElem_toArray,List.getElem_cons_zero,List.getElem_cons_succ] at hpre ⊢;obtain ⟨v11,ev11,hv11⟩:=hI.dn 10 _ 11 rfl (hpre { on:=10,ground:=Ground.data } (by simp) rfl) rfl;have qv11:=eval_of ev11;obtain ⟨p,o,t,rfl,hp,ho,hx⟩:=hv11;refine wp_val (v:=o) (by simp [execOp,ev11,go_sem]) ?_;exact ho
   | 13,_,ho,hun,hpre =>
    simp at ho;subst ho;refine hI.op (d:=24) hsl hst hwz rfl rfl rfl (by decide) hpre ?_;simp only [List.getElem_toArray,List.getElem_cons_zero,List.getElem_cons_succ] at hpre ⊢;obtain ⟨v11,ev11,hv11⟩:=hI.dn 10 _ 11 rfl (hpre { on:=10,ground:=Ground.data } (by simp) rfl) rfl;have qv11:=eval_of ev11;obtain ⟨p,o,t,rfl,hp,ho,hx⟩:=hv11;refine wp_val (v:=t) (by simp [execOp,ev11,go_sem]) ?_;exact hx
   | 14,_,ho,hun,hpre =>
    simp at ho;subst ho;refine hI.op (d:=25) hsl hst hwz rfl rfl rfl (by decide) hpre ?_;simp only [List.getElem_toArray,List.getElem_cons_zero,List.getElem_cons_succ] at hpre ⊢;obtain ⟨v11,ev11,hv11⟩:=hI.dn 10 _ 11 rfl (hpre { on:=10,ground:=Ground.data } (by simp) rfl) rfl;have qv11:=eval_of ev11;obtain ⟨p,o,t,rfl,hp,ho,hx⟩:=hv11;refine wp_val (v:=.int .i64 0) (by simp [execOp,ev11,go_sem]) ?_;exact rfl
   | 15,_,ho,hun,hpre =>
    simp at ho;subst ho;refine hI.op (d:=4) hsl hst hwz rfl rfl rfl (by decide) hpre ?_;simp only [List.getElem_toArray,List.getElem_cons_zero,List.getElem_cons_succ] at hpre ⊢;have hN:=Blk.new w' #[.slice none 0 0,.string ⟨#[]⟩,.int .i64 0] 35;have hbN:=b1 w' (.cells #[.slice none 0 0,.string ⟨#[]⟩,.int .i64 0] 35);simp [Oper.wp,execOp,go_sem];have st0:done.getD 18 false=false:=Bool.eq_false_iff.2 fun h=>by rw [c15 h] at hun;cases hun
    exact ⟨_,rfl,hbN,w'.heap.size,_,_,_,rfl,hwz,hN,fun h=>by rw [Array.getD_eq_getD_getElem?] at st0;rw [st0] at h;cases h⟩
   | 16,_,ho,hun,hpre =>
    simp at ho;subst ho;refine hI.op (d:=2) hsl hst hwz rfl rfl rfl (by decide) hpre ?_;simp only [List.getElem_toArray,List.getElem_cons_zero,List.getElem_cons_succ] at hpre ⊢;obtain ⟨v22,ev22,hv22⟩:=hI.dn 11 _ 22 rfl (hpre { on:=11,ground:=Ground.data } (by simp) rfl) rfl;have qv22:=eval_of ev22;refine wp_val (v:=v22) (by simp [execOp,ev22,go_sem]) ?_;exact hv22
   | 17,_,ho,hun,hpre =>
    simp at ho;subst ho;refine hI.op (d:=3) hsl hst hwz rfl rfl rfl (by decide) hpre ?_;simp only [List.getElem_toArray,List.getElem_cons_zero,List.getElem_cons_succ] at hpre ⊢;obtain ⟨v23,ev23,hv23⟩:=hI.dn 12 _ 23 rfl (hpre { on:=12,ground:=Ground.data } (by simp) rfl) rfl;have qv23:=eval_of ev23;refine wp_val (v:=v23) (by simp [execOp,ev23,go_sem]) ?_;exact hv23
   | 18,_,ho,hun,hpre =>
    simp at ho;subst ho;refine wpOp_step rfl fun K' hK=>?_
    simp only [List.getElem_toArray,List.getElem_cons_zero,List.getElem_cons_succ] at hpre ⊢;obtain ⟨v24,ev24,hv24⟩:=hI.dn 13 _ 24 rfl (hpre { on:=13,ground:=Ground.data } (by simp) rfl) rfl;have qv24:=eval_of ev24;obtain ⟨v4,ev4,hv4⟩:=hI.dn 15 _ 4 rfl (hpre { on:=15,ground:=Ground.data } (by simp) rfl) rfl;have qv4:=eval_of ev4;obtain ⟨ao,nn,cc,rfl⟩:=hv24;obtain ⟨g,y0,y1,y2,rfl,hBg,hG,_⟩:=hv4;have hGl:=hG.lt;have f0:=hG.free 0;have f1:=hG.free 1;have f2:=hG.free 2;have z0:=hG.cell 0;have z1:=hG.cell 1;have z2:=hG.cell 2;rw [if_pos (by simp [Region.wanted])];simp [Oper.wp,execOp,ev24,ev4,go_sem,f0,f1,f2,z0,z1,z2,hGl];have hi18:18<done.size:=by rw [hI.sz];decide
    have sB:∀(w:World) (i:Nat) (u:Value),Below w3.heap.size w3 w→Below w3.heap.size w3 (w.setCell ⟨g,i,none⟩ u):=fun w i u h=>h.setCell hBg u
    have hB3:Below w3.heap.size w3 (((w'.setCell ⟨g,0,none⟩ (.slice ao nn cc)).setCell ⟨g,1,none⟩ (.string ⟨#[]⟩)).setCell ⟨g,2,none⟩ (.int .i64 4)):=sB _ _ _ (sB _ _ _ (sB _ _ _ hI.bw));have h9:=hI.skip (i:=18) (v:=undef) rfl rfl hpre hB3 ?_
    ·exact hK a' _ h9
    intro j q hq hj hdn d u hd hu hv;rw [getD_set _ _ _ hi18,if_pos rfl];rw [hun] at hv;refine vAw_store hG hBg _ _ j u ?_ hv;rintro rfl;simp at hq;subst hq;cases hd
    rw [ev4] at hu;injection hu with hu
    exact hu.symm
   | 19,_,ho,hun,hpre =>
    simp at ho;subst ho;refine hI.op (d:=5) hsl hst hwz rfl rfl rfl (by decide) hpre ?_;simp only [List.getElem_toArray,List.getElem_cons_zero,List.getElem_cons_succ] at hpre ⊢;obtain ⟨v25,ev25,hv25⟩:=hI.dn 14 _ 25 rfl (hpre { on:=14,ground:=Ground.data } (by simp) rfl) rfl;have qv25:=eval_of ev25;refine wp_val (v:=v25) (by simp [execOp,ev25,go_sem]) ?_;exact hv25
  ·intro done a' w' hI hd;obtain ⟨f,hf,hv⟩:=hI.all hd;have hT:done.getD 18 false=true:=hd 18 (by decide);rw [hT] at hv;obtain ⟨g,x,y,z,e15,hBg,hG,hz⟩:=hv 15 _ 4 rfl rfl;have h16:=hv 16 _ 2 rfl rfl;have h17:=hv 17 _ 3 rfl rfl;have h19:=hv 19 _ 5 rfl rfl;obtain rfl:z=.int .i64 4:=hz rfl;subst hf;simp only [putAll,List.size_toArray,List.length_cons,List.length_nil,Nat.reduceAdd,List.getElem?_toArray,List.getElem?_cons_zero,List.getElem?_cons_succ,Option.bind_some,Act.put,List.setIfInBounds_toArray,List.set_cons_zero,List.set_cons_succ];go_wp2_with fail
   go_meet
   exact ⟨g,x,y,rfl,h19,h16,h17,hG,hI.bw⟩
 case rest =>
  obtain ⟨g,x,y,rfl,rfl,h2,h3,hG,hbc⟩:=hcut;obtain ⟨wx,hwx⟩:∃wx,wx=wc:=⟨_,rfl⟩;subst hwx;have hO4:=hO.after hbc;have hBW:=bt hb hbc;clear hO hb hbc HPR;have H67:=Lib.hid (fun w=>l27num_c 67 w (by decide));have H4:=Lib.hid (fun w=>l27num_c 4 w (by decide));have H16:=Lib.hid (fun w=>l27num_c 16 w (by decide));have hGl:=hG.lt;obtain ⟨hGc0,hGf0,hGc1,hGf1,hGc2,hGf2⟩:=hG.x3;go_wp2_with fail
  refine (H67.out _).mono ?_;rintro e wa ⟨rfl,hba⟩;go_wp2_with fail
  refine (H4.out _).mono ?_;rintro e wb ⟨rfl,hbb⟩;go_wp2_with fail
  refine (H4.out _).mono ?_;rintro e wd ⟨rfl,hbd⟩;go_wp2_with fail
  refine (H16.out _).mono ?_;rintro e we ⟨rfl,hbe⟩;have hbx:=bt (bt (bt hba hbb) hbd) hbe;have hO5:=hO4.after hbx;have h25:=own_after h2 hbx;have h35:=own_after h3 hbx;have hB5:=bt hBW hbx;have hN:=Blk.new we #[.string (E 67),.string (E 4),.string (E 4),.string (E 16)] 22;have hNb:=b1 we (.cells #[.string (E 67),.string (E 4),.string (E 4),.string (E 16)] 22);have hSS:SsAt (we.alloc (.cells #[.string (E 67),.string (E 4),.string (E 4),.string (E 16)] 22)) (.slice (some ⟨we.heap.size,0,none⟩) 4 4) (exP.map E):=ss_own (base:=0) (exP.map E) rfl (own_blk hN rfl (by decide));have h26:=NOwn.ss (own_after h25 hNb);have h36:=own_after h35 hNb;have hO6:=hO5.after hNb;have hB6:=bt hB5 hNb;clear hba hbb hbd hbe hbx hO4 hO5 h25 h35 hB5 hBW hN hNb hG;go_wp2_with fail
  refine (sameNats_cV exP exP _ _ true _ (by decide) (by decide) h26 hSS (by decide)).mono ?_;rintro e wf ⟨rfl,hbf⟩;have hO7:=hO6.after hbf;have h37:=own_after h36 hbf;have hB7:=bt hB6 hbf;clear hO6 h36 hB6 hbf h26 hSS;go_upto_region 5 with fail
  have HWT:Hid (∀w,OOwn w 0 u3 exO→Calls Tryz.prog 47 #[.agg #[.string (E 77),.string ⟨#[]⟩,.string (E 4),.string (E 9)],.int .i64 3,.agg #[.bool false,.string (E 10),.bool false,.string (E 2)],u3] w (WtPost w (0,exW))):=fun w ho=>by
   have hz:∀n k:Nat,n<256^k→(E n).size≤k:=fun n k h=>(E_size_le n k).2 h
   have h:=sqwit_c (E 77) (E 0) (E 4) (E 9) 3 false (E 10) false (E 2) (exO.map nop) u3 w (hz 77 8 (by decide)) (Nat.le_trans (hz 0 8 (by decide)) (by decide)) (Nat.le_trans (hz 4 8 (by decide)) (by decide)) (Nat.le_trans (hz 9 8 (by decide)) (by decide)) (hz 10 12 (by decide)) (hz 2 12 (by decide)) (by decide) (by
    intro q hq;obtain ⟨p,hp,rfl⟩:=List.mem_map.1 hq;have hp:p∈[(2,1),(1,0),(1,0),(1,2)]:=hp;simp only [List.mem_cons,List.not_mem_nil,or_false] at hp;rcases hp with rfl | rfl | rfl | rfl <;> exact ⟨hz _ 12 (by decide),hz _ 12 (by decide)⟩) ho.os
   rw [ex_wit] at h;exact h
  go_cut [6,7] (fun s6 s7 wy=>s7=.int .i64 0∧ZsAt wy s6 exW∧Below wf.heap.size wf wy)
  case first =>
   refine wp_region_inv (vAx u3) 99 66 (by kernel_rfl) rfl (by kernel_rfl) ?_ ?_ (by kernel_rfl)
   ·intro hsl done a' w' i o hI ho hun hpre;have hi:=(Array.getElem?_eq_some_iff.1 ho).1;have hst:=vAx_st u3;have hwz:=hI.bw.size;match i,hi,ho,hun,hpre with
    | 0,_,ho,hun,hpre =>
     simp at ho;subst ho;refine hI.op (d:=44) hsl hst hwz rfl rfl rfl (by decide) hpre ?_;simp only [List.getElem_toArray,List.getElem_cons_zero,List.getElem_cons_succ] at hpre ⊢;refine wp_callX 44 #[] #[] rfl (enters_of Tryz.func44 (by kernel_rfl) rfl) ?_;simp only [List.map_toArray,List.map_nil];refine (l27key_c w').mono ?_;rintro e w'' ⟨rfl,hb⟩;exact ⟨_,rfl,hb,rfl⟩
    | 1,_,ho,hun,hpre =>
     simp at ho;subst ho;refine hI.op (d:=45) hsl hst hwz rfl rfl rfl (by decide) hpre ?_;simp only [List.getElem_toArray,List.getElem_cons_zero,List.getElem_cons_succ] at hpre ⊢;have q1:=hI.keep 1 (.pointer (some ⟨gO,0,none⟩)) rfl (by kernel_rfl);have hOx:=hO7.after hI.bw;have hOl:=hOx.lt;have x0:=hOx.cell 0;have x1:=hOx.cell 1;have x2:=hOx.cell 2;have x3:=hOx.cell 3;refine wp_val (v:=.agg #[.bool false,.string (E 10),.bool false,.string (E 2)]) (by simp [execOp,q1,go_sem,x0,x1,x2,x3]) rfl
    | 2,_,ho,hun,hpre =>
     simp at ho;subst ho;refine hI.op (d:=46) hsl hst hwz rfl rfl rfl (by decide) hpre ?_;simp only [List.getElem_toArray,List.getElem_cons_zero,List.getElem_cons_succ] at hpre ⊢;have q3:=hI.keep 3 u3 rfl (by kernel_rfl);refine wp_val (v:=u3) (by simp [execOp,q3,go_sem]) rfl
    | 3,_,ho,hun,hpre =>
     simp at ho;subst ho;refine hI.op (d:=47) hsl hst hwz rfl rfl rfl (by decide) hpre ?_;simp only [List.getElem_toArray,List.getElem_cons_zero,List.getElem_cons_succ] at hpre ⊢;obtain ⟨v44,ev44,hv44⟩:=hI.dn 0 _ 44 rfl (hpre { on:=0,ground:=Ground.data } (by simp) rfl) rfl;have qv44:=eval_of ev44;obtain ⟨v45,ev45,hv45⟩:=hI.dn 1 _ 45 rfl (hpre { on:=1,ground:=Ground.data } (by simp) rfl) rfl;have qv45:=eval_of ev45;obtain ⟨v46,ev46,hv46⟩:=hI.dn 2 _ 46 rfl (hpre { on:=2,ground:=Ground.data } (by simp) rfl) rfl;have qv46:=eval_of ev46;obtain rfl:v44=.agg #[.string (E 77),.string ⟨#[]⟩,.string (E 4),.string (E 9)]:=hv44;obtain rfl:v45=.agg #[.bool false,.string (E 10),.bool false,.string (E 2)]:=hv45;obtain rfl:v46=u3:=hv46;refine wp_callX 47 #[.tmp 44,.const (.int .i64 3),.tmp 45,.tmp 46] #[26,3,30,74] rfl (enters_of Tryz.func47 (by kernel_rfl) rfl) ?_;simp only [List.map_toArray,List.map_cons,List.map_nil,qv44,qv45,qv46,eval_const];refine (HWT.out w' (own_after h37 hI.bw)).mono ?_;rintro e w'' ⟨z,rfl,hz,hb⟩;exact ⟨_,rfl,hb,z,rfl,hz⟩
    | 4,_,ho,hun,hpre =>
     simp at ho;subst ho;refine hI.op (d:=43) hsl hst hwz rfl rfl rfl (by decide) hpre ?_;simp only [List.getElem_toArray,List.getElem_cons_zero,List.getElem_cons_succ] at hpre ⊢;obtain ⟨v47,ev47,hv47⟩:=hI.dn 3 _ 47 rfl (hpre { on:=3,ground:=Ground.data } (by simp) rfl) rfl;have qv47:=eval_of ev47;refine wp_val (v:=v47) (by simp [execOp,ev47,go_sem]) ?_;exact hv47
    | 5,_,ho,hun,hpre =>
     simp at ho;subst ho;refine hI.op (d:=48) hsl hst hwz rfl rfl rfl (by decide) hpre ?_;simp only [List.getElem_toArray,List.getElem_cons_zero,List.getElem_cons_succ] at hpre ⊢;obtain ⟨v43,ev43,hv43⟩:=hI.dn 4 _ 43 rfl (hpre { on:=4,ground:=Ground.data } (by simp) rfl) rfl;have qv43:=eval_of ev43;obtain ⟨z,rfl,hz⟩:=hv43;refine wp_val (v:=z) (by simp [execOp,ev43,go_sem]) ?_;exact hz
    | 6,_,ho,hun,hpre =>
     simp at ho;subst ho;refine hI.op (d:=49) hsl hst hwz rfl rfl rfl (by decide) hpre ?_;simp only [List.getElem_toArray,List.getElem_cons_zero,List.getElem_cons_succ] at hpre ⊢;obtain ⟨v43,ev43,hv43⟩:=hI.dn 4 _ 43 rfl (hpre { on:=4,ground:=Ground.data } (by simp) rfl) rfl;have qv43:=eval_of ev43;obtain ⟨z,rfl,hz⟩:=hv43;refine wp_val (v:=.int .i64 0) (by simp [execOp,ev43,go_sem]) ?_;exact rfl
    | 7,_,ho,hun,hpre =>
     simp at ho;subst ho;refine hI.op (d:=6) hsl hst hwz rfl rfl rfl (by decide) hpre ?_;simp only [List.getElem_toArray,List.getElem_cons_zero,List.getElem_cons_succ] at hpre ⊢;obtain ⟨v48,ev48,hv48⟩:=hI.dn 5 _ 48 rfl (hpre { on:=5,ground:=Ground.data } (by simp) rfl) rfl;have qv48:=eval_of ev48;refine wp_val (v:=v48) (by simp [execOp,ev48,go_sem]) ?_;exact hv48
    | 8,_,ho,hun,hpre =>
     simp at ho;subst ho;refine hI.op (d:=7) hsl hst hwz rfl rfl rfl (by decide) hpre ?_;simp only [List.getElem_toArray,List.getElem_cons_zero,List.getElem_cons_succ] at hpre ⊢;obtain ⟨v49,ev49,hv49⟩:=hI.dn 6 _ 49 rfl (hpre { on:=6,ground:=Ground.data } (by simp) rfl) rfl;have qv49:=eval_of ev49;refine wp_val (v:=v49) (by simp [execOp,ev49,go_sem]) ?_;exact hv49
   ·intro done a' w' hI hd;obtain ⟨f,hf,hv⟩:=hI.all hd;have h7:=hv 7 _ 6 rfl rfl;have h8:=hv 8 _ 7 rfl rfl;subst hf;simp only [putAll,List.size_toArray,List.length_cons,List.length_nil,Nat.reduceAdd,List.getElem?_toArray,List.getElem?_cons_zero,List.getElem?_cons_succ,Option.bind_some,Act.put,List.setIfInBounds_toArray,List.set_cons_zero,List.set_cons_succ];go_wp2_with fail
    go_meet
    exact ⟨h8,h7,hI.bw⟩
  case rest =>
   obtain ⟨rfl,hZ,hbc⟩:=hcut;obtain ⟨wy,hwy⟩:∃wy,wy=wc:=⟨_,rfl⟩;subst hwy;have hB8:=bt hB7 hbc;clear hB7 hbc hO7 h37 HWT h2 h3;have K2:=Lib.hid (fun w=>HW.out 2 w (by decide));have K1:=Lib.hid (fun w=>HW.out 1 w (by decide));have K0:=Lib.hid (fun w=>HW.out 0 w (by decide));have KM:Hid (∀w,Calls Tryz.prog 15 #[.int .i64 (-2)] w fun e w'=>e=.returned (.agg #[.bool true,.string (E 2)])∧Below w.heap.size w w'):=fun w=>l27whole_c (-2) w (by decide) (by decide)
   clear HW;go_wp2_with fail
   refine (K2.out _).mono ?_;rintro e y0 ⟨rfl,hz0⟩;have hR0:=bt hB8 hz0;have hZ0:=ZsAt.after hZ hz0;clear hz0 hB8 hZ;go_wp2_with fail
   refine (K1.out _).mono ?_;rintro e y1 ⟨rfl,hz1⟩;have hR1:=bt hR0 hz1;have hZ1:=ZsAt.after hZ0 hz1;clear hz1 hR0 hZ0;go_wp2_with fail
   refine (K1.out _).mono ?_;rintro e y2 ⟨rfl,hz2⟩;have hR2:=bt hR1 hz2;have hZ2:=ZsAt.after hZ1 hz2;clear hz2 hR1 hZ1;go_wp2_with fail
   refine (K0.out _).mono ?_;rintro e y3 ⟨rfl,hz3⟩;have hR3:=bt hR2 hz3;have hZ3:=ZsAt.after hZ2 hz3;clear hz3 hR2 hZ2;go_wp2_with fail
   refine (K1.out _).mono ?_;rintro e y4 ⟨rfl,hz4⟩;have hR4:=bt hR3 hz4;have hZ4:=ZsAt.after hZ3 hz4;clear hz4 hR3 hZ3;go_wp2_with fail
   refine (K0.out _).mono ?_;rintro e y5 ⟨rfl,hz5⟩;have hR5:=bt hR4 hz5;have hZ5:=ZsAt.after hZ4 hz5;clear hz5 hR4 hZ4;go_wp2_with fail
   refine (K1.out _).mono ?_;rintro e y6 ⟨rfl,hz6⟩;have hR6:=bt hR5 hz6;have hZ6:=ZsAt.after hZ5 hz6;clear hz6 hR5 hZ5;go_wp2_with fail
   refine (K2.out _).mono ?_;rintro e y7 ⟨rfl,hz7⟩;have hR7:=bt hR6 hz7;have hZ7:=ZsAt.after hZ6 hz7;clear hz7 hR6 hZ6;go_wp2_with fail
   refine (KM.out _).mono ?_;rintro e y8 ⟨rfl,hz8⟩;have hR8:=bt hR7 hz8;have hZ8:=ZsAt.after hZ7 hz8;clear hz8 hR7 hZ7;have hI9:=Blk.new y8 #[.bool false,.string (E 2),.bool false,.string (E 1),.bool false,.string (E 1),.bool false,.string (E 0),.bool false,.string (E 1),.bool false,.string (E 0),.bool false,.string (E 1),.bool false,.string (E 2),.bool true,.string (E 2)] 28;have hI9b:=b1 y8 (.cells #[.bool false,.string (E 2),.bool false,.string (E 1),.bool false,.string (E 1),.bool false,.string (E 0),.bool false,.string (E 1),.bool false,.string (E 0),.bool false,.string (E 1),.bool false,.string (E 2),.bool true,.string (E 2)] 28);have hZ9:=ZsAt.after hZ8 hI9b;have hR9:=bt hR8 hI9b;have hZB:ZsAt (y8.alloc (.cells #[.bool false,.string (E 2),.bool false,.string (E 1),.bool false,.string (E 1),.bool false,.string (E 0),.bool false,.string (E 1),.bool false,.string (E 0),.bool false,.string (E 1),.bool false,.string (E 2),.bool true,.string (E 2)] 28)) (.slice (some ⟨y8.heap.size,0,none⟩) 9 9) exW:=is_blk (exW.map zI) rfl hI9;clear hR8 hZ8 hI9 hI9b;go_wp2_with fail
   refine (sameInts_c exW _ _ _ (by decide) hZ9 hZB).mono ?_;rintro e yz ⟨rfl,hbz⟩;go_wp2_with fail
   refine bodyPost_ret (v:=.bool true) ?_ rfl ⟨rfl,bt hR9 hbz⟩;simp [results,Tryz.results11,go_sem]
end
end Go.Proofs.YteahlbhjhjhljaaGreatDoor
