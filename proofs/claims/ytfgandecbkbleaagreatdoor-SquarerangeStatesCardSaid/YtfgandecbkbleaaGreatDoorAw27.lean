/- law 27: the key and the example. -/
import Derived.Test.YtfgandecbkbleaaGreatDoorSat1
import Derived.Test.YtfgandecbkbleaaGreatDoorRq0
import Derived.Test.YtfgandecbkbleaaGreatDoorSf27
import Derived.Test.YtfgandecbkbleaaGreatDoorStep
import Derived.Test.YtfgandecbkbleaaGreatDoorLc27
set_option linter.unusedVariables false
set_option linter.unusedSimpArgs false
set_option maxRecDepth 100000
set_option maxHeartbeats 16000000
namespace Go.Proofs.YtfgandecbkbleaaGreatDoor
section
open Go.RowKit Go.Shelf
theorem sameNats_c (A B:List Nat) (u v:Value) (w:World) (ha:A.length≤1000) (hb:B.length≤1000) (hA:SsAt w u (A.map E)) (hB:SsAt w v (B.map E)) :
  Calls Tryz.prog 17 #[u,v] w fun e w'=>e=.returned (.bool (decide (A=B)))∧Below w.heap.size w w':=by
 obtain ⟨r,hr⟩:∃r:Bool,r=decide (A=B):=⟨_,rfl⟩;have HRES:=Lib.hid hr;rw [←hr];clear hr;obtain ⟨a1,c1,e1⟩:=RAt.form hA;obtain ⟨a2,c2,e2⟩:=RAt.form hB;rw [List.length_map] at e1 e2;obtain ⟨n,hn⟩:∃n,n=A.length:=⟨_,rfl⟩;obtain ⟨m,hm⟩:∃n,n=B.length:=⟨_,rfl⟩;have HN:=Lib.hid hn;have HM:=Lib.hid hm;rw [←hn] at e1 ha;rw [←hm] at e2 hb;subst e1 e2;clear hn hm;by_cases hnm:n=m
 ·subst hnm;have hx1:((n:Int) != (n:Int))=false:=by simp
  go_enter Tryz.func17,Tryz.ntmps17
  go_wp2;go_loopw [5] (fun i wr=>∃k:Nat,k≤n∧i=.int .i64 k∧Hid (∀j,j<k→A[j]?=B[j]?)∧Below w.heap.size w wr) (fun i _=>n-(intOf i).toNat)
  case atStart=>exact ⟨0,by omega,rfl,fun j h=>absurd h (Nat.not_lt_zero _),Below.refl _ _⟩
  case round =>
   obtain ⟨k,hk,rfl,HA,hbr⟩:=hrel;obtain ⟨wp,hwp⟩:∃wp,wp=wr:=⟨_,rfl⟩;subst hwp;replace hA:=SsAt.after hA hbr;replace hB:=SsAt.after hB hbr;by_cases hlt:k<n
   ·have hka:k<A.length:=by rw [←HN.out];exact hlt
    have hkb:k<B.length:=by rw [←HM.out];exact hlt
    obtain ⟨b,o,rfl,hbl,x1⟩:=SsAt.at_ hA (show k<(A.map E).length by simpa using hka);obtain ⟨b',o',rfl,hbl',y1⟩:=SsAt.at_ hB (show k<(B.map E).length by simpa using hkb);simp only [List.getElem_map] at x1 y1;have HKA:Hid (A[k]?=some (A[k]'hka)):=List.getElem?_eq_getElem hka;have HKB:Hid (B[k]?=some (B[k]'hkb)):=List.getElem?_eq_getElem hkb;generalize (A[k]'hka)=xa at x1 HKA;generalize (B[k]'hkb)=xb at y1 HKB;have h0k:(0:Int)≤(k:Int):=by omega
    have h1k:(k:Int)<(n:Int):=by omega
    have g1:=gcl (a:=⟨b,o+k,none⟩) hbl x1;have g2:=gcl (a:=⟨b',o'+k,none⟩) hbl' y1;by_cases hx:xa=xb
    ·have h1:=eqT hx;have h2:=eqE hx
     have HX:Hid (∀j,j<k+1→A[j]?=B[j]?):=fun j hj=>by
      by_cases e:j=k
      ·rw [e,HKA.out,HKB.out,hx]
      ·exact HA.out j (by omega)
     clear hx;go_wp2_with fail
     refine wp_region_gw (by kernel_rfl) (by kernel_rfl) ?_;repeat (go_big_quiet_step (first | (fail)))
     refine wpQuiet_nil ?_;rintro w5 ⟨xw5,rfl⟩;have hb5:=gw_below xw5;generalize gw xw5=w5 at hb5;go_wp2;go_roundw
     case rel=>exact ⟨k+1,by omega,by go_num,HX,bt hbr hb5⟩
     case measure=>simp [intOf];omega
    ·have h1:=eqF hx;have h2:=neE hx
     have HF:Hid (r=false):=by
      rw [Hid,HRES.out];exact decide_eq_false (fun e=>hx (by have h3:=HKA.out;rw [e,HKB.out] at h3;exact (Option.some.inj h3).symm))
     clear hx;go_wp2_with fail
     refine wp_region_gw (by kernel_rfl) (by kernel_rfl) ?_;repeat (go_big_quiet_step (first | (fail)))
     refine wpQuiet_nil ?_;rintro w5 ⟨xw5,rfl⟩;have hb5:=gw_below xw5;generalize gw xw5=w5 at hb5;go_wp2;go_ret
     exact ⟨by rw [HF.out];rfl,bt hbr hb5⟩
   ·have HF:Hid (r=true):=by
     rw [Hid,HRES.out];refine decide_eq_true (List.ext_getElem? fun j=>?_);by_cases hj:j<k
     ·exact HA.out j hj
     ·rw [List.getElem?_eq_none (by rw [←HN.out];omega),List.getElem?_eq_none (by rw [←HM.out];omega)]
    go_wp2;go_ret
    exact ⟨by rw [HF.out];rfl,hbr⟩
 ·have hx1:((n:Int) != (m:Int))=true:=by rw [bne_iff_ne];omega
  have hx2:((n:Int)==(m:Int))=false:=by rw [beq_eq_false_iff_ne];omega
  have HF:Hid (r=false):=by rw [Hid,HRES.out];exact decide_eq_false (fun e=>hnm (by rw [HN.out,HM.out,e]))
  clear hnm;go_enter Tryz.func17,Tryz.ntmps17
  go_wp2;go_ret
  exact ⟨by rw [HF.out];rfl,Below.refl _ _⟩
theorem sameNats_cV (A B:List Nat) (u v:Value) (r:Bool) (w:World) (ha:A.length≤1000) (hb:B.length≤1000) (hA:SsAt w u (A.map E)) (hB:SsAt w v (B.map E)) (h:decide (A=B)=r) :
  Calls Tryz.prog 17 #[u,v] w fun e w'=>e=.returned (.bool r)∧Below w.heap.size w w':=by rw [←h];exact sameNats_c A B u v w ha hb hA hB
theorem sameInts_c (Z:List Int) (u v:Value) (w:World) (ha:Z.length≤1000) (hA:ZsAt w u Z) (hB:ZsAt w v Z) :
  Calls Tryz.prog 13 #[u,v] w fun e w'=>e=.returned (.bool true)∧Below w.heap.size w w':=by
 obtain ⟨a1,c1,rfl⟩:=hA.form;obtain ⟨a2,c2,rfl⟩:=hB.form;obtain ⟨n,hn⟩:∃n,n=Z.length:=⟨_,rfl⟩;have HN:=Lib.hid hn;rw [←hn] at hA hB ha ⊢;clear hn;have hx1:((n:Int) != (n:Int))=false:=by simp
 go_enter Tryz.func13,Tryz.ntmps13
 go_wp2;go_loopw [5] (fun i wr=>∃k:Nat,k≤n∧i=.int .i64 k∧Below w.heap.size w wr) (fun i _=>n-(intOf i).toNat)
 case atStart=>exact ⟨0,by omega,rfl,Below.refl _ _⟩
 case round =>
  obtain ⟨k,hk,rfl,hbr⟩:=hrel;obtain ⟨wp,hwp⟩:∃wp,wp=wr:=⟨_,rfl⟩;subst hwp;replace hA:=hA.after hbr;replace hB:=hB.after hbr;by_cases hlt:k<n
  ·have hkz:k<Z.length:=by rw [←HN.out];exact hlt
   obtain ⟨b,o,rfl,hbl,x1,x2⟩:=hA.at_ hkz;obtain ⟨b',o',rfl,hbl',y1,y2⟩:=hB.at_ hkz;generalize (Z[k]'hkz)=z at x1 x2 y1 y2;have h0k:(0:Int)≤(k:Int):=by omega
   have h1k:(k:Int)<(n:Int):=by omega
   have g1:=gcl (a:=⟨b,o+k*2,none⟩) hbl x1;have g2:=gcl (a:=⟨b,o+k*2+1,none⟩) hbl x2;have g3:=gcl (a:=⟨b',o'+k*2,none⟩) hbl' y1;have g4:=gcl (a:=⟨b',o'+k*2+1,none⟩) hbl' y2;go_wp2_with fail
   refine wp_region_gw (by kernel_rfl) (by kernel_rfl) ?_;repeat (go_big_quiet_step (first | (fail)))
   refine wpQuiet_nil ?_;rintro w5 ⟨xw5,rfl⟩;have hb5:=gw_below xw5;generalize gw xw5=w5 at hb5;go_wp2;go_roundw
   case rel=>exact ⟨k+1,by omega,by go_num,bt hbr hb5⟩
   case measure=>simp [intOf];omega
  ·go_wp2;go_ret
   exact ⟨rfl,hbr⟩
def difI (q b:Nat) (x y:Int):Int:=if b=0 then ((subM x.natAbs y.natAbs q:Nat):Int) else x-y
end
section
open Go.RowKit Go.Shelf
theorem l27key_c (w:World):Calls Tryz.prog 38 #[] w fun e w'=>e=.returned (.agg #[.string (E 77),.string ⟨#[]⟩,.string (E 4),.string (E 9)])∧Below w.heap.size w w':=by
 have H1:Hid (∀w,Calls Tryz.prog 28 #[.int .u64 77] w fun e w'=>e=.returned (.string (E 77))∧Below w.heap.size w w'):=fun w=>l27num_c 77 w (by decide)
 have H2:Hid (∀w,Calls Tryz.prog 28 #[.int .u64 4] w fun e w'=>e=.returned (.string (E 4))∧Below w.heap.size w w'):=fun w=>l27num_c 4 w (by decide)
 have H3:Hid (∀w,Calls Tryz.prog 28 #[.int .u64 9] w fun e w'=>e=.returned (.string (E 9))∧Below w.heap.size w w'):=fun w=>l27num_c 9 w (by decide)
 generalize E 77=s1 at H1 ⊢;generalize E 4=s2 at H2 ⊢;generalize E 9=s3 at H3 ⊢;have hR:=Blk.new w #[.string ⟨#[]⟩,.string ⟨#[]⟩,.string ⟨#[]⟩,.string ⟨#[]⟩] 26;have hbR:=b1 w (.cells #[.string ⟨#[]⟩,.string ⟨#[]⟩,.string ⟨#[]⟩,.string ⟨#[]⟩] 26);go_enter Tryz.func38,Tryz.ntmps38
 go_wp2_with fail
 refine (H1.out _).mono ?_;rintro e w1 ⟨rfl,hb1⟩;go_wp2_with fail
 refine (H2.out _).mono ?_;rintro e w2 ⟨rfl,hb2⟩;go_wp2_with fail
 refine (H3.out _).mono ?_;rintro e w3 ⟨rfl,hb3⟩;have hR3:=((hR.after hb1).after hb2).after hb3;have hb:=bt (bt (bt hbR hb1) hb2) hb3;have hl:=hR3.lt;clear hR hbR hb1 hb2 hb3;obtain ⟨hR3c0,hR3f0,hR3c1,hR3f1,hR3c2,hR3f2,hR3c3,hR3f3⟩:=hR3.x4;go_wp2;refine bodyPost_ret (v:=.agg #[.string s1,.string ⟨#[]⟩,.string s2,.string s3]) ?_ rfl ⟨rfl,(((hb.setCell (Nat.le_refl _) _).setCell (Nat.le_refl _) _).setCell (Nat.le_refl _) _).setCell (Nat.le_refl _) _⟩;simp [results,Tryz.results38,go_sem,hR3c0,hR3c1,hR3c2,hR3c3,hl]
def exT:Tp:=⟨[E 1,E 0,E 0,E 2],⟨#[]⟩,0⟩
def exP:List Nat:=[67,4,4,16]
def exO:List (Nat × Nat):=[(2,1),(1,0),(1,0),(1,2)]
def exW:List Int:=[2,1,1,0,1,0,1,2,-2]
theorem exT_ok:exT.Ok:=⟨by decide,by
 intro x hx;have hx:x∈[E 1,E 0,E 0,E 2]:=hx;simp only [List.mem_cons,List.not_mem_nil,or_false] at hx;rcases hx with rfl | rfl | rfl | rfl <;> exact Nat.le_trans ((E_size_le _ 1).2 (by decide)) (by decide),by decide⟩
theorem ex_ky:kyV (E 77) (E 0) (E 4) (E 9)=0:=by
 unfold kyV;rw [pedV_E (by decide) (by decide) (by decide) (by decide),show pedE 77 0 4 9=0 by decide];rfl
theorem ex_good:exT.good=true:=by
 unfold Tp.good exT;simp only [List.all_cons,List.all_nil,vldB_E 0 (by decide),vldB_E 1 (by decide),vldB_E 2 (by decide)];decide
theorem ex_coin (att:Att) (j:Nat) (x:Nat) (hj:j<4) (hx:exT.vals[j]'hj=E x) (h5:x<5):prC att 5 exT j=(0,x):=by
 unfold prC coin
 have hg:(exT.on j).good=true:=by
  have h:=ex_good;unfold Tp.good at h ⊢;rw [Bool.and_eq_true] at h;rw [Bool.and_eq_true];refine ⟨h.1,?_⟩;show (decide (0≤(0:Int)+(j:Int))&&decide ((0:Int)+(j:Int)≤2147483647))=true;rw [decide_eq_true (by omega),decide_eq_true (by omega)];rfl
 rw [hg,if_neg (by decide),if_neg (by decide)];have e:(exT.on j).pos.toNat=j:=by show ((0:Int)+(j:Int)).toNat=j;omega
 refine coinD_val (T:=exT.on j) (x:=x) (by rw [e];exact hj) ?_ h5;have:(exT.on j).vals=exT.vals:=rfl;simp only [e,this];exact hx
theorem ex_pr (att:Att):prR att (E 77) (E 0) (E 4) (E 9) 3 false (E 10) false (E 2) (E 5) exT=⟨0,exP,exO,exT.on 4⟩:=by
 unfold prR
 have hv:∀n:Nat,n<256→ivB false (E n)=true:=fun n h=>by
  have:=ivB_I (n:Int) (by rw [Int.natAbs_natCast];exact Nat.lt_of_lt_of_le h (by decide));rwa [sg_nat,Int.natAbs_natCast] at this
 rw [hv 10 (by decide),hv 2 (by decide),vldB_E 5 (by decide),ex_good,if_neg (by decide),ex_ky,if_neg (by decide),if_neg (by rw [empty_E];decide)];have e1:intb false (E 10)=10:=by unfold intb;rw [numb_E];rfl
 rw [e1,numb_E,numb_E,numb_E,numb_E,if_neg (by decide)];have c0:=ex_coin att 0 1 (by decide) rfl (by decide);have c1:=ex_coin att 1 0 (by decide) rfl (by decide);have c2:=ex_coin att 2 0 (by decide) rfl (by decide);have c3:=ex_coin att 3 2 (by decide) rfl (by decide);have hr:roots (10-3)=[2,1,1,1]:=by decide
 rw [hr,prN_ok (fun j hj=>by
  match j,hj with
  | 0,_=>rw [c0]
  | 1,_=>rw [c1]
  | 2,_=>rw [c2]
  | 3,_=>rw [c3])]
 have hp:prP att 77 4 9 5 [2,1,1,1] exT 4=exP:=by
  show [cmtN 77 4 9 (2:Nat) ((prC att 5 exT 0).2:Nat),cmtN 77 4 9 (1:Nat) ((prC att 5 exT 1).2:Nat),cmtN 77 4 9 (1:Nat) ((prC att 5 exT 2).2:Nat),cmtN 77 4 9 (1:Nat) ((prC att 5 exT 3).2:Nat)]=exP;rw [c0,c1,c2,c3];decide
 have ho:prO att 5 [2,1,1,1] exT 4=exO:=by
  show [(2,(prC att 5 exT 0).2),(1,(prC att 5 exT 1).2),(1,(prC att 5 exT 2).2),(1,(prC att 5 exT 3).2)]=exO;rw [c0,c1,c2,c3];decide
 rw [hp,ho]
theorem ex_wit:witR (E 77) (E 0) (E 4) (E 9) false (E 10) false (E 2) (exO.map nop)=(0,exW):=by
 have hv:∀n:Nat,n<256→ivB false (E n)=true:=fun n h=>by
  have:=ivB_I (n:Int) (by rw [Int.natAbs_natCast];exact Nat.lt_of_lt_of_le h (by decide));rwa [sg_nat,Int.natAbs_natCast] at this
 have hc:chkV ((false,E 10) :: (false,E 2) :: oL (exO.map nop)) [] (E 77) (E 0) (E 4) (E 9)=0:=by
  unfold chkV;rw [if_pos,ex_ky];refine ⟨?_,rfl⟩;show (([(false,E 10),(false,E 2),(false,E 2),(false,E 1),(false,E 1),(false,E 0),(false,E 1),(false,E 0),(false,E 1),(false,E 2)]:List (Bool × ByteArray)).all iv2)=true;simp only [List.all_cons,List.all_nil,iv2,hv 10 (by decide),hv 2 (by decide),hv 1 (by decide),hv 0 (by decide),Bool.and_self]
 unfold witR;rw [hc,if_neg (by decide),if_neg (by decide)];have hi:∀n:Nat,intb false (E n)=(n:Int):=fun n=>by unfold intb;rw [numb_E];rfl
 have h1:oZ (exO.map nop)=[2,1,1,0,1,0,1,2]:=by
  show [intb false (E 2),intb false (E 1),intb false (E 1),intb false (E 0),intb false (E 1),intb false (E 0),intb false (E 1),intb false (E 2)]=_;simp only [hi];rfl
 have h2:restL (intb false (E 2)) (exO.map nop)=-2:=by
  show intb false (E 2)-intb false (E 2)*intb false (E 1)-intb false (E 1)*intb false (E 0)-intb false (E 1)*intb false (E 0)-intb false (E 1)*intb false (E 2)=-2;simp only [hi];rfl
 rw [h1,h2];rfl
end
end Go.Proofs.YtfgandecbkbleaaGreatDoor
