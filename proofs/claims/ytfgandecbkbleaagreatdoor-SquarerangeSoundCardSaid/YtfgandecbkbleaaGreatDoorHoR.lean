/- dominoref15.Holds for numbers. -/
import Derived.Test.YtfgandecbkbleaaGreatDoorSat1
import Derived.Test.YtfgandecbkbleaaGreatDoorRq0
import Derived.Test.YtfgandecbkbleaaGreatDoorStm
import Derived.Test.YtfgandecbkbleaaGreatDoorStep
import Derived.Test.YtfgandecbkbleaaGreatDoorLc27
import Derived.Test.YtfgandecbkbleaaGreatDoorLd16
set_option linter.unusedVariables false
set_option linter.unusedSimpArgs false
set_option maxRecDepth 100000
set_option maxHeartbeats 16000000
namespace Go.Proofs.YtfgandecbkbleaaGreatDoor
section
open Go.RowKit Go.Shelf
theorem sameNats_c (A B:List Nat) (u v:Value) (w:World) (ha:A.length≤1000) (hb:B.length≤1000) (hA:SsAt w u (A.map E)) (hB:SsAt w v (B.map E)) :
  Calls Tryz.prog 17 #[u,v] w fun e w'=>e=.returned (.bool (decide (A=B)))∧Below w.heap.size w w':=by
 obtain ⟨r,hr⟩:∃r:Bool,r=decide (A=B):=⟨_,rfl⟩;have HRES:=Lib.hid hr;rw [←hr];clear hr;obtain ⟨a1,c1,e1⟩:=RAt.form hA;obtain ⟨a2,c2,e2⟩:=RAt.form hB;rw [List.length_map] at e1 e2;obtain ⟨n,hn⟩:∃n,n=A.length:=⟨_,rfl⟩;obtain ⟨m,hm⟩:∃n,n=B.length:=⟨_,rfl⟩;have HN:=Lib.hid hn;have HM:=Lib.hid hm;rw [←hn] at e1 ha;rw [←hm] at e2 hb;subst e1 e2;clear hn hm;by_cases hnm:n=m
 ·subst hnm;have hx1:((n:Int) != (n:Int))=false:=by simp
  go_enter Tryz.func17,Tryz.ntmps17
  go_wp2;go_loopw [5] (fun i wr=>∃k:Nat,k≤n∧i=.int .i64 k∧Hid (∀j,j<k→A[j]?=B[j]?)∧Below w.heap.size w wr) (fun i _=>n-(intOf i).toNat)
  case atStart=>exact ⟨0,by omega,rfl,fun j h=>absurd h (Nat.not_lt_zero _),Below.refl _ _⟩
  case round =>
   obtain ⟨k,hk,rfl,HA,hbr⟩:=hrel;obtain ⟨wp,hwp⟩:∃wp,wp=wr:=⟨_,rfl⟩;subst hwp;replace hA:=SsAt.after hA hbr;replace hB:=SsAt.after hB hbr;by_cases hlt:k<n
   ·have hka:k<A.length:=by rw [←HN.out];exact hlt
    have hkb:k<B.length:=by rw [←HM.out];exact hlt
    obtain ⟨b,o,rfl,hbl,x1⟩:=SsAt.at_ hA (show k<(A.map E).length by simpa using hka);obtain ⟨b',o',rfl,hbl',y1⟩:=SsAt.at_ hB (show k<(B.map E).length by simpa using hkb);simp only [List.getElem_map] at x1 y1;have HKA:Hid (A[k]?=some (A[k]'hka)):=List.getElem?_eq_getElem hka;have HKB:Hid (B[k]?=some (B[k]'hkb)):=List.getElem?_eq_getElem hkb;generalize (A[k]'hka)=xa at x1 HKA;generalize (B[k]'hkb)=xb at y1 HKB;have h0k:(0:Int)≤(k:Int):=by omega
    have h1k:(k:Int)<(n:Int):=by omega
    have g1:=gcl (a:=⟨b,o+k,none⟩) hbl x1;have g2:=gcl (a:=⟨b',o'+k,none⟩) hbl' y1;by_cases hx:xa=xb
    ·have h1:=eqT hx;have h2:=eqE hx
     have HX:Hid (∀j,j<k+1→A[j]?=B[j]?):=fun j hj=>by
      by_cases e:j=k
      ·rw [e,HKA.out,HKB.out,hx]
      ·exact HA.out j (by omega)
     clear hx;go_wp2_with fail
     refine wp_region_gw (by kernel_rfl) (by kernel_rfl) ?_;repeat (go_big_quiet_step (first | (fail)))
     refine wpQuiet_nil ?_;rintro w5 ⟨xw5,rfl⟩;have hb5:=gw_below xw5;generalize gw xw5=w5 at hb5;go_wp2;go_roundw
     case rel=>exact ⟨k+1,by omega,by go_num,HX,bt hbr hb5⟩
     case measure=>simp [intOf];omega
    ·have h1:=eqF hx;have h2:=neE hx
     have HF:Hid (r=false):=by
      rw [Hid,HRES.out];exact decide_eq_false (fun e=>hx (by have h3:=HKA.out;rw [e,HKB.out] at h3;exact (Option.some.inj h3).symm))
     clear hx;go_wp2_with fail
     refine wp_region_gw (by kernel_rfl) (by kernel_rfl) ?_;repeat (go_big_quiet_step (first | (fail)))
     refine wpQuiet_nil ?_;rintro w5 ⟨xw5,rfl⟩;have hb5:=gw_below xw5;generalize gw xw5=w5 at hb5;go_wp2;go_ret
     exact ⟨by rw [HF.out];rfl,bt hbr hb5⟩
   ·have HF:Hid (r=true):=by
     rw [Hid,HRES.out];refine decide_eq_true (List.ext_getElem? fun j=>?_);by_cases hj:j<k
     ·exact HA.out j hj
     ·rw [List.getElem?_eq_none (by rw [←HN.out];omega),List.getElem?_eq_none (by rw [←HM.out];omega)]
    go_wp2;go_ret
    exact ⟨by rw [HF.out];rfl,hbr⟩
 ·have hx1:((n:Int) != (m:Int))=true:=by rw [bne_iff_ne];omega
  have hx2:((n:Int)==(m:Int))=false:=by rw [beq_eq_false_iff_ne];omega
  have HF:Hid (r=false):=by rw [Hid,HRES.out];exact decide_eq_false (fun e=>hnm (by rw [HN.out,HM.out,e]))
  clear hnm;go_enter Tryz.func17,Tryz.ntmps17
  go_wp2;go_ret
  exact ⟨by rw [HF.out];rfl,Below.refl _ _⟩
theorem sameNats_cV (A B:List Nat) (u v:Value) (r:Bool) (w:World) (ha:A.length≤1000) (hb:B.length≤1000) (hA:SsAt w u (A.map E)) (hB:SsAt w v (B.map E)) (h:decide (A=B)=r) :
  Calls Tryz.prog 17 #[u,v] w fun e w'=>e=.returned (.bool r)∧Below w.heap.size w w':=by rw [←h];exact sameNats_c A B u v w ha hb hA hB
theorem sameInts_c (Z:List Int) (u v:Value) (w:World) (ha:Z.length≤1000) (hA:ZsAt w u Z) (hB:ZsAt w v Z) :
  Calls Tryz.prog 13 #[u,v] w fun e w'=>e=.returned (.bool true)∧Below w.heap.size w w':=by
 obtain ⟨a1,c1,rfl⟩:=hA.form;obtain ⟨a2,c2,rfl⟩:=hB.form;obtain ⟨n,hn⟩:∃n,n=Z.length:=⟨_,rfl⟩;have HN:=Lib.hid hn;rw [←hn] at hA hB ha ⊢;clear hn;have hx1:((n:Int) != (n:Int))=false:=by simp
 go_enter Tryz.func13,Tryz.ntmps13
 go_wp2;go_loopw [5] (fun i wr=>∃k:Nat,k≤n∧i=.int .i64 k∧Below w.heap.size w wr) (fun i _=>n-(intOf i).toNat)
 case atStart=>exact ⟨0,by omega,rfl,Below.refl _ _⟩
 case round =>
  obtain ⟨k,hk,rfl,hbr⟩:=hrel;obtain ⟨wp,hwp⟩:∃wp,wp=wr:=⟨_,rfl⟩;subst hwp;replace hA:=hA.after hbr;replace hB:=hB.after hbr;by_cases hlt:k<n
  ·have hkz:k<Z.length:=by rw [←HN.out];exact hlt
   obtain ⟨b,o,rfl,hbl,x1,x2⟩:=hA.at_ hkz;obtain ⟨b',o',rfl,hbl',y1,y2⟩:=hB.at_ hkz;generalize (Z[k]'hkz)=z at x1 x2 y1 y2;have h0k:(0:Int)≤(k:Int):=by omega
   have h1k:(k:Int)<(n:Int):=by omega
   have g1:=gcl (a:=⟨b,o+k*2,none⟩) hbl x1;have g2:=gcl (a:=⟨b,o+k*2+1,none⟩) hbl x2;have g3:=gcl (a:=⟨b',o'+k*2,none⟩) hbl' y1;have g4:=gcl (a:=⟨b',o'+k*2+1,none⟩) hbl' y2;go_wp2_with fail
   refine wp_region_gw (by kernel_rfl) (by kernel_rfl) ?_;repeat (go_big_quiet_step (first | (fail)))
   refine wpQuiet_nil ?_;rintro w5 ⟨xw5,rfl⟩;have hb5:=gw_below xw5;generalize gw xw5=w5 at hb5;go_wp2;go_roundw
   case rel=>exact ⟨k+1,by omega,by go_num,bt hbr hb5⟩
   case measure=>simp [intOf];omega
  ·go_wp2;go_ret
   exact ⟨rfl,hbr⟩
def difI (q b:Nat) (x y:Int):Int:=if b=0 then ((subM x.natAbs y.natAbs q:Nat):Int) else x-y
end
section
/- law 27: the key and the example. -/
open Go.RowKit Go.Shelf
theorem l27key_c (w:World):Calls Tryz.prog 38 #[] w fun e w'=>e=.returned (.agg #[.string (E 77),.string ⟨#[]⟩,.string (E 4),.string (E 9)])∧Below w.heap.size w w':=by
 have H1:Hid (∀w,Calls Tryz.prog 28 #[.int .u64 77] w fun e w'=>e=.returned (.string (E 77))∧Below w.heap.size w w'):=fun w=>l27num_c 77 w (by decide)
 have H2:Hid (∀w,Calls Tryz.prog 28 #[.int .u64 4] w fun e w'=>e=.returned (.string (E 4))∧Below w.heap.size w w'):=fun w=>l27num_c 4 w (by decide)
 have H3:Hid (∀w,Calls Tryz.prog 28 #[.int .u64 9] w fun e w'=>e=.returned (.string (E 9))∧Below w.heap.size w w'):=fun w=>l27num_c 9 w (by decide)
 generalize E 77=s1 at H1 ⊢;generalize E 4=s2 at H2 ⊢;generalize E 9=s3 at H3 ⊢;have hR:=Blk.new w #[.string ⟨#[]⟩,.string ⟨#[]⟩,.string ⟨#[]⟩,.string ⟨#[]⟩] 26;have hbR:=b1 w (.cells #[.string ⟨#[]⟩,.string ⟨#[]⟩,.string ⟨#[]⟩,.string ⟨#[]⟩] 26);go_enter Tryz.func38,Tryz.ntmps38
 go_wp2_with fail
 refine (H1.out _).mono ?_;rintro e w1 ⟨rfl,hb1⟩;go_wp2_with fail
 refine (H2.out _).mono ?_;rintro e w2 ⟨rfl,hb2⟩;go_wp2_with fail
 refine (H3.out _).mono ?_;rintro e w3 ⟨rfl,hb3⟩;have hR3:=((hR.after hb1).after hb2).after hb3;have hb:=bt (bt (bt hbR hb1) hb2) hb3;have hl:=hR3.lt;clear hR hbR hb1 hb2 hb3;obtain ⟨hR3c0,hR3f0,hR3c1,hR3f1,hR3c2,hR3f2,hR3c3,hR3f3⟩:=hR3.x4;go_wp2;refine bodyPost_ret (v:=.agg #[.string s1,.string ⟨#[]⟩,.string s2,.string s3]) ?_ rfl ⟨rfl,(((hb.setCell (Nat.le_refl _) _).setCell (Nat.le_refl _) _).setCell (Nat.le_refl _) _).setCell (Nat.le_refl _) _⟩;simp [results,Tryz.results38,go_sem,hR3c0,hR3c1,hR3c2,hR3c3,hl]
def exT:Tp:=⟨[E 1,E 0,E 0,E 2],⟨#[]⟩,0⟩
def exP:List Nat:=[67,4,4,16]
def exO:List (Nat × Nat):=[(2,1),(1,0),(1,0),(1,2)]
def exW:List Int:=[2,1,1,0,1,0,1,2,-2]
theorem exT_ok:exT.Ok:=⟨by decide,by
 intro x hx;have hx:x∈[E 1,E 0,E 0,E 2]:=hx;simp only [List.mem_cons,List.not_mem_nil,or_false] at hx;rcases hx with rfl | rfl | rfl | rfl <;> exact Nat.le_trans ((E_size_le _ 1).2 (by decide)) (by decide),by decide⟩
theorem ex_ky:kyV (E 77) (E 0) (E 4) (E 9)=0:=by
 unfold kyV;rw [pedV_E (by decide) (by decide) (by decide) (by decide),show pedE 77 0 4 9=0 by decide];rfl
theorem ex_good:exT.good=true:=by
 unfold Tp.good exT;simp only [List.all_cons,List.all_nil,vldB_E 0 (by decide),vldB_E 1 (by decide),vldB_E 2 (by decide)];decide
theorem ex_coin (att:Att) (j:Nat) (x:Nat) (hj:j<4) (hx:exT.vals[j]'hj=E x) (h5:x<5):prC att 5 exT j=(0,x):=by
 unfold prC coin
 have hg:(exT.on j).good=true:=by
  have h:=ex_good;unfold Tp.good at h ⊢;rw [Bool.and_eq_true] at h;rw [Bool.and_eq_true];refine ⟨h.1,?_⟩;show (decide (0≤(0:Int)+(j:Int))&&decide ((0:Int)+(j:Int)≤2147483647))=true;rw [decide_eq_true (by omega),decide_eq_true (by omega)];rfl
 rw [hg,if_neg (by decide),if_neg (by decide)];have e:(exT.on j).pos.toNat=j:=by show ((0:Int)+(j:Int)).toNat=j;omega
 refine coinD_val (T:=exT.on j) (x:=x) (by rw [e];exact hj) ?_ h5;have:(exT.on j).vals=exT.vals:=rfl;simp only [e,this];exact hx
theorem ex_pr (att:Att):prR att (E 77) (E 0) (E 4) (E 9) 3 false (E 10) false (E 2) (E 5) exT=⟨0,exP,exO,exT.on 4⟩:=by
 unfold prR
 have hv:∀n:Nat,n<256→ivB false (E n)=true:=fun n h=>by
  have:=ivB_I (n:Int) (by rw [Int.natAbs_natCast];exact Nat.lt_of_lt_of_le h (by decide));rwa [sg_nat,Int.natAbs_natCast] at this
 rw [hv 10 (by decide),hv 2 (by decide),vldB_E 5 (by decide),ex_good,if_neg (by decide),ex_ky,if_neg (by decide),if_neg (by rw [empty_E];decide)];have e1:intb false (E 10)=10:=by unfold intb;rw [numb_E];rfl
 rw [e1,numb_E,numb_E,numb_E,numb_E,if_neg (by decide)];have c0:=ex_coin att 0 1 (by decide) rfl (by decide);have c1:=ex_coin att 1 0 (by decide) rfl (by decide);have c2:=ex_coin att 2 0 (by decide) rfl (by decide);have c3:=ex_coin att 3 2 (by decide) rfl (by decide);have hr:roots (10-3)=[2,1,1,1]:=by decide
 rw [hr,prN_ok (fun j hj=>by
  match j,hj with
  | 0,_=>rw [c0]
  | 1,_=>rw [c1]
  | 2,_=>rw [c2]
  | 3,_=>rw [c3])]
 have hp:prP att 77 4 9 5 [2,1,1,1] exT 4=exP:=by
  show [cmtN 77 4 9 (2:Nat) ((prC att 5 exT 0).2:Nat),cmtN 77 4 9 (1:Nat) ((prC att 5 exT 1).2:Nat),cmtN 77 4 9 (1:Nat) ((prC att 5 exT 2).2:Nat),cmtN 77 4 9 (1:Nat) ((prC att 5 exT 3).2:Nat)]=exP;rw [c0,c1,c2,c3];decide
 have ho:prO att 5 [2,1,1,1] exT 4=exO:=by
  show [(2,(prC att 5 exT 0).2),(1,(prC att 5 exT 1).2),(1,(prC att 5 exT 2).2),(1,(prC att 5 exT 3).2)]=exO;rw [c0,c1,c2,c3];decide
 rw [hp,ho]
theorem ex_wit:witR (E 77) (E 0) (E 4) (E 9) false (E 10) false (E 2) (exO.map nop)=(0,exW):=by
 have hv:∀n:Nat,n<256→ivB false (E n)=true:=fun n h=>by
  have:=ivB_I (n:Int) (by rw [Int.natAbs_natCast];exact Nat.lt_of_lt_of_le h (by decide));rwa [sg_nat,Int.natAbs_natCast] at this
 have hc:chkV ((false,E 10) :: (false,E 2) :: oL (exO.map nop)) [] (E 77) (E 0) (E 4) (E 9)=0:=by
  unfold chkV;rw [if_pos,ex_ky];refine ⟨?_,rfl⟩;show (([(false,E 10),(false,E 2),(false,E 2),(false,E 1),(false,E 1),(false,E 0),(false,E 1),(false,E 0),(false,E 1),(false,E 2)]:List (Bool × ByteArray)).all iv2)=true;simp only [List.all_cons,List.all_nil,iv2,hv 10 (by decide),hv 2 (by decide),hv 1 (by decide),hv 0 (by decide),Bool.and_self]
 unfold witR;rw [hc,if_neg (by decide),if_neg (by decide)];have hi:∀n:Nat,intb false (E n)=(n:Int):=fun n=>by unfold intb;rw [numb_E];rfl
 have h1:oZ (exO.map nop)=[2,1,1,0,1,0,1,2]:=by
  show [intb false (E 2),intb false (E 1),intb false (E 1),intb false (E 0),intb false (E 1),intb false (E 0),intb false (E 1),intb false (E 2)]=_;simp only [hi];rfl
 have h2:restL (intb false (E 2)) (exO.map nop)=-2:=by
  show intb false (E 2)-intb false (E 2)*intb false (E 1)-intb false (E 1)*intb false (E 0)-intb false (E 1)*intb false (E 0)-intb false (E 1)*intb false (E 2)=-2;simp only [hi];rfl
 rw [h1,h2];rfl
end
section
open Go.RowKit Go.Shelf
theorem rcheck6_c (N:NSta) (Z:List Int) (v1 v2 v3 v4:Value) (w:World) (hm:NOk N) (hS:NAt w v1 v2 v3 N) (hZ:ZsAt w v4 Z) (hz:∀z∈Z,z.natAbs<256^128) (hl:Z.length≠N.vars.length) (hl2:Z.length≤1000) (hc:N.chk=0) :
  Calls Tryz.prog 69 #[.agg #[v1,v2,v3],v4] w fun e w'=>e=.returned (.int .i64 6)∧Below w.heap.size w w':=by
 obtain ⟨a4,c4,rfl⟩:=hZ.form;obtain ⟨nz,hnz⟩:∃n,n=Z.length:=⟨_,rfl⟩;have HNZ:=Lib.hid hnz;rw [←hnz] at hl2 hl hZ ⊢;have HZZ:=Lib.hid hz;have HCK:=Lib.hid hc;clear hz hc hnz;obtain ⟨a1,c1,a2,c2,a3,c3,rfl,rfl,rfl⟩:=hS.forms;obtain ⟨n1,hn1⟩:∃n,n=N.grps.length:=⟨_,rfl⟩;obtain ⟨n2,hn2⟩:∃n,n=N.vars.length:=⟨_,rfl⟩;obtain ⟨n3,hn3⟩:∃n,n=N.eqs.length:=⟨_,rfl⟩;have HN1:=Lib.hid hn1;have HN2:=Lib.hid hn2;have HN3:=Lib.hid hn3;have l1:n1≤10:=by rw [hn1];exact hm.ng
 have l2:n2≤12:=by rw [hn2];exact hm.nv
 have l3:n3≤12:=by rw [hn3];exact hm.ne
 have HM:=Lib.hid hm;rw [←hn2] at hl;have hl3:((nz:Int) != (n2:Int))=true:=by rw [bne_iff_ne];omega
 rw [←hn1,←hn2,←hn3] at hS ⊢;clear hm hn1 hn2 hn3 hl;have hP:=Blk.new w #[.slice a1 n1 c1,.slice a2 n2 c2,.slice a3 n3 c3] 61;have hBW:=b1 w (.cells #[.slice a1 n1 c1,.slice a2 n2 c2,.slice a3 n3 c3] 61);replace hS:=hS.after hBW;replace hZ:=hZ.after (b1 w (.cells #[.slice a1 n1 c1,.slice a2 n2 c2,.slice a3 n3 c3] 61));obtain ⟨hPc0,hPf0,hPc1,hPf1,hPc2,hPf2⟩:=hP.x3;go_enter Tryz.func69,Tryz.ntmps69
 go_wp2_with fail
 refine (rformed1_c N.s _ _ _ _ true HM.out.ssm hS HM.out.form).mono ?_;rintro e w2 ⟨rfl,hb2⟩;clear hPc0 hPf0 hPc1 hPf1 hPc2 hPf2;replace hP:=hP.after hb2;replace hS:=hS.after hb2;replace hZ:=hZ.after hb2;replace hBW:=bt hBW hb2;clear hb2;have hPl:=hP.lt;go_wp2;go_loopw [5] (fun i wr=>∃k:Nat,k≤nz∧i=.int .i64 k∧Below w2.heap.size w2 wr) (fun i _=>nz-(intOf i).toNat)
 case atStart=>exact ⟨0,by omega,rfl,Below.refl _ _⟩
 case round =>
  obtain ⟨k,hk,rfl,hbr⟩:=hrel;obtain ⟨wp,hwp⟩:∃wp,wp=wr:=⟨_,rfl⟩;subst hwp;replace hP:=hP.after hbr;replace hS:=hS.after hbr;replace hZ:=hZ.after hbr;replace hBW:=bt hBW hbr;clear hPl;have hPl:=hP.lt;by_cases hlt:k<nz
  ·have hkl:k<Z.length:=by rw [←HNZ.out];exact hlt
   have HZ1:=Lib.hid (HZZ.out _ (List.getElem_mem hkl));obtain ⟨b,o,rfl,hbl,x1,x2⟩:=hZ.at_ hkl;generalize (Z[k]'hkl)=z at x1 x2 HZ1;have h0k:(0:Int)≤(k:Int):=by omega
   have h1k:(k:Int)<(nz:Int):=by omega
   go_wp2_with fail
   refine (rivalidI_c z _ HZ1.out).mono ?_;rintro e w3 ⟨rfl,hb3⟩;go_wp2;go_roundw
   case rel=>exact ⟨k+1,by omega,by go_num,bt hbr hb3⟩
   case measure=>simp [intOf];omega
  ·clear hbr
   have HCC:Hid (Calls Tryz.prog 119 #[.agg #[.slice a1 n1 c1,.slice a2 n2 c2,.slice a3 n3 c3]] wp fun e w'=>e=.returned (.int .i64 0)∧Below wp.heap.size wp w'):=by
    have h:=rrest_c N _ _ _ wp HM.out hS;rw [HCK.out] at h;exact h
   obtain ⟨hPc0,hPf0,hPc1,hPf1,hPc2,hPf2⟩:=hP.x3;go_wp2_with fail
   refine HCC.out.mono ?_;rintro e w4 ⟨rfl,hb4⟩;clear hPc0 hPf0 hPc1 hPf1 hPc2 hPf2;replace hP:=hP.after hb4;have hPl2:=hP.lt;obtain ⟨hPc0,hPf0,hPc1,hPf1,hPc2,hPf2⟩:=hP.x3;go_wp2;go_ret
   exact ⟨rfl,bt hBW hb4⟩
theorem rinr_c (vb q:Nat) (z:Int) (w:World) (hb:vb<256^128) (hq:q<256^128) (hz:z.natAbs<256^128) :
  Calls Tryz.prog 70 #[.agg #[.string (E vb)],.string (E q),.agg #[.bool (sg (z)),.string (E (z).natAbs)]] w fun e w'=>e=.returned (.bool (blw vb z (if vb=0 then q else vb)))∧Below w.heap.size w w':=by
 have hA:=blk2a w #[.string (E vb)] #[.bool (sg z),.string (E z.natAbs)] 113 28;have hB:=blk2b w #[.string (E vb)] #[.bool (sg z),.string (E z.natAbs)] 113 28;have hBW:=b2 w (.cells #[.string (E vb)] 113) (.cells #[.bool (sg z),.string (E z.natAbs)] 28);by_cases hv:vb=0
 ·have HC:Hid (∀w,Calls Tryz.prog 29 #[.string (E z.natAbs),.string (E q)] w fun e w'=>e=.returned (.int .i64 (cmpN z.natAbs q))∧Below w.heap.size w w'):=fun w=>rcmp_c _ _ w hz hq
  obtain ⟨q1,hq1⟩:∃q1:Int,q1=cmpN z.natAbs q:=⟨_,rfl⟩;rw [←hq1] at HC;have hzv:=zE hv;rw [if_pos hv];obtain ⟨s,hs⟩:∃s,s=sg z:=⟨_,rfl⟩;have HBW:Hid (blw vb z q=(decide (z.natAbs<q)&&!s)):=by rw [Hid,hs,hv,blw];rfl
  rw [HBW.out];rw [←hs] at hB hBW ⊢;clear hs hv HBW;cases s
  ·by_cases hl:z.natAbs<q
   ·have hd1:decide (q1<0)=true:=decide_eq_true (by rw [hq1];exact cmp_neg _ _ hl);have HR:Hid ((decide (z.natAbs<q)&&!false)=true):=by rw [Hid,decide_eq_true hl];rfl
    rw [HR.out];clear hq1 hl hb hq hz HR;obtain ⟨hAc0,hAf0⟩:=hA.x1;obtain ⟨hBc0,hBf0,hBc1,hBf1⟩:=hB.x2;go_enter Tryz.func70,Tryz.ntmps70
    go_wp2_with fail
    refine (HC.out _).mono ?_;rintro e w2 ⟨rfl,hb2⟩;go_wp2;go_ret
    exact ⟨rfl,bt hBW hb2⟩
   ·have hd1:decide (q1<0)=false:=decide_eq_false (by rw [hq1];exact cmp_nneg _ _ (by omega));have HR:Hid ((decide (z.natAbs<q)&&!false)=false):=by rw [Hid,decide_eq_false hl];rfl
    rw [HR.out];clear hq1 hl hb hq hz HR;obtain ⟨hAc0,hAf0⟩:=hA.x1;obtain ⟨hBc0,hBf0,hBc1,hBf1⟩:=hB.x2;go_enter Tryz.func70,Tryz.ntmps70
    go_wp2_with fail
    refine (HC.out _).mono ?_;rintro e w2 ⟨rfl,hb2⟩;go_wp2;go_ret
    exact ⟨rfl,bt hBW hb2⟩
  ·have HR:Hid ((decide (z.natAbs<q)&&!true)=false):=by rw [Hid];simp
   rw [HR.out];clear hq1 hb hq hz HR HC;obtain ⟨hAc0,hAf0⟩:=hA.x1;obtain ⟨hBc0,hBf0,hBc1,hBf1⟩:=hB.x2;go_enter Tryz.func70,Tryz.ntmps70
   go_wp2;go_ret
   exact ⟨rfl,hBW⟩
 ·have HC:Hid (∀w,Calls Tryz.prog 29 #[.string (E z.natAbs),.string (E vb)] w fun e w'=>e=.returned (.int .i64 (cmpN z.natAbs vb))∧Below w.heap.size w w'):=fun w=>rcmp_c _ _ w hz hb
  obtain ⟨q1,hq1⟩:∃q1:Int,q1=cmpN z.natAbs vb:=⟨_,rfl⟩;rw [←hq1] at HC;have hzv:=nzE (Nat.pos_of_ne_zero hv);rw [if_neg hv];by_cases hl:z.natAbs<vb
  ·have hd1:decide (q1<0)=true:=decide_eq_true (by rw [hq1];exact cmp_neg _ _ hl);have HR:Hid (blw vb z vb=true):=blw_pos hl (Nat.pos_of_ne_zero hv);rw [HR.out];clear hq1 hl hb hq hz HR hv;obtain ⟨hAc0,hAf0⟩:=hA.x1;obtain ⟨hBc0,hBf0,hBc1,hBf1⟩:=hB.x2;go_enter Tryz.func70,Tryz.ntmps70
   go_wp2_with fail
   refine (HC.out _).mono ?_;rintro e w2 ⟨rfl,hb2⟩;go_wp2;go_ret
   exact ⟨rfl,bt hBW hb2⟩
  ·have hd1:decide (q1<0)=false:=decide_eq_false (by rw [hq1];exact cmp_nneg _ _ (by omega));have HR:Hid (blw vb z vb=false):=blw_ge (by omega);rw [HR.out];clear hq1 hl hb hq hz HR hv;obtain ⟨hAc0,hAf0⟩:=hA.x1;obtain ⟨hBc0,hBf0,hBc1,hBf1⟩:=hB.x2;go_enter Tryz.func70,Tryz.ntmps70
   go_wp2_with fail
   refine (HC.out _).mono ?_;rintro e w2 ⟨rfl,hb2⟩;go_wp2;go_ret
   exact ⟨rfl,bt hBW hb2⟩
theorem rholds_c (N:NSta) (Z:List Int) (v1 v2 v3 v4:Value) (w:World) (hm:NOk N) (hS:NAt w v1 v2 v3 N) (hZ:ZsAt w v4 Z) (hz:∀z∈Z,z.natAbs<256^64) (hzl:Z.length≤1000) (hc:N.chk=0) :
  Calls Tryz.prog 24 #[.agg #[v1,v2,v3],v4] w fun e w'=>e=.returned (.tuple #[.bool (N.hldB Z),.int .i64 (N.hldE Z:Nat)])∧Below w.heap.size w w':=by
 by_cases hl:Z.length=N.vars.length
 ·have HE0:N.hldE Z=0:=if_neg (fun h=>h hl);rw [HE0];clear HE0;obtain ⟨r,hr⟩:∃r:Bool,r=N.hldB Z:=⟨_,rfl⟩;have HRES:=Lib.hid hr;rw [←hr];clear hr;have HRD:Hid (∀w',Below w.heap.size w w'→Calls Tryz.prog 69 #[.agg #[v1,v2,v3],v4] w' fun e w''=>e=.returned (.int .i64 0)∧Below w'.heap.size w' w''):=fun w' hb=>rcheck15_c N Z v1 v2 v3 v4 w' hm (hS.after hb) (hZ.after hb) (fun z h=>lt64 (hz z h)) hl hc
  have HOR:Hid (∀w',Below w.heap.size w w'→Calls Tryz.prog 71 #[.agg #[v1,v2,v3]] w' fun e w''=>e=.returned (.string (E N.ord))∧Below w'.heap.size w' w''):=fun w' hb=>rorder15_c N v1 v2 v3 w' hm (hS.after hb)
  have HIM:Hid (∀w',Below w.heap.size w w'→Calls Tryz.prog 72 #[.agg #[v1,v2,v3],v4] w' (LPost w' (N.imgs Z))):=fun w' hb'=>rimages_c N Z v1 v2 v3 v4 w' hm (hS.after hb') (hZ.after hb') hz hl hc
  have HBD:Hid (N.hldB Z=(ra N.vars.length (inJ N Z)&&decide (N.imgs Z=N.eqs.map (·.tgt)))):=by rw [Hid,NSta.hldB,decide_eq_true hl,Bool.true_and]
  have HQ:=Lib.hid (ord_lt hm);have HVS:=Lib.hid hm.v;have HZZ:=Lib.hid hz;obtain ⟨qo,hqo⟩:∃q,q=N.ord:=⟨_,rfl⟩;have HQO:=Lib.hid hqo;rw [←hqo] at HOR HQ;obtain ⟨a4,c4,rfl⟩:=hZ.form;rw [hl] at hZ HRD HIM ⊢;have HL:=Lib.hid hl;obtain ⟨a1,c1,a2,c2,a3,c3,rfl,rfl,rfl⟩:=hS.forms;obtain ⟨n1,hn1⟩:∃n,n=N.grps.length:=⟨_,rfl⟩;obtain ⟨n2,hn2⟩:∃n,n=N.vars.length:=⟨_,rfl⟩;obtain ⟨n3,hn3⟩:∃n,n=N.eqs.length:=⟨_,rfl⟩;have HN2:=Lib.hid hn2;have HN3:=Lib.hid hn3;have l2:n2≤12:=by rw [hn2];exact hm.nv
  have l3:n3≤12:=by rw [hn3];exact hm.ne
  rw [←hn1,←hn2,←hn3] at hS HRD HOR HIM ⊢;rw [←hn2] at hZ HBD;clear hm hn1 hn2 hn3 hz hl hzl hc hqo;have hP:=Blk.new w #[.slice a1 n1 c1,.slice a2 n2 c2,.slice a3 n3 c3] 61;have hBW:=b1 w (.cells #[.slice a1 n1 c1,.slice a2 n2 c2,.slice a3 n3 c3] 61);replace hS:=hS.after hBW;replace hZ:=hZ.after hBW;obtain ⟨hPc0,hPf0,hPc1,hPf1,hPc2,hPf2⟩:=hP.x3;go_enter Tryz.func24,Tryz.ntmps24
  go_wp2_with fail
  refine (HRD.out _ hBW).mono ?_;rintro e w2 ⟨rfl,hb2⟩;clear hPc0 hPf0 hPc1 hPf1 hPc2 hPf2;replace hP:=hP.after hb2;replace hS:=hS.after hb2;replace hZ:=hZ.after hb2;replace hBW:=bt hBW hb2;clear hb2 HRD;go_wp2;go_loopw [7] (fun i wr=>∃k:Nat,k≤n2∧i=.int .i64 k∧Hid (ra k (inJ N Z)=true)∧Below w2.heap.size w2 wr) (fun i _=>n2-(intOf i).toNat)
  case atStart=>exact ⟨0,by omega,rfl,rfl,Below.refl _ _⟩
  case round =>
   obtain ⟨k,hk,rfl,HAL,hbr⟩:=hrel;obtain ⟨wp,hwp⟩:∃wp,wp=wr:=⟨_,rfl⟩;subst hwp;have hBW1:=bt hBW hbr;have hP1:=hP.after hbr;by_cases hlt:k<n2
   ·have hkl:k<N.vars.length:=by rw [←HN2.out];exact hlt
    have hkZ:k<Z.length:=by rw [HL.out];exact hkl
    obtain ⟨bv,ov,rfl,hbv,x1⟩:=(hS.after hbr).vat hkl;obtain ⟨bz,oz,rfl,hbz,z1,z2⟩:=(hZ.after hbr).at_ hkZ;have HZL:=Lib.hid (HZZ.out _ (List.getElem_mem hkZ));have HVL:=Lib.hid (HVS.out _ (List.getElem_mem hkl));have HIJ:=Lib.hid (inJ_at N Z k hkl hkZ);rw [←HQO.out] at HIJ;have HRS:Hid (ra (k+1) (inJ N Z)=inJ N Z k):=by rw [Hid,ra_succ,HAL.out];rfl
    have HRB:Hid (inJ N Z k=false→ra n2 (inJ N Z)=false):=fun h=>by rw [HN2.out];exact ra_false hkl h
    have HOR9:Hid (∀w',Below wp.heap.size wp w'→Calls Tryz.prog 71 #[.agg #[.slice a1 n1 c1,.slice (some ⟨bv,ov,none⟩) n2 c2,.slice a3 n3 c3]] w' fun e w''=>e=.returned (.string (E qo))∧Below w'.heap.size w' w''):=fun w' hb=>HOR.out w' (bt hBW1 hb)
    have HII:Hid (∀w,Calls Tryz.prog 70 #[.agg #[.string (E (N.vars[k]'hkl))],.string (E qo),.agg #[.bool (sg (Z[k]'hkZ)),.string (E (Z[k]'hkZ).natAbs)]] w fun e w'=>e=.returned (.bool (inJ N Z k))∧Below w.heap.size w w'):=fun w=>by
     rw [HIJ.out];exact rinr_c _ _ _ w (Nat.lt_of_lt_of_le HVL.out (Nat.pow_le_pow_right (by decide) (by decide))) (lt128 HQ.out) (lt64 HZL.out)
    clear HIJ;generalize (N.vars[k]'hkl)=vb at x1 HVL HII;generalize (Z[k]'hkZ)=lz at z1 z2 HZL HII;generalize inJ N Z k=bl at HRS HRB HII;have h0k:(0:Int)≤(k:Int):=by omega
    have h1k:(k:Int)<(n2:Int):=by omega
    have g1:=gcl (a:=⟨bv,ov+k,none⟩) hbv x1;have g2:=gcl (a:=⟨bz,oz+k*2,none⟩) hbz z1;have g3:=gcl (a:=⟨bz,oz+k*2+1,none⟩) hbz z2;have hP1l:=hP1.lt;clear x1 z1 z2 hbv hbz;obtain ⟨hP1c0,hP1f0,hP1c1,hP1f1,hP1c2,hP1f2⟩:=hP1.x3;have hP1g0:=hP1.gcell 0;have hP1g1:=hP1.gcell 1;have hP1g2:=hP1.gcell 2;go_wp2_with fail
    refine wp_region_gw (by kernel_rfl) (by kernel_rfl) ?_;repeat (go_big_quiet_step (first | (go_at_call 71;exact gw_of (HOR9.out _ (gw_below _))) | (go_at_call 70;exact gw_of (HII.out _))))
    refine wpQuiet_nil ?_;rintro w9 ⟨xw9,rfl⟩;have hb9:=gw_below xw9;generalize gw xw9=w9 at hb9;clear hP1c0 hP1f0 hP1c1 hP1f1 hP1c2 hP1f2;clear hP1g0 hP1g1 hP1g2;clear g1 g2 g3 hP1l;cases bl
    ·have HF:Hid (r=false):=by rw [Hid,HRES.out,HBD.out,HRB.out rfl];rfl
     go_wp2;go_ret2
     rw [HF.out];exact ⟨rfl,bt hBW1 hb9⟩
    ·have HX:Hid (ra (k+1) (inJ N Z)=true):=HRS.out;go_wp2;go_roundw
     case rel=>exact ⟨k+1,by omega,by go_num,HX,bt hbr hb9⟩
     case measure=>simp [intOf];omega
   ·obtain rfl:k=n2:=by omega
    replace hS:=hS.after hbr;rw [HAL.out] at HBD;clear hP hZ HAL HZZ HVS hbr;have HIMP:=Lib.hid (HIM.out _ hBW1);have hPl:=hP1.lt;obtain ⟨hP1c0,hP1f0,hP1c1,hP1f1,hP1c2,hP1f2⟩:=hP1.x3;go_wp2_with fail
    refine HIMP.out.mono ?_;rintro e w8 ⟨iv,rfl,hIO,hb8⟩;clear hP1c0 hP1f0 hP1c1 hP1f1 hP1c2 hP1f2;replace hP1:=hP1.after hb8;replace hS:=hS.after hb8;replace hBW1:=bt hBW1 hb8;clear hb8 hPl HIM HIMP;have hIs:=hIO.ss;clear hIO;obtain ⟨a7,c7,rfl⟩:=RAt.form hIs;have HIL:Hid (((N.imgs Z).map E).length=n3):=by rw [Hid,List.length_map,NSta.imgs,List.length_map,HN3.out]
    rw [HIL.out] at hIs ⊢;have hPl:=hP1.lt;go_wp2;go_loopw [10] (fun i wr=>∃k:Nat,k≤n3∧i=.int .i64 k∧Hid (∀j,j<k→(N.imgs Z)[j]?=(N.eqs.map (·.tgt))[j]?)∧Below w8.heap.size w8 wr) (fun i _=>n3-(intOf i).toNat)
    case atStart=>exact ⟨0,by omega,rfl,fun j h=>absurd h (Nat.not_lt_zero _),Below.refl _ _⟩
    case round =>
     obtain ⟨j,hj,rfl,HA,hbs⟩:=hrel;obtain ⟨wu,hwu⟩:∃wp,wp=wr:=⟨_,rfl⟩;subst hwu;have hBW2:=bt hBW1 hbs;have hP2:=hP1.after hbs;replace hIs:=SsAt.after hIs hbs;by_cases hlt2:j<n3
     ·have hkl:j<N.eqs.length:=by rw [←HN3.out];exact hlt2
      have hki:j<((N.imgs Z).map E).length:=by rw [HIL.out];exact hlt2
      have hS1:=hS.after hbs;have HE1:Hid ((N.imgs Z)[j]?=some (imgV N Z (N.eqs[j]'hkl))):=by rw [Hid,NSta.imgs,List.getElem?_map,List.getElem?_eq_getElem hkl];rfl
      have HE2:Hid ((N.eqs.map (·.tgt))[j]?=some (N.eqs[j]'hkl).tgt):=by rw [Hid,List.getElem?_map,List.getElem?_eq_getElem hkl];rfl
      obtain ⟨b,o,tv,rfl,hbl,x1,x2,x3,hTs⟩:=NAt.eat hS1 hkl;obtain ⟨b7,o7,rfl,hbl7,i1'⟩:=SsAt.at_ hIs hki;rw [show ((N.imgs Z).map E)[j]=E (imgV N Z (N.eqs[j]'hkl)) by simp [NSta.imgs]] at i1';generalize imgV N Z (N.eqs[j]'hkl)=iq at i1' HE1;generalize (N.eqs[j]'hkl).tgt=qt at x2 HE2;have h0k:(0:Int)≤(j:Int):=by omega
      have h1k:(j:Int)<(n3:Int):=by omega
      have g1:=gcl (a:=⟨b7,o7+j,none⟩) hbl7 i1';have g2:=gcl (a:=⟨b,o+j*3+1,none⟩) hbl x2;have hPl2:=hP2.lt;clear hTs hS1 x1 x2 x3 i1';by_cases hyi:iq=qt
      ·have h1:=eqT hyi;have h2:=eqE hyi
       have HX:Hid (∀i,i<j+1→(N.imgs Z)[i]?=(N.eqs.map (·.tgt))[i]?):=fun i hi=>by
        by_cases e:i=j
        ·rw [e,HE1.out,HE2.out,hyi]
        ·exact HA.out i (by omega)
       clear hyi;obtain ⟨hP2c0,hP2f0,hP2c1,hP2f1,hP2c2,hP2f2⟩:=hP2.x3;have hP2g0:=hP2.gcell 0;have hP2g1:=hP2.gcell 1;have hP2g2:=hP2.gcell 2;go_wp2_with fail
       refine wp_region_gw (by kernel_rfl) (by kernel_rfl) ?_;repeat (go_big_quiet_step (first | (fail)))
       refine wpQuiet_nil ?_;rintro w9 ⟨xw9,rfl⟩;have hb9:=gw_below xw9;generalize gw xw9=w9 at hb9;go_wp2;go_roundw
       case rel=>exact ⟨j+1,by omega,by go_num,HX,bt hbs hb9⟩
       case measure=>simp [intOf];omega
      ·have h1:=eqF hyi;have h2:=neE hyi;have HF:Hid (r=false):=by rw [Hid,HRES.out,HBD.out,Bool.true_and];exact decide_eq_false (fun e=>hyi (by have h3:=HE1.out;rw [e,HE2.out] at h3;exact (Option.some.inj h3).symm))
       clear hyi;obtain ⟨hP2c0,hP2f0,hP2c1,hP2f1,hP2c2,hP2f2⟩:=hP2.x3;have hP2g0:=hP2.gcell 0;have hP2g1:=hP2.gcell 1;have hP2g2:=hP2.gcell 2;go_wp2_with fail
       refine wp_region_gw (by kernel_rfl) (by kernel_rfl) ?_;repeat (go_big_quiet_step (first | (fail)))
       refine wpQuiet_nil ?_;rintro w9 ⟨xw9,rfl⟩;have hb9:=gw_below xw9;generalize gw xw9=w9 at hb9;go_wp2;go_ret2
       rw [HF.out];exact ⟨rfl,bt hBW2 hb9⟩
     ·have HF:Hid (r=true):=by
       rw [Hid,HRES.out,HBD.out,Bool.true_and];refine decide_eq_true (List.ext_getElem? fun i=>?_);by_cases hi:i<j
       ·exact HA.out i hi
       ·rw [List.getElem?_eq_none (by rw [NSta.imgs,List.length_map,←HN3.out];omega),List.getElem?_eq_none (by rw [List.length_map,←HN3.out];omega)]
      go_wp2;go_ret2
      rw [HF.out];exact ⟨rfl,hBW2⟩
 ·have HE0:N.hldE Z=6:=if_pos hl;have HB0:N.hldB Z=false:=by unfold NSta.hldB;rw [decide_eq_false hl];rfl
  rw [HE0,HB0];clear HE0 HB0;have hP:=Blk.new w #[v1,v2,v3] 61;have hBW:=b1 w (.cells #[v1,v2,v3] 61);have HRD:Hid (∀w',Below w.heap.size w w'→Calls Tryz.prog 69 #[.agg #[v1,v2,v3],v4] w' fun e w''=>e=.returned (.int .i64 6)∧Below w'.heap.size w' w''):=fun w' hb=>rcheck6_c N Z v1 v2 v3 v4 w' hm (hS.after hb) (hZ.after hb) (fun z h=>lt64 (hz z h)) hl hzl hc
  clear hm hS hZ hz hl hzl hc;obtain ⟨hPc0,hPf0,hPc1,hPf1,hPc2,hPf2⟩:=hP.x3;go_enter Tryz.func24,Tryz.ntmps24
  go_wp2_with fail
  refine (HRD.out _ hBW).mono ?_;rintro e w2 ⟨rfl,hb2⟩;go_wp2;go_ret2
  exact ⟨rfl,bt hBW hb2⟩
end
end Go.Proofs.YtfgandecbkbleaaGreatDoor
