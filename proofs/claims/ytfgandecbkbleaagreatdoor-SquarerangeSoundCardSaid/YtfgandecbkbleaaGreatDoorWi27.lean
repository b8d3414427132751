/- SquarerangeWitnesses: the law. -/
import Derived.Test.YtfgandecbkbleaaGreatDoorStd27
import Derived.Test.YtfgandecbkbleaaGreatDoorHoR
import Derived.Test.YtfgandecbkbleaaGreatDoorAwk27
import Derived.Test.YtfgandecbkbleaaGreatDoorRw27
import Derived.Test.YtfgandecbkbleaaGreatDoorLc27
set_option linter.unusedVariables false
set_option linter.unusedSimpArgs false
set_option maxRecDepth 100000
set_option maxHeartbeats 16000000
namespace Go.Proofs.YtfgandecbkbleaaGreatDoor
section
/- The statement for a lower bound: which integers satisfy it. Plain Lean. -/
def zs9 (X:List (Int × Int)) (z:Int):List Int:=(X.flatMap fun x=>[x.1,x.2])++[z]
def sqs (X:List (Int × Int)):Int:=(X.map fun x=>x.1*x.1).sum
def prd (X:List (Int × Int)):Int:=(X.map fun x=>x.1*x.2).sum
def cms (p g h:Nat) (X:List (Int × Int)):List Nat:=X.map fun x=>cmtN p g h x.1 x.2
theorem shift_cmt {p g h:Nat} (t:Two p g h) (a b z:Int):shiftN p (cmtN p g h a b) g z=cmtN p g h (a+z) b:=by
 have e:shiftN p (cmtN p g h a b) g z=powI (cmtN p g h a b) 1 p*powI g z p%p:=prod2 1 z t.p2 (cmt_lt t a b) t.g1;rw [e,powI_one (cmt_lt t a b),cmt_g t,cmt_mul t,show b+0=b by omega]
theorem img_two {p g h:Nat} (N:NSta) (hN:N.grps=[(p,0)]) (Z:List Int) (tg i j:Nat):imgV N Z ⟨0,tg,[t1 g i,t1 h j]⟩=cmtN p g h (Z.getD i 0) (Z.getD j 0):=by
 unfold imgV NSta.gp;rw [hN];show pw (prs p [g,h] [1*Z.getD i 0,1*Z.getD j 0]) 0%p=_;rw [Int.one_mul,Int.one_mul];rfl
theorem img_five {p g h:Nat} (t:Two p g h) (N:NSta) (hN:N.grps=[(p,0)]) (x0 r0 x1 r1 x2 r2 x3 r3 z:Int) (tg:Nat) :
  imgV N (zs9 [(x0,r0),(x1,r1),(x2,r2),(x3,r3)] z) ⟨0,tg,stT (cms p g h [(x0,r0),(x1,r1),(x2,r2),(x3,r3)]) 4++[t1 h 8]⟩=cmtN p g h (sqs [(x0,r0),(x1,r1),(x2,r2),(x3,r3)]) (prd [(x0,r0),(x1,r1),(x2,r2),(x3,r3)]+z):=by
 unfold imgV NSta.gp;rw [hN];show pw (prs p [cmtN p g h x0 r0,cmtN p g h x1 r1,cmtN p g h x2 r2,cmtN p g h x3 r3,h] [1*x0,1*x1,1*x2,1*x3,1*z]) 0%p=cmtN p g h (x0*x0+(x1*x1+(x2*x2+(x3*x3+0)))) (x0*r0+(x1*r1+(x2*r2+(x3*r3+0)))+z);simp only [Int.one_mul];rw [←prodK_end (k:=5) (by simp) (by simp)];have l0:=cmt_lt t x0 r0;have l1:=cmt_lt t x1 r1;have l2:=cmt_lt t x2 r2;have l3:=cmt_lt t x3 r3;generalize hL:[cmtN p g h x0 r0,cmtN p g h x1 r1,cmtN p g h x2 r2,cmtN p g h x3 r3,h]=L;generalize hX:[x0,x1,x2,x3,z]=X;have k1:prodK p L X 1=cmtN p g h (x0*x0) (r0*x0):=by rw [←hL,←hX,prodK_one l0,cmt_pow t]
 have k2:prodK p L X 2=cmtN p g h (x0*x0+x1*x1) (r0*x0+r1*x1):=by
  rw [←prodK_step (k:=1) (by rw [←hL];simp) (by rw [←hX];simp) (by subst hL;exact l1),k1];subst hL hX;show cmtN p g h (x0*x0) (r0*x0)*powI (cmtN p g h x1 r1) x1 p%p=_;rw [cmt_pow t,cmt_mul t]
 have k3:prodK p L X 3=cmtN p g h (x0*x0+x1*x1+x2*x2) (r0*x0+r1*x1+r2*x2):=by
  rw [←prodK_step (k:=2) (by rw [←hL];simp) (by rw [←hX];simp) (by subst hL;exact l2),k2];subst hL hX;show cmtN p g h (x0*x0+x1*x1) (r0*x0+r1*x1)*powI (cmtN p g h x2 r2) x2 p%p=_;rw [cmt_pow t,cmt_mul t]
 have k4:prodK p L X 4=cmtN p g h (x0*x0+x1*x1+x2*x2+x3*x3) (r0*x0+r1*x1+r2*x2+r3*x3):=by
  rw [←prodK_step (k:=3) (by rw [←hL];simp) (by rw [←hX];simp) (by subst hL;exact l3),k3];subst hL hX;show cmtN p g h (x0*x0+x1*x1+x2*x2) (r0*x0+r1*x1+r2*x2)*powI (cmtN p g h x3 r3) x3 p%p=_;rw [cmt_pow t,cmt_mul t]
 rw [←prodK_step (k:=4) (by rw [←hL];simp) (by rw [←hX];simp) (by subst hL;exact t.h1),k4];subst hL hX;show cmtN p g h (x0*x0+x1*x1+x2*x2+x3*x3) (r0*x0+r1*x1+r2*x2+r3*x3)*powI h z p%p=_;rw [cmt_h t,cmt_mul t];congr 1
 ·omega
 ·rw [Int.mul_comm r0,Int.mul_comm r1,Int.mul_comm r2,Int.mul_comm r3];omega
theorem imgs27 {p g h c vb rb:Nat} {lo:Int} (t:Two p g h) (x0 r0 x1 r1 x2 r2 x3 r3 z:Int) :
  (stN p g h lo c (cms p g h [(x0,r0),(x1,r1),(x2,r2),(x3,r3)]) vb rb).imgs (zs9 [(x0,r0),(x1,r1),(x2,r2),(x3,r3)] z)=cms p g h [(x0,r0),(x1,r1),(x2,r2),(x3,r3)]++[cmtN p g h (sqs [(x0,r0),(x1,r1),(x2,r2),(x3,r3)]) (prd [(x0,r0),(x1,r1),(x2,r2),(x3,r3)]+z)]:=by
 have hN:(stN p g h lo c (cms p g h [(x0,r0),(x1,r1),(x2,r2),(x3,r3)]) vb rb).grps=[(p,0)]:=rfl;have e5:=img_five t _ hN x0 r0 x1 r1 x2 r2 x3 r3 z (shiftN p c g (-lo));have e:=fun tg i j=>img_two (g:=g) (h:=h) _ hN (zs9 [(x0,r0),(x1,r1),(x2,r2),(x3,r3)] z) tg i j
 generalize hNN:stN p g h lo c (cms p g h [(x0,r0),(x1,r1),(x2,r2),(x3,r3)]) vb rb=N at hN e5 e ⊢;have hq:N.eqs=[⟨0,cmtN p g h x0 r0,[t1 g 0,t1 h 1]⟩,⟨0,cmtN p g h x1 r1,[t1 g 2,t1 h 3]⟩,⟨0,cmtN p g h x2 r2,[t1 g 4,t1 h 5]⟩,⟨0,cmtN p g h x3 r3,[t1 g 6,t1 h 7]⟩,⟨0,shiftN p c g (-lo),stT (cms p g h [(x0,r0),(x1,r1),(x2,r2),(x3,r3)]) 4++[t1 h 8]⟩]:=by rw [←hNN];rfl
 unfold NSta.imgs;rw [hq];simp only [List.map_cons,List.map_nil];rw [e5,e,e,e,e];rfl
def bnd27 (vb rb:Nat) (X:List (Int × Int)) (z:Int):Bool:=(X.all fun x=>decide (x.1.natAbs<vb)&&decide (x.2.natAbs<rb))&&decide (z.natAbs<lastB vb rb)
theorem inJ_pos {N:NSta} {Z:List Int} {j b:Nat} (hb:N.vars.getD j 0=b) (h0:b≠0):inJ N Z j=decide ((Z.getD j 0).natAbs<b):=by
 unfold inJ blw vz;rw [hb,if_neg h0,beq_eq_false_iff_ne.2 h0];simp
theorem hld27 {p g h c vb rb:Nat} {lo:Int} (t:Two p g h) (hv:vb≠0) (hr:rb≠0) (x0 r0 x1 r1 x2 r2 x3 r3 z:Int) :
  (stN p g h lo c (cms p g h [(x0,r0),(x1,r1),(x2,r2),(x3,r3)]) vb rb).hldB (zs9 [(x0,r0),(x1,r1),(x2,r2),(x3,r3)] z) =
   (bnd27 vb rb [(x0,r0),(x1,r1),(x2,r2),(x3,r3)] z&&decide (cmtN p g h (sqs [(x0,r0),(x1,r1),(x2,r2),(x3,r3)]) (prd [(x0,r0),(x1,r1),(x2,r2),(x3,r3)]+z)=shiftN p c g (-lo))):=by
 have hi:=imgs27 (c:=c) (vb:=vb) (rb:=rb) (lo:=lo) t x0 r0 x1 r1 x2 r2 x3 r3 z;have hlb:lastB vb rb≠0:=Nat.mul_ne_zero (by omega) hr;generalize hNN:stN p g h lo c (cms p g h [(x0,r0),(x1,r1),(x2,r2),(x3,r3)]) vb rb=N at hi ⊢;have hvs:N.vars=[vb,rb,vb,rb,vb,rb,vb,rb,lastB vb rb]:=by rw [←hNN];rfl
 have ht:N.eqs.map (·.tgt)=cms p g h [(x0,r0),(x1,r1),(x2,r2),(x3,r3)]++[shiftN p c g (-lo)]:=by rw [←hNN];rfl
 unfold NSta.hldB;rw [hi,ht,hvs];have hz:zs9 [(x0,r0),(x1,r1),(x2,r2),(x3,r3)] z=[x0,r0,x1,r1,x2,r2,x3,r3,z]:=rfl;rw [hz];have e0:inJ N [x0,r0,x1,r1,x2,r2,x3,r3,z] 0=decide (x0.natAbs<vb):=inJ_pos (by rw [hvs];rfl) hv;have e1:inJ N [x0,r0,x1,r1,x2,r2,x3,r3,z] 1=decide (r0.natAbs<rb):=inJ_pos (by rw [hvs];rfl) hr;have e2:inJ N [x0,r0,x1,r1,x2,r2,x3,r3,z] 2=decide (x1.natAbs<vb):=inJ_pos (by rw [hvs];rfl) hv;have e3:inJ N [x0,r0,x1,r1,x2,r2,x3,r3,z] 3=decide (r1.natAbs<rb):=inJ_pos (by rw [hvs];rfl) hr;have e4:inJ N [x0,r0,x1,r1,x2,r2,x3,r3,z] 4=decide (x2.natAbs<vb):=inJ_pos (by rw [hvs];rfl) hv;have e5:inJ N [x0,r0,x1,r1,x2,r2,x3,r3,z] 5=decide (r2.natAbs<rb):=inJ_pos (by rw [hvs];rfl) hr;have e6:inJ N [x0,r0,x1,r1,x2,r2,x3,r3,z] 6=decide (x3.natAbs<vb):=inJ_pos (by rw [hvs];rfl) hv;have e7:inJ N [x0,r0,x1,r1,x2,r2,x3,r3,z] 7=decide (r3.natAbs<rb):=inJ_pos (by rw [hvs];rfl) hr;have e8:inJ N [x0,r0,x1,r1,x2,r2,x3,r3,z] 8=decide (z.natAbs<lastB vb rb):=inJ_pos (by rw [hvs];rfl) hlb
 have hra:ra 9 (inJ N [x0,r0,x1,r1,x2,r2,x3,r3,z])=bnd27 vb rb [(x0,r0),(x1,r1),(x2,r2),(x3,r3)] z:=by
  simp only [ra_succ,e0,e1,e2,e3,e4,e5,e6,e7,e8,bnd27,List.all_cons,List.all_nil,Bool.and_true,Bool.and_assoc];rfl
 show (decide ((9:Nat)=9)&&(ra 9 _&&_))=_;rw [hra]
 have ed:decide (cms p g h [(x0,r0),(x1,r1),(x2,r2),(x3,r3)]++[cmtN p g h (sqs [(x0,r0),(x1,r1),(x2,r2),(x3,r3)]) (prd [(x0,r0),(x1,r1),(x2,r2),(x3,r3)]+z)]=cms p g h [(x0,r0),(x1,r1),(x2,r2),(x3,r3)]++[shiftN p c g (-lo)])=decide (cmtN p g h (sqs [(x0,r0),(x1,r1),(x2,r2),(x3,r3)]) (prd [(x0,r0),(x1,r1),(x2,r2),(x3,r3)]+z)=shiftN p c g (-lo)):=by
  refine decide_eq_decide.2 ⟨fun hh=>?_,fun hh=>by rw [hh]⟩;have:=List.append_cancel_left hh;injection this
 rw [ed];rfl
theorem sound27 {p g h vb rb:Nat} {lo:Int} (t:Two p g h) (hg1:g≠1) (hv:vb≠0) (hr:rb≠0) (x0 r0 x1 r1 x2 r2 x3 r3 z:Int) (hb:bnd27 vb rb [(x0,r0),(x1,r1),(x2,r2),(x3,r3)] z=true) (c:Nat)
  (hc:c=cmtN p g h (lo+sqs [(x0,r0),(x1,r1),(x2,r2),(x3,r3)]) (z+prd [(x0,r0),(x1,r1),(x2,r2),(x3,r3)])) :
  (stN p g h lo c (cms p g h [(x0,r0),(x1,r1),(x2,r2),(x3,r3)]) vb rb).hldB (zs9 [(x0,r0),(x1,r1),(x2,r2),(x3,r3)] z)=true ∧
  (stN p g h lo (c*g%p) (cms p g h [(x0,r0),(x1,r1),(x2,r2),(x3,r3)]) vb rb).hldB (zs9 [(x0,r0),(x1,r1),(x2,r2),(x3,r3)] z)=false:=by
 have hcg:c*g%p=cmtN p g h (lo+sqs [(x0,r0),(x1,r1),(x2,r2),(x3,r3)]+1) (z+prd [(x0,r0),(x1,r1),(x2,r2),(x3,r3)]):=by
  have e:g=cmtN p g h 1 0:=by rw [←cmt_g t,powI_one t.g1]
  have h2:=cmt_mul t (lo+sqs [(x0,r0),(x1,r1),(x2,r2),(x3,r3)]) (z+prd [(x0,r0),(x1,r1),(x2,r2),(x3,r3)]) 1 0;rw [←e,Int.add_zero] at h2;rw [hc,h2]
 rw [hld27 t hv hr,hld27 t hv hr,hb,hcg,hc,shift_cmt t,shift_cmt t,Bool.true_and,Bool.true_and];generalize sqs [(x0,r0),(x1,r1),(x2,r2),(x3,r3)]=A;generalize prd [(x0,r0),(x1,r1),(x2,r2),(x3,r3)]=B;refine ⟨decide_eq_true (by rw [show lo+A+-lo=A by omega,Int.add_comm z B]),decide_eq_false fun he=>?_⟩;have h1:=cmt_inj t _ _ _ _ he;rw [show A-(lo+A+1+-lo)=-1 by omega,show B+z-(z+B)=0 by omega] at h1;have h2:=cmt_mul t (-1) 0 1 0;rw [h1,←cmt_g t 1,powI_one t.g1,Nat.one_mul,Nat.mod_eq_of_lt t.g1,show (-1:Int)+1=0 by omega,show (0:Int)+0=0 by omega,←cmt_g t,powI_zero,Nat.mod_eq_of_lt (show 1<p by have:=t.p2;omega)] at h2;exact hg1 h2
theorem comp27 {p g h vb rb:Nat} {lo v r:Int} (t:Two p g h) (hv:vb≠0) (hr:rb≠0) (x0 r0 x1 r1 x2 r2 x3 r3 z:Int) (hz:z=r-prd [(x0,r0),(x1,r1),(x2,r2),(x3,r3)]) (c:Nat) (hc:c=cmtN p g h v r) :
  (stN p g h lo c (cms p g h [(x0,r0),(x1,r1),(x2,r2),(x3,r3)]) vb rb).hldB (zs9 [(x0,r0),(x1,r1),(x2,r2),(x3,r3)] z) =
   (bnd27 vb rb [(x0,r0),(x1,r1),(x2,r2),(x3,r3)] z&&decide (cmtN p g h (sqs [(x0,r0),(x1,r1),(x2,r2),(x3,r3)]) r=cmtN p g h (v-lo) r)):=by
 rw [hld27 t hv hr,hc,shift_cmt t,hz,show v+-lo=v-lo by omega,show prd [(x0,r0),(x1,r1),(x2,r2),(x3,r3)]+(r-prd [(x0,r0),(x1,r1),(x2,r2),(x3,r3)])=r by omega]
theorem last_lt {vb rb:Nat} {r:Int} (hr:r.natAbs<rb) (a0 c0 a1 c1 a2 c2 a3 c3:Nat) (h0:a0<vb) (h1:a1<vb) (h2:a2<vb) (h3:a3<vb) (k0:c0<rb) (k1:c1<rb) (k2:c2<rb) (k3:c3<rb) :
  (r-prd [((a0:Int),(c0:Int)),(a1,c1),(a2,c2),(a3,c3)]).natAbs<lastB vb rb:=by
 have m0:=Nat.mul_le_mul (Nat.le_of_lt h0) (Nat.le_of_lt k0);have m1:=Nat.mul_le_mul (Nat.le_of_lt h1) (Nat.le_of_lt k1);have m2:=Nat.mul_le_mul (Nat.le_of_lt h2) (Nat.le_of_lt k2);have m3:=Nat.mul_le_mul (Nat.le_of_lt h3) (Nat.le_of_lt k3);have e:lastB vb rb=4*(vb*rb)+rb:=by unfold lastB;rw [Nat.add_mul,Nat.mul_assoc,Nat.one_mul]
 rw [e];show (r-((a0:Int)*c0+((a1:Int)*c1+((a2:Int)*c2+((a3:Int)*c3+0))))).natAbs<_;simp only [←Int.natCast_mul];omega
theorem comp27_ge {p g h vb rb:Nat} {lo v r:Int} (t:Two p g h) (hv:vb≠0) (hb:rb≠0) (a0 c0 a1 c1 a2 c2 a3 c3:Nat) (hr:r.natAbs<rb) (h0:a0<vb) (h1:a1<vb) (h2:a2<vb) (h3:a3<vb) (k0:c0<rb) (k1:c1<rb) (k2:c2<rb) (k3:c3<rb)
  (hd:((a0*a0+a1*a1+a2*a2+a3*a3:Nat):Int)=v-lo) (c:Nat) (hc:c=cmtN p g h v r) :
  (stN p g h lo c (cms p g h [((a0:Int),(c0:Int)),(a1,c1),(a2,c2),(a3,c3)]) vb rb).hldB (zs9 [((a0:Int),(c0:Int)),(a1,c1),(a2,c2),(a3,c3)] (r-prd [((a0:Int),(c0:Int)),(a1,c1),(a2,c2),(a3,c3)]))=true:=by
 have hl:=last_lt hr a0 c0 a1 c1 a2 c2 a3 c3 h0 h1 h2 h3 k0 k1 k2 k3;rw [comp27 t hv hb _ _ _ _ _ _ _ _ _ rfl c hc]
 have e:sqs [((a0:Int),(c0:Int)),(a1,c1),(a2,c2),(a3,c3)]=v-lo:=by
  rw [←hd];show (a0:Int)*a0+((a1:Int)*a1+((a2:Int)*a2+((a3:Int)*a3+0)))=_;simp only [←Int.natCast_mul];omega
 rw [e];simp [bnd27,hl,h0,h1,h2,h3,k0,k1,k2,k3]
theorem comp27_neg {p g h vb rb:Nat} {lo v r:Int} (t:Two p g h) (hv:vb≠0) (hb:rb≠0) (c0 c1 c2 c3:Nat) (z:Int) (hz:z=r-prd [((0:Int),(c0:Int)),(0,c1),(0,c2),(0,c3)]) (c:Nat) (hc:c=cmtN p g h v r)
  (hh:(stN p g h lo c (cms p g h [((0:Int),(c0:Int)),(0,c1),(0,c2),(0,c3)]) vb rb).hldB (zs9 [((0:Int),(c0:Int)),(0,c1),(0,c2),(0,c3)] z)=true):powI g (v-lo) p=1:=by
 rw [comp27 t hv hb _ _ _ _ _ _ _ _ _ hz c hc,Bool.and_eq_true] at hh;have h1:=of_decide_eq_true hh.2;have h2:=cmt_inj t _ _ _ _ h1.symm;rw [show sqs [((0:Int),(c0:Int)),(0,c1),(0,c2),(0,c3)]=0 from rfl,show v-lo-0=v-lo by omega,show r-r=0 by omega] at h2;rw [cmt_g t,h2]
end
section
open Go.RowKit Go.Shelf
theorem ofw_inv {P:List Opn} (h:ofw P=true):P.length≤6∧∀o∈P,o.va.size≤12∧o.ra.size≤12:=by
 simp only [ofw,szO,Bool.and_eq_true,List.all_eq_true,decide_eq_true_eq] at h;exact ⟨h.2,h.1⟩
theorem kfw_inv {a b c d:ByteArray} (h:kfw a b c d=true):a.size≤8∧b.size≤8∧c.size≤12∧d.size≤12:=by
 simp only [kfw,Bool.and_eq_true,decide_eq_true_eq] at h;exact ⟨h.1.1.1,h.1.1.2,h.1.2,h.2⟩
theorem witR_len (a b c d:ByteArray) (vn:Bool) (va:ByteArray) (rn:Bool) (ra:ByteArray) (P:List Opn) (hP:P.length≤6):(witR a b c d vn va rn ra P).2.length≤1000:=by
 unfold witR;split
 ·simp
 ·split
  ·simp
  ·have:(oZ P).length=P.length*2:=by
    clear hP;rename_i h1 h2;clear h1 h2;unfold oZ;induction P with
    | nil=>rfl
    | cons x t ih=>rw [List.flatMap_cons,List.length_append,ih,List.length_cons];simp;omega
   simp only [List.length_append,List.length_cons,List.length_nil,this];omega
theorem wi_walk (a b c d:ByteArray) (lo:Int) (vn:Bool) (va:ByteArray) (rn:Bool) (ra vl rd:ByteArray) (po:Option Addr) (np pc:Nat) (w:World) (ob:Bool) (G:Prop)
  (hs:∀w':World,Calls Tryz.prog 8 #[.agg #[.string a,.string b,.string c,.string d,.int .i64 lo,.bool vn,.string va,.bool rn,.string ra,.string vl,.string rd]] w' fun e w2=>GateP G w' w2 e)
  (ho:∀w',Below w.heap.size w w'→Calls Tryz.prog 9 #[.slice po np pc] w' fun e w2=>e=.returned (.bool ob)∧Below w'.heap.size w' w2)
  (hg:G→ob=true→∃(k:Nat) (Z:List Int),Z.length≤1000∧∀w',Below w.heap.size w w' →
   Calls Tryz.prog 11 #[.agg #[.string a,.string b,.string c,.string d],.int .i64 lo,.agg #[.bool vn,.string va,.bool rn,.string ra],.slice po np pc] w' (WtPost w' (k,Z)) ∧
   Calls Tryz.prog 12 #[.agg #[.string a,.string b,.string c,.string d],.int .i64 lo,.agg #[.bool vn,.string va,.bool rn,.string ra],.slice po np pc] w' (WtPost w' (k,Z))) :
  Calls Tryz.prog 3 #[.agg #[.string a,.string b,.string c,.string d,.int .i64 lo,.bool vn,.string va,.bool rn,.string ra,.string vl,.string rd],.slice po np pc] w fun e w'=>e=.returned (.bool true)∧Below w.heap.size w w':=by
 have HS:=Lib.hid hs;have HO:=Lib.hid ho;have HG:=Lib.hid hg;have HW:=Lib.hid (fun w=>awake27_c w);clear hs ho hg;have hB:=Blk.new w #[.string a,.string b,.string c,.string d,.int .i64 lo,.bool vn,.string va,.bool rn,.string ra,.string vl,.string rd] 32;have hBW:=b1 w (.cells #[.string a,.string b,.string c,.string d,.int .i64 lo,.bool vn,.string va,.bool rn,.string ra,.string vl,.string rd] 32);obtain ⟨hBc0,hBf0,hBc1,hBf1,hBc2,hBf2,hBc3,hBf3,hBc4,hBf4,hBc5,hBf5,hBc6,hBf6,hBc7,hBf7,hBc8,hBf8,hBc9,hBf9,hBc10,hBf10⟩:=hB.x11;go_enter Tryz.func3,Tryz.ntmps3
 go_wp2_with fail
 refine (HS.out _).mono ?_;rintro e w1 ⟨r,rfl,hr,hb1⟩;have HR:=Lib.hid hr;clear hr;clear hBc0 hBf0 hBc1 hBf1 hBc2 hBf2 hBc3 hBf3 hBc4 hBf4 hBc5 hBf5 hBc6 hBf6 hBc7 hBf7 hBc8 hBf8 hBc9 hBf9 hBc10 hBf10;replace hB:=hB.after hb1;replace hBW:=bt hBW hb1;obtain ⟨hBc0,hBf0,hBc1,hBf1,hBc2,hBf2,hBc3,hBf3,hBc4,hBf4,hBc5,hBf5,hBc6,hBf6,hBc7,hBf7,hBc8,hBf8,hBc9,hBf9,hBc10,hBf10⟩:=hB.x11;cases r
 ·
  go_wp2_with fail
  refine (HW.out _).mono ?_;rintro e w2 ⟨rfl,hb2⟩;go_wp2;go_ret
  exact ⟨rfl,bt hBW hb2⟩
 go_wp2_with fail
 refine (HO.out _ hBW).mono ?_;rintro e w2 ⟨rfl,hb2⟩;clear hBc0 hBf0 hBc1 hBf1 hBc2 hBf2 hBc3 hBf3 hBc4 hBf4 hBc5 hBf5 hBc6 hBf6 hBc7 hBf7 hBc8 hBf8 hBc9 hBf9 hBc10 hBf10;replace hB:=hB.after hb2;replace hBW:=bt hBW hb2;obtain ⟨hBc0,hBf0,hBc1,hBf1,hBc2,hBf2,hBc3,hBf3,hBc4,hBf4,hBc5,hBf5,hBc6,hBf6,hBc7,hBf7,hBc8,hBf8,hBc9,hBf9,hBc10,hBf10⟩:=hB.x11;cases ob
 ·
  go_wp2_with fail
  refine (HW.out _).mono ?_;rintro e w3 ⟨rfl,hb3⟩;go_wp2;go_ret
  exact ⟨rfl,bt hBW hb3⟩
 obtain ⟨k,Z,hZ,hgo⟩:=HG.out (HR.out (by trivial)) (by trivial);have HX:=Lib.hid hgo;have HZ:=Lib.hid hZ;clear hgo hZ HG HR;go_wp2_with fail
 refine (HX.out _ hBW).1.mono ?_;rintro e w3 ⟨v1,rfl,hz1,hb3⟩;clear hBc0 hBf0 hBc1 hBf1 hBc2 hBf2 hBc3 hBf3 hBc4 hBf4 hBc5 hBf5 hBc6 hBf6 hBc7 hBf7 hBc8 hBf8 hBc9 hBf9 hBc10 hBf10;replace hB:=hB.after hb3;replace hBW:=bt hBW hb3;obtain ⟨hBc0,hBf0,hBc1,hBf1,hBc2,hBf2,hBc3,hBf3,hBc4,hBf4,hBc5,hBf5,hBc6,hBf6,hBc7,hBf7,hBc8,hBf8,hBc9,hBf9,hBc10,hBf10⟩:=hB.x11;go_wp2_with fail
 refine (HX.out _ hBW).2.mono ?_;rintro e w4 ⟨v2,rfl,hz2,hb4⟩;replace hz1:=ZsAt.after hz1 hb4;replace hBW:=bt hBW hb4;clear hBc0 hBf0 hBc1 hBf1 hBc2 hBf2 hBc3 hBf3 hBc4 hBf4 hBc5 hBf5 hBc6 hBf6 hBc7 hBf7 hBc8 hBf8 hBc9 hBf9 hBc10 hBf10;clear hB;go_wp2_with fail
 refine (HW.out _).mono ?_;rintro e w5 ⟨rfl,hb5⟩;replace hz1:=ZsAt.after hz1 hb5;replace hz2:=ZsAt.after hz2 hb5;replace hBW:=bt hBW hb5;go_wp2_with fail
 refine (sameInts_c Z v1 v2 _ HZ.out hz1 hz2).mono ?_;rintro e w6 ⟨rfl,hb6⟩;have hk:((k:Int)==(k:Int))=true:=by rw [beq_iff_eq]
 go_wp2;go_ret
 exact ⟨rfl,bt hBW hb6⟩
theorem wi27_c (a b c d:ByteArray) (lo:Int) (vn:Bool) (va:ByteArray) (rn:Bool) (ra vl rd:ByteArray) (P:List Opn) (po:Option Addr) (np pc:Nat) (w:World)
  (hva:va.size≤9223372036854775807) (hra:ra.size≤9223372036854775807) (hPl:P.length≤9223372036854775807) (hPs:∀x∈P,x.va.size≤9223372036854775807∧x.ra.size≤9223372036854775807) (hO:OsAt w (.slice po np pc) P) :
  Calls Tryz.prog 3 #[.agg #[.string a,.string b,.string c,.string d,.int .i64 lo,.bool vn,.string va,.bool rn,.string ra,.string vl,.string rd],.slice po np pc] w fun e w'=>e=.returned (.bool true)∧Below w.heap.size w w':=by
 refine wi_walk a b c d lo vn va rn ra vl rd po np pc w (ofw P) (gate27 a b c d lo va ra vl rd) (fun w'=>l27small_c a b c d lo vn va rn ra vl rd w' hva hra) (fun w' hb=>l27openings_c P _ w' hPl hPs (hO.after hb)) (fun hg ho=>?_);obtain ⟨hk,h1,h2,_⟩:=hg;obtain ⟨k1,k2,k3,k4⟩:=kfw_inv hk;obtain ⟨p1,p2⟩:=ofw_inv ho;refine ⟨(witR a b c d vn va rn ra P).1,(witR a b c d vn va rn ra P).2,witR_len a b c d vn va rn ra P p1,fun w' hb=>⟨?_,?_⟩⟩
 ·exact sqwit_c a b c d lo vn va rn ra P _ w' k1 (by omega) (by omega) (by omega) h1 h2 p1 p2 (hO.after hb)
 ·exact rwit_c a b c d lo vn va rn ra P _ w' k1 (by omega) (by omega) (by omega) h1 h2 p1 p2 (hO.after hb)
end
end Go.Proofs.YtfgandecbkbleaaGreatDoor
