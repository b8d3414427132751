/- What Prepare,Statement and Witness return where nothing fails. Plain Lean. -/
import Derived.Test.YteahlbhjhjhljaaGreatDoorWt27
import Derived.Test.YteahlbhjhjhljaaGreatDoorSf27
import Derived.Test.YteahlbhjhjhljaaGreatDoorSd27
import Derived.Test.YteahlbhjhjhljaaGreatDoorHoR
import Derived.Test.YteahlbhjhjhljaaGreatDoorCo2
import Derived.Test.YteahlbhjhjhljaaGreatDoorPp27
set_option linter.unusedVariables false
set_option linter.unusedSimpArgs false
set_option maxRecDepth 100000
set_option maxHeartbeats 16000000
namespace Go.Proofs.YteahlbhjhjhljaaGreatDoor
section
/- dominoref14.Commit for every key and opening;pedersen.Opens of a commitment. -/
open Go.RowKit Go.Shelf
def cmE (a b c d:ByteArray) (vn:Bool) (va:ByteArray) (rn:Bool) (ra:ByteArray):Nat:=if (ivB vn va&&ivB rn ra)=true then pedV a b c d else 3
def cmC (a b c d:ByteArray) (vn:Bool) (va:ByteArray) (rn:Bool) (ra:ByteArray):Nat:=if cmE a b c d vn va rn ra=0 then cmtN (numb a) (numb c) (numb d) (intb vn va) (intb rn ra) else 0
theorem pedE_or (p q g h:Nat):pedE p q g h=0∨pedE p q g h=13:=by
 unfold pedE;split
 ·split
  ·exact .inl rfl
  ·exact .inr rfl
 ·exact .inr rfl
theorem pedE_has {p q g h:Nat} (he:pedE p q g h=0):hasB p q g=true∧hasB p q h=true:=by
 have hg:=pedE_grp he;unfold pedE at he;rw [if_pos hg] at he;split at he
 ·rename_i hh;exact ⟨hh.1,hh.2.1⟩
 ·omega
theorem r14commitO_c (a b c d:ByteArray) (vn:Bool) (va:ByteArray) (rn:Bool) (ra:ByteArray) (w:World) (ha:a.size≤8) (hb:b.size≤100) (hc:c.size≤100) (hd:d.size≤100) (hva:va.size≤100) (hra:ra.size≤100) :
  Calls Tryz.prog 49 #[.agg #[.string a,.string b,.string c,.string d],.agg #[.bool vn,.string va,.bool rn,.string ra]] w fun e w'=>e=.returned (.tuple #[.string (E (cmC a b c d vn va rn ra)),.int .i64 (cmE a b c d vn va rn ra)])∧Below w.heap.size w w':=by
 have bad:(vl4 a b c d&&(ivB vn va&&ivB rn ra))=false→cmE a b c d vn va rn ra=3→Calls Tryz.prog 49 #[.agg #[.string a,.string b,.string c,.string d],.agg #[.bool vn,.string va,.bool rn,.string ra]] w fun e w'=>e=.returned (.tuple #[.string (E (cmC a b c d vn va rn ra)),.int .i64 (cmE a b c d vn va rn ra)])∧Below w.heap.size w w':=fun h h3=>by
  unfold cmC;rw [h3,if_neg (by decide)];exact r14commit_bad a b c d vn rn va ra w (by omega) (by omega) (by omega) (by omega) (by omega) (by omega) h
 cases hi:(ivB vn va&&ivB rn ra)
 ·exact bad (by rw [hi,Bool.and_false]) (by unfold cmE;rw [hi,if_neg (by decide)])
 ·cases hv:vl4 a b c d
  ·exact bad (by rw [hv,Bool.false_and]) (by unfold cmE pedV;rw [hi,hv];rfl)
  ·rw [Bool.and_eq_true] at hi;obtain ⟨p,q,g,h,⟨hp,hq,hg,hh⟩,rfl,rfl,rfl,rfl⟩:=vl4_of hv;obtain ⟨m,hm,rfl,rfl⟩:=of_ivB hi.1;obtain ⟨r,hr,rfl,rfl⟩:=of_ivB hi.2
   have e:cmE (E p) (E q) (E g) (E h) (sg m) (E m.natAbs) (sg r) (E r.natAbs)=pedE p q g h:=by
    unfold cmE;rw [hi.1,hi.2,if_pos (show (true&&true)=true from rfl),pedV_E hp hq hg hh]
   have hp8:p<256^8:=lt_of_size ha;unfold cmC;rw [e,intb_I,intb_I,numb_E,numb_E,numb_E];rcases pedE_or p q g h with h0 | h0
   ·rw [h0,if_pos rfl];exact r14commit_c p q g h m r w hp8 hq hg hh hm hr h0 (pedE_has h0).1 (pedE_has h0).2
   ·rw [h0,if_neg (by decide)];exact r14commit_13 p q g h m r w hp8 hq hg hh hm hr h0
theorem cmC_num {p g h:Nat} (m r:Int) (hp:p<256^128) (hg:g<256^128) (hh:h<256^128) (hm:m.natAbs<256^128) (hr:r.natAbs<256^128) (he:pedE p 0 g h=0) :
  cmE (E p) (E 0) (E g) (E h) (sg m) (E m.natAbs) (sg r) (E r.natAbs)=0∧cmC (E p) (E 0) (E g) (E h) (sg m) (E m.natAbs) (sg r) (E r.natAbs)=cmtN p g h m r:=by
 have e:cmE (E p) (E 0) (E g) (E h) (sg m) (E m.natAbs) (sg r) (E r.natAbs)=0:=by
  unfold cmE;rw [ivB_I m hm,ivB_I r hr,if_pos (show (true&&true)=true from rfl),pedV_E hp (by decide) hg hh,he]
 refine ⟨e,?_⟩;unfold cmC;rw [e,if_pos rfl,intb_I,intb_I,numb_E,numb_E,numb_E]
theorem cmC_lt (a b c d:ByteArray) (vn:Bool) (va:ByteArray) (rn:Bool) (ra:ByteArray) (ha:a.size≤8):cmC a b c d vn va rn ra<256^8:=by
 unfold cmC;split
 ·unfold cmtN;have h1:=numb_lt ha;by_cases h0:numb a=0
  ·rename_i h;exfalso;unfold cmE at h;split at h
   ·unfold pedV at h;split at h
    ·unfold pedE grpE at h;rw [h0] at h;simp at h
    ·omega
   ·omega
  ·exact Nat.lt_trans (Nat.mod_lt _ (by omega)) h1
 ·decide
end
section
/- The statement for a lower bound: which integers satisfy it. Plain Lean. -/
def zs9 (X:List (Int × Int)) (z:Int):List Int:=(X.flatMap fun x=>[x.1,x.2])++[z]
def sqs (X:List (Int × Int)):Int:=(X.map fun x=>x.1*x.1).sum
def prd (X:List (Int × Int)):Int:=(X.map fun x=>x.1*x.2).sum
def cms (p g h:Nat) (X:List (Int × Int)):List Nat:=X.map fun x=>cmtN p g h x.1 x.2
theorem shift_cmt {p g h:Nat} (t:Two p g h) (a b z:Int):shiftN p (cmtN p g h a b) g z=cmtN p g h (a+z) b:=by
 have e:shiftN p (cmtN p g h a b) g z=powI (cmtN p g h a b) 1 p*powI g z p%p:=prod2 1 z t.p2 (cmt_lt t a b) t.g1;rw [e,powI_one (cmt_lt t a b),cmt_g t,cmt_mul t,show b+0=b by omega]
theorem img_two {p g h:Nat} (N:NSta) (hN:N.grps=[(p,0)]) (Z:List Int) (tg i j:Nat):imgV N Z ⟨0,tg,[t1 g i,t1 h j]⟩=cmtN p g h (Z.getD i 0) (Z.getD j 0):=by
 unfold imgV NSta.gp;rw [hN];show pw (prs p [g,h] [1*Z.getD i 0,1*Z.getD j 0]) 0%p=_;rw [Int.one_mul,Int.one_mul];rfl
theorem img_five {p g h:Nat} (t:Two p g h) (N:NSta) (hN:N.grps=[(p,0)]) (x0 r0 x1 r1 x2 r2 x3 r3 z:Int) (tg:Nat) :
  imgV N (zs9 [(x0,r0),(x1,r1),(x2,r2),(x3,r3)] z) ⟨0,tg,stT (cms p g h [(x0,r0),(x1,r1),(x2,r2),(x3,r3)]) 4++[t1 h 8]⟩=cmtN p g h (sqs [(x0,r0),(x1,r1),(x2,r2),(x3,r3)]) (prd [(x0,r0),(x1,r1),(x2,r2),(x3,r3)]+z):=by
 unfold imgV NSta.gp;rw [hN];show pw (prs p [cmtN p g h x0 r0,cmtN p g h x1 r1,cmtN p g h x2 r2,cmtN p g h x3 r3,h] [1*x0,1*x1,1*x2,1*x3,1*z]) 0%p=cmtN p g h (x0*x0+(x1*x1+(x2*x2+(x3*x3+0)))) (x0*r0+(x1*r1+(x2*r2+(x3*r3+0)))+z);simp only [Int.one_mul];rw [←prodK_end (k:=5) (by simp) (by simp)];have l0:=cmt_lt t x0 r0;have l1:=cmt_lt t x1 r1;have l2:=cmt_lt t x2 r2;have l3:=cmt_lt t x3 r3;generalize hL:[cmtN p g h x0 r0,cmtN p g h x1 r1,cmtN p g h x2 r2,cmtN p g h x3 r3,h]=L;generalize hX:[x0,x1,x2,x3,z]=X;have k1:prodK p L X 1=cmtN p g h (x0*x0) (r0*x0):=by rw [←hL,←hX,prodK_one l0,cmt_pow t]
 have k2:prodK p L X 2=cmtN p g h (x0*x0+x1*x1) (r0*x0+r1*x1):=by
  rw [←prodK_step (k:=1) (by rw [←hL];simp) (by rw [←hX];simp) (by subst hL;exact l1),k1];subst hL hX;show cmtN p g h (x0*x0) (r0*x0)*powI (cmtN p g h x1 r1) x1 p%p=_;rw [cmt_pow t,cmt_mul t]
 have k3:prodK p L X 3=cmtN p g h (x0*x0+x1*x1+x2*x2) (r0*x0+r1*x1+r2*x2):=by
  rw [←prodK_step (k:=2) (by rw [←hL];simp) (by rw [←hX];simp) (by subst hL;exact l2),k2];subst hL hX;show cmtN p g h (x0*x0+x1*x1) (r0*x0+r1*x1)*powI (cmtN p g h x2 r2) x2 p%p=_;rw [cmt_pow t,cmt_mul t]
 have k4:prodK p L X 4=cmtN p g h (x0*x0+x1*x1+x2*x2+x3*x3) (r0*x0+r1*x1+r2*x2+r3*x3):=by
  rw [←prodK_step (k:=3) (by rw [←hL];simp) (by rw [←hX];simp) (by subst hL;exact l3),k3];subst hL hX;show cmtN p g h (x0*x0+x1*x1+x2*x2) (r0*x0+r1*x1+r2*x2)*powI (cmtN p g h x3 r3) x3 p%p=_;rw [cmt_pow t,cmt_mul t]
 rw [←prodK_step (k:=4) (by rw [←hL];simp) (by rw [←hX];simp) (by subst hL;exact t.h1),k4];subst hL hX;show cmtN p g h (x0*x0+x1*x1+x2*x2+x3*x3) (r0*x0+r1*x1+r2*x2+r3*x3)*powI h z p%p=_;rw [cmt_h t,cmt_mul t];congr 1
 ·omega
 ·rw [Int.mul_comm r0,Int.mul_comm r1,Int.mul_comm r2,Int.mul_comm r3];omega
theorem imgs27 {p g h c vb rb:Nat} {lo:Int} (t:Two p g h) (x0 r0 x1 r1 x2 r2 x3 r3 z:Int) :
  (stN p g h lo c (cms p g h [(x0,r0),(x1,r1),(x2,r2),(x3,r3)]) vb rb).imgs (zs9 [(x0,r0),(x1,r1),(x2,r2),(x3,r3)] z)=cms p g h [(x0,r0),(x1,r1),(x2,r2),(x3,r3)]++[cmtN p g h (sqs [(x0,r0),(x1,r1),(x2,r2),(x3,r3)]) (prd [(x0,r0),(x1,r1),(x2,r2),(x3,r3)]+z)]:=by
 have hN:(stN p g h lo c (cms p g h [(x0,r0),(x1,r1),(x2,r2),(x3,r3)]) vb rb).grps=[(p,0)]:=rfl;have e5:=img_five t _ hN x0 r0 x1 r1 x2 r2 x3 r3 z (shiftN p c g (-lo));have e:=fun tg i j=>img_two (g:=g) (h:=h) _ hN (zs9 [(x0,r0),(x1,r1),(x2,r2),(x3,r3)] z) tg i j
 generalize hNN:stN p g h lo c (cms p g h [(x0,r0),(x1,r1),(x2,r2),(x3,r3)]) vb rb=N at hN e5 e ⊢;have hq:N.eqs=[⟨0,cmtN p g h x0 r0,[t1 g 0,t1 h 1]⟩,⟨0,cmtN p g h x1 r1,[t1 g 2,t1 h 3]⟩,⟨0,cmtN p g h x2 r2,[t1 g 4,t1 h 5]⟩,⟨0,cmtN p g h x3 r3,[t1 g 6,t1 h 7]⟩,⟨0,shiftN p c g (-lo),stT (cms p g h [(x0,r0),(x1,r1),(x2,r2),(x3,r3)]) 4++[t1 h 8]⟩]:=by rw [←hNN];rfl
 unfold NSta.imgs;rw [hq];simp only [List.map_cons,List.map_nil];rw [e5,e,e,e,e];rfl
def bnd27 (vb rb:Nat) (X:List (Int × Int)) (z:Int):Bool:=(X.all fun x=>decide (x.1.natAbs<vb)&&decide (x.2.natAbs<rb))&&decide (z.natAbs<lastB vb rb)
theorem inJ_pos {N:NSta} {Z:List Int} {j b:Nat} (hb:N.vars.getD j 0=b) (h0:b≠0):inJ N Z j=decide ((Z.getD j 0).natAbs<b):=by
 unfold inJ blw vz;rw [hb,if_neg h0,beq_eq_false_iff_ne.2 h0];simp
theorem hld27 {p g h c vb rb:Nat} {lo:Int} (t:Two p g h) (hv:vb≠0) (hr:rb≠0) (x0 r0 x1 r1 x2 r2 x3 r3 z:Int) :
  (stN p g h lo c (cms p g h [(x0,r0),(x1,r1),(x2,r2),(x3,r3)]) vb rb).hldB (zs9 [(x0,r0),(x1,r1),(x2,r2),(x3,r3)] z) =
   (bnd27 vb rb [(x0,r0),(x1,r1),(x2,r2),(x3,r3)] z&&decide (cmtN p g h (sqs [(x0,r0),(x1,r1),(x2,r2),(x3,r3)]) (prd [(x0,r0),(x1,r1),(x2,r2),(x3,r3)]+z)=shiftN p c g (-lo))):=by
 have hi:=imgs27 (c:=c) (vb:=vb) (rb:=rb) (lo:=lo) t x0 r0 x1 r1 x2 r2 x3 r3 z;have hlb:lastB vb rb≠0:=Nat.mul_ne_zero (by omega) hr;generalize hNN:stN p g h lo c (cms p g h [(x0,r0),(x1,r1),(x2,r2),(x3,r3)]) vb rb=N at hi ⊢;have hvs:N.vars=[vb,rb,vb,rb,vb,rb,vb,rb,lastB vb rb]:=by rw [←hNN];rfl
 have ht:N.eqs.map (·.tgt)=cms p g h [(x0,r0),(x1,r1),(x2,r2),(x3,r3)]++[shiftN p c g (-lo)]:=by rw [←hNN];rfl
 unfold NSta.hldB;rw [hi,ht,hvs];have hz:zs9 [(x0,r0),(x1,r1),(x2,r2),(x3,r3)] z=[x0,r0,x1,r1,x2,r2,x3,r3,z]:=rfl;rw [hz];have e0:inJ N [x0,r0,x1,r1,x2,r2,x3,r3,z] 0=decide (x0.natAbs<vb):=inJ_pos (by rw [hvs];rfl) hv;have e1:inJ N [x0,r0,x1,r1,x2,r2,x3,r3,z] 1=decide (r0.natAbs<rb):=inJ_pos (by rw [hvs];rfl) hr;have e2:inJ N [x0,r0,x1,r1,x2,r2,x3,r3,z] 2=decide (x1.natAbs<vb):=inJ_pos (by rw [hvs];rfl) hv;have e3:inJ N [x0,r0,x1,r1,x2,r2,x3,r3,z] 3=decide (r1.natAbs<rb):=inJ_pos (by rw [hvs];rfl) hr;have e4:inJ N [x0,r0,x1,r1,x2,r2,x3,r3,z] 4=decide (x2.natAbs<vb):=inJ_pos (by rw [hvs];rfl) hv;have e5:inJ N [x0,r0,x1,r1,x2,r2,x3,r3,z] 5=decide (r2.natAbs<rb):=inJ_pos (by rw [hvs];rfl) hr;have e6:inJ N [x0,r0,x1,r1,x2,r2,x3,r3,z] 6=decide (x3.natAbs<vb):=inJ_pos (by rw [hvs];rfl) hv;have e7:inJ N [x0,r0,x1,r1,x2,r2,x3,r3,z] 7=decide (r3.natAbs<rb):=inJ_pos (by rw [hvs];rfl) hr;have e8:inJ N [x0,r0,x1,r1,x2,r2,x3,r3,z] 8=decide (z.natAbs<lastB vb rb):=inJ_pos (by rw [hvs];rfl) hlb
 have hra:ra 9 (inJ N [x0,r0,x1,r1,x2,r2,x3,r3,z])=bnd27 vb rb [(x0,r0),(x1,r1),(x2,r2),(x3,r3)] z:=by
  simp only [ra_succ,e0,e1,e2,e3,e4,e5,e6,e7,e8,bnd27,List.all_cons,List.all_nil,Bool.and_true,Bool.and_assoc];rfl
 show (decide ((9:Nat)=9)&&(ra 9 _&&_))=_;rw [hra]
 have ed:decide (cms p g h [(x0,r0),(x1,r1),(x2,r2),(x3,r3)]++[cmtN p g h (sqs [(x0,r0),(x1,r1),(x2,r2),(x3,r3)]) (prd [(x0,r0),(x1,r1),(x2,r2),(x3,r3)]+z)]=cms p g h [(x0,r0),(x1,r1),(x2,r2),(x3,r3)]++[shiftN p c g (-lo)])=decide (cmtN p g h (sqs [(x0,r0),(x1,r1),(x2,r2),(x3,r3)]) (prd [(x0,r0),(x1,r1),(x2,r2),(x3,r3)]+z)=shiftN p c g (-lo)):=by
  refine decide_eq_decide.2 ⟨fun hh=>?_,fun hh=>by rw [hh]⟩;have:=List.append_cancel_left hh;injection this
 rw [ed];rfl
theorem comp27 {p g h vb rb:Nat} {lo v r:Int} (t:Two p g h) (hv:vb≠0) (hr:rb≠0) (x0 r0 x1 r1 x2 r2 x3 r3 z:Int) (hz:z=r-prd [(x0,r0),(x1,r1),(x2,r2),(x3,r3)]) (c:Nat) (hc:c=cmtN p g h v r) :
  (stN p g h lo c (cms p g h [(x0,r0),(x1,r1),(x2,r2),(x3,r3)]) vb rb).hldB (zs9 [(x0,r0),(x1,r1),(x2,r2),(x3,r3)] z) =
   (bnd27 vb rb [(x0,r0),(x1,r1),(x2,r2),(x3,r3)] z&&decide (cmtN p g h (sqs [(x0,r0),(x1,r1),(x2,r2),(x3,r3)]) r=cmtN p g h (v-lo) r)):=by
 rw [hld27 t hv hr,hc,shift_cmt t,hz,show v+-lo=v-lo by omega,show prd [(x0,r0),(x1,r1),(x2,r2),(x3,r3)]+(r-prd [(x0,r0),(x1,r1),(x2,r2),(x3,r3)])=r by omega]
theorem last_lt {vb rb:Nat} {r:Int} (hr:r.natAbs<rb) (a0 c0 a1 c1 a2 c2 a3 c3:Nat) (h0:a0<vb) (h1:a1<vb) (h2:a2<vb) (h3:a3<vb) (k0:c0<rb) (k1:c1<rb) (k2:c2<rb) (k3:c3<rb) :
  (r-prd [((a0:Int),(c0:Int)),(a1,c1),(a2,c2),(a3,c3)]).natAbs<lastB vb rb:=by
 have m0:=Nat.mul_le_mul (Nat.le_of_lt h0) (Nat.le_of_lt k0);have m1:=Nat.mul_le_mul (Nat.le_of_lt h1) (Nat.le_of_lt k1);have m2:=Nat.mul_le_mul (Nat.le_of_lt h2) (Nat.le_of_lt k2);have m3:=Nat.mul_le_mul (Nat.le_of_lt h3) (Nat.le_of_lt k3);have e:lastB vb rb=4*(vb*rb)+rb:=by unfold lastB;rw [Nat.add_mul,Nat.mul_assoc,Nat.one_mul]
 rw [e];show (r-((a0:Int)*c0+((a1:Int)*c1+((a2:Int)*c2+((a3:Int)*c3+0))))).natAbs<_;simp only [←Int.natCast_mul];omega
theorem comp27_ge {p g h vb rb:Nat} {lo v r:Int} (t:Two p g h) (hv:vb≠0) (hb:rb≠0) (a0 c0 a1 c1 a2 c2 a3 c3:Nat) (hr:r.natAbs<rb) (h0:a0<vb) (h1:a1<vb) (h2:a2<vb) (h3:a3<vb) (k0:c0<rb) (k1:c1<rb) (k2:c2<rb) (k3:c3<rb)
  (hd:((a0*a0+a1*a1+a2*a2+a3*a3:Nat):Int)=v-lo) (c:Nat) (hc:c=cmtN p g h v r) :
  (stN p g h lo c (cms p g h [((a0:Int),(c0:Int)),(a1,c1),(a2,c2),(a3,c3)]) vb rb).hldB (zs9 [((a0:Int),(c0:Int)),(a1,c1),(a2,c2),(a3,c3)] (r-prd [((a0:Int),(c0:Int)),(a1,c1),(a2,c2),(a3,c3)]))=true:=by
 have hl:=last_lt hr a0 c0 a1 c1 a2 c2 a3 c3 h0 h1 h2 h3 k0 k1 k2 k3;rw [comp27 t hv hb _ _ _ _ _ _ _ _ _ rfl c hc]
 have e:sqs [((a0:Int),(c0:Int)),(a1,c1),(a2,c2),(a3,c3)]=v-lo:=by
  rw [←hd];show (a0:Int)*a0+((a1:Int)*a1+((a2:Int)*a2+((a3:Int)*a3+0)))=_;simp only [←Int.natCast_mul];omega
 rw [e];simp [bnd27,hl,h0,h1,h2,h3,k0,k1,k2,k3]
theorem comp27_neg {p g h vb rb:Nat} {lo v r:Int} (t:Two p g h) (hv:vb≠0) (hb:rb≠0) (c0 c1 c2 c3:Nat) (z:Int) (hz:z=r-prd [((0:Int),(c0:Int)),(0,c1),(0,c2),(0,c3)]) (c:Nat) (hc:c=cmtN p g h v r)
  (hh:(stN p g h lo c (cms p g h [((0:Int),(c0:Int)),(0,c1),(0,c2),(0,c3)]) vb rb).hldB (zs9 [((0:Int),(c0:Int)),(0,c1),(0,c2),(0,c3)] z)=true):powI g (v-lo) p=1:=by
 rw [comp27 t hv hb _ _ _ _ _ _ _ _ _ hz c hc,Bool.and_eq_true] at hh;have h1:=of_decide_eq_true hh.2;have h2:=cmt_inj t _ _ _ _ h1.symm;rw [show sqs [((0:Int),(c0:Int)),(0,c1),(0,c2),(0,c3)]=0 from rfl,show v-lo-0=v-lo by omega,show r-r=0 by omega] at h2;rw [cmt_g t,h2]
end
section
/- dominoref06.Same at equal tapes. -/
open Go.RowKit Go.Shelf
end
section
open Go.RowKit Go.Shelf
theorem tfwc_inv {L:List ByteArray} {sd:ByteArray} (h:tfw L sd=true):L.length≤80∧(∀x∈L,x.size≤16)∧sd.size≤60:=by
 simp only [tfw,szN,Bool.and_eq_true,List.all_eq_true,decide_eq_true_eq] at h;exact ⟨h.1.2,h.1.1,h.2⟩
theorem stC_k0 {a b c d:ByteArray} {lo:Int} {cc:ByteArray} {P:List ByteArray} {vl rd:ByteArray} (h:(stR a b c d lo cc P vl rd).1=0):chkV [] (cc :: vl :: rd :: P) a b c d=0:=by
 unfold stR at h;split at h
 ·rename_i h1;exact absurd h h1
 ·rename_i h1;exact Decidable.not_not.1 h1
theorem stC_ok {p g h c1 vb rb:Nat} {lo:Int} {P:List Nat} (hk:(stR (E p) (E 0) (E g) (E h) lo (E c1) (P.map E) (E vb) (E rb)).1=0) :
  vb≠0∧rb≠0∧P.length=4∧hasAll p c1 P=true∧stR (E p) (E 0) (E g) (E h) lo (E c1) (P.map E) (E vb) (E rb)=(0,stN p g h lo c1 P vb rb):=by
 have hz:=stR_zero (lo:=lo) (stC_k0 hk);rw [hz] at hk ⊢;split at hk
 ·cases hk
 rename_i h1;split at hk
 ·cases hk
 rename_i h2;split at hk
 ·cases hk
 rename_i h3;have h2:P.length=4:=Decidable.not_not.1 h2;have h3:hasAll p c1 P=true:=by cases hh:hasAll p c1 P;exact absurd hh h3;rfl
 refine ⟨fun e=>h1 (.inl e),fun e=>h1 (.inr e),h2,h3,?_⟩;rw [if_neg h1,if_neg (fun hh=>hh h2),if_neg (by rw [h3];decide)]
theorem stR_vars (a b c d:ByteArray) (lo:Int) (cc:ByteArray) (P:List ByteArray) (vl rd:ByteArray):(stR a b c d lo cc P vl rd).2.vars.length≠1:=by
 unfold stR;split;exact (by decide:(0:Nat)≠1)
 split;exact (by decide:(0:Nat)≠1)
 split;exact (by decide:(0:Nat)≠1)
 split;exact (by decide:(0:Nat)≠1)
 exact (by decide:(9:Nat)≠1)
theorem prR_ok {att:Att} {a b c d:ByteArray} {lo:Int} {vn:Bool} {va:ByteArray} {rn:Bool} {ra rd:ByteArray} {T:Tp} (h:(prR att a b c d lo vn va rn ra rd T).err=0) :
  kyV a b c d=0∧¬ 4294967296≤intb vn va-lo∧(∀j,j<4→(prC att (numb rd) T j).1=0) ∧
   prR att a b c d lo vn va rn ra rd T=⟨0,prP att (numb a) (numb c) (numb d) (numb rd) (roots (intb vn va-lo)) T 4,prO att (numb rd) (roots (intb vn va-lo)) T 4,T.on 4⟩:=by
 unfold prR at h ⊢;split at h
 ·cases h
 rename_i h1;rw [if_neg h1];split at h
 ·rename_i h2;exact absurd h h2
 rename_i h2;rw [if_neg h2];split at h
 ·cases h
 rename_i h3;rw [if_neg h3];split at h
 ·cases h
 rename_i h4;rw [if_neg h4]
 have hall:∀j,j<4→(prC att (numb rd) T j).1=0:=by
  unfold prN at h;split at h
  ·rename_i j hj;have h5:=List.find?_some hj;simp only [bne_iff_ne] at h5;exact absurd h h5
  ·rename_i hj;intro j hj4;have h5:=List.find?_eq_none.1 hj j (List.mem_range.2 hj4);simp only [bne_iff_ne,Decidable.not_not] at h5;exact h5
 exact ⟨Decidable.not_not.1 h2,h4,hall,prN_ok hall⟩
theorem ky_pos {a b c d:ByteArray} (h:kyV a b c d=0):numb a≠0:=by
 unfold kyV at h;split at h
 ·rename_i h1;unfold pedV at h1;split at h1
  ·intro h0;unfold pedE grpE at h1;rw [h0] at h1;simp at h1
  ·omega
 ·rename_i h1;exact absurd h h1
theorem prR_bnd {att:Att} {a b c d:ByteArray} {lo:Int} {vn:Bool} {va:ByteArray} {rn:Bool} {ra rd:ByteArray} {T:Tp} (ha:a.size≤8) (hrd:rd.size≤12) :
  (prR att a b c d lo vn va rn ra rd T).parts.length≤4∧(∀x∈(prR att a b c d lo vn va rn ra rd T).parts,x<256^8)∧(prR att a b c d lo vn va rn ra rd T).ops.length≤4∧∀x∈(prR att a b c d lo vn va rn ra rd T).ops,x.1<256^12∧x.2<256^12:=by
 by_cases h:(prR att a b c d lo vn va rn ra rd T).err=0
 ·obtain ⟨hk,h4,hall,hR⟩:=prR_ok h;rw [hR];refine ⟨by rw [show (PrR.mk 0 _ _ _).parts=_ from rfl,prP_len];exact Nat.le_refl 4,fun x hx=>?_,by rw [show (PrR.mk 0 _ _ _).ops=_ from rfl,prO_len];exact Nat.le_refl 4,fun x hx=>?_⟩
  ·unfold prP at hx;obtain ⟨j,_,rfl⟩:=List.mem_map.1 hx;unfold cmtN;exact Nat.lt_trans (Nat.mod_lt _ (Nat.pos_of_ne_zero (ky_pos hk))) (numb_lt ha)
  ·unfold prO at hx;obtain ⟨j,hj,rfl⟩:=List.mem_map.1 hx;exact ⟨Nat.lt_of_lt_of_le (roots_lt h4 j) (by decide),Nat.lt_trans (prC_lt (hall j (List.mem_range.1 hj))) (numb_lt hrd)⟩
 ·have e:∀R:PrR,R.err≠0→(R=⟨R.err,[],[],Tp.nil⟩)→R.parts.length≤4∧(∀x∈R.parts,x<256^8)∧R.ops.length≤4∧∀x∈R.ops,x.1<256^12∧x.2<256^12:=fun R _ hR=>by
   rw [hR];exact ⟨by simp,by simp,by simp,by simp⟩
  refine e _ h ?_;unfold prR at h ⊢;split
  ·rfl
  split
  ·rfl
  split
  ·rfl
  split
  ·rfl
  rename_i h1 h2 h3 h4;rw [if_neg h1,if_neg h2,if_neg h3,if_neg h4] at h;unfold prN at h ⊢;split
  ·rfl
  ·rename_i hj;rw [hj] at h;exact absurd rfl h
theorem witR_ok {a b c d:ByteArray} {vn:Bool} {va:ByteArray} {rn:Bool} {ra:ByteArray} {P:List Opn} (h:(witR a b c d vn va rn ra P).1=0):(witR a b c d vn va rn ra P).2=oZ P++[restL (intb rn ra) P]:=by
 unfold witR at h ⊢;split at h
 ·rename_i h1;exact absurd h h1
 rename_i h1;split at h
 ·cases h
 rename_i h2;rw [if_neg h1,if_neg h2]
theorem cmE_ok {a b c d:ByteArray} {vn:Bool} {va:ByteArray} {rn:Bool} {ra:ByteArray} (h:cmE a b c d vn va rn ra=0):ivB vn va=true∧ivB rn ra=true:=by
 unfold cmE at h;split at h
 ·rename_i h1;rwa [Bool.and_eq_true] at h1
 ·cases h
theorem cms_hasC {p g h:Nat} (t:Two p g h) (X:List (Int × Int)):∀x∈cms p g h X,hasB p 0 x=true:=fun x hx=>by
 unfold cms at hx;obtain ⟨y,_,rfl⟩:=List.mem_map.1 hx;exact cmt_has t _ _
end
end Go.Proofs.YteahlbhjhjhljaaGreatDoor
