/- squarerange.Witness. -/
import Derived.Test.YteahlbhjhjhljaaGreatDoorCo2
import Derived.Test.YteahlbhjhjhljaaGreatDoorSet1
import Derived.Test.YteahlbhjhjhljaaGreatDoorRinv
import Derived.Test.YteahlbhjhjhljaaGreatDoorLc27
import Derived.Test.YteahlbhjhjhljaaGreatDoorRow27
set_option linter.unusedVariables false
set_option linter.unusedSimpArgs false
set_option maxRecDepth 100000
set_option maxHeartbeats 16000000
namespace Go.Proofs.YteahlbhjhjhljaaGreatDoor
section
/- Keys of bytes: pedersen.Check,dominoref14.Check,squarerange.checked,dominoref27.formed,key. -/
open Go.RowKit Go.Shelf
def intb (n:Bool) (s:ByteArray):Int:=if n then -(numb s:Int) else (numb s:Int)
theorem intb_I (z:Int):intb (sg z) (E z.natAbs)=z:=by
 unfold intb sg;rw [numb_E];by_cases h:z<0
 ·rw [decide_eq_true h,if_pos rfl];omega
 ·rw [decide_eq_false h,if_neg (by decide)];omega
theorem empty_E {n:Nat}:(E n).size=0↔n=0:=by
 constructor
 ·intro h;apply Classical.byContradiction;intro h0;have:=(E_size_pos n).2 (by omega);omega
 ·rintro rfl;rfl
def pedV (a b c d:ByteArray):Nat:=if vl4 a b c d=true then pedE (numb a) (numb b) (numb c) (numb d) else 3
def kyV (a b c d:ByteArray):Nat:=if pedV a b c d=0 then (if b.size=0 then 0 else 1) else pedV a b c d
def iv2 (x:Bool × ByteArray):Bool:=ivB x.1 x.2
def chkV (L:List (Bool × ByteArray)) (M:List ByteArray) (a b c d:ByteArray):Nat:=if L.all iv2=true∧M.all vldB=true then kyV a b c d else 3
theorem vl4_of {a b c d:ByteArray} (h:vl4 a b c d=true):∃p q g k,(p<256^128∧q<256^128∧g<256^128∧k<256^128)∧a=E p∧b=E q∧c=E g∧d=E k:=by
 unfold vl4 at h;simp only [Bool.and_eq_true] at h;obtain ⟨p,h1,e1⟩:=of_vldB h.1.1.1;obtain ⟨q,h2,e2⟩:=of_vldB h.1.1.2;obtain ⟨g,h3,e3⟩:=of_vldB h.1.2;obtain ⟨k,h4,e4⟩:=of_vldB h.2;exact ⟨p,q,g,k,⟨h1,h2,h3,h4⟩,e1,e2,e3,e4⟩
theorem pedV_E {p q g h:Nat} (hp:p<256^128) (hq:q<256^128) (hg:g<256^128) (hh:h<256^128):pedV (E p) (E q) (E g) (E h)=pedE p q g h:=by
 unfold pedV;rw [if_pos (vl4_E hp hq hg hh),numb_E,numb_E,numb_E,numb_E]
theorem kyV_zero {a b c d:ByteArray} (h:kyV a b c d=0) (ha:a.size≤8):∃p g k,(p<256^8∧g<256^128∧k<256^128)∧a=E p∧b=E 0∧c=E g∧d=E k∧pedE p 0 g k=0:=by
 unfold kyV at h;split at h
 ·rename_i h1;split at h
  ·rename_i h2;by_cases hv:vl4 a b c d=true
   ·obtain ⟨p,q,g,k,⟨l1,l2,l3,l4⟩,rfl,rfl,rfl,rfl⟩:=vl4_of hv;rw [pedV_E l1 l2 l3 l4] at h1;obtain rfl:=empty_E.1 h2;exact ⟨p,g,k,⟨lt_of_size ha,l3,l4⟩,rfl,rfl,rfl,rfl,h1⟩
   ·unfold pedV at h1;rw [if_neg hv] at h1;omega
  ·omega
 ·omega
theorem pedA_c (a b c d:ByteArray) (k:Nat) (w:World) (ha:a.size≤8) (hb:b.size≤100) (hc:c.size≤100) (hd:d.size≤100) (hk:pedV a b c d=k) :
  Calls Tryz.prog 151 #[.agg #[.string a,.string b,.string c,.string d]] w fun e w'=>e=.returned (.int .i64 k)∧Below w.heap.size w w':=by
 by_cases hv:vl4 a b c d=true
 ·obtain ⟨p,q,g,h,⟨l1,l2,l3,l4⟩,rfl,rfl,rfl,rfl⟩:=vl4_of hv;rw [pedV_E l1 l2 l3 l4] at hk;exact pedcheckV_c p q g h k w (lt_of_size ha) l2 l3 l4 hk
 ·unfold pedV at hk;rw [if_neg hv] at hk;subst hk;exact pedcheck_bad a b c d w (by omega) (by omega) (by omega) (by omega) (Bool.eq_false_iff.2 hv)
theorem z_str {s:ByteArray} (h:s.size=0):s.toList.isEmpty=true:=by
 rw [ByteArray.toList_eq];cases e:s.data.toList with
 | nil=>rfl
 | cons x t =>
  have h2:s.data.toList.length=s.size:=by simp
  rw [e,h] at h2;simp at h2
theorem sqchk_c (L:List (Bool × ByteArray)) (M:List ByteArray) (a b c d:ByteArray) (u v:Value) (k:Nat) (w:World) (hL:L.length≤1000) (hM:M.length≤1000) (hLs:∀x∈L,x.2.size≤1000) (hMs:∀x∈M,x.size≤1000)
  (ha:a.size≤8) (hb:b.size≤100) (hc:c.size≤100) (hd:d.size≤100) (hU:IsAt w u L) (hV:SsAt w v M) (hk:chkV L M a b c d=k) :
  Calls Tryz.prog 104 #[.agg #[.string a,.string b,.string c,.string d],u,v] w fun e w'=>e=.returned (.int .i64 k)∧Below w.heap.size w w':=by
 obtain ⟨m,hm⟩:∃m,pedV a b c d=m:=⟨_,rfl⟩;have HC:Hid (∀w,Calls Tryz.prog 151 #[.agg #[.string a,.string b,.string c,.string d]] w fun e w'=>e=.returned (.int .i64 m)∧Below w.heap.size w w'):=fun w=>pedA_c a b c d m w ha hb hc hd hm
 have HKL:Hid (L.all iv2=false→k=3):=fun h=>by rw [←hk,chkV,if_neg (by rw [h];simp)]
 have HKM:Hid (M.all vldB=false→k=3):=fun h=>by rw [←hk,chkV,if_neg (by rw [h];simp)]
 have HK:Hid (L.all iv2=true→M.all vldB=true→k=if m=0 then (if b.size=0 then 0 else 1) else m):=fun h1 h2=>by rw [←hk,chkV,if_pos ⟨h1,h2⟩,kyV,hm]
 have hB:=Blk.new w #[Value.string a,Value.string b,Value.string c,Value.string d] 26;have hBW:=b1 w (.cells #[Value.string a,Value.string b,Value.string c,Value.string d] 26);replace hU:=IsAt.after hU hBW;replace hV:=SsAt.after hV hBW;obtain ⟨ao,ac,rfl⟩:=RAt.form hU;obtain ⟨bo,bc,rfl⟩:=RAt.form hV;obtain ⟨n,hn⟩:∃n,n=L.length:=⟨_,rfl⟩;obtain ⟨n2,hn2⟩:∃n,n=M.length:=⟨_,rfl⟩;have HN:=Lib.hid hn;have HN2:=Lib.hid hn2;have HLS:=Lib.hid hLs;have HMS:=Lib.hid hMs;rw [←hn] at hU hL ⊢;rw [←hn2] at hV hM ⊢;clear ha hb hc hd hk hm hn hn2 hLs hMs;obtain ⟨hBc0,hBf0,hBc1,hBf1,hBc2,hBf2,hBc3,hBf3⟩:=hB.x4;go_enter Tryz.func104,Tryz.ntmps104
 go_wp2;clear hBc0 hBf0 hBc1 hBf1 hBc2 hBf2 hBc3 hBf3;generalize w.alloc (.cells #[Value.string a,Value.string b,Value.string c,Value.string d] 26)=w1 at hB hBW hU hV;replace hB:Blk w1 w.heap.size 26 [Value.string a,Value.string b,Value.string c,Value.string d]:=hB;go_loopw [14] (fun i wr=>∃k:Nat,k≤n∧i=.int .i64 k∧Hid ((L.take k).all iv2=true)∧Below w1.heap.size w1 wr) (fun i _=>n-(intOf i).toNat)
 case atStart=>exact ⟨0,by omega,rfl,rfl,Below.refl _ _⟩
 case round =>
  obtain ⟨j,hj,rfl,HJ,hbr⟩:=hrel;obtain ⟨wp,hwp⟩:∃wp,wp=wr:=⟨_,rfl⟩;subst hwp;by_cases hlt:j<n
  ·have hkl:j<L.length:=by rw [←HN.out];exact hlt
   obtain ⟨bz,oz,rfl,hbz,z1,z2⟩:=IsAt.at_ (IsAt.after hU hbr) hkl;have HSZ:=Lib.hid (HLS.out _ (List.getElem_mem hkl));have HT:=Lib.hid (all_take iv2 L j hkl);have HBD:Hid (iv2 L[j]=false→k=3):=fun h=>HKL.out (all_bad iv2 L j hkl h)
   have HIV:Hid (∀w,Calls Tryz.prog 136 #[.agg #[.bool L[j].1,.string L[j].2]] w fun e w'=>e=.returned (.bool (iv2 L[j]))∧Below w.heap.size w w'):=fun w=>ivalX_c _ _ _ w HSZ.out rfl
   generalize iv2 (L[j]'hkl)=q at HT HBD HIV;generalize (L[j]'hkl)=x at z1 z2 HSZ HIV;obtain ⟨x1,x2⟩:=x;simp only [] at z1 z2 HIV;have h0k:(0:Int)≤(j:Int):=by omega
   have h1k:(j:Int)<(n:Int):=by omega
   have hP:=Blk.new wp #[.bool x1,.string x2] 28;have hb9:=b1 wp (.cells #[.bool x1,.string x2] 28);obtain ⟨hPc0,hPf0,hPc1,hPf1⟩:=hP.x2;go_wp2_with fail
   refine (HIV.out _).mono ?_;rintro e w3 ⟨rfl,hb3⟩;clear hPc0 hPf0 hPc1 hPf1;have hbn:=bt hbr (bt hb9 hb3);cases q
   ·have HF:=Lib.hid (HBD.out rfl);go_wp2;go_ret
    exact ⟨ri (by rw [HF.out];rfl),bt hBW hbn⟩
   ·have HX:Hid ((L.take (j+1)).all iv2=true):=by rw [Hid,HT.out,HJ.out];rfl
    go_wp2;go_roundw
    case rel=>exact ⟨j+1,by omega,by go_num,HX,hbn⟩
    case measure=>simp [intOf];omega
  ·have HAL:Hid (L.all iv2=true):=by
    have:=HJ.out;rwa [List.take_of_length_le (by rw [←HN.out];omega)] at this
   obtain rfl:n=j:=by omega
   clear HJ HKL;have hB2:=hB.after hbr;have hV2:=SsAt.after hV hbr;replace hBW:=bt hBW hbr;clear hbr hU hV hB;go_wp2;go_loopw [24] (fun i wr=>∃k:Nat,k≤n2∧i=.int .i64 k∧Hid ((M.take k).all vldB=true)∧Below wp.heap.size wp wr) (fun i _=>n2-(intOf i).toNat)
   case atStart=>exact ⟨0,by omega,rfl,rfl,Below.refl _ _⟩
   case round =>
    obtain ⟨j,hj,rfl,HJ,hbr⟩:=hrel;obtain ⟨wq,hwq⟩:∃wp,wp=wr:=⟨_,rfl⟩;subst hwq;by_cases hlt:j<n2
    ·have hkl:j<M.length:=by rw [←HN2.out];exact hlt
     obtain ⟨bz,oz,rfl,hbz,z1⟩:=SsAt.at_ (SsAt.after hV2 hbr) hkl;have HSZ:=Lib.hid (HMS.out _ (List.getElem_mem hkl));have HT:=Lib.hid (all_take vldB M j hkl);have HBD:Hid (vldB M[j]=false→k=3):=fun h=>HKM.out (all_bad vldB M j hkl h)
     have HIV:Hid (∀w,Calls Tryz.prog 67 #[.string M[j]] w fun e w'=>e=.returned (.bool (vldB M[j]))∧w'=w):=fun w=>valB_c _ _ w HSZ.out rfl
     generalize vldB (M[j]'hkl)=q at HT HBD HIV;generalize (M[j]'hkl)=x at z1 HSZ HIV;have h0k:(0:Int)≤(j:Int):=by omega
     have h1k:(j:Int)<(n2:Int):=by omega
     go_wp2_with fail
     refine (HIV.out _).mono ?_;rintro e w3 ⟨rfl,rfl⟩;cases q
     ·have HF:=Lib.hid (HBD.out rfl);go_wp2;go_ret
      exact ⟨ri (by rw [HF.out];rfl),bt hBW hbr⟩
     ·have HX:Hid ((M.take (j+1)).all vldB=true):=by rw [Hid,HT.out,HJ.out];rfl
      go_wp2;go_roundw
      case rel=>exact ⟨j+1,by omega,by go_num,HX,hbr⟩
      case measure=>simp [intOf];omega
    ·have HAM:Hid (M.all vldB=true):=by
      have:=HJ.out;rwa [List.take_of_length_le (by rw [←HN2.out];omega)] at this
     obtain rfl:n2=j:=by omega
     clear HJ HKM;have HKK:=Lib.hid (HK.out HAL.out HAM.out);replace hB2:=hB2.after hbr;replace hBW:=bt hBW hbr;clear hbr hV2 HAL HAM HK;obtain ⟨hB2c0,hB2f0,hB2c1,hB2f1,hB2c2,hB2f2,hB2c3,hB2f3⟩:=hB2.x4;go_wp2_with fail
     refine (HC.out _).mono ?_;rintro e w5 ⟨rfl,hb5⟩;clear hB2c0 hB2f0 hB2c1 hB2f1 hB2c2 hB2f2 hB2c3 hB2f3;replace hB2:=hB2.after hb5;replace hBW:=bt hBW hb5;obtain ⟨hB2c0,hB2f0,hB2c1,hB2f1,hB2c2,hB2f2,hB2c3,hB2f3⟩:=hB2.x4;by_cases hm0:m=0
     ·subst hm0;by_cases hb0:b.size=0
      ·have hz:=z_str hb0;have HK2:Hid (k=0):=by rw [Hid,HKK.out,if_pos rfl,if_pos hb0]
       clear hb0;go_wp2;go_ret
       exact ⟨ri (by rw [HK2.out];rfl),hBW⟩
      ·have hz:=nz_str (s:=b) (by omega);have HK2:Hid (k=1):=by rw [Hid,HKK.out,if_pos rfl,if_neg hb0]
       clear hb0;go_wp2;go_ret
       exact ⟨ri (by rw [HK2.out];rfl),hBW⟩
     ·have hmb:((m:Int) != 0)=true:=by rw [bne_iff_ne];omega
      have HK2:Hid (k=m):=by rw [Hid,HKK.out,if_neg hm0]
      clear hm0;go_wp2;go_ret
      exact ⟨ri (by rw [HK2.out]),hBW⟩
end
section
open Go.RowKit Go.Shelf
def oL (P:List Opn):List (Bool × ByteArray):=P.flatMap fun o=>[(o.vn,o.va),(o.rn,o.ra)]
def oZ (P:List Opn):List Int:=P.flatMap fun o=>[intb o.vn o.va,intb o.rn o.ra]
def restL (r:Int) (P:List Opn):Int:=P.foldl (fun s o=>s-intb o.vn o.va*intb o.rn o.ra) r
def witR (a b c d:ByteArray) (vn:Bool) (va:ByteArray) (rn:Bool) (ra:ByteArray) (P:List Opn):Nat × List Int:=
 if chkV ((vn,va) :: (rn,ra) :: oL P) [] a b c d≠0 then (chkV ((vn,va) :: (rn,ra) :: oL P) [] a b c d,[]) else if P.length≠4 then (6,[]) else (0,oZ P++[restL (intb rn ra) P])
def WtPost (w:World) (r:Nat × List Int) (e:Ending) (w':World):Prop:=∃v,e=.returned (.tuple #[v,.int .i64 (r.1:Int)])∧ZsAt w' v r.2∧Below w.heap.size w w'
theorem zs_nil (w:World):ZsAt w (.slice none 0 0) []:=⟨none,0,rfl,.inl rfl⟩
theorem take_snoc {α:Type} (L:List α) (k:Nat) (h:k<L.length):L.take (k+1)=L.take k++[L[k]]:=List.take_succ_eq_append_getElem h
theorem oL_snoc (P:List Opn) (k:Nat) (h:k<P.length):oL (P.take (k+1))=oL (P.take k)++[(P[k].vn,P[k].va),(P[k].rn,P[k].ra)]:=by
 unfold oL;rw [take_snoc P k h,List.flatMap_append];simp
theorem oL_len (P:List Opn):(oL P).length=P.length*2:=by
 unfold oL;induction P with
 | nil=>rfl
 | cons x t ih=>rw [List.flatMap_cons,List.length_append,ih,List.length_cons];simp;omega
theorem restL_snoc (r:Int) (P:List Opn) (k:Nat) (h:k<P.length):restL r (P.take (k+1))=restL r (P.take k)-intb P[k].vn P[k].va*intb P[k].rn P[k].ra:=by
 unfold restL;rw [take_snoc P k h,List.foldl_append];rfl
theorem ics_app2 (A B:List (Bool × ByteArray)):ics (A++B)=ics A++ics B:=by unfold ics;rw [List.flatMap_append]
theorem numb_lt {s:ByteArray} {k:Nat} (h:s.size≤k):numb s<256^k:=by
 unfold numb;have h1:=val_lt s.data.toList;have h2:s.data.toList.length=s.size:=by simp
 rw [h2] at h1;exact Nat.lt_of_lt_of_le h1 (Nat.pow_le_pow_right (by decide) h)
theorem intb_abs (n:Bool) (s:ByteArray):(intb n s).natAbs=numb s:=by
 unfold intb;cases n <;> simp
theorem restL_lt (r:Int) (P:List Opn) (hr:r.natAbs<256^12) (hP:∀o∈P,o.va.size≤12∧o.ra.size≤12):(restL r P).natAbs≤256^12+P.length*256^24:=by
 suffices h:∀(P:List Opn) (r:Int) (B:Nat),r.natAbs≤B→(∀o∈P,o.va.size≤12∧o.ra.size≤12)→(restL r P).natAbs≤B+P.length*256^24 from h P r _ (Nat.le_of_lt hr) hP
 intro P;induction P with
 | nil=>intro r B h _;simpa [restL] using h
 | cons x t ih =>
  intro r B h hx;have h1:=hx x (List.mem_cons_self ..);have e1:=numb_lt h1.1;have e2:=numb_lt h1.2
  have e3:(intb x.vn x.va*intb x.rn x.ra).natAbs≤256^24:=by
   rw [Int.natAbs_mul,intb_abs,intb_abs];have:=Nat.mul_le_mul (Nat.le_of_lt e1) (Nat.le_of_lt e2);rwa [←Nat.pow_add] at this
  have h2:=ih (r-intb x.vn x.va*intb x.rn x.ra) (B+256^24) (by omega) (fun o ho=>hx o (List.mem_cons_of_mem _ ho));show (restL (r-intb x.vn x.va*intb x.rn x.ra) t).natAbs≤_;rw [List.length_cons,Nat.add_mul];omega
theorem oL_zI (P:List Opn) (h:(oL P).all iv2=true):oL P=(oZ P).map zI:=by
 induction P with
 | nil=>rfl
 | cons x t ih =>
  have h':(ivB x.vn x.va=true∧ivB x.rn x.ra=true)∧(oL t).all iv2=true:=by
   have:((oL (x :: t)).all iv2)=((ivB x.vn x.va&&ivB x.rn x.ra)&&(oL t).all iv2):=by
    unfold oL;rw [List.flatMap_cons,List.all_append];simp [iv2]
   rw [this,Bool.and_eq_true,Bool.and_eq_true] at h;exact h
  obtain ⟨z1,_,e1,e2⟩:=of_ivB h'.1.1;obtain ⟨z2,_,e3,e4⟩:=of_ivB h'.1.2;have e5:=ih h'.2;unfold oL oZ at e5 ⊢;rw [List.flatMap_cons,List.flatMap_cons,List.map_append,e5,e1,e2,e3,e4,intb_I,intb_I];rfl
theorem oZ_len (P:List Opn):(oZ P).length=P.length*2:=by
 unfold oZ;induction P with
 | nil=>rfl
 | cons x t ih=>rw [List.flatMap_cons,List.length_append,ih,List.length_cons];simp;omega
theorem oL_sz (P:List Opn) (hP:∀o∈P,o.va.size≤12∧o.ra.size≤12):∀x∈oL P,x.2.size≤12:=by
 intro x hx;unfold oL at hx;obtain ⟨o,ho,h⟩:=List.mem_flatMap.1 hx;have:=hP o ho;simp only [List.mem_cons,List.not_mem_nil,or_false] at h;rcases h with rfl | rfl
 ·exact this.1
 ·exact this.2
theorem oL_at (P:List Opn) (h:(oL P).all iv2=true) (k:Nat) (hk:k<P.length):ivB P[k].vn P[k].va=true∧ivB P[k].rn P[k].ra=true:=by
 rw [List.all_eq_true] at h;have hm:∀y∈[(P[k].vn,P[k].va),(P[k].rn,P[k].ra)],y∈oL P:=fun y hy=>List.mem_flatMap.2 ⟨P[k],List.getElem_mem hk,hy⟩
 exact ⟨h (P[k].vn,P[k].va) (hm _ (by simp)),h (P[k].rn,P[k].ra) (hm _ (by simp))⟩
theorem sqwit_c (a b c d:ByteArray) (lo:Int) (vn:Bool) (va:ByteArray) (rn:Bool) (ra:ByteArray) (P:List Opn) (v:Value) (w:World)
  (ha:a.size≤8) (hb:b.size≤100) (hc:c.size≤100) (hd:d.size≤100) (hva:va.size≤12) (hra:ra.size≤12) (hP:P.length≤6) (hPs:∀o∈P,o.va.size≤12∧o.ra.size≤12) (hO:OsAt w v P) :
  Calls Tryz.prog 47 #[.agg #[.string a,.string b,.string c,.string d],.int .i64 lo,.agg #[.bool vn,.string va,.bool rn,.string ra],v] w (WtPost w (witR a b c d vn va rn ra P)):=by
 obtain ⟨i1,hi1,hz10,hz11,hz12⟩:=info_parts info_Int;have HI1:=Lib.hid hi1;have HA1:=Lib.hid hz10;have HB1:=Lib.hid hz11;have HC1:=Lib.hid hz12;clear hi1 hz10 hz11 hz12;obtain ⟨m,hm⟩:∃m,chkV ((vn,va) :: (rn,ra) :: oL P) [] a b c d=m:=⟨_,rfl⟩;obtain ⟨R,hR⟩:∃R,R=witR a b c d vn va rn ra P:=⟨_,rfl⟩;rw [←hR];have HRB:Hid (m≠0→R=(m,[])):=fun h=>by rw [hR,witR,hm,if_pos h]
 have HRM:Hid (m=0→P.length≠4→R=(6,[])):=fun h h2=>by rw [hR,witR,hm,if_neg (by omega),if_pos h2]
 have HRG:Hid (m=0→P.length=4→R=(0,oZ P++[restL (intb rn ra) P])):=fun h h2=>by rw [hR,witR,hm,if_neg (by omega),if_neg (by omega)]
 have HAL:Hid (m=0→ivB rn ra=true∧(oL P).all iv2=true):=fun h=>by
  rw [h] at hm;unfold chkV at hm;split at hm
  ·rename_i h1;have:=h1.1;simp only [List.all_cons,Bool.and_eq_true] at this;exact ⟨this.2.1,this.2.2⟩
  ·omega
 have HCK:Hid (∀(u:Value) (w:World),IsAt w u ((vn,va) :: (rn,ra) :: oL P)→Calls Tryz.prog 104 #[.agg #[.string a,.string b,.string c,.string d],u,.slice none 0 0] w fun e w'=>e=.returned (.int .i64 m)∧Below w.heap.size w w'):=fun u w hu =>
  sqchk_c ((vn,va) :: (rn,ra) :: oL P) [] a b c d u _ m w (by simp [oL_len];omega) (by simp) (by
   intro x hx;simp only [List.mem_cons] at hx;rcases hx with rfl | rfl | hx
   ·exact Nat.le_trans hva (by decide)
   ·exact Nat.le_trans hra (by decide)
   ·exact Nat.le_trans (oL_sz P hPs x hx) (by decide)) (by simp) ha hb hc hd hu (ss_nil w) hm
 have HPS:=Lib.hid hPs;have HRA:Hid ((intb rn ra).natAbs<256^12):=by rw [Hid,intb_abs];exact numb_lt hra
 clear ha hb hc hd hva hra hR hPs hm;obtain ⟨po,pc,rfl⟩:=RAt.form hO;obtain ⟨n,hn⟩:∃n,n=P.length:=⟨_,rfl⟩;have HN:=Lib.hid hn;rw [←hn] at hO hP ⊢;clear hn;have hB:=blk3a w #[Value.string a,Value.string b,Value.string c,Value.string d] #[.bool vn,.string va,.bool rn,.string ra] #[.bool vn,.string va,.bool rn,.string ra] 26 30 28;have hI:=blk3b w #[Value.string a,Value.string b,Value.string c,Value.string d] #[.bool vn,.string va,.bool rn,.string ra] #[.bool vn,.string va,.bool rn,.string ra] 26 30 28;have hJ:=blk3c w #[Value.string a,Value.string b,Value.string c,Value.string d] #[.bool vn,.string va,.bool rn,.string ra] #[.bool vn,.string va,.bool rn,.string ra] 26 30 28;have hBW:=b3 w (.cells #[Value.string a,Value.string b,Value.string c,Value.string d] 26) (.cells #[.bool vn,.string va,.bool rn,.string ra] 30) (.cells #[.bool vn,.string va,.bool rn,.string ra] 28);have hB0:=blk2a w #[Value.string a,Value.string b,Value.string c,Value.string d] #[.bool vn,.string va,.bool rn,.string ra] 26 30;have hI0:=blk2b w #[Value.string a,Value.string b,Value.string c,Value.string d] #[.bool vn,.string va,.bool rn,.string ra] 26 30;obtain ⟨hB0c0,hB0f0,hB0c1,hB0f1,hB0c2,hB0f2,hB0c3,hB0f3⟩:=hB0.x4;obtain ⟨hI0c0,hI0f0,hI0c1,hI0f1,hI0c2,hI0f2,hI0c3,hI0f3⟩:=hI0.x4;go_enter Tryz.func47,Tryz.ntmps47
 go_wp2;clear hB0c0 hB0f0 hB0c1 hB0f1 hB0c2 hB0f2 hB0c3 hB0f3;clear hI0c0 hI0f0 hI0c1 hI0f1 hI0c2 hI0f2 hI0c3 hI0f3;clear hB0 hI0;have hO1:=OsAt.after hO hBW;generalize ((w.alloc (.cells #[Value.string a,Value.string b,Value.string c,Value.string d] 26)).alloc (.cells #[Value.bool vn,.string va,.bool rn,.string ra] 30)).alloc (.cells #[Value.bool vn,.string va,.bool rn,.string ra] 28)=w1 at hB hI hJ hBW hO1 ⊢;replace hB:Blk w1 w.heap.size 26 [Value.string a,Value.string b,Value.string c,Value.string d]:=hB;obtain ⟨gB,hgB⟩:∃g,w.heap.size=g:=⟨_,rfl⟩;obtain ⟨gI,hgI⟩:∃g,w.heap.size+1=g:=⟨_,rfl⟩;obtain ⟨gJ,hgJ⟩:∃g,w.heap.size+2=g:=⟨_,rfl⟩;have HG:Hid (w.heap.size=gB∧w.heap.size+1=gI∧w.heap.size+2=gJ):=⟨hgB,hgI,hgJ⟩;rw [hgJ] at hJ ⊢;rw [hgI] at hI ⊢;replace hI:Blk w1 gI 30 [.bool vn,.string va,.bool rn,.string ra]:=hI;replace hJ:Blk w1 gJ 28 [.bool vn,.string va,.bool rn,.string ra]:=hJ;have hBS:w.heap.size≤gJ:=by omega
 have hOJ:w1.ownsRow w.heap.size 28 2 (.slice (some ⟨gJ,0,none⟩) 2 2) 2 (ics ((vn,va) :: (rn,ra) :: oL (P.take 0))):=own_blkB hJ rfl (by decide) hBS;clear hgB hgI hgJ;go_loopw [10,26] (fun v10 i wr=>∃k:Nat,k≤n∧i=.int .i64 k∧wr.ownsRow w.heap.size 28 2 v10 (2+2*k) (ics ((vn,va) :: (rn,ra) :: oL (P.take k)))∧Blk wr w.heap.size 26 [Value.string a,Value.string b,Value.string c,Value.string d]∧Blk wr gI 30 [.bool vn,.string va,.bool rn,.string ra]∧Below w.heap.size w wr) (fun _ i _=>n-(intOf i).toNat)
 case atStart=>exact ⟨0,by omega,rfl,hOJ,hB,hI,hBW⟩
 case round =>
  clear hB hI hJ hBW hO1 hOJ hBS;obtain ⟨k,hk,rfl,hR,hB,hI,hBW⟩:=hrel;obtain ⟨wp,hwp⟩:∃wp,wp=wr:=⟨_,rfl⟩;subst hwp;have hO1:=OsAt.after hO hBW;by_cases hlt:k<n
  ·have hkl:k<P.length:=by rw [←HN.out];exact hlt
   obtain ⟨bo,oo,rfl,hbo,x1,x2,x3,x4⟩:=OsAt.at_ hO1 hkl
   have HSN:Hid (ics ((vn,va) :: (rn,ra) :: oL (P.take (k+1)))=ics ((vn,va) :: (rn,ra) :: oL (P.take k))++[.bool P[k].vn,.string P[k].va,.bool P[k].rn,.string P[k].ra]):=by
    rw [Hid,oL_snoc P k hkl,←List.cons_append,←List.cons_append,ics_app2];rfl
   generalize (P[k]'hkl)=o at x1 x2 x3 x4 HSN;obtain ⟨o1,o2,o3,o4⟩:=o;simp only [] at x1 x2 x3 x4 HSN;have h0k:(0:Int)≤(k:Int):=by omega
   have h1k:(k:Int)<(n:Int):=by omega
   have hQ:=Blk.new wp #[.bool o1,.string o2,.bool o3,.string o4] 30;have hb9:=b1 wp (.cells #[.bool o1,.string o2,.bool o3,.string o4] 30);have hR9:=own_after hR hb9;have hB9:=hB.after hb9;have hI9:=hI.after hb9;have hBW9:=bt hBW hb9;have hsz:=hBW.size;clear hR hB hI hBW hO1;have hN:=blk2b wp #[.bool o1,.string o2,.bool o3,.string o4] #[.bool o1,.string o2,.bool o3,.string o4] 30 28;go_wp2_with (at_builtin;refine wpList_append_lies _ rfl (.tmp 30) (.tmp 35) _ rfl w.heap.size 28 i1 _ 2 24 Tryz.underlying44 HI1.out HA1.out HB1.out HC1.out rfl (by omega) u10 (2+2*k) (ics ((vn,va) :: (rn,ra) :: oL (P.take k))) rfl (own_after hR9 (b1 _ (.cells #[.bool o1,.string o2,.bool o3,.string o4] 28))) ⟨wp.heap.size+1,0,none⟩ 2 2 [.bool o1,.string o2,.bool o3,.string o4] rfl rfl hN.cells (by simp [Value.oneCell']) (by omega) (by simp only [maxLen];omega) (by omega) (by simp;omega) (wp.heap.size+2) (by simp) ?_;intro ga ca wa hown hgrow hat hlt2)
   rw [←HSN.out,show 2+2*k+2=2+2*(k+1) by omega] at hown;have hBA:=Blk.grown (hB9.alloc (.cells #[.bool o1,.string o2,.bool o3,.string o4] 28)) hgrow (own_ne hR9 hB9 (by decide));have hIA:=Blk.grown (hI9.alloc (.cells #[.bool o1,.string o2,.bool o3,.string o4] 28)) hgrow (own_ne hR9 hI9 (by decide));have hbA:=(ba hBW9 (.cells #[.bool o1,.string o2,.bool o3,.string o4] 28)).grown hgrow (by simp only [World.size_alloc];omega) (fun x hx=>(own_lt hR9 hx).2);clear hgrow hat hlt2 hR9 hB9 hI9 hBW9;go_wp2;go_roundw
   case rel=>exact ⟨k+1,by omega,by go_num,hown,hBA,hIA,hbA⟩
   case measure=>simp [intOf];omega
  ·obtain rfl:n=k:=by omega
   have HTK:Hid (P.take n=P):=List.take_of_length_le (by rw [←HN.out];exact Nat.le_refl _);rw [HTK.out] at hR;clear HTK hk hlt;have hIS:IsAt wp u10 ((vn,va) :: (rn,ra) :: oL P):=is_own _ (by simp [oL_len,←HN.out];omega) hR;have HC:=Lib.hid (HCK.out u10 wp hIS);clear HCK hIS;have hBl:=hB.lt;have hIl:=hI.lt;obtain ⟨hBc0,hBf0,hBc1,hBf1,hBc2,hBf2,hBc3,hBf3⟩:=hB.x4;go_wp2_with fail
   refine HC.out.mono ?_;rintro e w2 ⟨rfl,hb2⟩;clear hBc0 hBf0 hBc1 hBf1 hBc2 hBf2 hBc3 hBf3;clear HC;by_cases hm0:m=0
   ·subst hm0;have HA:=Lib.hid (HAL.out rfl);clear HAL HRB;by_cases hn4:n=4
    ·subst hn4;have HR2:=Lib.hid (HRG.out rfl HN.out.symm);clear HRM HRG;obtain ⟨z,hz,rfl,rfl⟩:=of_ivB HA.out.1;rw [intb_I] at HR2 HRA;have HPA:=Lib.hid HA.out.2;clear HA hz hBl hIl;have hB2:=hB.after hb2;have hI2:=hI.after hb2;have hR2:=own_after hR hb2;have hBW2:=bt hBW hb2;have HNE0:Hid (u10.ownBlock≠some w2.heap.size):=fun e=>by have:=(own_lt hR2 e).1;omega
     have hS:=Blk.new w2 #[.bool (sg z),.string (E z.natAbs)] 28;have hbS:=b1 w2 (.cells #[.bool (sg z),.string (E z.natAbs)] 28);have hR3:=own_after hR2 hbS;have hBW3:=bt hBW2 hbS;clear hB hI hR hBW hb2 hB2 hO1;have hIl:=hI2.lt;obtain ⟨hI2c0,hI2f0,hI2c1,hI2f1,hI2c2,hI2f2,hI2c3,hI2f3⟩:=hI2.x4;go_wp2;clear hI2c0 hI2f0 hI2c1 hI2f1 hI2c2 hI2f2 hI2c3 hI2f3;generalize w2.alloc (.cells #[.bool (sg z),.string (E z.natAbs)] 28)=w3 at hS hR3 hBW3 hbS ⊢;obtain ⟨gS,hgS⟩:∃g,w2.heap.size=g:=⟨_,rfl⟩;rw [hgS] at hS HNE0 ⊢;replace hS:Blk w3 gS 28 [.bool (sg (restL z (P.take 0))),.string (E (restL z (P.take 0)).natAbs)]:=hS;have HGS:Hid (w.heap.size≤gS):=by rw [Hid,←hgS];exact hBW2.size
     clear hgS hI2 hR2 hBW2 hbS hIl;go_loopw [51] (fun i wr=>∃k:Nat,k≤4∧i=.int .i64 k∧wr.ownsRow w.heap.size 28 2 u10 (2+2*4) (ics ((vn,va) :: (sg z,E z.natAbs) :: oL P))∧Blk wr gS 28 [.bool (sg (restL z (P.take k))),.string (E (restL z (P.take k)).natAbs)]∧Below w.heap.size w wr) (fun i _=>4-(intOf i).toNat)
     case atStart=>exact ⟨0,by omega,rfl,hR3,hS,hBW3⟩
     case round =>
      clear hS hR3 hBW3;obtain ⟨k,hk,rfl,hR,hS,hBW⟩:=hrel;obtain ⟨wp,hwp⟩:∃wp,wp=wr:=⟨_,rfl⟩;subst hwp;have hO1:=OsAt.after hO hBW
      have HRB:Hid ((restL z (P.take k)).natAbs≤256^12+k*256^24):=by
       have:=restL_lt z (P.take k) HRA.out (fun o ho=>HPS.out o (List.mem_of_mem_take ho));rwa [List.length_take,show min k P.length=k by rw [←HN.out];omega] at this
      by_cases hlt:k<4
      ·have hkl:k<P.length:=by rw [←HN.out];exact hlt
       obtain ⟨bo,oo,rfl,hbo,x1,x2,x3,x4⟩:=OsAt.at_ hO1 hkl;have HV:=Lib.hid (oL_at P HPA.out k hkl);have HSZ:=Lib.hid (HPS.out _ (List.getElem_mem hkl));have HST:=Lib.hid (restL_snoc z P k hkl);generalize (P[k]'hkl)=o at x1 x2 x3 x4 HV HSZ HST;obtain ⟨o1,o2,o3,o4⟩:=o;simp only [] at x1 x2 x3 x4 HV HSZ HST;obtain ⟨x,hx,rfl,rfl⟩:=of_ivB HV.out.1;obtain ⟨y,hy,rfl,rfl⟩:=of_ivB HV.out.2;rw [intb_I,intb_I] at HST;have HXB:=Lib.hid (lt_of_size HSZ.out.1);have HYB:=Lib.hid (lt_of_size HSZ.out.2);clear HV HSZ hx hy
       have HPB:Hid ((x*y).natAbs<256^24):=by
        rw [Hid,Int.natAbs_mul];have:=Nat.mul_lt_mul'' HXB.out HYB.out;rwa [←Nat.pow_add] at this
       have HMU:Hid (∀w:World,Calls Tryz.prog 110 #[.agg #[.bool (sg (x)),.string (E (x).natAbs)],.agg #[.bool (sg (y)),.string (E (y).natAbs)]] w fun e w'=>e=.returned (.tuple #[.agg #[.bool (sg (x*y)),.string (E (x*y).natAbs)],.int .i64 0])∧Below w.heap.size w w'):=fun w =>
        imul_c x y w (Nat.lt_of_lt_of_le HXB.out (Nat.pow_le_pow_right (by decide) (by decide))) (Nat.lt_of_lt_of_le HYB.out (Nat.pow_le_pow_right (by decide) (by decide))) (by rw [←Int.natAbs_mul];exact Nat.lt_of_lt_of_le HPB.out (Nat.pow_le_pow_right (by decide) (by decide)))
       obtain ⟨pz,hpz⟩:∃p,p=x*y:=⟨_,rfl⟩;rw [←hpz] at HMU HPB HST;clear hpz;generalize restL z (P.take k)=r at hS HRB HST
       have HSU:Hid (∀w:World,Calls Tryz.prog 105 #[.agg #[.bool (sg (r)),.string (E (r).natAbs)],.agg #[.bool (sg (pz)),.string (E (pz).natAbs)]] w fun e w'=>e=.returned (.tuple #[.agg #[.bool (sg (r-pz)),.string (E (r-pz).natAbs)],.int .i64 0])∧Below w.heap.size w w'):=fun w=>by
        have h1:=HRB.out;have h2:=HPB.out;have h3:(256:Nat)^12+4*256^24+256^24<256^128:=by decide
        have h4:k*256^24≤4*256^24:=Nat.mul_le_mul_right _ hk;exact isub_c (x:=r) (y:=pz) (w:=w) (by omega) (by omega) (by omega)
       have h0k:(0:Int)≤(k:Int):=by omega
       have h1k:(k:Int)<4:=by omega
       have hQ:=Blk.new wp #[.bool (sg x),.string (E x.natAbs),.bool (sg y),.string (E y.natAbs)] 30;have hb9:=b1 wp (.cells #[.bool (sg x),.string (E x.natAbs),.bool (sg y),.string (E y.natAbs)] 30);obtain ⟨hQc0,hQf0,hQc1,hQf1,hQc2,hQf2,hQc3,hQf3⟩:=hQ.x4;go_wp2_with fail
       refine (HMU.out _).mono ?_;rintro e w4 ⟨rfl,hb4⟩;clear hQc0 hQf0 hQc1 hQf1 hQc2 hQf2 hQc3 hQf3;have hb94:=bt hb9 hb4;have hX:=Blk.new w4 #[.bool (sg pz),.string (E pz.natAbs)] 28;have hbX:=b1 w4 (.cells #[.bool (sg pz),.string (E pz.natAbs)] 28);have hS4:=(hS.after hb94).after hbX;have hR4:=own_after (own_after hR hb94) hbX;have hBW4:=bt (bt hBW hb94) hbX;have hSl:=hS.lt;clear hS hR hBW hb9 hb4 hb94 hbX hO1 hQ x1 x2 x3 x4;obtain ⟨hXc0,hXf0,hXc1,hXf1⟩:=hX.x2;obtain ⟨hS4c0,hS4f0,hS4c1,hS4f1⟩:=hS4.x2;go_wp2_with fail
       refine (HSU.out _).mono ?_;rintro e w5 ⟨rfl,hb5⟩;clear hXc0 hXf0 hXc1 hXf1;clear hS4c0 hS4f0 hS4c1 hS4f1;have hS5:=hS4.after hb5;have hR5:=own_after hR4 hb5;have hBW5:=bt hBW4 hb5;have HNE:u10.ownBlock≠some gS:=HNE0.out;have hSl5:=hS5.lt;clear hb5 hS4 hR4 hBW4 hX;obtain ⟨hS5c0,hS5f0,hS5c1,hS5f1⟩:=hS5.x2;go_wp2;go_roundw
       case rel=>exact ⟨k+1,by omega,by go_num,own_set (own_set hR5 HNE) HNE,by rw [HST.out];exact (hS5.set 0 _).set 1 _,(hBW5.setCell HGS.out _).setCell HGS.out _⟩
       case measure=>simp [intOf];omega
      ·obtain rfl:4=k:=by omega
       have HTK:Hid (P.take 4=P):=List.take_of_length_le (by rw [←HN.out];exact Nat.le_refl _);rw [HTK.out] at hS HRB;obtain ⟨g,cap,rfl,hbg,hgl⟩:=hR.form (by omega);have hcap:=(own_cap hR).2;have hc2:¬ cap=2:=by omega
       clear hlt hk hO1 HTK;generalize restL z P=r at hS HRB HR2;have hSl:=hS.lt;obtain ⟨hSc0,hSf0,hSc1,hSf1⟩:=hS.x2;have hJ:=Blk.new wp #[.bool (sg r),.string (E r.natAbs)] 28;have hbJ:=b1 wp (.cells #[.bool (sg r),.string (E r.natAbs)] 28);have hRJ:=own_after hR hbJ;have hBWJ:=bt hBW hbJ;go_wp2_with fail
       go_region_law (go_loud (refine step_append_run (by rfl) (.tmp 75) (.tmp 77) _ (by rfl) (.slice (some ⟨g,4,none⟩) 8 (cap-2)) (.slice (some ⟨wp.heap.size,0,none⟩) 1 1) (by rfl) (by rfl) ?_;obtain ⟨g',o',cap',wq,hrun,hcs,hbq,hbg',hgl'⟩:=run_append_part (P:=Tryz.prog) (wp.drew.alloc (.cells #[.bool (sg r),.string (E r.natAbs)] 28)) _ _ w.heap.size 28 i1 _ 2 24 Tryz.underlying44 HI1.out HA1.out HB1.out HC1.out rfl (by omega) g (2+2*4) cap 2 _ hRJ (by omega) ⟨wp.heap.size,0,none⟩ 1 1 [.bool (sg r),.string (E r.natAbs)] rfl hJ.cells (by simp [Value.oneCell']) (by omega) (by simp only [maxLen];omega) (by omega) (by have:=hBWJ.size;exact this);refine ⟨_,_,hrun,?_⟩))
       go_wp2;go_ret2
       rw [HR2.out];refine ⟨_,rfl,?_,(ba hBW.drew (.cells #[.bool (sg r),.string (E r.natAbs)] 28)).trans hbq⟩;refine rat_cells (fun x=>[Value.bool x.1,.string x.2]) (fun _=>rfl) (fun _=>rfl) ((oZ P++[r]).map zI) g' o' cap' 9 (by simp [oZ_len,←HN.out]) hgl' fun j u hj=>hcs j u ?_
       rw [←hj,List.map_append,←oL_zI P HPA.out];show _=(ics (oL P++[zI r]))[j]?;rw [ics_app2];rfl
    ·have HR2:=Lib.hid (HRM.out rfl (by rw [←HN.out];exact hn4));have hnz:((n:Int) != 4)=true:=by rw [bne_iff_ne];omega
     go_wp2;go_ret2
     rw [HR2.out];exact ⟨_,rfl,zs_nil _,bt hBW hb2⟩
   ·have hmb:((m:Int) != 0)=true:=by rw [bne_iff_ne];omega
    have HR2:=Lib.hid (HRB.out hm0);clear hm0;go_wp2;go_ret2
    rw [HR2.out];exact ⟨_,rfl,zs_nil _,bt hBW hb2⟩
end
end Go.Proofs.YteahlbhjhjhljaaGreatDoor
