/- squarerange.Witness. -/
import Derived.Test.YtdgddpnjkinciaaGreatDoorCo2
import Derived.Test.YtdgddpnjkinciaaGreatDoorSf27
set_option linter.all false
set_option maxRecDepth 100000
set_option maxHeartbeats 16000000
namespace Go.Proofs.YtdgddpnjkinciaaGreatDoor
section
/- Keys of bytes: pedersen.Check,dominoref14.Check,squarerange.checked,dominoref27.formed,key. -/
open Go.RowKit Go.Shelf
def intb (n:Bool) (s:ByteArray):Int:=if n then -(numb s:Int) else (numb s:Int)
theorem intb_I (z:Int):intb (sg z) (E z.natAbs)=z:=by
 unfold intb sg;rw[numb_E];by_cases h:z<0
 ·rw[Dt h,if_pos rfl];omega
 ·rw[decide_eq_false h,if_neg (by decide)];omega
theorem empty_E {n:Nat}:(E n).size=0↔n=0:=by
 constructor
 ·intro h;apply Classical.byContradiction;intro h0;have:=(E_size_pos n).2 (by omega);omega
 ·rintro rfl;rfl
def pedV (a b c d:ByteArray):Nat:=if vl4 a b c d=true then pedE (numb a) (numb b) (numb c) (numb d) else 3
def kyV (a b c d:ByteArray):Nat:=if pedV a b c d=0 then (if b.size=0 then 0 else 1) else pedV a b c d
def iv2 (x:Bool × ByteArray):Bool:=ivB x.1 x.2
def chkV (L:List (Bool × ByteArray)) (M:List ByteArray) (a b c d:ByteArray):Nat:=if L.all iv2=true∧M.all vldB=true then kyV a b c d else 3
theorem vl4_of {a b c d:ByteArray} (h:vl4 a b c d=true):∃p q g k,(p<256^128∧q<256^128∧g<256^128∧k<256^128)∧a=E p∧b=E q∧c=E g∧d=E k:=by
 unfold vl4 at h;simp only[Bool.and_eq_true]at h;obtain⟨p,h1,e1⟩:=of_vldB h.1.1.1;obtain⟨q,h2,e2⟩:=of_vldB h.1.1.2;obtain⟨g,h3,e3⟩:=of_vldB h.1.2;obtain⟨k,h4,e4⟩:=of_vldB h.2;exact⟨p,q,g,k,⟨h1,h2,h3,h4⟩,e1,e2,e3,e4⟩
theorem pedV_E {p q g h:Nat} (hp:p<256^128) (hq:q<256^128) (hg:g<256^128) (hh:h<256^128):pedV (E p) (E q) (E g) (E h)=pedE p q g h:=by
 unfold pedV;rw[if_pos (vl4_E hp hq hg hh),numb_E,numb_E,numb_E,numb_E]
theorem kyV_zero {a b c d:ByteArray} (h:kyV a b c d=0) (ha:a.size≤8):∃p g k,(p<256^8∧g<256^128∧k<256^128)∧a=E p∧b=E 0∧c=E g∧d=E k∧pedE p 0 g k=0:=by
 unfold kyV at h;split at h
 ·rename_i h1;split at h
  ·rename_i h2;by_cases hv:vl4 a b c d=true
   ·obtain⟨p,q,g,k,⟨l1,l2,l3,l4⟩,rfl,rfl,rfl,rfl⟩:=vl4_of hv;rw[pedV_E l1 l2 l3 l4]at h1;obtain rfl:=empty_E.1 h2;exact⟨p,g,k,⟨lt_of_size ha,l3,l4⟩,rfl,rfl,rfl,rfl,h1⟩
   ·unfold pedV at h1;rw[if_neg hv]at h1;omega
  ·omega
 ·omega
theorem pedA_c (a b c d:ByteArray) (k:Nat) (w:World) (ha:a.size≤8) (hb:b.size≤100) (hc:c.size≤100) (hd:d.size≤100) (hk:pedV a b c d=k) :
  Calls Tryz.prog 92 #[.agg #[.string a,.string b,.string c,.string d]] w fun e w'=>e=.returned (.int .i64 k)∧Bw w w':=by
 by_cases hv:vl4 a b c d=true
 ·obtain⟨p,q,g,h,⟨l1,l2,l3,l4⟩,rfl,rfl,rfl,rfl⟩:=vl4_of hv;rw[pedV_E l1 l2 l3 l4]at hk;exact pedcheckV_c p q g h k w (lt_of_size ha) l2 l3 l4 hk
 ·unfold pedV at hk;rw[if_neg hv]at hk;subst hk;exact pedcheck_bad a b c d w (by omega) (by omega) (by omega) (by omega) (Bool.eq_false_iff.2 hv)
theorem z_str {s:ByteArray} (h:s.size=0):s.toList.isEmpty=true:=by
 rw[ByteArray.toList_eq];cases e:s.data.toList with
 | nil=>rfl
 | cons x t =>
  have h2:s.data.toList.length=s.size:=by simp
  rw[e,h]at h2;simp at h2
theorem sqchk_c (L:List (Bool × ByteArray)) (M:List ByteArray) (a b c d:ByteArray) (u v:Value) (k:Nat) (w:World) (hL:L.length≤1000) (hM:M.length≤1000) (hW:∀x∈L,x.2.size≤1000) (hX:∀x∈M,x.size≤1000)
  (ha:a.size≤8) (hb:b.size≤100) (hc:c.size≤100) (hd:d.size≤100) (hU:IsAt w u L) (hV:SsAt w v M) (hk:chkV L M a b c d=k) :
  Calls Tryz.prog 47 #[.agg #[.string a,.string b,.string c,.string d],u,v] w fun e w'=>e=.returned (.int .i64 k)∧Bw w w':=by
 obtain⟨m,hm⟩:∃m,pedV a b c d=m:=⟨_,rfl⟩;have HC:Hid (∀w,Calls Tryz.prog 92 #[.agg #[.string a,.string b,.string c,.string d]] w fun e w'=>e=.returned (.int .i64 m)∧Bw w w'):=fun w=>pedA_c a b c d m w ha hb hc hd hm
 have hY:Hid (L.all iv2=false→k=3):=fun h=>by rw[←hk,chkV,if_neg (by rw[h];simp)]
 have hZ:Hid (M.all vldB=false→k=3):=fun h=>by rw[←hk,chkV,if_neg (by rw[h];simp)]
 have HK:Hid (L.all iv2=true→M.all vldB=true→k=if m=0 then (if b.size=0 then 0 else 1) else m):=fun h1 h2=>by rw[←hk,chkV,if_pos ⟨h1,h2⟩,kyV,hm]
 obtain⟨hB,he⟩:=blk1 w #[Value.string a,Value.string b,Value.string c,Value.string d] 26;replace hU:=IsAt.after hU he;replace hV:=SsAt.after hV he;obtain⟨ao,ac,rfl⟩:=RAt.form hU;obtain⟨bo,bc,rfl⟩:=RAt.form hV;obtain⟨n,hn⟩:∃n,n=L.length:=⟨_,rfl⟩;obtain⟨n2,hC⟩:∃n,n=M.length:=⟨_,rfl⟩;have HN:=Kh hn;have h0:=Kh hC;have h8:=Kh hW;have h9:=Kh hX;rw[←hn]at hU hL ⊢;rw[←hC]at hV hM ⊢;clear ha hb hc hd hk hm hn hC hW hX;obtain⟨hD,hE,hF,hG,hH,hI,hJ,hK⟩:=hB.x4;go_enter Tryz.func47,Tryz.ntmps47
 go_wp2;clear hD hE hF hG hH hI hJ hK;generalize w.alloc (.cells #[Value.string a,Value.string b,Value.string c,Value.string d] 26)=w1 at hB he hU hV;replace hB:Blk w1 w.heap.size 26 [Value.string a,Value.string b,Value.string c,Value.string d]:=hB;go_loopw [14] (fun i wr=>∃k:Nat,k≤n∧i=.int .i64 k∧Hid ((L.take k).all iv2=true)∧Bw w1 wr) (fun i _=>n-(intOf i).toNat)
 case atStart=>exact⟨0,by omega,rfl,rfl,Br⟩
 case round =>
  obtain⟨j,hj,rfl,HJ,hf⟩:=hrel;obtain⟨wp,Ha⟩:∃wp,wp=wr:=⟨_,rfl⟩;subst Ha;by_cases hlt:j<n
  ·have hg:j<L.length:=by rw[←HN.out];exact hlt
   obtain⟨bz,oz,rfl,Hb,z1,z2⟩:=IsAt.at_ (IsAt.after hU hf) hg;have hw:=Kh (h8.out _ (Gm hg));have HT:=Kh (all_take iv2 L j hg);have hx:Hid (iv2 L[j]=false→k=3):=fun h=>hY.out (all_bad iv2 L j hg h)
   have hh:Hid (∀w,Calls Tryz.prog 75 #[.agg #[.bool L[j].1,.string L[j].2]] w fun e w'=>e=.returned (.bool (iv2 L[j]))∧Bw w w'):=fun w=>ivalX_c _ _ _ w hw.out rfl
   generalize iv2 (L[j]'hg)=q at HT hx hh;generalize (L[j]'hg)=x at z1 z2 hw hh;obtain⟨x1,x2⟩:=x;simp only[]at z1 z2 hh;have Hc:(0:Int)≤(j:Int):=by omega
   have Hd:(j:Int)<(n:Int):=by omega
   obtain⟨hP,hb9⟩:=blk1 wp #[.bool x1,.string x2] 28;obtain⟨hN,hO,hQ,hR⟩:=hP.x2;go_wp2_with fail
   refine (hh.out _).mono ?_;rintro e w3 ⟨rfl,He⟩;clear hN hO hQ hR;have h3:=bt hf (bt hb9 He);cases q
   ·have HF:=Kh (hx.out rfl);go_wp2;go_ret
    exact⟨ri (by rw[HF.out];rfl),bt he h3⟩
   ·have HX:Hid ((L.take (j+1)).all iv2=true):=by rw[Hid,HT.out,HJ.out];rfl
    go_wp2;go_roundw
    case rel=>exact⟨j+1,by omega,by go_num,HX,h3⟩
    case measure=>simp[intOf];omega
  ·have h4:Hid (L.all iv2=true):=by
    have:=HJ.out;rwa [List.take_of_length_le (by rw[←HN.out];omega)]at this
   obtain rfl:n=j:=by omega
   clear HJ hY;have hv:=hB.after hf;have h5:=SsAt.after hV hf;replace he:=bt he hf;clear hf hU hV hB;go_wp2;go_loopw [24] (fun i wr=>∃k:Nat,k≤n2∧i=.int .i64 k∧Hid ((M.take k).all vldB=true)∧Bw wp wr) (fun i _=>n2-(intOf i).toNat)
   case atStart=>exact⟨0,by omega,rfl,rfl,Br⟩
   case round =>
    obtain⟨j,hj,rfl,HJ,hf⟩:=hrel;obtain⟨wq,Hf⟩:∃wp,wp=wr:=⟨_,rfl⟩;subst Hf;by_cases hlt:j<n2
    ·have hg:j<M.length:=by rw[←h0.out];exact hlt
     obtain⟨bz,oz,rfl,Hb,z1⟩:=SsAt.at_ (SsAt.after h5 hf) hg;have hw:=Kh (h9.out _ (Gm hg));have HT:=Kh (all_take vldB M j hg);have hx:Hid (vldB M[j]=false→k=3):=fun h=>hZ.out (all_bad vldB M j hg h)
     have hh:Hid (∀w,Calls Tryz.prog 32 #[.string M[j]] w fun e w'=>e=.returned (.bool (vldB M[j]))∧w'=w):=fun w=>valB_c _ _ w hw.out rfl
     generalize vldB (M[j]'hg)=q at HT hx hh;generalize (M[j]'hg)=x at z1 hw hh;have Hc:(0:Int)≤(j:Int):=by omega
     have Hd:(j:Int)<(n2:Int):=by omega
     go_wp2_with fail
     refine (hh.out _).mono ?_;rintro e w3 ⟨rfl,rfl⟩;cases q
     ·have HF:=Kh (hx.out rfl);go_wp2;go_ret
      exact⟨ri (by rw[HF.out];rfl),bt he hf⟩
     ·have HX:Hid ((M.take (j+1)).all vldB=true):=by rw[Hid,HT.out,HJ.out];rfl
      go_wp2;go_roundw
      case rel=>exact⟨j+1,by omega,by go_num,HX,hf⟩
      case measure=>simp[intOf];omega
    ·have h6:Hid (M.all vldB=true):=by
      have:=HJ.out;rwa [List.take_of_length_le (by rw[←h0.out];omega)]at this
     obtain rfl:n2=j:=by omega
     clear HJ hZ;have hS:=Kh (HK.out h4.out h6.out);replace hv:=hv.after hf;replace he:=bt he hf;clear hf h5 h4 h6 HK;obtain⟨hi,hl,ho,hp,hq,hr,ht,hu⟩:=hv.x4;go_wp2_with fail
     refine (HC.out _).mono ?_;rintro e w5 ⟨rfl,h7⟩;clear hi hl ho hp hq hr ht hu;replace hv:=hv.after h7;replace he:=bt he h7;obtain⟨hi,hl,ho,hp,hq,hr,ht,hu⟩:=hv.x4;by_cases hT:m=0
     ·subst hT;by_cases hy:b.size=0
      ·have hz:=z_str hy;have hA:Hid (k=0):=by rw[Hid,hS.out,if_pos rfl,if_pos hy]
       clear hy;go_wp2;go_ret
       exact⟨ri (by rw[hA.out];rfl),he⟩
      ·have hz:=nz_str (s:=b) (by omega);have hA:Hid (k=1):=by rw[Hid,hS.out,if_pos rfl,if_neg hy]
       clear hy;go_wp2;go_ret
       exact⟨ri (by rw[hA.out];rfl),he⟩
     ·have Hg:((m:Int) != 0)=true:=by rw[bne_iff_ne];omega
      have hA:Hid (k=m):=by rw[Hid,hS.out,if_neg hT]
      clear hT;go_wp2;go_ret
      exact⟨ri (by rw[hA.out]),he⟩
end
section
open Go.RowKit Go.Shelf
def oL (P:List Opn):List (Bool × ByteArray):=P.flatMap fun o=>[(o.vn,o.va),(o.rn,o.ra)]
def oZ (P:List Opn):List Int:=P.flatMap fun o=>[intb o.vn o.va,intb o.rn o.ra]
def restL (r:Int) (P:List Opn):Int:=P.foldl (fun s o=>s-intb o.vn o.va*intb o.rn o.ra) r
def witR (a b c d:ByteArray) (vn:Bool) (va:ByteArray) (rn:Bool) (ra:ByteArray) (P:List Opn):Nat × List Int:=
 if chkV ((vn,va) :: (rn,ra) :: oL P) [] a b c d≠0 then (chkV ((vn,va) :: (rn,ra) :: oL P) [] a b c d,[]) else if P.length≠4 then (6,[]) else (0,oZ P++[restL (intb rn ra) P])
def WtPost (w:World) (r:Nat × List Int) (e:Ending) (w':World):Prop:=∃v,e=.returned (.tuple #[v,.int .i64 (r.1:Int)])∧ZsAt w' v r.2∧Bw w w'
theorem zs_nil (w:World):ZsAt w (.slice none 0 0) []:=⟨none,0,rfl,.inl rfl⟩
theorem take_snoc {α:Type} (L:List α) (k:Nat) (h:k<L.length):L.take (k+1)=L.take k++[L[k]]:=List.take_succ_eq_append_getElem h
theorem oL_snoc (P:List Opn) (k:Nat) (h:k<P.length):oL (P.take (k+1))=oL (P.take k)++[(P[k].vn,P[k].va),(P[k].rn,P[k].ra)]:=by
 unfold oL;rw[take_snoc P k h,List.flatMap_append];simp
theorem oL_len (P:List Opn):(oL P).length=P.length*2:=by
 unfold oL;induction P with
 | nil=>rfl
 | cons x t ih=>rw[List.flatMap_cons,List.length_append,ih,List.length_cons];simp;omega
theorem restL_snoc (r:Int) (P:List Opn) (k:Nat) (h:k<P.length):restL r (P.take (k+1))=restL r (P.take k)-intb P[k].vn P[k].va*intb P[k].rn P[k].ra:=by
 unfold restL;rw[take_snoc P k h,List.foldl_append];rfl
theorem ics_app2 (A B:List (Bool × ByteArray)):ics (A++B)=ics A++ics B:=by unfold ics;rw[List.flatMap_append]
theorem numb_lt {s:ByteArray} {k:Nat} (h:s.size≤k):numb s<256^k:=by
 unfold numb;have h1:=val_lt s.data.toList;have h2:s.data.toList.length=s.size:=by simp
 rw[h2]at h1;exact Nl h1 (Nat.pow_le_pow_right (by decide) h)
theorem intb_abs (n:Bool) (s:ByteArray):(intb n s).natAbs=numb s:=by
 unfold intb;cases n <;> simp
theorem restL_lt (r:Int) (P:List Opn) (hr:r.natAbs<256^12) (hP:∀o∈P,o.va.size≤12∧o.ra.size≤12):(restL r P).natAbs≤256^12+P.length*256^24:=by
 suffices h:∀(P:List Opn) (r:Int) (B:Nat),r.natAbs≤B→(∀o∈P,o.va.size≤12∧o.ra.size≤12)→(restL r P).natAbs≤B+P.length*256^24 from h P r _ (Nat.le_of_lt hr) hP
 intro P;induction P with
 | nil=>intro r B h _;simpa [restL] using h
 | cons x t ih =>
  intro r B h hx;have h1:=hx x (List.mem_cons_self ..);have e1:=numb_lt h1.1;have e2:=numb_lt h1.2
  have e3:(intb x.vn x.va*intb x.rn x.ra).natAbs≤256^24:=by
   rw[Int.natAbs_mul,intb_abs,intb_abs];have:=Nat.mul_le_mul (Nat.le_of_lt e1) (Nat.le_of_lt e2);rwa [←Nat.pow_add]at this
  have h2:=ih (r-intb x.vn x.va*intb x.rn x.ra) (B+256^24) (by omega) (fun o ho=>hx o (List.mem_cons_of_mem _ ho));show (restL (r-intb x.vn x.va*intb x.rn x.ra) t).natAbs≤_;rw[List.length_cons,Nat.add_mul];omega
theorem oL_zI (P:List Opn) (h:(oL P).all iv2=true):oL P=(oZ P).map zI:=by
 induction P with
 | nil=>rfl
 | cons x t ih =>
  have h':(ivB x.vn x.va=true∧ivB x.rn x.ra=true)∧(oL t).all iv2=true:=by
   have:((oL (x :: t)).all iv2)=((ivB x.vn x.va&&ivB x.rn x.ra)&&(oL t).all iv2):=by
    unfold oL;rw[List.flatMap_cons,List.all_append];simp[iv2]
   rw[this,Bool.and_eq_true,Bool.and_eq_true]at h;exact h
  obtain⟨z1,_,e1,e2⟩:=of_ivB h'.1.1;obtain⟨z2,_,e3,e4⟩:=of_ivB h'.1.2;have e5:=ih h'.2;unfold oL oZ at e5 ⊢;rw[List.flatMap_cons,List.flatMap_cons,List.map_append,e5,e1,e2,e3,e4,intb_I,intb_I];rfl
theorem oZ_len (P:List Opn):(oZ P).length=P.length*2:=by
 unfold oZ;induction P with
 | nil=>rfl
 | cons x t ih=>rw[List.flatMap_cons,List.length_append,ih,List.length_cons];simp;omega
theorem oL_sz (P:List Opn) (hP:∀o∈P,o.va.size≤12∧o.ra.size≤12):∀x∈oL P,x.2.size≤12:=by
 intro x hx;unfold oL at hx;obtain⟨o,ho,h⟩:=List.mem_flatMap.1 hx;have:=hP o ho;simp only[List.mem_cons,List.not_mem_nil,or_false]at h;rcases h with rfl | rfl
 ·exact this.1
 ·exact this.2
theorem oL_at (P:List Opn) (h:(oL P).all iv2=true) (k:Nat) (hk:k<P.length):ivB P[k].vn P[k].va=true∧ivB P[k].rn P[k].ra=true:=by
 rw[List.all_eq_true]at h;have hm:∀y∈[(P[k].vn,P[k].va),(P[k].rn,P[k].ra)],y∈oL P:=fun y hy=>List.mem_flatMap.2 ⟨P[k],Gm hk,hy⟩
 exact⟨h (P[k].vn,P[k].va) (hm _ (by simp)),h (P[k].rn,P[k].ra) (hm _ (by simp))⟩
theorem sqwit_c (a b c d:ByteArray) (lo:Int) (vn:Bool) (va:ByteArray) (rn:Bool) (ra:ByteArray) (P:List Opn) (v:Value) (w:World)
  (ha:a.size≤8) (hb:b.size≤100) (hc:c.size≤100) (hd:d.size≤100) (jd:va.size≤12) (Hs:ra.size≤12) (hP:P.length≤6) (Ht:∀o∈P,o.va.size≤12∧o.ra.size≤12) (hO:OsAt w v P) :
  Calls Tryz.prog 20 #[.agg #[.string a,.string b,.string c,.string d],.int .i64 lo,.agg #[.bool vn,.string va,.bool rn,.string ra],v] w (WtPost w (witR a b c d vn va rn ra P)):=by
 obtain⟨i1,je,hw,hA,hC⟩:=info_parts info_Int;have jf:=Kh je;have jg:=Kh hw;have jh:=Kh hA;have ji:=Kh hC;clear je hw hA hC;obtain⟨m,hm⟩:∃m,chkV ((vn,va) :: (rn,ra) :: oL P) [] a b c d=m:=⟨_,rfl⟩;obtain⟨R,hR⟩:∃R,R=witR a b c d vn va rn ra P:=⟨_,rfl⟩;rw[←hR];have hl:Hid (m≠0→R=(m,[])):=fun h=>by rw[hR,witR,hm,if_pos h]
 have jj:Hid (m=0→P.length≠4→R=(6,[])):=fun h h2=>by rw[hR,witR,hm,if_neg (by omega),if_pos h2]
 have jk:Hid (m=0→P.length=4→R=(0,oZ P++[restL (intb rn ra) P])):=fun h h2=>by rw[hR,witR,hm,if_neg (by omega),if_neg (by omega)]
 have jl:Hid (m=0→ivB rn ra=true∧(oL P).all iv2=true):=fun h=>by
  rw[h]at hm;unfold chkV at hm;split at hm
  ·rename_i h1;have:=h1.1;simp only[List.all_cons,Bool.and_eq_true]at this;exact⟨this.2.1,this.2.2⟩
  ·omega
 have jm:Hid (∀(u:Value) (w:World),IsAt w u ((vn,va) :: (rn,ra) :: oL P)→Calls Tryz.prog 47 #[.agg #[.string a,.string b,.string c,.string d],u,.slice none 0 0] w fun e w'=>e=.returned (.int .i64 m)∧Bw w w'):=fun u w hu =>
  sqchk_c ((vn,va) :: (rn,ra) :: oL P) [] a b c d u _ m w (by simp[oL_len];omega) (by simp) (by
   intro x hx;simp only[List.mem_cons]at hx;rcases hx with rfl | rfl | hx
   ·exact Nat.le_trans jd (by decide)
   ·exact Nat.le_trans Hs (by decide)
   ·exact Nat.le_trans (oL_sz P Ht x hx) (by decide)) (by simp) ha hb hc hd hu (ss_nil w) hm
 have jn:=Kh Ht;have jo:Hid ((intb rn ra).natAbs<256^12):=by rw[Hid,intb_abs];exact numb_lt Hs
 clear ha hb hc hd jd Hs hR Ht hm;obtain⟨po,pc,rfl⟩:=RAt.form hO;obtain⟨n,hn⟩:∃n,n=P.length:=⟨_,rfl⟩;have HN:=Kh hn;rw[←hn]at hO hP ⊢;clear hn;obtain⟨hB,hI,hJ,he⟩:=blk3 w #[Value.string a,Value.string b,Value.string c,Value.string d] #[.bool vn,.string va,.bool rn,.string ra] #[.bool vn,.string va,.bool rn,.string ra] 26 30 28;have jp:=blk2a w #[Value.string a,Value.string b,Value.string c,Value.string d] #[.bool vn,.string va,.bool rn,.string ra] 26 30;have jq:=blk2b w #[Value.string a,Value.string b,Value.string c,Value.string d] #[.bool vn,.string va,.bool rn,.string ra] 26 30;obtain⟨hD,hE,hF,hG,hH,hK,hL,hM⟩:=jp.x4;obtain⟨hT,hU,hV,hW,hY,hZ,h0,h5⟩:=jq.x4;go_enter Tryz.func20,Tryz.ntmps20
 go_wp2;clear hD hE hF hG hH hK hL hM;clear hT hU hV hW hY hZ h0 h5;clear jp jq;have hg:=OsAt.after hO he;generalize ((w.alloc (.cells #[Value.string a,Value.string b,Value.string c,Value.string d] 26)).alloc (.cells #[Value.bool vn,.string va,.bool rn,.string ra] 30)).alloc (.cells #[Value.bool vn,.string va,.bool rn,.string ra] 28)=w1 at hB hI hJ he hg ⊢;replace hB:Blk w1 w.heap.size 26 [Value.string a,Value.string b,Value.string c,Value.string d]:=hB;obtain⟨gB,jr⟩:∃g,w.heap.size=g:=⟨_,rfl⟩;obtain⟨gI,Hu⟩:∃g,w.heap.size+1=g:=⟨_,rfl⟩;obtain⟨gJ,Hv⟩:∃g,w.heap.size+2=g:=⟨_,rfl⟩;have HG:Hid (w.heap.size=gB∧w.heap.size+1=gI∧w.heap.size+2=gJ):=⟨jr,Hu,Hv⟩;rw[Hv]at hJ ⊢;rw[Hu]at hI ⊢;replace hI:Blk w1 gI 30 [.bool vn,.string va,.bool rn,.string ra]:=hI;replace hJ:Blk w1 gJ 28 [.bool vn,.string va,.bool rn,.string ra]:=hJ;have js:w.heap.size≤gJ:=by omega
 have jt:w1.ownsRow w.heap.size 28 2 (.slice (some ⟨gJ,0,none⟩) 2 2) 2 (ics ((vn,va) :: (rn,ra) :: oL (P.take 0))):=own_blkB hJ rfl (by decide) js;clear jr Hu Hv;go_loopw [10,26] (fun v10 i wr=>∃k:Nat,k≤n∧i=.int .i64 k∧wr.ownsRow w.heap.size 28 2 v10 (2+2*k) (ics ((vn,va) :: (rn,ra) :: oL (P.take k)))∧Blk wr w.heap.size 26 [Value.string a,Value.string b,Value.string c,Value.string d]∧Blk wr gI 30 [.bool vn,.string va,.bool rn,.string ra]∧Bw w wr) (fun _ i _=>n-(intOf i).toNat)
 case atStart=>exact⟨0,by omega,rfl,jt,hB,hI,he⟩
 case round =>
  clear hB hI hJ he hg jt js;obtain⟨k,hk,rfl,hR,hB,hI,he⟩:=hrel;obtain⟨wp,Hw⟩:∃wp,wp=wr:=⟨_,rfl⟩;subst Hw;have hg:=OsAt.after hO he;by_cases hlt:k<n
  ·have hh:k<P.length:=by rw[←HN.out];exact hlt
   obtain⟨bo,oo,rfl,jJ,x1,x2,x3,x4⟩:=OsAt.at_ hg hh
   have Hx:Hid (ics ((vn,va) :: (rn,ra) :: oL (P.take (k+1)))=ics ((vn,va) :: (rn,ra) :: oL (P.take k))++[.bool P[k].vn,.string P[k].va,.bool P[k].rn,.string P[k].ra]):=by
    rw[Hid,oL_snoc P k hh,←List.cons_append,←List.cons_append,ics_app2];rfl
   generalize (P[k]'hh)=o at x1 x2 x3 x4 Hx;obtain⟨o1,o2,o3,o4⟩:=o;simp only[]at x1 x2 x3 x4 Hx;have jK:(0:Int)≤(k:Int):=by omega
   have jL:(k:Int)<(n:Int):=by omega
   obtain⟨hQ,hb9⟩:=blk1 wp #[.bool o1,.string o2,.bool o3,.string o4] 30;have h6:=own_after hR hb9;have Hy:=hB.after hb9;have Hz:=hI.after hb9;have h7:=bt he hb9;have j5:=he.size;clear hR hB hI he hg;have hN:=blk2b wp #[.bool o1,.string o2,.bool o3,.string o4] #[.bool o1,.string o2,.bool o3,.string o4] 30 28;go_wp2_with (at_builtin;refine wpList_append_lies _ rfl (.tmp 30) (.tmp 35) _ rfl w.heap.size 28 i1 _ 2 24 Tryz.underlying44 jf.out jg.out jh.out ji.out rfl (by omega) u10 (2+2*k) (ics ((vn,va) :: (rn,ra) :: oL (P.take k))) rfl (own_after h6 (b1 _ (.cells #[.bool o1,.string o2,.bool o3,.string o4] 28))) ⟨wp.heap.size+1,0,none⟩ 2 2 [.bool o1,.string o2,.bool o3,.string o4] rfl rfl hN.cells (by simp[Value.oneCell']) (by omega) (by simp only[maxLen];omega) (by omega) (by simp;omega) (wp.heap.size+2) (by simp) ?_;intro ga ca wa h8 hf jM HB)
   rw[←Hx.out,show 2+2*k+2=2+2*(k+1) by omega]at h8;have jN:=Blk.grown (Hy.alloc (.cells #[.bool o1,.string o2,.bool o3,.string o4] 28)) hf (own_ne h6 Hy (by decide));have jO:=Blk.grown (Hz.alloc (.cells #[.bool o1,.string o2,.bool o3,.string o4] 28)) hf (own_ne h6 Hz (by decide));have jP:=(ba h7 (.cells #[.bool o1,.string o2,.bool o3,.string o4] 28)).grown hf (by simp only[World.size_alloc];omega) (fun x hx=>(own_lt h6 hx).2);clear hf jM HB h6 Hy Hz h7;go_wp2;go_roundw
   case rel=>exact⟨k+1,by omega,by go_num,h8,jN,jO,jP⟩
   case measure=>simp[intOf];omega
  ·obtain rfl:n=k:=by omega
   have h9:Hid (P.take n=P):=List.take_of_length_le (by rw[←HN.out];exact Nat.le_refl _);rw[h9.out]at hR;clear h9 hk hlt;have ju:IsAt wp u10 ((vn,va) :: (rn,ra) :: oL P):=is_own _ (by simp[oL_len,←HN.out];omega) hR;have HC:=Kh (jm.out u10 wp ju);clear jm ju;have jQ:=hB.lt;have HD:=hI.lt;obtain⟨HE,HF,HH,HI,HJ,HK,HL,HM⟩:=hB.x4;go_wp2_with fail
   refine HC.out.mono ?_;rintro e w2 ⟨rfl,hp⟩;clear HE HF HH HI HJ HK HL HM;clear HC;by_cases HO:m=0
   ·subst HO;have HA:=Kh (jl.out rfl);clear jl hl;by_cases jv:n=4
    ·subst jv;have hq:=Kh (jk.out rfl HN.out.symm);clear jj jk;obtain⟨z,hz,rfl,rfl⟩:=of_ivB HA.out.1;rw[intb_I]at hq jo;have jw:=Kh HA.out.2;clear HA hz jQ HD;have jR:=hB.after hp;have HP:=hI.after hp;have HQ:=own_after hR hp;have hr:=bt he hp;have Ha:Hid (u10.ownBlock≠some w2.heap.size):=fun e=>by have:=(own_lt HQ e).1;omega
     obtain⟨hS,Hp⟩:=blk1 w2 #[.bool (sg z),.string (E z.natAbs)] 28;have HR:=own_after HQ Hp;have ht:=bt hr Hp;clear hB hI hR he hp jR hg;have HD:=HP.lt;obtain⟨Hb,Hc,Hd,He,Hf,Hg,Hh,Hi⟩:=HP.x4;go_wp2;clear Hb Hc Hd He Hf Hg Hh Hi;generalize w2.alloc (.cells #[.bool (sg z),.string (E z.natAbs)] 28)=w3 at hS HR ht Hp ⊢;obtain⟨gS,HS⟩:∃g,w2.heap.size=g:=⟨_,rfl⟩;rw[HS]at hS Ha ⊢;replace hS:Blk w3 gS 28 [.bool (sg (restL z (P.take 0))),.string (E (restL z (P.take 0)).natAbs)]:=hS;have jx:Hid (w.heap.size≤gS):=by rw[Hid,←HS];exact hr.size
     clear HS HP HQ hr Hp HD;go_loopw [51] (fun i wr=>∃k:Nat,k≤4∧i=.int .i64 k∧wr.ownsRow w.heap.size 28 2 u10 (2+2*4) (ics ((vn,va) :: (sg z,E z.natAbs) :: oL P))∧Blk wr gS 28 [.bool (sg (restL z (P.take k))),.string (E (restL z (P.take k)).natAbs)]∧Bw w wr) (fun i _=>4-(intOf i).toNat)
     case atStart=>exact⟨0,by omega,rfl,HR,hS,ht⟩
     case round =>
      clear hS HR ht;obtain⟨k,hk,rfl,hR,hS,he⟩:=hrel;obtain⟨wp,Hw⟩:∃wp,wp=wr:=⟨_,rfl⟩;subst Hw;have hg:=OsAt.after hO he
      have hl:Hid ((restL z (P.take k)).natAbs≤256^12+k*256^24):=by
       have:=restL_lt z (P.take k) jo.out (fun o ho=>jn.out o (List.mem_of_mem_take ho));rwa [List.length_take,show min k P.length=k by rw[←HN.out];omega]at this
      by_cases hlt:k<4
      ·have hh:k<P.length:=by rw[←HN.out];exact hlt
       obtain⟨bo,oo,rfl,jJ,x1,x2,x3,x4⟩:=OsAt.at_ hg hh;have HV:=Kh (oL_at P jw.out k hh);have Hj:=Kh (jn.out _ (Gm hh));have hv:=Kh (restL_snoc z P k hh);generalize (P[k]'hh)=o at x1 x2 x3 x4 HV Hj hv;obtain⟨o1,o2,o3,o4⟩:=o;simp only[]at x1 x2 x3 x4 HV Hj hv;obtain⟨x,hx,rfl,rfl⟩:=of_ivB HV.out.1;obtain⟨y,hy,rfl,rfl⟩:=of_ivB HV.out.2;rw[intb_I,intb_I]at hv;have jy:=Kh (lt_of_size Hj.out.1);have jz:=Kh (lt_of_size Hj.out.2);clear HV Hj hx hy
       have HT:Hid ((x*y).natAbs<256^24):=by
        rw[Hid,Int.natAbs_mul];have:=Nat.mul_lt_mul'' jy.out jz.out;rwa [←Nat.pow_add]at this
       have jA:Hid (∀w:World,Calls Tryz.prog 54 #[.agg #[.bool (sg (x)),.string (E (x).natAbs)],.agg #[.bool (sg (y)),.string (E (y).natAbs)]] w fun e w'=>e=.returned (.tuple #[.agg #[.bool (sg (x*y)),.string (E (x*y).natAbs)],.int .i64 0])∧Bw w w'):=fun w =>
        imul_c x y w (Nl jy.out P8) (Nl jz.out P8) (by rw[←Int.natAbs_mul];exact Nl HT.out P8)
       obtain⟨pz,jB⟩:∃p,p=x*y:=⟨_,rfl⟩;rw[←jB]at jA HT hv;clear jB;generalize restL z (P.take k)=r at hS hl hv
       have jS:Hid (∀w:World,Calls Tryz.prog 48 #[.agg #[.bool (sg (r)),.string (E (r).natAbs)],.agg #[.bool (sg (pz)),.string (E (pz).natAbs)]] w fun e w'=>e=.returned (.tuple #[.agg #[.bool (sg (r-pz)),.string (E (r-pz).natAbs)],.int .i64 0])∧Bw w w'):=fun w=>by
        have h1:=hl.out;have h2:=HT.out;have h3:(256:Nat)^12+4*256^24+256^24<256^128:=by decide
        have h4:k*256^24≤4*256^24:=Nat.mul_le_mul_right _ hk;exact isub_c (x:=r) (y:=pz) (w:=w) (by omega) (by omega) (by omega)
       have jK:(0:Int)≤(k:Int):=by omega
       have jL:(k:Int)<4:=by omega
       obtain⟨hQ,hb9⟩:=blk1 wp #[.bool (sg x),.string (E x.natAbs),.bool (sg y),.string (E y.natAbs)] 30;obtain⟨HU,HW,HX,HY,HZ,H0,H1,H2⟩:=hQ.x4;go_wp2_with fail
       refine (jA.out _).mono ?_;rintro e w4 ⟨rfl,hb4⟩;clear HU HW HX HY HZ H0 H1 H2;have hi:=bt hb9 hb4;obtain⟨hX,Hq⟩:=blk1 w4 #[.bool (sg pz),.string (E pz.natAbs)] 28;have H3:=(hS.after hi).after Hq;have jC:=own_after (own_after hR hi) Hq;have Hk:=bt (bt he hi) Hq;have jT:=hS.lt;clear hS hR he hb9 hb4 hi Hq hg hQ x1 x2 x3 x4;obtain⟨H4,H5,H6,H7⟩:=hX.x2;obtain⟨Hl,Hm,Hn,Ho⟩:=H3.x2;go_wp2_with fail
       refine (jS.out _).mono ?_;rintro e w5 ⟨rfl,Hr⟩;clear H4 H5 H6 H7;clear Hl Hm Hn Ho;have H8:=H3.after Hr;have jU:=own_after jC Hr;have H9:=bt Hk Hr;have jD:u10.ownBlock≠some gS:=Ha.out;have jV:=H8.lt;clear Hr H3 jC Hk hX;obtain⟨jE,jF,jG,jH⟩:=H8.x2;go_wp2;go_roundw
       case rel=>exact⟨k+1,by omega,by go_num,own_set (own_set jU jD) jD,by rw[hv.out];exact (H8.set 0 _).set 1 _,(H9.setCell jx.out _).setCell jx.out _⟩
       case measure=>simp[intOf];omega
      ·obtain rfl:4=k:=by omega
       have h9:Hid (P.take 4=P):=List.take_of_length_le (by rw[←HN.out];exact Nat.le_refl _);rw[h9.out]at hS hl;obtain⟨g,cap,rfl,j6,j7⟩:=hR.form (by omega);have jW:=(own_cap hR).2;have j8:¬ cap=2:=by omega
       clear hlt hk hg h9;generalize restL z P=r at hS hl hq;have jT:=hS.lt;obtain⟨jX,jY,jZ,j0⟩:=hS.x2;obtain⟨hJ,jI⟩:=blk1 wp #[.bool (sg r),.string (E r.natAbs)] 28;have j1:=own_after hR jI;have ja:=bt he jI;go_wp2_with fail
       go_region_law (go_loud (refine step_append_run (by rfl) (.tmp 75) (.tmp 77) _ (by rfl) (.slice (some ⟨g,4,none⟩) 8 (cap-2)) (.slice (some ⟨wp.heap.size,0,none⟩) 1 1) (by rfl) (by rfl) ?_;obtain⟨g',o',cap',wq,jb,j2,j3,j4,jc⟩:=run_append_part (P:=Tryz.prog) (wp.drew.alloc (.cells #[.bool (sg r),.string (E r.natAbs)] 28)) _ _ w.heap.size 28 i1 _ 2 24 Tryz.underlying44 jf.out jg.out jh.out ji.out rfl (by omega) g (2+2*4) cap 2 _ j1 (by omega) ⟨wp.heap.size,0,none⟩ 1 1 [.bool (sg r),.string (E r.natAbs)] rfl hJ.cells (by simp[Value.oneCell']) (by omega) (by simp only[maxLen];omega) (by omega) (by have:=ja.size;exact this);refine⟨_,_,jb,?_⟩))
       go_wp2;go_ret2
       rw[hq.out];refine⟨_,rfl,?_,(ba he.drew (.cells #[.bool (sg r),.string (E r.natAbs)] 28)).trans j3⟩;refine rat_cells (fun x=>[Value.bool x.1,.string x.2]) (fun _=>rfl) (fun _=>rfl) ((oZ P++[r]).map zI) g' o' cap' 9 (by simp[oZ_len,←HN.out]) jc fun j u hj=>j2 j u ?_
       rw[←hj,List.map_append,←oL_zI P jw.out];show _=(ics (oL P++[zI r]))[j]?;rw[ics_app2];rfl
    ·have hq:=Kh (jj.out rfl (by rw[←HN.out];exact jv));have j9:((n:Int) != 4)=true:=by rw[bne_iff_ne];omega
     go_wp2;go_ret2
     rw[hq.out];exact⟨_,rfl,zs_nil _,bt he hp⟩
   ·have Ja:((m:Int) != 0)=true:=by rw[bne_iff_ne];omega
    have hq:=Kh (hl.out HO);clear HO;go_wp2;go_ret2
    rw[hq.out];exact⟨_,rfl,zs_nil _,bt he hp⟩
end
end Go.Proofs.YtdgddpnjkinciaaGreatDoor
