/- What Prepare,Statement and Witness return where nothing fails. Plain Lean. -/
import Derived.Test.YtdgddpnjkinciaaGreatDoorSd27
import Derived.Test.YtdgddpnjkinciaaGreatDoorPrv1
import Derived.Test.YtdgddpnjkinciaaGreatDoorPp27
set_option linter.all false
set_option maxRecDepth 100000
set_option maxHeartbeats 16000000
namespace Go.Proofs.YtdgddpnjkinciaaGreatDoor
section
/- dominoref14.Commit for every key and opening;pedersen.Opens of a commitment. -/
open Go.RowKit Go.Shelf
def cmE (a b c d:ByteArray) (vn:Bool) (va:ByteArray) (rn:Bool) (ra:ByteArray):Nat:=if (ivB vn va&&ivB rn ra)=true then pedV a b c d else 3
def cmC (a b c d:ByteArray) (vn:Bool) (va:ByteArray) (rn:Bool) (ra:ByteArray):Nat:=if cmE a b c d vn va rn ra=0 then cmtN (numb a) (numb c) (numb d) (intb vn va) (intb rn ra) else 0
theorem pedE_or (p q g h:Nat):pedE p q g h=0∨pedE p q g h=13:=by
 unfold pedE;split
 ·split
  ·exact .inl rfl
  ·exact .inr rfl
 ·exact .inr rfl
theorem pedE_has {p q g h:Nat} (he:pedE p q g h=0):hasB p q g=true∧hasB p q h=true:=by
 have hg:=pedE_grp he;unfold pedE at he;rw[if_pos hg]at he;split at he
 ·rename_i hh;exact⟨hh.1,hh.2.1⟩
 ·omega
theorem r14commitO_c (a b c d:ByteArray) (vn:Bool) (va:ByteArray) (rn:Bool) (ra:ByteArray) (w:World) (ha:a.size≤8) (hb:b.size≤100) (hc:c.size≤100) (hd:d.size≤100) (hf:va.size≤100) (hj:ra.size≤100) :
  Calls Tryz.prog 22 #[.agg #[.string a,.string b,.string c,.string d],.agg #[.bool vn,.string va,.bool rn,.string ra]] w fun e w'=>e=.returned (.tuple #[.string (E (cmC a b c d vn va rn ra)),.int .i64 (cmE a b c d vn va rn ra)])∧Bw w w':=by
 have bad:(vl4 a b c d&&(ivB vn va&&ivB rn ra))=false→cmE a b c d vn va rn ra=3→Calls Tryz.prog 22 #[.agg #[.string a,.string b,.string c,.string d],.agg #[.bool vn,.string va,.bool rn,.string ra]] w fun e w'=>e=.returned (.tuple #[.string (E (cmC a b c d vn va rn ra)),.int .i64 (cmE a b c d vn va rn ra)])∧Bw w w':=fun h h3=>by
  unfold cmC;rw[h3,if_neg (by decide)];exact r14commit_bad a b c d vn rn va ra w (by omega) (by omega) (by omega) (by omega) (by omega) (by omega) h
 cases hi:(ivB vn va&&ivB rn ra)
 ·exact bad (by rw[hi,Bool.and_false]) (by unfold cmE;rw[hi,if_neg (by decide)])
 ·cases hv:vl4 a b c d
  ·exact bad (by rw[hv,Bool.false_and]) (by unfold cmE pedV;rw[hi,hv];rfl)
  ·rw[Bool.and_eq_true]at hi;obtain⟨p,q,g,h,⟨hp,hq,hg,hh⟩,rfl,rfl,rfl,rfl⟩:=vl4_of hv;obtain⟨m,hm,rfl,rfl⟩:=of_ivB hi.1;obtain⟨r,hr,rfl,rfl⟩:=of_ivB hi.2
   have e:cmE (E p) (E q) (E g) (E h) (sg m) (E m.natAbs) (sg r) (E r.natAbs)=pedE p q g h:=by
    unfold cmE;rw[hi.1,hi.2,if_pos (show (true&&true)=true from rfl),pedV_E hp hq hg hh]
   have he:p<256^8:=lt_of_size ha;unfold cmC;rw[e,intb_I,intb_I,numb_E,numb_E,numb_E];rcases pedE_or p q g h with h0 | h0
   ·rw[h0,if_pos rfl];exact r14commit_c p q g h m r w he hq hg hh hm hr h0 (pedE_has h0).1 (pedE_has h0).2
   ·rw[h0,if_neg (by decide)];exact r14commit_13 p q g h m r w he hq hg hh hm hr h0
theorem cmC_num {p g h:Nat} (m r:Int) (hp:p<256^128) (hg:g<256^128) (hh:h<256^128) (hm:m.natAbs<256^128) (hr:r.natAbs<256^128) (he:pedE p 0 g h=0) :
  cmE (E p) (E 0) (E g) (E h) (sg m) (E m.natAbs) (sg r) (E r.natAbs)=0∧cmC (E p) (E 0) (E g) (E h) (sg m) (E m.natAbs) (sg r) (E r.natAbs)=cmtN p g h m r:=by
 have e:cmE (E p) (E 0) (E g) (E h) (sg m) (E m.natAbs) (sg r) (E r.natAbs)=0:=by
  unfold cmE;rw[ivB_I m hm,ivB_I r hr,if_pos (show (true&&true)=true from rfl),pedV_E hp (by decide) hg hh,he]
 refine⟨e,?_⟩;unfold cmC;rw[e,if_pos rfl,intb_I,intb_I,numb_E,numb_E,numb_E]
theorem cmC_lt (a b c d:ByteArray) (vn:Bool) (va:ByteArray) (rn:Bool) (ra:ByteArray) (ha:a.size≤8):cmC a b c d vn va rn ra<256^8:=by
 unfold cmC;split
 ·unfold cmtN;have h1:=numb_lt ha;by_cases h0:numb a=0
  ·rename_i h;exfalso;unfold cmE at h;split at h
   ·unfold pedV at h;split at h
    ·unfold pedE grpE at h;rw[h0]at h;simp at h
    ·omega
   ·omega
  ·exact Nat.lt_trans (Nat.mod_lt _ (by omega)) h1
 ·decide
end
section
/- The statement for a lower bound: which integers satisfy it. Plain Lean. -/
def zs9 (X:List (Int × Int)) (z:Int):List Int:=(X.flatMap fun x=>[x.1,x.2])++[z]
def prd (X:List (Int × Int)):Int:=(X.map fun x=>x.1*x.2).sum
def cms (p g h:Nat) (X:List (Int × Int)):List Nat:=X.map fun x=>cmtN p g h x.1 x.2
end
section
/- dominoref06.Same at equal tapes. -/
open Go.RowKit Go.Shelf
end
section
open Go.RowKit Go.Shelf
theorem tfwc_inv {L:List ByteArray} {sd:ByteArray} (h:tfw L sd=true):L.length≤80∧(∀x∈L,x.size≤16)∧sd.size≤60:=by
 simp only[tfw,szN,Bool.and_eq_true,List.all_eq_true,decide_eq_true_eq]at h;exact⟨h.1.2,h.1.1,h.2⟩
theorem stC_k0 {a b c d:ByteArray} {lo:Int} {cc:ByteArray} {P:List ByteArray} {vl rd:ByteArray} (h:(stR a b c d lo cc P vl rd).1=0):chkV [] (cc :: vl :: rd :: P) a b c d=0:=by
 unfold stR at h;split at h
 ·rename_i h1;exact absurd h h1
 ·rename_i h1;exact Decidable.not_not.1 h1
theorem stC_ok {p g h c1 vb rb:Nat} {lo:Int} {P:List Nat} (hk:(stR (E p) (E 0) (E g) (E h) lo (E c1) (P.map E) (E vb) (E rb)).1=0) :
  vb≠0∧rb≠0∧P.length=4∧hasAll p c1 P=true∧stR (E p) (E 0) (E g) (E h) lo (E c1) (P.map E) (E vb) (E rb)=(0,stN p g h lo c1 P vb rb):=by
 have hz:=stR_zero (lo:=lo) (stC_k0 hk);rw[hz]at hk ⊢;split at hk
 ·cases hk
 rename_i h1;split at hk
 ·cases hk
 rename_i h2;split at hk
 ·cases hk
 rename_i h3;have h2:P.length=4:=Decidable.not_not.1 h2;have h3:hasAll p c1 P=true:=by cases hh:hasAll p c1 P;exact absurd hh h3;rfl
 refine⟨fun e=>h1 (.inl e),fun e=>h1 (.inr e),h2,h3,?_⟩;rw[if_neg h1,if_neg (fun hh=>hh h2),if_neg (by rw[h3];decide)]
theorem stR_vars (a b c d:ByteArray) (lo:Int) (cc:ByteArray) (P:List ByteArray) (vl rd:ByteArray):(stR a b c d lo cc P vl rd).2.vars.length≠1:=by
 unfold stR;split;exact (by decide:(0:Nat)≠1)
 split;exact (by decide:(0:Nat)≠1)
 split;exact (by decide:(0:Nat)≠1)
 split;exact (by decide:(0:Nat)≠1)
 exact (by decide:(9:Nat)≠1)
theorem prR_ok {att:Att} {a b c d:ByteArray} {lo:Int} {vn:Bool} {va:ByteArray} {rn:Bool} {ra rd:ByteArray} {T:Tp} (h:(prR att a b c d lo vn va rn ra rd T).err=0) :
  kyV a b c d=0∧¬ 4294967296≤intb vn va-lo∧(∀j,j<4→(prC att (numb rd) T j).1=0) ∧
   prR att a b c d lo vn va rn ra rd T=⟨0,prP att (numb a) (numb c) (numb d) (numb rd) (roots (intb vn va-lo)) T 4,prO att (numb rd) (roots (intb vn va-lo)) T 4,T.on 4⟩:=by
 unfold prR at h ⊢;split at h
 ·cases h
 rename_i h1;rw[if_neg h1];split at h
 ·rename_i h2;exact absurd h h2
 rename_i h2;rw[if_neg h2];split at h
 ·cases h
 rename_i h3;rw[if_neg h3];split at h
 ·cases h
 rename_i h4;rw[if_neg h4]
 have hb:∀j,j<4→(prC att (numb rd) T j).1=0:=by
  unfold prN at h;split at h
  ·rename_i j hj;have h5:=List.find?_some hj;simp only[bne_iff_ne]at h5;exact absurd h h5
  ·rename_i hj;intro j hc;have h5:=List.find?_eq_none.1 hj j (List.mem_range.2 hc);simp only[bne_iff_ne,Decidable.not_not]at h5;exact h5
 exact⟨Decidable.not_not.1 h2,h4,hb,prN_ok hb⟩
theorem ky_pos {a b c d:ByteArray} (h:kyV a b c d=0):numb a≠0:=by
 unfold kyV at h;split at h
 ·rename_i h1;unfold pedV at h1;split at h1
  ·intro h0;unfold pedE grpE at h1;rw[h0]at h1;simp at h1
  ·omega
 ·rename_i h1;exact absurd h h1
theorem prR_bnd {att:Att} {a b c d:ByteArray} {lo:Int} {vn:Bool} {va:ByteArray} {rn:Bool} {ra rd:ByteArray} {T:Tp} (ha:a.size≤8) (hc:rd.size≤12) :
  (prR att a b c d lo vn va rn ra rd T).parts.length≤4∧(∀x∈(prR att a b c d lo vn va rn ra rd T).parts,x<256^8)∧(prR att a b c d lo vn va rn ra rd T).ops.length≤4∧∀x∈(prR att a b c d lo vn va rn ra rd T).ops,x.1<256^12∧x.2<256^12:=by
 by_cases h:(prR att a b c d lo vn va rn ra rd T).err=0
 ·obtain⟨hk,h4,hb,hR⟩:=prR_ok h;rw[hR];refine⟨by rw[show (PrR.mk 0 _ _ _).parts=_ from rfl,prP_len];exact Nat.le_refl 4,fun x hx=>?_,by rw[show (PrR.mk 0 _ _ _).ops=_ from rfl,prO_len];exact Nat.le_refl 4,fun x hx=>?_⟩
  ·unfold prP at hx;obtain⟨j,_,rfl⟩:=List.mem_map.1 hx;unfold cmtN;exact Nat.lt_trans (Nat.mod_lt _ (Nat.pos_of_ne_zero (ky_pos hk))) (numb_lt ha)
  ·unfold prO at hx;obtain⟨j,hj,rfl⟩:=List.mem_map.1 hx;exact⟨Nl (roots_lt h4 j) (by decide),Nat.lt_trans (prC_lt (hb j (List.mem_range.1 hj))) (numb_lt hc)⟩
 ·have e:∀R:PrR,R.err≠0→(R=⟨R.err,[],[],Tp.nil⟩)→R.parts.length≤4∧(∀x∈R.parts,x<256^8)∧R.ops.length≤4∧∀x∈R.ops,x.1<256^12∧x.2<256^12:=fun R _ hR=>by
   rw[hR];exact⟨by simp,by simp,by simp,by simp⟩
  refine e _ h ?_;unfold prR at h ⊢;split
  ·rfl
  split
  ·rfl
  split
  ·rfl
  split
  ·rfl
  rename_i h1 h2 h3 h4;rw[if_neg h1,if_neg h2,if_neg h3,if_neg h4]at h;unfold prN at h ⊢;split
  ·rfl
  ·rename_i hj;rw[hj]at h;exact absurd rfl h
theorem witR_ok {a b c d:ByteArray} {vn:Bool} {va:ByteArray} {rn:Bool} {ra:ByteArray} {P:List Opn} (h:(witR a b c d vn va rn ra P).1=0):(witR a b c d vn va rn ra P).2=oZ P++[restL (intb rn ra) P]:=by
 unfold witR at h ⊢;split at h
 ·rename_i h1;exact absurd h h1
 rename_i h1;split at h
 ·cases h
 rename_i h2;rw[if_neg h1,if_neg h2]
theorem cmE_ok {a b c d:ByteArray} {vn:Bool} {va:ByteArray} {rn:Bool} {ra:ByteArray} (h:cmE a b c d vn va rn ra=0):ivB vn va=true∧ivB rn ra=true:=by
 unfold cmE at h;split at h
 ·rename_i h1;rwa [Bool.and_eq_true]at h1
 ·cases h
theorem cms_hasC {p g h:Nat} (t:Two p g h) (X:List (Int × Int)):∀x∈cms p g h X,hasB p 0 x=true:=fun x hx=>by
 unfold cms at hx;obtain⟨y,_,rfl⟩:=List.mem_map.1 hx;exact cmt_has t _ _
end
end Go.Proofs.YtdgddpnjkinciaaGreatDoor
