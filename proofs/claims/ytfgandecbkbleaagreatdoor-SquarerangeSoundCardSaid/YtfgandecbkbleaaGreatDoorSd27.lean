/- What Statement returns: error,statement. -/
import Derived.Test.YtfgandecbkbleaaGreatDoorLc27
import Derived.OpenShut
import Derived.Test.YtfgandecbkbleaaGreatDoorStd27
import Derived.Test.YtfgandecbkbleaaGreatDoorSf27
import Derived.Test.YtfgandecbkbleaaGreatDoorWt27
import Derived.Test.YtfgandecbkbleaaGreatDoorLdvl
import Derived.Test.YtfgandecbkbleaaGreatDoorRInt1
import Derived.Test.YtfgandecbkbleaaGreatDoorLg4
import Derived.Test.YtfgandecbkbleaaGreatDoorRinc
set_option linter.unusedVariables false
set_option linter.unusedSimpArgs false
set_option maxRecDepth 100000
set_option maxHeartbeats 16000000
namespace Go.Proofs.YtfgandecbkbleaaGreatDoor
section
/- Arguments: an array of nine numbers. -/
open Go.RowKit Go.WideShapes Go.ChangeShapes Go.ChangeAt Go.Joins Go.Deep
theorem okWide_arr {P:Program} {w:World} {r:Reach} {b0:Nat} {t e:TypeId} {n:Nat} {v:Value} (ht:P.underlying t=some (.array n e)) (h:Value.okWide P w r b0 t v):∃cs,v=.agg cs∧cs.size=P.cellsOf t:=by
 simp only [Value.okWide,ht] at h;obtain ⟨cs,h1,h2,_⟩:=h;exact ⟨cs,h1,h2⟩
theorem array9 {α:Type} {l:Array α} (h:l.size=9):∃a b c d e f g i j,l=#[a,b,c,d,e,f,g,i,j]:=by
 obtain ⟨l⟩:=l;match l,h with
 | [a,b,c,d,e,f,g,i,j],_=>exact ⟨a,b,c,d,e,f,g,i,j,rfl⟩
theorem zNine:Tryz.prog.cellsOf 81=9:=by kernel_rfl
theorem zI16:Tryz.prog.cellsOf 80=1:=by kernel_rfl
theorem i16_le {n:Int} (h:(Lit.int .i16 n).wf=true):n.natAbs≤32768:=by
 have h1:=bounds_i16 h;omega
section
variable {H:Type} {enc:TypeId × Value→H} {w:World} {base:Nat} {held:Bool}
theorem open_nine {r:Reach} {b0:Nat} {v:Value} {d:DataW H} {p:List MemPlace} (hv:Value.okWide Tryz.prog w r b0 81 v) (h:DataW.Trod enc Tryz.prog w base (fun _=>true) held 81 v d p) :
  ∃n:Nat→Int,v=.agg #[.int .i16 (n 0),.int .i16 (n 1),.int .i16 (n 2),.int .i16 (n 3),.int .i16 (n 4),.int .i16 (n 5),.int .i16 (n 6),.int .i16 (n 7),.int .i16 (n 8)]∧∀j,(n j).natAbs≤32768:=by
 obtain ⟨cs,rfl,hsz⟩:=okWide_arr Tryz.underlying81 hv;obtain ⟨c0,c1,c2,c3,c4,c5,c6,c7,c8,rfl⟩:=array9 (hsz.trans zNine);obtain ⟨fuel,hf⟩:=h;obtain ⟨xs,m,_,_,_,hlen,hel⟩:=DataW.trod_array Tryz.underlying81 hf;have h0:=hel 0 (by omega);have h1:=hel 1 (by omega);have h2:=hel 2 (by omega);have h3:=hel 3 (by omega);have h4:=hel 4 (by omega);have h5:=hel 5 (by omega);have h6:=hel 6 (by omega);have h7:=hel 7 (by omega);have h8:=hel 8 (by omega);simp only [Value.cells,zI16,Nat.mul_one,List.drop_succ_cons,List.drop_zero,List.take_succ_cons,List.take_zero] at h0 h1 h2 h3 h4 h5 h6 h7 h8;rw [List.getElem?_eq_getElem (by omega)] at h0 h1 h2 h3 h4 h5 h6 h7 h8;obtain ⟨n0,e0,_,w0⟩:=DataW.trod_int Tryz.underlying80 h0;obtain ⟨n1,e1,_,w1⟩:=DataW.trod_int Tryz.underlying80 h1;obtain ⟨n2,e2,_,w2⟩:=DataW.trod_int Tryz.underlying80 h2;obtain ⟨n3,e3,_,w3⟩:=DataW.trod_int Tryz.underlying80 h3;obtain ⟨n4,e4,_,w4⟩:=DataW.trod_int Tryz.underlying80 h4;obtain ⟨n5,e5,_,w5⟩:=DataW.trod_int Tryz.underlying80 h5;obtain ⟨n6,e6,_,w6⟩:=DataW.trod_int Tryz.underlying80 h6;obtain ⟨n7,e7,_,w7⟩:=DataW.trod_int Tryz.underlying80 h7;obtain ⟨n8,e8,_,w8⟩:=DataW.trod_int Tryz.underlying80 h8;simp only [List.cons.injEq,and_true] at e0 e1 e2 e3 e4 e5 e6 e7 e8;subst e0 e1 e2 e3 e4 e5 e6 e7 e8;refine ⟨fun j=>[n0,n1,n2,n3,n4,n5,n6,n7,n8].getD j 0,rfl,fun j=>?_⟩;match j with
 | 0=>exact i16_le w0
 | 1=>exact i16_le w1
 | 2=>exact i16_le w2
 | 3=>exact i16_le w3
 | 4=>exact i16_le w4
 | 5=>exact i16_le w5
 | 6=>exact i16_le w6
 | 7=>exact i16_le w7
 | 8=>exact i16_le w8
 | j+9=>exact (by decide:(0:Int).natAbs≤32768)
end
end
section
/- Terms,equations,the bound of the last variable;ref14.Shift. -/
open Go.RowKit Go.Shelf
theorem E_1:E 1=⟨#[1]⟩:=by decide +kernel
theorem E_4:E 4=⟨#[4]⟩:=by decide +kernel
def tcs (x:NTrm):List Value:=[.string (E x.base),.int .i64 (x.var:Int),.bool (sg x.coef),.string (E x.coef.natAbs)]
theorem tcs_t1 (b v:Nat):tcs (t1 b v)=[.string (E b),.int .i64 (v:Int),.bool false,.string (E 1)]:=rfl
theorem sqeqn_c (t:Nat) (ao:Option Addr) (n c:Nat) (w:World) :
  Calls Tryz.prog 58 #[.string (E t),.slice ao n c] w fun e w'=>e=.returned (.agg #[.int .i64 0,.string (E t),.slice ao n c])∧Below w.heap.size w w':=by
 go_enter Tryz.func58,Tryz.ntmps58
 go_wp2;refine bodyPost_ret (v:=.agg #[.int .i64 0,.string (E t),.slice ao n c]) (by simp [results,Tryz.results58,go_sem]) rfl ⟨rfl,b1 _ _⟩
theorem lastB_lt {vb rb:Nat} (hv:vb<256^12) (hr:rb<256^12):vb*4<256^13∧vb*4+1<256^14∧(vb*4+1)*rb<256^32:=by
 have h1:(256:Nat)^13=256*256^12:=by decide
 have h2:(256:Nat)^14=256*256^13:=by decide
 have h3:4*vb+1≤256^13:=by omega
 have h4:=Nat.mul_le_mul h3 (Nat.le_of_lt hr);have h5:(256:Nat)^13*256^12<256^32:=by decide
 refine ⟨by omega,by omega,?_⟩;rw [Nat.mul_comm vb 4];exact Nat.lt_of_le_of_lt h4 h5
theorem sqsum_c (vb rb:Nat) (w:World) (hv:vb<256^12) (hr:rb<256^12) :
  Calls Tryz.prog 57 #[.string (E vb),.string (E rb)] w fun e w'=>e=.returned (.tuple #[.string (E (lastB vb rb)),.int .i64 0])∧Below w.heap.size w w':=by
 obtain ⟨k1,k2,k3⟩:=lastB_lt hv hr;have up:∀{n k:Nat},n<256^k→k≤128→n<256^128:=fun h h2=>Nat.lt_of_lt_of_le h (Nat.pow_le_pow_right (by decide) h2)
 have HM:Hid (∀w,Calls Tryz.prog 91 #[.string (E vb),.string ⟨#[4]⟩] w fun e w'=>e=.returned (.tuple #[.string (E (vb*4)),.int .i64 0])∧Below w.heap.size w w'):=fun w=>by rw [←E_4];exact mul_c vb 4 w (up hv (by decide)) (by decide) (up k1 (by decide))
 have HA:Hid (∀w,Calls Tryz.prog 112 #[.string (E (vb*4)),.string ⟨#[1]⟩] w fun e w'=>e=.returned (.tuple #[.string (E (vb*4+1)),.int .i64 0])∧Below w.heap.size w w'):=fun w=>by rw [←E_1];exact add_c (vb*4) 1 w (up k1 (by decide)) (by decide) (up k2 (by decide))
 have HM2:Hid (∀w,Calls Tryz.prog 91 #[.string (E (vb*4+1)),.string (E rb)] w fun e w'=>e=.returned (.tuple #[.string (E (lastB vb rb)),.int .i64 0])∧Below w.heap.size w w'):=fun w=>by
  rw [show lastB vb rb=(vb*4+1)*rb by unfold lastB;rw [Nat.mul_comm 4 vb]];exact mul_c (vb*4+1) rb w (up k2 (by decide)) (up hr (by decide)) (up k3 (by decide))
 generalize E vb=s1 at HM ⊢;generalize E (vb*4)=s2 at HM HA;generalize E (vb*4+1)=s3 at HA HM2;go_enter Tryz.func57,Tryz.ntmps57
 go_wp2_with fail
 refine (HM.out _).mono ?_;rintro e w1 ⟨rfl,hb1⟩;go_wp2_with fail
 refine (HA.out _).mono ?_;rintro e w2 ⟨rfl,hb2⟩;go_wp2_with fail
 refine (HM2.out _).mono ?_;rintro e w3 ⟨rfl,hb3⟩;go_wp2;go_ret2
 exact ⟨rfl,bt (bt hb1 hb2) hb3⟩
end
section
/- A statement that a call builds: rows of terms,variables and equations that it owns. -/
open Go.RowKit Go.Shelf
def TOwn (w:World) (base:Nat) (v:Value) (l:List NTrm):Prop:=w.ownsRow base 118 4 v l.length (l.flatMap tcs)
theorem TOwn.after {w w':World} {b:Nat} {v:Value} {l:List NTrm} (h:TOwn w b v l) (hb:Below w.heap.size w w'):TOwn w' b v l:=own_after h hb
theorem TOwn.ts {w:World} {b:Nat} {v:Value} {l:List NTrm} (h:TOwn w b v l):TsAt w v (l.map NTrm.t):=
 rat_own (fun x:Trm=>[.string x.base,.int .i64 x.var,.bool x.neg,.string x.abs]) (fun _=>rfl) (fun _=>rfl) (l.map NTrm.t) rfl (by
  have e:(l.map NTrm.t).flatMap (fun x:Trm=>[Value.string x.base,.int .i64 x.var,.bool x.neg,.string x.abs])=l.flatMap tcs:=by rw [List.flatMap_map];rfl
  rw [e,List.length_map];exact h)
theorem TOwn.blk {w:World} {g:Nat} (l:List NTrm) (n:Nat) (hn:n=l.length) (hm:n≤1000) (h:Blk w g 118 (l.flatMap tcs)):TOwn w 0 (.slice (some ⟨g,0,none⟩) n n) l:=by
 subst hn;exact own_blk h (flat_len tcs 4 (fun _=>rfl) l) (by simp only [maxLen];omega)
def ecp (x:NEqn × Value):List Value:=[.int .i64 (x.1.grp:Int),.string (E x.1.tgt),x.2]
structure EOwn (w:World) (base:Nat) (x v:Value) (L:List (NEqn × Value)):Prop where
 row:w.ownsRow base 115 3 v L.length (L.flatMap ecp)
 trm:∀e∈L,∃b,TOwn w b e.2 e.1.trms
 far:∀e∈L,∀g,x.ownBlock=some g→e.2.ownBlock≠some g
theorem EOwn.nil (w:World) (base:Nat) (x:Value):EOwn w base x (.slice none 0 0) []:=⟨World.ownsRow_nil _ _ _ _,by simp,by simp⟩
theorem EOwn.after {w w':World} {b:Nat} {x v:Value} {L:List (NEqn × Value)} (h:EOwn w b x v L) (hb:Below w.heap.size w w'):EOwn w' b x v L:=
 ⟨own_after h.row hb,fun e he=>by obtain ⟨b,k⟩:=h.trm e he;exact ⟨b,k.after hb⟩,h.far⟩
theorem EOwn.drew {w:World} {b:Nat} {x v:Value} {L:List (NEqn × Value)} (h:EOwn w b x v L):EOwn w.drew b x v L:=h.after (Below.drew (Below.refl _ _))
theorem EOwn.other {w w':World} {b b2 s2 n2:Nat} {e2:TypeId} {x v v2:Value} {x2:List Value} {L:List (NEqn × Value)} (h:EOwn w b x v L) (k:w.ownsRow b2 e2 s2 v2 n2 x2) (h1:115≠e2) (h2:118≠e2) (hg:w.grownBy w' v2.ownBlock):EOwn w' b x v L:=
 ⟨own_grown h.row k h1 hg,fun e he=>by obtain ⟨b,t⟩:=h.trm e he;exact ⟨b,own_grown t k h2 hg⟩,h.far⟩
theorem EOwn.set {w:World} {b g i:Nat} {T:TypeId} {cs:List Value} {x v u:Value} {L:List (NEqn × Value)} (h:EOwn w b x v L) (k:Blk w g T cs) (h1:115≠T) (h2:118≠T):EOwn (w.setCell ⟨g,i,none⟩ u) b x v L:=
 ⟨own_set h.row (own_ne h.row k h1),fun e he=>by obtain ⟨b,t⟩:=h.trm e he;exact ⟨b,own_set t (own_ne t k h2)⟩,h.far⟩
theorem EOwn.snoc {w w':World} {b b1 n':Nat} {x v v':Value} {L:List (NEqn × Value)} {q:NEqn} {u:Value} (h:EOwn w b x v L) (hg:w.grownBy w' v.ownBlock) (hn:n'=L.length+1) (ho:w'.ownsRow b 115 3 v' n' (L.flatMap ecp++ecp (q,u))) (hu:TOwn w b1 u q.trms) (hx:∀g,x.ownBlock=some g→u.ownBlock≠some g) :
  EOwn w' b x v' (L++[(q,u)]):=by
 refine ⟨by rw [List.length_append,List.flatMap_append];subst hn;simpa using ho,fun e he=>?_,fun e he=>?_⟩
 ·rcases List.mem_append.1 he with he | he
  ·obtain ⟨b,t⟩:=h.trm e he;exact ⟨b,own_grown t h.row (by decide) hg⟩
  ·obtain rfl:=List.mem_singleton.1 he;exact ⟨b1,own_grown hu h.row (by decide) hg⟩
 ·rcases List.mem_append.1 he with he | he
  ·exact h.far e he
  ·obtain rfl:=List.mem_singleton.1 he;exact hx
theorem EOwn.terms {w w':World} {b b1 s1 n1 g m c:Nat} {x v:Value} {xs:List Value} {L:List (NEqn × Value)} (h:EOwn w b x v L) (k:w.ownsRow b1 118 s1 x n1 xs) (hg:w.grownBy w' x.ownBlock) (ha:x.ownBlock=some g∨g=w.heap.size) :
  EOwn w' b (.slice (some ⟨g,0,none⟩) m c) v L:=by
 refine ⟨own_grown h.row k (by decide) hg,fun e he=>?_,fun e he g' hg'=>?_⟩
 ·obtain ⟨b2,t⟩:=h.trm e he;exact ⟨b2,own_keep t fun y hy=>hg.block y (own_lt t hy).1 (fun e'=>h.far e he y e'.symm hy)⟩
 ·have e1:g=g':=by simpa [Value.ownBlock] using hg'
  subst e1;rcases ha with ha | ha
  ·exact h.far e he g ha
  ·obtain ⟨b2,t⟩:=h.trm e he;intro hy;have:=(own_lt t hy).1;omega
theorem EOwn.es {w:World} {b:Nat} {x v:Value} {L:List (NEqn × Value)} (h:EOwn w b x v L):EsAt w v (L.map fun e=>e.1.q):=by
 have h1:RAt (fun _ (e:NEqn × Value) cs=>cs=ecp e) 3 w v L:=rat_own ecp (fun _=>rfl) (fun _=>rfl) L rfl h.row;obtain ⟨ao,c,rfl,h2⟩:=h1;refine ⟨ao,c,by rw [List.length_map],?_⟩;rcases h2 with h2 | ⟨bb,o,rfl,hlt,h3⟩
 ·exact .inl (by rw [List.length_map];exact h2)
 ·refine .inr ⟨bb,o,rfl,hlt,fun j hj=>?_⟩;rw [List.length_map] at hj;obtain ⟨cs,rfl,hc⟩:=h3 j hj;refine ⟨_,?_,hc⟩;obtain ⟨b2,t⟩:=h.trm L[j] (List.getElem_mem hj);rw [List.getElem_map];exact ⟨L[j].2,rfl,t.ts⟩
def VOwn (w:World) (base:Nat) (v:Value) (l:List Nat):Prop:=w.ownsRow base 113 1 v l.length (strs l)
theorem VOwn.ss {w:World} {b:Nat} {v:Value} {l:List Nat} (h:VOwn w b v l):SsAt w v (l.map E):=
 rat_own (fun s=>[Value.string s]) (fun _=>rfl) (fun _=>rfl) (l.map E) (by rw [List.length_map]) (by
  rw [flat_strs];have e:(l.map E).map Value.string=strs l:=by unfold strs;rw [List.map_map];rfl
  rw [e];exact h)
end
section
open Go.RowKit Go.Shelf
theorem infoV27:(Tryz.prog.info? 113).map (fun i=>(i.zero,i.size,i.bytes))=some (some (.agg #[.string { data:=#[] }]),1,16):=by kernel_rfl
theorem infoT27:(Tryz.prog.info? 118).map (fun i=>(i.zero,i.size,i.bytes))=some (some (.agg #[.string { data:=#[] },.int .i64 0,.bool false,.string { data:=#[] }]),4,48):=by kernel_rfl
theorem infoE27:(Tryz.prog.info? 115).map (fun i=>(i.zero,i.size,i.bytes))=some (some (.agg #[.int .i64 0,.string { data:=#[] },.slice none 0 0]),3,48):=by kernel_rfl
theorem stV_len (vb rb k:Nat):(stV vb rb k).length=2*k:=by
 induction k with
 | zero=>rfl
 | succ k ih=>rw [stV_snoc,List.length_append,ih];simp;omega
theorem stT_len (P:List Nat) (k:Nat):(stT P k).length=k:=by unfold stT;simp
theorem stQ_len (g h:Nat) (P:List Nat) (k:Nat):(stQ g h P k).length=k:=by unfold stQ;simp
def nilN:NSta:=⟨[],[],[]⟩
def hasAll (p c:Nat) (P:List Nat):Bool:=hasB p 0 c&&P.all (hasB p 0)
def stR (a b c d:ByteArray) (lo:Int) (cc:ByteArray) (P:List ByteArray) (vl rd:ByteArray):Nat × NSta:=
 if chkV [] (cc :: vl :: rd :: P) a b c d≠0 then (chkV [] (cc :: vl :: rd :: P) a b c d,nilN)
 else if vl.size=0∨rd.size=0 then (11,nilN)
 else if P.length≠4 then (6,nilN)
 else if hasAll (numb a) (numb cc) (P.map numb)=false then (13,nilN)
 else (0,stN (numb a) (numb c) (numb d) lo (numb cc) (P.map numb) (numb vl) (numb rd))
def StPost (w:World) (r:Nat × NSta) (e:Ending) (w':World):Prop:=∃v1 v2 v3,e=.returned (.tuple #[.agg #[v1,v2,v3],.int .i64 (r.1:Int)])∧NAt w' v1 v2 v3 r.2∧Below w.heap.size w w'
theorem nat_nil (w:World):NAt w (.slice none 0 0) (.slice none 0 0) (.slice none 0 0) nilN:=⟨⟨none,0,rfl,.inl rfl⟩,⟨none,0,rfl,.inl rfl⟩,⟨none,0,rfl,.inl rfl⟩⟩
theorem StPost.err {w w':World} {k:Nat} (h:Below w.heap.size w w'):StPost w (k,nilN) (.returned (.tuple #[.agg #[.slice none 0 0,.slice none 0 0,.slice none 0 0],.int .i64 (k:Int)])) w':=
 ⟨_,_,_,rfl,nat_nil _,h⟩
theorem stR_chk {a b c d:ByteArray} {lo:Int} {cc:ByteArray} {P:List ByteArray} {vl rd:ByteArray} {m:Nat} (h:chkV [] (cc :: vl :: rd :: P) a b c d=m) (hm:m≠0):stR a b c d lo cc P vl rd=(m,nilN):=by
 unfold stR;rw [h,if_pos hm]
theorem chk_nums {a b c d:ByteArray} {cc:ByteArray} {P:List ByteArray} {vl rd:ByteArray} (h:chkV [] (cc :: vl :: rd :: P) a b c d=0):kyV a b c d=0∧vldB cc=true∧vldB vl=true∧vldB rd=true∧P.all vldB=true:=by
 unfold chkV at h;split at h
 ·rename_i h1;have h2:=h1.2;simp only [List.all_cons,Bool.and_eq_true] at h2;exact ⟨h,h2.1,h2.2.1,h2.2.2.1,h2.2.2.2⟩
 ·omega
theorem all_nums {P:List ByteArray} (h:P.all vldB=true):P=(P.map numb).map E:=by
 induction P with
 | nil=>rfl
 | cons x t ih =>
  rw [List.all_cons,Bool.and_eq_true] at h;obtain ⟨n,_,rfl⟩:=of_vldB h.1;rw [List.map_cons,List.map_cons,numb_E,←ih h.2]
theorem stR_zero {p g k c1 vb rb:Nat} {lo:Int} {P:List Nat} (h:chkV [] (E c1 :: E vb :: E rb :: P.map E) (E p) (E 0) (E g) (E k)=0) :
  stR (E p) (E 0) (E g) (E k) lo (E c1) (P.map E) (E vb) (E rb)=if vb=0∨rb=0 then (11,nilN) else if P.length≠4 then (6,nilN) else if hasAll p c1 P=false then (13,nilN) else (0,stN p g k lo c1 P vb rb):=by
 have e:(P.map E).map numb=P:=by
                    rw [List.map_map];conv=>rhs;rw [←List.map_id P]
                    exact List.map_congr_left fun x _=>numb_E x
 unfold stR;rw [if_neg (by rw [h];decide),e,List.length_map,numb_E,numb_E,numb_E,numb_E,numb_E,numb_E];simp only [empty_E]
end
end Go.Proofs.YtfgandecbkbleaaGreatDoor
