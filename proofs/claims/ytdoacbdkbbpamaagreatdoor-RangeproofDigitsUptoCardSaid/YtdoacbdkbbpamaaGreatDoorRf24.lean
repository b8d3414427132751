/- dominoref23.formed,openings;dominoref24.formed,ready,reduced,Distance. -/
import Derived.Test.YtdoacbdkbbpamaaGreatDoorPq24
import Derived.Test.YtdoacbdkbbpamaaGreatDoorFo24
import Derived.Test.YtdoacbdkbbpamaaGreatDoorRPed1
import Derived.Test.YtdoacbdkbbpamaaGreatDoorIsm
import Derived.Test.YtdoacbdkbbpamaaGreatDoorExp
import Derived.Test.YtdoacbdkbbpamaaGreatDoorRef5
set_option linter.unusedVariables false
set_option linter.unusedSimpArgs false
set_option maxRecDepth 100000
set_option maxHeartbeats 16000000
namespace Go.Proofs.YtdoacbdkbbpamaaGreatDoor
section
/- The number of some digits: what bits.Value returns (plain). -/
open Go.RowKit Go.Shelf
def digB (x:Opn):Bool:=decide (intb x.vn x.va=0∨intb x.vn x.va=1)
def dsum:List Opn→Nat
 | []=>0
 | x :: t=>(intb x.vn x.va).toNat+2*dsum t
def valE (L:List Opn):Nat × Nat:=if L.all vlO=false then (0,3) else if 32<L.length then (0,6) else if L.all digB=false then (0,2) else (dsum L,0)
theorem dsum_app:∀(A:List Opn) (x:Opn),dsum (A++[x])=dsum A+(intb x.vn x.va).toNat*2^A.length
 | [],x=>by simp [dsum]
 | y :: t,x=>by
  show (intb y.vn y.va).toNat+2*dsum (t++[x])=(intb y.vn y.va).toNat+2*dsum t+(intb x.vn x.va).toNat*2^(t.length+1);rw [dsum_app t x,Nat.pow_succ,Nat.mul_add,←Nat.add_assoc];congr 1
  rw [Nat.mul_comm (2^t.length) 2,←Nat.mul_assoc,←Nat.mul_assoc,Nat.mul_comm 2]
theorem digB_le {x:Opn} (h:digB x=true):(intb x.vn x.va).toNat≤1∧0≤intb x.vn x.va:=by
 rcases of_decide_eq_true h with e | e <;> rw [e] <;> decide
theorem dsum_lt:∀(A:List Opn),A.all digB=true→dsum A<2^A.length
 | [],_=>by decide
 | x :: t,h=>by
  rw [List.all_cons,Bool.and_eq_true] at h;have h1:=digB_le h.1;have h2:=dsum_lt t h.2;show (intb x.vn x.va).toNat+2*dsum t<2^(t.length+1);rw [Nat.pow_succ];omega
theorem dsum_bits (f:Nat→Opn) (v:Nat):∀n,(∀j,j<n→intb (f j).vn (f j).va=((v / 2^j%2:Nat):Int))→dsum ((List.range n).map f)=v%2^n
 | 0,_=>by simp [dsum,Nat.mod_one]
 | n+1,h=>by
  rw [List.range_succ,List.map_append,List.map_cons,List.map_nil,dsum_app,dsum_bits f v n (fun j hj=>h j (by omega)),h n (by omega),Int.toNat_natCast,List.length_map,List.length_range,Nat.mod_pow_succ,Nat.mul_comm]
theorem intb_E (n:Nat):intb false (E n)=(n:Int):=by unfold intb;rw [numb_E];rfl
theorem ivB_E (n:Nat) (h:n<256^128):ivB false (E n)=true:=by
 have:=ivB_I (n:Int) (by rw [Int.natAbs_natCast];exact h);rwa [sg_nat,Int.natAbs_natCast] at this
theorem dgs_lt (v n j:Nat):(dgs v n).getD j 0<2:=by
 by_cases h:j<n
 ·rw [dgs_at h];exact Nat.mod_lt _ (by decide)
 ·rw [List.getD_eq_getElem?_getD,List.getElem?_eq_none (by unfold dgs;simp;omega)];decide
theorem valE_prO (att:Att) (q v n:Nat) (T:Tp) (hq:q<256^8) (hn:n≤32) (hv:v<2^n) (hC:∀j,j<n→(prC att q T j).1=0):valE ((prO att q (dgs v n) T n).map nop)=(v,0):=by
 have h128:(256:Nat)^8≤256^128:=Nat.pow_le_pow_right (by decide) (by decide);have hlen:((prO att q (dgs v n) T n).map nop).length=n:=by unfold prO;simp
 have hall:∀x∈(prO att q (dgs v n) T n).map nop,vlO x=true∧digB x=true:=by
  intro x hx;obtain ⟨y,hy,rfl⟩:=List.mem_map.1 hx;unfold prO at hy;obtain ⟨j,hj,rfl⟩:=List.mem_map.1 hy;have hj:=List.mem_range.1 hj;have h1:=dgs_lt v n j;have h2:(prC att q T j).2<q:=coin_ltq (hC j hj);constructor
  ·show (ivB false (E ((dgs v n).getD j 0))&&ivB false (E (prC att q T j).2))=true;rw [ivB_E _ (Nat.lt_trans (Nat.lt_of_lt_of_le h1 (by decide)) (Nat.lt_of_lt_of_le (by decide:3<256^8) h128)),ivB_E _ (by omega)];rfl
  ·show decide (intb false (E ((dgs v n).getD j 0))=0∨intb false (E ((dgs v n).getD j 0))=1)=true;rw [intb_E];exact decide_eq_true (by omega)
 unfold valE;rw [if_neg (by rw [List.all_eq_true.2 (fun x hx=>(hall x hx).1)];decide),hlen,if_neg (by omega),if_neg (by rw [List.all_eq_true.2 (fun x hx=>(hall x hx).2)];decide)];have e:(prO att q (dgs v n) T n).map nop=(List.range n).map (fun j=>nop ((dgs v n).getD j 0,(prC att q T j).2)):=by unfold prO;rw [List.map_map];rfl
 rw [e,dsum_bits _ v n (fun j hj=>by
  show intb false (E ((dgs v n).getD j 0))=_;rw [intb_E,dgs_at hj]),Nat.mod_eq_of_lt hv]
theorem prO_len2 (att:Att) (q:Nat) (X:List Nat) (T:Tp) (n:Nat):(prO att q X T n).length=n:=by unfold prO;simp
theorem rgS_good {att:Att} {p g h q x y:Nat} {T:Tp} {n:Nat} (h1:∀j,j<n→(prC att q T j).1=0) (h2:∀j,j<n→(prC att q (T.on n) j).1=0) :
  rgS att p g h q x y T n=⟨0,prP att p g h q (dgs x n) T n++prP att p g h q (dgs y n) (T.on n) n,prO att q (dgs x n) T n++prO att q (dgs y n) (T.on n) n,T.on (n+n)⟩:=by
 unfold rgS;rw [splN_ok h1,splN_ok h2,if_neg (fun h=>h rfl),if_neg (fun h=>h rfl)]
end
section
open Go.RowKit Go.Shelf
theorem r23formed0_c (a b c d:ByteArray) (w:World) (ha:a.size≤1000) (hb:b.size≤1000) (hc:c.size≤1000) (hd:d.size≤1000) :
  Calls Tryz.prog 82 #[.agg #[.string a,.string b,.string c,.string d]] w fun e w'=>e=.returned (.bool (vl4 a b c d))∧Below w.heap.size w w':=by
 have HA:Hid (a.size≤4611686018427387904):=by unfold Hid;omega
 have HB:Hid (b.size≤4611686018427387904):=by unfold Hid;omega
 have HC:Hid (c.size≤4611686018427387904):=by unfold Hid;omega
 have HD:Hid (d.size≤4611686018427387904):=by unfold Hid;omega
 have HV:Hid (vl4 a b c d=(vldB a&&vldB b&&vldB c&&vldB d)):=rfl;clear ha hb hc hd;cases e1:vldB a
 ·have E1:=Lib.hid e1;have HR:Hid (vl4 a b c d=false):=by rw [Hid,HV.out,e1];rfl
  clear e1 HV;go_enter Tryz.func82,Tryz.ntmps82
  go_wp2_with fail
  refine (rvalidV_c a _ _ HA.out E1.out).mono ?_;rintro e w' ⟨rfl,rfl⟩;go_wp2;go_ret
  exact ⟨rb HR.out.symm,b1 _ _⟩
 ·have E1:=Lib.hid e1;cases e2:vldB b
  ·have E2:=Lib.hid e2;have HR:Hid (vl4 a b c d=false):=by rw [Hid,HV.out,e1,e2];rfl
   clear e1 e2 HV;go_enter Tryz.func82,Tryz.ntmps82
   go_wp2_with fail
   refine (rvalidV_c a _ _ HA.out E1.out).mono ?_;rintro e w' ⟨rfl,rfl⟩;go_wp2_with fail
   refine (rvalidV_c b _ _ HB.out E2.out).mono ?_;rintro e w' ⟨rfl,rfl⟩;go_wp2;go_ret
   exact ⟨rb HR.out.symm,b1 _ _⟩
  ·have E2:=Lib.hid e2;cases e3:vldB c
   ·have E3:=Lib.hid e3;have HR:Hid (vl4 a b c d=false):=by rw [Hid,HV.out,e1,e2,e3];rfl
    clear e1 e2 e3 HV;go_enter Tryz.func82,Tryz.ntmps82
    go_wp2_with fail
    refine (rvalidV_c a _ _ HA.out E1.out).mono ?_;rintro e w' ⟨rfl,rfl⟩;go_wp2_with fail
    refine (rvalidV_c b _ _ HB.out E2.out).mono ?_;rintro e w' ⟨rfl,rfl⟩;go_wp2_with fail
    refine (rvalidV_c c _ _ HC.out E3.out).mono ?_;rintro e w' ⟨rfl,rfl⟩;go_wp2;go_ret
    exact ⟨rb HR.out.symm,b1 _ _⟩
   ·have E3:=Lib.hid e3;have HR:Hid (vl4 a b c d=vldB d):=by rw [Hid,HV.out,e1,e2,e3];rfl
    clear e1 e2 e3 HV;go_enter Tryz.func82,Tryz.ntmps82
    go_wp2_with fail
    refine (rvalidV_c a _ _ HA.out E1.out).mono ?_;rintro e w' ⟨rfl,rfl⟩;go_wp2_with fail
    refine (rvalidV_c b _ _ HB.out E2.out).mono ?_;rintro e w' ⟨rfl,rfl⟩;go_wp2_with fail
    refine (rvalidV_c c _ _ HC.out E3.out).mono ?_;rintro e w' ⟨rfl,rfl⟩;go_wp2_with fail
    refine (rvalid_c d _ HD.out).mono ?_;rintro e w' ⟨rfl,rfl⟩;go_wp2;go_ret
    exact ⟨rb HR.out.symm,b1 _ _⟩
theorem r23formed_c (a b c d:ByteArray) (r:Bool) (w:World) (ha:a.size≤1000) (hb:b.size≤1000) (hc:c.size≤1000) (hd:d.size≤1000) (hr:vl4 a b c d=r) :
  Calls Tryz.prog 82 #[.agg #[.string a,.string b,.string c,.string d]] w fun e w'=>e=.returned (.bool r)∧Below w.heap.size w w':=by
 rw [←hr];exact r23formed0_c a b c d w ha hb hc hd
theorem r24openings_c (L:List Opn) (v:Value) (w:World) (hn:L.length≤9223372036854775807) (hs:∀x∈L,x.va.size≤1000∧x.ra.size≤1000) (hR:OsAt w v L) :
  Calls Tryz.prog 47 #[v] w fun e w'=>e=.returned (.bool (L.all vlO))∧Below w.heap.size w w':=by
 obtain ⟨ao,cp,rfl⟩:=RAt.form hR;obtain ⟨r,hr⟩:∃r,r=L.all vlO:=⟨_,rfl⟩;rw [←hr];have HR:=Lib.hid hr;obtain ⟨m,hm⟩:∃m,m=L.length:=⟨_,rfl⟩;have HM:=Lib.hid hm;rw [←hm] at hR hn ⊢;have HS:=Lib.hid hs;clear hr hm hs;go_enter Tryz.func47,Tryz.ntmps47
 go_upto_region 2 with fail
 go_loopw [3] (fun i wr=>∃k:Nat,k≤m∧i=.int .i64 k∧Hid ((L.take k).all vlO=true)∧Below w.heap.size w wr) (fun i _=>m-(intOf i).toNat)
 case atStart=>exact ⟨0,by omega,rfl,rfl,Below.refl _ _⟩
 case round =>
  obtain ⟨k,hk,rfl,HK,hbr⟩:=hrel;obtain ⟨wp,hwp⟩:∃wp,wp=wr:=⟨_,rfl⟩;subst hwp;have hRp:=OsAt.after hR hbr;by_cases hlt:k<m
  ·have hkl:k<L.length:=by rw [←HM.out];exact hlt
   obtain ⟨bb,o,rfl,hbb,x1,x2,x3,x4⟩:=OsAt.at_ hRp hkl;have hsz:=HS.out _ (List.getElem_mem hkl);have h0k:(0:Int)≤(k:Int):=by omega
   have h1k:(k:Int)<(m:Int):=by omega
   have HT:=Lib.hid (all_take vlO L k hkl);have HBD:Hid (vlO L[k]=false→r=false):=fun h=>by rw [HR.out,all_bad vlO L k hkl h]
   have HVX:Hid (vlO L[k]=(ivB L[k].vn L[k].va&&ivB L[k].rn L[k].ra)):=rfl;have HI1:Hid (∀w:World,Calls Tryz.prog 41 #[.agg #[.bool L[k].vn,.string L[k].va]] w fun e w'=>e=.returned (.bool (ivB L[k].vn L[k].va))∧Below w.heap.size w w'):=fun w=>rivalB_c _ _ _ w hsz.1 rfl
   have HI2:Hid (∀w:World,Calls Tryz.prog 41 #[.agg #[.bool L[k].rn,.string L[k].ra]] w fun e w'=>e=.returned (.bool (ivB L[k].rn L[k].ra))∧Below w.heap.size w w'):=fun w=>rivalB_c _ _ _ w hsz.2 rfl
   generalize vlO (L[k]'hkl)=q at HT HBD HVX;generalize (L[k]'hkl)=x at x1 x2 x3 x4 hsz HVX HI1 HI2;generalize ivB x.vn x.va=q1 at HI1 HVX;generalize ivB x.rn x.ra=q2 at HI2 HVX;go_wp2_with fail
   refine (HI1.out _).mono ?_;rintro e w2 ⟨rfl,hb2⟩;have hbn:=bt hbr hb2;have z3:=(hb2.cell (p:=⟨bb,o+k*4+2,none⟩) hbb).trans x3;have z4:=(hb2.cell (p:=⟨bb,o+k*4+3,none⟩) hbb).trans x4;have hbb2:bb<w2.heap.size:=Nat.lt_of_lt_of_le hbb hb2.size;clear x1 x2 x3 x4 hbb hb2;cases q1
   ·have HF:Hid (r=false):=by rw [Hid];exact HBD.out (by rw [HVX.out];rfl)
    go_wp2;go_ret
    exact ⟨by first | (rw [HF.out];done) | (rw [HF.out];rfl),hbn⟩
   ·go_wp2_with fail
    refine (HI2.out _).mono ?_;rintro e w3 ⟨rfl,hb3⟩;replace hbn:=bt hbn hb3;clear hb3;cases q2
    ·have HF:Hid (r=false):=by rw [Hid];exact HBD.out (by rw [HVX.out];rfl)
     go_wp2;go_ret
     exact ⟨by first | (rw [HF.out];done) | (rw [HF.out];rfl),hbn⟩
    ·have HX:Hid ((L.take (k+1)).all vlO=true):=by rw [Hid,HT.out,HK.out,HVX.out];rfl
     go_wp2;go_roundw
     case rel=>exact ⟨k+1,by omega,by go_num,HX,hbn⟩
     case measure=>simp [intOf];omega
  ·obtain rfl:k=m:=by omega
   have HE:Hid (r=true):=by
    rw [Hid,HR.out,←all_end vlO L k HM.out HK.out]
   go_wp2;go_ret
   exact ⟨by first | (rw [HE.out];done) | (rw [HE.out];rfl),hbr⟩
def rd24 (a b c d:ByteArray):Nat:=if pedV a b c d≠0 then pedV a b c d else if b.size=0 then 1 else 0
theorem r24ready_c (a b c d:ByteArray) (w:World) (ha:a.size≤8) (hb:b.size≤100) (hc:c.size≤100) (hd:d.size≤100) :
  Calls Tryz.prog 49 #[.agg #[.string a,.string b,.string c,.string d]] w fun e w'=>e=.returned (.int .i64 (rd24 a b c d:Int))∧Below w.heap.size w w':=by
 obtain ⟨k,hk⟩:∃k,k=pedV a b c d:=⟨_,rfl⟩;have HP:Hid (∀w:World,Calls Tryz.prog 80 #[.agg #[.string a,.string b,.string c,.string d]] w fun e w'=>e=.returned (.int .i64 (k:Int))∧Below w.heap.size w w'):=fun w=>rpedA_c a b c d k w ha hb hc hd hk.symm
 have HE:Hid (rd24 a b c d=if k≠0 then k else if b.size=0 then 1 else 0):=by rw [Hid,hk];rfl
 generalize rd24 a b c d=r at HE ⊢;clear hk ha hb hc hd;have hK:=Blk.new w #[.string a,.string b,.string c,.string d] 35;have hBW:=b1 w (.cells #[.string a,.string b,.string c,.string d] 35);obtain ⟨hKc0,hKf0,hKc1,hKf1,hKc2,hKf2,hKc3,hKf3⟩:=hK.x4;go_enter Tryz.func49,Tryz.ntmps49
 go_wp2_with fail
 refine (HP.out _).mono ?_;rintro e w2 ⟨rfl,hb⟩;clear hKc0 hKf0 hKc1 hKf1 hKc2 hKf2 hKc3 hKf3;replace hK:=hK.after hb;replace hBW:=bt hBW hb;clear hb;by_cases h0:k=0
 case neg =>
  have hkb:((k:Int) != 0)=true:=by rw [bne_iff_ne];omega
  have HF:Hid (r=k):=by rw [Hid,HE.out,if_pos h0]
  clear HE h0;go_wp2;go_ret
  exact ⟨by rw [HF.out];rfl,hBW⟩
 case pos =>
  subst h0;by_cases hbs:b.size=0
  ·have hz:=z_str hbs;have hz2:(b.toList==[])=true:=by simpa using hz
   have HF:Hid (r=1):=by rw [Hid,HE.out,if_neg (by decide),if_pos hbs]
   clear HE hbs;obtain ⟨hKc0,hKf0,hKc1,hKf1,hKc2,hKf2,hKc3,hKf3⟩:=hK.x4;go_wp2;go_ret
   exact ⟨by rw [HF.out];rfl,hBW⟩
  ·have hz:=nz_str (Nat.pos_of_ne_zero hbs)
   have hz2:(b.toList==[])=false:=by
    rw [beq_eq_false_iff_ne];intro e;rw [e] at hz;cases hz
   have HF:Hid (r=0):=by rw [Hid,HE.out,if_neg (by decide),if_neg hbs]
   clear HE hbs;obtain ⟨hKc0,hKf0,hKc1,hKf1,hKc2,hKf2,hKc3,hKf3⟩:=hK.x4;go_wp2;go_ret
   exact ⟨by rw [HF.out];rfl,hBW⟩
theorem r24reduced_c (p q g h x:Nat) (n:Bool) (w:World) (hq:q<256^128) (hx:x<256^128) :
  Calls Tryz.prog 50 #[.agg #[.string (E p),.string (E q),.string (E g),.string (E h)],.agg #[.bool n,.string (E x)]] w fun e w'=>e=.returned (.bool (!n&&decide (x<q)))∧Below w.heap.size w w':=by
 obtain ⟨r,hr⟩:∃r,r=(!n&&decide (x<q)):=⟨_,rfl⟩;rw [←hr];have HR:=Lib.hid hr;have HO:Hid (∀w:World,Calls Tryz.prog 81 #[.string (E x),.string (E q)] w fun e w'=>e=.returned (.int .i64 (cmpN x q))∧Below w.heap.size w w'):=fun w=>rorder_c x q w (by have:=sz x hx;omega) (by have:=sz q hq;omega)
 have hK:=blk2a w #[.string (E p),.string (E q),.string (E g),.string (E h)] #[.bool n,.string (E x)] 35 37;have hI:=blk2b w #[.string (E p),.string (E q),.string (E g),.string (E h)] #[.bool n,.string (E x)] 35 37;have hBW:=b2 w (.cells #[.string (E p),.string (E q),.string (E g),.string (E h)] 35) (.cells #[.bool n,.string (E x)] 37);clear hr hq hx;cases n
 ·by_cases hlt:x<q
  ·have e1:decide (cmpN x q<0)=true:=by unfold cmpN;rw [if_pos hlt];rfl
   have HF:Hid (r=true):=by rw [Hid,HR.out,decide_eq_true hlt];rfl
   clear hlt;obtain ⟨hKc0,hKf0,hKc1,hKf1,hKc2,hKf2,hKc3,hKf3⟩:=hK.x4;obtain ⟨hIc0,hIf0,hIc1,hIf1⟩:=hI.x2;go_enter Tryz.func50,Tryz.ntmps50
   go_wp2_with fail
   refine (HO.out _).mono ?_;rintro e w2 ⟨rfl,hb⟩;go_wp2;go_ret
   exact ⟨by first | (rw [HF.out];done) | (rw [HF.out];rfl),bt hBW hb⟩
  ·have e1:decide (cmpN x q<0)=false:=by unfold cmpN;rw [if_neg hlt];split <;> rfl
   have HF:Hid (r=false):=by rw [Hid,HR.out,decide_eq_false hlt];rfl
   clear hlt;obtain ⟨hKc0,hKf0,hKc1,hKf1,hKc2,hKf2,hKc3,hKf3⟩:=hK.x4;obtain ⟨hIc0,hIf0,hIc1,hIf1⟩:=hI.x2;go_enter Tryz.func50,Tryz.ntmps50
   go_wp2_with fail
   refine (HO.out _).mono ?_;rintro e w2 ⟨rfl,hb⟩;go_wp2;go_ret
   exact ⟨by first | (rw [HF.out];done) | (rw [HF.out];rfl),bt hBW hb⟩
 ·have HF:Hid (r=false):=HR.out;obtain ⟨hKc0,hKf0,hKc1,hKf1,hKc2,hKf2,hKc3,hKf3⟩:=hK.x4;obtain ⟨hIc0,hIf0,hIc1,hIf1⟩:=hI.x2;go_enter Tryz.func50,Tryz.ntmps50
  go_wp2;go_ret
  exact ⟨by first | (rw [HF.out];done) | (rw [HF.out];rfl),hBW⟩
end
end Go.Proofs.YtdoacbdkbbpamaaGreatDoor
