/- SquarerangePrepares: the law. -/
import Derived.Test.YtfgandecbkbleaaGreatDoorAwk27
import Derived.Test.YtfgandecbkbleaaGreatDoorRw27
import Derived.Test.YtfgandecbkbleaaGreatDoorLc27
import Derived.Test.YtfgandecbkbleaaGreatDoorRp27
import Derived.Test.YtfgandecbkbleaaGreatDoorSmT
set_option linter.unusedVariables false
set_option linter.unusedSimpArgs false
set_option maxRecDepth 100000
set_option maxHeartbeats 16000000
namespace Go.Proofs.YtfgandecbkbleaaGreatDoor
section
/- SquarerangeWitnesses: the law. -/
open Go.RowKit Go.Shelf
theorem ofw_inv {P:List Opn} (h:ofw P=true):P.length≤6∧∀o∈P,o.va.size≤12∧o.ra.size≤12:=by
 simp only [ofw,szO,Bool.and_eq_true,List.all_eq_true,decide_eq_true_eq] at h;exact ⟨h.2,h.1⟩
theorem kfw_inv {a b c d:ByteArray} (h:kfw a b c d=true):a.size≤8∧b.size≤8∧c.size≤12∧d.size≤12:=by
 simp only [kfw,Bool.and_eq_true,decide_eq_true_eq] at h;exact ⟨h.1.1.1,h.1.1.2,h.1.2,h.2⟩
theorem witR_len (a b c d:ByteArray) (vn:Bool) (va:ByteArray) (rn:Bool) (ra:ByteArray) (P:List Opn) (hP:P.length≤6):(witR a b c d vn va rn ra P).2.length≤1000:=by
 unfold witR;split
 ·simp
 ·split
  ·simp
  ·have:(oZ P).length=P.length*2:=by
    clear hP;rename_i h1 h2;clear h1 h2;unfold oZ;induction P with
    | nil=>rfl
    | cons x t ih=>rw [List.flatMap_cons,List.length_append,ih,List.length_cons];simp;omega
   simp only [List.length_append,List.length_cons,List.length_nil,this];omega
theorem wi_walk (a b c d:ByteArray) (lo:Int) (vn:Bool) (va:ByteArray) (rn:Bool) (ra vl rd:ByteArray) (po:Option Addr) (np pc:Nat) (w:World) (ob:Bool) (G:Prop)
  (hs:∀w':World,Calls Tryz.prog 8 #[.agg #[.string a,.string b,.string c,.string d,.int .i64 lo,.bool vn,.string va,.bool rn,.string ra,.string vl,.string rd]] w' fun e w2=>GateP G w' w2 e)
  (ho:∀w',Below w.heap.size w w'→Calls Tryz.prog 9 #[.slice po np pc] w' fun e w2=>e=.returned (.bool ob)∧Below w'.heap.size w' w2)
  (hg:G→ob=true→∃(k:Nat) (Z:List Int),Z.length≤1000∧∀w',Below w.heap.size w w' →
   Calls Tryz.prog 11 #[.agg #[.string a,.string b,.string c,.string d],.int .i64 lo,.agg #[.bool vn,.string va,.bool rn,.string ra],.slice po np pc] w' (WtPost w' (k,Z)) ∧
   Calls Tryz.prog 12 #[.agg #[.string a,.string b,.string c,.string d],.int .i64 lo,.agg #[.bool vn,.string va,.bool rn,.string ra],.slice po np pc] w' (WtPost w' (k,Z))) :
  Calls Tryz.prog 3 #[.agg #[.string a,.string b,.string c,.string d,.int .i64 lo,.bool vn,.string va,.bool rn,.string ra,.string vl,.string rd],.slice po np pc] w fun e w'=>e=.returned (.bool true)∧Below w.heap.size w w':=by
 have HS:=Lib.hid hs;have HO:=Lib.hid ho;have HG:=Lib.hid hg;have HW:=Lib.hid (fun w=>awake27_c w);clear hs ho hg;have hB:=Blk.new w #[.string a,.string b,.string c,.string d,.int .i64 lo,.bool vn,.string va,.bool rn,.string ra,.string vl,.string rd] 32;have hBW:=b1 w (.cells #[.string a,.string b,.string c,.string d,.int .i64 lo,.bool vn,.string va,.bool rn,.string ra,.string vl,.string rd] 32);obtain ⟨hBc0,hBf0,hBc1,hBf1,hBc2,hBf2,hBc3,hBf3,hBc4,hBf4,hBc5,hBf5,hBc6,hBf6,hBc7,hBf7,hBc8,hBf8,hBc9,hBf9,hBc10,hBf10⟩:=hB.x11;go_enter Tryz.func3,Tryz.ntmps3
 go_wp2_with fail
 refine (HS.out _).mono ?_;rintro e w1 ⟨r,rfl,hr,hb1⟩;have HR:=Lib.hid hr;clear hr;clear hBc0 hBf0 hBc1 hBf1 hBc2 hBf2 hBc3 hBf3 hBc4 hBf4 hBc5 hBf5 hBc6 hBf6 hBc7 hBf7 hBc8 hBf8 hBc9 hBf9 hBc10 hBf10;replace hB:=hB.after hb1;replace hBW:=bt hBW hb1;obtain ⟨hBc0,hBf0,hBc1,hBf1,hBc2,hBf2,hBc3,hBf3,hBc4,hBf4,hBc5,hBf5,hBc6,hBf6,hBc7,hBf7,hBc8,hBf8,hBc9,hBf9,hBc10,hBf10⟩:=hB.x11;cases r
 ·
  go_wp2_with fail
  refine (HW.out _).mono ?_;rintro e w2 ⟨rfl,hb2⟩;go_wp2;go_ret
  exact ⟨rfl,bt hBW hb2⟩
 go_wp2_with fail
 refine (HO.out _ hBW).mono ?_;rintro e w2 ⟨rfl,hb2⟩;clear hBc0 hBf0 hBc1 hBf1 hBc2 hBf2 hBc3 hBf3 hBc4 hBf4 hBc5 hBf5 hBc6 hBf6 hBc7 hBf7 hBc8 hBf8 hBc9 hBf9 hBc10 hBf10;replace hB:=hB.after hb2;replace hBW:=bt hBW hb2;obtain ⟨hBc0,hBf0,hBc1,hBf1,hBc2,hBf2,hBc3,hBf3,hBc4,hBf4,hBc5,hBf5,hBc6,hBf6,hBc7,hBf7,hBc8,hBf8,hBc9,hBf9,hBc10,hBf10⟩:=hB.x11;cases ob
 ·
  go_wp2_with fail
  refine (HW.out _).mono ?_;rintro e w3 ⟨rfl,hb3⟩;go_wp2;go_ret
  exact ⟨rfl,bt hBW hb3⟩
 obtain ⟨k,Z,hZ,hgo⟩:=HG.out (HR.out (by trivial)) (by trivial);have HX:=Lib.hid hgo;have HZ:=Lib.hid hZ;clear hgo hZ HG HR;go_wp2_with fail
 refine (HX.out _ hBW).1.mono ?_;rintro e w3 ⟨v1,rfl,hz1,hb3⟩;clear hBc0 hBf0 hBc1 hBf1 hBc2 hBf2 hBc3 hBf3 hBc4 hBf4 hBc5 hBf5 hBc6 hBf6 hBc7 hBf7 hBc8 hBf8 hBc9 hBf9 hBc10 hBf10;replace hB:=hB.after hb3;replace hBW:=bt hBW hb3;obtain ⟨hBc0,hBf0,hBc1,hBf1,hBc2,hBf2,hBc3,hBf3,hBc4,hBf4,hBc5,hBf5,hBc6,hBf6,hBc7,hBf7,hBc8,hBf8,hBc9,hBf9,hBc10,hBf10⟩:=hB.x11;go_wp2_with fail
 refine (HX.out _ hBW).2.mono ?_;rintro e w4 ⟨v2,rfl,hz2,hb4⟩;replace hz1:=ZsAt.after hz1 hb4;replace hBW:=bt hBW hb4;clear hBc0 hBf0 hBc1 hBf1 hBc2 hBf2 hBc3 hBf3 hBc4 hBf4 hBc5 hBf5 hBc6 hBf6 hBc7 hBf7 hBc8 hBf8 hBc9 hBf9 hBc10 hBf10;clear hB;go_wp2_with fail
 refine (HW.out _).mono ?_;rintro e w5 ⟨rfl,hb5⟩;replace hz1:=ZsAt.after hz1 hb5;replace hz2:=ZsAt.after hz2 hb5;replace hBW:=bt hBW hb5;go_wp2_with fail
 refine (sameInts_c Z v1 v2 _ HZ.out hz1 hz2).mono ?_;rintro e w6 ⟨rfl,hb6⟩;have hk:((k:Int)==(k:Int))=true:=by rw [beq_iff_eq]
 go_wp2;go_ret
 exact ⟨rfl,bt hBW hb6⟩
theorem wi27_c (a b c d:ByteArray) (lo:Int) (vn:Bool) (va:ByteArray) (rn:Bool) (ra vl rd:ByteArray) (P:List Opn) (po:Option Addr) (np pc:Nat) (w:World)
  (hva:va.size≤9223372036854775807) (hra:ra.size≤9223372036854775807) (hPl:P.length≤9223372036854775807) (hPs:∀x∈P,x.va.size≤9223372036854775807∧x.ra.size≤9223372036854775807) (hO:OsAt w (.slice po np pc) P) :
  Calls Tryz.prog 3 #[.agg #[.string a,.string b,.string c,.string d,.int .i64 lo,.bool vn,.string va,.bool rn,.string ra,.string vl,.string rd],.slice po np pc] w fun e w'=>e=.returned (.bool true)∧Below w.heap.size w w':=by
 refine wi_walk a b c d lo vn va rn ra vl rd po np pc w (ofw P) (gate27 a b c d lo va ra vl rd) (fun w'=>l27small_c a b c d lo vn va rn ra vl rd w' hva hra) (fun w' hb=>l27openings_c P _ w' hPl hPs (hO.after hb)) (fun hg ho=>?_);obtain ⟨hk,h1,h2,_⟩:=hg;obtain ⟨k1,k2,k3,k4⟩:=kfw_inv hk;obtain ⟨p1,p2⟩:=ofw_inv ho;refine ⟨(witR a b c d vn va rn ra P).1,(witR a b c d vn va rn ra P).2,witR_len a b c d vn va rn ra P p1,fun w' hb=>⟨?_,?_⟩⟩
 ·exact sqwit_c a b c d lo vn va rn ra P _ w' k1 (by omega) (by omega) (by omega) h1 h2 p1 p2 (hO.after hb)
 ·exact rwit_c a b c d lo vn va rn ra P _ w' k1 (by omega) (by omega) (by omega) h1 h2 p1 p2 (hO.after hb)
end
section
open Go.RowKit Go.Shelf
theorem tfw_inv {L:List ByteArray} {sd:ByteArray} (h:tfw L sd=true):L.length≤80∧(∀x∈L,x.size≤16)∧sd.size≤60:=by
 simp only [tfw,szN,Bool.and_eq_true,List.all_eq_true,decide_eq_true_eq] at h;exact ⟨h.1.2,h.1.1,h.2⟩
theorem prR_len (att:Att) (a b c d:ByteArray) (lo:Int) (vn:Bool) (va:ByteArray) (rn:Bool) (ra rd:ByteArray) (T:Tp) (hT:T.vals.length≤1000):(prR att a b c d lo vn va rn ra rd T).parts.length≤1000∧(prR att a b c d lo vn va rn ra rd T).ops.length≤1000∧(prR att a b c d lo vn va rn ra rd T).tp.vals.length≤1000:=by
 have h0:∀k,(⟨k,[],[],Tp.nil⟩:PrR).parts.length≤1000∧(⟨k,[],[],Tp.nil⟩:PrR).ops.length≤1000∧(⟨k,[],[],Tp.nil⟩:PrR).tp.vals.length≤1000:=fun k=>⟨by simp,by simp,by simp [Tp.nil]⟩
 unfold prR;split
 ·exact h0 _
 ·split
  ·exact h0 _
  ·split
   ·exact h0 _
   ·split
    ·exact h0 _
    ·unfold prN;split
     ·exact h0 _
     ·exact ⟨by simp [prP_len],by simp [prO_len],hT⟩
theorem pr_walk (a b c d:ByteArray) (lo:Int) (vn:Bool) (va:ByteArray) (rn:Bool) (ra vl rd sd:ByteArray) (ti:Int) (st:Option Addr) (mt dt:Nat) (w:World) (ob:Bool) (G:Prop)
  (hs:∀w':World,Calls Tryz.prog 8 #[.agg #[.string a,.string b,.string c,.string d,.int .i64 lo,.bool vn,.string va,.bool rn,.string ra,.string vl,.string rd]] w' fun e w2=>GateP G w' w2 e)
  (ho:∀w',Below w.heap.size w w'→Calls Tryz.prog 14 #[.agg #[.slice st mt dt,.string sd,.int .i64 ti]] w' fun e w2=>e=.returned (.bool ob)∧Below w'.heap.size w' w2)
  (hg:G→ob=true→∃R:PrR,(R.parts.length≤1000∧R.ops.length≤1000∧R.tp.vals.length≤1000)∧∀w',Below w.heap.size w w' →
   Calls Tryz.prog 15 #[.agg #[.string a,.string b,.string c,.string d],.int .i64 lo,.agg #[.bool vn,.string va,.bool rn,.string ra],.string rd,.agg #[.slice st mt dt,.string sd,.int .i64 ti]] w' (PrPost w' R) ∧
   Calls Tryz.prog 16 #[.agg #[.string a,.string b,.string c,.string d],.int .i64 lo,.agg #[.bool vn,.string va,.bool rn,.string ra],.string rd,.agg #[.slice st mt dt,.string sd,.int .i64 ti]] w' (PrPost w' R)) :
  Calls Tryz.prog 4 #[.agg #[.string a,.string b,.string c,.string d,.int .i64 lo,.bool vn,.string va,.bool rn,.string ra,.string vl,.string rd],.agg #[.slice st mt dt,.string sd,.int .i64 ti]] w fun e w'=>e=.returned (.bool true)∧Below w.heap.size w w':=by
 have HS:=Lib.hid hs;have HO:=Lib.hid ho;have HG:=Lib.hid hg;have HW:=Lib.hid (fun w=>awake27_c w);clear hs ho hg;have hB:=blk2a w #[.string a,.string b,.string c,.string d,.int .i64 lo,.bool vn,.string va,.bool rn,.string ra,.string vl,.string rd] #[.slice st mt dt,.string sd,.int .i64 ti] 32 47;have hT:=blk2b w #[.string a,.string b,.string c,.string d,.int .i64 lo,.bool vn,.string va,.bool rn,.string ra,.string vl,.string rd] #[.slice st mt dt,.string sd,.int .i64 ti] 32 47;have hBW:=b2 w (.cells #[.string a,.string b,.string c,.string d,.int .i64 lo,.bool vn,.string va,.bool rn,.string ra,.string vl,.string rd] 32) (.cells #[.slice st mt dt,.string sd,.int .i64 ti] 47);obtain ⟨hBc0,hBf0,hBc1,hBf1,hBc2,hBf2,hBc3,hBf3,hBc4,hBf4,hBc5,hBf5,hBc6,hBf6,hBc7,hBf7,hBc8,hBf8,hBc9,hBf9,hBc10,hBf10⟩:=hB.x11;obtain ⟨hTc0,hTf0,hTc1,hTf1,hTc2,hTf2⟩:=hT.x3;go_enter Tryz.func4,Tryz.ntmps4
 go_wp2_with fail
 refine (HS.out _).mono ?_;rintro e w1 ⟨r,rfl,hr,hb1⟩;have HR:=Lib.hid hr;clear hr;clear hBc0 hBf0 hBc1 hBf1 hBc2 hBf2 hBc3 hBf3 hBc4 hBf4 hBc5 hBf5 hBc6 hBf6 hBc7 hBf7 hBc8 hBf8 hBc9 hBf9 hBc10 hBf10;clear hTc0 hTf0 hTc1 hTf1 hTc2 hTf2;replace hB:=hB.after hb1;replace hT:=hT.after hb1;replace hBW:=bt hBW hb1;obtain ⟨hBc0,hBf0,hBc1,hBf1,hBc2,hBf2,hBc3,hBf3,hBc4,hBf4,hBc5,hBf5,hBc6,hBf6,hBc7,hBf7,hBc8,hBf8,hBc9,hBf9,hBc10,hBf10⟩:=hB.x11;obtain ⟨hTc0,hTf0,hTc1,hTf1,hTc2,hTf2⟩:=hT.x3;cases r
 ·
  go_wp2_with fail
  refine (HW.out _).mono ?_;rintro e w2 ⟨rfl,hb2⟩;go_wp2;go_ret
  exact ⟨rfl,bt hBW hb2⟩
 go_wp2_with fail
 refine (HO.out _ hBW).mono ?_;rintro e w2 ⟨rfl,hb2⟩;clear hBc0 hBf0 hBc1 hBf1 hBc2 hBf2 hBc3 hBf3 hBc4 hBf4 hBc5 hBf5 hBc6 hBf6 hBc7 hBf7 hBc8 hBf8 hBc9 hBf9 hBc10 hBf10;clear hTc0 hTf0 hTc1 hTf1 hTc2 hTf2;replace hB:=hB.after hb2;replace hT:=hT.after hb2;replace hBW:=bt hBW hb2;obtain ⟨hBc0,hBf0,hBc1,hBf1,hBc2,hBf2,hBc3,hBf3,hBc4,hBf4,hBc5,hBf5,hBc6,hBf6,hBc7,hBf7,hBc8,hBf8,hBc9,hBf9,hBc10,hBf10⟩:=hB.x11;obtain ⟨hTc0,hTf0,hTc1,hTf1,hTc2,hTf2⟩:=hT.x3;cases ob
 ·
  go_wp2_with fail
  refine (HW.out _).mono ?_;rintro e w3 ⟨rfl,hb3⟩;go_wp2;go_ret
  exact ⟨rfl,bt hBW hb3⟩
 obtain ⟨R,hZ,hgo⟩:=HG.out (HR.out (by trivial)) (by trivial);have HX:=Lib.hid hgo;have HZ:=Lib.hid hZ;clear hgo hZ HG HR;go_wp2_with fail
 refine (HX.out _ hBW).1.mono ?_;rintro e w3 ⟨p1,o1,t1,rfl,hp1,ho1,⟨x1,rfl,hx1⟩,hb3⟩;clear hBc0 hBf0 hBc1 hBf1 hBc2 hBf2 hBc3 hBf3 hBc4 hBf4 hBc5 hBf5 hBc6 hBf6 hBc7 hBf7 hBc8 hBf8 hBc9 hBf9 hBc10 hBf10;clear hTc0 hTf0 hTc1 hTf1 hTc2 hTf2;replace hB:=hB.after hb3;replace hT:=hT.after hb3;replace hBW:=bt hBW hb3;have hpA:=NOwn.ss hp1;have hoA:=OOwn.os ho1;clear hp1 ho1 hb3;obtain ⟨y1,c1,rfl⟩:=RAt.form hx1;have hU:=Blk.new w3 #[.slice y1 R.tp.vals.length c1,.string R.tp.seed,.int .i64 R.tp.pos] 47;have hbU:=b1 w3 (.cells #[.slice y1 R.tp.vals.length c1,.string R.tp.seed,.int .i64 R.tp.pos] 47);go_upto_region 4 with fail
 replace hB:=hB.after hbU;replace hT:=hT.after hbU;replace hBW:=bt hBW hbU;replace hpA:=SsAt.after hpA hbU;replace hoA:=OsAt.after hoA hbU;replace hx1:=SsAt.after hx1 hbU;generalize w3.alloc (.cells #[.slice y1 R.tp.vals.length c1,.string R.tp.seed,.int .i64 R.tp.pos] 47)=w4 at hU hB hT hBW hpA hoA hx1 hbU ⊢;obtain ⟨gU,hgU⟩:∃g,w3.heap.size=g:=⟨_,rfl⟩;rw [hgU] at hU ⊢;replace hU:Blk w4 gU 47 [.slice y1 R.tp.vals.length c1,.string R.tp.seed,.int .i64 R.tp.pos]:=hU;clear hgU hbU;obtain ⟨hBc0,hBf0,hBc1,hBf1,hBc2,hBf2,hBc3,hBf3,hBc4,hBf4,hBc5,hBf5,hBc6,hBf6,hBc7,hBf7,hBc8,hBf8,hBc9,hBf9,hBc10,hBf10⟩:=hB.x11;obtain ⟨hTc0,hTf0,hTc1,hTf1,hTc2,hTf2⟩:=hT.x3;go_wp2_with fail
 refine (HX.out _ hBW).2.mono ?_;rintro e w5 ⟨p2,o2,t2,rfl,hp2,ho2,⟨x2,rfl,hx2⟩,hb5⟩;clear hBc0 hBf0 hBc1 hBf1 hBc2 hBf2 hBc3 hBf3 hBc4 hBf4 hBc5 hBf5 hBc6 hBf6 hBc7 hBf7 hBc8 hBf8 hBc9 hBf9 hBc10 hBf10;clear hTc0 hTf0 hTc1 hTf1 hTc2 hTf2;clear hB hT;have hpB:=NOwn.ss hp2;have hoB:=OOwn.os ho2;replace hBW:=bt hBW hb5;replace hpA:=SsAt.after hpA hb5;replace hoA:=OsAt.after hoA hb5;replace hx1:=SsAt.after hx1 hb5;replace hU:=hU.after hb5;clear hp2 ho2 hb5;obtain ⟨y2,c2,rfl⟩:=RAt.form hx2;have hV:=Blk.new w5 #[.slice y2 R.tp.vals.length c2,.string R.tp.seed,.int .i64 R.tp.pos] 47;have hbV:=b1 w5 (.cells #[.slice y2 R.tp.vals.length c2,.string R.tp.seed,.int .i64 R.tp.pos] 47);go_upto_region 5 with fail
 replace hBW:=bt hBW hbV;replace hpA:=SsAt.after hpA hbV;replace hoA:=OsAt.after hoA hbV;replace hx1:=SsAt.after hx1 hbV;replace hpB:=SsAt.after hpB hbV;replace hoB:=OsAt.after hoB hbV;replace hx2:=SsAt.after hx2 hbV;replace hU:=hU.after hbV;generalize w5.alloc (.cells #[.slice y2 R.tp.vals.length c2,.string R.tp.seed,.int .i64 R.tp.pos] 47)=w6 at hU hV hBW hpA hoA hx1 hpB hoB hx2 ⊢;obtain ⟨gV,hgV⟩:∃g,w5.heap.size=g:=⟨_,rfl⟩;rw [hgV] at hV ⊢;replace hV:Blk w6 gV 47 [.slice y2 R.tp.vals.length c2,.string R.tp.seed,.int .i64 R.tp.pos]:=hV;clear hgV hbV;go_wp2_with fail
 refine (HW.out _).mono ?_;rintro e w7 ⟨rfl,hb7⟩;go_wp2_with fail
 refine (sameNats_cV R.parts R.parts _ _ true _ HZ.out.1 HZ.out.1 (SsAt.after hpA hb7) (SsAt.after hpB hb7) (decide_eq_true rfl)).mono ?_;rintro e w8 ⟨rfl,hb8⟩;have hb78:=bt hb7 hb8;go_wp2_with fail
 refine (sameOpn_c (R.ops.map nop) _ _ _ (by rw [List.length_map];exact HZ.out.2.1) (OsAt.after hoA hb78) (OsAt.after hoB hb78)).mono ?_;rintro e w9 ⟨rfl,hb9⟩;have hb79:=bt hb78 hb9;have hU9:=hU.after hb79;have hV9:=hV.after hb79;have hUl:=hU9.lt;have hVl:=hV9.lt;replace hBW:=bt hBW hb79;have hk:((R.err:Int)==(R.err:Int))=true:=by rw [beq_iff_eq]
 clear hpA hpB hoA hoB hU hV;obtain ⟨hU9c0,hU9f0,hU9c1,hU9f1,hU9c2,hU9f2⟩:=hU9.x3;obtain ⟨hV9c0,hV9f0,hV9c1,hV9f1,hV9c2,hV9f2⟩:=hV9.x3;go_wp2_with fail
 refine (sameTp_c R.tp _ _ _ HZ.out.2.2 (SsAt.after hx1 hb79) (SsAt.after hx2 hb79)).mono ?_;rintro e w10 ⟨rfl,hb10⟩;go_wp2;go_ret
 exact ⟨rfl,bt hBW hb10⟩
theorem pr27_c (a b c d:ByteArray) (lo:Int) (vn:Bool) (va:ByteArray) (rn:Bool) (ra vl rd:ByteArray) (V:List ByteArray) (sd:ByteArray) (ti:Int) (st:Option Addr) (mt dt:Nat) (w:World)
  (hva:va.size≤9223372036854775807) (hra:ra.size≤9223372036854775807) (hVl:V.length≤9223372036854775807) (hV1:∀x∈V,x.size≤9223372036854775807) (hsd:sd.size≤9223372036854775807) (hVs:SsAt w (.slice st mt dt) V) (ht:TabW w) :
  Calls Tryz.prog 4 #[.agg #[.string a,.string b,.string c,.string d,.int .i64 lo,.bool vn,.string va,.bool rn,.string ra,.string vl,.string rd],.agg #[.slice st mt dt,.string sd,.int .i64 ti]] w fun e w'=>e=.returned (.bool true)∧Below w.heap.size w w':=by
 refine pr_walk a b c d lo vn va rn ra vl rd sd ti st mt dt w (tfw V sd) (gate27 a b c d lo va ra vl rd) (fun w'=>l27small_c a b c d lo vn va rn ra vl rd w' hva hra) (fun w' hb=>l27few_c V sd ti _ w' hVl hV1 (SsAt.after hVs hb)) (fun hg ho=>?_);obtain ⟨hk,h1,h2,h3,h4,h5,h6⟩:=hg;obtain ⟨k1,k2,k3,k4⟩:=kfw_inv hk;obtain ⟨p1,p2,p3⟩:=tfw_inv ho;have hok:(Tp.mk V sd ti).Ok:=⟨by show V.length≤_;omega,fun x hx=>by have:=p2 x hx;omega,by show sd.size≤_;omega⟩;refine ⟨prR attN a b c d lo vn va rn ra rd ⟨V,sd,ti⟩,prR_len attN a b c d lo vn va rn ra rd ⟨V,sd,ti⟩ (by show V.length≤_;omega),fun w' hb=>⟨?_,?_⟩⟩
 ·exact sqprep_c attN a b c d lo vn va rn ra rd ⟨V,sd,ti⟩ _ w' (hatt sd w' (by omega) (ht.after hb)) hok k1 (by omega) (by omega) (by omega) h1 h2 h4 h5 h6 (SsAt.after hVs hb)
 ·exact rprep_c attN a b c d lo vn va rn ra rd ⟨V,sd,ti⟩ _ w' (ratt sd (by omega)) hok k1 (by omega) (by omega) (by omega) h1 h2 h4 h5 h6 (SsAt.after hVs hb)
end
end Go.Proofs.YtfgandecbkbleaaGreatDoor
