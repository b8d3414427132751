/- ref14.element and Shift. -/
import Derived.Test.YtfgandecbkbleaaGreatDoorRSet2
import Derived.Test.YtfgandecbkbleaaGreatDoorImg1
import Derived.Test.YtfgandecbkbleaaGreatDoorLc27
import Derived.Test.YtfgandecbkbleaaGreatDoorWt27
import Derived.Test.YtfgandecbkbleaaGreatDoorStm
set_option linter.unusedVariables false
set_option linter.unusedSimpArgs false
set_option maxRecDepth 100000
set_option maxHeartbeats 16000000
namespace Go.Proofs.YtfgandecbkbleaaGreatDoor
section
/- dominoref14.Commit. -/
open Go.RowKit Go.Shelf
theorem r14validB_c (a b:Bool) (s t:ByteArray) (w:World) (hs:s.size≤1000) (ht:t.size≤1000) :
  Calls Tryz.prog 79 #[.agg #[.bool a,.string s,.bool b,.string t]] w fun e w'=>e=.returned (.bool (ivB a s&&ivB b t))∧Below w.heap.size w w':=by
 obtain ⟨r1,hr1⟩:∃r1,ivB a s=r1:=⟨_,rfl⟩;obtain ⟨r2,hr2⟩:∃r2,ivB b t=r2:=⟨_,rfl⟩;rw [hr1,hr2];have H1:Hid (∀w,Calls Tryz.prog 73 #[.agg #[.bool a,.string s]] w fun e w'=>e=.returned (.bool r1)∧Below w.heap.size w w'):=fun w=>rivalB_c a s r1 w hs hr1
 have H2:Hid (∀w,Calls Tryz.prog 73 #[.agg #[.bool b,.string t]] w fun e w'=>e=.returned (.bool r2)∧Below w.heap.size w w'):=fun w=>rivalB_c b t r2 w ht hr2
 have hB:=Blk.new w #[Value.bool a,Value.string s,Value.bool b,Value.string t] 30;have hBW:=b1 w (.cells #[Value.bool a,Value.string s,Value.bool b,Value.string t] 30);clear hs ht hr1 hr2;cases r1
 ·
  obtain ⟨hBc0,hBf0,hBc1,hBf1,hBc2,hBf2,hBc3,hBf3⟩:=hB.x4;go_enter Tryz.func79,Tryz.ntmps79
  go_wp2_with fail
  refine (H1.out _).mono ?_;rintro e w1 ⟨rfl,hb1⟩;go_wp2;go_ret
  exact ⟨rfl,bt hBW hb1⟩
 ·
  obtain ⟨hBc0,hBf0,hBc1,hBf1,hBc2,hBf2,hBc3,hBf3⟩:=hB.x4;go_enter Tryz.func79,Tryz.ntmps79
  go_wp2_with fail
  refine (H1.out _).mono ?_;rintro e w1 ⟨rfl,hb1⟩;clear hBc0 hBf0 hBc1 hBf1 hBc2 hBf2 hBc3 hBf3;replace hB:=hB.after hb1;replace hBW:=bt hBW hb1;obtain ⟨hBc0,hBf0,hBc1,hBf1,hBc2,hBf2,hBc3,hBf3⟩:=hB.x4;go_wp2_with fail
  refine (H2.out _).mono ?_;rintro e w2 ⟨rfl,hb2⟩;go_wp2;go_ret
  exact ⟨by cases r2 <;> rfl,bt hBW hb2⟩
theorem r14validI_c (m r:Int) (w:World) (hm:m.natAbs<256^128) (hr:r.natAbs<256^128) :
  Calls Tryz.prog 79 #[opn m r] w fun e w'=>e=.returned (.bool true)∧Below w.heap.size w w':=by
 have:=r14validB_c (sg m) (sg r) (E m.natAbs) (E r.natAbs) w (sz1000 hm) (sz1000 hr);rw [ivB_I m hm,ivB_I r hr] at this;exact this
theorem rproduct3_c (p q g h:Nat) (m r:Int) (bl bz:Nat) (w:World) (hp:p<256^8) (hq:q<256^128) (he:grpE p q=0) (hg:hasB p q g=true) (hh:hasB p q h=true) (hm:m.natAbs<256^128) (hr:r.natAbs<256^128)
  (hL:Blk w bl 22 [.string (E g),.string (E h)]) (hZ:Blk w bz 28 [.bool (sg m),.string (E m.natAbs),.bool (sg r),.string (E r.natAbs)]) :
  Calls Tryz.prog 81 #[.agg #[.string (E p),.string (E q)],.slice (some ⟨bl,0,none⟩) 2 2,.slice (some ⟨bz,0,none⟩) 2 2] w fun e w'=>e=.returned (.tuple #[.string (E (cmtN p g h m r)),.int .i64 0])∧Below w.heap.size w w':=
 rproduct_c p q [g,h] [m,r] _ _ w hp hq he rfl (by simp) (by intro x hx;simp at hx;rcases hx with rfl | rfl <;> assumption) (by intro y hy;simp at hy;rcases hy with rfl | rfl <;> assumption)
  (NOwn.ss (own_blk hL rfl (by decide))) (ZOwn.zs (own_blk hZ rfl (by decide)))
theorem r14commit_c (p q g h:Nat) (m r:Int) (w:World) (hp:p<256^8) (hq:q<256^128) (hgb:g<256^128) (hhb:h<256^128) (hm:m.natAbs<256^128) (hr:r.natAbs<256^128)
  (he:pedE p q g h=0) (hg:hasB p q g=true) (hh:hasB p q h=true) :
  Calls Tryz.prog 30 #[.agg #[.string (E p),.string (E q),.string (E g),.string (E h)],opn m r] w fun e w'=>e=.returned (.tuple #[.string (E (cmtN p g h m r)),.int .i64 0])∧Below w.heap.size w w':=by
 unfold opn;have HF:=Lib.hid (fun w=>rpformV_c (E p) (E q) (E g) (E h) true w (sz1000 (lt128 hp)) (sz1000 hq) (sz1000 hgb) (sz1000 hhb) (vl4_E (lt128 hp) hq hgb hhb));have HPC:=Lib.hid (fun w=>rpedcheckV_c p q g h 0 w hp hq hgb hhb he);have HV:Hid (∀w,Calls Tryz.prog 79 #[.agg #[.bool (sg m),.string (E m.natAbs),.bool (sg r),.string (E r.natAbs)]] w fun e w'=>e=.returned (.bool true)∧Below w.heap.size w w'):=fun w=>r14validI_c m r w hm hr
 have HPR:=Lib.hid (fun bl bz w=>rproduct3_c p q g h m r bl bz w hp hq (pedE_grp he) hg hh hm hr);have hB:=blk2a w #[Value.string (E p),Value.string (E q),Value.string (E g),Value.string (E h)] #[.bool (sg m),.string (E m.natAbs),.bool (sg r),.string (E r.natAbs)] 26 30;have hI:=blk2b w #[Value.string (E p),Value.string (E q),Value.string (E g),Value.string (E h)] #[.bool (sg m),.string (E m.natAbs),.bool (sg r),.string (E r.natAbs)] 26 30;have hBW:=b2 w (.cells #[Value.string (E p),Value.string (E q),Value.string (E g),Value.string (E h)] 26) (.cells #[.bool (sg m),.string (E m.natAbs),.bool (sg r),.string (E r.natAbs)] 30);clear hp hq hgb hhb hm hr he hg hh;obtain ⟨hBc0,hBf0,hBc1,hBf1,hBc2,hBf2,hBc3,hBf3⟩:=hB.x4;obtain ⟨hIc0,hIf0,hIc1,hIf1,hIc2,hIf2,hIc3,hIf3⟩:=hI.x4;go_enter Tryz.func30,Tryz.ntmps30
 go_wp2_with fail
 refine (HF.out _).mono ?_;rintro e w1 ⟨rfl,hb1⟩;clear hBc0 hBf0 hBc1 hBf1 hBc2 hBf2 hBc3 hBf3;clear hIc0 hIf0 hIc1 hIf1 hIc2 hIf2 hIc3 hIf3;replace hB:=hB.after hb1;replace hI:=hI.after hb1;replace hBW:=bt hBW hb1;obtain ⟨hBc0,hBf0,hBc1,hBf1,hBc2,hBf2,hBc3,hBf3⟩:=hB.x4;obtain ⟨hIc0,hIf0,hIc1,hIf1,hIc2,hIf2,hIc3,hIf3⟩:=hI.x4;go_wp2_with fail
 refine (HV.out _).mono ?_;rintro e w2 ⟨rfl,hb2⟩;clear hBc0 hBf0 hBc1 hBf1 hBc2 hBf2 hBc3 hBf3;clear hIc0 hIf0 hIc1 hIf1 hIc2 hIf2 hIc3 hIf3;replace hB:=hB.after hb2;replace hI:=hI.after hb2;replace hBW:=bt hBW hb2;obtain ⟨hBc0,hBf0,hBc1,hBf1,hBc2,hBf2,hBc3,hBf3⟩:=hB.x4;obtain ⟨hIc0,hIf0,hIc1,hIf1,hIc2,hIf2,hIc3,hIf3⟩:=hI.x4;go_wp2_with fail
 refine (HPC.out _).mono ?_;rintro e w3 ⟨rfl,hb3⟩;clear hBc0 hBf0 hBc1 hBf1 hBc2 hBf2 hBc3 hBf3;clear hIc0 hIf0 hIc1 hIf1 hIc2 hIf2 hIc3 hIf3;replace hB:=hB.after hb3;replace hI:=hI.after hb3;replace hBW:=bt hBW hb3;obtain ⟨hBc0,hBf0,hBc1,hBf1,hBc2,hBf2,hBc3,hBf3⟩:=hB.x4;obtain ⟨hIc0,hIf0,hIc1,hIf1,hIc2,hIf2,hIc3,hIf3⟩:=hI.x4;clear hb1 hb2 hb3;have hl3:w.heap.size<w3.heap.size:=hB.lt;have hl3':w.heap.size+1<w3.heap.size:=hI.lt;go_wp2_with fail
 refine (HPR.out _ _ _ (blk2a _ _ _ _ _) (blk2b _ _ _ _ _)).mono ?_;rintro e wd ⟨rfl,hbd⟩;go_wp2;go_ret2
 exact ⟨rfl,bt (ba (ba hBW _) _) hbd⟩
theorem r14commit_13 (p q g h:Nat) (m r:Int) (w:World) (hp:p<256^8) (hq:q<256^128) (hgb:g<256^128) (hhb:h<256^128) (hm:m.natAbs<256^128) (hr:r.natAbs<256^128)
  (he:pedE p q g h=13) :
  Calls Tryz.prog 30 #[.agg #[.string (E p),.string (E q),.string (E g),.string (E h)],opn m r] w fun e w'=>e=.returned (.tuple #[.string (E 0),.int .i64 13])∧Below w.heap.size w w':=by
 unfold opn;rw [show (E 0)=(⟨#[]⟩:ByteArray) from rfl];have HF:=Lib.hid (fun w=>rpformV_c (E p) (E q) (E g) (E h) true w (sz1000 (lt128 hp)) (sz1000 hq) (sz1000 hgb) (sz1000 hhb) (vl4_E (lt128 hp) hq hgb hhb));have HPC:=Lib.hid (fun w=>rpedcheckV_c p q g h 13 w hp hq hgb hhb he);have HV:Hid (∀w,Calls Tryz.prog 79 #[.agg #[.bool (sg m),.string (E m.natAbs),.bool (sg r),.string (E r.natAbs)]] w fun e w'=>e=.returned (.bool true)∧Below w.heap.size w w'):=fun w=>r14validI_c m r w hm hr
 have hB:=blk2a w #[Value.string (E p),Value.string (E q),Value.string (E g),Value.string (E h)] #[.bool (sg m),.string (E m.natAbs),.bool (sg r),.string (E r.natAbs)] 26 30;have hI:=blk2b w #[Value.string (E p),Value.string (E q),Value.string (E g),Value.string (E h)] #[.bool (sg m),.string (E m.natAbs),.bool (sg r),.string (E r.natAbs)] 26 30;have hBW:=b2 w (.cells #[Value.string (E p),Value.string (E q),Value.string (E g),Value.string (E h)] 26) (.cells #[.bool (sg m),.string (E m.natAbs),.bool (sg r),.string (E r.natAbs)] 30);clear hp hq hgb hhb hm hr he;obtain ⟨hBc0,hBf0,hBc1,hBf1,hBc2,hBf2,hBc3,hBf3⟩:=hB.x4;obtain ⟨hIc0,hIf0,hIc1,hIf1,hIc2,hIf2,hIc3,hIf3⟩:=hI.x4;go_enter Tryz.func30,Tryz.ntmps30
 go_wp2_with fail
 refine (HF.out _).mono ?_;rintro e w1 ⟨rfl,hb1⟩;clear hBc0 hBf0 hBc1 hBf1 hBc2 hBf2 hBc3 hBf3;clear hIc0 hIf0 hIc1 hIf1 hIc2 hIf2 hIc3 hIf3;replace hB:=hB.after hb1;replace hI:=hI.after hb1;replace hBW:=bt hBW hb1;obtain ⟨hBc0,hBf0,hBc1,hBf1,hBc2,hBf2,hBc3,hBf3⟩:=hB.x4;obtain ⟨hIc0,hIf0,hIc1,hIf1,hIc2,hIf2,hIc3,hIf3⟩:=hI.x4;go_wp2_with fail
 refine (HV.out _).mono ?_;rintro e w2 ⟨rfl,hb2⟩;clear hBc0 hBf0 hBc1 hBf1 hBc2 hBf2 hBc3 hBf3;clear hIc0 hIf0 hIc1 hIf1 hIc2 hIf2 hIc3 hIf3;replace hB:=hB.after hb2;replace hI:=hI.after hb2;replace hBW:=bt hBW hb2;obtain ⟨hBc0,hBf0,hBc1,hBf1,hBc2,hBf2,hBc3,hBf3⟩:=hB.x4;obtain ⟨hIc0,hIf0,hIc1,hIf1,hIc2,hIf2,hIc3,hIf3⟩:=hI.x4;go_wp2_with fail
 refine (HPC.out _).mono ?_;rintro e w3 ⟨rfl,hb3⟩;go_wp2;go_ret2
 exact ⟨rfl,bt hBW hb3⟩
theorem r14commit_bad (a b c d:ByteArray) (x y:Bool) (s t:ByteArray) (w:World) (ha:a.size≤1000) (hb:b.size≤1000) (hc:c.size≤1000) (hd:d.size≤1000) (hs:s.size≤1000) (ht:t.size≤1000)
  (hbad:(vl4 a b c d&&(ivB x s&&ivB y t))=false) :
  Calls Tryz.prog 30 #[.agg #[.string a,.string b,.string c,.string d],.agg #[.bool x,.string s,.bool y,.string t]] w fun e w'=>e=.returned (.tuple #[.string (E 0),.int .i64 3])∧Below w.heap.size w w':=by
 rw [show (E 0)=(⟨#[]⟩:ByteArray) from rfl];have HV:Hid (∀w,Calls Tryz.prog 79 #[.agg #[.bool x,.string s,.bool y,.string t]] w fun e w'=>e=.returned (.bool (ivB x s&&ivB y t))∧Below w.heap.size w w'):=fun w=>r14validB_c x y s t w hs ht
 have hB:=blk2a w #[Value.string a,Value.string b,Value.string c,Value.string d] #[.bool x,.string s,.bool y,.string t] 26 30;have hI:=blk2b w #[Value.string a,Value.string b,Value.string c,Value.string d] #[.bool x,.string s,.bool y,.string t] 26 30;have hBW:=b2 w (.cells #[Value.string a,Value.string b,Value.string c,Value.string d] 26) (.cells #[.bool x,.string s,.bool y,.string t] 30);cases h1:vl4 a b c d
 ·have HF:=Lib.hid (fun w=>rpformV_c a b c d false w ha hb hc hd h1);clear ha hb hc hd hs ht hbad h1;obtain ⟨hBc0,hBf0,hBc1,hBf1,hBc2,hBf2,hBc3,hBf3⟩:=hB.x4;obtain ⟨hIc0,hIf0,hIc1,hIf1,hIc2,hIf2,hIc3,hIf3⟩:=hI.x4;go_enter Tryz.func30,Tryz.ntmps30
  go_wp2_with fail
  refine (HF.out _).mono ?_;rintro e w1 ⟨rfl,hb1⟩;go_wp2;go_ret2
  exact ⟨rfl,bt hBW hb1⟩
 ·have HF:=Lib.hid (fun w=>rpformV_c a b c d true w ha hb hc hd h1);rw [h1,Bool.true_and] at hbad;rw [hbad] at HV;clear ha hb hc hd hs ht hbad h1;obtain ⟨hBc0,hBf0,hBc1,hBf1,hBc2,hBf2,hBc3,hBf3⟩:=hB.x4;obtain ⟨hIc0,hIf0,hIc1,hIf1,hIc2,hIf2,hIc3,hIf3⟩:=hI.x4;go_enter Tryz.func30,Tryz.ntmps30
  go_wp2_with fail
  refine (HF.out _).mono ?_;rintro e w1 ⟨rfl,hb1⟩;clear hBc0 hBf0 hBc1 hBf1 hBc2 hBf2 hBc3 hBf3;clear hIc0 hIf0 hIc1 hIf1 hIc2 hIf2 hIc3 hIf3;replace hB:=hB.after hb1;replace hI:=hI.after hb1;replace hBW:=bt hBW hb1;obtain ⟨hBc0,hBf0,hBc1,hBf1,hBc2,hBf2,hBc3,hBf3⟩:=hB.x4;obtain ⟨hIc0,hIf0,hIc1,hIf1,hIc2,hIf2,hIc3,hIf3⟩:=hI.x4;go_wp2_with fail
  refine (HV.out _).mono ?_;rintro e w2 ⟨rfl,hb2⟩;go_wp2;go_ret2
  exact ⟨rfl,bt hBW hb2⟩
end
section
/- dominoref14.Commit for every key and opening;pedersen.Opens of a commitment. -/
open Go.RowKit Go.Shelf
def cmE (a b c d:ByteArray) (vn:Bool) (va:ByteArray) (rn:Bool) (ra:ByteArray):Nat:=if (ivB vn va&&ivB rn ra)=true then pedV a b c d else 3
def cmC (a b c d:ByteArray) (vn:Bool) (va:ByteArray) (rn:Bool) (ra:ByteArray):Nat:=if cmE a b c d vn va rn ra=0 then cmtN (numb a) (numb c) (numb d) (intb vn va) (intb rn ra) else 0
theorem pedE_or (p q g h:Nat):pedE p q g h=0∨pedE p q g h=13:=by
 unfold pedE;split
 ·split
  ·exact .inl rfl
  ·exact .inr rfl
 ·exact .inr rfl
theorem pedE_has {p q g h:Nat} (he:pedE p q g h=0):hasB p q g=true∧hasB p q h=true:=by
 have hg:=pedE_grp he;unfold pedE at he;rw [if_pos hg] at he;split at he
 ·rename_i hh;exact ⟨hh.1,hh.2.1⟩
 ·omega
theorem numb_I {n:Bool} {s:ByteArray} (h:ivB n s=true):s=E (intb n s).natAbs∧n=sg (intb n s):=by
 obtain ⟨z,_,rfl,rfl⟩:=of_ivB h;rw [intb_I];exact ⟨rfl,rfl⟩
theorem r14commitO_c (a b c d:ByteArray) (vn:Bool) (va:ByteArray) (rn:Bool) (ra:ByteArray) (w:World) (ha:a.size≤8) (hb:b.size≤100) (hc:c.size≤100) (hd:d.size≤100) (hva:va.size≤100) (hra:ra.size≤100) :
  Calls Tryz.prog 30 #[.agg #[.string a,.string b,.string c,.string d],.agg #[.bool vn,.string va,.bool rn,.string ra]] w fun e w'=>e=.returned (.tuple #[.string (E (cmC a b c d vn va rn ra)),.int .i64 (cmE a b c d vn va rn ra)])∧Below w.heap.size w w':=by
 have bad:(vl4 a b c d&&(ivB vn va&&ivB rn ra))=false→cmE a b c d vn va rn ra=3→Calls Tryz.prog 30 #[.agg #[.string a,.string b,.string c,.string d],.agg #[.bool vn,.string va,.bool rn,.string ra]] w fun e w'=>e=.returned (.tuple #[.string (E (cmC a b c d vn va rn ra)),.int .i64 (cmE a b c d vn va rn ra)])∧Below w.heap.size w w':=fun h h3=>by
  unfold cmC;rw [h3,if_neg (by decide)];exact r14commit_bad a b c d vn rn va ra w (by omega) (by omega) (by omega) (by omega) (by omega) (by omega) h
 cases hi:(ivB vn va&&ivB rn ra)
 ·exact bad (by rw [hi,Bool.and_false]) (by unfold cmE;rw [hi,if_neg (by decide)])
 ·cases hv:vl4 a b c d
  ·exact bad (by rw [hv,Bool.false_and]) (by unfold cmE pedV;rw [hi,hv];rfl)
  ·rw [Bool.and_eq_true] at hi;obtain ⟨p,q,g,h,⟨hp,hq,hg,hh⟩,rfl,rfl,rfl,rfl⟩:=vl4_of hv;obtain ⟨m,hm,rfl,rfl⟩:=of_ivB hi.1;obtain ⟨r,hr,rfl,rfl⟩:=of_ivB hi.2
   have e:cmE (E p) (E q) (E g) (E h) (sg m) (E m.natAbs) (sg r) (E r.natAbs)=pedE p q g h:=by
    unfold cmE;rw [hi.1,hi.2,if_pos (show (true&&true)=true from rfl),pedV_E hp hq hg hh]
   have hp8:p<256^8:=lt_of_size ha;unfold cmC;rw [e,intb_I,intb_I,numb_E,numb_E,numb_E];rcases pedE_or p q g h with h0 | h0
   ·rw [h0,if_pos rfl];exact r14commit_c p q g h m r w hp8 hq hg hh hm hr h0 (pedE_has h0).1 (pedE_has h0).2
   ·rw [h0,if_neg (by decide)];exact r14commit_13 p q g h m r w hp8 hq hg hh hm hr h0
theorem cmC_num {p g h:Nat} (m r:Int) (hp:p<256^128) (hg:g<256^128) (hh:h<256^128) (hm:m.natAbs<256^128) (hr:r.natAbs<256^128) (he:pedE p 0 g h=0) :
  cmE (E p) (E 0) (E g) (E h) (sg m) (E m.natAbs) (sg r) (E r.natAbs)=0∧cmC (E p) (E 0) (E g) (E h) (sg m) (E m.natAbs) (sg r) (E r.natAbs)=cmtN p g h m r:=by
 have e:cmE (E p) (E 0) (E g) (E h) (sg m) (E m.natAbs) (sg r) (E r.natAbs)=0:=by
  unfold cmE;rw [ivB_I m hm,ivB_I r hr,if_pos (show (true&&true)=true from rfl),pedV_E hp (by decide) hg hh,he]
 refine ⟨e,?_⟩;unfold cmC;rw [e,if_pos rfl,intb_I,intb_I,numb_E,numb_E,numb_E]
theorem cmC_lt (a b c d:ByteArray) (vn:Bool) (va:ByteArray) (rn:Bool) (ra:ByteArray) (ha:a.size≤8):cmC a b c d vn va rn ra<256^8:=by
 unfold cmC;split
 ·unfold cmtN;have h1:=numb_lt ha;by_cases h0:numb a=0
  ·rename_i h;exfalso;unfold cmE at h;split at h
   ·unfold pedV at h;split at h
    ·unfold pedE grpE at h;rw [h0] at h;simp at h
    ·omega
   ·omega
  ·exact Nat.lt_trans (Nat.mod_lt _ (by omega)) h1
 ·decide
theorem opens_c (p g h:Nat) (m r:Int) (w:World) (hp:p<256^8) (hgb:g<256^128) (hhb:h<256^128) (hm:m.natAbs<256^128) (hr:r.natAbs<256^128) (he:pedE p 0 g h=0) :
  Calls Tryz.prog 34 #[.agg #[.string (E p),.string (E 0),.string (E g),.string (E h)],.string (E (cmtN p g h m r)),.agg #[.bool (sg m),.string (E m.natAbs),.bool (sg r),.string (E r.natAbs)]] w fun e w'=>e=.returned (.bool true)∧Below w.heap.size w w':=by
 have HC:Hid (∀w:World,Calls Tryz.prog 49 #[.agg #[.string (E p),.string (E 0),.string (E g),.string (E h)],.agg #[.bool (sg m),.string (E m.natAbs),.bool (sg r),.string (E r.natAbs)]] w fun e w'=>e=.returned (.tuple #[.string (E (cmtN p g h m r)),.int .i64 0])∧Below w.heap.size w w'):=fun w =>
  commit_c p 0 g h m r w hp (by decide) hgb hhb hm hr he (pedE_has he).1 (pedE_has he).2
 generalize cmtN p g h m r=x at HC ⊢;have hB:=blk2a w #[Value.string (E p),Value.string (E 0),Value.string (E g),Value.string (E h)] #[.bool (sg m),.string (E m.natAbs),.bool (sg r),.string (E r.natAbs)] 26 30;have hI:=blk2b w #[Value.string (E p),Value.string (E 0),Value.string (E g),Value.string (E h)] #[.bool (sg m),.string (E m.natAbs),.bool (sg r),.string (E r.natAbs)] 26 30;have hBW:=b2 w (.cells #[Value.string (E p),Value.string (E 0),Value.string (E g),Value.string (E h)] 26) (.cells #[.bool (sg m),.string (E m.natAbs),.bool (sg r),.string (E r.natAbs)] 30);clear hp hgb hhb hm hr he;obtain ⟨hBc0,hBf0,hBc1,hBf1,hBc2,hBf2,hBc3,hBf3⟩:=hB.x4;obtain ⟨hIc0,hIf0,hIc1,hIf1,hIc2,hIf2,hIc3,hIf3⟩:=hI.x4;go_enter Tryz.func34,Tryz.ntmps34
 go_wp2_with fail
 refine (HC.out _).mono ?_;rintro e w1 ⟨rfl,hb1⟩;go_wp2;go_ret
 exact ⟨rfl,bt hBW hb1⟩
end
section
open Go.RowKit Go.Shelf
theorem rproductS_c (p q c g:Nat) (z:Int) (bl bz:Nat) (w:World) (hp:p<256^8) (hq:q<256^128) (he:grpE p q=0) (hc:hasB p q c=true) (hg:hasB p q g=true) (hz:z.natAbs<256^128)
  (hL:Blk w bl 22 [.string (E c),.string (E g)]) (hZ:Blk w bz 28 [.bool (sg 1),.string (E 1),.bool (sg z),.string (E z.natAbs)]) :
  Calls Tryz.prog 81 #[.agg #[.string (E p),.string (E q)],.slice (some ⟨bl,0,none⟩) 2 2,.slice (some ⟨bz,0,none⟩) 2 2] w fun e w'=>e=.returned (.tuple #[.string (E (shiftN p c g z)),.int .i64 0])∧Below w.heap.size w w':=
 rproduct_c p q [c,g] [1,z] _ _ w hp hq he rfl (by simp) (by intro x hx;simp at hx;rcases hx with rfl | rfl <;> assumption) (by intro y hy;simp at hy;rcases hy with rfl | rfl <;> first | decide | assumption)
  (NOwn.ss (own_blk hL rfl (by decide))) (ZOwn.zs (own_blk hZ rfl (by decide)))
theorem r14elem_c (p q g h c:Nat) (w:World) (hp:p<256^8) (hq:q<256^128) (hgb:g<256^128) (hhb:h<256^128) (hcb:c<256^128) (he:pedE p q g h=0) (hc:hasB p q c=true) :
  Calls Tryz.prog 117 #[.agg #[.string (E p),.string (E q),.string (E g),.string (E h)],.string (E c),.bool true] w fun e w'=>e=.returned (.int .i64 0)∧Below w.heap.size w w':=by
 have HF:=Lib.hid (fun w=>rpformV_c (E p) (E q) (E g) (E h) true w (sz1000 (lt128 hp)) (sz1000 hq) (sz1000 hgb) (sz1000 hhb) (vl4_E (lt128 hp) hq hgb hhb));have HPC:=Lib.hid (fun w=>rpedcheckV_c p q g h 0 w hp hq hgb hhb he);have HV:=Lib.hid (fun w=>rvalidE_c c w hcb);have HH:=Lib.hid (fun w=>rHasV_c p q c true w hp hq (pedE_grp he) hcb hc);have hB:=Blk.new w #[Value.string (E p),Value.string (E q),Value.string (E g),Value.string (E h)] 26;have hBW:=b1 w (.cells #[Value.string (E p),Value.string (E q),Value.string (E g),Value.string (E h)] 26);clear hp hq hgb hhb hcb he hc;obtain ⟨hBc0,hBf0,hBc1,hBf1,hBc2,hBf2,hBc3,hBf3⟩:=hB.x4;go_enter Tryz.func117,Tryz.ntmps117
 go_wp2_with fail
 refine (HF.out _).mono ?_;rintro e w1 ⟨rfl,hb1⟩;clear hBc0 hBf0 hBc1 hBf1 hBc2 hBf2 hBc3 hBf3;replace hB:=hB.after hb1;replace hBW:=bt hBW hb1;obtain ⟨hBc0,hBf0,hBc1,hBf1,hBc2,hBf2,hBc3,hBf3⟩:=hB.x4;go_wp2_with fail
 refine (HV.out _).mono ?_;rintro e w' ⟨rfl,rfl⟩;go_wp2_with fail
 refine (HPC.out _).mono ?_;rintro e w2 ⟨rfl,hb2⟩;clear hBc0 hBf0 hBc1 hBf1 hBc2 hBf2 hBc3 hBf3;replace hB:=hB.after hb2;replace hBW:=bt hBW hb2;obtain ⟨hBc0,hBf0,hBc1,hBf1,hBc2,hBf2,hBc3,hBf3⟩:=hB.x4;go_wp2_with fail
 refine (HH.out _).mono ?_;rintro e w3 ⟨rfl,hb3⟩;replace hBW:=bt hBW hb3;go_wp2;go_ret
 exact ⟨rfl,hBW⟩
def vSf (gB:Nat) (p q g c:Nat) (z:Int):RV:=fun _ i v w=>match i with
 | 0=>v=.pointer (some ⟨gB,0,none⟩)
 | 1=>v=.agg #[.string (E p),.string (E q)]
 | 2=>v=.string (E c)
 | 3=>v=.pointer (some ⟨gB,2,none⟩)
 | 4=>v=.string (E g)
 | 5=>∃b,v=.slice (some ⟨b,0,none⟩) 2 2∧Blk w b 22 [.string (E c),.string (E g)]
 | 6=>v=.agg #[.bool false,.string (E 1)]
 | 7=>v=.agg #[.bool (sg z),.string (E z.natAbs)]
 | 8=>∃b,v=.slice (some ⟨b,0,none⟩) 2 2∧Blk w b 28 [.bool false,.string (E 1),.bool (sg z),.string (E z.natAbs)]
 | 9=>v=.tuple #[.string (E (shiftN p c g z)),.int .i64 0]
 | 10=>v=.string (E (shiftN p c g z))
 | 11=>v=.int .i64 0
 | 12=>v=.string (E (shiftN p c g z))
 | 13=>v=.int .i64 0
 | _=>True
theorem vSf_st (gB p q g c:Nat) (z:Int):∀b j u w w',Below w.heap.size w w'→vSf gB p q g c z b j u w→vSf gB p q g c z b j u w':=by
 intro b j u w w' hb h;unfold vSf at h ⊢;split at h
 all_goals first
  | exact h
  | (obtain ⟨x,h1,h2⟩:=h;exact ⟨x,h1,h2.after hb⟩)
theorem r14shift_c (p q g h c:Nat) (z:Int) (w:World) (hp:p<256^8) (hq:q<256^128) (hgb:g<256^128) (hhb:h<256^128) (hcb:c<256^128) (hzb:z.natAbs<256^128)
  (he:pedE p q g h=0) (hc:hasB p q c=true) (hg:hasB p q g=true) :
  Calls Tryz.prog 67 #[.agg #[.string (E p),.string (E q),.string (E g),.string (E h)],.string (E c),.agg #[.bool (sg (z)),.string (E (z).natAbs)]] w fun e w'=>e=.returned (.tuple #[.string (E (shiftN p c g z)),.int .i64 0])∧Below w.heap.size w w':=by
 have HE:=Lib.hid (fun w=>r14elem_c p q g h c w hp hq hgb hhb hcb he hc);have HV:=Lib.hid (fun w=>rivalidI_c z w hzb);have HO:Hid (∀w,Calls Tryz.prog 52 #[.int .i64 1] w fun e w'=>e=.returned (.agg #[.bool false,.string (E 1)])∧Below w.heap.size w w'):=fun w=>riof_c 1 w (by decide) (by decide)
 have HPR:=Lib.hid (fun bl bz w=>rproductS_c p q c g z bl bz w hp hq (pedE_grp he) hc hg hzb);have hB:=blk2a w #[Value.string (E p),Value.string (E q),Value.string (E g),Value.string (E h)] #[.bool (sg z),.string (E z.natAbs)] 26 28;have hI:=blk2b w #[Value.string (E p),Value.string (E q),Value.string (E g),Value.string (E h)] #[.bool (sg z),.string (E z.natAbs)] 26 28;have hBW:=b2 w (.cells #[Value.string (E p),Value.string (E q),Value.string (E g),Value.string (E h)] 26) (.cells #[.bool (sg z),.string (E z.natAbs)] 28);clear hp hq hgb hhb hcb hzb he hc hg;go_enter Tryz.func67,Tryz.ntmps67
 have hBg0:=hB.gcell 0;have hBg1:=hB.gcell 1;have hBg2:=hB.gcell 2;have hBg3:=hB.gcell 3;have hIg0:=hI.gcell 0;have hIg1:=hI.gcell 1;go_wp2_with fail
 refine wp_region_gw (by kernel_rfl) (by kernel_rfl) ?_;repeat (go_big_quiet_step (first | (go_at_call 73;exact gw_of (HV.out _)) | (go_at_call 117;exact gw_of (HE.out _))))
 refine wpQuiet_nil ?_;rintro w3 ⟨xw3,rfl⟩;have hb3:=gw_below xw3;generalize gw xw3=w3 at hb3;replace hB:=hB.after hb3;replace hI:=hI.after hb3;replace hBW:=bt hBW hb3;go_upto_region 4 with fail
 go_cut [6,7] (fun s6 s7 wx=>s6=.string (E (shiftN p c g z))∧s7=.int .i64 0∧Below w3.heap.size w3 wx)
 case first =>
  refine wp_region_inv (vSf w.heap.size p q g c z) 99 29 (by kernel_rfl) rfl (by kernel_rfl) ?_ ?_ (by kernel_rfl)
  ·intro hsl done a' w' i o hI9 ho hun hpre;have hi:=(Array.getElem?_eq_some_iff.1 ho).1;have hst:=vSf_st w.heap.size p q g c z;have hwz:=hI9.bw.size;match i,hi,ho,hun,hpre with
   | 0,_,ho,hun,hpre =>
    simp at ho;subst ho;refine hI9.op (d:=17) hsl hst hwz rfl rfl rfl (by decide) hpre ?_;simp only [List.getElem_toArray,List.getElem_cons_zero,List.getElem_cons_succ] at hpre ⊢;have q3:=hI9.keep 3 (.pointer (some ⟨w.heap.size,0,none⟩)) rfl (by kernel_rfl);refine wp_val (v:=.pointer (some ⟨w.heap.size,0,none⟩)) (by simp [execOp,q3,go_sem]) rfl
   | 1,_,ho,hun,hpre =>
    simp at ho;subst ho;refine hI9.op (d:=18) hsl hst hwz rfl rfl rfl (by decide) hpre ?_;simp only [List.getElem_toArray,List.getElem_cons_zero,List.getElem_cons_succ] at hpre ⊢;obtain ⟨v17,ev17,hv17⟩:=hI9.dn 0 _ 17 rfl (hpre { on:=0,ground:=Ground.data } (by simp) rfl) rfl;have qv17:=eval_of ev17;have hBx:=hB.after hI9.bw;have hBl:=hBx.lt;have x0:=hBx.cell 0;have x1:=hBx.cell 1;have x2:=hBx.cell 2;have x3:=hBx.cell 3;obtain rfl:v17=.pointer (some ⟨w.heap.size,0,none⟩):=hv17;refine wp_val (v:=.agg #[.string (E p),.string (E q)]) (by simp [execOp,ev17,go_sem,x0,x1]) rfl
   | 2,_,ho,hun,hpre =>
    simp at ho;subst ho;refine hI9.op (d:=19) hsl hst hwz rfl rfl rfl (by decide) hpre ?_;simp only [List.getElem_toArray,List.getElem_cons_zero,List.getElem_cons_succ] at hpre ⊢;have q1:=hI9.keep 1 (.string (E c)) rfl (by kernel_rfl);refine wp_val (v:=.string (E c)) (by simp [execOp,q1,go_sem]) rfl
   | 3,_,ho,hun,hpre =>
    simp at ho;subst ho;refine hI9.op (d:=20) hsl hst hwz rfl rfl rfl (by decide) hpre ?_;simp only [List.getElem_toArray,List.getElem_cons_zero,List.getElem_cons_succ] at hpre ⊢;have q3:=hI9.keep 3 (.pointer (some ⟨w.heap.size,0,none⟩)) rfl (by kernel_rfl);refine wp_val (v:=.pointer (some ⟨w.heap.size,2,none⟩)) (by simp [execOp,q3,go_sem]) rfl
   | 4,_,ho,hun,hpre =>
    simp at ho;subst ho;refine hI9.op (d:=21) hsl hst hwz rfl rfl rfl (by decide) hpre ?_;simp only [List.getElem_toArray,List.getElem_cons_zero,List.getElem_cons_succ] at hpre ⊢;obtain ⟨v20,ev20,hv20⟩:=hI9.dn 3 _ 20 rfl (hpre { on:=3,ground:=Ground.data } (by simp) rfl) rfl;have qv20:=eval_of ev20;have hBx:=hB.after hI9.bw;have hBl:=hBx.lt;have x0:=hBx.cell 0;have x1:=hBx.cell 1;have x2:=hBx.cell 2;have x3:=hBx.cell 3;obtain rfl:v20=.pointer (some ⟨w.heap.size,2,none⟩):=hv20;refine wp_val (v:=.string (E g)) (by simp [execOp,ev20,go_sem,x2]) rfl
   | 5,_,ho,hun,hpre =>
    simp at ho;subst ho;refine hI9.op (d:=22) hsl hst hwz rfl rfl rfl (by decide) hpre ?_;simp only [List.getElem_toArray,List.getElem_cons_zero,List.getElem_cons_succ] at hpre ⊢;obtain ⟨v19,ev19,hv19⟩:=hI9.dn 2 _ 19 rfl (hpre { on:=2,ground:=Ground.data } (by simp) rfl) rfl;have qv19:=eval_of ev19;obtain ⟨v21,ev21,hv21⟩:=hI9.dn 4 _ 21 rfl (hpre { on:=4,ground:=Ground.data } (by simp) rfl) rfl;have qv21:=eval_of ev21;obtain rfl:v19=.string (E c):=hv19;obtain rfl:v21=.string (E g):=hv21;have hN:=Blk.new w' #[.string (E c),.string (E g)] 22;simp [Oper.wp,execOp,ev19,ev21,go_sem];exact ⟨_,rfl,b1 _ _,w'.heap.size,rfl,hN⟩
   | 6,_,ho,hun,hpre =>
    simp at ho;subst ho;refine hI9.op (d:=23) hsl hst hwz rfl rfl rfl (by decide) hpre ?_;simp only [List.getElem_toArray,List.getElem_cons_zero,List.getElem_cons_succ] at hpre ⊢;refine wp_callX 52 #[.const (.int .i64 1)] #[2] rfl (enters_of Tryz.func52 (by kernel_rfl) rfl) ?_;simp only [List.map_toArray,List.map_cons,List.map_nil,eval_const];refine (HO.out w').mono ?_;rintro e w'' ⟨rfl,hb⟩;exact ⟨_,rfl,hb,rfl⟩
   | 7,_,ho,hun,hpre =>
    simp at ho;subst ho;refine hI9.op (d:=24) hsl hst hwz rfl rfl rfl (by decide) hpre ?_;simp only [List.getElem_toArray,List.getElem_cons_zero,List.getElem_cons_succ] at hpre ⊢;have q5:=hI9.keep 5 (.pointer (some ⟨w.heap.size+1,0,none⟩)) rfl (by kernel_rfl);have hIx:=hI.after hI9.bw;have hIl:=hIx.lt;have x0:=hIx.cell 0;have x1:=hIx.cell 1;refine wp_val (v:=.agg #[.bool (sg z),.string (E z.natAbs)]) (by simp [execOp,q5,go_sem,x0,x1]) rfl
   | 8,_,ho,hun,hpre =>
    simp at ho;subst ho;refine hI9.op (d:=25) hsl hst hwz rfl rfl rfl (by decide) hpre ?_;simp only [List.getElem_toArray,List.getElem_cons_zero,List.getElem_cons_succ] at hpre ⊢;obtain ⟨v23,ev23,hv23⟩:=hI9.dn 6 _ 23 rfl (hpre { on:=6,ground:=Ground.data } (by simp) rfl) rfl;have qv23:=eval_of ev23;obtain ⟨v24,ev24,hv24⟩:=hI9.dn 7 _ 24 rfl (hpre { on:=7,ground:=Ground.data } (by simp) rfl) rfl;have qv24:=eval_of ev24;obtain rfl:v23=.agg #[.bool false,.string (E 1)]:=hv23;obtain rfl:v24=.agg #[.bool (sg z),.string (E z.natAbs)]:=hv24;have hN:=Blk.new w' #[.bool false,.string (E 1),.bool (sg z),.string (E z.natAbs)] 28;simp [Oper.wp,execOp,ev23,ev24,go_sem];exact ⟨_,rfl,b1 _ _,w'.heap.size,rfl,hN⟩
   | 9,_,ho,hun,hpre =>
    simp at ho;subst ho;refine hI9.op (d:=26) hsl hst hwz rfl rfl rfl (by decide) hpre ?_;simp only [List.getElem_toArray,List.getElem_cons_zero,List.getElem_cons_succ] at hpre ⊢;obtain ⟨v18,ev18,hv18⟩:=hI9.dn 1 _ 18 rfl (hpre { on:=1,ground:=Ground.data } (by simp) rfl) rfl;have qv18:=eval_of ev18;obtain ⟨v22,ev22,hv22⟩:=hI9.dn 5 _ 22 rfl (hpre { on:=5,ground:=Ground.data } (by simp) rfl) rfl;have qv22:=eval_of ev22;obtain ⟨v25,ev25,hv25⟩:=hI9.dn 8 _ 25 rfl (hpre { on:=8,ground:=Ground.data } (by simp) rfl) rfl;have qv25:=eval_of ev25;obtain rfl:v18=.agg #[.string (E p),.string (E q)]:=hv18;obtain ⟨b1x,rfl,hL⟩:=hv22;obtain ⟨b2x,rfl,hZ⟩:=hv25;refine wp_callX 81 #[.tmp 18,.tmp 22,.tmp 25] #[24,45,37] rfl (enters_of Tryz.func81 (by kernel_rfl) rfl) ?_;simp only [List.map_toArray,List.map_cons,List.map_nil,qv18,qv22,qv25];refine (HPR.out b1x b2x w' hL hZ).mono ?_;rintro e w'' ⟨rfl,hb⟩;exact ⟨_,rfl,hb,rfl⟩
   | 10,_,ho,hun,hpre =>
    simp at ho;subst ho;refine hI9.op (d:=27) hsl hst hwz rfl rfl rfl (by decide) hpre ?_;simp only [List.getElem_toArray,List.getElem_cons_zero,List.getElem_cons_succ] at hpre ⊢;obtain ⟨v26,ev26,hv26⟩:=hI9.dn 9 _ 26 rfl (hpre { on:=9,ground:=Ground.data } (by simp) rfl) rfl;have qv26:=eval_of ev26;obtain rfl:v26=.tuple #[.string (E (shiftN p c g z)),.int .i64 0]:=hv26;refine wp_val (v:=.string (E (shiftN p c g z))) (by simp [execOp,ev26,go_sem]) rfl
   | 11,_,ho,hun,hpre =>
    simp at ho;subst ho;refine hI9.op (d:=28) hsl hst hwz rfl rfl rfl (by decide) hpre ?_;simp only [List.getElem_toArray,List.getElem_cons_zero,List.getElem_cons_succ] at hpre ⊢;obtain ⟨v26,ev26,hv26⟩:=hI9.dn 9 _ 26 rfl (hpre { on:=9,ground:=Ground.data } (by simp) rfl) rfl;have qv26:=eval_of ev26;obtain rfl:v26=.tuple #[.string (E (shiftN p c g z)),.int .i64 0]:=hv26;refine wp_val (v:=.int .i64 0) (by simp [execOp,ev26,go_sem]) rfl
   | 12,_,ho,hun,hpre =>
    simp at ho;subst ho;refine hI9.op (d:=6) hsl hst hwz rfl rfl rfl (by decide) hpre ?_;simp only [List.getElem_toArray,List.getElem_cons_zero,List.getElem_cons_succ] at hpre ⊢;obtain ⟨v27,ev27,hv27⟩:=hI9.dn 10 _ 27 rfl (hpre { on:=10,ground:=Ground.data } (by simp) rfl) rfl;have qv27:=eval_of ev27;refine wp_val (v:=v27) (by simp [execOp,ev27,go_sem]) ?_;exact hv27
   | 13,_,ho,hun,hpre =>
    simp at ho;subst ho;refine hI9.op (d:=7) hsl hst hwz rfl rfl rfl (by decide) hpre ?_;simp only [List.getElem_toArray,List.getElem_cons_zero,List.getElem_cons_succ] at hpre ⊢;obtain ⟨v28,ev28,hv28⟩:=hI9.dn 11 _ 28 rfl (hpre { on:=11,ground:=Ground.data } (by simp) rfl) rfl;have qv28:=eval_of ev28;refine wp_val (v:=v28) (by simp [execOp,ev28,go_sem]) ?_;exact hv28
  ·intro done a' w' hI9 hd;obtain ⟨f,hf,hv⟩:=hI9.all hd;have h12:=hv 12 _ 6 rfl rfl;have h13:=hv 13 _ 7 rfl rfl;subst hf;simp only [putAll,List.size_toArray,List.length_cons,List.length_nil,Nat.reduceAdd,List.getElem?_toArray,List.getElem?_cons_zero,List.getElem?_cons_succ,Option.bind_some,Act.put,List.setIfInBounds_toArray,List.set_cons_zero,List.set_cons_succ];go_wp2_with fail
   go_meet
   exact ⟨h12,h13,hI9.bw⟩
 case rest =>
  obtain ⟨rfl,rfl,hbc⟩:=hcut;go_wp2;go_ret2
  exact ⟨rfl,bt hBW hbc⟩
end
end Go.Proofs.YtfgandecbkbleaaGreatDoor
