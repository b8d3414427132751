import Derived.Test.YteahlbhjhjhljaaGreatDoorFs5
import Derived.Test.YteahlbhjhjhljaaGreatDoorLdv1
import Derived.Test.YteahlbhjhjhljaaGreatDoorIdx
import Derived.Test.YteahlbhjhjhljaaGreatDoorSet1
import Derived.Test.YteahlbhjhjhljaaGreatDoorRMod1
import Derived.Deep.RegionHeld3
import Derived.Deep.DrawnRows
set_option linter.unusedVariables false
set_option linter.unusedSimpArgs false
set_option maxRecDepth 100000
set_option maxHeartbeats 16000000
namespace Go.Proofs.YteahlbhjhjhljaaGreatDoor
section
open Go.RowKit Go.Shelf
theorem dzT {n k:Nat} (h:¬ n≤k):decide ((k:Int)<(n:Int))=true:=decide_eq_true (by omega)
theorem dzF {n k:Nat} (h:n≤k):decide ((k:Int)<(n:Int))=false:=decide_eq_false (by omega)
theorem l27num_c (n:Nat) (w:World) (h:n<256^8) :
  Calls Tryz.prog 17 #[.int .u64 (n:Int)] w fun e w'=>e=.returned (.string (E n))∧Below w.heap.size w w':=by
 have HO:=Lib.hid (fun w=>rof_c n w h);go_enter Tryz.func17,Tryz.ntmps17
 go_wp2_with fail
 refine (HO.out _).mono ?_;rintro e w' ⟨rfl,hb⟩;go_wp2;go_ret
 exact ⟨rfl,hb⟩
theorem l27whole_c (z:Int) (w:World) (h1:-9223372036854775808≤z) (h2:z≤9223372036854775807) :
  Calls Tryz.prog 15 #[.int .i64 z] w fun e w'=>e=.returned (.agg #[.bool (sg (z)),.string (E (z).natAbs)])∧Below w.heap.size w w':=by
 have HO:Hid (∀w,Calls Tryz.prog 32 #[.int .i64 z] w fun e w'=>e=.returned (.agg #[.bool (sg (z)),.string (E (z).natAbs)])∧Below w.heap.size w w'):=fun w=>riof_c z w h1 h2
 have hB:=Blk.new w #[Value.bool false,.string ⟨#[]⟩] 28;have hBW:=b1 w (.cells #[Value.bool false,.string ⟨#[]⟩] 28);go_enter Tryz.func15,Tryz.ntmps15
 go_wp2_with fail
 refine (HO.out _).mono ?_;rintro e w1 ⟨rfl,hb⟩;have hB2:=hB.after hb;have hBW2:=bt hBW hb;have hl:=hB2.lt;clear hB hb hBW;obtain ⟨hB2c0,hB2f0,hB2c1,hB2f1⟩:=hB2.x2;go_wp2;refine bodyPost_ret (v:=.agg #[.bool (sg (z)),.string (E (z).natAbs)]) ?_ rfl ?_
 ·simp [results,Tryz.results15,go_sem,hB2c0,hB2c1,hB2f0,hB2f1,hl]
 ·exact ⟨rfl,(hBW2.setCell (Nat.le_refl _) _).setCell (Nat.le_refl _) _⟩
theorem l27opening_c (a b:Bool) (s t:ByteArray) (w:World) (hs:s.size≤9223372036854775807) (ht:t.size≤9223372036854775807) :
  Calls Tryz.prog 42 #[.agg #[.bool a,.string s,.bool b,.string t]] w fun e w'=>e=.returned (.bool (decide (s.size≤12)&&decide (t.size≤12)))∧Below w.heap.size w w':=by
 have hB:=Blk.new w #[Value.bool a,Value.string s,Value.bool b,Value.string t] 30;have hBW:=b1 w (.cells #[Value.bool a,Value.string s,Value.bool b,Value.string t] 30);by_cases h1:s.size≤12
 ·rw [decide_eq_true h1];have h1i:(s.size:Int)≤12:=by omega
  by_cases h2:t.size≤12
  ·rw [decide_eq_true h2];have h2i:(t.size:Int)≤12:=by omega
   obtain ⟨hBc0,hBf0,hBc1,hBf1,hBc2,hBf2,hBc3,hBf3⟩:=hB.x4;go_enter Tryz.func42,Tryz.ntmps42
   go_wp2;go_ret
   exact ⟨rfl,hBW⟩
  ·rw [decide_eq_false h2];have h2i:¬ (t.size:Int)≤12:=by omega
   obtain ⟨hBc0,hBf0,hBc1,hBf1,hBc2,hBf2,hBc3,hBf3⟩:=hB.x4;go_enter Tryz.func42,Tryz.ntmps42
   go_wp2;go_ret
   exact ⟨rfl,hBW⟩
 ·rw [decide_eq_false h1];have h1i:¬ (s.size:Int)≤12:=by omega
  obtain ⟨hBc0,hBf0,hBc1,hBf1,hBc2,hBf2,hBc3,hBf3⟩:=hB.x4;go_enter Tryz.func42,Tryz.ntmps42
  go_wp2;go_ret
  exact ⟨rfl,hBW⟩
def kfw (a b c d:ByteArray):Bool:=decide (a.size≤8)&&decide (b.size≤8)&&decide (c.size≤12)&&decide (d.size≤12)
theorem l27Few_c (a b c d:ByteArray) (w:World) :
  Calls Tryz.prog 41 #[.agg #[.string a,.string b,.string c,.string d]] w fun e w'=>e=.returned (.bool (kfw a b c d))∧Below w.heap.size w w':=by
 go_enter Tryz.func41,Tryz.ntmps41
 go_wp2;all_goals go_ret
 all_goals exact ⟨rb (by simp only [kfw];rw [Bool.eq_iff_iff];simp;omega),b1 _ _⟩
def szN (x:ByteArray):Bool:=decide (x.size≤16)
def tfw (L:List ByteArray) (sd:ByteArray):Bool:=L.all szN&&decide (L.length≤80)&&decide (sd.size≤60)
theorem l27few_c (L:List ByteArray) (sd:ByteArray) (ti:Int) (v:Value) (w:World) (hn:L.length≤9223372036854775807) (hs:∀x∈L,x.size≤9223372036854775807) (hR:SsAt w v L) :
  Calls Tryz.prog 10 #[.agg #[v,.string sd,.int .i64 ti]] w fun e w'=>e=.returned (.bool (tfw L sd))∧Below w.heap.size w w':=by
 obtain ⟨ao,c,rfl⟩:=RAt.form hR;obtain ⟨r,hr⟩:∃r,r=tfw L sd:=⟨_,rfl⟩;rw [←hr];have HR:=Lib.hid hr;obtain ⟨m,hm⟩:∃m,m=L.length:=⟨_,rfl⟩;have HM:=Lib.hid hm;rw [←hm] at hR hn ⊢;have HS:=Lib.hid hs;clear hr hm hs;have hB:=Blk.new w #[Value.slice ao m c,.string sd,.int .i64 ti] 35;have hBW:=b1 w (.cells #[Value.slice ao m c,.string sd,.int .i64 ti] 35);have hR1:=SsAt.after hR hBW;go_enter Tryz.func10,Tryz.ntmps10
 go_wp2;generalize w.alloc (.cells #[Value.slice ao m c,.string sd,.int .i64 ti] 35)=w1 at hB hBW hR1 ⊢;generalize w.heap.size=g at hB ⊢;replace hB:Blk w1 g 35 [Value.slice ao m c,.string sd,.int .i64 ti]:=hB;clear hR;obtain ⟨hBc0,hBf0,hBc1,hBf1,hBc2,hBf2⟩:=hB.x3;go_loop [3] (fun i=>∃k:Nat,k≤m∧k≤80∧i=.int .i64 k∧Hid ((L.take k).all szN=true)) (fun i=>m-(intOf i).toNat)
 case atStart=>exact ⟨0,by omega,by omega,rfl,rfl⟩
 case round =>
  obtain ⟨k,hk,hk20,rfl,HK⟩:=hrel;by_cases hlt:k<m
  ·by_cases h20:k<80
   ·have hkl:k<L.length:=by rw [←HM.out];exact hlt
    obtain ⟨b,o,rfl,hb,x1⟩:=SsAt.at_ hR1 hkl;have hsz:=HS.out _ (List.getElem_mem hkl);have h0k:(0:Int)≤(k:Int):=by omega
    have h1k:(k:Int)<(m:Int):=by omega
    have h2k:(k:Int)<80:=by omega
    have HT:=Lib.hid (all_take szN L k hkl);have HB:Hid (szN L[k]=false→tfw L sd=false):=fun h=>by unfold tfw;rw [all_bad szN L k hkl h];rfl
    have HQ:Hid (szN L[k]=decide (L[k].size≤16)):=rfl;generalize szN (L[k]'hkl)=q at HT HB HQ;generalize (L[k]'hkl)=s at x1 hsz HQ;by_cases h8:s.size≤16
    ·have hd:decide ((16:Int)<(s.size:Int))=false:=dzF h8;have HX:Hid ((L.take (k+1)).all szN=true):=by rw [Hid,HT.out,HK.out,HQ.out,decide_eq_true h8];rfl
     clear h8;go_wp2;go_round
     case rel=>exact ⟨k+1,by omega,by omega,by go_num,HX⟩
     case measure=>simp [intOf];omega
    ·have hd:decide ((16:Int)<(s.size:Int))=true:=dzT h8;have HF:Hid (r=false):=by rw [Hid,HR.out];exact HB.out (by rw [HQ.out];exact decide_eq_false h8)
     clear h8;go_wp2;go_ret
     exact ⟨by first | (rw [HF.out];done) | (rw [HF.out];rfl),hBW⟩
   ·have hk2:k=80:=by omega
    have HF:Hid (r=false):=by
     rw [Hid,HR.out,tfw,decide_eq_false (show ¬ L.length≤80 by have:=HM.out;omega),Bool.and_false,Bool.false_and]
    have h1k:(k:Int)<(m:Int):=by omega
    have hq:decide ((m:Int)≤80)=false:=decide_eq_false (by omega);subst hk2;clear h20 hk20;go_wp2;go_ret
    exact ⟨by first | (rw [HF.out];done) | (rw [HF.out];rfl),hBW⟩
  ·obtain rfl:k=m:=by omega
   by_cases h8:k≤80
   ·have hq:decide ((k:Int)≤80)=true:=decide_eq_true (by omega)
    have HF:Hid (r=decide (sd.size≤60)):=by
     rw [Hid,HR.out,tfw,all_end szN L k HM.out HK.out,decide_eq_true (show L.length≤80 by have:=HM.out;omega)] <;> rfl
    clear hk20;by_cases h6:sd.size≤60
    ·have h6i:decide ((sd.size:Int)≤60)=true:=decide_eq_true (by omega);replace HF:Hid (r=true):=HF.out.trans (decide_eq_true h6);clear h6;go_wp2;go_ret
     exact ⟨by first | (rw [HF.out];done) | (rw [HF.out];rfl),hBW⟩
    ·have h6i:decide ((sd.size:Int)≤60)=false:=decide_eq_false (by omega);replace HF:Hid (r=false):=HF.out.trans (decide_eq_false h6);clear h6;go_wp2;go_ret
     exact ⟨by first | (rw [HF.out];done) | (rw [HF.out];rfl),hBW⟩
   ·exact absurd hk20 h8
end
section
open Go.RowKit Go.Shelf
structure Opn where
 vn:Bool
 va:ByteArray
 rn:Bool
 ra:ByteArray
def QOpn (_:World) (x:Opn) (cs:List Value):Prop:=cs=[.bool x.vn,.string x.va,.bool x.rn,.string x.ra]
def OsAt:=RAt QOpn 4
theorem OsAt.after {w w':World} {v:Value} {l:List Opn} (h:OsAt w v l) (hb:Below w.heap.size w w'):OsAt w' v l:=RAt.after h hb (fun _ _ h=>h)
theorem OsAt.at_ {w:World} {ao:Option Addr} {n c k:Nat} {l:List Opn} (h:OsAt w (.slice ao n c) l) (hk:k<l.length):∃b o,ao=some ⟨b,o,none⟩∧b<w.heap.size∧w.cell? ⟨b,o+k*4,none⟩=some (.bool l[k].vn)∧w.cell? ⟨b,o+k*4+1,none⟩=some (.string l[k].va)∧w.cell? ⟨b,o+k*4+2,none⟩=some (.bool l[k].rn)∧w.cell? ⟨b,o+k*4+3,none⟩=some (.string l[k].ra):=by
 obtain ⟨b,o,cs,h1,h2,h3,h4⟩:=RAt.at_ h hk;have e0:=h4 0 (by omega);have e1:=h4 1 (by omega);have e2:=h4 2 (by omega);have e3:=h4 3 (by omega);rw [h3] at e0 e1 e2 e3;exact ⟨b,o,h1,h2,by simpa using e0,by simpa using e1,by simpa using e2,by simpa using e3⟩
end
section
open Go.RowKit
theorem nats2 {w:World} {b c g:Nat} {T:TypeId} (h:Blk w b T [.string (E c),.string (E g)]):NatsAt w b [c,g]:=NatsAt.of_blk (T:=T) h
theorem pw1_eq {p x:Nat} (z:Int) (hx:x<p):pw (prs p [x] [z]) 0%p=powI x z p:=by
 unfold powI prs bse;simp only [List.zipWith_cons_cons,List.zipWith_nil_left,pw,Nat.pow_zero,Nat.div_one,Nat.mul_one];rw [Nat.mod_eq_of_lt hx];split <;> rfl
end
section
open Go.RowKit
end
section
open Go.RowKit
theorem ints2x {w:World} {b:Nat} {x y:Int} {T:TypeId} (h:Blk w b T [.bool (sg x),.string (E x.natAbs),.bool (sg y),.string (E y.natAbs)]):IntsAt w b [x,y]:=by
 refine ⟨h.lt,fun j hj=>?_⟩;match j,hj with
 | 0,_=>exact ⟨h.cell 0,h.cell 1⟩
 | 1,_=>exact ⟨h.cell 2,h.cell 3⟩
theorem ivalX_c (n:Bool) (s:ByteArray) (b:Bool) (w:World) (hs:s.size≤1000) (h:ivB n s=b):Calls Tryz.prog 136 #[.agg #[.bool n,.string s]] w fun e w'=>e=.returned (.bool b)∧Below w.heap.size w w':=by
 rw [←h];exact ivalid_c n s w (by omega)
def opn (m r:Int):Value:=.agg #[.bool (sg m),.string (E m.natAbs),.bool (sg r),.string (E r.natAbs)]
theorem pvalidB_c (a b:Bool) (s t:ByteArray) (w:World) (hs:s.size≤1000) (ht:t.size≤1000) :
  Calls Tryz.prog 157 #[.agg #[.bool a,.string s,.bool b,.string t]] w fun e w'=>e=.returned (.bool (ivB a s&&ivB b t))∧Below w.heap.size w w':=by
 obtain ⟨r1,hr1⟩:∃r1,ivB a s=r1:=⟨_,rfl⟩;obtain ⟨r2,hr2⟩:∃r2,ivB b t=r2:=⟨_,rfl⟩;rw [hr1,hr2];have H1:Hid (∀w,Calls Tryz.prog 136 #[.agg #[.bool a,.string s]] w fun e w'=>e=.returned (.bool r1)∧Below w.heap.size w w'):=fun w=>ivalX_c a s r1 w hs hr1
 have H2:Hid (∀w,Calls Tryz.prog 136 #[.agg #[.bool b,.string t]] w fun e w'=>e=.returned (.bool r2)∧Below w.heap.size w w'):=fun w=>ivalX_c b t r2 w ht hr2
 have hB:=Blk.new w #[Value.bool a,Value.string s,Value.bool b,Value.string t] 30;have hBW:=b1 w (.cells #[Value.bool a,Value.string s,Value.bool b,Value.string t] 30);clear hs ht hr1 hr2;cases r1
 ·
  obtain ⟨hBc0,hBf0,hBc1,hBf1,hBc2,hBf2,hBc3,hBf3⟩:=hB.x4;go_enter Tryz.func157,Tryz.ntmps157
  go_wp2_with fail
  refine (H1.out _).mono ?_;rintro e w1 ⟨rfl,hb1⟩;go_wp2;go_ret
  exact ⟨rfl,bt hBW hb1⟩
 ·
  obtain ⟨hBc0,hBf0,hBc1,hBf1,hBc2,hBf2,hBc3,hBf3⟩:=hB.x4;go_enter Tryz.func157,Tryz.ntmps157
  go_wp2_with fail
  refine (H1.out _).mono ?_;rintro e w1 ⟨rfl,hb1⟩;clear hBc0 hBf0 hBc1 hBf1 hBc2 hBf2 hBc3 hBf3;replace hB:=hB.after hb1;replace hBW:=bt hBW hb1;obtain ⟨hBc0,hBf0,hBc1,hBf1,hBc2,hBf2,hBc3,hBf3⟩:=hB.x4;go_wp2_with fail
  refine (H2.out _).mono ?_;rintro e w2 ⟨rfl,hb2⟩;go_wp2;go_ret
  exact ⟨by cases r2 <;> rfl,bt hBW hb2⟩
theorem pvalidI_c (m r:Int) (w:World) (hm:m.natAbs<256^128) (hr:r.natAbs<256^128) :
  Calls Tryz.prog 157 #[opn m r] w fun e w'=>e=.returned (.bool true)∧Below w.heap.size w w':=by
 have:=pvalidB_c (sg m) (sg r) (E m.natAbs) (E r.natAbs) w (sz1000 hm) (sz1000 hr);rw [ivB_I m hm,ivB_I r hr] at this;exact this
def cmtN (p g h:Nat) (m r:Int):Nat:=pw (prs p [g,h] [m,r]) 0%p
theorem product3_c (p q g h:Nat) (m r:Int) (bl bz:Nat) (w:World) (hp:p<256^8) (hq:q<256^128) (he:grpE p q=0) (hg:hasB p q g=true) (hh:hasB p q h=true) (hm:m.natAbs<256^128) (hr:r.natAbs<256^128)
  (hL:Blk w bl 22 [.string (E g),.string (E h)]) (hZ:Blk w bz 28 [.bool (sg m),.string (E m.natAbs),.bool (sg r),.string (E r.natAbs)]) :
  Calls Tryz.prog 146 #[.agg #[.string (E p),.string (E q)],.slice (some ⟨bl,0,none⟩) 2 2,.slice (some ⟨bz,0,none⟩) 2 2] w fun e w'=>e=.returned (.tuple #[.string (E (cmtN p g h m r)),.int .i64 0])∧Below w.heap.size w w':=
 product_c p q bl bz 2 2 2 [g,h] [m,r] w hp hq he rfl rfl (by omega) (by omega) (by omega) (by omega) (by omega)
  (by intro x hx;simp at hx;rcases hx with rfl | rfl <;> assumption) (by intro y hy;simp at hy;rcases hy with rfl | rfl <;> assumption) (nats2 hL) (ints2x hZ)
theorem commit_c (p q g h:Nat) (m r:Int) (w:World) (hp:p<256^8) (hq:q<256^128) (hgb:g<256^128) (hhb:h<256^128) (hm:m.natAbs<256^128) (hr:r.natAbs<256^128)
  (he:pedE p q g h=0) (hg:hasB p q g=true) (hh:hasB p q h=true) :
  Calls Tryz.prog 90 #[.agg #[.string (E p),.string (E q),.string (E g),.string (E h)],opn m r] w fun e w'=>e=.returned (.tuple #[.string (E (cmtN p g h m r)),.int .i64 0])∧Below w.heap.size w w':=by
 unfold opn;have HF:=Lib.hid (fun w=>pformedV_c (E p) (E q) (E g) (E h) true w (sz1000 (lt128 hp)) (sz1000 hq) (sz1000 hgb) (sz1000 hhb) (vl4_E (lt128 hp) hq hgb hhb));have HPC:=Lib.hid (fun w=>pedcheckV_c p q g h 0 w hp hq hgb hhb he);have HV:Hid (∀w,Calls Tryz.prog 157 #[.agg #[.bool (sg m),.string (E m.natAbs),.bool (sg r),.string (E r.natAbs)]] w fun e w'=>e=.returned (.bool true)∧Below w.heap.size w w'):=fun w=>pvalidI_c m r w hm hr
 have HPR:=Lib.hid (fun bl bz w=>product3_c p q g h m r bl bz w hp hq (pedE_grp he) hg hh hm hr);have hB:=blk2a w #[Value.string (E p),Value.string (E q),Value.string (E g),Value.string (E h)] #[.bool (sg m),.string (E m.natAbs),.bool (sg r),.string (E r.natAbs)] 26 30;have hI:=blk2b w #[Value.string (E p),Value.string (E q),Value.string (E g),Value.string (E h)] #[.bool (sg m),.string (E m.natAbs),.bool (sg r),.string (E r.natAbs)] 26 30;have hBW:=b2 w (.cells #[Value.string (E p),Value.string (E q),Value.string (E g),Value.string (E h)] 26) (.cells #[.bool (sg m),.string (E m.natAbs),.bool (sg r),.string (E r.natAbs)] 30);clear hp hq hgb hhb hm hr he hg hh;obtain ⟨hBc0,hBf0,hBc1,hBf1,hBc2,hBf2,hBc3,hBf3⟩:=hB.x4;obtain ⟨hIc0,hIf0,hIc1,hIf1,hIc2,hIf2,hIc3,hIf3⟩:=hI.x4;go_enter Tryz.func90,Tryz.ntmps90
 go_wp2_with fail
 refine (HF.out _).mono ?_;rintro e w1 ⟨rfl,hb1⟩;clear hBc0 hBf0 hBc1 hBf1 hBc2 hBf2 hBc3 hBf3;clear hIc0 hIf0 hIc1 hIf1 hIc2 hIf2 hIc3 hIf3;replace hB:=hB.after hb1;replace hI:=hI.after hb1;replace hBW:=bt hBW hb1;obtain ⟨hBc0,hBf0,hBc1,hBf1,hBc2,hBf2,hBc3,hBf3⟩:=hB.x4;obtain ⟨hIc0,hIf0,hIc1,hIf1,hIc2,hIf2,hIc3,hIf3⟩:=hI.x4;go_wp2_with fail
 refine (HV.out _).mono ?_;rintro e w2 ⟨rfl,hb2⟩;clear hBc0 hBf0 hBc1 hBf1 hBc2 hBf2 hBc3 hBf3;clear hIc0 hIf0 hIc1 hIf1 hIc2 hIf2 hIc3 hIf3;replace hB:=hB.after hb2;replace hI:=hI.after hb2;replace hBW:=bt hBW hb2;obtain ⟨hBc0,hBf0,hBc1,hBf1,hBc2,hBf2,hBc3,hBf3⟩:=hB.x4;obtain ⟨hIc0,hIf0,hIc1,hIf1,hIc2,hIf2,hIc3,hIf3⟩:=hI.x4;go_wp2_with fail
 refine (HPC.out _).mono ?_;rintro e w3 ⟨rfl,hb3⟩;clear hBc0 hBf0 hBc1 hBf1 hBc2 hBf2 hBc3 hBf3;clear hIc0 hIf0 hIc1 hIf1 hIc2 hIf2 hIc3 hIf3;replace hB:=hB.after hb3;replace hI:=hI.after hb3;replace hBW:=bt hBW hb3;obtain ⟨hBc0,hBf0,hBc1,hBf1,hBc2,hBf2,hBc3,hBf3⟩:=hB.x4;obtain ⟨hIc0,hIf0,hIc1,hIf1,hIc2,hIf2,hIc3,hIf3⟩:=hI.x4;clear hb1 hb2 hb3;have hl3:w.heap.size<w3.heap.size:=hB.lt;have hl3':w.heap.size+1<w3.heap.size:=hI.lt;go_wp2_with fail
 refine (HPR.out _ _ _ (blk2a _ _ _ _ _) (blk2b _ _ _ _ _)).mono ?_;rintro e wd ⟨rfl,hbd⟩;go_wp2;go_ret2
 exact ⟨rfl,bt (ba (ba hBW _) _) hbd⟩
end
section
/- Small functions of squarerange and of ref27. -/
open Go.RowKit Go.Shelf
def term1 (s:ByteArray) (v:Int):Value:=.agg #[.string s,.int .i64 v,.bool false,.string (E 1)]
theorem sqterm_c (s:ByteArray) (v:Int) (w:World) :
  Calls Tryz.prog 117 #[.string s,.int .i64 v] w fun e w'=>e=.returned (term1 s v)∧Below w.heap.size w w':=by
 unfold term1;rw [E_one];go_enter Tryz.func117,Tryz.ntmps117
 go_wp2;refine bodyPost_ret (v:=.agg #[.string s,.int .i64 v,.bool false,.string ⟨#[1]⟩]) ?_ rfl ⟨rfl,b1 _ _⟩;have hB:=Blk.new w #[Value.string s,Value.int .i64 v,.bool false,.string ⟨#[1]⟩] 181;have hl:=hB.lt;obtain ⟨hBc0,hBf0,hBc1,hBf1,hBc2,hBf2,hBc3,hBf3⟩:=hB.x4;simp [results,Tryz.results117,go_sem,hBc0,hBc1,hBc2,hBc3,hl]
theorem sqequation_c (t:ByteArray) (ao:Option Addr) (n c:Nat) (w:World) :
  Calls Tryz.prog 116 #[.string t,.slice ao n c] w fun e w'=>e=.returned (.agg #[.int .i64 0,.string t,.slice ao n c])∧Below w.heap.size w w':=by
 go_enter Tryz.func116,Tryz.ntmps116
 go_wp2;refine bodyPost_ret (v:=.agg #[.int .i64 0,.string t,.slice ao n c]) ?_ rfl ⟨rfl,b1 _ _⟩;have hB:=Blk.new w #[Value.int .i64 0,Value.string t,.slice ao n c] 120;have hl:=hB.lt;obtain ⟨hBc0,hBf0,hBc1,hBf1,hBc2,hBf2⟩:=hB.x3;simp [results,Tryz.results116,go_sem,hBc0,hBc1,hBc2,hl]
end
section
/- dominoref02.Small at any integer. -/
open Go.RowKit Go.Shelf
theorem rsm27a_c (n:Nat) (w:World) (h:n<256^8) :
  Calls Tryz.prog 92 #[.string (E n)] w fun e w'=>e=.returned (.tuple #[.int .u64 n,.bool true])∧w=w':=by
 have hs:=(E_size_le n 8).2 h;have e1:decide ((8:Int)<((E n).size:Int))=false:=decide_eq_false (by omega);have HV:Hid (∀w,Calls Tryz.prog 58 #[.string (E n)] w fun e w'=>e=.returned (.bool true)∧w=w'):=fun w=>rvalidE_c n w (Nat.lt_of_lt_of_le h (Nat.pow_le_pow_right (by decide) (by decide)))
 have HU:Hid (∀w,Calls Tryz.prog 160 #[.string (E n)] w fun e w'=>e=.returned (.int .u64 n)∧w=w'):=fun w=>ru64_c n w h
 generalize E n=s at e1 HV HU hs ⊢;clear h;go_enter Tryz.func92,Tryz.ntmps92
 go_wp2_with fail
 refine (HV.out _).mono ?_;rintro e w1 ⟨rfl,rfl⟩;go_wp2_with fail
 refine (HU.out _).mono ?_;rintro e w2 ⟨rfl,rfl⟩;go_wp2;go_ret2
 exact ⟨rfl,rfl⟩
theorem rsm27b_c (n:Nat) (w:World) (h:256^8≤n) (h2:n<256^128) :
  Calls Tryz.prog 92 #[.string (E n)] w fun e w'=>e=.returned (.tuple #[.int .u64 0,.bool false])∧w=w':=by
 have hs:8<(E n).size:=by
  apply Classical.byContradiction
  intro hn;have:=(E_size_le n 8).1 (by omega);omega
 have e1:decide ((8:Int)<((E n).size:Int))=true:=decide_eq_true (by omega);have HV:Hid (∀w,Calls Tryz.prog 58 #[.string (E n)] w fun e w'=>e=.returned (.bool true)∧w=w'):=fun w=>rvalidE_c n w h2
 generalize E n=s at e1 HV hs ⊢;clear h h2;go_enter Tryz.func92,Tryz.ntmps92
 go_wp2_with fail
 refine (HV.out _).mono ?_;rintro e w1 ⟨rfl,rfl⟩;go_wp2;go_ret2
 exact ⟨rfl,rfl⟩
def sm64 (z:Int):Int:=if -9223372036854775808≤z∧z≤9223372036854775807 then z else 0
def sm64B (z:Int):Bool:=decide (-9223372036854775808≤z∧z≤9223372036854775807)
theorem rsm27_c (z:Int) (w:World) (h:z.natAbs<256^128) :
  Calls Tryz.prog 40 #[.agg #[.bool (sg (z)),.string (E (z).natAbs)]] w fun e w'=>e=.returned (.tuple #[.int .i64 (sm64 z),.bool (sm64B z)])∧Below w.heap.size w w':=by
 have HV:Hid (∀w,Calls Tryz.prog 55 #[.agg #[.bool (sg (z)),.string (E (z).natAbs)]] w fun e w'=>e=.returned (.bool true)∧Below w.heap.size w w'):=fun w=>rivalB_c (sg z) (E z.natAbs) true w (by have:=sz z.natAbs h;omega) (ivB_I z h)
 have hP:=Blk.new w #[.bool (sg z),.string (E z.natAbs)] 28;have hBW:=b1 w (.cells #[.bool (sg z),.string (E z.natAbs)] 28);obtain ⟨n,hzn⟩:∃n,n=z.natAbs:=⟨_,rfl⟩;by_cases hn:n<256^8
 ·have HS:Hid (∀w,Calls Tryz.prog 92 #[.string (E n)] w fun e w'=>e=.returned (.tuple #[.int .u64 n,.bool true])∧w=w'):=fun w=>rsm27a_c n w hn
  have hn8:n<18446744073709551616:=hn;rw [←hzn] at HV hP hBW h ⊢;by_cases hz:z<0
  ·have hb:sg z=true:=by unfold sg;exact decide_eq_true hz
   rw [hb] at HV hP hBW ⊢;by_cases hlo:n≤9223372036854775808
   ·have HZ:Hid (sm64 z=-((n:Int)-1)-1):=by rw [Hid,sm64,if_pos (by omega)];omega
    have HZB:Hid (sm64B z=true):=decide_eq_true (by omega);have e0:decide ((n:Int)≤9223372036854775808)=true:=decide_eq_true (by omega);have a1:(0:Int)≤(n:Int)-1:=by omega
    have a2:(n:Int)-1≤9223372036854775807:=by omega
    have c1:IntKind.u64.wrap ((n:Int)-1)=(n:Int)-1:=by rw [IntKind.wrap_u64];omega
    have c2:IntKind.i64.wrap ((n:Int)-1)=(n:Int)-1:=wi64 (by omega) (by omega);have c3:IntKind.i64.wrap (-((n:Int)-1))=-((n:Int)-1):=wi64 (by omega) (by omega);have c4:IntKind.i64.wrap (-((n:Int)-1)-1)=-((n:Int)-1)-1:=wi64 (by omega) (by omega);have HC:=Lib.hid c4;clear hn hn8 hlo h;generalize E n=s at HV HS hP hBW ⊢;clear hz hzn hb a1 a2;obtain ⟨hPc0,hPf0,hPc1,hPf1⟩:=hP.x2;go_enter Tryz.func40,Tryz.ntmps40
    go_wp2_with fail
    refine (HV.out _).mono ?_;rintro e w1 ⟨rfl,hb1⟩;clear hPc0 hPf0 hPc1 hPf1;replace hP:=hP.after hb1;replace hBW:=bt hBW hb1;clear hb1;obtain ⟨hPc0,hPf0,hPc1,hPf1⟩:=hP.x2;go_wp2_with fail
    refine (HS.out _).mono ?_;rintro e w2 ⟨rfl,rfl⟩;go_wp2;go_ret2
    exact ⟨by rw [HZ.out,HZB.out];first | rfl | go_num,hBW⟩
   ·have HZ:Hid (sm64 z=0):=by rw [Hid,sm64,if_neg (by omega)]
    have HZB:Hid (sm64B z=false):=decide_eq_false (by omega);have e0:decide ((n:Int)≤9223372036854775808)=false:=decide_eq_false (by omega);clear hn hn8 hlo h;generalize E n=s at HV HS hP hBW ⊢;clear hz hzn hb;obtain ⟨hPc0,hPf0,hPc1,hPf1⟩:=hP.x2;go_enter Tryz.func40,Tryz.ntmps40
    go_wp2_with fail
    refine (HV.out _).mono ?_;rintro e w1 ⟨rfl,hb1⟩;clear hPc0 hPf0 hPc1 hPf1;replace hP:=hP.after hb1;replace hBW:=bt hBW hb1;clear hb1;obtain ⟨hPc0,hPf0,hPc1,hPf1⟩:=hP.x2;go_wp2_with fail
    refine (HS.out _).mono ?_;rintro e w2 ⟨rfl,rfl⟩;go_wp2;go_ret2
    exact ⟨by rw [HZ.out,HZB.out];first | rfl | go_num,hBW⟩
  ·have hb:sg z=false:=by unfold sg;exact decide_eq_false hz
   rw [hb] at HV hP hBW ⊢;by_cases hlo:n<9223372036854775808
   ·have HZ:Hid (sm64 z=(n:Int)):=by rw [Hid,sm64,if_pos (by omega)];omega
    have HZB:Hid (sm64B z=true):=decide_eq_true (by omega);have e0:decide ((n:Int)<9223372036854775808)=true:=decide_eq_true (by omega);have c2:IntKind.i64.wrap (n:Int)=(n:Int):=wi64 (by omega) (by omega);clear hn hn8 hlo h;generalize E n=s at HV HS hP hBW ⊢;clear hz hzn hb;obtain ⟨hPc0,hPf0,hPc1,hPf1⟩:=hP.x2;go_enter Tryz.func40,Tryz.ntmps40
    go_wp2_with fail
    refine (HV.out _).mono ?_;rintro e w1 ⟨rfl,hb1⟩;clear hPc0 hPf0 hPc1 hPf1;replace hP:=hP.after hb1;replace hBW:=bt hBW hb1;clear hb1;obtain ⟨hPc0,hPf0,hPc1,hPf1⟩:=hP.x2;go_wp2_with fail
    refine (HS.out _).mono ?_;rintro e w2 ⟨rfl,rfl⟩;go_wp2;go_ret2
    exact ⟨by rw [HZ.out,HZB.out];first | rfl | go_num,hBW⟩
   ·have HZ:Hid (sm64 z=0):=by rw [Hid,sm64,if_neg (by omega)]
    have HZB:Hid (sm64B z=false):=decide_eq_false (by omega);have e0:decide ((n:Int)<9223372036854775808)=false:=decide_eq_false (by omega);clear hn hn8 hlo h;generalize E n=s at HV HS hP hBW ⊢;clear hz hzn hb;obtain ⟨hPc0,hPf0,hPc1,hPf1⟩:=hP.x2;go_enter Tryz.func40,Tryz.ntmps40
    go_wp2_with fail
    refine (HV.out _).mono ?_;rintro e w1 ⟨rfl,hb1⟩;clear hPc0 hPf0 hPc1 hPf1;replace hP:=hP.after hb1;replace hBW:=bt hBW hb1;clear hb1;obtain ⟨hPc0,hPf0,hPc1,hPf1⟩:=hP.x2;go_wp2_with fail
    refine (HS.out _).mono ?_;rintro e w2 ⟨rfl,rfl⟩;go_wp2;go_ret2
    exact ⟨by rw [HZ.out,HZB.out];first | rfl | go_num,hBW⟩
 ·have HS:Hid (∀w,Calls Tryz.prog 92 #[.string (E n)] w fun e w'=>e=.returned (.tuple #[.int .u64 0,.bool false])∧w=w'):=fun w=>rsm27b_c n w (by omega) (by rw [hzn];exact h)
  have hn8:18446744073709551616≤n:=by
   have:(256:Nat)^8=18446744073709551616:=by decide
   omega
  have HZ:Hid (sm64 z=0):=by rw [Hid,sm64,if_neg (by omega)]
  have HZB:Hid (sm64B z=false):=decide_eq_false (by omega);rw [←hzn] at HV hP hBW h ⊢;clear hn hn8 h;generalize E n=s at HV HS hP hBW ⊢;generalize sg z=sb at HV hP hBW ⊢;clear hzn;obtain ⟨hPc0,hPf0,hPc1,hPf1⟩:=hP.x2;go_enter Tryz.func40,Tryz.ntmps40
  go_wp2_with fail
  refine (HV.out _).mono ?_;rintro e w1 ⟨rfl,hb1⟩;clear hPc0 hPf0 hPc1 hPf1;replace hP:=hP.after hb1;replace hBW:=bt hBW hb1;clear hb1;obtain ⟨hPc0,hPf0,hPc1,hPf1⟩:=hP.x2;go_wp2_with fail
  refine (HS.out _).mono ?_;rintro e w2 ⟨rfl,rfl⟩;go_wp2;go_ret2
  exact ⟨by rw [HZ.out,HZB.out];first | rfl | go_num,hBW⟩
end
section
open Go.RowKit Go.Shelf
theorem rvalidX_c (s:ByteArray) (w:World) (h1:128<s.size) (hs:s.size≤9223372036854775807) :
  Calls Tryz.prog 58 #[.string s] w fun e w'=>e=.returned (.bool false)∧w=w':=by
 go_enter Tryz.func58,Tryz.ntmps58
 go_wp2;go_ret
 exact ⟨rfl,rfl⟩
theorem rivalidX_c (b:Bool) (s:ByteArray) (w:World) (h1:128<s.size) (hs:s.size≤9223372036854775807) :
  Calls Tryz.prog 55 #[.agg #[.bool b,.string s]] w fun e w'=>e=.returned (.bool false)∧Below w.heap.size w w':=by
 go_enter Tryz.func55,Tryz.ntmps55
 go_wp2_with fail
 refine (rvalidX_c s _ h1 hs).mono ?_;rintro e w' ⟨rfl,rfl⟩;go_wp2;go_ret
 exact ⟨rfl,b1 _ _⟩
theorem rsm27bad_c (b:Bool) (s:ByteArray) (w:World) (hs:s.size≤9223372036854775807) (h:ivB b s=false) :
  Calls Tryz.prog 40 #[.agg #[.bool b,.string s]] w fun e w'=>e=.returned (.tuple #[.int .i64 0,.bool false])∧Below w.heap.size w w':=by
 have HV:Hid (∀w,Calls Tryz.prog 55 #[.agg #[.bool b,.string s]] w fun e w'=>e=.returned (.bool false)∧Below w.heap.size w w'):=fun w=>by
  by_cases h1:128<s.size
  ·exact rivalidX_c b s w h1 hs
  ·rw [←h];exact rivalid_c b s w (by omega)
 have hP:=Blk.new w #[.bool b,.string s] 28;have hBW:=b1 w (.cells #[.bool b,.string s] 28);clear h hs;obtain ⟨hPc0,hPf0,hPc1,hPf1⟩:=hP.x2;go_enter Tryz.func40,Tryz.ntmps40
 go_wp2_with fail
 refine (HV.out _).mono ?_;rintro e w1 ⟨rfl,hb1⟩;replace hBW:=bt hBW hb1;go_wp2;go_ret2
 exact ⟨rfl,hBW⟩
theorem rsm27all_c (b:Bool) (s:ByteArray) (w:World) (hs:s.size≤9223372036854775807):∃n ok,
  ∀w,Calls Tryz.prog 40 #[.agg #[.bool b,.string s]] w fun e w'=>e=.returned (.tuple #[.int .i64 n,.bool ok])∧Below w.heap.size w w':=by
 cases h:ivB b s
 ·exact ⟨0,false,fun w=>rsm27bad_c b s w hs h⟩
 ·obtain ⟨z,hz,rfl,rfl⟩:=of_ivB h;exact ⟨sm64 z,sm64B z,fun w=>rsm27_c z w hz⟩
def gate27 (a b c d:ByteArray) (lo:Int) (va ra vl rd:ByteArray):Prop:=
 kfw a b c d=true∧va.size≤12∧ra.size≤12∧vl.size≤12∧rd.size≤12∧-1099511627776<lo∧lo<1099511627776
def GateP (P:Prop) (w w':World) (e:Ending):Prop:=∃r,e=.returned (.bool r)∧(r=true→P)∧Below w.heap.size w w'
theorem gateP {P:Prop} {w w':World} {e:Ending} (r:Bool) (he:e=.returned (.bool r)) (h:r=true→P) (hb:Below w.heap.size w w'):GateP P w w' e:=⟨r,he,h,hb⟩
theorem l27small_c (a b c d:ByteArray) (lo:Int) (vn:Bool) (va:ByteArray) (rn:Bool) (ra vl rd:ByteArray) (w:World)
  (h1:va.size≤9223372036854775807) (h2:ra.size≤9223372036854775807) :
  Calls Tryz.prog 9 #[.agg #[.string a,.string b,.string c,.string d,.int .i64 lo,.bool vn,.string va,.bool rn,.string ra,.string vl,.string rd]] w fun e w'=>GateP (gate27 a b c d lo va ra vl rd) w w' e:=by
 obtain ⟨n,ok,HSM⟩:=rsm27all_c vn va w h1;have HS:=Lib.hid HSM;obtain ⟨kb,hkb⟩:∃k,k=kfw a b c d:=⟨_,rfl⟩;obtain ⟨ob,hob⟩:∃k,k=(decide (va.size≤12)&&decide (ra.size≤12)):=⟨_,rfl⟩;have HF:Hid (∀w,Calls Tryz.prog 41 #[.agg #[.string a,.string b,.string c,.string d]] w fun e w'=>e=.returned (.bool kb)∧Below w.heap.size w w'):=fun w=>by rw [hkb];exact l27Few_c a b c d w
 have HO:Hid (∀w,Calls Tryz.prog 42 #[.agg #[.bool vn,.string va,.bool rn,.string ra]] w fun e w'=>e=.returned (.bool ob)∧Below w.heap.size w w'):=fun w=>by rw [hob];exact l27opening_c vn rn va ra w (by omega) (by omega)
 have HG:Hid (kb=true→ob=true→vl.size≤12→rd.size≤12→-1099511627776<lo→lo<1099511627776→gate27 a b c d lo va ra vl rd):=fun k1 k2 k3 k4 k5 k6=>by
  rw [hob,Bool.and_eq_true] at k2;exact ⟨hkb.symm.trans k1,of_decide_eq_true k2.1,of_decide_eq_true k2.2,k3,k4,k5,k6⟩
 clear hkb hob;have hB:=Blk.new w #[.string a,.string b,.string c,.string d,.int .i64 lo,.bool vn,.string va,.bool rn,.string ra,.string vl,.string rd] 32;have hBW:=b1 w (.cells #[.string a,.string b,.string c,.string d,.int .i64 lo,.bool vn,.string va,.bool rn,.string ra,.string vl,.string rd] 32);clear HSM h1 h2;obtain ⟨hBc0,hBf0,hBc1,hBf1,hBc2,hBf2,hBc3,hBf3,hBc4,hBf4,hBc5,hBf5,hBc6,hBf6,hBc7,hBf7,hBc8,hBf8,hBc9,hBf9,hBc10,hBf10⟩:=hB.x11;go_enter Tryz.func9,Tryz.ntmps9
 go_wp2_with fail
 refine (HS.out _).mono ?_;rintro e w1 ⟨rfl,hb1⟩;clear hBc0 hBf0 hBc1 hBf1 hBc2 hBf2 hBc3 hBf3 hBc4 hBf4 hBc5 hBf5 hBc6 hBf6 hBc7 hBf7 hBc8 hBf8 hBc9 hBf9 hBc10 hBf10;replace hB:=hB.after hb1;replace hBW:=bt hBW hb1;obtain ⟨hBc0,hBf0,hBc1,hBf1,hBc2,hBf2,hBc3,hBf3,hBc4,hBf4,hBc5,hBf5,hBc6,hBf6,hBc7,hBf7,hBc8,hBf8,hBc9,hBf9,hBc10,hBf10⟩:=hB.x11;go_wp2_with fail
 all_goals
  refine (HF.out _).mono ?_;rintro e w2 ⟨rfl,hb2⟩;clear hBc0 hBf0 hBc1 hBf1 hBc2 hBf2 hBc3 hBf3 hBc4 hBf4 hBc5 hBf5 hBc6 hBf6 hBc7 hBf7 hBc8 hBf8 hBc9 hBf9 hBc10 hBf10;replace hB:=hB.after hb2;replace hBW:=bt hBW hb2;obtain ⟨hBc0,hBf0,hBc1,hBf1,hBc2,hBf2,hBc3,hBf3,hBc4,hBf4,hBc5,hBf5,hBc6,hBf6,hBc7,hBf7,hBc8,hBf8,hBc9,hBf9,hBc10,hBf10⟩:=hB.x11;cases kb
  ·
   go_wp2;all_goals go_ret
   all_goals exact gateP false rfl (fun h=>(by cases h)) hBW
  ·
   go_wp2_with fail
   refine (HO.out _).mono ?_;rintro e w3 ⟨rfl,hb3⟩;clear hBc0 hBf0 hBc1 hBf1 hBc2 hBf2 hBc3 hBf3 hBc4 hBf4 hBc5 hBf5 hBc6 hBf6 hBc7 hBf7 hBc8 hBf8 hBc9 hBf9 hBc10 hBf10;replace hB:=hB.after hb3;replace hBW:=bt hBW hb3;obtain ⟨hBc0,hBf0,hBc1,hBf1,hBc2,hBf2,hBc3,hBf3,hBc4,hBf4,hBc5,hBf5,hBc6,hBf6,hBc7,hBf7,hBc8,hBf8,hBc9,hBf9,hBc10,hBf10⟩:=hB.x11;cases ob
   ·
    go_wp2;all_goals go_ret
    all_goals exact gateP false rfl (fun h=>(by cases h)) hBW
   ·
    go_wp2;all_goals go_ret
    all_goals refine gateP _ rfl ?_ hBW
    all_goals intro h
    all_goals first | exact absurd h (by decide) | exact HG.out (by trivial) (by trivial) (by omega) (by omega) (by omega) (by first | omega | (have h9:=of_decide_eq_true h;omega) | (have h9:=of_decide_eq_true (Bool.and_eq_true_iff.1 h).2;omega))
end
end Go.Proofs.YteahlbhjhjhljaaGreatDoor
