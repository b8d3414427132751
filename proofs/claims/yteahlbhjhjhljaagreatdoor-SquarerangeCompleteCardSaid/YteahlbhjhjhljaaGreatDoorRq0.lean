/- What holds in the drawn regions of both Statements. -/
import Derived.Test.YteahlbhjhjhljaaGreatDoorPp27
import Derived.Test.YteahlbhjhjhljaaGreatDoorSd27
import Derived.Test.YteahlbhjhjhljaaGreatDoorLc27
import Derived.Test.YteahlbhjhjhljaaGreatDoorSf27
import Derived.Test.YteahlbhjhjhljaaGreatDoorRw27
set_option linter.unusedVariables false
set_option linter.unusedSimpArgs false
set_option maxRecDepth 100000
set_option maxHeartbeats 16000000
namespace Go.Proofs.YteahlbhjhjhljaaGreatDoor
section
/- coins.Values;the key of law 27. -/
open Go.RowKit Go.Shelf
theorem wpList_append_all {P:Program} {w:World} {ops:Array Oper} {rest:List Oper} {o:Oper} {a:Act} {Q:Exit→Act→World→Prop} (hgd:o.guard=none) (s x:Operand) (t:TypeId)
  (ho:o.op=.call { callee:=.builtin .append,args:=#[s,x],argTypes:=#[t,t] }) {v:Value} {ao:Option Addr} {m c:Nat} (hs:a.eval s=v) (hx:a.eval x=.slice ao m c)
  (base:Nat) (e:TypeId) (i:TypeInfo) (z:Value) (bytes:Nat) (ht:P.underlying t=some (.slice e)) (hi:P.info? e=some i) (hz:i.zero=some z)
  (hsize:i.size=1) (hby:i.bytes=bytes) (hzs:z.cells.size=1) (n:Nat) (xs:List Value) (hown:w.ownsRow base e 1 v n xs) (M:List ByteArray) (hM:SsAt w (.slice ao m c) M)
  (h63:n+m≤maxLen) (hbytes:(n+m)*bytes≤140737488355328) (hbase:base≤w.heap.size)
  (h:∀v' w',w'.ownsRow base e 1 v' (n+m) (xs++M.map .string)→w.grownBy w' v.ownBlock→(∀g,v.ownBlock=some g→base≤g∧g<w.heap.size)→wpList P ops Q rest (a.put o.dst v') w'):wpList P ops Q (o :: rest) a w:=by
 obtain ⟨v',w',h1,h2,h3⟩:=run_append_all (P:=P) w t o.type base e i z bytes ht hi hz hsize hby hzs v n xs hown ao m c M hM h63 hbytes hbase;refine wpList_plain hgd fun _ hK=>?_
 unfold Oper.wp execOp;simp only [ho,resolve,invoke,builtin,Sem.run_bind,Sem.run_pure,Result.andThen_ok,List.map_toArray,List.map_cons,List.map_nil,hs,hx,h1];exact hK _ _ (h v' w' h2 h3 (fun g hg=>⟨(own_lt hown hg).2,(own_lt hown hg).1⟩))
theorem clone_c (M:List ByteArray) (ad:Addr) (m c:Nat) (w:World) (hm:m≤1000) (hM:SsAt w (.slice (some ad) m c) M) :
  Calls Tryz.prog 109 #[.slice (some ad) m c] w fun e w'=>∃u,e=.returned u∧SsAt w' u M∧w'.ownsRow w.heap.size 22 1 u m (M.map .string)∧Below w.heap.size w w':=by
 obtain ⟨i0,hi0,hz00,hz01,hz02⟩:=info_parts info_nat;have HI0:=Lib.hid hi0;have HA0:=Lib.hid hz00;have HB0:=Lib.hid hz01;have HC0:=Lib.hid hz02;clear hi0 hz00 hz01 hz02
 have HLN:Hid (m=M.length):=by
  obtain ⟨ao,c',e,_⟩:=hM;injection e
 have hN:=Blk.new w #[] 22;have hbN:=b1 w (.cells #[] 22);have hON:(w.alloc (.cells #[] 22)).ownsRow w.heap.size 22 1 (.slice (some ⟨w.heap.size,0,none⟩) 0 0) 0 []:=own_blkB hN rfl (by decide) (Nat.le_refl _);have he:∀w:World,(binOp .eql 33 (.slice (some ad) m c) (.slice none 0 0)).run Tryz.prog w=.ok (.bool false) w:=fun _=>by kernel_rfl
 go_enter Tryz.func109,Tryz.ntmps109
 go_wp2_with (at_builtin;go_loud (refine wpList_append_all rfl (.tmp 5) (.tmp 6) _ rfl rfl rfl w.heap.size 22 i0 _ 16 Tryz.underlying33 HI0.out HA0.out HB0.out HC0.out rfl 0 [] hON M (ss_alloc hM _) (by simp only [maxLen];omega) (by omega) (by simp) ?_);intro ua wa hown hgr hbs)
 go_wp2;go_ret
 rw [List.nil_append,Nat.zero_add] at hown;exact ⟨_,rfl,ss_own M HLN.out hown,hown,hbN.grown hgr (by simp) (fun g hg=>(hbs g hg).1)⟩
theorem cvalues_c (M:List ByteArray) (ad:Addr) (m c:Nat) (w:World) (hm:m≤1000) (hM:SsAt w (.slice (some ad) m c) M) :
  Calls Tryz.prog 45 #[.slice (some ad) m c] w fun e w'=>∃u,e=.returned (.agg #[u,.string ⟨#[]⟩,.int .i64 0])∧SsAt w' u M∧Below w.heap.size w w':=by
 have hR:=Blk.new w #[.slice none 0 0,.string ⟨#[]⟩,.int .i64 0] 35;have hbR:=b1 w (.cells #[.slice none 0 0,.string ⟨#[]⟩,.int .i64 0] 35);have HCL:=Lib.hid (clone_c M ad m c _ hm (ss_alloc hM (.cells #[.slice none 0 0,.string ⟨#[]⟩,.int .i64 0] 35)));go_enter Tryz.func45,Tryz.ntmps45
 go_wp2_with fail
 refine HCL.out.mono ?_;rintro e w2 ⟨u,rfl,hu,hown,hb2⟩;have hR2:=hR.after hb2;have hb:=bt hbR hb2;obtain ⟨uo,uc,rfl⟩:=RAt.form hu;obtain ⟨ul,hul⟩:∃l,l=M.length:=⟨_,rfl⟩;have HUL:=Lib.hid hul;rw [←hul] at hu hown ⊢;clear hul HCL hR hbR;have hne:=own_ne hown hR2 (by decide)
 have hF:FarS (.slice uo ul uc) w.heap.size:=fun b o n c' e hn=>by
  injection e with e1 e2 e3
  subst e1;intro hb;subst hb;exact hne rfl
 have hRl:=hR2.lt;obtain ⟨hR2c0,hR2f0,hR2c1,hR2f1,hR2c2,hR2f2⟩:=hR2.x3;go_wp2;refine bodyPost_ret (v:=.agg #[.slice uo ul uc,.string ⟨#[]⟩,.int .i64 0]) ?_ rfl ?_
 ·simp [results,Tryz.results45,go_sem,hR2c0,hR2c1,hR2c2,hRl]
 ·exact ⟨_,rfl,((hu.set_far hF).set_far hF).set_far hF,((hb.setCell (Nat.le_refl _) _).setCell (Nat.le_refl _) _).setCell (Nat.le_refl _) _⟩
end
section
open Go.RowKit Go.Shelf
theorem EOwn.nilx {w:World} {b:Nat} {x v:Value} {L:List (NEqn × Value)} (h:EOwn w b x v L):EOwn w b (.slice none 0 0) v L:=⟨h.row,h.trm,fun e he g hg=>by cases hg⟩
theorem EOwn.form {w:World} {b:Nat} {x v:Value} {L:List (NEqn × Value)} (h:EOwn w b x v L):∃ao n c,v=.slice ao n c:=by
 obtain ⟨ao,c,h1⟩:=RAt.form h.es;exact ⟨ao,_,c,h1⟩
theorem TOwn.form {w:World} {b:Nat} {v:Value} {l:List NTrm} (h:TOwn w b v l):∃ao n c,v=.slice ao n c:=by
 obtain ⟨ao,c,h1⟩:=RAt.form h.ts;exact ⟨ao,_,c,h1⟩
theorem VOwn.after {w w':World} {b:Nat} {v:Value} {l:List Nat} (h:VOwn w b v l) (hb:Below w.heap.size w w'):VOwn w' b v l:=own_after h hb
theorem lo128 {lo:Int} (h:lo.natAbs<1099511627776):lo.natAbs<256^128:=Nat.lt_trans h (by decide)
theorem stn_at {w:World} {p g h gG B c1 vb rb:Nat} {lo:Int} {vv ev x:Value} {Q:List Nat} {EL:List (NEqn × Value)} (hG:Blk w gG 24 [.string (E p),.string (E 0)]) (hV:VOwn w B vv (stV vb rb 4++[lastB vb rb])) (hE:EOwn w B x ev EL)
  (hL:EL.map (fun e=>e.1)=stQ g h Q 4++[stL h (shiftN p c1 g (-lo)) Q]):NAt w (.slice (some ⟨gG,0,none⟩) 1 1) vv ev (stN p g h lo c1 Q vb rb):=by
 refine ⟨?_,hV.ss,?_⟩
 ·refine rat_own (fun x:ByteArray × ByteArray=>[.string x.1,.string x.2]) (fun _=>rfl) (fun _=>rfl) [gE (p,0)] (n:=1) rfl (base:=0) (T:=24) ?_;exact own_blk hG rfl (by decide)
 ·have h:=hE.es;have e:(EL.map fun e=>e.1.q)=(EL.map fun e=>e.1).map NEqn.q:=by rw [List.map_map];rfl
  rw [e,hL] at h;exact h
theorem stn_ret {w:World} {p g h gG gR B c1 vb rb:Nat} {lo:Int} {vv ev x:Value} {Q:List Nat} {EL:List (NEqn × Value)} {cs:List Value} (hR:Blk w gR 43 cs) (hne:gG≠gR) (hG:Blk w gG 24 [.string (E p),.string (E 0)]) (hV:VOwn w B vv (stV vb rb 4++[lastB vb rb])) (hE:EOwn w B x ev EL)
  (hL:EL.map (fun e=>e.1)=stQ g h Q 4++[stL h (shiftN p c1 g (-lo)) Q]) (y0 y1 y2:Value):NAt (((w.setCell ⟨gR,0,none⟩ y0).setCell ⟨gR,1,none⟩ y1).setCell ⟨gR,2,none⟩ y2) (.slice (some ⟨gG,0,none⟩) 1 1) vv ev (stN p g h lo c1 Q vb rb):=by
 have r1:=hR.set 0 y0;have r2:=r1.set 1 y1;have v1:VOwn _ B vv _:=own_set (i:=0) (u:=y0) hV (own_ne hV hR (by decide));have v2:VOwn _ B vv _:=own_set (i:=1) (u:=y1) v1 (own_ne v1 r1 (by decide));have v3:VOwn _ B vv _:=own_set (i:=2) (u:=y2) v2 (own_ne v2 r2 (by decide));exact stn_at (((hG.other ⟨gR,0,none⟩ y0 hne).other ⟨gR,1,none⟩ y1 hne).other ⟨gR,2,none⟩ y2 hne) v3 (((hE.set (i:=0) (u:=y0) hR (by decide) (by decide)).set (i:=1) (u:=y1) r1 (by decide) (by decide)).set (i:=2) (u:=y2) r2 (by decide) (by decide)) hL
def vSq6 (key:Value) (c1 tgt:Nat) (lo:Int):RVB:=fun _ i v _=>match i with
 | 0=>v=key
 | 1=>v=.string (E c1)
 | 2=>v=.int .i64 lo
 | 3=>v=.agg #[.bool (sg (lo)),.string (E (lo).natAbs)]
 | 4=>v=.agg #[.bool (sg (-lo)),.string (E (-lo).natAbs)]
 | 5=>v=.tuple #[.string (E tgt),.int .i64 0]
 | 6=>v=.tuple #[.string (E tgt),.int .i64 0]
 | 7=>v=.string (E tgt)
 | 8=>v=.int .i64 0
 | 9=>v=.string (E tgt)
 | 10=>v=.int .i64 0
 | _=>True
theorem vSq6_st (key:Value) (c1 tgt:Nat) (lo:Int):∀l i u w w',Below w.heap.size w w'→vSq6 key c1 tgt lo l i u w→vSq6 key c1 tgt lo l i u w':=by
 intro l i u w w' hb h;unfold vSq6 at h ⊢;exact h
def vSq3 (gS gP h tgt:Nat) (ev x:Value) (B:Nat) (NT:List NTrm) (EL:List (NEqn × Value)) (NL:List NEqn):RVB:=fun st i v w=>match i with
 | 0=>v=.pointer (some ⟨gS,2,none⟩)
 | 1=>v=ev
 | 2=>v=.string (E tgt)
 | 3=>v=x
 | 4=>v=.pointer (some ⟨gP,3,none⟩)
 | 5=>v=.string (E h)
 | 6=>v=.agg #[.string (E h),.int .i64 8,.bool false,.string (E 1)]
 | 7=>st=[false,false,false]→∃b,v=.slice (some ⟨b,0,none⟩) 1 1∧Blk w b 181 [.string (E h),.int .i64 8,.bool false,.string (E 1)]
 | 8=>st=[true,false,false]→(∃ao n c,v=.slice ao n c)∧TOwn w B v NT∧EOwn w B v ev EL
 | 9=>st≠[false,false,false]∧(st=[true,false,false]→∃t,v=.agg #[.int .i64 0,.string (E tgt),t]∧(∃ao n c,t=.slice ao n c)∧TOwn w B t NT∧EOwn w B t ev EL)
 | 10=>st≠[false,false,false]∧(st=[true,false,false]→∃t b,v=.slice (some ⟨b,0,none⟩) 1 1∧Blk w b 120 [.int .i64 0,.string (E tgt),t]∧(∃ao n c,t=.slice ao n c)∧TOwn w B t NT∧EOwn w B t ev EL)
 | 11=>st=[true,true,false]→∃L:List (NEqn × Value),L.map (fun e=>e.1)=NL∧EOwn w B (.slice none 0 0) v L
 | 12=>v=.pointer (some ⟨gS,2,none⟩)
 | _=>True
theorem vSq3_st (gS gP h tgt:Nat) (ev x:Value) (B:Nat) (NT:List NTrm) (EL:List (NEqn × Value)) (NL:List NEqn):∀l i u w w',Below w.heap.size w w'→vSq3 gS gP h tgt ev x B NT EL NL l i u w→vSq3 gS gP h tgt ev x B NT EL NL l i u w':=by
 intro l i u w w' hb h;unfold vSq3 at h ⊢;split at h
 all_goals first
  | exact h
  | (intro h0;obtain ⟨b,h1,h2⟩:=h h0;exact ⟨b,h1,h2.after hb⟩)
  | (intro h0;obtain ⟨h1,h2,h3⟩:=h h0;exact ⟨h1,h2.after hb,h3.after hb⟩)
  | (intro h0;obtain ⟨L,h1,h2⟩:=h h0;exact ⟨L,h1,h2.after hb⟩)
  | (refine ⟨h.1,fun h0=>?_⟩;obtain ⟨t,h0,h1,h2,h3⟩:=h.2 h0;exact ⟨t,h0,h1,h2.after hb,h3.after hb⟩)
  | (refine ⟨h.1,fun h0=>?_⟩;obtain ⟨t,b,h4,h5,h1,h2,h3⟩:=h.2 h0;exact ⟨t,b,h4,h5.after hb,h1,h2.after hb,h3.after hb⟩)
theorem vSq3_nx {gS gP h tgt:Nat} {ev x:Value} {B:Nat} {NT:List NTrm} {EL:List (NEqn × Value)} {NL:List NEqn} {l l':List Bool} {q:Nat} {w w':World} (hc:(l,l',q)=([false,false,false],[true,false,false],8)∨(l,l',q)=([true,false,false],[true,true,false],11)∨(l,l',q)=([true,true,false],[true,true,true],13)):∀i u,i≠q→vSq3 gS gP h tgt ev x B NT EL NL l i u w→vSq3 gS gP h tgt ev x B NT EL NL l' i u w':=by
 intro i u hj h;rcases hc with hc | hc | hc <;> cases hc
 all_goals
  unfold vSq3 at h ⊢;split at h
 all_goals first
  | exact absurd rfl hj
  | exact h
  | (intro h0;cases h0;done)
  | exact absurd rfl h.1
  | exact ⟨by decide,fun h0=>by cases h0⟩
def fSq3 (gS gG p:Nat) (vv ev x:Value) (B:Nat) (VL:List Nat) (TL:List NTrm) (EL:List (NEqn × Value)) (NL:List NEqn) (st:List Bool) (w:World):Prop:=
 (st=[false,false,false]→TOwn w B x TL∧EOwn w B x ev EL)∧Blk w gG 24 [.string (E p),.string (E 0)]∧VOwn w B vv VL ∧
 ∃e3,Blk w gS 43 [.slice (some ⟨gG,0,none⟩) 1 1,vv,e3]∧(st≠[true,true,true]→e3=ev)∧(st=[true,true,true]→∃L:List (NEqn × Value),L.map (fun e=>e.1)=NL∧EOwn w B (.slice none 0 0) e3 L)
theorem fSq3_st (gS gG p:Nat) (vv ev x:Value) (B:Nat) (VL:List Nat) (TL:List NTrm) (EL:List (NEqn × Value)) (NL:List NEqn):∀l w w',Below w.heap.size w w'→fSq3 gS gG p vv ev x B VL TL EL NL l w→fSq3 gS gG p vv ev x B VL TL EL NL l w':=by
 intro l w w' hb h;obtain ⟨h1,h2,h3,e3,h5,h7,h6⟩:=h;exact ⟨fun k=>⟨(h1 k).1.after hb,(h1 k).2.after hb⟩,h2.after hb,own_after h3 hb,e3,h5.after hb,h7,fun k=>by obtain ⟨L,a,b⟩:=h6 k;exact ⟨L,a,b.after hb⟩⟩
end
end Go.Proofs.YteahlbhjhjhljaaGreatDoor
