/- What holds in the drawn regions of both Statements. -/
import Derived.Test.YtfgandecbkbleaaGreatDoorPp27
import Derived.Test.YtfgandecbkbleaaGreatDoorSd27
import Derived.Test.YtfgandecbkbleaaGreatDoorLc27
import Derived.Test.YtfgandecbkbleaaGreatDoorSf27
import Derived.Test.YtfgandecbkbleaaGreatDoorRw27
set_option linter.unusedVariables false
set_option linter.unusedSimpArgs false
set_option maxRecDepth 100000
set_option maxHeartbeats 16000000
namespace Go.Proofs.YtfgandecbkbleaaGreatDoor
section
/- coins.Values;the key of law 27. -/
open Go.RowKit Go.Shelf
theorem wpList_append_all {P:Program} {w:World} {ops:Array Oper} {rest:List Oper} {o:Oper} {a:Act} {Q:Exit→Act→World→Prop} (hgd:o.guard=none) (s x:Operand) (t:TypeId)
  (ho:o.op=.call { callee:=.builtin .append,args:=#[s,x],argTypes:=#[t,t] }) {v:Value} {ao:Option Addr} {m c:Nat} (hs:a.eval s=v) (hx:a.eval x=.slice ao m c)
  (base:Nat) (e:TypeId) (i:TypeInfo) (z:Value) (bytes:Nat) (ht:P.underlying t=some (.slice e)) (hi:P.info? e=some i) (hz:i.zero=some z)
  (hsize:i.size=1) (hby:i.bytes=bytes) (hzs:z.cells.size=1) (n:Nat) (xs:List Value) (hown:w.ownsRow base e 1 v n xs) (M:List ByteArray) (hM:SsAt w (.slice ao m c) M)
  (h63:n+m≤maxLen) (hbytes:(n+m)*bytes≤140737488355328) (hbase:base≤w.heap.size)
  (h:∀v' w',w'.ownsRow base e 1 v' (n+m) (xs++M.map .string)→w.grownBy w' v.ownBlock→(∀g,v.ownBlock=some g→base≤g∧g<w.heap.size)→wpList P ops Q rest (a.put o.dst v') w'):wpList P ops Q (o :: rest) a w:=by
 obtain ⟨v',w',h1,h2,h3⟩:=run_append_all (P:=P) w t o.type base e i z bytes ht hi hz hsize hby hzs v n xs hown ao m c M hM h63 hbytes hbase;refine wpList_plain hgd fun _ hK=>?_
 unfold Oper.wp execOp;simp only [ho,resolve,invoke,builtin,Sem.run_bind,Sem.run_pure,Result.andThen_ok,List.map_toArray,List.map_cons,List.map_nil,hs,hx,h1];exact hK _ _ (h v' w' h2 h3 (fun g hg=>⟨(own_lt hown hg).2,(own_lt hown hg).1⟩))
theorem clone_c (M:List ByteArray) (ad:Addr) (m c:Nat) (w:World) (hm:m≤1000) (hM:SsAt w (.slice (some ad) m c) M) :
  Calls Tryz.prog 86 #[.slice (some ad) m c] w fun e w'=>∃u,e=.returned u∧SsAt w' u M∧w'.ownsRow w.heap.size 22 1 u m (M.map .string)∧Below w.heap.size w w':=by
 obtain ⟨i0,hi0,hz00,hz01,hz02⟩:=info_parts info_nat;have HI0:=Lib.hid hi0;have HA0:=Lib.hid hz00;have HB0:=Lib.hid hz01;have HC0:=Lib.hid hz02;clear hi0 hz00 hz01 hz02
 have HLN:Hid (m=M.length):=by
  obtain ⟨ao,c',e,_⟩:=hM;injection e
 have hN:=Blk.new w #[] 22;have hbN:=b1 w (.cells #[] 22);have hON:(w.alloc (.cells #[] 22)).ownsRow w.heap.size 22 1 (.slice (some ⟨w.heap.size,0,none⟩) 0 0) 0 []:=own_blkB hN rfl (by decide) (Nat.le_refl _);have he:∀w:World,(binOp .eql 45 (.slice (some ad) m c) (.slice none 0 0)).run Tryz.prog w=.ok (.bool false) w:=fun _=>by kernel_rfl
 go_enter Tryz.func86,Tryz.ntmps86
 go_wp2_with (at_builtin;go_loud (refine wpList_append_all rfl (.tmp 5) (.tmp 6) _ rfl rfl rfl w.heap.size 22 i0 _ 16 Tryz.underlying45 HI0.out HA0.out HB0.out HC0.out rfl 0 [] hON M (ss_alloc hM _) (by simp only [maxLen];omega) (by omega) (by simp) ?_);intro ua wa hown hgr hbs)
 go_wp2;go_ret
 rw [List.nil_append,Nat.zero_add] at hown;exact ⟨_,rfl,ss_own M HLN.out hown,hown,hbN.grown hgr (by simp) (fun g hg=>(hbs g hg).1)⟩
theorem cvalues_c (M:List ByteArray) (ad:Addr) (m c:Nat) (w:World) (hm:m≤1000) (hM:SsAt w (.slice (some ad) m c) M) :
  Calls Tryz.prog 39 #[.slice (some ad) m c] w fun e w'=>∃u,e=.returned (.agg #[u,.string ⟨#[]⟩,.int .i64 0])∧SsAt w' u M∧Below w.heap.size w w':=by
 have hR:=Blk.new w #[.slice none 0 0,.string ⟨#[]⟩,.int .i64 0] 47;have hbR:=b1 w (.cells #[.slice none 0 0,.string ⟨#[]⟩,.int .i64 0] 47);have HCL:=Lib.hid (clone_c M ad m c _ hm (ss_alloc hM (.cells #[.slice none 0 0,.string ⟨#[]⟩,.int .i64 0] 47)));go_enter Tryz.func39,Tryz.ntmps39
 go_wp2_with fail
 refine HCL.out.mono ?_;rintro e w2 ⟨u,rfl,hu,hown,hb2⟩;have hR2:=hR.after hb2;have hb:=bt hbR hb2;obtain ⟨uo,uc,rfl⟩:=RAt.form hu;obtain ⟨ul,hul⟩:∃l,l=M.length:=⟨_,rfl⟩;have HUL:=Lib.hid hul;rw [←hul] at hu hown ⊢;clear hul HCL hR hbR;have hne:=own_ne hown hR2 (by decide)
 have hF:FarS (.slice uo ul uc) w.heap.size:=fun b o n c' e hn=>by
  injection e with e1 e2 e3
  subst e1;intro hb;subst hb;exact hne rfl
 have hRl:=hR2.lt;obtain ⟨hR2c0,hR2f0,hR2c1,hR2f1,hR2c2,hR2f2⟩:=hR2.x3;go_wp2;refine bodyPost_ret (v:=.agg #[.slice uo ul uc,.string ⟨#[]⟩,.int .i64 0]) ?_ rfl ?_
 ·simp [results,Tryz.results39,go_sem,hR2c0,hR2c1,hR2c2,hRl]
 ·exact ⟨_,rfl,((hu.set_far hF).set_far hF).set_far hF,((hb.setCell (Nat.le_refl _) _).setCell (Nat.le_refl _) _).setCell (Nat.le_refl _) _⟩
end
section
open Go.RowKit Go.Shelf
theorem EOwn.setE {w:World} {b g i:Nat} {T:TypeId} {cs:List Value} {x v u:Value} {L:List (NEqn × Value)} (h:EOwn w b x v L) (k:Blk w g T cs) (h1:v.ownBlock≠some g) (h2:118≠T):EOwn (w.setCell ⟨g,i,none⟩ u) b x v L:=
 ⟨own_set h.row h1,fun e he=>by obtain ⟨b,t⟩:=h.trm e he;exact ⟨b,own_set t (own_ne t k h2)⟩,h.far⟩
theorem EOwn.nilx {w:World} {b:Nat} {x v:Value} {L:List (NEqn × Value)} (h:EOwn w b x v L):EOwn w b (.slice none 0 0) v L:=⟨h.row,h.trm,fun e he g hg=>by cases hg⟩
theorem EOwn.form {w:World} {b:Nat} {x v:Value} {L:List (NEqn × Value)} (h:EOwn w b x v L):∃ao n c,v=.slice ao n c:=by
 obtain ⟨ao,c,h1⟩:=RAt.form h.es;exact ⟨ao,_,c,h1⟩
theorem TOwn.form {w:World} {b:Nat} {v:Value} {l:List NTrm} (h:TOwn w b v l):∃ao n c,v=.slice ao n c:=by
 obtain ⟨ao,c,h1⟩:=RAt.form h.ts;exact ⟨ao,_,c,h1⟩
theorem VOwn.after {w w':World} {b:Nat} {v:Value} {l:List Nat} (h:VOwn w b v l) (hb:Below w.heap.size w w'):VOwn w' b v l:=own_after h hb
theorem lo128 {lo:Int} (h:lo.natAbs<1099511627776):lo.natAbs<256^128:=Nat.lt_trans h (by decide)
theorem own_new {o:Option Nat} {g H b:Nat} (h:o=some g∨g=H) (hb:b<H) (ho:o≠some b):g≠b:=by
 rcases h with h | h
 ·intro e;exact ho (by rw [h,e])
 ·omega
theorem stn_at {w:World} {p g h gG B c1 vb rb:Nat} {lo:Int} {vv ev x:Value} {Q:List Nat} {EL:List (NEqn × Value)} (hG:Blk w gG 24 [.string (E p),.string (E 0)]) (hV:VOwn w B vv (stV vb rb 4++[lastB vb rb])) (hE:EOwn w B x ev EL)
  (hL:EL.map (fun e=>e.1)=stQ g h Q 4++[stL h (shiftN p c1 g (-lo)) Q]):NAt w (.slice (some ⟨gG,0,none⟩) 1 1) vv ev (stN p g h lo c1 Q vb rb):=by
 refine ⟨?_,hV.ss,?_⟩
 ·refine rat_own (fun x:ByteArray × ByteArray=>[.string x.1,.string x.2]) (fun _=>rfl) (fun _=>rfl) [gE (p,0)] (n:=1) rfl (base:=0) (T:=24) ?_;exact own_blk hG rfl (by decide)
 ·have h:=hE.es;have e:(EL.map fun e=>e.1.q)=(EL.map fun e=>e.1).map NEqn.q:=by rw [List.map_map];rfl
  rw [e,hL] at h;exact h
theorem stn_ret {w:World} {p g h gG gR B c1 vb rb:Nat} {lo:Int} {vv ev x:Value} {Q:List Nat} {EL:List (NEqn × Value)} {cs:List Value} (hR:Blk w gR 61 cs) (hne:gG≠gR) (hG:Blk w gG 24 [.string (E p),.string (E 0)]) (hV:VOwn w B vv (stV vb rb 4++[lastB vb rb])) (hE:EOwn w B x ev EL)
  (hL:EL.map (fun e=>e.1)=stQ g h Q 4++[stL h (shiftN p c1 g (-lo)) Q]) (y0 y1 y2:Value):NAt (((w.setCell ⟨gR,0,none⟩ y0).setCell ⟨gR,1,none⟩ y1).setCell ⟨gR,2,none⟩ y2) (.slice (some ⟨gG,0,none⟩) 1 1) vv ev (stN p g h lo c1 Q vb rb):=by
 have r1:=hR.set 0 y0;have r2:=r1.set 1 y1;have v1:VOwn _ B vv _:=own_set (i:=0) (u:=y0) hV (own_ne hV hR (by decide));have v2:VOwn _ B vv _:=own_set (i:=1) (u:=y1) v1 (own_ne v1 r1 (by decide));have v3:VOwn _ B vv _:=own_set (i:=2) (u:=y2) v2 (own_ne v2 r2 (by decide));exact stn_at (((hG.other ⟨gR,0,none⟩ y0 hne).other ⟨gR,1,none⟩ y1 hne).other ⟨gR,2,none⟩ y2 hne) v3 (((hE.set (i:=0) (u:=y0) hR (by decide) (by decide)).set (i:=1) (u:=y1) r1 (by decide) (by decide)).set (i:=2) (u:=y2) r2 (by decide) (by decide)) hL
def vRq3 (B1 gS gP gL g h tk k:Nat) (ad ao:Option Addr) (pn pc:Nat) (ev x:Value) (B:Nat) (NL:List NEqn):RVB:=fun st i v w=>match i with
 | 0=>v=.pointer (some ⟨gS,2,none⟩)
 | 1=>v=ev
 | 2=>v=.slice ao pn pc
 | 3=>v=.int .i64 (k:Int)
 | 4=>v=.pointer ad
 | 5=>v=.string (E tk)
 | 6=>v=.pointer (some ⟨gP,2,none⟩)
 | 7=>v=.string (E g)
 | 8=>v=.int .i64 (k:Int)
 | 9=>v=.int .i64 ((2*k:Nat):Int)
 | 10=>v=.agg #[.string (E g),.int .i64 ((2*k:Nat):Int),.bool false,.string (E 1)]
 | 11=>v=.pointer (some ⟨gP,3,none⟩)
 | 12=>v=.string (E h)
 | 13=>v=.int .i64 (k:Int)
 | 14=>v=.int .i64 ((2*k:Nat):Int)
 | 15=>v=.int .i64 ((2*k+1:Nat):Int)
 | 16=>v=.agg #[.string (E h),.int .i64 ((2*k+1:Nat):Int),.bool false,.string (E 1)]
 | 17=>st=[false,false]→∃b,v=.slice (some ⟨b,0,none⟩) 2 2∧B1≤b∧TOwn w 0 (.slice (some ⟨b,0,none⟩) 2 2) [t1 g (2*k),t1 h (2*k+1)]
 | 18=>st=[false,false]→∃b,v=.agg #[.int .i64 0,.string (E tk),.slice (some ⟨b,0,none⟩) 2 2]∧B1≤b∧TOwn w 0 (.slice (some ⟨b,0,none⟩) 2 2) [t1 g (2*k),t1 h (2*k+1)]
 | 19=>st=[false,false]→∃b b2,v=.slice (some ⟨b2,0,none⟩) 1 1∧Blk w b2 115 [.int .i64 0,.string (E tk),.slice (some ⟨b,0,none⟩) 2 2]∧B1≤b∧TOwn w 0 (.slice (some ⟨b,0,none⟩) 2 2) [t1 g (2*k),t1 h (2*k+1)]
 | 20=>st=[true,false]→v.ownBlock≠some gL∧∃EL:List (NEqn × Value),EL.map (fun e=>e.1)=NL∧EOwn w B x v EL
 | 21=>v=.pointer (some ⟨gS,2,none⟩)
 | _=>True
theorem vRq3_st (B1 gS gP gL g h tk k:Nat) (ad ao:Option Addr) (pn pc:Nat) (ev x:Value) (B:Nat) (NL:List NEqn):∀l j u w w',Below w.heap.size w w'→vRq3 B1 gS gP gL g h tk k ad ao pn pc ev x B NL l j u w→vRq3 B1 gS gP gL g h tk k ad ao pn pc ev x B NL l j u w':=by
 intro l j u w w' hb h;unfold vRq3 at h ⊢;split at h
 all_goals first
  | exact h
  | (intro h0;obtain ⟨b,h1,h2,h3⟩:=h h0;exact ⟨b,h1,h2,h3.after hb⟩)
  | (intro h0;obtain ⟨b,b2,h1,h2,h3,h4⟩:=h h0;exact ⟨b,b2,h1,h2.after hb,h3,h4.after hb⟩)
  | (intro h0;obtain ⟨h3,EL,h1,h2⟩:=h h0;exact ⟨h3,EL,h1,h2.after hb⟩)
theorem vRq3_ap {B1 gS gP gL g h tk k:Nat} {ad ao:Option Addr} {pn pc:Nat} {ev x:Value} {B:Nat} {NL:List NEqn} {w w':World}:∀j u,j≠20→vRq3 B1 gS gP gL g h tk k ad ao pn pc ev x B NL [false,false] j u w→vRq3 B1 gS gP gL g h tk k ad ao pn pc ev x B NL [true,false] j u w':=by
 intro j u hj h;unfold vRq3 at h ⊢;split at h
 all_goals first
  | exact absurd rfl hj
  | exact h
  | (intro h0;cases h0;done)
theorem vRq3_sto {B1 gS gP gL g h tk k:Nat} {ad ao:Option Addr} {pn pc:Nat} {ev x:Value} {B:Nat} {NL:List NEqn} {w w':World}:∀j u,vRq3 B1 gS gP gL g h tk k ad ao pn pc ev x B NL [true,false] j u w→vRq3 B1 gS gP gL g h tk k ad ao pn pc ev x B NL [true,true] j u w':=by
 intro j u h;unfold vRq3 at h ⊢;split at h
 all_goals first
  | exact h
  | (intro h0;cases h0;done)
def fRq3 (gS gG gL p:Nat) (vv ev x:Value) (B:Nat) (VL:List Nat) (TL:List NTrm) (EL:List (NEqn × Value)) (NL:List NEqn) (st:List Bool) (w:World):Prop:=
 (st=[false,false]→ev.ownBlock≠some gL∧EOwn w B x ev EL)∧Blk w gG 24 [.string (E p),.string (E 0)]∧VOwn w B vv VL∧TOwn w B x TL∧Blk w gL 115 [.int .i64 0,.string ⟨#[]⟩,x] ∧
 ∃e3,Blk w gS 61 [.slice (some ⟨gG,0,none⟩) 1 1,vv,e3]∧(st≠[true,true]→e3=ev)∧(st=[true,true]→e3.ownBlock≠some gL∧∃L:List (NEqn × Value),L.map (fun e=>e.1)=NL∧EOwn w B x e3 L)
theorem fRq3_st (gS gG gL p:Nat) (vv ev x:Value) (B:Nat) (VL:List Nat) (TL:List NTrm) (EL:List (NEqn × Value)) (NL:List NEqn):∀l w w',Below w.heap.size w w'→fRq3 gS gG gL p vv ev x B VL TL EL NL l w→fRq3 gS gG gL p vv ev x B VL TL EL NL l w':=by
 intro l w w' hb h;obtain ⟨h1,h2,h3,h4,h8,e3,h5,h7,h6⟩:=h;exact ⟨fun k=>⟨(h1 k).1,(h1 k).2.after hb⟩,h2.after hb,own_after h3 hb,own_after h4 hb,h8.after hb,e3,h5.after hb,h7,fun k=>by obtain ⟨m,L,a,b⟩:=h6 k;exact ⟨m,L,a,b.after hb⟩⟩
def vRq4 (gL tk k:Nat) (ad ao:Option Addr) (pn pc:Nat) (tv ev:Value) (B:Nat) (s:ByteArray) (j:Int) (NT:List NTrm) (EL:List (NEqn × Value)):RVB:=fun st i v w=>match i with
 | 0=>v=.pointer (some ⟨gL,2,none⟩)
 | 1=>v=tv
 | 2=>v=.slice ao pn pc
 | 3=>v=.int .i64 (k:Int)
 | 4=>v=.pointer ad
 | 5=>v=.string (E tk)
 | 6=>v=.int .i64 (k:Int)
 | 7=>v=.int .i64 ((2*k:Nat):Int)
 | 8=>v=.agg #[.string s,.int .i64 j,.bool false,.string (E 1)]
 | 9=>st=[false,false]→∃b,v=.slice (some ⟨b,0,none⟩) 1 1∧Blk w b 118 [.string s,.int .i64 j,.bool false,.string (E 1)]
 | 10=>st=[true,false]→(∃ao n c,v=.slice ao n c)∧TOwn w B v NT∧EOwn w B v ev EL
 | 11=>v=.pointer (some ⟨gL,2,none⟩)
 | _=>True
theorem vRq4_st (gL tk k:Nat) (ad ao:Option Addr) (pn pc:Nat) (tv ev:Value) (B:Nat) (s:ByteArray) (j:Int) (NT:List NTrm) (EL:List (NEqn × Value)):∀l i u w w',Below w.heap.size w w'→vRq4 gL tk k ad ao pn pc tv ev B s j NT EL l i u w→vRq4 gL tk k ad ao pn pc tv ev B s j NT EL l i u w':=by
 intro l i u w w' hb h;unfold vRq4 at h ⊢;split at h
 all_goals first
  | exact h
  | (intro h0;obtain ⟨b,h1,h2⟩:=h h0;exact ⟨b,h1,h2.after hb⟩)
  | (intro h0;obtain ⟨h1,h2,h3⟩:=h h0;exact ⟨h1,h2.after hb,h3.after hb⟩)
theorem vRq4_ap {gL tk k:Nat} {ad ao:Option Addr} {pn pc:Nat} {tv ev:Value} {B:Nat} {s:ByteArray} {j:Int} {NT:List NTrm} {EL:List (NEqn × Value)} {w w':World}:∀i u,i≠10→vRq4 gL tk k ad ao pn pc tv ev B s j NT EL [false,false] i u w→vRq4 gL tk k ad ao pn pc tv ev B s j NT EL [true,false] i u w':=by
 intro i u hj h;unfold vRq4 at h ⊢;split at h
 all_goals first
  | exact absurd rfl hj
  | exact h
  | (intro h0;cases h0;done)
theorem vRq4_sto {gL tk k:Nat} {ad ao:Option Addr} {pn pc:Nat} {tv ev:Value} {B:Nat} {s:ByteArray} {j:Int} {NT:List NTrm} {EL:List (NEqn × Value)} {w w':World}:∀i u,vRq4 gL tk k ad ao pn pc tv ev B s j NT EL [true,false] i u w→vRq4 gL tk k ad ao pn pc tv ev B s j NT EL [true,true] i u w':=by
 intro i u h;unfold vRq4 at h ⊢;split at h
 all_goals first
  | exact h
  | (intro h0;cases h0;done)
def vRq5 (gL gP:Nat) (tv ev:Value) (B:Nat) (s:ByteArray) (j:Int) (NT:List NTrm) (EL:List (NEqn × Value)):RVB:=fun st i v w=>match i with
 | 0=>v=.pointer (some ⟨gL,2,none⟩)
 | 1=>v=tv
 | 2=>v=.pointer (some ⟨gP,3,none⟩)
 | 3=>v=.string s
 | 4=>v=.agg #[.string s,.int .i64 j,.bool false,.string (E 1)]
 | 5=>st=[false,false]→∃b,v=.slice (some ⟨b,0,none⟩) 1 1∧Blk w b 118 [.string s,.int .i64 j,.bool false,.string (E 1)]
 | 6=>st=[true,false]→(∃ao n c,v=.slice ao n c)∧TOwn w B v NT∧EOwn w B v ev EL
 | 7=>v=.pointer (some ⟨gL,2,none⟩)
 | _=>True
theorem vRq5_st (gL gP:Nat) (tv ev:Value) (B:Nat) (s:ByteArray) (j:Int) (NT:List NTrm) (EL:List (NEqn × Value)):∀l i u w w',Below w.heap.size w w'→vRq5 gL gP tv ev B s j NT EL l i u w→vRq5 gL gP tv ev B s j NT EL l i u w':=by
 intro l i u w w' hb h;unfold vRq5 at h ⊢;split at h
 all_goals first
  | exact h
  | (intro h0;obtain ⟨b,h1,h2⟩:=h h0;exact ⟨b,h1,h2.after hb⟩)
  | (intro h0;obtain ⟨h1,h2,h3⟩:=h h0;exact ⟨h1,h2.after hb,h3.after hb⟩)
theorem vRq5_ap {gL gP:Nat} {tv ev:Value} {B:Nat} {s:ByteArray} {j:Int} {NT:List NTrm} {EL:List (NEqn × Value)} {w w':World}:∀i u,i≠6→vRq5 gL gP tv ev B s j NT EL [false,false] i u w→vRq5 gL gP tv ev B s j NT EL [true,false] i u w':=by
 intro i u hj h;unfold vRq5 at h ⊢;split at h
 all_goals first
  | exact absurd rfl hj
  | exact h
  | (intro h0;cases h0;done)
theorem vRq5_sto {gL gP:Nat} {tv ev:Value} {B:Nat} {s:ByteArray} {j:Int} {NT:List NTrm} {EL:List (NEqn × Value)} {w w':World}:∀i u,vRq5 gL gP tv ev B s j NT EL [true,false] i u w→vRq5 gL gP tv ev B s j NT EL [true,true] i u w':=by
 intro i u h;unfold vRq5 at h ⊢;split at h
 all_goals first
  | exact h
  | (intro h0;cases h0;done)
def fRq4 (gS gG gL p:Nat) (vv ev tv:Value) (B:Nat) (VL:List Nat) (TL NT:List NTrm) (EL:List (NEqn × Value)) (st:List Bool) (w:World):Prop:=
 (st=[false,false]→TOwn w B tv TL∧EOwn w B tv ev EL)∧Blk w gG 24 [.string (E p),.string (E 0)]∧VOwn w B vv VL∧Blk w gS 61 [.slice (some ⟨gG,0,none⟩) 1 1,vv,ev] ∧
 ∃t,Blk w gL 115 [.int .i64 0,.string ⟨#[]⟩,t]∧(st≠[true,true]→t=tv)∧(st=[true,true]→TOwn w B t NT∧EOwn w B t ev EL)
theorem fRq4_st (gS gG gL p:Nat) (vv ev tv:Value) (B:Nat) (VL:List Nat) (TL NT:List NTrm) (EL:List (NEqn × Value)):∀l w w',Below w.heap.size w w'→fRq4 gS gG gL p vv ev tv B VL TL NT EL l w→fRq4 gS gG gL p vv ev tv B VL TL NT EL l w':=by
 intro l w w' hb h;obtain ⟨h1,h2,h3,h4,t,h5,h7,h6⟩:=h;exact ⟨fun k=>⟨(h1 k).1.after hb,(h1 k).2.after hb⟩,h2.after hb,own_after h3 hb,h4.after hb,t,h5.after hb,h7,fun k=>⟨(h6 k).1.after hb,(h6 k).2.after hb⟩⟩
def vRq6 (gL:Nat) (key:Value) (c1 tgt:Nat) (lo:Int):RVB:=fun _ i v _=>match i with
 | 0=>v=key
 | 1=>v=.string (E c1)
 | 2=>v=.int .i64 lo
 | 3=>v=.agg #[.bool (sg (lo)),.string (E (lo).natAbs)]
 | 4=>v=.agg #[.bool (sg (-lo)),.string (E (-lo).natAbs)]
 | 5=>v=.tuple #[.string (E tgt),.int .i64 0]
 | 6=>v=.tuple #[.string (E tgt),.int .i64 0]
 | 7=>v=.string (E tgt)
 | 9=>v=.pointer (some ⟨gL,1,none⟩)
 | _=>True
theorem vRq6_st (gL:Nat) (key:Value) (c1 tgt:Nat) (lo:Int):∀l i u w w',Below w.heap.size w w'→vRq6 gL key c1 tgt lo l i u w→vRq6 gL key c1 tgt lo l i u w':=by
 intro l i u w w' hb h;unfold vRq6 at h ⊢;exact h
theorem vRq6_any {gL:Nat} {key:Value} {c1 tgt:Nat} {lo:Int} {l l':List Bool} {w w':World}:∀i u,vRq6 gL key c1 tgt lo l i u w→vRq6 gL key c1 tgt lo l' i u w':=by
 intro i u h;unfold vRq6 at h ⊢;exact h
def vSq6 (key:Value) (c1 tgt:Nat) (lo:Int):RVB:=fun _ i v _=>match i with
 | 0=>v=key
 | 1=>v=.string (E c1)
 | 2=>v=.int .i64 lo
 | 3=>v=.agg #[.bool (sg (lo)),.string (E (lo).natAbs)]
 | 4=>v=.agg #[.bool (sg (-lo)),.string (E (-lo).natAbs)]
 | 5=>v=.tuple #[.string (E tgt),.int .i64 0]
 | 6=>v=.tuple #[.string (E tgt),.int .i64 0]
 | 7=>v=.string (E tgt)
 | 8=>v=.int .i64 0
 | 9=>v=.string (E tgt)
 | 10=>v=.int .i64 0
 | _=>True
theorem vSq6_st (key:Value) (c1 tgt:Nat) (lo:Int):∀l i u w w',Below w.heap.size w w'→vSq6 key c1 tgt lo l i u w→vSq6 key c1 tgt lo l i u w':=by
 intro l i u w w' hb h;unfold vSq6 at h ⊢;exact h
def fRq6 (gS gG gL p tgt:Nat) (vv ev t:Value) (B:Nat) (VL:List Nat) (NT:List NTrm) (EL:List (NEqn × Value)) (st:List Bool) (w:World):Prop:=
 TOwn w B t NT∧EOwn w B t ev EL∧Blk w gG 24 [.string (E p),.string (E 0)]∧VOwn w B vv VL∧Blk w gS 61 [.slice (some ⟨gG,0,none⟩) 1 1,vv,ev] ∧
 ∃s,Blk w gL 115 [.int .i64 0,.string s,t]∧(st=[true]→s=E tgt)
theorem fRq6_st (gS gG gL p tgt:Nat) (vv ev t:Value) (B:Nat) (VL:List Nat) (NT:List NTrm) (EL:List (NEqn × Value)):∀l w w',Below w.heap.size w w'→fRq6 gS gG gL p tgt vv ev t B VL NT EL l w→fRq6 gS gG gL p tgt vv ev t B VL NT EL l w':=by
 intro l w w' hb h;obtain ⟨h1,h2,h3,h4,h5,s,h6,h7⟩:=h;exact ⟨h1.after hb,h2.after hb,h3.after hb,own_after h4 hb,h5.after hb,s,h6.after hb,h7⟩
def vSq3 (gS gP h tgt:Nat) (ev x:Value) (B:Nat) (NT:List NTrm) (EL:List (NEqn × Value)) (NL:List NEqn):RVB:=fun st i v w=>match i with
 | 0=>v=.pointer (some ⟨gS,2,none⟩)
 | 1=>v=ev
 | 2=>v=.string (E tgt)
 | 3=>v=x
 | 4=>v=.pointer (some ⟨gP,3,none⟩)
 | 5=>v=.string (E h)
 | 6=>v=.agg #[.string (E h),.int .i64 8,.bool false,.string (E 1)]
 | 7=>st=[false,false,false]→∃b,v=.slice (some ⟨b,0,none⟩) 1 1∧Blk w b 118 [.string (E h),.int .i64 8,.bool false,.string (E 1)]
 | 8=>st=[true,false,false]→(∃ao n c,v=.slice ao n c)∧TOwn w B v NT∧EOwn w B v ev EL
 | 9=>st≠[false,false,false]∧(st=[true,false,false]→∃t,v=.agg #[.int .i64 0,.string (E tgt),t]∧(∃ao n c,t=.slice ao n c)∧TOwn w B t NT∧EOwn w B t ev EL)
 | 10=>st≠[false,false,false]∧(st=[true,false,false]→∃t b,v=.slice (some ⟨b,0,none⟩) 1 1∧Blk w b 115 [.int .i64 0,.string (E tgt),t]∧(∃ao n c,t=.slice ao n c)∧TOwn w B t NT∧EOwn w B t ev EL)
 | 11=>st=[true,true,false]→∃L:List (NEqn × Value),L.map (fun e=>e.1)=NL∧EOwn w B (.slice none 0 0) v L
 | 12=>v=.pointer (some ⟨gS,2,none⟩)
 | _=>True
theorem vSq3_st (gS gP h tgt:Nat) (ev x:Value) (B:Nat) (NT:List NTrm) (EL:List (NEqn × Value)) (NL:List NEqn):∀l i u w w',Below w.heap.size w w'→vSq3 gS gP h tgt ev x B NT EL NL l i u w→vSq3 gS gP h tgt ev x B NT EL NL l i u w':=by
 intro l i u w w' hb h;unfold vSq3 at h ⊢;split at h
 all_goals first
  | exact h
  | (intro h0;obtain ⟨b,h1,h2⟩:=h h0;exact ⟨b,h1,h2.after hb⟩)
  | (intro h0;obtain ⟨h1,h2,h3⟩:=h h0;exact ⟨h1,h2.after hb,h3.after hb⟩)
  | (intro h0;obtain ⟨L,h1,h2⟩:=h h0;exact ⟨L,h1,h2.after hb⟩)
  | (refine ⟨h.1,fun h0=>?_⟩;obtain ⟨t,h0,h1,h2,h3⟩:=h.2 h0;exact ⟨t,h0,h1,h2.after hb,h3.after hb⟩)
  | (refine ⟨h.1,fun h0=>?_⟩;obtain ⟨t,b,h4,h5,h1,h2,h3⟩:=h.2 h0;exact ⟨t,b,h4,h5.after hb,h1,h2.after hb,h3.after hb⟩)
theorem vSq3_nx {gS gP h tgt:Nat} {ev x:Value} {B:Nat} {NT:List NTrm} {EL:List (NEqn × Value)} {NL:List NEqn} {l l':List Bool} {q:Nat} {w w':World} (hc:(l,l',q)=([false,false,false],[true,false,false],8)∨(l,l',q)=([true,false,false],[true,true,false],11)∨(l,l',q)=([true,true,false],[true,true,true],13)):∀i u,i≠q→vSq3 gS gP h tgt ev x B NT EL NL l i u w→vSq3 gS gP h tgt ev x B NT EL NL l' i u w':=by
 intro i u hj h;rcases hc with hc | hc | hc <;> cases hc
 all_goals
  unfold vSq3 at h ⊢;split at h
 all_goals first
  | exact absurd rfl hj
  | exact h
  | (intro h0;cases h0;done)
  | exact absurd rfl h.1
  | exact ⟨by decide,fun h0=>by cases h0⟩
def fSq3 (gS gG p:Nat) (vv ev x:Value) (B:Nat) (VL:List Nat) (TL:List NTrm) (EL:List (NEqn × Value)) (NL:List NEqn) (st:List Bool) (w:World):Prop:=
 (st=[false,false,false]→TOwn w B x TL∧EOwn w B x ev EL)∧Blk w gG 24 [.string (E p),.string (E 0)]∧VOwn w B vv VL ∧
 ∃e3,Blk w gS 61 [.slice (some ⟨gG,0,none⟩) 1 1,vv,e3]∧(st≠[true,true,true]→e3=ev)∧(st=[true,true,true]→∃L:List (NEqn × Value),L.map (fun e=>e.1)=NL∧EOwn w B (.slice none 0 0) e3 L)
theorem fSq3_st (gS gG p:Nat) (vv ev x:Value) (B:Nat) (VL:List Nat) (TL:List NTrm) (EL:List (NEqn × Value)) (NL:List NEqn):∀l w w',Below w.heap.size w w'→fSq3 gS gG p vv ev x B VL TL EL NL l w→fSq3 gS gG p vv ev x B VL TL EL NL l w':=by
 intro l w w' hb h;obtain ⟨h1,h2,h3,e3,h5,h7,h6⟩:=h;exact ⟨fun k=>⟨(h1 k).1.after hb,(h1 k).2.after hb⟩,h2.after hb,own_after h3 hb,e3,h5.after hb,h7,fun k=>by obtain ⟨L,a,b⟩:=h6 k;exact ⟨L,a,b.after hb⟩⟩
end
end Go.Proofs.YtfgandecbkbleaaGreatDoor
