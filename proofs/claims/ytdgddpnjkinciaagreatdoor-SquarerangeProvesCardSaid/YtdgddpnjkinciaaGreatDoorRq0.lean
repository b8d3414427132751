/- What holds in the drawn regions of both Statements. -/
import Derived.Test.YtdgddpnjkinciaaGreatDoorPp27
import Derived.Test.YtdgddpnjkinciaaGreatDoorSd27
import Derived.Test.YtdgddpnjkinciaaGreatDoorPrv1
set_option linter.all false
set_option maxRecDepth 100000
set_option maxHeartbeats 16000000
namespace Go.Proofs.YtdgddpnjkinciaaGreatDoor
section
/- coins.Values;the key of law 27. -/
open Go.RowKit Go.Shelf
theorem wpList_append_all {P:Program} {w:World} {ops:Array Oper} {rest:List Oper} {o:Oper} {a:Act} {Q:Exit→Act→World→Prop} (hf:o.guard=none) (s x:Operand) (t:TypeId)
  (ho:o.op=.call { callee:=.builtin .append,args:=#[s,x],argTypes:=#[t,t] }) {v:Value} {ao:Option Addr} {m c:Nat} (hs:a.eval s=v) (hx:a.eval x=.slice ao m c)
  (base:Nat) (e:TypeId) (i:TypeInfo) (z:Value) (bytes:Nat) (ht:P.underlying t=some (.slice e)) (hi:P.info? e=some i) (hz:i.zero=some z)
  (hd:i.size=1) (hh:i.bytes=bytes) (hj:z.cells.size=1) (n:Nat) (xs:List Value) (hb:w.ownsRow base e 1 v n xs) (M:List ByteArray) (hM:SsAt w (.slice ao m c) M)
  (hk:n+m≤maxLen) (hc:(n+m)*bytes≤140737488355328) (he:base≤w.heap.size)
  (h:∀v' w',w'.ownsRow base e 1 v' (n+m) (xs++M.map .string)→w.grownBy w' v.ownBlock→(∀g,v.ownBlock=some g→base≤g∧g<w.heap.size)→wpList P ops Q rest (a.put o.dst v') w'):wpList P ops Q (o :: rest) a w:=by
 obtain⟨v',w',h1,h2,h3⟩:=run_append_all (P:=P) w t o.type base e i z bytes ht hi hz hd hh hj v n xs hb ao m c M hM hk hc he;refine wpList_plain hf fun _ hK=>?_
 unfold Oper.wp execOp;simp only[ho,resolve,invoke,builtin,Sem.run_bind,Sem.run_pure,Result.andThen_ok,List.map_toArray,List.map_cons,List.map_nil,hs,hx,h1];exact hK _ _ (h v' w' h2 h3 (fun g hg=>⟨(own_lt hb hg).2,(own_lt hb hg).1⟩))
theorem clone_c (M:List ByteArray) (ad:Addr) (m c:Nat) (w:World) (hm:m≤1000) (hM:SsAt w (.slice (some ad) m c) M) :
  Calls Tryz.prog 53 #[.slice (some ad) m c] w fun e w'=>∃u,e=.returned u∧SsAt w' u M∧w'.ownsRow w.heap.size 22 1 u m (M.map .string)∧Bw w w':=by
 obtain⟨i0,hh,hc,hd,hf⟩:=info_parts info_nat;have hi:=Kh hh;have hj:=Kh hc;have hk:=Kh hd;have hl:=Kh hf;clear hh hc hd hf
 have hn:Hid (m=M.length):=by
  obtain⟨ao,c',e,_⟩:=hM;injection e
 obtain⟨hN,ho⟩:=blk1 w #[] 22;have hp:(w.alloc (.cells #[] 22)).ownsRow w.heap.size 22 1 (.slice (some ⟨w.heap.size,0,none⟩) 0 0) 0 []:=own_blkB hN rfl (by decide) (Nat.le_refl _);have he:∀w:World,(binOp .eql 33 (.slice (some ad) m c) (.slice none 0 0)).run Tryz.prog w=.ok (.bool false) w:=fun _=>by kernel_rfl
 go_enter Tryz.func53,Tryz.ntmps53
 go_wp2_with (at_builtin;go_loud (refine wpList_append_all rfl (.tmp 5) (.tmp 6) _ rfl rfl rfl w.heap.size 22 i0 _ 16 Tryz.underlying33 hi.out hj.out hk.out hl.out rfl 0 [] hp M (ss_alloc hM _) (by simp only[maxLen];omega) (by omega) (by simp) ?_);intro ua wa hb hq hr)
 go_wp2;go_ret
 rw[List.nil_append,Nat.zero_add]at hb;exact⟨_,rfl,ss_own M hn.out hb,hb,ho.grown hq (by simp) (fun g hg=>(hr g hg).1)⟩
theorem cvalues_c (M:List ByteArray) (ad:Addr) (m c:Nat) (w:World) (hm:m≤1000) (hM:SsAt w (.slice (some ad) m c) M) :
  Calls Tryz.prog 18 #[.slice (some ad) m c] w fun e w'=>∃u,e=.returned (.agg #[u,.string ⟨#[]⟩,.int .i64 0])∧SsAt w' u M∧Bw w w':=by
 obtain⟨hR,hi⟩:=blk1 w #[.slice none 0 0,.string ⟨#[]⟩,.int .i64 0] 35;have hj:=Kh (clone_c M ad m c _ hm (ss_alloc hM (.cells #[.slice none 0 0,.string ⟨#[]⟩,.int .i64 0] 35)));go_enter Tryz.func18,Tryz.ntmps18
 go_wp2_with fail
 refine hj.out.mono ?_;rintro e w2 ⟨u,rfl,hu,hc,hk⟩;have hg:=hR.after hk;have hb:=bt hi hk;obtain⟨uo,uc,rfl⟩:=RAt.form hu;obtain⟨ul,hh⟩:∃l,l=M.length:=⟨_,rfl⟩;have ht:=Kh hh;rw[←hh]at hu hc ⊢;clear hh hj hR hi;have hq:=own_ne hc hg (by decide)
 have hF:FarS (.slice uo ul uc) w.heap.size:=fun b o n c' e hn=>by
  injection e with e1 e2 e3
  subst e1;intro hb;subst hb;exact hq rfl
 have hr:=hg.lt;obtain⟨hd,hl,he,ho,hf,hp⟩:=hg.x3;go_wp2;refine bodyPost_ret (v:=.agg #[.slice uo ul uc,.string ⟨#[]⟩,.int .i64 0]) ?_ rfl ?_
 ·simp[results,Tryz.results18,go_sem,hd,he,hf,hr]
 ·exact⟨_,rfl,((hu.set_far hF).set_far hF).set_far hF,((hb.setCell (Nat.le_refl _) _).setCell (Nat.le_refl _) _).setCell (Nat.le_refl _) _⟩
end
section
/- law 27: the key and the example. -/
open Go.RowKit Go.Shelf
theorem l27key_c (w:World):Calls Tryz.prog 17 #[] w fun e w'=>e=.returned (.agg #[.string (E 77),.string ⟨#[]⟩,.string (E 4),.string (E 9)])∧Bw w w':=by
 have H1:Hid (∀w,Calls Tryz.prog 9 #[.int .u64 77] w fun e w'=>e=.returned (.string (E 77))∧Bw w w'):=fun w=>l27num_c 77 w (by decide)
 have H2:Hid (∀w,Calls Tryz.prog 9 #[.int .u64 4] w fun e w'=>e=.returned (.string (E 4))∧Bw w w'):=fun w=>l27num_c 4 w (by decide)
 have H3:Hid (∀w,Calls Tryz.prog 9 #[.int .u64 9] w fun e w'=>e=.returned (.string (E 9))∧Bw w w'):=fun w=>l27num_c 9 w (by decide)
 generalize E 77=s1 at H1 ⊢;generalize E 4=s2 at H2 ⊢;generalize E 9=s3 at H3 ⊢;obtain⟨hR,hj⟩:=blk1 w #[.string ⟨#[]⟩,.string ⟨#[]⟩,.string ⟨#[]⟩,.string ⟨#[]⟩] 26;go_enter Tryz.func17,Tryz.ntmps17
 go_wp2_with fail
 refine (H1.out _).mono ?_;rintro e w1 ⟨rfl,hg⟩;go_wp2_with fail
 refine (H2.out _).mono ?_;rintro e w2 ⟨rfl,hh⟩;go_wp2_with fail
 refine (H3.out _).mono ?_;rintro e w3 ⟨rfl,hi⟩;have hk:=((hR.after hg).after hh).after hi;have hb:=bt (bt (bt hj hg) hh) hi;have hl:=hk.lt;clear hR hj hg hh hi;obtain⟨hc,hm,hd,hn,he,ho,hf,hp⟩:=hk.x4;go_wp2;refine bodyPost_ret (v:=.agg #[.string s1,.string ⟨#[]⟩,.string s2,.string s3]) ?_ rfl ⟨rfl,(((hb.setCell (Nat.le_refl _) _).setCell (Nat.le_refl _) _).setCell (Nat.le_refl _) _).setCell (Nat.le_refl _) _⟩;simp[results,Tryz.results17,go_sem,hc,hd,he,hf,hl]
def exT:Tp:=⟨[E 1,E 0,E 0,E 2],⟨#[]⟩,0⟩
def exP:List Nat:=[67,4,4,16]
def exO:List (Nat × Nat):=[(2,1),(1,0),(1,0),(1,2)]
def exW:List Int:=[2,1,1,0,1,0,1,2,-2]
theorem exT_ok:exT.Ok:=⟨by decide,by
 intro x hx;have hx:x∈[E 1,E 0,E 0,E 2]:=hx;simp only[List.mem_cons,List.not_mem_nil,or_false]at hx;rcases hx with rfl | rfl | rfl | rfl <;> exact Nat.le_trans ((E_size_le _ 1).2 (by decide)) (by decide),by decide⟩
theorem ex_ky:kyV (E 77) (E 0) (E 4) (E 9)=0:=by
 unfold kyV;rw[pedV_E (by decide) (by decide) (by decide) (by decide),show pedE 77 0 4 9=0 by decide];rfl
theorem ex_good:exT.good=true:=by
 unfold Tp.good exT;simp only[List.all_cons,List.all_nil,vldB_E 0 (by decide),vldB_E 1 (by decide),vldB_E 2 (by decide)];decide
theorem ex_coin (att:Att) (j:Nat) (x:Nat) (hj:j<4) (hx:exT.vals[j]'hj=E x) (h5:x<5):prC att 5 exT j=(0,x):=by
 unfold prC coin
 have hg:(exT.on j).good=true:=by
  have h:=ex_good;unfold Tp.good at h ⊢;rw[Bool.and_eq_true]at h;rw[Bool.and_eq_true];refine⟨h.1,?_⟩;show (decide (0≤(0:Int)+(j:Int))&&decide ((0:Int)+(j:Int)≤2147483647))=true;rw[Dt (by omega),Dt (by omega)];rfl
 rw[hg,if_neg (by decide),if_neg (by decide)];have e:(exT.on j).pos.toNat=j:=by show ((0:Int)+(j:Int)).toNat=j;omega
 refine coinD_val (T:=exT.on j) (x:=x) (by rw[e];exact hj) ?_ h5;have:(exT.on j).vals=exT.vals:=rfl;simp only[e,this];exact hx
theorem ex_pr (att:Att):prR att (E 77) (E 0) (E 4) (E 9) 3 false (E 10) false (E 2) (E 5) exT=⟨0,exP,exO,exT.on 4⟩:=by
 unfold prR
 have hv:∀n:Nat,n<256→ivB false (E n)=true:=fun n h=>by
  have:=ivB_I (n:Int) (by rw[Int.natAbs_natCast];exact Nl h (by decide));rwa [sg_nat,Int.natAbs_natCast]at this
 rw[hv 10 (by decide),hv 2 (by decide),vldB_E 5 (by decide),ex_good,if_neg (by decide),ex_ky,if_neg (by decide),if_neg (by rw[empty_E];decide)];have e1:intb false (E 10)=10:=by unfold intb;rw[numb_E];rfl
 rw[e1,numb_E,numb_E,numb_E,numb_E,if_neg (by decide)];have c0:=ex_coin att 0 1 (by decide) rfl (by decide);have c1:=ex_coin att 1 0 (by decide) rfl (by decide);have c2:=ex_coin att 2 0 (by decide) rfl (by decide);have c3:=ex_coin att 3 2 (by decide) rfl (by decide);have hr:roots (10-3)=[2,1,1,1]:=by decide
 rw[hr,prN_ok (fun j hj=>by
  match j,hj with
  | 0,_=>rw[c0]
  | 1,_=>rw[c1]
  | 2,_=>rw[c2]
  | 3,_=>rw[c3])]
 have hp:prP att 77 4 9 5 [2,1,1,1] exT 4=exP:=by
  show [cmtN 77 4 9 (2:Nat) ((prC att 5 exT 0).2:Nat),cmtN 77 4 9 (1:Nat) ((prC att 5 exT 1).2:Nat),cmtN 77 4 9 (1:Nat) ((prC att 5 exT 2).2:Nat),cmtN 77 4 9 (1:Nat) ((prC att 5 exT 3).2:Nat)]=exP;rw[c0,c1,c2,c3];decide
 have ho:prO att 5 [2,1,1,1] exT 4=exO:=by
  show [(2,(prC att 5 exT 0).2),(1,(prC att 5 exT 1).2),(1,(prC att 5 exT 2).2),(1,(prC att 5 exT 3).2)]=exO;rw[c0,c1,c2,c3];decide
 rw[hp,ho]
theorem ex_wit:witR (E 77) (E 0) (E 4) (E 9) false (E 10) false (E 2) (exO.map nop)=(0,exW):=by
 have hv:∀n:Nat,n<256→ivB false (E n)=true:=fun n h=>by
  have:=ivB_I (n:Int) (by rw[Int.natAbs_natCast];exact Nl h (by decide));rwa [sg_nat,Int.natAbs_natCast]at this
 have hc:chkV ((false,E 10) :: (false,E 2) :: oL (exO.map nop)) [] (E 77) (E 0) (E 4) (E 9)=0:=by
  unfold chkV;rw[if_pos,ex_ky];refine⟨?_,rfl⟩;show (([(false,E 10),(false,E 2),(false,E 2),(false,E 1),(false,E 1),(false,E 0),(false,E 1),(false,E 0),(false,E 1),(false,E 2)]:List (Bool × ByteArray)).all iv2)=true;simp only[List.all_cons,List.all_nil,iv2,hv 10 (by decide),hv 2 (by decide),hv 1 (by decide),hv 0 (by decide),Bool.and_self]
 unfold witR;rw[hc,if_neg (by decide),if_neg (by decide)];have hi:∀n:Nat,intb false (E n)=(n:Int):=fun n=>by unfold intb;rw[numb_E];rfl
 have h1:oZ (exO.map nop)=[2,1,1,0,1,0,1,2]:=by
  show [intb false (E 2),intb false (E 1),intb false (E 1),intb false (E 0),intb false (E 1),intb false (E 0),intb false (E 1),intb false (E 2)]=_;simp only[hi];rfl
 have h2:restL (intb false (E 2)) (exO.map nop)=-2:=by
  show intb false (E 2)-intb false (E 2)*intb false (E 1)-intb false (E 1)*intb false (E 0)-intb false (E 1)*intb false (E 0)-intb false (E 1)*intb false (E 2)=-2;simp only[hi];rfl
 rw[h1,h2];rfl
end
section
open Go.RowKit Go.Shelf
theorem EOwn.nilx {w:World} {b:Nat} {x v:Value} {L:List (NEqn × Value)} (h:EOwn w b x v L):EOwn w b (.slice none 0 0) v L:=⟨h.row,h.trm,fun e he g hg=>by cases hg⟩
theorem EOwn.form {w:World} {b:Nat} {x v:Value} {L:List (NEqn × Value)} (h:EOwn w b x v L):∃ao n c,v=.slice ao n c:=by
 obtain⟨ao,c,h1⟩:=RAt.form h.es;exact⟨ao,_,c,h1⟩
theorem VOwn.after {w w':World} {b:Nat} {v:Value} {l:List Nat} (h:VOwn w b v l) (hb:Bw w w'):VOwn w' b v l:=own_after h hb
theorem lo128 {lo:Int} (h:lo.natAbs<1099511627776):lo.natAbs<256^128:=Nat.lt_trans h (by decide)
theorem stn_at {w:World} {p g h gG B c1 vb rb:Nat} {lo:Int} {vv ev x:Value} {Q:List Nat} {EL:List (NEqn × Value)} (hG:Blk w gG 24 [.string (E p),.string (E 0)]) (hV:VOwn w B vv (stV vb rb 4++[lastB vb rb])) (hE:EOwn w B x ev EL)
  (hL:EL.map (fun e=>e.1)=stQ g h Q 4++[stL h (shiftN p c1 g (-lo)) Q]):NAt w (.slice (some ⟨gG,0,none⟩) 1 1) vv ev (stN p g h lo c1 Q vb rb):=by
 refine⟨?_,hV.ss,?_⟩
 ·refine rat_own (fun x:ByteArray × ByteArray=>[.string x.1,.string x.2]) (fun _=>rfl) (fun _=>rfl) [gE (p,0)] (n:=1) rfl (base:=0) (T:=24) ?_;exact own_blk hG rfl (by decide)
 ·have h:=hE.es;have e:(EL.map fun e=>e.1.q)=(EL.map fun e=>e.1).map NEqn.q:=by rw[List.map_map];rfl
  rw[e,hL]at h;exact h
theorem stn_ret {w:World} {p g h gG gR B c1 vb rb:Nat} {lo:Int} {vv ev x:Value} {Q:List Nat} {EL:List (NEqn × Value)} {cs:List Value} (hR:Blk w gR 43 cs) (hb:gG≠gR) (hG:Blk w gG 24 [.string (E p),.string (E 0)]) (hV:VOwn w B vv (stV vb rb 4++[lastB vb rb])) (hE:EOwn w B x ev EL)
  (hL:EL.map (fun e=>e.1)=stQ g h Q 4++[stL h (shiftN p c1 g (-lo)) Q]) (y0 y1 y2:Value):NAt (((w.setCell ⟨gR,0,none⟩ y0).setCell ⟨gR,1,none⟩ y1).setCell ⟨gR,2,none⟩ y2) (.slice (some ⟨gG,0,none⟩) 1 1) vv ev (stN p g h lo c1 Q vb rb):=by
 have r1:=hR.set 0 y0;have r2:=r1.set 1 y1;have v1:VOwn _ B vv _:=own_set (i:=0) (u:=y0) hV (own_ne hV hR (by decide));have v2:VOwn _ B vv _:=own_set (i:=1) (u:=y1) v1 (own_ne v1 r1 (by decide));have v3:VOwn _ B vv _:=own_set (i:=2) (u:=y2) v2 (own_ne v2 r2 (by decide));exact stn_at (((hG.other ⟨gR,0,none⟩ y0 hb).other ⟨gR,1,none⟩ y1 hb).other ⟨gR,2,none⟩ y2 hb) v3 (((hE.set (i:=0) (u:=y0) hR (by decide) (by decide)).set (i:=1) (u:=y1) r1 (by decide) (by decide)).set (i:=2) (u:=y2) r2 (by decide) (by decide)) hL
def vSq6 (key:Value) (c1 tgt:Nat) (lo:Int):RVB:=fun _ i v _=>match i with
 | 0=>v=key
 | 1=>v=.string (E c1)
 | 2=>v=.int .i64 lo
 | 3=>v=.agg #[.bool (sg (lo)),.string (E (lo).natAbs)]
 | 4=>v=.agg #[.bool (sg (-lo)),.string (E (-lo).natAbs)]
 | 5=>v=.tuple #[.string (E tgt),.int .i64 0]
 | 6=>v=.tuple #[.string (E tgt),.int .i64 0]
 | 7=>v=.string (E tgt)
 | 8=>v=.int .i64 0
 | 9=>v=.string (E tgt)
 | 10=>v=.int .i64 0
 | _=>True
theorem vSq6_st (key:Value) (c1 tgt:Nat) (lo:Int):∀l i u w w',Bw w w'→vSq6 key c1 tgt lo l i u w→vSq6 key c1 tgt lo l i u w':=by
 intro l i u w w' hb h;unfold vSq6 at h ⊢;exact h
def vSq3 (gS gP h tgt:Nat) (ev x:Value) (B:Nat) (NT:List NTrm) (EL:List (NEqn × Value)) (NL:List NEqn):RVB:=fun st i v w=>match i with
 | 0=>v=.pointer (some ⟨gS,2,none⟩)
 | 1=>v=ev
 | 2=>v=.string (E tgt)
 | 3=>v=x
 | 4=>v=.pointer (some ⟨gP,3,none⟩)
 | 5=>v=.string (E h)
 | 6=>v=.agg #[.string (E h),.int .i64 8,.bool false,.string (E 1)]
 | 7=>st=[false,false,false]→∃b,v=.slice (some ⟨b,0,none⟩) 1 1∧Blk w b 129 [.string (E h),.int .i64 8,.bool false,.string (E 1)]
 | 8=>st=[true,false,false]→(∃ao n c,v=.slice ao n c)∧TOwn w B v NT∧EOwn w B v ev EL
 | 9=>st≠[false,false,false]∧(st=[true,false,false]→∃t,v=.agg #[.int .i64 0,.string (E tgt),t]∧(∃ao n c,t=.slice ao n c)∧TOwn w B t NT∧EOwn w B t ev EL)
 | 10=>st≠[false,false,false]∧(st=[true,false,false]→∃t b,v=.slice (some ⟨b,0,none⟩) 1 1∧Blk w b 87 [.int .i64 0,.string (E tgt),t]∧(∃ao n c,t=.slice ao n c)∧TOwn w B t NT∧EOwn w B t ev EL)
 | 11=>st=[true,true,false]→∃L:List (NEqn × Value),L.map (fun e=>e.1)=NL∧EOwn w B (.slice none 0 0) v L
 | 12=>v=.pointer (some ⟨gS,2,none⟩)
 | _=>True
theorem vSq3_st (gS gP h tgt:Nat) (ev x:Value) (B:Nat) (NT:List NTrm) (EL:List (NEqn × Value)) (NL:List NEqn):∀l i u w w',Bw w w'→vSq3 gS gP h tgt ev x B NT EL NL l i u w→vSq3 gS gP h tgt ev x B NT EL NL l i u w':=by
 intro l i u w w' hb h;unfold vSq3 at h ⊢;split at h
 all_goals first
  | exact h
  | (intro h0;obtain⟨b,h1,h2⟩:=h h0;exact⟨b,h1,h2.after hb⟩)
  | (intro h0;obtain⟨h1,h2,h3⟩:=h h0;exact⟨h1,h2.after hb,h3.after hb⟩)
  | (intro h0;obtain⟨L,h1,h2⟩:=h h0;exact⟨L,h1,h2.after hb⟩)
  | (refine⟨h.1,fun h0=>?_⟩;obtain⟨t,h0,h1,h2,h3⟩:=h.2 h0;exact⟨t,h0,h1,h2.after hb,h3.after hb⟩)
  | (refine⟨h.1,fun h0=>?_⟩;obtain⟨t,b,h4,h5,h1,h2,h3⟩:=h.2 h0;exact⟨t,b,h4,h5.after hb,h1,h2.after hb,h3.after hb⟩)
theorem vSq3_nx {gS gP h tgt:Nat} {ev x:Value} {B:Nat} {NT:List NTrm} {EL:List (NEqn × Value)} {NL:List NEqn} {l l':List Bool} {q:Nat} {w w':World} (hc:(l,l',q)=([false,false,false],[true,false,false],8)∨(l,l',q)=([true,false,false],[true,true,false],11)∨(l,l',q)=([true,true,false],[true,true,true],13)):∀i u,i≠q→vSq3 gS gP h tgt ev x B NT EL NL l i u w→vSq3 gS gP h tgt ev x B NT EL NL l' i u w':=by
 intro i u hj h;rcases hc with hc | hc | hc <;> cases hc
 all_goals
  unfold vSq3 at h ⊢;split at h
 all_goals first
  | exact absurd rfl hj
  | exact h
  | (intro h0;cases h0;done)
  | exact absurd rfl h.1
  | exact⟨by decide,fun h0=>by cases h0⟩
def fSq3 (gS gG p:Nat) (vv ev x:Value) (B:Nat) (VL:List Nat) (TL:List NTrm) (EL:List (NEqn × Value)) (NL:List NEqn) (st:List Bool) (w:World):Prop:=
 (st=[false,false,false]→TOwn w B x TL∧EOwn w B x ev EL)∧Blk w gG 24 [.string (E p),.string (E 0)]∧VOwn w B vv VL ∧
 ∃e3,Blk w gS 43 [.slice (some ⟨gG,0,none⟩) 1 1,vv,e3]∧(st≠[true,true,true]→e3=ev)∧(st=[true,true,true]→∃L:List (NEqn × Value),L.map (fun e=>e.1)=NL∧EOwn w B (.slice none 0 0) e3 L)
theorem fSq3_st (gS gG p:Nat) (vv ev x:Value) (B:Nat) (VL:List Nat) (TL:List NTrm) (EL:List (NEqn × Value)) (NL:List NEqn):∀l w w',Bw w w'→fSq3 gS gG p vv ev x B VL TL EL NL l w→fSq3 gS gG p vv ev x B VL TL EL NL l w':=by
 intro l w w' hb h;obtain⟨h1,h2,h3,e3,h5,h7,h6⟩:=h;exact⟨fun k=>⟨(h1 k).1.after hb,(h1 k).2.after hb⟩,h2.after hb,own_after h3 hb,e3,h5.after hb,h7,fun k=>by obtain⟨L,a,b⟩:=h6 k;exact⟨L,a,b.after hb⟩⟩
end
end Go.Proofs.YtdgddpnjkinciaaGreatDoor
