/- What holds in the region of bits.Split that calls Random: two boxes and a tape. -/
import Derived.Test.YtdoacbdkbbpamaaGreatDoorRd24
import Derived.Test.YtdoacbdkbbpamaaGreatDoorTp24
set_option linter.unusedVariables false
set_option linter.unusedSimpArgs false
set_option maxRecDepth 100000
set_option maxHeartbeats 16000000
namespace Go.Proofs.YtdoacbdkbbpamaaGreatDoor
section
/- pedersen.Random: a commitment to a number with a coin. -/
open Go.RowKit Go.Shelf
theorem coin_ltq {att:Att} {T:Tp} {n:Nat} (h:(coin att T n).1=0):(coin att T n).2<n:=by
 have e:T.on 0=T:=Tp.on_zero T;have h2:=prC_lt (att:=att) (rd:=n) (T:=T) (j:=0);unfold prC at h2;rw [e] at h2;exact h2 h
def RnPost (w:World) (p g h d:Nat) (T:Tp) (c:Nat × Nat) (e:Ending) (w':World):Prop:=∃t:Value,
 e=.returned (.tuple #[.string (if c.1=0 then E (cmtN p g h (d:Int) (c.2:Int)) else ⟨#[]⟩),(if c.1=0 then .agg #[.bool false,.string (E d),.bool false,.string (E c.2)] else .agg #[.bool false,.string ⟨#[]⟩,.bool false,.string ⟨#[]⟩]),t,.int .i64 (c.1:Int)])∧TAt w' t (T.after c.1)∧TFar t w.heap.size∧Below w.heap.size w w'
def vRn (B:Nat) (vK vM vr vI vR:Value) (cs:List Value):RVB:=fun st i v w=>match i with
 | 0=>v=vK
 | 1=>v=vM
 | 2=>v=vr
 | 3=>v=vI
 | 4=>v=vR
 | 5=>v=vR
 | 6=>∃x,v=.pointer (some ⟨x,0,none⟩)∧B≤x∧(st=[false]→Blk w x 39 [.bool false,.string ⟨#[]⟩,.bool false,.string ⟨#[]⟩])∧(st=[true]→Blk w x 39 cs)
 | _=>True
theorem vRn_st (B:Nat) (vK vM vr vI vR:Value) (cs:List Value):∀(l:List Bool) (j:Nat) (u:Value) (w w':World),Below w.heap.size w w'→vRn B vK vM vr vI vR cs l j u w→vRn B vK vM vr vI vR cs l j u w':=by
 intro l j u w w' hb h;unfold vRn at h ⊢;split at h
 all_goals first
  | exact h
  | (obtain ⟨x,h1,h2,h3,h4⟩:=h;exact ⟨x,h1,h2,fun e=>(h3 e).after hb,fun e=>(h4 e).after hb⟩)
theorem vRn_sto {B x:Nat} {vK vM vr vI vR:Value} {cs:List Value} {w w':World} (hB:B≤x) (hG:Blk w' x 39 cs):∀(j:Nat) (u:Value),(j=6→u=.pointer (some ⟨x,0,none⟩))→vRn B vK vM vr vI vR cs [false] j u w→vRn B vK vM vr vI vR cs [true] j u w':=by
 intro j u hj h;unfold vRn at h ⊢;split at h
 all_goals first
  | exact h
  | exact ⟨x,hj rfl,hB,fun e=>(by cases e),fun _=>hG⟩
theorem prand_c (att:Att) (p q g h d:Nat) (T:Tp) (v:Value) (w:World) (hat:HAtt att T.seed w) (hok:T.Ok) (hgd:T.good=true) (hp:p<256^8) (hq:q<256^8) (h0:0<q) (hgb:g<256^100) (hhb:h<256^100) (hd:d<q) (he:pedE p q g h=0) (hV:SsAt w v T.vals) :
  Calls Tryz.prog 69 #[.agg #[.string (E p),.string (E q),.string (E g),.string (E h)],.agg #[.bool false,.string (E d)],.agg #[v,.string T.seed,.int .i64 T.pos]] w (RnPost w p g h d T (coin att T q)):=by
 have u128:∀{n:Nat},n<256^100→n<256^128:=fun h=>Nat.lt_of_lt_of_le h (Nat.pow_le_pow_right (by decide) (by decide))
 have u8:∀{n:Nat},n<256^8→n<256^128:=fun h=>Nat.lt_of_lt_of_le h (Nat.pow_le_pow_right (by decide) (by decide))
 have hgr:=pedE_grp he
 have hgh:hasB p q g=true∧hasB p q h=true:=by
  unfold pedE at he;rw [if_pos hgr] at he;split at he
  ·rename_i hh;exact ⟨hh.1,hh.2.1⟩
  ·omega
 have HF:Hid (∀w:World,Calls Tryz.prog 70 #[.agg #[.string (E p),.string (E q),.string (E g),.string (E h)]] w fun e w'=>e=.returned (.bool true)∧Below w.heap.size w w'):=fun w=>pformedV_c (E p) (E q) (E g) (E h) true w (sz1000 (u8 hp)) (sz1000 (u8 hq)) (sz1000 (u128 hgb)) (sz1000 (u128 hhb)) (vl4_E (u8 hp) (u8 hq) (u128 hgb) (u128 hhb))
 have HI:Hid (∀w:World,Calls Tryz.prog 58 #[.agg #[.bool false,.string (E d)]] w fun e w'=>e=.returned (.bool true)∧Below w.heap.size w w'):=fun w=>ivalidI_c (d:Int) w (by rw [Int.natAbs_natCast];exact u8 (Nat.lt_trans hd hq))
 have HT:Hid (∀(u:Value) (w':World),SsAt w' u T.vals→Calls Tryz.prog 106 #[.agg #[u,.string T.seed,.int .i64 T.pos]] w' fun e w''=>e=.returned (.bool true)∧Below w'.heap.size w' w''):=fun u w' hu=>by
  have:=ptape_c T u w' hok hu;rwa [hgd] at this
 have HC:Hid (∀w:World,Calls Tryz.prog 60 #[.agg #[.string (E p),.string (E q),.string (E g),.string (E h)]] w fun e w'=>e=.returned (.int .i64 0)∧Below w.heap.size w w'):=fun w=>pedcheckV_c p q g h 0 w hp (u8 hq) (u128 hgb) (u128 hhb) he
 have HB:Hid (∀(u:Value) (w':World),Below w.heap.size w w'→SsAt w' u T.vals→Calls Tryz.prog 66 #[.agg #[u,.string T.seed,.int .i64 T.pos],.string (E q)] w' (CPost w' T (coin att T q))):=fun u w' hb hu=>cbelow_c att T u q w' (hat.after hb) hok (Nat.lt_of_lt_of_le hq (Nat.pow_le_pow_right (by decide) (by decide))) hu
 have HCL:Hid ((coin att T q).1=0→(coin att T q).2<q):=fun hh=>coin_ltq hh
 obtain ⟨cn,hcn⟩:∃c,c=coin att T q:=⟨_,rfl⟩;rw [←hcn] at HB HCL ⊢;clear hcn;obtain ⟨ce,cv⟩:=cn
 have HRD:Hid (ce=0→(∀w:World,Calls Tryz.prog 87 #[.string (E cv)] w fun e w'=>e=.returned (.agg #[.bool false,.string (E cv)])∧Below w.heap.size w w') ∧
   (∀w:World,Calls Tryz.prog 107 #[.agg #[.string (E p),.string (E q),.string (E g),.string (E h)],.agg #[.bool false,.string (E d),.bool false,.string (E cv)]] w fun e w'=>e=.returned (.agg #[.bool false,.string (E d),.bool false,.string (E cv)])∧Below w.heap.size w w') ∧
   (∀w:World,Calls Tryz.prog 38 #[.agg #[.string (E p),.string (E q),.string (E g),.string (E h)],.agg #[.bool false,.string (E d),.bool false,.string (E cv)]] w fun e w'=>e=.returned (.tuple #[.string (E (cmtN p g h (d:Int) (cv:Int))),.int .i64 0])∧Below w.heap.size w w')):=fun hh=>by
  have hcv:cv<q:=HCL.out hh;refine ⟨fun w=>ifrom_c cv w (u8 (Nat.lt_trans hcv hq)),fun w=>?_,fun w=>?_⟩
  ·have h1:=pred_c (d:Int) (cv:Int) p q g h w (by rw [Int.natAbs_natCast];exact Nat.lt_trans hd hq) (by rw [Int.natAbs_natCast];exact Nat.lt_trans hcv hq) hq h0;rw [show ((d:Int)%(q:Int)).toNat=d by rw [Int.emod_eq_of_lt (by omega) (by omega)];rfl,show ((cv:Int)%(q:Int)).toNat=cv by rw [Int.emod_eq_of_lt (by omega) (by omega)];rfl,Int.natAbs_natCast,Int.natAbs_natCast,sg_nat,sg_nat] at h1;exact h1
  ·have h1:=commit_c p q g h (d:Int) (cv:Int) w hp (u8 hq) (u128 hgb) (u128 hhb) (by rw [Int.natAbs_natCast];exact u8 (Nat.lt_trans hd hq)) (by rw [Int.natAbs_natCast];exact u8 (Nat.lt_trans hcv hq)) he hgh.1 hgh.2;unfold opn at h1;rwa [Int.natAbs_natCast,Int.natAbs_natCast,sg_nat,sg_nat] at h1
 have hz:=nzE h0;have hz2:=nzE2 h0;clear hat hok hgd hp hq hgb hhb hd he hgr hgh u8 u128 h0 HCL;obtain ⟨at_,ct,rfl⟩:=RAt.form hV;obtain ⟨nt,hnt⟩:∃n,n=T.vals.length:=⟨_,rfl⟩;rw [←hnt] at hV ⊢;clear hnt;obtain ⟨hK,hM,hT,hO,hBW⟩:=blk4 w #[.string (E p),.string (E q),.string (E g),.string (E h)] #[.bool false,.string (E d)] #[.slice at_ nt ct,.string T.seed,.int .i64 T.pos] #[.bool false,.string ⟨#[]⟩,.bool false,.string ⟨#[]⟩] 35 37 42 39;have hQ:=Blk.new ((((w.alloc (.cells #[.string (E p),.string (E q),.string (E g),.string (E h)] 35)).alloc (.cells #[.bool false,.string (E d)] 37)).alloc (.cells #[.slice at_ nt ct,.string T.seed,.int .i64 T.pos] 42)).alloc (.cells #[.bool false,.string ⟨#[]⟩,.bool false,.string ⟨#[]⟩] 39)) #[.slice none 0 0,.string ⟨#[]⟩,.int .i64 0] 42;simp only [World.size_alloc] at hQ;replace hK:=hK.alloc (.cells #[.slice none 0 0,.string ⟨#[]⟩,.int .i64 0] 42);replace hM:=hM.alloc (.cells #[.slice none 0 0,.string ⟨#[]⟩,.int .i64 0] 42);replace hT:=hT.alloc (.cells #[.slice none 0 0,.string ⟨#[]⟩,.int .i64 0] 42);replace hO:=hO.alloc (.cells #[.slice none 0 0,.string ⟨#[]⟩,.int .i64 0] 42);replace hBW:=ba hBW (.cells #[.slice none 0 0,.string ⟨#[]⟩,.int .i64 0] 42);have hV1:=SsAt.after hV hBW;obtain ⟨gM,hgM⟩:∃g,w.heap.size+1=g:=⟨_,rfl⟩;obtain ⟨gT,hgT⟩:∃g,w.heap.size+1+1=g:=⟨_,rfl⟩;obtain ⟨gO,hgO⟩:∃g,w.heap.size+1+1+1=g:=⟨_,rfl⟩;obtain ⟨gQ,hgQ⟩:∃g,w.heap.size+1+1+1+1=g:=⟨_,rfl⟩;have HGW:Hid (w.heap.size<gM∧gM<gT∧gT<gO∧gO<gQ):=by rw [Hid];omega
 have HG1:=Lib.hid hgM;have HG2:=Lib.hid hgT;have HG3:=Lib.hid hgO;have HG4:=Lib.hid hgQ;clear hgM hgT hgO hgQ hV;go_enter Tryz.func69,Tryz.ntmps69
 go_upto_region 1 with fail
 rw [HG4.out,HG3.out,HG2.out,HG1.out];replace hM:Blk _ gM 37 [.bool false,.string (E d)]:=HG1.out ▸ hM;replace hT:Blk _ gT 42 [.slice at_ nt ct,.string T.seed,.int .i64 T.pos]:=HG2.out ▸ hT;replace hO:Blk _ gO 39 [.bool false,.string ⟨#[]⟩,.bool false,.string ⟨#[]⟩]:=HG3.out ▸ hO;replace hQ:Blk _ gQ 42 [.slice none 0 0,.string ⟨#[]⟩,.int .i64 0]:=HG4.out ▸ hQ;generalize ((((w.alloc (.cells #[.string (E p),.string (E q),.string (E g),.string (E h)] 35)).alloc (.cells #[.bool false,.string (E d)] 37)).alloc (.cells #[.slice at_ nt ct,.string T.seed,.int .i64 T.pos] 42)).alloc (.cells #[.bool false,.string ⟨#[]⟩,.bool false,.string ⟨#[]⟩] 39)).alloc (.cells #[.slice none 0 0,.string ⟨#[]⟩,.int .i64 0] 42)=w1 at hK hM hT hO hQ hBW hV1 ⊢;replace hK:Blk w1 w.heap.size 35 [.string (E p),.string (E q),.string (E g),.string (E h)]:=hK;clear HG1 HG2 HG3 HG4;obtain ⟨hKc0,hKf0,hKc1,hKf1,hKc2,hKf2,hKc3,hKf3⟩:=hK.x4;obtain ⟨hMc0,hMf0,hMc1,hMf1⟩:=hM.x2;obtain ⟨hTc0,hTf0,hTc1,hTf1,hTc2,hTf2⟩:=hT.x3;go_wp2_with fail
 refine (HF.out _).mono ?_;rintro e w2 ⟨rfl,hb⟩;clear hKc0 hKf0 hKc1 hKf1 hKc2 hKf2 hKc3 hKf3;clear hMc0 hMf0 hMc1 hMf1;clear hTc0 hTf0 hTc1 hTf1 hTc2 hTf2;replace hK:=hK.after hb;replace hM:=hM.after hb;replace hT:=hT.after hb;replace hO:=hO.after hb;replace hQ:=hQ.after hb;replace hV1:=SsAt.after hV1 hb;replace hBW:=bt hBW hb;clear hb;obtain ⟨hKc0,hKf0,hKc1,hKf1,hKc2,hKf2,hKc3,hKf3⟩:=hK.x4;obtain ⟨hMc0,hMf0,hMc1,hMf1⟩:=hM.x2;obtain ⟨hTc0,hTf0,hTc1,hTf1,hTc2,hTf2⟩:=hT.x3;go_wp2_with fail
 refine (HI.out _).mono ?_;rintro e w3 ⟨rfl,hb⟩;clear hKc0 hKf0 hKc1 hKf1 hKc2 hKf2 hKc3 hKf3;clear hMc0 hMf0 hMc1 hMf1;clear hTc0 hTf0 hTc1 hTf1 hTc2 hTf2;replace hK:=hK.after hb;replace hM:=hM.after hb;replace hT:=hT.after hb;replace hO:=hO.after hb;replace hQ:=hQ.after hb;replace hV1:=SsAt.after hV1 hb;replace hBW:=bt hBW hb;clear hb;obtain ⟨hKc0,hKf0,hKc1,hKf1,hKc2,hKf2,hKc3,hKf3⟩:=hK.x4;obtain ⟨hMc0,hMf0,hMc1,hMf1⟩:=hM.x2;obtain ⟨hTc0,hTf0,hTc1,hTf1,hTc2,hTf2⟩:=hT.x3;go_wp2_with fail
 refine (HT.out _ _ hV1).mono ?_;rintro e w4 ⟨rfl,hb⟩;clear hKc0 hKf0 hKc1 hKf1 hKc2 hKf2 hKc3 hKf3;clear hMc0 hMf0 hMc1 hMf1;clear hTc0 hTf0 hTc1 hTf1 hTc2 hTf2;replace hK:=hK.after hb;replace hM:=hM.after hb;replace hT:=hT.after hb;replace hO:=hO.after hb;replace hQ:=hQ.after hb;replace hV1:=SsAt.after hV1 hb;replace hBW:=bt hBW hb;clear hb HF HI HT;obtain ⟨hKc0,hKf0,hKc1,hKf1,hKc2,hKf2,hKc3,hKf3⟩:=hK.x4;obtain ⟨hMc0,hMf0,hMc1,hMf1⟩:=hM.x2;obtain ⟨hTc0,hTf0,hTc1,hTf1,hTc2,hTf2⟩:=hT.x3;go_wp2_with fail
 refine (HC.out _).mono ?_;rintro e w5 ⟨rfl,hb⟩;clear hKc0 hKf0 hKc1 hKf1 hKc2 hKf2 hKc3 hKf3;clear hMc0 hMf0 hMc1 hMf1;clear hTc0 hTf0 hTc1 hTf1 hTc2 hTf2;replace hK:=hK.after hb;replace hM:=hM.after hb;replace hT:=hT.after hb;replace hO:=hO.after hb;replace hQ:=hQ.after hb;replace hV1:=SsAt.after hV1 hb;replace hBW:=bt hBW hb;clear hb HC;obtain ⟨hKc0,hKf0,hKc1,hKf1,hKc2,hKf2,hKc3,hKf3⟩:=hK.x4;obtain ⟨hMc0,hMf0,hMc1,hMf1⟩:=hM.x2;obtain ⟨hTc0,hTf0,hTc1,hTf1,hTc2,hTf2⟩:=hT.x3;go_wp2_with fail
 refine (HB.out _ _ hBW hV1).mono ?_;rintro e w6 ⟨t,rfl,⟨u,rfl,hU⟩,hFd,hb⟩;clear hKc0 hKf0 hKc1 hKf1 hKc2 hKf2 hKc3 hKf3;clear hMc0 hMf0 hMc1 hMf1;clear hTc0 hTf0 hTc1 hTf1 hTc2 hTf2;simp only [] at hU hFd ⊢;obtain ⟨T1,hT1⟩:∃t,t=T.after ce:=⟨_,rfl⟩;rw [←hT1] at hU hFd ⊢;have HT1:=Lib.hid hT1;clear hT1;obtain ⟨uo,uc,rfl⟩:=RAt.form hU;obtain ⟨um,hum⟩:∃n,n=T1.vals.length:=⟨_,rfl⟩;have HUM:=Lib.hid hum;rw [←hum] at hU hFd ⊢;clear hum;have hwT:=hT.lt;have hwQ:=hQ.lt;have hFT:=hFd.far hwT;have hFQ:=hFd.far hwQ;have hFO:=hFd.far hO.lt;have HFW:Hid (∀b,b<w.heap.size→FarS (.slice uo um uc) b):=fun b hb'=>hFd.far (Nat.lt_of_lt_of_le hb' hBW.size)
 replace hK:=hK.after hb;replace hM:=hM.after hb;replace hT:=hT.after hb;replace hO:=hO.after hb;replace hQ:=hQ.after hb;replace hBW:=bt hBW hb;clear hb HB hV1 hFd hwT hwQ;have hTl:=hT.lt;obtain ⟨hTc0,hTf0,hTc1,hTf1,hTc2,hTf2⟩:=hT.x3;go_upto_region 10 with fail
 clear hTc0 hTf0 hTc1 hTf1 hTc2 hTf2;have nKT:w.heap.size≠gT:=by have:=HGW.out;omega
 have nMT:gM≠gT:=by have:=HGW.out;omega
 have nOT:gO≠gT:=by have:=HGW.out;omega
 have nQT:gQ≠gT:=by have:=HGW.out;omega
 have lT:w.heap.size≤gT:=by have:=HGW.out;omega
 replace hU:=((hU.set_far (i:=0) (x:=.slice uo um uc) hFT).set_far (i:=1) (x:=.string T1.seed) hFT).set_far (i:=2) (x:=.int .i64 T1.pos) hFT;replace hK:=((hK.other ⟨gT,0,none⟩ (.slice uo um uc) nKT).other ⟨gT,1,none⟩ (.string T1.seed) nKT).other ⟨gT,2,none⟩ (.int .i64 T1.pos) nKT;replace hM:=((hM.other ⟨gT,0,none⟩ (.slice uo um uc) nMT).other ⟨gT,1,none⟩ (.string T1.seed) nMT).other ⟨gT,2,none⟩ (.int .i64 T1.pos) nMT;replace hO:=((hO.other ⟨gT,0,none⟩ (.slice uo um uc) nOT).other ⟨gT,1,none⟩ (.string T1.seed) nOT).other ⟨gT,2,none⟩ (.int .i64 T1.pos) nOT;replace hQ:=((hQ.other ⟨gT,0,none⟩ (.slice uo um uc) nQT).other ⟨gT,1,none⟩ (.string T1.seed) nQT).other ⟨gT,2,none⟩ (.int .i64 T1.pos) nQT;replace hT:=((hT.set 0 (.slice uo um uc)).set 1 (.string T1.seed)).set 2 (.int .i64 T1.pos);replace hBW:=((hBW.setCell (p:=⟨gT,0,none⟩) lT (.slice uo um uc)).setCell (p:=⟨gT,1,none⟩) lT (.string T1.seed)).setCell (p:=⟨gT,2,none⟩) lT (.int .i64 T1.pos);generalize ((w6.setCell ⟨gT,0,none⟩ (.slice uo um uc)).setCell ⟨gT,1,none⟩ (.string T1.seed)).setCell ⟨gT,2,none⟩ (.int .i64 T1.pos)=w7 at hU hK hM hO hQ hT hBW ⊢;replace hT:Blk w7 gT 42 [.slice uo um uc,.string T1.seed,.int .i64 T1.pos]:=hT;clear nKT nMT nOT nQT hTl hFT;have lO:w.heap.size≤gO:=by have:=HGW.out;omega
 have lQ:w.heap.size≤gQ:=by have:=HGW.out;omega
 have nOQ:¬ gO=gQ:=by have:=HGW.out;omega
 by_cases hce:ce=0
 case neg =>
  have hceb:((ce:Int) != 0)=true:=by rw [bne_iff_ne];omega
  have HCE:=Lib.hid hce;have hOl:=hO.lt;have hQl:=hQ.lt;clear hce hK hM hT hU hFQ hFO HRD;obtain ⟨hOc0,hOf0,hOc1,hOf1,hOc2,hOf2,hOc3,hOf3⟩:=hO.x4;obtain ⟨hQc0,hQf0,hQc1,hQf1,hQc2,hQf2⟩:=hQ.x3;go_wp2;refine bodyPost_ret (v:=.tuple #[.string ⟨#[]⟩,.agg #[.bool false,.string ⟨#[]⟩,.bool false,.string ⟨#[]⟩],.agg #[.slice none 0 0,.string ⟨#[]⟩,.int .i64 0],.int .i64 (ce:Int)]) ?_ rfl ?_
  ·simp [results,Tryz.results69,go_sem,hOc0,hOc1,hOc2,hOc3,hQc0,hQc1,hQc2,hOl,hQl,nOQ]
  ·refine ⟨.agg #[.slice none 0 0,.string ⟨#[]⟩,.int .i64 0],?_,?_,TFar.zero _ _ _,?_⟩
   ·simp only [];rw [if_neg HCE.out,if_neg HCE.out]
   ·simp only [];rw [Tp.after,if_neg HCE.out];exact ⟨_,rfl,ss_nil _⟩
   ·exact ((((((hBW.setCell lO _).setCell lO _).setCell lO _).setCell lO _).setCell lQ _).setCell lQ _).setCell lQ _
 case pos =>
  subst hce;obtain ⟨hr1,hr2,hr3⟩:=HRD.out rfl;have HR1:=Lib.hid hr1;have HR2:=Lib.hid hr2;have HR3:=Lib.hid hr3;clear hr1 hr2 hr3 HRD;have hwq:=hQ.lt;go_upto_region 12 with fail
  go_cut [14] (fun s14 wx=>∃x,s14=.pointer (some ⟨x,0,none⟩)∧w7.heap.size≤x∧Blk wx x 39 [.bool false,.string (E d),.bool false,.string (E cv)]∧Below w7.heap.size w7 wx)
  case first =>
   refine wp_region_invB (vRn w7.heap.size (.agg #[.string (E p),.string (E q),.string (E g),.string (E h)]) (.agg #[.bool false,.string (E d)]) (.string (E cv)) (.agg #[.bool false,.string (E cv)]) (.agg #[.bool false,.string (E d),.bool false,.string (E cv)]) [.bool false,.string (E d),.bool false,.string (E cv)]) [7] w7.heap.size (fun _ _=>True) 78 trivial (by kernel_rfl) rfl (by kernel_rfl) ?_ ?_ (by kernel_rfl)
   ·intro hsl done a' w' i o hJ ho hun hpre;have hi:=(Array.getElem?_eq_some_iff.1 ho).1;have hst:=vRn_st w7.heap.size (.agg #[.string (E p),.string (E q),.string (E g),.string (E h)]) (.agg #[.bool false,.string (E d)]) (.string (E cv)) (.agg #[.bool false,.string (E cv)]) (.agg #[.bool false,.string (E d),.bool false,.string (E cv)]) [.bool false,.string (E d),.bool false,.string (E cv)];have hFt:∀(b:List Bool) (w w':World),Below w.heap.size w w'→(fun (_:List Bool) (_:World)=>True) b w→(fun (_:List Bool) (_:World)=>True) b w':=fun _ _ _ _ _=>trivial
    have hwz:=hJ.bw.size;have hKx:=hK.after hJ.bw;have hMx:=hM.after hJ.bw;have hKl:=hKx.lt;have hMl:=hMx.lt;have x0:=hKx.cell 0;have x1:=hKx.cell 1;have x2:=hKx.cell 2;have x3:=hKx.cell 3;have y0:=hMx.cell 0;have y1:=hMx.cell 1
    match i,hi,ho,hun,hpre with
     | 0,_,ho,hun,hpre =>
      simp at ho;subst ho;refine hJ.op (d:=58) hsl hst hFt hwz rfl rfl rfl (by decide) hpre ?_;have q3:=hJ.keep 3 (.pointer (some ⟨w.heap.size,0,none⟩)) rfl (by kernel_rfl);refine wp_val (v:=.agg #[.string (E p),.string (E q),.string (E g),.string (E h)]) (by simp [execOp,q3,go_sem,x0,x1,x2,x3]) rfl
     | 1,_,ho,hun,hpre =>
      simp at ho;subst ho;refine hJ.op (d:=59) hsl hst hFt hwz rfl rfl rfl (by decide) hpre ?_;have q4:=hJ.keep 4 (.pointer (some ⟨gM,0,none⟩)) rfl (by kernel_rfl);refine wp_val (v:=.agg #[.bool false,.string (E d)]) (by simp [execOp,q4,go_sem,y0,y1]) rfl
     | 2,_,ho,hun,hpre =>
      simp at ho;subst ho;refine hJ.op (d:=60) hsl hst hFt hwz rfl rfl rfl (by decide) hpre ?_;have q12:=hJ.keep 12 (.string (E cv)) rfl (by kernel_rfl);refine wp_val (v:=.string (E cv)) (by simp [execOp,q12,go_sem]) rfl
     | 3,_,ho,hun,hpre =>
      simp at ho;subst ho;refine hJ.op (d:=61) hsl hst hFt hwz rfl rfl rfl (by decide) hpre ?_;obtain ⟨v60,ev60,hv60⟩:=hJ.dn 2 _ 60 rfl (hpre ⟨2,.data⟩ (by simp) rfl) rfl;have qv60:=eval_of ev60;obtain rfl:v60=.string (E cv):=hv60;refine wp_callX 87 #[.tmp 60] #[31] rfl (enters_of Tryz.func87 (by kernel_rfl) rfl) ?_;simp only [List.map_toArray,List.map_cons,List.map_nil,qv60];refine (HR1.out w').mono ?_;rintro e w'' ⟨rfl,hb⟩;exact ⟨_,rfl,hb,rfl⟩
     | 4,_,ho,hun,hpre =>
      simp at ho;subst ho;refine hJ.op (d:=62) hsl hst hFt hwz rfl rfl rfl (by decide) hpre ?_;obtain ⟨v59,ev59,hv59⟩:=hJ.dn 1 _ 59 rfl (hpre ⟨1,.data⟩ (by simp) rfl) rfl;have qv59:=eval_of ev59;obtain ⟨v61,ev61,hv61⟩:=hJ.dn 3 _ 61 rfl (hpre ⟨3,.data⟩ (by simp) rfl) rfl;have qv61:=eval_of ev61;obtain rfl:v59=.agg #[.bool false,.string (E d)]:=hv59;obtain rfl:v61=.agg #[.bool false,.string (E cv)]:=hv61;refine wp_val (v:=.agg #[.bool false,.string (E d),.bool false,.string (E cv)]) (by simp [execOp,ev59,ev61,go_sem]) rfl
     | 5,_,ho,hun,hpre =>
      simp at ho;subst ho;refine hJ.op (d:=63) hsl hst hFt hwz rfl rfl rfl (by decide) hpre ?_;obtain ⟨v58,ev58,hv58⟩:=hJ.dn 0 _ 58 rfl (hpre ⟨0,.data⟩ (by simp) rfl) rfl;have qv58:=eval_of ev58;obtain ⟨v62,ev62,hv62⟩:=hJ.dn 4 _ 62 rfl (hpre ⟨4,.data⟩ (by simp) rfl) rfl;have qv62:=eval_of ev62;obtain rfl:v58=.agg #[.string (E p),.string (E q),.string (E g),.string (E h)]:=hv58;obtain rfl:v62=.agg #[.bool false,.string (E d),.bool false,.string (E cv)]:=hv62;refine wp_callX 107 #[.tmp 58,.tmp 62] #[35,39] rfl (enters_of Tryz.func107 (by kernel_rfl) rfl) ?_;simp only [List.map_toArray,List.map_cons,List.map_nil,qv58,qv62];refine (HR2.out w').mono ?_;rintro e w'' ⟨rfl,hb⟩;exact ⟨_,rfl,hb,rfl⟩
     | 6,_,ho,hun,hpre =>
      simp at ho;subst ho;refine hJ.op (d:=14) hsl hst hFt hwz rfl rfl rfl (by decide) hpre ?_
      have k7:done.getD 7 false=false:=by
       cases a11:done.getD 7 false with
       | false=>rfl
       | true =>
        have a10:=hJ.pr 7 _ rfl a11 ⟨6,.data⟩ (by simp) rfl;rw [hun] at a10;cases a10
      have hN:=Blk.new w' #[.bool false,.string ⟨#[]⟩,.bool false,.string ⟨#[]⟩] 39;simp [Oper.wp,execOp,go_sem];exact ⟨_,rfl,b1 _ _,_,rfl,hwz,fun _=>hN,fun e=>by simp only [stB,List.map_cons,List.map_nil,k7] at e;cases e⟩
     | 7,_,ho,hun,hpre =>
      simp at ho;subst ho;obtain ⟨v63,ev63,hv63⟩:=hJ.dn 5 _ 63 rfl (hpre ⟨5,.data⟩ (by simp) rfl) rfl;have qv63:=eval_of ev63;obtain ⟨v14,ev14,hv14⟩:=hJ.dn 6 _ 14 rfl (hpre ⟨6,.data⟩ (by simp) rfl) rfl;have qv14:=eval_of ev14
      have hs0:stB [7] done=[false]:=by
       have k7:done.getD 7 false=false:=hun;simp only [stB,List.map_cons,List.map_nil,k7]
      have hi7:7<done.size:=by rw [hJ.sz];decide
      have hs1:stB [7] (done.setIfInBounds 7 true)=[true]:=by
       have e:=hs0;simp only [stB,List.map_cons,List.map_nil,List.cons.injEq,and_true] at e;simp only [stB,List.map_cons,List.map_nil,getD_set _ _ _ hi7,e,if_true,if_false,Nat.reduceEqDiff]
      obtain rfl:v63=.agg #[.bool false,.string (E d),.bool false,.string (E cv)]:=hv63;rw [hs0] at hv14;obtain ⟨x,rfl,hBx,hG,_⟩:=hv14;have hG:=hG rfl;have hGl:=hG.lt;have f0:=hG.free 0;have f1:=hG.free 1;have f2:=hG.free 2;have f3:=hG.free 3;have z0:=hG.cell 0;have z1:=hG.cell 1;have z2:=hG.cell 2;have z3:=hG.cell 3;refine wpOp_step rfl fun K' hK=>?_
      rw [if_pos (by simp [Region.wanted])];simp [Oper.wp,execOp,ev63,ev14,go_sem,f0,f1,f2,f3,z0,z1,z2,z3,hGl];have h9:=hJ.skip (i:=7) (v:=undef) rfl rfl hpre ((((hJ.bw.setCell (p:=⟨x,0,none⟩) hBx (.bool false)).setCell (p:=⟨x,1,none⟩) hBx (.string (E d))).setCell (p:=⟨x,2,none⟩) hBx (.bool false)).setCell (p:=⟨x,3,none⟩) hBx (.string (E cv))) trivial ?_
      ·exact hK a' _ h9
      ·intro j q hq hj hdn e u he hu hv;rw [hs0] at hv;rw [hs1];refine vRn_sto hBx ((((hG.set 0 _).set 1 _).set 2 _).set 3 _) j u ?_ hv;rintro rfl;simp at hq;subst hq;cases he
       rw [ev14] at hu;injection hu with hu
       exact hu.symm
   ·intro done a' w' hJ hd;obtain ⟨f,hf,hv⟩:=hJ.all hd;have hs1:stB [7] done=[true]:=stB_all hd (by kernel_rfl);have h14:=hv 6 _ 14 rfl rfl;rw [hs1] at h14;obtain ⟨x,ex,hBx,_,hG⟩:=h14;replace hG:=hG rfl;have hbw:=hJ.bw;clear hJ hv hd;subst hf;simp only [putAll,List.size_toArray,List.length_cons,List.length_nil,Nat.reduceAdd,List.getElem?_toArray,List.getElem?_cons_zero,List.getElem?_cons_succ,Option.bind_some,Act.put,List.setIfInBounds_toArray,List.set_cons_zero,List.set_cons_succ];rw [ex];go_wp2_with fail
    go_meet
    exact ⟨x,rfl,hBx,hG,hbw⟩
  case rest =>
   obtain ⟨x,rfl,hx,hP,hb⟩:=hcut;obtain ⟨wx,hwx⟩:∃wx,wx=wc:=⟨_,rfl⟩;subst hwx;replace hK:=hK.after hb;replace hT:=hT.after hb;replace hO:=hO.after hb;replace hQ:=hQ.after hb;replace hU:=SsAt.after hU hb;replace hBW:=bt hBW hb;clear hb HR1 HR2 hM;have hPl:=hP.lt;obtain ⟨hKc0,hKf0,hKc1,hKf1,hKc2,hKf2,hKc3,hKf3⟩:=hK.x4;obtain ⟨hPc0,hPf0,hPc1,hPf1,hPc2,hPf2,hPc3,hPf3⟩:=hP.x4;go_wp2_with fail
   refine (HR3.out _).mono ?_;rintro e w8 ⟨rfl,hb⟩;clear hKc0 hKf0 hKc1 hKf1 hKc2 hKf2 hKc3 hKf3;clear hPc0 hPf0 hPc1 hPf1 hPc2 hPf2 hPc3 hPf3;replace hP:=hP.after hb;replace hT:=hT.after hb;replace hO:=hO.after hb;replace hQ:=hQ.after hb;replace hU:=SsAt.after hU hb;replace hBW:=bt hBW hb;clear hb HR3 hK hPl;have hPl:=hP.lt;have hTl:=hT.lt;have hOl:=hO.lt;have hQl:=hQ.lt;have n1:gO≠gT:=by have:=HGW.out;omega
   have n2:gQ≠gT:=by have:=HGW.out;omega
   have n3:gO≠x:=by have:=HGW.out;omega
   have n4:gQ≠x:=by omega
   have n5:gO≠gQ:=nOQ;have hUE:=hU;go_upto_region 16 with fail
   obtain ⟨hPc0,hPf0,hPc1,hPf1,hPc2,hPf2,hPc3,hPf3⟩:=hP.x4;obtain ⟨hTc0,hTf0,hTc1,hTf1,hTc2,hTf2⟩:=hT.x3;obtain ⟨hOc0,hOf0,hOc1,hOf1,hOc2,hOf2,hOc3,hOf3⟩:=hO.x4;obtain ⟨hQc0,hQf0,hQc1,hQf1,hQc2,hQf2⟩:=hQ.x3;go_region
   all_goals
    go_wp2;refine bodyPost_ret (v:=.tuple #[.string (E (cmtN p g h (d:Int) (cv:Int))),.agg #[.bool false,.string (E d),.bool false,.string (E cv)],.agg #[.slice uo um uc,.string T1.seed,.int .i64 T1.pos],.int .i64 0]) ?_ rfl ?_
    ·simp [results,Tryz.results69,go_sem,hOc0,hOc1,hOc2,hOc3,hQc0,hQc1,hQc2,hOl,hQl,n5,n5.symm]
    ·refine ⟨_,rfl,?_,TFar.of (fun b hb=>HFW.out b hb),?_⟩
     ·rw [←HT1.out];exact ⟨_,rfl,SsAt.after (((((((hU.set_far hFO).set_far hFO).set_far hFO).set_far hFO).set_far hFQ).set_far hFQ).set_far hFQ) (Below.drew (Below.refl _ _))⟩
     ·exact (((((((hBW.setCell lO _).setCell lO _).setCell lO _).setCell lO _).setCell lQ _).setCell lQ _).setCell lQ _).drew
end
section
open Go.RowKit Go.Shelf
def fS2 (B:Nat) (cs s1 s2 sd:ByteArray) (pos:Int) (ke tm:Nat) (vals:List ByteArray) (d7 d8 d11 d13 d14 d16 d17:Bool) (t:Array Value) (w:World):Prop:=
 (d13=true→∃g,t[20]?=some (.pointer (some ⟨g,0,none⟩))∧B≤g∧Blk w g 39 (if d16=true then [.bool false,.string s1,.bool false,.string s2] else [.bool false,.string ⟨#[]⟩,.bool false,.string ⟨#[]⟩])) ∧
 (d14=true→∃g,t[21]?=some (.pointer (some ⟨g,0,none⟩))∧B≤g∧(d17=false→Blk w g 42 [.slice none 0 0,.string ⟨#[]⟩,.int .i64 0])) ∧
 (d7=true→∃ta tc,t[65]?=some (.tuple #[.string cs,.agg #[.bool false,.string s1,.bool false,.string s2],.agg #[.slice ta tm tc,.string sd,.int .i64 pos],.int .i64 (ke:Int)])∧(d8=true→t[57]?=some (.tuple #[.string cs,.agg #[.bool false,.string s1,.bool false,.string s2],.agg #[.slice ta tm tc,.string sd,.int .i64 pos],.int .i64 (ke:Int)]))∧(d11=true→t[68]?=some (.agg #[.slice ta tm tc,.string sd,.int .i64 pos]))∧SsAt w (.slice ta tm tc) vals∧(∀b,b<B→FarS (.slice ta tm tc) b) ∧
  (d13=true→∀g,t[20]?=some (.pointer (some ⟨g,0,none⟩))→FarS (.slice ta tm tc) g)∧(d14=true→∀g,t[21]?=some (.pointer (some ⟨g,0,none⟩))→FarS (.slice ta tm tc) g)∧(d17=true→∀g,t[21]?=some (.pointer (some ⟨g,0,none⟩))→Blk w g 42 [.slice ta tm tc,.string sd,.int .i64 pos]))
theorem ptr_inj {g g':Nat} (h:some (Value.pointer (some ⟨g,0,none⟩))=some (Value.pointer (some ⟨g',0,none⟩))):g=g':=by
 injection h with h;injection h with h;injection h with h;injection h with h
theorem blk_neT' {w:World} {g g':Nat} {T T':TypeId} {cs cs':List Value} (h:Blk w g T cs) (h':Blk w g' T' cs') (hT:T≠T'):g≠g':=by
 rintro rfl;unfold Blk at h h';rw [h] at h';injection h' with h'
 injection h' with _ h'
 exact hT h'
theorem blk_o3 {w:World} {g g':Nat} {T:TypeId} {cs:List Value} (h:Blk w g T cs) (hne:g≠g') (x y z:Value):Blk (((w.setCell ⟨g',0,none⟩ x).setCell ⟨g',1,none⟩ y).setCell ⟨g',2,none⟩ z) g T cs:=
 ((h.other ⟨g',0,none⟩ x hne).other ⟨g',1,none⟩ y hne).other ⟨g',2,none⟩ z hne
theorem blk_o4 {w:World} {g g':Nat} {T:TypeId} {cs:List Value} (h:Blk w g T cs) (hne:g≠g') (x y z u:Value):Blk ((((w.setCell ⟨g',0,none⟩ x).setCell ⟨g',1,none⟩ y).setCell ⟨g',2,none⟩ z).setCell ⟨g',3,none⟩ u) g T cs:=
 (blk_o3 h hne x y z).other ⟨g',3,none⟩ u hne
theorem fS2_st {B:Nat} {cs s1 s2 sd:ByteArray} {pos:Int} {ke tm:Nat} {vals:List ByteArray} {d7 d8 d11 d13 d14 d16 d17:Bool} {t:Array Value} {w w':World} (hb:Below w.heap.size w w') (h:fS2 B cs s1 s2 sd pos ke tm vals d7 d8 d11 d13 d14 d16 d17 t w):fS2 B cs s1 s2 sd pos ke tm vals d7 d8 d11 d13 d14 d16 d17 t w':=by
 obtain ⟨h1,h2,h3⟩:=h;refine ⟨fun k=>?_,fun k=>?_,fun k=>?_⟩
 ·obtain ⟨g,a,b,c⟩:=h1 k;exact ⟨g,a,b,c.after hb⟩
 ·obtain ⟨g,a,b,c⟩:=h2 k;exact ⟨g,a,b,fun e=>(c e).after hb⟩
 ·obtain ⟨ta,tc,a,b,c,d,e,f,g,i⟩:=h3 k;exact ⟨ta,tc,a,b,c,SsAt.after d hb,e,f,g,fun k g hg=>(i k g hg).after hb⟩
theorem fS2_put {B:Nat} {cs s1 s2 sd:ByteArray} {pos:Int} {ke tm:Nat} {vals:List ByteArray} {d7 d8 d11 d13 d14 d16 d17:Bool} {t:Array Value} {w:World} {d:Nat} {v:Value} (hd:d ∉ [20,21,57,65,68]) (h:fS2 B cs s1 s2 sd pos ke tm vals d7 d8 d11 d13 d14 d16 d17 t w):fS2 B cs s1 s2 sd pos ke tm vals d7 d8 d11 d13 d14 d16 d17 (t.setIfInBounds d v) w:=by
 simp only [List.mem_cons,List.not_mem_nil,or_false,not_or] at hd;unfold fS2 at h ⊢;rw [Array.getElem?_setIfInBounds_ne hd.1,Array.getElem?_setIfInBounds_ne hd.2.1,Array.getElem?_setIfInBounds_ne hd.2.2.1,Array.getElem?_setIfInBounds_ne hd.2.2.2.1,Array.getElem?_setIfInBounds_ne hd.2.2.2.2];exact h
theorem fS2_call {B:Nat} {cs s1 s2 sd:ByteArray} {pos:Int} {ke tm:Nat} {vals:List ByteArray} {d13 d14 d16:Bool} {t:Array Value} {w w':World} {ta:Option Addr} {tc:Nat} (hs:65<t.size) (hB:B≤w.heap.size) (hb:Below w.heap.size w w') (hU:SsAt w' (.slice ta tm tc) vals) (hf:∀b,b<w.heap.size→FarS (.slice ta tm tc) b)
  (h:fS2 B cs s1 s2 sd pos ke tm vals false false false d13 d14 d16 false t w):fS2 B cs s1 s2 sd pos ke tm vals true false false d13 d14 d16 false (t.setIfInBounds 65 (.tuple #[.string cs,.agg #[.bool false,.string s1,.bool false,.string s2],.agg #[.slice ta tm tc,.string sd,.int .i64 pos],.int .i64 (ke:Int)])) w':=by
 have h':=fS2_st hb h;obtain ⟨k1,k2,_⟩:=h;obtain ⟨h1,h2,_⟩:=h';unfold fS2;rw [Array.getElem?_setIfInBounds_ne (show 65≠20 by decide),Array.getElem?_setIfInBounds_ne (show 65≠21 by decide),Array.getElem?_setIfInBounds_self_of_lt hs];refine ⟨h1,h2,fun _=>⟨ta,tc,rfl,fun k=>(by cases k),fun k=>(by cases k),hU,fun b hb'=>hf b (by omega),fun k g hg=>?_,fun k g hg=>?_,fun k=>(by cases k)⟩⟩
 ·obtain ⟨g',a,_,c⟩:=k1 k;have e:=ptr_inj (hg.symm.trans a);subst e;exact hf _ c.lt
 ·obtain ⟨g',a,_,c⟩:=k2 k;have e:=ptr_inj (hg.symm.trans a);subst e;exact hf _ (c rfl).lt
theorem fS2_mv {B:Nat} {cs s1 s2 sd:ByteArray} {pos:Int} {ke tm:Nat} {vals:List ByteArray} {d13 d14 d16:Bool} {t:Array Value} {w:World} {v:Value} (hs:57<t.size) (hv:t[65]?=some v) (h:fS2 B cs s1 s2 sd pos ke tm vals true false false d13 d14 d16 false t w):fS2 B cs s1 s2 sd pos ke tm vals true true false d13 d14 d16 false (t.setIfInBounds 57 v) w:=by
 obtain ⟨h1,h2,h3⟩:=h;unfold fS2;rw [Array.getElem?_setIfInBounds_ne (show 57≠20 by decide),Array.getElem?_setIfInBounds_ne (show 57≠21 by decide),Array.getElem?_setIfInBounds_ne (show 57≠65 by decide),Array.getElem?_setIfInBounds_self_of_lt hs];refine ⟨h1,h2,fun k=>?_⟩;obtain ⟨ta,tc,a,b,c,d,e,f,g,i⟩:=h3 k;exact ⟨ta,tc,a,fun _=>hv.symm.trans a,fun k=>(by cases k),d,e,f,g,i⟩
theorem fS2_ex {B:Nat} {cs s1 s2 sd:ByteArray} {pos:Int} {ke tm:Nat} {vals:List ByteArray} {d13 d14 d16:Bool} {t:Array Value} {w:World} {x y z u:Value} (hs:68<t.size) (hv:t[57]?=some (.tuple #[x,y,z,u])) (h:fS2 B cs s1 s2 sd pos ke tm vals true true false d13 d14 d16 false t w):fS2 B cs s1 s2 sd pos ke tm vals true true true d13 d14 d16 false (t.setIfInBounds 68 z) w:=by
 obtain ⟨h1,h2,h3⟩:=h;unfold fS2;rw [Array.getElem?_setIfInBounds_ne (show 68≠20 by decide),Array.getElem?_setIfInBounds_ne (show 68≠21 by decide),Array.getElem?_setIfInBounds_ne (show 68≠65 by decide),Array.getElem?_setIfInBounds_ne (show 68≠57 by decide),Array.getElem?_setIfInBounds_self_of_lt hs];refine ⟨h1,h2,fun k=>?_⟩;obtain ⟨ta,tc,a,b,c,d,e,f,g,i⟩:=h3 k;refine ⟨ta,tc,a,b,fun _=>?_,d,e,f,g,i⟩;have e1:=hv.symm.trans (b rfl);injection e1 with e1
 injection e1 with e1
 have e2:=congrArg (fun (a:Array Value)=>a[2]?) e1;simpa using e2
theorem fS2_new1 {B:Nat} {cs s1 s2 sd:ByteArray} {pos:Int} {ke tm:Nat} {vals:List ByteArray} {d7 d8 d11 d14 d17:Bool} {t:Array Value} {w:World} (hs:20<t.size) (hB:B≤w.heap.size) (h:fS2 B cs s1 s2 sd pos ke tm vals d7 d8 d11 false d14 false d17 t w) :
  fS2 B cs s1 s2 sd pos ke tm vals d7 d8 d11 true d14 false d17 (t.setIfInBounds 20 (.pointer (some ⟨w.heap.size,0,none⟩))) (w.alloc (.cells #[.bool false,.string ⟨#[]⟩,.bool false,.string ⟨#[]⟩] 39)):=by
 have h':=fS2_st (b1 w (.cells #[.bool false,.string ⟨#[]⟩,.bool false,.string ⟨#[]⟩] 39)) h;obtain ⟨_,_,k3⟩:=h;obtain ⟨_,h2,h3⟩:=h';unfold fS2;rw [Array.getElem?_setIfInBounds_self_of_lt hs,Array.getElem?_setIfInBounds_ne (show 20≠21 by decide),Array.getElem?_setIfInBounds_ne (show 20≠65 by decide),Array.getElem?_setIfInBounds_ne (show 20≠57 by decide),Array.getElem?_setIfInBounds_ne (show 20≠68 by decide)];refine ⟨fun _=>⟨w.heap.size,rfl,hB,Blk.new _ _ _⟩,h2,fun k=>?_⟩;obtain ⟨ta,tc,a,b,c,d,e,f,g,i⟩:=h3 k;obtain ⟨ta',tc',a',_,_,d',_⟩:=k3 k;have e9:=a.symm.trans a';refine ⟨ta,tc,a,b,c,d,e,fun _ g9 hg=>?_,g,i⟩;have e1:=ptr_inj hg;subst e1;simp only [Option.some.injEq,Value.tuple.injEq,Array.mk.injEq,List.cons.injEq,and_true,true_and,Value.agg.injEq,Value.slice.injEq] at e9;obtain ⟨rfl,rfl⟩:=e9;exact ss_far d' (Nat.le_refl _)
theorem fS2_new2 {B:Nat} {cs s1 s2 sd:ByteArray} {pos:Int} {ke tm:Nat} {vals:List ByteArray} {d7 d8 d11 d13 d16:Bool} {t:Array Value} {w:World} (hs:21<t.size) (hB:B≤w.heap.size) (h:fS2 B cs s1 s2 sd pos ke tm vals d7 d8 d11 d13 false d16 false t w) :
  fS2 B cs s1 s2 sd pos ke tm vals d7 d8 d11 d13 true d16 false (t.setIfInBounds 21 (.pointer (some ⟨w.heap.size,0,none⟩))) (w.alloc (.cells #[.slice none 0 0,.string ⟨#[]⟩,.int .i64 0] 42)):=by
 have h':=fS2_st (b1 w (.cells #[.slice none 0 0,.string ⟨#[]⟩,.int .i64 0] 42)) h;obtain ⟨_,_,k3⟩:=h;obtain ⟨h1,_,h3⟩:=h';unfold fS2;rw [Array.getElem?_setIfInBounds_self_of_lt hs,Array.getElem?_setIfInBounds_ne (show 21≠20 by decide),Array.getElem?_setIfInBounds_ne (show 21≠65 by decide),Array.getElem?_setIfInBounds_ne (show 21≠57 by decide),Array.getElem?_setIfInBounds_ne (show 21≠68 by decide)];refine ⟨h1,fun _=>⟨w.heap.size,rfl,hB,fun _=>Blk.new _ _ _⟩,fun k=>?_⟩;obtain ⟨ta,tc,a,b,c,d,e,f,g,i⟩:=h3 k;obtain ⟨ta',tc',a',_,_,d',_⟩:=k3 k;have e9:=a.symm.trans a';refine ⟨ta,tc,a,b,c,d,e,f,fun _ g9 hg=>?_,fun k=>(by cases k)⟩;have e1:=ptr_inj hg;subst e1;simp only [Option.some.injEq,Value.tuple.injEq,Array.mk.injEq,List.cons.injEq,and_true,true_and,Value.agg.injEq,Value.slice.injEq] at e9;obtain ⟨rfl,rfl⟩:=e9;exact ss_far d' (Nat.le_refl _)
theorem fS2_set1 {B:Nat} {cs s1 s2 sd:ByteArray} {pos:Int} {ke tm:Nat} {vals:List ByteArray} {d7 d8 d11 d14 d17:Bool} {t:Array Value} {w:World} {g:Nat} (hg:t[20]?=some (.pointer (some ⟨g,0,none⟩))) (h:fS2 B cs s1 s2 sd pos ke tm vals d7 d8 d11 true d14 false d17 t w) :
  fS2 B cs s1 s2 sd pos ke tm vals d7 d8 d11 true d14 true d17 t ((((w.setCell ⟨g,0,none⟩ (.bool false)).setCell ⟨g,1,none⟩ (.string s1)).setCell ⟨g,2,none⟩ (.bool false)).setCell ⟨g,3,none⟩ (.string s2)):=by
 obtain ⟨h1,h2,h3⟩:=h;obtain ⟨g0,a0,b0,c0⟩:=h1 rfl;have e0:=ptr_inj (hg.symm.trans a0);subst e0;have c0:Blk w g 39 [.bool false,.string ⟨#[]⟩,.bool false,.string ⟨#[]⟩]:=c0;refine ⟨fun _=>⟨g,hg,b0,(((c0.set 0 _).set 1 _).set 2 _).set 3 _⟩,fun k=>?_,fun k=>?_⟩
 ·obtain ⟨g',a,b,c⟩:=h2 k;exact ⟨g',a,b,fun e=>blk_o4 (c e) (blk_neT' (c e) c0 (by decide)) _ _ _ _⟩
 ·obtain ⟨ta,tc,a,b,c,d,e,f,g',i⟩:=h3 k;have hf:=f rfl g hg;refine ⟨ta,tc,a,b,c,(((d.set_far hf).set_far hf).set_far hf).set_far hf,e,f,g',fun k x hx=>blk_o4 (i k x hx) (blk_neT' (i k x hx) c0 (by decide)) _ _ _ _⟩
theorem fS2_set2 {B:Nat} {cs s1 s2 sd:ByteArray} {pos:Int} {ke tm:Nat} {vals:List ByteArray} {d13 d16:Bool} {t:Array Value} {w:World} {g n c0:Nat} {a0:Option Addr} {x0:ByteArray} {z0:Int} (hg:t[21]?=some (.pointer (some ⟨g,0,none⟩))) (hv:t[68]?=some (.agg #[.slice a0 n c0,.string x0,.int .i64 z0])) (h:fS2 B cs s1 s2 sd pos ke tm vals true true true d13 true d16 false t w) :
  fS2 B cs s1 s2 sd pos ke tm vals true true true d13 true d16 true t (((w.setCell ⟨g,0,none⟩ (.slice a0 n c0)).setCell ⟨g,1,none⟩ (.string x0)).setCell ⟨g,2,none⟩ (.int .i64 z0)):=by
 obtain ⟨h1,h2,h3⟩:=h;obtain ⟨g0,a1,b1',c1⟩:=h2 rfl;have e0:=ptr_inj (hg.symm.trans a1);subst e0;have hT:=c1 rfl;obtain ⟨ta,tc,a,b,c,d,e,f,g',i⟩:=h3 rfl;have e9:=hv.symm.trans (c rfl);simp only [Option.some.injEq,Value.agg.injEq,Array.mk.injEq,List.cons.injEq,and_true,true_and,Value.slice.injEq,Value.string.injEq,Value.int.injEq] at e9;obtain ⟨⟨rfl,rfl,rfl⟩,rfl,rfl⟩:=e9;have hf:=g' rfl g hg;refine ⟨fun k=>?_,fun _=>⟨g,hg,b1',fun k=>(by cases k)⟩,fun _=>⟨_,_,a,b,c,((d.set_far hf).set_far hf).set_far hf,e,f,g',fun _ x hx=>?_⟩⟩
 ·obtain ⟨y,ay,bY,cy⟩:=h1 k;exact ⟨y,ay,bY,blk_o3 cy (blk_neT' cy hT (by decide)) _ _ _⟩
 ·have ex:=ptr_inj (hx.symm.trans hg);subst ex;exact ((hT.set 0 _).set 1 _).set 2 _
def vS3 (B k:Nat) (u16 u17 vT:Value) (cm xd xe:Nat) (LP:List Nat) (LO:List (Nat × Nat)):RVB:=fun st i u w=>match i with
 | 0=>u=u16
 | 1=>u=.string (E cm)
 | 2=>∃b,u=.slice (some ⟨b,0,none⟩) 1 1∧(∀y z,st=[false,y,z]→Blk w b 31 [.string (E cm)])
 | 3=>w.ownsRow B 31 1 u (k+1) (strs (LP++[cm]))
 | 4=>u=u17
 | 5=>u=.agg #[.bool false,.string (E xd),.bool false,.string (E xe)]
 | 6=>∃b,u=.slice (some ⟨b,0,none⟩) 1 1∧u17.ownBlock≠some b∧(∀x z,st=[x,false,z]→Blk w b 39 [.bool false,.string (E xd),.bool false,.string (E xe)])
 | 7=>w.ownsRow B 39 4 u (k+1) (((LO++[(xd,xe)]).map nop).flatMap opc)
 | 8=>u=vT
 | 9=>w.ownsRow B 31 1 u (k+1) (strs (LP++[cm]))
 | 10=>w.ownsRow B 39 4 u (k+1) (((LO++[(xd,xe)]).map nop).flatMap opc)
 | _=>True
theorem vS3_st (B k:Nat) (u16 u17 vT:Value) (cm xd xe:Nat) (LP:List Nat) (LO:List (Nat × Nat)):∀(l:List Bool) (j:Nat) (u:Value) (w w':World),Below w.heap.size w w'→vS3 B k u16 u17 vT cm xd xe LP LO l j u w→vS3 B k u16 u17 vT cm xd xe LP LO l j u w':=by
 intro l j u w w' hb h;unfold vS3 at h ⊢;split at h
 all_goals first
  | (with_reducible exact h)
  | exact own_after h hb
  | (obtain ⟨b,h1,h2⟩:=h;exact ⟨b,h1,fun y z e=>(h2 y z e).after hb⟩)
  | (obtain ⟨b,h1,h2,h3⟩:=h;exact ⟨b,h1,h2,fun y z e=>(h3 y z e).after hb⟩)
theorem vS3_a {B k:Nat} {u16 u17 vT:Value} {cm xd xe:Nat} {LP:List Nat} {LO:List (Nat × Nat)} {w w':World} {y:Bool} (hO:w.ownsRow B 31 1 u16 k (strs LP)) (hg:w.grownBy w' u16.ownBlock):∀(j:Nat) (u:Value),j≠3→j≠9→vS3 B k u16 u17 vT cm xd xe LP LO [false,y,false] j u w→vS3 B k u16 u17 vT cm xd xe LP LO [true,y,false] j u w':=by
 intro j u h3 h9 h;unfold vS3 at h ⊢;split at h
 all_goals first
  | (with_reducible exact h)
  | exact absurd rfl h3
  | exact absurd rfl h9
  | exact own_grown h hO (by decide) hg
  | (obtain ⟨b,h1,h2⟩:=h;exact ⟨b,h1,fun y z e=>(by cases e)⟩)
  | (obtain ⟨b,h1,h2,h3⟩:=h;refine ⟨b,h1,h2,fun x z e=>?_⟩;injection e with _ e;injection e with e _;have h4:=h3 false false (by rw [e]);exact Blk.grown h4 hg (own_ne hO h4 (by decide)))
theorem vS3_b {B k:Nat} {u16 u17 vT:Value} {cm xd xe:Nat} {LP:List Nat} {LO:List (Nat × Nat)} {w w':World} {x:Bool} (hP:w.ownsRow B 39 4 u17 k ((LO.map nop).flatMap opc)) (hg:w.grownBy w' u17.ownBlock):∀(j:Nat) (u:Value),j≠7→j≠10→vS3 B k u16 u17 vT cm xd xe LP LO [x,false,false] j u w→vS3 B k u16 u17 vT cm xd xe LP LO [x,true,false] j u w':=by
 intro j u h3 h9 h;unfold vS3 at h ⊢;split at h
 all_goals first
  | (with_reducible exact h)
  | exact absurd rfl h3
  | exact absurd rfl h9
  | exact own_grown h hP (by decide) hg
  | (obtain ⟨b,h1,h2⟩:=h;refine ⟨b,h1,fun y z e=>?_⟩;injection e with e _;have h4:=h2 false false (by rw [e]);exact Blk.grown h4 hg (own_ne hP h4 (by decide)))
  | (obtain ⟨b,h1,h2,h3⟩:=h;exact ⟨b,h1,h2,fun x z e=>(by injection e with _ e;injection e with e _;cases e)⟩)
theorem vS3_c {B k g:Nat} {u16 u17 vT:Value} {cm xd xe:Nat} {LP:List Nat} {LO:List (Nat × Nat)} {w:World} {cs:List Value} (hT:Blk w g 42 cs) (a b c:Value):∀(j:Nat) (u:Value),vS3 B k u16 u17 vT cm xd xe LP LO [true,true,false] j u w→vS3 B k u16 u17 vT cm xd xe LP LO [true,true,true] j u (((w.setCell ⟨g,0,none⟩ a).setCell ⟨g,1,none⟩ b).setCell ⟨g,2,none⟩ c):=by
 intro j u h;unfold vS3 at h ⊢;split at h
 all_goals first
  | (with_reducible exact h)
  | exact own_set (own_set (own_set h (own_ne h hT (by decide))) (own_ne h hT (by decide))) (own_ne h hT (by decide))
  | (obtain ⟨b,h1,h2⟩:=h;exact ⟨b,h1,fun y z e=>(by cases e)⟩)
  | (obtain ⟨b,h1,h2,h3⟩:=h;exact ⟨b,h1,h2,fun x z e=>(by injection e with _ e;injection e with e _;cases e)⟩)
def fS3 (B k gT gQ gK g20 g21:Nat) (u16 u17:Value) (LP:List Nat) (LO:List (Nat × Nat)) (old new kl zl ol tl:List Value) (sl:Value) (vals:List ByteArray) (st:List Bool) (w:World):Prop:=
 (∀y z,st=[false,y,z]→w.ownsRow B 31 1 u16 k (strs LP))∧(∀x z,st=[x,false,z]→w.ownsRow B 39 4 u17 k ((LO.map nop).flatMap opc)) ∧
 Blk w g20 39 ol∧Blk w g21 42 tl∧Blk w gQ 42 zl∧(∀x y,st=[x,y,false]→Blk w gT 42 old)∧(∀x y,st=[x,y,true]→Blk w gT 42 new)∧Blk w gK 35 kl∧SsAt w sl vals
end
end Go.Proofs.YtdoacbdkbbpamaaGreatDoor
