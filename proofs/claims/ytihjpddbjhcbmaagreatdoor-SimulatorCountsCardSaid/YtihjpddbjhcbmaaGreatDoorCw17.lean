/- SimulatorCounts: the walk. -/
import Derived.Test.YtihjpddbjhcbmaaGreatDoorCt17
import Derived.Test.YtihjpddbjhcbmaaGreatDoorArg7
import Derived.Test.YtihjpddbjhcbmaaGreatDoorAw7
set_option linter.unusedVariables false
set_option linter.unusedSimpArgs false
set_option maxRecDepth 100000
set_option maxHeartbeats 16000000
namespace Go.Proofs.YtihjpddbjhcbmaaGreatDoor
section
open Go.RowKit Go.Shelf
theorem blk_set3c {w:World} {g:Nat} {T:TypeId} {a b c x y z:Value} (h:Blk w g T [a,b,c]):Blk (((w.setCell ⟨g,0,none⟩ x).setCell ⟨g,1,none⟩ y).setCell ⟨g,2,none⟩ z) g T [x,y,z]:=((h.set 0 x).set 1 y).set 2 z
theorem blk_other3c {w:World} {g k:Nat} {T:TypeId} {cs:List Value} {x y z:Value} (hb:k≠g) (h:Blk w k T cs):Blk (((w.setCell ⟨g,0,none⟩ x).setCell ⟨g,1,none⟩ y).setCell ⟨g,2,none⟩ z) k T cs:=((h.other _ _ hb).other _ _ hb).other _ _ hb
theorem zs_set3c {w:World} {g:Nat} {v:Value} {V:List Int} {x y z:Value} (hf:FarS v g) (h:ZsAt w v V):ZsAt (((w.setCell ⟨g,0,none⟩ x).setCell ⟨g,1,none⟩ y).setCell ⟨g,2,none⟩ z) v V:=IsAt.set_far (IsAt.set_far (IsAt.set_far h hf) hf) hf
theorem below_set3c {B:Nat} {w0 w:World} {g:Nat} {x y z:Value} (hg:B≤g) (h:Below B w0 w):Below B w0 (((w.setCell ⟨g,0,none⟩ x).setCell ⟨g,1,none⟩ y).setCell ⟨g,2,none⟩ z):=((h.setCell (p:=⟨g,0,none⟩) hg x).setCell (p:=⟨g,1,none⟩) hg y).setCell (p:=⟨g,2,none⟩) hg z
theorem zs_farc {w:World} {v:Value} {V:List Int} {g:Nat} (h:ZsAt w v V) (hg:w.heap.size≤g):FarS v g:=fun b9 o9 n9 c9 e9 h9=>by
 obtain⟨ao',c',hb,hc⟩:=h;rcases hc with hc | ⟨b8,o8,e8,hd,_⟩
 ·have h:=hb.symm.trans e9;injection h with h h2 h3
  omega
 ·have h:=hb.symm.trans e9;injection h with h
  rw[e8]at h;injection h with h
  injection h with h
  omega
theorem s1rowc {w:World} {b:Nat} {s:ByteArray} (h:Blk w b 22 [.string s]):SsAt w (.slice (some ⟨b,0,none⟩) 1 1) [s]:=ss_blk (V:=[s]) 1 h
theorem blkRc {w:World} {b:Nat} {T:TypeId} {X:Array Value} {cs:List Value} (hb:w.heap.size=b) (hc:X.toList=cs):Blk (w.alloc (.cells X T)) b T cs:=by
 subst hb hc;exact Blk.new w X T
theorem index_no (L:List Int) (x:Int) (v:Value) (w:World) (hn:L.length≤1000) (hA:ZsAt w v L) (hx:x ∉ L) :
  Calls Tryz.prog 123 #[v,.agg #[.bool (sg (x)),.string (E (x).natAbs)]] w fun e w'=>e=.returned (.int .i64 (-1))∧Bw w w':=by
 obtain⟨ao,c,rfl⟩:=hA.form;obtain⟨n,hd⟩:∃n,L.length=n:=⟨_,rfl⟩;have hj:=Kh hd
 have HX:Hid (∀z,z∈L→¬ (sg x=sg z∧E x.natAbs=E z.natAbs)):=fun z hz h=>by
  have h2:x.natAbs=z.natAbs:=by have h3:=congrArg numb h.2;rwa [numb_E,numb_E]at h3
  have h1:=h.1;unfold sg at h1;have h4:(x<0)=(z<0):=by simpa using h1
  have h5:x=z:=by
   by_cases hx0:x<0
   ·have:z<0:=by rw[←h4];exact hx0
    omega
   ·have:¬ z<0:=by rw[←h4];exact hx0
    omega
  exact hx (h5 ▸ hz)
 rw[hd]at hA hn ⊢;clear hd hx;generalize sg x=sx at HX ⊢;generalize E x.natAbs=ex at HX ⊢;obtain⟨hT,he⟩:=blk1 w #[.bool sx,.string ex] 74;replace hA:=ZsAt.after hA he;go_enter Tryz.func123,Tryz.ntmps123
 go_wp2;generalize w.alloc (.cells #[.bool sx,.string ex] 74)=w1 at hT hA he ⊢;obtain⟨g,hg⟩:∃g,w.heap.size=g:=⟨_,rfl⟩;rw[hg]at hT ⊢;clear hg;replace hT:Blk w1 g 74 [.bool sx,.string ex]:=hT;go_loopw [8] (fun i wr=>∃k:Nat,k≤n∧i=.int .i64 k∧Bw w1 wr) (fun i _=>n-(intOf i).toNat)
 case atStart=>exact⟨0,by omega,rfl,Br⟩
 case round =>
  obtain⟨k,hk,rfl,hb⟩:=hrel;obtain⟨wp,hl⟩:∃wp,wp=wr:=⟨_,rfl⟩;subst hl;replace hA:=ZsAt.after hA hb;replace hT:=hT.after hb;by_cases hlt:k<n
  ·have hf:k<L.length:=by rw[hj.out];exact hlt
   obtain⟨b,o,rfl,l1,x1,x2⟩:=hA.at_ hf;have HZ:=Kh (HX.out _ (Gm hf));generalize L[k]'hf=z at x1 x2 HZ;generalize sg z=sz at x1 HZ;generalize E z.natAbs=ez at x2 HZ;have hm:(0:Int)≤(k:Int):=by omega
   have ho:(k:Int)<(n:Int):=by omega
   have g1:=gcl (a:=⟨b,o+k*2,none⟩) l1 x1;have g2:=gcl (a:=⟨b,o+k*2+1,none⟩) l1 x2;clear x1 x2 hA;by_cases h1:sx=sz
   ·have h2:¬ ex=ez:=fun h=>HZ.out ⟨h1,h⟩
    have h3:¬ ex.toList=ez.toList:=fun h=>h2 (ByteArray.ext (Array.ext' (by rwa [ByteArray.toList_eq,ByteArray.toList_eq]at h)))
    have e2:(ex.toList==ez.toList)=false:=by rw[beq_eq_false_iff_ne];exact h3
    subst h1;clear HZ;have hh:=hT.gcell 0;have hi:=hT.gcell 1;go_wp2_with fail
    refine wp_region_gw (by kernel_rfl) (by kernel_rfl) ?_;repeat (go_big_quiet_step (first | (fail)))
    refine wpQuiet_nil ?_;rintro w2 ⟨xw2,rfl⟩;have hc:=gw_below xw2;generalize gw xw2=w2 at hc;go_wp2;go_roundw
    case rel=>exact⟨k+1,by omega,by go_num,bt hb hc⟩
    case measure=>simp[intOf];omega
   ·have e1:(sx==sz)=false:=by rw[beq_eq_false_iff_ne];exact h1
    clear HZ;have hh:=hT.gcell 0;have hi:=hT.gcell 1;go_wp2_with fail
    refine wp_region_gw (by kernel_rfl) (by kernel_rfl) ?_;repeat (go_big_quiet_step (first | (fail)))
    refine wpQuiet_nil ?_;rintro w2 ⟨xw2,rfl⟩;have hc:=gw_below xw2;generalize gw xw2=w2 at hc;go_wp2;go_roundw
    case rel=>exact⟨k+1,by omega,by go_num,bt hb hc⟩
    case measure=>simp[intOf];omega
  ·obtain rfl:k=n:=by omega
   go_wp2;go_ret
   exact⟨rfl,bt he hb⟩
theorem contains_no (L:List Int) (x:Int) (v:Value) (w:World) (hn:L.length≤1000) (hA:ZsAt w v L) (hx:x ∉ L) :
  Calls Tryz.prog 37 #[v,.agg #[.bool (sg (x)),.string (E (x).natAbs)]] w fun e w'=>e=.returned (.bool false)∧Bw w w':=by
 obtain⟨ao,c,rfl⟩:=hA.form;obtain⟨hT,hb⟩:=blk1 w #[.bool (sg x),.string (E x.natAbs)] 74;have HI:=Kh (index_no L x _ _ hn (ZsAt.after hA hb) hx);clear hA hx hn;generalize sg x=sx at hT hb HI ⊢;generalize E x.natAbs=ex at hT hb HI ⊢;obtain⟨hc,hd,he,hf⟩:=hT.x2;go_enter Tryz.func37,Tryz.ntmps37
 go_wp2_with fail
 refine (HI.out).mono ?_;rintro e w2 ⟨rfl,hg⟩;go_wp2;go_ret
 exact⟨rfl,bt hb hg⟩
def CtG (w:World) (ch:ByteArray) (ru st vw:Value) (s2:Option Addr) (LM LR:List Nat):Prop:=∃(M R b mm nn:Nat) (f:Nat→Option Int),LM=[M]∧LR=[R]∧M≤120 ∧
 (∀w',Bw w w'→∃bv ov,s2=some ⟨bv,ov,none⟩∧bv<w'.heap.size∧w'.cell? ⟨bv,ov,none⟩=some (.string (E b))) ∧
 1≤M∧1≤R∧R≤M∧mm=(if b=0 then M else 2*M-1)∧nn=(if b=0 then R else 2*R-1) ∧
  (∀i x,i<mm→f i=some x→x ∉ (List.range i).filterMap f)∧((List.range mm).filterMap f).length=nn ∧
  ∀i,i<mm→∃(er:Nat) (Y:List Int),(∀x,f i=some x→er=0∧Y=[x])∧(f i=none→er=14) ∧
   ∀(xo:Option Addr) (xc:Nat) w',Bw w w'→SsAt w' (.slice xo 1 xc) [E i] →
    Calls Tryz.prog 18 #[ru,st,vw,.string ch,.agg #[.slice xo 1 xc,.string { data:=#[] },.int .i64 0]] w' (PLite w' er Y)
theorem fm_some {f:Nat→Option Int} {i:Nat} {x:Int} (h:f i=some x):(List.range (i+1)).filterMap f=(List.range i).filterMap f++[x]:=by
 rw[List.range_succ,List.filterMap_append];simp[h]
theorem fm_none {f:Nat→Option Int} {i:Nat} (h:f i=none):(List.range (i+1)).filterMap f=(List.range i).filterMap f:=by
 rw[List.range_succ,List.filterMap_append];simp[h]
theorem fm_le (f:Nat→Option Int) (n:Nat):((List.range n).filterMap f).length≤n:=by
 have:=List.length_filterMap_le f (List.range n);rwa [List.length_range]at this
theorem ct_walk (C K ch sd:ByteArray) (ti:Int) (s1 s2 s3 xw xl xt:Option Addr) (m1 m2 m3 d1 d2 d3 nw pw nl pl nt pt:Nat) (w:World) (bf:Bool)
  (HF:∀w',Bw w w'→Calls Tryz.prog 22 #[.agg #[.string C,.string K,.slice s1 m1 d1,.slice s2 m2 d2,.slice s3 m3 d3,.slice xw nw pw,.string ch,.slice xl nl pl,.slice xt nt pt,.string sd,.int .i64 ti]] w' fun e w''=>e=.returned (.bool bf)∧Bw w' w'')
  (HV:bf=true→m2=1→∃(k m:Nat) (bh:Bool) (LM LR:List Nat),(∀w',Bw w w'→Calls Tryz.prog 33 #[.agg #[.string C,.string K],.agg #[.slice s1 m1 d1,.slice s2 m2 d2,.slice s3 m3 d3]] w' (BB w' k LM LR)) ∧
   (∀w',Bw w w'→Calls Tryz.prog 30 #[.agg #[.slice s1 m1 d1,.slice s2 m2 d2,.slice s3 m3 d3],.slice xw nw pw] w' fun e w''=>e=.returned (.tuple #[.bool bh,.int .i64 (m:Nat)])∧Bw w' w'') ∧
   (k=0→m=0→bh=true→CtN w C ch (.agg #[.string C,.string K]) (.agg #[.slice s1 m1 d1,.slice s2 m2 d2,.slice s3 m3 d3]) (.slice xw nw pw) s2 LM LR)) :
  Calls Tryz.prog 7 #[.agg #[.string C,.string K,.slice s1 m1 d1,.slice s2 m2 d2,.slice s3 m3 d3,.slice xw nw pw,.string ch,.slice xl nl pl,.slice xt nt pt,.string sd,.int .i64 ti]] w fun e w'=>e=.returned (.bool true)∧Bw w w':=by
 have Hz:=Kh HF;have HL:=Kh HV;obtain⟨hQ,hJ⟩:=blk1 w #[.string C,.string K,.slice s1 m1 d1,.slice s2 m2 d2,.slice s3 m3 d3,.slice xw nw pw,.string ch,.slice xl nl pl,.slice xt nt pt,.string sd,.int .i64 ti] 50;clear HF HV;cases bf
 ·as_aux_lemma =>
  obtain⟨hh,hj,hm,ho,hp,hr,hu,hv,hw,hy,hz,hA,hB,hC,hD,hE,hF,hG,hH,hI,hc,he⟩:=hQ.x11;go_enter Tryz.func7,Tryz.ntmps7
  go_wp2_with fail
  refine (Hz.out _ hJ).mono ?_;rintro e w2 ⟨rfl,hb⟩;clear hh hj hm ho hp hr hu hv hw hy hz hA hB hC hD hE hF hG hH hI hc he;replace hJ:=bt hJ hb;clear hb;go_wp2_with fail
  refine (awake_c _).mono ?_;rintro e w9 ⟨rfl,hb9⟩;go_wp2;go_ret
  exact⟨rfl,bt hJ hb9⟩
 by_cases Hh:m2=1
 rotate_left
 ·have hd:((m2:Int) != 1)=true:=by rw[bne_iff_ne];omega
  clear HL Hh;as_aux_lemma =>
  obtain⟨hh,hj,hm,ho,hp,hr,hu,hv,hw,hy,hz,hA,hB,hC,hD,hE,hF,hG,hH,hI,hc,he⟩:=hQ.x11;go_enter Tryz.func7,Tryz.ntmps7
  go_wp2_with fail
  refine (Hz.out _ hJ).mono ?_;rintro e w2 ⟨rfl,hb⟩;clear hh hj hm ho hp hr hu hv hw hy hz hA hB hC hD hE hF hG hH hI hc he;replace hQ:=hQ.after hb;replace hJ:=bt hJ hb;clear hb;obtain⟨hh,hj,hm,ho,hp,hr,hu,hv,hw,hy,hz,hA,hB,hC,hD,hE,hF,hG,hH,hI,hc,he⟩:=hQ.x11;go_wp2_with fail
  refine (awake_c _).mono ?_;rintro e w9 ⟨rfl,hb9⟩;go_wp2;go_ret
  exact⟨rfl,bt hJ hb9⟩
 subst Hh;obtain⟨k,m,bh,LM,LR,H2,H3,H4⟩:=HL.out rfl rfl;have H5:=Kh H2;have H6:=Kh H3;have He:=Kh H4;clear H2 H3 HL H4;obtain⟨hh,hj,hm,ho,hp,hr,hu,hv,hw,hy,hz,hA,hB,hC,hD,hE,hF,hG,hH,hI,hc,he⟩:=hQ.x11;go_enter Tryz.func7,Tryz.ntmps7
 go_wp2_with fail
 refine (Hz.out _ hJ).mono ?_;rintro e w2 ⟨rfl,hb⟩;clear hh hj hm ho hp hr hu hv hw hy hz hA hB hC hD hE hF hG hH hI hc he;replace hQ:=hQ.after hb;replace hJ:=bt hJ hb;clear hb Hz;have ju:((((1:Nat):Int)) != 1)=false:=rfl;obtain⟨hh,hj,hm,ho,hp,hr,hu,hv,hw,hy,hz,hA,hB,hC,hD,hE,hF,hG,hH,hI,hc,he⟩:=hQ.x11;go_wp2_with fail
 refine (H5.out _ hJ).mono ?_;rintro e w4 ⟨mv,uv,rfl,H7,H8,hb⟩;clear hh hj hm ho hp hr hu hv hw hy hz hA hB hC hD hE hF hG hH hI hc he;have hM:=H7.ss;have hR:=H8.ss;clear H7 H8;obtain⟨ma,mc,rfl⟩:=RAt.form hM;obtain⟨ra,rc,rfl⟩:=RAt.form hR;simp only[List.length_map]at hM hR ⊢;replace hQ:=hQ.after hb;replace hJ:=bt hJ hb;clear hb H5 ju;obtain⟨hh,hj,hm,ho,hp,hr,hu,hv,hw,hy,hz,hA,hB,hC,hD,hE,hF,hG,hH,hI,hc,he⟩:=hQ.x11;go_wp2_with fail
 refine (H6.out _ hJ).mono ?_;rintro e w5 ⟨rfl,hb⟩;clear hh hj hm ho hp hr hu hv hw hy hz hA hB hC hD hE hF hG hH hI hc he;replace hQ:=hQ.after hb;replace hJ:=bt hJ hb;replace hM:=SsAt.after hM hb;replace hR:=SsAt.after hR hb;clear hb H6;go_upto_region 5 with fail
 go_cut [81] (fun s81 wx=>∃cnd:Bool,s81=.bool cnd∧Bw w5 wx∧Hid (cnd=false→CtG w ch (.agg #[.string C,.string K]) (.agg #[.slice s1 m1 d1,.slice s2 1 d2,.slice s3 m3 d3]) (.slice xw nw pw) s2 LM LR))
 case first =>
  as_aux_lemma =>
   have jS:=Kh hJ;clear hJ hR;by_cases hk:k=0
   rotate_left
   ·have jv:((k:Int) != 0)=true:=by rw[bne_iff_ne];omega
    clear hk He hQ hM;go_wp2_with fail
    refine wp_region_gw (by kernel_rfl) (by kernel_rfl) ?_;repeat (go_big_quiet_step (first | (fail)))
    refine wpQuiet_nil ?_;rintro w6 ⟨xw6,rfl⟩;have hK:=gw_below xw6;generalize gw xw6=w6 at hK;go_wp2_with fail
    go_meet
    exact⟨true,rfl,hK,fun h=>by cases h⟩
   subst hk;by_cases hk:m=0
   rotate_left
   ·have jv:((m:Int) != 0)=true:=by rw[bne_iff_ne];omega
    clear hk He hQ hM;go_wp2_with fail
    refine wp_region_gw (by kernel_rfl) (by kernel_rfl) ?_;repeat (go_big_quiet_step (first | (fail)))
    refine wpQuiet_nil ?_;rintro w6 ⟨xw6,rfl⟩;have hK:=gw_below xw6;generalize gw xw6=w6 at hK;go_wp2_with fail
    go_meet
    exact⟨true,rfl,hK,fun h=>by cases h⟩
   subst hk;cases bh
   ·clear He hQ hM;go_wp2_with fail
    refine wp_region_gw (by kernel_rfl) (by kernel_rfl) ?_;repeat (go_big_quiet_step (first | (fail)))
    refine wpQuiet_nil ?_;rintro w6 ⟨xw6,rfl⟩;have hK:=gw_below xw6;generalize gw xw6=w6 at hK;go_wp2_with fail
    go_meet
    exact⟨true,rfl,hK,fun h=>by cases h⟩
   obtain⟨q,M,R,b,mm,nn,f,rfl,rfl,Hi,H9,hN,hV⟩:=He.out rfl rfl rfl;have HM:Hid (∀w,Calls Tryz.prog 34 #[.string ch,.string C] w fun e w'=>e=.returned (.int .i64 q)∧w=w'):=H9;have HA:=Kh hV;have jw:=Kh hN;clear He H9 hV hN;by_cases hq:0≤q
   ·have jx:decide (0≤q)=true:=Dt hq;clear HA hM hq;have Hj:=hQ.gcell 0;have Hk:=hQ.gcell 1;have Hl:=hQ.gcell 2;have Hm:=hQ.gcell 3;have Hn:=hQ.gcell 4;have Ho:=hQ.gcell 5;have Hp:=hQ.gcell 6;have Hq:=hQ.gcell 7;have Hr:=hQ.gcell 8;have Hs:=hQ.gcell 9;have hW:=hQ.gcell 10;go_wp2_with fail
    refine wp_region_gw (by kernel_rfl) (by kernel_rfl) ?_;repeat (go_big_quiet_step (first | (go_at_call 34;exact gw_same (HM.out _))))
    refine wpQuiet_nil ?_;rintro w6 ⟨xw6,rfl⟩;have hK:=gw_below xw6;generalize gw xw6=w6 at hK;go_wp2_with fail
    go_meet
    exact⟨true,rfl,hK,fun h=>by cases h⟩
   have jx:decide (0≤q)=false:=decide_eq_false hq;have ja:q<0:=by omega
   have jy:=Kh ja;clear hq ja;have h4:(120:Nat)<256^8:=by decide
   have Hf:Hid (∀w,Calls Tryz.prog 35 #[.int .u64 120] w fun e w'=>e=.returned (.string (E 120))∧Bw w w'):=fun w=>of_c 120 w h4
   have hX:M<256^128:=Nl Hi P8;obtain⟨t,ht⟩:∃t,t=cmpN M 120:=⟨_,rfl⟩
   have HB:Hid (∀w,Calls Tryz.prog 34 #[.string (E M),.string (E 120)] w fun e w'=>e=.returned (.int .i64 t)∧w=w'):=fun w=>by
    rw[ht];exact cmp_c M 120 w hX (Nl h4 P8)
   clear h4 hX Hi;obtain⟨bm,om,rfl,HO,x1⟩:=SsAt.at_ hM (k:=0) (by simp);replace x1:w5.cell? ⟨bm,om,none⟩=some (.string (E M)):=x1;have g1:=gcl (a:=⟨bm,om,none⟩) HO x1;generalize E 120=e120 at Hf HB;have jz:Hid (E M=E M):=rfl;generalize jb:E M=eM at HB g1;have jT:=Kh jb;clear hM x1 jb jz;by_cases HC:0<t
   ·have jA:decide (0<t)=true:=Dt HC;clear HA HC ht;have Hj:=hQ.gcell 0;have Hk:=hQ.gcell 1;have Hl:=hQ.gcell 2;have Hm:=hQ.gcell 3;have Hn:=hQ.gcell 4;have Ho:=hQ.gcell 5;have Hp:=hQ.gcell 6;have Hq:=hQ.gcell 7;have Hr:=hQ.gcell 8;have Hs:=hQ.gcell 9;have hW:=hQ.gcell 10;go_wp2_with fail
    refine wp_region_gw (by kernel_rfl) (by kernel_rfl) ?_;repeat (go_big_quiet_step (first | (go_at_call 34;with_reducible exact gw_same (HM.out _)) | (go_at_call 35;exact gw_of (Hf.out _)) | (go_at_call 34;with_reducible exact gw_same (HB.out _))))
    refine wpQuiet_nil ?_;rintro w6 ⟨xw6,rfl⟩;have hK:=gw_below xw6;generalize gw xw6=w6 at hK;go_wp2_with fail
    go_meet
    exact⟨true,rfl,hK,fun h=>by cases h⟩
   ·have jA:decide (0<t)=false:=decide_eq_false HC
    have hT:M≤120:=by
     apply Classical.byContradiction
     intro hn;have h2:0<cmpN M 120:=by unfold cmpN;rw[if_neg (by omega),if_pos (by omega)];decide
     omega
    have HG:Hid (CtG w ch (.agg #[.string C,.string K]) (.agg #[.slice s1 m1 d1,.slice s2 1 d2,.slice s3 m3 d3]) (.slice xw nw pw) s2 [M] [R]):=by
     obtain⟨g1,g2,g3,g4,g5,g6,g7,g8⟩:=HA.out jy.out hT;exact⟨M,R,b,mm,nn,f,rfl,rfl,hT,jw.out,g1,g2,g3,g4,g5,g6,g7,g8⟩
    clear HA HC hT ht;have Hj:=hQ.gcell 0;have Hk:=hQ.gcell 1;have Hl:=hQ.gcell 2;have Hm:=hQ.gcell 3;have Hn:=hQ.gcell 4;have Ho:=hQ.gcell 5;have Hp:=hQ.gcell 6;have Hq:=hQ.gcell 7;have Hr:=hQ.gcell 8;have Hs:=hQ.gcell 9;have hW:=hQ.gcell 10;go_wp2_with fail
    refine wp_region_gw (by kernel_rfl) (by kernel_rfl) ?_;repeat (go_big_quiet_step (first | (go_at_call 34;with_reducible exact gw_same (HM.out _)) | (go_at_call 35;exact gw_of (Hf.out _)) | (go_at_call 34;with_reducible exact gw_same (HB.out _))))
    refine wpQuiet_nil ?_;rintro w6 ⟨xw6,rfl⟩;have hK:=gw_below xw6;generalize gw xw6=w6 at hK;go_wp2_with fail
    go_meet
    exact⟨false,rfl,hK,fun _=>HG.out⟩
 case rest =>
 obtain⟨cnd,rfl,hb,HG⟩:=hcut;obtain⟨w6,jB⟩:∃wx,wx=wc:=⟨_,rfl⟩;subst jB;replace hQ:=hQ.after hb;replace hJ:=bt hJ hb;replace hM:=SsAt.after hM hb;replace hR:=SsAt.after hR hb;clear hb He;cases cnd
 rotate_left
 ·clear hQ hM hR HG;go_wp2_with fail
  refine (awake_c _).mono ?_;rintro e w9 ⟨rfl,hb9⟩;go_wp2;go_ret
  exact⟨rfl,bt hJ hb9⟩
 obtain⟨M,R,b,mm,nn,f,rfl,rfl,hT,hN,jU,jV,jW,jc,jd,je,jf,hpr⟩:=HG.out rfl;clear HG;have HP:=Kh je;have HQ:=Kh jf;have HR:=Kh hpr;have HD:=Kh jc;have HT:=Kh jd;have jg:M<256^8:=Nl (show M<256 by omega) (by decide);have jh:R<256^8:=Nl (show R<256 by omega) (by decide);have ji:Hid (∀w,Calls Tryz.prog 36 #[.string (E M)] w fun e w'=>e=.returned (.tuple #[.int .u64 M,.bool true])∧w=w'):=fun w=>small_c M w jg
 have jj:Hid (∀w,Calls Tryz.prog 36 #[.string (E R)] w fun e w'=>e=.returned (.tuple #[.int .u64 R,.bool true])∧w=w'):=fun w=>small_c R w jh
 clear je jf hpr jc jd jg jh;obtain⟨bm,om,rfl,HO,xm⟩:=SsAt.at_ hM (k:=0) (by simp);obtain⟨br,orr,rfl,hU,xr⟩:=SsAt.at_ hR (k:=0) (by simp);obtain⟨bv,ov,rfl,jC,xb⟩:=hN _ hJ;replace xm:w6.cell? ⟨bm,om,none⟩=some (.string (E M)):=xm;replace xr:w6.cell? ⟨br,orr,none⟩=some (.string (E R)):=xr;clear hN hM hR;have jk:=hQ.lt;obtain⟨hh,hj,hm,ho,hp,hr,hu,hv,hw,hy,hz,hA,hB,hC,hD,hE,hF,hG,hH,hI,hc,he⟩:=hQ.x11;go_wp2_with fail
 refine (ji.out _).mono ?_;rintro e w' ⟨rfl,rfl⟩;go_wp2_with fail
 refine (jj.out _).mono ?_;rintro e w' ⟨rfl,rfl⟩;clear ji jj xm xr HO hU;-- the numbers m and n
 have c1:IntKind.u64.wrap (2*(M:Int))=2*(M:Int):=by rw[IntKind.wrap_u64];omega
 have c2:IntKind.u64.wrap (2*(R:Int))=2*(R:Int):=by rw[IntKind.wrap_u64];omega
 have c3:IntKind.u64.wrap (2*(M:Int)-1)=((2*M-1:Nat):Int):=by rw[IntKind.wrap_u64];omega
 have c4:IntKind.u64.wrap (2*(R:Int)-1)=((2*R-1:Nat):Int):=by rw[IntKind.wrap_u64];omega
 obtain⟨gC,HU⟩:∃g,g=w.heap.size:=⟨_,rfl⟩;rw[←HU]at hQ jk hh hm hp hu hw hz hB hD hF hH hc hj ho hr hv hy hA hC hE hG hI he ⊢;have jX:=Kh HU;clear HU;have jD:mm≤239:=by rw[HD.out];split <;> omega
 go_upto_if 103 with fail
 generalize jl:(!(E b).toList.isEmpty)=nb;have HE:=Kh jl;clear jl;go_cut [8,10] (fun s8 s10 wx=>s8=.int .u64 (mm:Int)∧s10=.int .u64 (nn:Int)∧wx=w6)
 case first =>
  cases nb
  ·have h5:b=0:=by
    apply Classical.byContradiction
    intro h;have h9:=HE.out;rw[nzE (Nat.pos_of_ne_zero h)]at h9;cases h9
   have e1:mm=M:=by rw[HD.out,if_pos h5]
   have e2:nn=R:=by rw[HT.out,if_pos h5]
   clear h5 HE;go_wp2_with fail
   go_meet
   exact⟨by rw[e1],by rw[e2],rfl⟩
  ·have h5:b≠0:=fun h=>by
    have h9:=HE.out;rw[zE h]at h9;cases h9
   have e1:mm=2*M-1:=by rw[HD.out,if_neg h5]
   have e2:nn=2*R-1:=by rw[HT.out,if_neg h5]
   clear h5 HE;go_wp2_with fail
   go_meet
   exact⟨by rw[e1],by rw[e2],rfl⟩
 case rest =>
 obtain⟨rfl,rfl,rfl⟩:=hcut;obtain⟨w7,jE⟩:∃wx,wx=wc:=⟨_,rfl⟩;subst jE;clear hh hj hm ho hp hr hu hv hw hy hz hA hB hC hD hE hF hG hH hI hc he;clear c1 c2 c3 c4 HD HT jC xb jk;have h6:=Kh hJ;obtain⟨i1,jm,Ht,Hu,Hv⟩:=info_parts info_Int;have jF:=Kh jm;have jG:=Kh Ht;have jH:=Kh Hu;have jI:=Kh Hv;clear jm Ht Hu Hv;go_upto_region 13 with fail
 go_loopw [12,13] (fun v12 v13 wr=>∃i:Nat,i≤mm∧v13=.int .u64 i∧ZOwn wr w7.heap.size v12 ((List.range i).filterMap f)∧Bw w7 wr) (fun _ v13 _=>mm-(intOf v13).toNat)
 case atStart=>exact⟨0,by omega,rfl,World.ownsRow_nil _ _ _ _,Br⟩
 case round =>
  obtain⟨i,hi,rfl,hO,Hw⟩:=hrel;obtain⟨wb,jJ⟩:∃wb,wb=wr:=⟨_,rfl⟩;subst jJ;by_cases hlt:i<mm
  ·obtain⟨er,Y,hs,hZ,Hx⟩:=HR.out i hlt;have jn:=Kh Hx;have HS:=Kh hs;have HN:=Kh hZ;have jo:Hid (Bw w wb):=bt h6.out Hw;have jY:(i:Int)<(mm:Int):=by omega
   have jK:(i:Int)<300:=by omega
   have jp:i<256^8:=Nl (show i<256 by omega) (by decide);have Hf:Hid (∀w,Calls Tryz.prog 35 #[.int .u64 (i:Int)] w fun e w'=>e=.returned (.string (E i))∧Bw w w'):=fun w=>of_c i w jp
   have cw:IntKind.u64.wrap ((i:Int)+1)=(i:Int)+1:=by rw[IntKind.wrap_u64];omega
   clear Hx hs hZ jp;have hS:=hQ.after Hw;have HH:CA wb [(⟨gC,0,none⟩,.string C),(⟨gC,1,none⟩,.string K),(⟨gC,2,none⟩,.slice s1 m1 d1),(⟨gC,3,none⟩,.slice (some ⟨bv,ov,none⟩) 1 d2),(⟨gC,4,none⟩,.slice s3 m3 d3),(⟨gC,5,none⟩,.slice xw nw pw),(⟨gC,6,none⟩,.string ch)]:=CA.cons hS.lt (hS.cell 0) (CA.cons hS.lt (hS.cell 1) (CA.cons hS.lt (hS.cell 2) (CA.cons hS.lt (hS.cell 3) (CA.cons hS.lt (hS.cell 4) (CA.cons hS.lt (hS.cell 5) (CA.cons hS.lt (hS.cell 6) (CA.nil _)))))));clear hS;go_upto_region 15 with fail
   go_cut [14,16] from 110 to 164 (fun s14 s16 wx=>(∃g14 fo fl fc cx ro rc,s14=.pointer (some ⟨g14,0,none⟩)∧Blk wx g14 40 [.slice fo fl fc,.string cx,.slice ro Y.length rc]∧ZsAt wx (.slice ro Y.length rc) Y)∧s16=.int .i64 (er:Int)∧Bw wb wx)
   case first =>
    clear hO Hw hQ hJ HP HQ HR HS HN h6 jD cw
    go_region_held3 (fun w'=>w'.cell? ⟨gC,0,none⟩=some (.string C)∧w'.cell? ⟨gC,1,none⟩=some (.string K)∧w'.cell? ⟨gC,2,none⟩=some (.slice s1 m1 d1)∧w'.cell? ⟨gC,3,none⟩=some (.slice (some ⟨bv,ov,none⟩) 1 d2)∧w'.cell? ⟨gC,4,none⟩=some (.slice s3 m3 d3)∧w'.cell? ⟨gC,5,none⟩=some (.slice xw nw pw)∧w'.cell? ⟨gC,6,none⟩=some (.string ch)) ((refine CA.k7 ?_;repeat (first | (with_reducible exact jL) | (with_reducible exact jq) | (with_reducible exact HH) | (with_reducible refine CA.drew ?_) | (with_reducible refine CA.alloc ?_ _) | (refine CA.set ?_ _ _ _ (by intro x hx;have h1:=(HH x hx).1;have h2:=HI.size;omega)))))
     (first | (go_at_call 35;(with_reducible refine Calls.mono (Hf.out _) ?_);rintro e wc ⟨rfl,hf⟩;have HI:Bw wb wc:=bt (by repeat (first | (with_reducible exact Br) | (with_reducible refine ba ?_ _) | (with_reducible refine Below.drew ?_) | fail)) hf;have jq:CA wc [(⟨gC,0,none⟩,.string C),(⟨gC,1,none⟩,.string K),(⟨gC,2,none⟩,.slice s1 m1 d1),(⟨gC,3,none⟩,.slice (some ⟨bv,ov,none⟩) 1 d2),(⟨gC,4,none⟩,.slice s3 m3 d3),(⟨gC,5,none⟩,.slice xw nw pw),(⟨gC,6,none⟩,.string ch)]:=by (refine CA.after ?_ hf;repeat (first | (with_reducible exact HH) | (with_reducible refine CA.drew ?_) | (with_reducible refine CA.alloc ?_ _) | fail))) | (go_at_call 18;(with_reducible refine Calls.mono (jn.out _ _ _ ?_ ?_) ?_);(focus (refine bt jo.out ?_;repeat (first | (with_reducible exact HI) | (with_reducible refine ba ?_ _) | (with_reducible refine Below.drew ?_) | fail)));(focus (refine s1rowc ?_;repeat (first | ((with_reducible refine blkRc ?_ ?_) <;> (first | (with_reducible rfl) | (focus (simp;done)) | rfl | fail)) | (with_reducible refine Blk.alloc ?_ _) | (with_reducible refine Blk.drew ?_) | (with_reducible refine Blk.after ?_ hf))));rintro e wd ⟨fo,fl,fc,cx,ro,rc,uo,ul,uc,us,ut,rfl,hY,HW,hbd⟩;(have jL:CA wd [(⟨gC,0,none⟩,.string C),(⟨gC,1,none⟩,.string K),(⟨gC,2,none⟩,.slice s1 m1 d1),(⟨gC,3,none⟩,.slice (some ⟨bv,ov,none⟩) 1 d2),(⟨gC,4,none⟩,.slice s3 m3 d3),(⟨gC,5,none⟩,.slice xw nw pw),(⟨gC,6,none⟩,.string ch)]:=by (refine CA.after ?_ hbd;repeat (first | (with_reducible exact jq) | (with_reducible refine CA.drew ?_) | (with_reducible refine CA.alloc ?_ _) | fail)));have jr:Bw wb wd:=bt (by repeat (first | (with_reducible exact HI) | (with_reducible refine ba ?_ _) | (with_reducible refine Below.drew ?_) | fail)) hbd;(try (have p0:Blk wd (wb.heap.size) 40 [.slice none 0 0,.string { data:=#[] },.slice none 0 0]:=by (refine Blk.after ?_ hbd;repeat (first | ((with_reducible refine blkRc ?_ ?_) <;> (first | (with_reducible rfl) | (focus (simp;done)) | rfl | fail)) | (with_reducible refine Blk.alloc ?_ _) | (with_reducible refine Blk.drew ?_) | (with_reducible refine Blk.after ?_ hf) | fail))));(try (have p0c0:=p0.cell 0;have p0c1:=p0.cell 1;have p0c2:=p0.cell 2;have p0f0:=p0.free 0;have p0f1:=p0.free 1;have p0f2:=p0.free 2;have p0l:=p0.lt));(try (have p1:Blk wd (wb.heap.size+1) 40 [.slice none 0 0,.string { data:=#[] },.slice none 0 0]:=by (refine Blk.after ?_ hbd;repeat (first | ((with_reducible refine blkRc ?_ ?_) <;> (first | (with_reducible rfl) | (focus (simp;done)) | rfl | fail)) | (with_reducible refine Blk.alloc ?_ _) | (with_reducible refine Blk.drew ?_) | (with_reducible refine Blk.after ?_ hf) | fail))));(try (have p1c0:=p1.cell 0;have p1c1:=p1.cell 1;have p1c2:=p1.cell 2;have p1f0:=p1.free 0;have p1f1:=p1.free 1;have p1f2:=p1.free 2;have p1l:=p1.lt));(try (have p2:Blk wd (wb.heap.size+1+1) 40 [.slice none 0 0,.string { data:=#[] },.slice none 0 0]:=by (refine Blk.after ?_ hbd;repeat (first | ((with_reducible refine blkRc ?_ ?_) <;> (first | (with_reducible rfl) | (focus (simp;done)) | rfl | fail)) | (with_reducible refine Blk.alloc ?_ _) | (with_reducible refine Blk.drew ?_) | (with_reducible refine Blk.after ?_ hf) | fail))));(try (have p2c0:=p2.cell 0;have p2c1:=p2.cell 1;have p2c2:=p2.cell 2;have p2f0:=p2.free 0;have p2f1:=p2.free 1;have p2f2:=p2.free 2;have p2l:=p2.lt));(try (have p3:Blk wd (wc.heap.size) 40 [.slice none 0 0,.string { data:=#[] },.slice none 0 0]:=by (refine Blk.after ?_ hbd;repeat (first | ((with_reducible refine blkRc ?_ ?_) <;> (first | (with_reducible rfl) | (focus (simp;done)) | rfl | fail)) | (with_reducible refine Blk.alloc ?_ _) | (with_reducible refine Blk.drew ?_) | (with_reducible refine Blk.after ?_ hf) | fail))));(try (have p3c0:=p3.cell 0;have p3c1:=p3.cell 1;have p3c2:=p3.cell 2;have p3f0:=p3.free 0;have p3f1:=p3.free 1;have p3f2:=p3.free 2;have p3l:=p3.lt));(try (have p4:Blk wd (wc.heap.size+1) 40 [.slice none 0 0,.string { data:=#[] },.slice none 0 0]:=by (refine Blk.after ?_ hbd;repeat (first | ((with_reducible refine blkRc ?_ ?_) <;> (first | (with_reducible rfl) | (focus (simp;done)) | rfl | fail)) | (with_reducible refine Blk.alloc ?_ _) | (with_reducible refine Blk.drew ?_) | (with_reducible refine Blk.after ?_ hf) | fail))));(try (have p4c0:=p4.cell 0;have p4c1:=p4.cell 1;have p4c2:=p4.cell 2;have p4f0:=p4.free 0;have p4f1:=p4.free 1;have p4f2:=p4.free 2;have p4l:=p4.lt));(try (have p5:Blk wd (wc.heap.size+1+1) 40 [.slice none 0 0,.string { data:=#[] },.slice none 0 0]:=by (refine Blk.after ?_ hbd;repeat (first | ((with_reducible refine blkRc ?_ ?_) <;> (first | (with_reducible rfl) | (focus (simp;done)) | rfl | fail)) | (with_reducible refine Blk.alloc ?_ _) | (with_reducible refine Blk.drew ?_) | (with_reducible refine Blk.after ?_ hf) | fail))));(try (have p5c0:=p5.cell 0;have p5c1:=p5.cell 1;have p5c2:=p5.cell 2;have p5f0:=p5.free 0;have p5f1:=p5.free 1;have p5f2:=p5.free 2;have p5l:=p5.lt));(try (have t0:Blk wd (wb.heap.size) 33 [.slice none 0 0,.string { data:=#[] },.int .i64 0]:=by (refine Blk.after ?_ hbd;repeat (first | ((with_reducible refine blkRc ?_ ?_) <;> (first | (with_reducible rfl) | (focus (simp;done)) | rfl | fail)) | (with_reducible refine Blk.alloc ?_ _) | (with_reducible refine Blk.drew ?_) | (with_reducible refine Blk.after ?_ hf) | fail))));(try (have t0c0:=t0.cell 0;have t0c1:=t0.cell 1;have t0c2:=t0.cell 2;have t0f0:=t0.free 0;have t0f1:=t0.free 1;have t0f2:=t0.free 2;have t0l:=t0.lt));(try (have t1:Blk wd (wb.heap.size+1) 33 [.slice none 0 0,.string { data:=#[] },.int .i64 0]:=by (refine Blk.after ?_ hbd;repeat (first | ((with_reducible refine blkRc ?_ ?_) <;> (first | (with_reducible rfl) | (focus (simp;done)) | rfl | fail)) | (with_reducible refine Blk.alloc ?_ _) | (with_reducible refine Blk.drew ?_) | (with_reducible refine Blk.after ?_ hf) | fail))));(try (have t1c0:=t1.cell 0;have t1c1:=t1.cell 1;have t1c2:=t1.cell 2;have t1f0:=t1.free 0;have t1f1:=t1.free 1;have t1f2:=t1.free 2;have t1l:=t1.lt));(try (have t2:Blk wd (wb.heap.size+1+1) 33 [.slice none 0 0,.string { data:=#[] },.int .i64 0]:=by (refine Blk.after ?_ hbd;repeat (first | ((with_reducible refine blkRc ?_ ?_) <;> (first | (with_reducible rfl) | (focus (simp;done)) | rfl | fail)) | (with_reducible refine Blk.alloc ?_ _) | (with_reducible refine Blk.drew ?_) | (with_reducible refine Blk.after ?_ hf) | fail))));(try (have t2c0:=t2.cell 0;have t2c1:=t2.cell 1;have t2c2:=t2.cell 2;have t2f0:=t2.free 0;have t2f1:=t2.free 1;have t2f2:=t2.free 2;have t2l:=t2.lt));(try (have t3:Blk wd (wc.heap.size) 33 [.slice none 0 0,.string { data:=#[] },.int .i64 0]:=by (refine Blk.after ?_ hbd;repeat (first | ((with_reducible refine blkRc ?_ ?_) <;> (first | (with_reducible rfl) | (focus (simp;done)) | rfl | fail)) | (with_reducible refine Blk.alloc ?_ _) | (with_reducible refine Blk.drew ?_) | (with_reducible refine Blk.after ?_ hf) | fail))));(try (have t3c0:=t3.cell 0;have t3c1:=t3.cell 1;have t3c2:=t3.cell 2;have t3f0:=t3.free 0;have t3f1:=t3.free 1;have t3f2:=t3.free 2;have t3l:=t3.lt));(try (have t4:Blk wd (wc.heap.size+1) 33 [.slice none 0 0,.string { data:=#[] },.int .i64 0]:=by (refine Blk.after ?_ hbd;repeat (first | ((with_reducible refine blkRc ?_ ?_) <;> (first | (with_reducible rfl) | (focus (simp;done)) | rfl | fail)) | (with_reducible refine Blk.alloc ?_ _) | (with_reducible refine Blk.drew ?_) | (with_reducible refine Blk.after ?_ hf) | fail))));(try (have t4c0:=t4.cell 0;have t4c1:=t4.cell 1;have t4c2:=t4.cell 2;have t4f0:=t4.free 0;have t4f1:=t4.free 1;have t4f2:=t4.free 2;have t4l:=t4.lt));(try (have t5:Blk wd (wc.heap.size+1+1) 33 [.slice none 0 0,.string { data:=#[] },.int .i64 0]:=by (refine Blk.after ?_ hbd;repeat (first | ((with_reducible refine blkRc ?_ ?_) <;> (first | (with_reducible rfl) | (focus (simp;done)) | rfl | fail)) | (with_reducible refine Blk.alloc ?_ _) | (with_reducible refine Blk.drew ?_) | (with_reducible refine Blk.after ?_ hf) | fail))));(try (have t5c0:=t5.cell 0;have t5c1:=t5.cell 1;have t5c2:=t5.cell 2;have t5f0:=t5.free 0;have t5f1:=t5.free 1;have t5f2:=t5.free 2;have t5l:=t5.lt));(try (have jM:=hf.size));(try simp at jM);(try (have jN:=hbd.size));(try simp at jN);(try (have n00:¬ wb.heap.size=wc.heap.size:=by (have h1:=hf.size;simp at h1;omega)));(try (have m00:¬ wc.heap.size=wb.heap.size:=by (have h1:=hf.size;simp at h1;omega)));(try (have n01:¬ wb.heap.size=wc.heap.size+1:=by (have h1:=hf.size;simp at h1;omega)));(try (have m01:¬ wc.heap.size+1=wb.heap.size:=by (have h1:=hf.size;simp at h1;omega)));(try (have n02:¬ wb.heap.size=wc.heap.size+1+1:=by (have h1:=hf.size;simp at h1;omega)));(try (have m02:¬ wc.heap.size+1+1=wb.heap.size:=by (have h1:=hf.size;simp at h1;omega)));(try (have n10:¬ wb.heap.size+1=wc.heap.size:=by (have h1:=hf.size;simp at h1;omega)));(try (have m10:¬ wc.heap.size=wb.heap.size+1:=by (have h1:=hf.size;simp at h1;omega)));(try (have n11:¬ wb.heap.size+1=wc.heap.size+1:=by (have h1:=hf.size;simp at h1;omega)));(try (have m11:¬ wc.heap.size+1=wb.heap.size+1:=by (have h1:=hf.size;simp at h1;omega)));(try (have n12:¬ wb.heap.size+1=wc.heap.size+1+1:=by (have h1:=hf.size;simp at h1;omega)));(try (have m12:¬ wc.heap.size+1+1=wb.heap.size+1:=by (have h1:=hf.size;simp at h1;omega)));(try (have n20:¬ wb.heap.size+1+1=wc.heap.size:=by (have h1:=hf.size;simp at h1;omega)));(try (have m20:¬ wc.heap.size=wb.heap.size+1+1:=by (have h1:=hf.size;simp at h1;omega)));(try (have n21:¬ wb.heap.size+1+1=wc.heap.size+1:=by (have h1:=hf.size;simp at h1;omega)));(try (have m21:¬ wc.heap.size+1=wb.heap.size+1+1:=by (have h1:=hf.size;simp at h1;omega)));(try (have n22:¬ wb.heap.size+1+1=wc.heap.size+1+1:=by (have h1:=hf.size;simp at h1;omega)));(try (have m22:¬ wc.heap.size+1+1=wb.heap.size+1+1:=by (have h1:=hf.size;simp at h1;omega)))))
    all_goals
     as_aux_lemma =>
      go_wp2_with fail
      go_meet
      (try clear p0c0 p0c1 p0c2 p0f0 p0f1 p0f2)
      (try clear p1c0 p1c1 p1c2 p1f0 p1f1 p1f2)
      (try clear p2c0 p2c1 p2c2 p2f0 p2f1 p2f2)
      (try clear p3c0 p3c1 p3c2 p3f0 p3f1 p3f2)
      (try clear p4c0 p4c1 p4c2 p4f0 p4f1 p4f2)
      (try clear p5c0 p5c1 p5c2 p5f0 p5f1 p5f2)
      (try clear t0c0 t0c1 t0c2 t0f0 t0f1 t0f2)
      (try clear t1c0 t1c1 t1c2 t1f0 t1f1 t1f2)
      (try clear t2c0 t2c1 t2c2 t2f0 t2f1 t2f2)
      (try clear t3c0 t3c1 t3c2 t3f0 t3f1 t3f2)
      (try clear t4c0 t4c1 t4c2 t4f0 t4f1 t4f2)
      (try clear t5c0 t5c1 t5c2 t5f0 t5f1 t5f2)
      have z1:=HI.size;have z2:=jr.size;refine⟨⟨_,fo,fl,fc,cx,ro,rc,rfl,?_,?_⟩,rfl,?_⟩
      ·repeat (first | (with_reducible exact p0) | (with_reducible exact p1) | (with_reducible exact p2) | (with_reducible exact p3) | (with_reducible exact p4) | (with_reducible exact p5) | ((with_reducible refine blkRc ?_ ?_) <;> (first | (with_reducible rfl) | (focus (simp;done)) | rfl | fail)) | (with_reducible refine Blk.alloc ?_ _) | (with_reducible apply blk_set3c) | ((with_reducible refine blk_other3c ?_ ?_);(first | assumption | (focus (simp;done)) | (((try clear n00);(try clear n01);(try clear n02);(try clear n10);(try clear n11);(try clear n12);(try clear n20);(try clear n21);(try clear n22);(try clear m00);(try clear m01);(try clear m02);(try clear m10);(try clear m11);(try clear m12);(try clear m20);(try clear m21);(try clear m22));(first | omega | (focus (simp;omega)))) | fail)) | fail)
      ·((try clear n00);(try clear n01);(try clear n02);(try clear n10);(try clear n11);(try clear n12);(try clear n20);(try clear n21);(try clear n22);(try clear m00);(try clear m01);(try clear m02);(try clear m10);(try clear m11);(try clear m12);(try clear m20);(try clear m21);(try clear m22))
       repeat (first | (with_reducible exact hY) | ((with_reducible refine zs_set3c ?_ ?_);(first | ((refine HW _ ?_);(first | (focus (simp;done)) | omega | (focus (simp;omega)) | fail)) | ((refine zs_farc hY ?_);(first | (focus (simp;done)) | omega | (focus (simp;omega)) | fail)) | fail)) | (with_reducible refine ZsAt.after ?_ (b1 _ _)) | fail)
      ·((try clear n00);(try clear n01);(try clear n02);(try clear n10);(try clear n11);(try clear n12);(try clear n20);(try clear n21);(try clear n22);(try clear m00);(try clear m01);(try clear m02);(try clear m10);(try clear m11);(try clear m12);(try clear m20);(try clear m21);(try clear m22))
       repeat (first | (with_reducible exact jr) | (with_reducible refine ba ?_ _) | ((with_reducible refine below_set3c ?_ ?_);(first | omega | (focus (simp;omega)) | fail)) | fail)
   case rest =>
    as_aux_lemma =>
     obtain⟨⟨g14,fo,fl,fc,cx,ro,rc,rfl,hP,hY⟩,rfl,HY⟩:=hcut;obtain⟨wq,jO⟩:∃wx,wx=wc:=⟨_,rfl⟩;subst jO;have h0:=own_after hO HY;have Hg:=bt Hw HY;clear hO HH jn Hf jo HY;cases hfi:f i
     ·have e14:er=14:=HN.out hfi;have HX:=Kh (fm_none hfi);subst e14;clear HS HN hfi hP hY;go_wp2;go_roundw
      case rel=>exact⟨i+1,by omega,by go_num,by rw[HX.out];exact h0,Hg⟩
      case measure=>simp[intOf];omega
     ·rename_i x;obtain⟨e0,eY⟩:=HS.out x hfi;subst e0 eY;have HX:=Kh (fm_some hfi);have js:=Kh (HP.out i x hlt hfi);obtain⟨L,hL⟩:∃L,L=(List.range i).filterMap f:=⟨_,rfl⟩;have jZ:L.length≤i:=by rw[hL];exact fm_le f i
      rw[←hL]at HX js h0;clear HS HN hfi hL;have HJ:=Kh (contains_no L x u12 wq (by omega) (ZOwn.zs h0) js.out);simp only[List.length_singleton]at hP hY ⊢;obtain⟨bY,oY,rfl,HK,y1,y2⟩:=hY.at_ (k:=0) (by simp);replace y1:wq.cell? ⟨bY,oY,none⟩=some (.bool (sg x)):=by simpa using y1
      replace y2:wq.cell? ⟨bY,oY+1,none⟩=some (.string (E x.natAbs)):=by simpa using y2
      have HZ:Hid (ics [zI x]=[.bool (sg x),.string (E x.natAbs)]):=rfl;generalize sg x=sx at HJ HZ y1;generalize E x.natAbs=ex at HJ HZ y2;clear hY;have H0:=hP.lt;obtain⟨h7,h8,Ha,Hb,Hc,Hd⟩:=hP.x3;go_wp2_with fail
      refine (HJ.out).mono ?_;rintro e wr ⟨rfl,hU⟩;clear h7 h8 Ha Hb Hc Hd;replace hP:=hP.after hU;replace y1:=(hU.cell (p:=⟨bY,oY,none⟩) HK).trans y1;replace y2:=(hU.cell (p:=⟨bY,oY+1,none⟩) HK).trans y2;replace HK:=Nl HK hU.size;replace h0:=own_after h0 hU;replace Hg:=bt Hg hU;clear hU HJ H0;have H0:=hP.lt;have jP:=Hg.size;have j0:L.length≤239:=by omega
      obtain⟨h7,h8,Ha,Hb,Hc,Hd⟩:=hP.x3;go_wp2_with (at_builtin;refine wpList_append_lies _ rfl (.tmp 158) (.tmp 163) _ rfl w7.heap.size 74 i1 _ 2 24 Tryz.underlying30 jF.out jG.out jH.out jI.out rfl (by omega) u12 L.length (ics (L.map zI)) rfl (own_after h0 (b1 _ (.cells #[.bool sx,.string ex] 74))) ⟨(wr).heap.size,0,none⟩ 1 1 [.bool sx,.string ex] rfl rfl (Blk.new (wr) #[.bool sx,.string ex] 74).cells (by simp[Value.oneCell']) (by omega) (by simp only[maxLen];omega) (by omega) (by rw[World.size_alloc];omega) ((wr).heap.size+1) (by simp) ?_;intro ga ca' wz Hy h3 jQ H1)
      have jt:ZOwn wz w7.heap.size (.slice (some ⟨ga,0,none⟩) (L.length+1) ca') (L++[x]):=by
       rw[ZOwn,List.length_append,←ics_app,List.map_cons,List.map_nil,HZ.out];exact Hy
      rw[←HX.out]at jt;have jR:=(ba Hg (.cells #[.bool sx,.string ex] 74)).grown h3 (by rw[World.size_alloc];omega) (fun g hg=>(own_lt h0 hg).2);clear Hy h3 jQ H1 h0 Hg hP y1 y2 H0 jP h7 Ha Hc h8 Hb Hd;go_wp2;go_roundw
      case rel=>exact⟨i+1,by omega,by go_num,jt,jR⟩
      case measure=>simp[intOf];omega
  ·as_aux_lemma =>
    obtain rfl:i=mm:=by omega
    have hl:=HQ.out;obtain⟨so,sc,rfl⟩:=hO.zs.form;have j1:nn≤239:=by have h1:=fm_le f i;rw[hl]at h1;omega
    rw[hl];have c5:IntKind.u64.wrap (nn:Int)=(nn:Int):=by rw[IntKind.wrap_u64];omega
    have j2:((nn:Int)==(nn:Int))=true:=by simp
    clear hl hO HR HP HQ;go_wp2_with fail
    refine (awake_c _).mono ?_;rintro e w9 ⟨rfl,hb9⟩;go_wp2;go_ret
    exact⟨rfl,bt (bt h6.out Hw) hb9⟩
end
end Go.Proofs.YtihjpddbjhcbmaaGreatDoor
