/- dominoref24.Prepare. -/
import Derived.Test.YtdoacbdkbbpamaaGreatDoorRs24
import Derived.Test.YtdoacbdkbbpamaaGreatDoorRf24
set_option linter.unusedVariables false
set_option linter.unusedSimpArgs false
set_option maxRecDepth 100000
set_option maxHeartbeats 16000000
namespace Go.Proofs.YtdoacbdkbbpamaaGreatDoor
open Go.RowKit Go.Shelf
theorem rd24_zero {a b c d:ByteArray} {lo hi:Int} (h:rd24 a b c d=0):vl4 a b c d=true∧rdyE a b c d lo hi=widE lo hi:=by
 unfold rd24 at h;split at h
 ·omega
 rename_i h1;split at h
 ·omega
 rename_i h2;refine ⟨?_,?_⟩
 ·cases hv:vl4 a b c d
  ·exfalso;apply h1;unfold pedV;rw [hv,if_neg (by decide)];decide
  ·rfl
 ·unfold rdyE;rw [if_neg h1,if_neg h2]
theorem rd24_bad {att:Att} {a b c d:ByteArray} {lo hi:Int} {vn:Bool} {va:ByteArray} {rn:Bool} {ra:ByteArray} {T:Tp} (hf:vlO ⟨vn,va,rn,ra⟩=true) (ht:T.good=true) (h:rd24 a b c d≠0):rgR att a b c d lo hi vn va rn ra T=⟨rd24 a b c d,[],[],Tp.nil⟩:=by
 cases hv:vl4 a b c d
 ·have hp:pedV a b c d=3:=by unfold pedV;rw [hv,if_neg (by decide)]
  have hr:rd24 a b c d=3:=by unfold rd24;rw [hp,if_pos (by decide)]
  have hc:(vlO ⟨vn,va,rn,ra⟩&&vl4 a b c d&&T.good)=false:=by rw [hf,hv];rfl
  unfold rgR;rw [if_pos hc,hr]
 ·have e:(rdyE a b c d lo hi).2=rd24 a b c d:=by
   unfold rd24 at h ⊢;unfold rdyE;split
   ·rfl
   ·rename_i h1;rw [if_neg h1] at h;split at h
    ·rename_i h2;rw [if_pos h2,if_pos h2]
    ·exact absurd rfl h
  unfold rgR;rw [hf,hv,ht,if_neg (by decide),e,if_pos h]
def vRq (B n:Nat) (u v us vs:Value) (tp:Value) (L L2:List Nat) (M M2:List (Nat × Nat)):RVB:=fun st i x w=>match i with
 | 0=>x=u
 | 1=>x=us
 | 2=>st.getD 0 false=true→w.ownsRow B 31 1 x (n+n) (strs (L++L2))
 | 3=>x=v
 | 4=>x=vs
 | 5=>st.getD 1 false=true→w.ownsRow B 39 4 x (n+n) (((M++M2).map nop).flatMap opc)
 | 6=>x=tp
 | 7=>st.getD 0 false=true→w.ownsRow B 31 1 x (n+n) (strs (L++L2))
 | 8=>st.getD 1 false=true→w.ownsRow B 39 4 x (n+n) (((M++M2).map nop).flatMap opc)
 | 10=>x=.int .i64 0
 | _=>True
theorem vRq_st (B n:Nat) (u v us vs:Value) (tp:Value) (L L2:List Nat) (M M2:List (Nat × Nat)):∀(l:List Bool) (j:Nat) (x:Value) (w w':World),Below w.heap.size w w'→vRq B n u v us vs tp L L2 M M2 l j x w→vRq B n u v us vs tp L L2 M M2 l j x w':=by
 intro l j x w w' hb h;unfold vRq at h ⊢;split at h
 all_goals first
  | (with_reducible exact h)
  | exact fun e=>own_after (h e) hb
theorem vRq_a {B n m:Nat} {u v us vs x0:Value} {tp:Value} {L L2 xs:List Nat} {M M2:List (Nat × Nat)} {y z:Bool} {w w':World} (hO:w.ownsRow B 31 1 x0 m (strs xs)) (hg:w.grownBy w' x0.ownBlock):∀(j:Nat) (x:Value),j≠2→j≠7→vRq B n u v us vs tp L L2 M M2 [false,y,z] j x w→vRq B n u v us vs tp L L2 M M2 [true,y,z] j x w':=by
 intro j x hj hj2 h;unfold vRq at h ⊢;split at h
 all_goals first
  | exact absurd rfl hj
  | exact absurd rfl hj2
  | (with_reducible exact h)
  | exact fun e=>own_grown (h e) hO (by decide) hg
theorem vRq_b {B n m:Nat} {u v us vs x0:Value} {tp:Value} {L L2:List Nat} {M M2:List (Nat × Nat)} {xs:List Value} {y z:Bool} {w w':World} (hO:w.ownsRow B 39 4 x0 m xs) (hg:w.grownBy w' x0.ownBlock):∀(j:Nat) (x:Value),j≠5→j≠8→vRq B n u v us vs tp L L2 M M2 [y,false,z] j x w→vRq B n u v us vs tp L L2 M M2 [y,true,z] j x w':=by
 intro j x hj hj2 h;unfold vRq at h ⊢;split at h
 all_goals first
  | exact absurd rfl hj
  | exact absurd rfl hj2
  | (with_reducible exact h)
  | exact fun e=>own_grown (h e) hO (by decide) hg
theorem vRq_c {B n g:Nat} {cs:List Value} {u v us vs:Value} {tp:Value} {L L2:List Nat} {M M2:List (Nat × Nat)} {y z:Bool} {w:World} (hT:Blk w g 42 cs) (a b c:Value):∀(j:Nat) (x:Value),vRq B n u v us vs tp L L2 M M2 [y,z,false] j x w→vRq B n u v us vs tp L L2 M M2 [y,z,true] j x (((w.setCell ⟨g,0,none⟩ a).setCell ⟨g,1,none⟩ b).setCell ⟨g,2,none⟩ c):=by
 intro j x h;unfold vRq at h ⊢;split at h
 all_goals first
  | (with_reducible exact h)
  | exact fun e=>own_set (own_set (own_set (h e) (own_ne (h e) hT (by decide))) (own_ne (h e) hT (by decide))) (own_ne (h e) hT (by decide))
def fRq (B n gT gQ:Nat) (u v us vs:Value) (L L2:List Nat) (M M2:List (Nat × Nat)) (new:List Value) (sl:Value) (vals:List ByteArray) (st:List Bool) (w:World):Prop:=
 (st.getD 0 false=false→w.ownsRow B 31 1 u n (strs L)∧w.ownsRow B 31 1 us n (strs L2)) ∧
 (st.getD 1 false=false→w.ownsRow B 39 4 v n ((M.map nop).flatMap opc)∧w.ownsRow B 39 4 vs n ((M2.map nop).flatMap opc)) ∧
 Blk w gT 42 new∧(st.getD 2 false=false→Blk w gQ 42 [.slice none 0 0,.string ⟨#[]⟩,.int .i64 0])∧(st.getD 2 false=true→Blk w gQ 42 new)∧SsAt w sl vals
theorem rrgprep_c (att:Att) (a b c d:ByteArray) (lo hi:Int) (vn:Bool) (va:ByteArray) (rn:Bool) (ra:ByteArray) (T:Tp) (v:Value) (w:World)
  (hat:RAtt att T.seed) (hok:T.Ok) (ha:a.size≤8) (hb:b.size≤8) (hc:c.size≤8) (hd:d.size≤8) (hva:va.size≤16) (hra:ra.size≤16) (hl1:-9223372036854775808≤lo) (hl2:lo≤9223372036854775807) (hh1:-9223372036854775808≤hi) (hh2:hi≤9223372036854775807) (hV:SsAt w v T.vals) :
  Calls Tryz.prog 19 #[.agg #[.string a,.string b,.string c,.string d],.int .i64 lo,.int .i64 hi,.agg #[.bool vn,.string va,.bool rn,.string ra],.agg #[v,.string T.seed,.int .i64 T.pos]] w (PrPost w (rgR att a b c d lo hi vn va rn ra T)):=by
 obtain ⟨R,hR⟩:∃R,R=rgR att a b c d lo hi vn va rn ra T:=⟨_,rfl⟩;rw [←hR];have HR:=Lib.hid hR
 have HFM:Hid (∀(u:Value) (w':World),OsAt w' u [⟨vn,va,rn,ra⟩]→Calls Tryz.prog 47 #[u] w' fun e w''=>e=.returned (.bool (vlO ⟨vn,va,rn,ra⟩))∧Below w'.heap.size w' w''):=fun u w' hu=>by
  have h9:=r24openings_c [⟨vn,va,rn,ra⟩] u w' (by simp) (by intro x hx;simp only [List.mem_singleton] at hx;subst hx;exact ⟨by show va.size≤1000;omega,by show ra.size≤1000;omega⟩) hu;rwa [show ([⟨vn,va,rn,ra⟩]:List Opn).all vlO=vlO ⟨vn,va,rn,ra⟩ by simp] at h9
 have HTP:Hid (∀(u:Value) (w':World),SsAt w' u T.vals→Calls Tryz.prog 48 #[.agg #[u,.string T.seed,.int .i64 T.pos]] w' fun e w''=>e=.returned (.bool T.good)∧Below w'.heap.size w' w''):=fun u w' hu=>rgood_v T u w' hok hu
 have HRD:Hid (∀w:World,Calls Tryz.prog 49 #[.agg #[.string a,.string b,.string c,.string d]] w fun e w'=>e=.returned (.int .i64 (rd24 a b c d:Int))∧Below w.heap.size w w'):=fun w=>r24ready_c a b c d w ha (by omega) (by omega) (by omega)
 have HWI:Hid (∀w:World,Calls Tryz.prog 8 #[.int .i64 lo,.int .i64 hi] w fun e w'=>e=.returned (.tuple #[.int .i64 ((widE lo hi).1:Int),.int .i64 ((widE lo hi).2:Int)])∧Below w.heap.size w w'):=fun w=>rwidth_c lo hi w hl1 hl2 hh1 hh2
 obtain ⟨fm,hfm⟩:∃t,t=vlO ⟨vn,va,rn,ra⟩:=⟨_,rfl⟩;obtain ⟨tg,htg⟩:∃t,t=T.good:=⟨_,rfl⟩;rw [←hfm] at HFM;rw [←htg] at HTP
 have HBAD:Hid ((fm&&tg)=false→R=⟨3,[],[],Tp.nil⟩):=fun h=>by
  rw [HR.out,rgR,if_pos];rw [←hfm,←htg];cases fm
  ·rfl
  ·rw [Bool.true_and] at h;rw [h,Bool.and_false]
 have HFT:Hid (fm=vlO ⟨vn,va,rn,ra⟩∧tg=T.good):=⟨hfm,htg⟩;have HAT:=Lib.hid hat;have HOK:=Lib.hid hok;have HSZ:Hid (a.size≤8∧b.size≤8∧c.size≤8∧d.size≤8∧va.size≤16∧ra.size≤16):=⟨ha,hb,hc,hd,hva,hra⟩;have HLH:Hid (-9223372036854775808≤lo∧lo≤9223372036854775807∧-9223372036854775808≤hi∧hi≤9223372036854775807):=⟨hl1,hl2,hh1,hh2⟩;clear hR hfm htg hat hok ha hb hc hd hva hra hl1 hl2 hh1 hh2;obtain ⟨at_,ct,rfl⟩:=RAt.form hV;obtain ⟨nt,hnt⟩:∃n,n=T.vals.length:=⟨_,rfl⟩;have HNT:=Lib.hid hnt;rw [←hnt] at hV ⊢;clear hnt;obtain ⟨hK,hO,hT,hQ,hBW⟩:=blk4 w #[.string a,.string b,.string c,.string d] #[.bool vn,.string va,.bool rn,.string ra] #[.slice at_ nt ct,.string T.seed,.int .i64 T.pos] #[.slice none 0 0,.string ⟨#[]⟩,.int .i64 0] 35 39 42 42;have hV1:=SsAt.after hV hBW;obtain ⟨gO,hgO⟩:∃g,w.heap.size+1=g:=⟨_,rfl⟩;obtain ⟨gT,hgT⟩:∃g,w.heap.size+1+1=g:=⟨_,rfl⟩;obtain ⟨gQ,hgQ⟩:∃g,w.heap.size+1+1+1=g:=⟨_,rfl⟩;have HGW:Hid (w.heap.size<gO∧gO<gT∧gT<gQ):=by rw [Hid];omega
 have HG1:=Lib.hid hgO;have HG2:=Lib.hid hgT;have HG3:=Lib.hid hgQ;have hFT:FarS (.slice at_ nt ct) gT:=ss_far hV (by omega);have hFQ:FarS (.slice at_ nt ct) gQ:=ss_far hV (by omega);clear hgO hgT hgQ hV;go_enter Tryz.func19,Tryz.ntmps19
 go_upto_region 1 with fail
 rw [HG3.out,HG2.out,HG1.out];replace hO:Blk _ gO 39 [.bool vn,.string va,.bool rn,.string ra]:=HG1.out ▸ hO;replace hT:Blk _ gT 42 [.slice at_ nt ct,.string T.seed,.int .i64 T.pos]:=HG2.out ▸ hT;replace hQ:Blk _ gQ 42 [.slice none 0 0,.string ⟨#[]⟩,.int .i64 0]:=HG3.out ▸ hQ;generalize (((w.alloc (.cells #[.string a,.string b,.string c,.string d] 35)).alloc (.cells #[.bool vn,.string va,.bool rn,.string ra] 39)).alloc (.cells #[.slice at_ nt ct,.string T.seed,.int .i64 T.pos] 42)).alloc (.cells #[.slice none 0 0,.string ⟨#[]⟩,.int .i64 0] 42)=w1 at hK hO hT hQ hBW hV1 ⊢;obtain ⟨gK,hgK⟩:∃g,g=w.heap.size:=⟨_,rfl⟩;rw [←hgK] at hK ⊢;replace hK:Blk w1 gK 35 [.string a,.string b,.string c,.string d]:=hK;have HGK:=Lib.hid hgK;clear hgK HG1 HG2 HG3;have HWQ:Hid (w.heap.size≤gQ):=by have:=HGW.out;rw [Hid];omega
 have hN:=Blk.new w1 #[.bool vn,.string va,.bool rn,.string ra] 39;have hbN:=b1 w1 (.cells #[.bool vn,.string va,.bool rn,.string ra] 39);obtain ⟨hOc0,hOf0,hOc1,hOf1,hOc2,hOf2,hOc3,hOf3⟩:=hO.x4;go_wp2_with fail
 refine (HFM.out _ _ (by first | exact os_blk1 hN | exact os_blk1 (hN.drew))).mono ?_;rintro e w2 ⟨rfl,hb⟩;clear hOc0 hOf0 hOc1 hOf1 hOc2 hOf2 hOc3 hOf3;have hb2:=bt hbN hb;replace hK:=hK.after hb2;replace hO:=hO.after hb2;replace hT:=hT.after hb2;replace hQ:=hQ.after hb2;replace hV1:=SsAt.after hV1 hb2;replace hBW:=bt hBW hb2;clear hN hbN hb hb2 HFM;have hQl:=hQ.lt;cases fm
 case false =>
  have HX:=Lib.hid (HBAD.out rfl);clear hK hO hT hV1;obtain ⟨hQc0,hQf0,hQc1,hQf1,hQc2,hQf2⟩:=hQ.x3;go_wp2;refine bodyPost_ret (v:=.tuple #[.slice none 0 0,.slice none 0 0,.agg #[.slice none 0 0,.string ⟨#[]⟩,.int .i64 0],.int .i64 3]) ?_ rfl ?_
  ·simp [results,Tryz.results19,go_sem,hQc0,hQc1,hQc2,hQl]
  ·rw [HX.out];exact PrPost.err (((hBW.setCell HWQ.out _).setCell HWQ.out _).setCell HWQ.out _)
 case true =>
  obtain ⟨hTc0,hTf0,hTc1,hTf1,hTc2,hTf2⟩:=hT.x3;go_wp2_with fail
  refine (HTP.out _ _ hV1).mono ?_;rintro e w3 ⟨rfl,hb⟩;clear hTc0 hTf0 hTc1 hTf1 hTc2 hTf2;replace hK:=hK.after hb;replace hO:=hO.after hb;replace hT:=hT.after hb;replace hQ:=hQ.after hb;replace hV1:=SsAt.after hV1 hb;replace hBW:=bt hBW hb;clear hb HTP hQl;have hQl:=hQ.lt;cases tg
  case false =>
   have HX:=Lib.hid (HBAD.out rfl);clear hK hO hT hV1;obtain ⟨hQc0,hQf0,hQc1,hQf1,hQc2,hQf2⟩:=hQ.x3;go_wp2;refine bodyPost_ret (v:=.tuple #[.slice none 0 0,.slice none 0 0,.agg #[.slice none 0 0,.string ⟨#[]⟩,.int .i64 0],.int .i64 3]) ?_ rfl ?_
   ·simp [results,Tryz.results19,go_sem,hQc0,hQc1,hQc2,hQl]
   ·rw [HX.out];exact PrPost.err (((hBW.setCell HWQ.out _).setCell HWQ.out _).setCell HWQ.out _)
  case true =>
   clear HBAD;obtain ⟨kr,hkr⟩:∃n,n=rd24 a b c d:=⟨_,rfl⟩;rw [←hkr] at HRD;have HKR:=Lib.hid hkr;clear hkr;obtain ⟨hKc0,hKf0,hKc1,hKf1,hKc2,hKf2,hKc3,hKf3⟩:=hK.x4;go_wp2_with fail
   refine (HRD.out _).mono ?_;rintro e w4 ⟨rfl,hb⟩;clear hKc0 hKf0 hKc1 hKf1 hKc2 hKf2 hKc3 hKf3;replace hK:=hK.after hb;replace hO:=hO.after hb;replace hT:=hT.after hb;replace hQ:=hQ.after hb;replace hV1:=SsAt.after hV1 hb;replace hBW:=bt hBW hb;clear hb HRD hQl;have hQl:=hQ.lt;by_cases h0:kr=0
   case neg =>
    have hkb:((kr:Int) != 0)=true:=by rw [bne_iff_ne];omega
    have HX:Hid (R=⟨kr,[],[],Tp.nil⟩):=by
     rw [Hid,HR.out,rd24_bad HFT.out.1.symm HFT.out.2.symm (by rw [←HKR.out];exact h0),←HKR.out]
    clear h0;clear hK hO hT hV1;obtain ⟨hQc0,hQf0,hQc1,hQf1,hQc2,hQf2⟩:=hQ.x3;go_wp2;refine bodyPost_ret (v:=.tuple #[.slice none 0 0,.slice none 0 0,.agg #[.slice none 0 0,.string ⟨#[]⟩,.int .i64 0],.int .i64 (kr:Int)]) ?_ rfl ?_
    ·simp [results,Tryz.results19,go_sem,hQc0,hQc1,hQc2,hQl]
    ·rw [HX.out];exact PrPost.err (((hBW.setCell HWQ.out _).setCell HWQ.out _).setCell HWQ.out _)
   case pos =>
    subst h0;obtain ⟨hv4,hrw⟩:=rd24_zero (lo:=lo) (hi:=hi) HKR.out.symm;have HRW:=Lib.hid hrw;have HV4:=Lib.hid hv4;clear hrw hv4;obtain ⟨wn,hwn⟩:∃n,n=(widE lo hi).1:=⟨_,rfl⟩;obtain ⟨we,hwe⟩:∃n,n=(widE lo hi).2:=⟨_,rfl⟩;rw [←hwn,←hwe] at HWI;have HWN:Hid (wn=(rdyE a b c d lo hi).1):=by rw [Hid,HRW.out];exact hwn
    have HWE:Hid (we=(rdyE a b c d lo hi).2):=by rw [Hid,HRW.out];exact hwe
    clear hwn hwe;go_wp2_with fail
    refine (HWI.out _).mono ?_;rintro e w5 ⟨rfl,hb⟩;replace hK:=hK.after hb;replace hO:=hO.after hb;replace hT:=hT.after hb;replace hQ:=hQ.after hb;replace hV1:=SsAt.after hV1 hb;replace hBW:=bt hBW hb;clear hb HWI hQl;have hQl:=hQ.lt;by_cases h0:we=0
    case neg =>
     have hkb:((we:Int) != 0)=true:=by rw [bne_iff_ne];omega
     have HX:Hid (R=⟨we,[],[],Tp.nil⟩):=by
      rw [Hid,HR.out,rgR,←HFT.out.1,←HFT.out.2,HV4.out,if_neg (by decide),←HWE.out,if_pos h0]
     clear h0;clear hK hO hT hV1;obtain ⟨hQc0,hQf0,hQc1,hQf1,hQc2,hQf2⟩:=hQ.x3;go_wp2;refine bodyPost_ret (v:=.tuple #[.slice none 0 0,.slice none 0 0,.agg #[.slice none 0 0,.string ⟨#[]⟩,.int .i64 0],.int .i64 (we:Int)]) ?_ rfl ?_
     ·simp [results,Tryz.results19,go_sem,hQc0,hQc1,hQc2,hQl]
     ·rw [HX.out];exact PrPost.err (((hBW.setCell HWQ.out _).setCell HWQ.out _).setCell HWQ.out _)
    case pos =>
     subst h0;obtain ⟨s1,s2,s3,s4,s5,s6⟩:=HSZ.out;have hvo:vlO ⟨vn,va,rn,ra⟩=true:=HFT.out.1.symm;have htg:T.good=true:=HFT.out.2.symm;have hv4:=HV4.out;obtain ⟨p,q,g,h,rfl,rfl,rfl,rfl,hp,hq,h2,hgb,hhb,he,hle,hwE,hw32⟩:=rg_facts hv4 s1 s2 s3 s4 HWE.out.symm;obtain ⟨x,y,rfl,rfl,hx,hy⟩:=vlO_E hvo s5 s6;have hRE:=rgR_E (att:=att) (by rw [hvo,hv4];rfl) htg HWE.out.symm;rw [←HR.out,←HWN.out] at hRE;rw [←HWN.out] at hwE;obtain ⟨D,hD⟩:∃D:Nat,(D:Int)=hi-lo:=⟨(hi-lo).toNat,by omega⟩;have hDn:(hi-lo).toNat=D:=by omega
     have HDN:=Lib.hid hDn;rw [hDn] at hwE hw32;rw [←hwE] at hw32;have hD2:D<2^wn:=by rw [hwE];exact lt_nb D
     have hD3:D<4294967296:=Nat.lt_of_lt_of_le hD2 (Nat.pow_le_pow_right (by decide) hw32);have HWD:Hid (wn≤32∧D<2^wn∧D<4294967296):=⟨hw32,hD2,hD3⟩;have HPQ:Hid (p<256^8∧q<256^8∧2≤q∧g<256^100∧h<256^100∧pedE p q g h=0):=⟨hp,hq,h2,hgb,hhb,he⟩;have HTG:Hid (T.good=true):=htg;have HLE:Hid (lo≤hi∧(D:Int)=hi-lo):=⟨hle,hD⟩;have u16:∀{n:Nat},n<256^16→n<256^128:=fun h=>Nat.lt_of_lt_of_le h (Nat.pow_le_pow_right (by decide) (by decide))
     have u8:∀{n:Nat},n<256^8→n<256^128:=fun h=>Nat.lt_of_lt_of_le h (Nat.pow_le_pow_right (by decide) (by decide))
     have HRE:Hid (R=if (vn || decide (q≤x) || (rn || decide (q≤y)))=true then ⟨2,[],[],Tp.nil⟩ else if wn=0 then ⟨0,[],[],T⟩ else rgS att p g h q (dstE q lo hi x).1 (othE lo hi (dstE q lo hi x)) T wn):=hRE;have HC1:Hid (∀w:World,Calls Tryz.prog 50 #[.agg #[.string (E p),.string (E q),.string (E g),.string (E h)],.agg #[.bool vn,.string (E x)]] w fun e w'=>e=.returned (.bool (!vn&&decide (x<q)))∧Below w.heap.size w w'):=fun w=>r24reduced_c p q g h x vn w (u8 hq) (u16 hx)
     have HC2:Hid (∀w:World,Calls Tryz.prog 50 #[.agg #[.string (E p),.string (E q),.string (E g),.string (E h)],.agg #[.bool rn,.string (E y)]] w fun e w'=>e=.returned (.bool (!rn&&decide (y<q)))∧Below w.heap.size w w'):=fun w=>r24reduced_c p q g h y rn w (u8 hq) (u16 hy)
     obtain ⟨g1,hg1⟩:∃t,t=(!vn&&decide (x<q)):=⟨_,rfl⟩;obtain ⟨g2,hg2⟩:∃t,t=(!rn&&decide (y<q)):=⟨_,rfl⟩;rw [←hg1] at HC1;rw [←hg2] at HC2;have HG1:=Lib.hid hg1;have HG2:=Lib.hid hg2;clear HSZ HFT HR HWN HWE HRW HV4 HKR s1 s2 s3 s4 s5 s6 hvo htg hv4 hp hq h2 hgb hhb he hle hwE hw32 hx hy hRE hD hDn hD2 hD3 u16 u8 hg1 hg2;obtain ⟨hKc0,hKf0,hKc1,hKf1,hKc2,hKf2,hKc3,hKf3⟩:=hK.x4;obtain ⟨hOc0,hOf0,hOc1,hOf1,hOc2,hOf2,hOc3,hOf3⟩:=hO.x4;go_wp2_with fail
     refine (HC1.out _).mono ?_;rintro e w6 ⟨rfl,hb⟩;clear hKc0 hKf0 hKc1 hKf1 hKc2 hKf2 hKc3 hKf3;clear hOc0 hOf0 hOc1 hOf1 hOc2 hOf2 hOc3 hOf3;replace hK:=hK.after hb;replace hO:=hO.after hb;replace hT:=hT.after hb;replace hQ:=hQ.after hb;replace hV1:=SsAt.after hV1 hb;replace hBW:=bt hBW hb;clear hb HC1 hQl;have hQl:=hQ.lt;cases g1
     case false =>
      have HX:Hid (R=⟨2,[],[],Tp.nil⟩):=by
       have h5:=HG1.out;rw [Hid,HRE.out,if_pos];cases vn
       ·have h6:¬ x<q:=of_decide_eq_false (by simpa using h5.symm);rw [decide_eq_true (show q≤x by omega)];simp
       ·rfl
      clear hK hO hT hV1;obtain ⟨hQc0,hQf0,hQc1,hQf1,hQc2,hQf2⟩:=hQ.x3;go_wp2;refine bodyPost_ret (v:=.tuple #[.slice none 0 0,.slice none 0 0,.agg #[.slice none 0 0,.string ⟨#[]⟩,.int .i64 0],.int .i64 2]) ?_ rfl ?_
      ·simp [results,Tryz.results19,go_sem,hQc0,hQc1,hQc2,hQl]
      ·rw [HX.out];exact PrPost.err (((hBW.setCell HWQ.out _).setCell HWQ.out _).setCell HWQ.out _)
     case true =>
      have hvx:vn=false∧x<q:=by
       have h5:=HG1.out;cases vn
       ·exact ⟨rfl,of_decide_eq_true (by simpa using h5.symm)⟩
       ·cases h5
      obtain ⟨rfl,hxq⟩:=hvx;have HXQ:=Lib.hid hxq;clear hxq HG1;obtain ⟨hKc0,hKf0,hKc1,hKf1,hKc2,hKf2,hKc3,hKf3⟩:=hK.x4;obtain ⟨hOc0,hOf0,hOc1,hOf1,hOc2,hOf2,hOc3,hOf3⟩:=hO.x4;go_wp2_with fail
      refine (HC2.out _).mono ?_;rintro e w7 ⟨rfl,hb⟩;clear hKc0 hKf0 hKc1 hKf1 hKc2 hKf2 hKc3 hKf3;clear hOc0 hOf0 hOc1 hOf1 hOc2 hOf2 hOc3 hOf3;replace hK:=hK.after hb;replace hO:=hO.after hb;replace hT:=hT.after hb;replace hQ:=hQ.after hb;replace hV1:=SsAt.after hV1 hb;replace hBW:=bt hBW hb;clear hb HC2 hQl;have hQl:=hQ.lt;cases g2
      case false =>
       have HX:Hid (R=⟨2,[],[],Tp.nil⟩):=by
        have h5:=HG2.out;rw [Hid,HRE.out,if_pos];cases rn
        ·have h6:¬ y<q:=of_decide_eq_false (by simpa using h5.symm);rw [decide_eq_true (show q≤y by omega)];simp
        ·simp
       clear hK hO hT hV1;obtain ⟨hQc0,hQf0,hQc1,hQf1,hQc2,hQf2⟩:=hQ.x3;go_wp2;refine bodyPost_ret (v:=.tuple #[.slice none 0 0,.slice none 0 0,.agg #[.slice none 0 0,.string ⟨#[]⟩,.int .i64 0],.int .i64 2]) ?_ rfl ?_
       ·simp [results,Tryz.results19,go_sem,hQc0,hQc1,hQc2,hQl]
       ·rw [HX.out];exact PrPost.err (((hBW.setCell HWQ.out _).setCell HWQ.out _).setCell HWQ.out _)
      case true =>
       have hvy:rn=false∧y<q:=by
        have h5:=HG2.out;cases rn
        ·exact ⟨rfl,of_decide_eq_true (by simpa using h5.symm)⟩
        ·cases h5
       obtain ⟨rfl,hyq⟩:=hvy
       have HR2:Hid (R=if wn=0 then ⟨0,[],[],T⟩ else rgS att p g h q (dstE q lo hi x).1 (othE lo hi (dstE q lo hi x)) T wn):=by
        rw [Hid,HRE.out,if_neg];rw [decide_eq_false (show ¬ q≤x by have:=HXQ.out;omega),decide_eq_false (show ¬ q≤y by omega)];simp
       clear hyq HG2 HRE;by_cases hw0:wn=0
       case pos =>
        subst hw0;have HX:Hid (R=⟨0,[],[],T⟩):=by rw [Hid,HR2.out,if_pos rfl]
        have n1:gT≠gQ:=by have:=HGW.out;omega
        have n1':¬ gT=gQ:=n1;have hTl:=hT.lt;have hVE:=hV1;go_upto_region 12 with fail
        obtain ⟨hTc0,hTf0,hTc1,hTf1,hTc2,hTf2⟩:=hT.x3;obtain ⟨hQc0,hQf0,hQc1,hQf1,hQc2,hQf2⟩:=hQ.x3;go_region
        all_goals
         go_wp2;refine bodyPost_ret (v:=.tuple #[.slice none 0 0,.slice none 0 0,.agg #[.slice at_ nt ct,.string T.seed,.int .i64 T.pos],.int .i64 0]) ?_ rfl ?_
         ·simp [results,Tryz.results19,go_sem,hQc0,hQc1,hQc2,hQl]
         ·rw [HX.out];refine ⟨_,_,_,rfl,World.ownsRow_nil _ _ _ _,World.ownsRow_nil _ _ _ _,⟨_,rfl,SsAt.after (((hVE.set_far hFQ).set_far hFQ).set_far hFQ) (Below.drew (Below.refl _ _))⟩,(((hBW.setCell HWQ.out _).setCell HWQ.out _).setCell HWQ.out _).drew⟩
       case neg =>
        have hw0b:((wn:Int)==0)=false:=by rw [beq_eq_false_iff_ne];omega
        have HW1:Hid (1≤wn):=by rw [Hid];omega
        have HR3:Hid (R=rgS att p g h q (dstE q lo hi x).1 (othE lo hi (dstE q lo hi x)) T wn):=by rw [Hid,HR2.out,if_neg hw0]
        have HDS:Hid (∀w:World,Calls Tryz.prog 16 #[.agg #[.string (E p),.string (E q),.string (E g),.string (E h)],.int .i64 lo,.int .i64 hi,.string (E x)] w fun e w'=>e=.returned (.tuple #[.int .i64 ((dstE q lo hi x).1:Int),.bool (dstE q lo hi x).2])∧Below w.heap.size w w'):=fun w=>rdist_c p q g h x lo hi w HPQ.out.2.1 (by have:=HPQ.out.2.2.1;omega) HXQ.out HLH.out.1 HLH.out.2.1 HLE.out.1 (by have:=HLE.out.2;have:=HWD.out.2.2;omega)
        have hdl:=dst_le (q:=q) (x:=x) (lo:=lo) (hi:=hi);rw [HDN.out] at hdl
        have HOB:Hid (((dstE q lo hi x).2=true→othE lo hi (dstE q lo hi x)=D-(dstE q lo hi x).1)∧((dstE q lo hi x).2=false→othE lo hi (dstE q lo hi x)=0)):=by
         refine ⟨fun e=>?_,fun e=>?_⟩
         ·unfold othE;rw [if_pos e,HDN.out]
         ·unfold othE;rw [if_neg (by rw [e];decide)]
        clear hw0 HR2;obtain ⟨oB,hoB⟩:∃n,n=othE lo hi (dstE q lo hi x):=⟨_,rfl⟩;rw [←hoB] at HOB HR3;obtain ⟨dA,hdA⟩:∃n,n=(dstE q lo hi x).1:=⟨_,rfl⟩;obtain ⟨ins,hins⟩:∃n,n=(dstE q lo hi x).2:=⟨_,rfl⟩;rw [←hins,←hdA] at HDS;rw [←hins,←hdA] at HOB hdl;rw [←hdA] at HR3;have HDL:=Lib.hid hdl
        have hoBD:oB≤D:=by
         cases ins
         ·rw [HOB.out.2 rfl];omega
         ·rw [HOB.out.1 rfl];omega
        have HOD:Hid (oB<2^wn∧dA<2^wn):=⟨Nat.lt_of_le_of_lt hoBD HWD.out.2.1,Nat.lt_of_le_of_lt hdl.1 HWD.out.2.1⟩;clear hdA hins hoB hdl hoBD;obtain ⟨hKc0,hKf0,hKc1,hKf1,hKc2,hKf2,hKc3,hKf3⟩:=hK.x4;obtain ⟨hOc0,hOf0,hOc1,hOf1,hOc2,hOf2,hOc3,hOf3⟩:=hO.x4;go_wp2_with fail
        refine (HDS.out _).mono ?_;rintro e w8 ⟨rfl,hb⟩;clear hKc0 hKf0 hKc1 hKf1 hKc2 hKf2 hKc3 hKf3;clear hOc0 hOf0 hOc1 hOf1 hOc2 hOf2 hOc3 hOf3;clear hO;replace hK:=hK.after hb;replace hT:=hT.after hb;replace hQ:=hQ.after hb;replace hV1:=SsAt.after hV1 hb;replace hBW:=bt hBW hb;clear hb HDS HXQ hQl hw0b
        have hwr1:IntKind.wrap .i64 (hi-lo)=(D:Int):=by
         rw [←HLE.out.2,IntKind.wrap_i64];have:=HWD.out.2.2;omega
        have hwr2:IntKind.wrap .i64 ((D:Int)-(dA:Int))=((D-dA:Nat):Int):=by
         rw [IntKind.wrap_i64];have:=HWD.out.2.2;have:=HDL.out.1;omega
        have hwr3:IntKind.wrap .i64 (hi-lo-(dA:Int))=((D-dA:Nat):Int):=by rw [←HLE.out.2,hwr2]
        go_upto_if 82 with fail
        go_cut [17,19] (fun s17 s19 wx=>s17=.int .i64 (dA:Int)∧s19=.int .i64 (oB:Int)∧wx=w8)
        case first =>
         cases ins
         ·have hoz:=HOB.out.2 rfl;have hdz:=HDL.out.2 rfl;subst hoz hdz;go_wp2;go_meet
          exact ⟨rfl,rfl,rfl⟩
         ·have hoz:=HOB.out.1 rfl;subst hoz;go_wp2;go_meet
          exact ⟨rfl,by first | rfl | simp only [hwr1,hwr2,hwr3],rfl⟩
        case rest =>
         obtain ⟨hs17,hs19,rfl⟩:=hcut;subst hs17 hs19;clear hwr1 hwr2 hwr3;have HSP1:Hid (∀(u:Value) (w':World),SsAt w' u T.vals→Calls Tryz.prog 51 #[.agg #[.string (E p),.string (E q),.string (E g),.string (E h)],.int .i64 (wn:Int),.int .i64 (dA:Int),.agg #[u,.string T.seed,.int .i64 T.pos]] w' (PrPostF w' (splN att p g h q (dgs dA wn) T wn))):=fun u w' hu=>rsplit_c att p q g h wn dA T u w' HAT.out HOK.out HTG.out HPQ.out.1 HPQ.out.2.1 HPQ.out.2.2.1 HPQ.out.2.2.2.1 HPQ.out.2.2.2.2.1 HPQ.out.2.2.2.2.2 HW1.out HWD.out.1 HOD.out.2 hu
         obtain ⟨S1,hS1⟩:∃S,S=splN att p g h q (dgs dA wn) T wn:=⟨_,rfl⟩;have HC1:=Lib.hid (splN_cases att p g h q (dgs dA wn) T wn);rw [←hS1] at HSP1 HC1;have HP1:Hid ((prP att p g h q (dgs dA wn) T wn).length=wn∧(prO att q (dgs dA wn) T wn).length=wn):=⟨prP_len ..,prO_len ..⟩;have HRB1:Hid (S1.err≠0→R=⟨S1.err,[],[],Tp.nil⟩):=fun e=>by rw [HR3.out,rgS,←hS1,if_pos e]
         have HSD:=Lib.hid hS1;clear hS1;have hQl:=hQ.lt;have hTl:=hT.lt;obtain ⟨hKc0,hKf0,hKc1,hKf1,hKc2,hKf2,hKc3,hKf3⟩:=hK.x4;obtain ⟨hTc0,hTf0,hTc1,hTf1,hTc2,hTf2⟩:=hT.x3;go_wp2_with fail
         refine (HSP1.out _ _ hV1).mono ?_;rintro e w9 ⟨c1,o1,t1,rfl,hN1,hO1,⟨tu,rfl,htu⟩,htf,hb⟩;clear hKc0 hKf0 hKc1 hKf1 hKc2 hKf2 hKc3 hKf3;clear hTc0 hTf0 hTc1 hTf1 hTc2 hTf2;clear HSP1 hV1 hFT hFQ;obtain ⟨ta,tc,rfl⟩:=RAt.form htu;obtain ⟨tm,htm⟩:∃n,n=S1.tp.vals.length:=⟨_,rfl⟩;obtain ⟨sd,hsd⟩:∃n,n=S1.tp.seed:=⟨_,rfl⟩;obtain ⟨ti,hti⟩:∃n,n=S1.tp.pos:=⟨_,rfl⟩;rw [←htm] at htu htf ⊢;rw [←hsd,←hti] at htf ⊢;have HTM:=Lib.hid htm;have HSD1:=Lib.hid hsd;have HTI:=Lib.hid hti;clear htm hsd hti;have hFT:=htf.far hTl;have hFQ:=htf.far hQl;have HBW8:Hid (w.heap.size≤wc.heap.size):=hBW.size;have hTne:c1.ownBlock≠some gT:=fun e=>by have:=(own_lt hN1 e).2;omega
         have hTne2:o1.ownBlock≠some gT:=fun e=>by have:=(own_lt hO1 e).2;omega
         replace hK:=hK.after hb;replace hT:=hT.after hb;replace hQ:=hQ.after hb;replace hBW:=bt hBW hb;have HB9:Hid (wc.heap.size≤w9.heap.size):=hb.size;clear hb htf hTl hQl;have hTl:=hT.lt;have lT:w.heap.size≤gT:=by have:=HGW.out;omega
         have nKT:gK≠gT:=blk_neT' hK hT (by decide);have nQT:gQ≠gT:=by have:=HGW.out;omega
         obtain ⟨hTc0,hTf0,hTc1,hTf1,hTc2,hTf2⟩:=hT.x3;go_upto_region 18 with fail
         clear hTc0 hTf0 hTc1 hTf1 hTc2 hTf2;replace htu:=((htu.set_far (i:=0) (x:=.slice ta tm tc) hFT).set_far (i:=1) (x:=.string sd) hFT).set_far (i:=2) (x:=.int .i64 ti) hFT;replace hN1:=own_set (u:=.int .i64 ti) (i:=2) (own_set (u:=.string sd) (i:=1) (own_set (u:=.slice ta tm tc) (i:=0) hN1 hTne) hTne) hTne;replace hO1:=own_set (u:=.int .i64 ti) (i:=2) (own_set (u:=.string sd) (i:=1) (own_set (u:=.slice ta tm tc) (i:=0) hO1 hTne2) hTne2) hTne2;have HBA:Hid (wc.heap.size≤(((w9.setCell ⟨gT,0,none⟩ (.slice ta tm tc)).setCell ⟨gT,1,none⟩ (.string sd)).setCell ⟨gT,2,none⟩ (.int .i64 ti)).heap.size):=by rw [Hid];simp only [World.size_setCell];exact HB9.out
         replace hK:=blk_o3 hK nKT (.slice ta tm tc) (.string sd) (.int .i64 ti);replace hQ:=blk_o3 hQ nQT (.slice ta tm tc) (.string sd) (.int .i64 ti);replace hT:=((hT.set 0 (.slice ta tm tc)).set 1 (.string sd)).set 2 (.int .i64 ti);replace hBW:=((hBW.setCell (p:=⟨gT,0,none⟩) lT (.slice ta tm tc)).setCell (p:=⟨gT,1,none⟩) lT (.string sd)).setCell (p:=⟨gT,2,none⟩) lT (.int .i64 ti);generalize ((w9.setCell ⟨gT,0,none⟩ (.slice ta tm tc)).setCell ⟨gT,1,none⟩ (.string sd)).setCell ⟨gT,2,none⟩ (.int .i64 ti)=wA at htu hN1 hO1 HBA hK hQ hT hBW ⊢;replace hT:Blk wA gT 42 [.slice ta tm tc,.string sd,.int .i64 ti]:=hT;clear hTl hTne hTne2;have hQl:=hQ.lt;by_cases h1:S1.err=0
         case neg =>
          have hkb:((S1.err:Int) != 0)=true:=by rw [bne_iff_ne];omega
          have HX:=Lib.hid (HRB1.out h1);obtain ⟨k1,hk1⟩:∃k,k=S1.err:=⟨_,rfl⟩;rw [←hk1] at hkb HX ⊢;clear h1 hk1 hK hT htu hN1 hO1;obtain ⟨hQc0,hQf0,hQc1,hQf1,hQc2,hQf2⟩:=hQ.x3;go_wp2;refine bodyPost_ret (v:=.tuple #[.slice none 0 0,.slice none 0 0,.agg #[.slice none 0 0,.string ⟨#[]⟩,.int .i64 0],.int .i64 (k1:Int)]) ?_ rfl ?_
          ·simp [results,Tryz.results19,go_sem,hQc0,hQc1,hQc2,hQl]
          ·rw [HX.out];exact PrPost.err (((hBW.setCell HWQ.out _).setCell HWQ.out _).setCell HWQ.out _)
         case pos =>
          have hkb:((S1.err:Int) != 0)=false:=by rw [h1];rfl
          have hS1:S1=⟨0,prP att p g h q (dgs dA wn) T wn,prO att q (dgs dA wn) T wn,T.on wn⟩∧(∀j,j<wn→(prC att q T j).1=0):=by
           rcases HC1.out with ⟨_,e1,e2⟩ | ⟨e1,_⟩
           ·exact ⟨e1,e2⟩
           ·exact absurd h1 e1
          have HE1:=Lib.hid hS1.1;have HGD1:Hid ((T.on wn).good=true):=good_all HOK.out.n HTG.out wn hS1.2;clear hS1 HC1 HRB1;obtain ⟨L1,hL1⟩:∃l,l=S1.parts:=⟨_,rfl⟩;obtain ⟨M1,hM1⟩:∃l,l=S1.ops:=⟨_,rfl⟩
          have hN1':wA.ownsRow wc.heap.size 31 1 c1 wn (strs L1):=by
           have e:S1.parts.length=wn:=by rw [HE1.out];exact HP1.out.1
           have h5:wA.ownsRow wc.heap.size 31 1 c1 S1.parts.length (strs S1.parts):=hN1;rw [e] at h5;rw [hL1];exact h5
          have hO1':wA.ownsRow wc.heap.size 39 4 o1 wn ((M1.map nop).flatMap opc):=by
           have e:S1.ops.length=wn:=by rw [HE1.out];exact HP1.out.2
           have h5:wA.ownsRow wc.heap.size 39 4 o1 S1.ops.length ((S1.ops.map nop).flatMap opc):=hO1;rw [e] at h5;rw [hM1];exact h5
          have HTP1:Hid (S1.tp.vals=T.vals∧sd=T.seed∧ti=T.pos+(wn:Int)):=by
           rw [Hid,HSD1.out,HTI.out,HE1.out];exact ⟨rfl,rfl,rfl⟩
          have HL1:=Lib.hid hL1;have HM1:=Lib.hid hM1;rw [HTP1.out.1] at htu;obtain ⟨e2,e3⟩:=HTP1.out.2;subst e2 e3;clear hN1 hO1 hL1 hM1 HTP1 HP1 HSD1 HTI;have HSP2:Hid (∀(u:Value) (w':World),SsAt w' u T.vals→Calls Tryz.prog 51 #[.agg #[.string (E p),.string (E q),.string (E g),.string (E h)],.int .i64 (wn:Int),.int .i64 (oB:Int),.agg #[u,.string T.seed,.int .i64 (T.pos+(wn:Int))]] w' (PrPostF w' (splN att p g h q (dgs oB wn) (T.on wn) wn))):=fun u w' hu=>rsplit_c att p q g h wn oB (T.on wn) u w' HAT.out (HOK.out.on wn) HGD1.out HPQ.out.1 HPQ.out.2.1 HPQ.out.2.2.1 HPQ.out.2.2.2.1 HPQ.out.2.2.2.2.1 HPQ.out.2.2.2.2.2 HW1.out HWD.out.1 HOD.out.1 hu
          obtain ⟨S2,hS2⟩:∃S,S=splN att p g h q (dgs oB wn) (T.on wn) wn:=⟨_,rfl⟩;have HC2:=Lib.hid (splN_cases att p g h q (dgs oB wn) (T.on wn) wn);rw [←hS2] at HSP2 HC2;have HP2:Hid ((prP att p g h q (dgs oB wn) (T.on wn) wn).length=wn∧(prO att q (dgs oB wn) (T.on wn) wn).length=wn):=⟨prP_len ..,prO_len ..⟩
          have HR4:Hid (R=if S2.err≠0 then ⟨S2.err,[],[],Tp.nil⟩ else ⟨0,L1++S2.parts,M1++S2.ops,T.on (wn+wn)⟩):=by
           rw [Hid,HR3.out,rgS,←HSD.out,if_neg (by rw [h1];decide),←hS2,HL1.out,HM1.out]
          have HSE:=Lib.hid hS2;clear hS2 HR3 HSD HE1 HL1 HM1 h1;have hTl:=hT.lt;obtain ⟨hKc0,hKf0,hKc1,hKf1,hKc2,hKf2,hKc3,hKf3⟩:=hK.x4;obtain ⟨hTc0,hTf0,hTc1,hTf1,hTc2,hTf2⟩:=hT.x3;go_wp2_with fail
          refine (HSP2.out _ _ htu).mono ?_;rintro e wB ⟨c2,o2,t2,rfl,hN2,hO2,⟨tu2,rfl,htu2⟩,htf2,hb⟩;clear hKc0 hKf0 hKc1 hKf1 hKc2 hKf2 hKc3 hKf3;clear hTc0 hTf0 hTc1 hTf1 hTc2 hTf2;clear HSP2 htu hFT hFQ;obtain ⟨tb,td,rfl⟩:=RAt.form htu2;obtain ⟨tn,htn⟩:∃n,n=S2.tp.vals.length:=⟨_,rfl⟩;obtain ⟨sd2,hsd2⟩:∃n,n=S2.tp.seed:=⟨_,rfl⟩;obtain ⟨ti2,hti2⟩:∃n,n=S2.tp.pos:=⟨_,rfl⟩;rw [←htn] at htu2 htf2 ⊢;rw [←hsd2,←hti2] at htf2 ⊢;have HTN:=Lib.hid htn;have HSD2:=Lib.hid hsd2;have HTI2:=Lib.hid hti2;clear htn hsd2 hti2;have hFT:=htf2.far hTl;have hFQ:=htf2.far hQl;have hFC:∀y,c1.ownBlock=some y→FarS (.slice tb tn td) y:=fun y hy=>htf2.far (own_lt hN1' hy).1
          have hFO:∀y,o1.ownBlock=some y→FarS (.slice tb tn td) y:=fun y hy=>htf2.far (own_lt hO1' hy).1
          have hTne:=own_ne hN1' hT (by decide);have hTne2:=own_ne hO1' hT (by decide);have hTne3:c2.ownBlock≠some gT:=fun e=>by have:=(own_lt hN2 e).2;omega
          have hTne4:o2.ownBlock≠some gT:=fun e=>by have:=(own_lt hO2 e).2;omega
          replace hK:=hK.after hb;replace hT:=hT.after hb;replace hQ:=hQ.after hb;replace hN1':=own_after hN1' hb;replace hO1':=own_after hO1' hb;replace hBW:=bt hBW hb;clear hb htf2 hTl hQl;have hTl:=hT.lt;obtain ⟨hTc0,hTf0,hTc1,hTf1,hTc2,hTf2⟩:=hT.x3;go_upto_region 21 with fail
          clear hTc0 hTf0 hTc1 hTf1 hTc2 hTf2;replace htu2:=((htu2.set_far (i:=0) (x:=.slice tb tn td) hFT).set_far (i:=1) (x:=.string sd2) hFT).set_far (i:=2) (x:=.int .i64 ti2) hFT;replace hN1':=own_set (u:=.int .i64 ti2) (i:=2) (own_set (u:=.string sd2) (i:=1) (own_set (u:=.slice tb tn td) (i:=0) hN1' hTne) hTne) hTne;replace hO1':=own_set (u:=.int .i64 ti2) (i:=2) (own_set (u:=.string sd2) (i:=1) (own_set (u:=.slice tb tn td) (i:=0) hO1' hTne2) hTne2) hTne2;replace hN2:=own_set (u:=.int .i64 ti2) (i:=2) (own_set (u:=.string sd2) (i:=1) (own_set (u:=.slice tb tn td) (i:=0) hN2 hTne3) hTne3) hTne3;replace hO2:=own_set (u:=.int .i64 ti2) (i:=2) (own_set (u:=.string sd2) (i:=1) (own_set (u:=.slice tb tn td) (i:=0) hO2 hTne4) hTne4) hTne4;replace hK:=blk_o3 hK nKT (.slice tb tn td) (.string sd2) (.int .i64 ti2);replace hQ:=blk_o3 hQ nQT (.slice tb tn td) (.string sd2) (.int .i64 ti2);replace hT:=((hT.set 0 (.slice tb tn td)).set 1 (.string sd2)).set 2 (.int .i64 ti2);replace hBW:=((hBW.setCell (p:=⟨gT,0,none⟩) lT (.slice tb tn td)).setCell (p:=⟨gT,1,none⟩) lT (.string sd2)).setCell (p:=⟨gT,2,none⟩) lT (.int .i64 ti2);generalize ((wB.setCell ⟨gT,0,none⟩ (.slice tb tn td)).setCell ⟨gT,1,none⟩ (.string sd2)).setCell ⟨gT,2,none⟩ (.int .i64 ti2)=wD at htu2 hN1' hO1' hN2 hO2  hK hQ hT hBW ⊢;replace hT:Blk wD gT 42 [.slice tb tn td,.string sd2,.int .i64 ti2]:=hT;clear hTl hTne hTne2 hTne3 hTne4;have hQl:=hQ.lt;by_cases h2:S2.err=0
          case neg =>
           have hkb2:((S2.err:Int) != 0)=true:=by rw [bne_iff_ne];omega
           have HX:Hid (R=⟨S2.err,[],[],Tp.nil⟩):=by rw [Hid,HR4.out,if_pos h2]
           obtain ⟨k1,hk1⟩:∃k,k=S2.err:=⟨_,rfl⟩;rw [←hk1] at hkb2 HX ⊢;clear h2 hk1 hK hT htu2 hN1' hO1' hN2 hO2 hkb;obtain ⟨hQc0,hQf0,hQc1,hQf1,hQc2,hQf2⟩:=hQ.x3;go_wp2;refine bodyPost_ret (v:=.tuple #[.slice none 0 0,.slice none 0 0,.agg #[.slice none 0 0,.string ⟨#[]⟩,.int .i64 0],.int .i64 (k1:Int)]) ?_ rfl ?_
           ·simp [results,Tryz.results19,go_sem,hQc0,hQc1,hQc2,hQl]
           ·rw [HX.out];exact PrPost.err (((hBW.setCell HWQ.out _).setCell HWQ.out _).setCell HWQ.out _)
          case pos =>
           have hkb2:((S2.err:Int) != 0)=false:=by rw [h2];rfl
           have hS2:S2=⟨0,prP att p g h q (dgs oB wn) (T.on wn) wn,prO att q (dgs oB wn) (T.on wn) wn,(T.on wn).on wn⟩:=by
            rcases HC2.out with ⟨_,e1,e2⟩ | ⟨e1,_⟩
            ·exact e1
            ·exact absurd h2 e1
           have HE2:=Lib.hid hS2;have HX:Hid (R=⟨0,L1++S2.parts,M1++S2.ops,T.on (wn+wn)⟩):=by rw [Hid,HR4.out,if_neg (by rw [h2];decide)]
           clear hS2 HC2 HR4;obtain ⟨L2,hL2⟩:∃l,l=S2.parts:=⟨_,rfl⟩;obtain ⟨M2,hM2⟩:∃l,l=S2.ops:=⟨_,rfl⟩;rw [←hL2,←hM2] at HX
           have hN2':wD.ownsRow w.heap.size 31 1 c2 wn (strs L2):=by
            have e:S2.parts.length=wn:=by rw [HE2.out];exact HP2.out.1
            have h5:wD.ownsRow wA.heap.size 31 1 c2 S2.parts.length (strs S2.parts):=hN2;rw [e] at h5;rw [hL2];exact own_mono h5 (Nat.le_trans HBW8.out HBA.out)
           have hO2':wD.ownsRow w.heap.size 39 4 o2 wn ((M2.map nop).flatMap opc):=by
            have e:S2.ops.length=wn:=by rw [HE2.out];exact HP2.out.2
            have h5:wD.ownsRow wA.heap.size 39 4 o2 S2.ops.length ((S2.ops.map nop).flatMap opc):=hO2;rw [e] at h5;rw [hM2];exact own_mono h5 (Nat.le_trans HBW8.out HBA.out)
           replace hN1':=own_mono hN1' HBW8.out;replace hO1':=own_mono hO1' HBW8.out
           have HTP2:Hid (S2.tp.vals=T.vals∧sd2=T.seed∧ti2=T.pos+((wn+wn:Nat):Int)):=by
            rw [Hid,HSD2.out,HTI2.out,HE2.out,Tp.on_on];exact ⟨rfl,rfl,rfl⟩
           rw [HTP2.out.1] at htu2;obtain ⟨e2,e3⟩:=HTP2.out.2;subst e2 e3
           have HLN:Hid (L1.length=wn∧L2.length=wn∧M1.length=wn∧M2.length=wn):=by
            have h5:=hN1'.1;have h6:=hN2'.1;have h7:=hO1'.1;have h8:=hO2'.1;rw [strs_len] at h5 h6;rw [ops_len,List.length_map] at h7 h8;rw [Hid];omega
           clear hN2 hO2 hL2 hM2 HTP2 HP2 HSD2 HTI2 HE2 HSE h2 hkb;obtain ⟨i0,hi0,hz00,hz01,hz02⟩:=info_parts info_nat;obtain ⟨i1,hi1,hz10,hz11,hz12⟩:=info_parts info_opening;have HI0:=Lib.hid hi0;have HA0:=Lib.hid hz00;have HB0:=Lib.hid hz01;have HC0:=Lib.hid hz02;have HI1:=Lib.hid hi1;have HA1:=Lib.hid hz10;have HB1':=Lib.hid hz11;have HC1':=Lib.hid hz12;clear hi0 hz00 hz01 hz02 hi1 hz10 hz11 hz12;obtain ⟨gc1,cc1,rfl⟩:=own_form hN1' (by have:=HW1.out;omega);obtain ⟨gc2,cc2,rfl⟩:=own_form hN2' (by have:=HW1.out;omega);obtain ⟨go1,co1,rfl⟩:=own_form hO1' (by have:=HW1.out;omega);obtain ⟨go2,co2,rfl⟩:=own_form hO2' (by have:=HW1.out;omega);have HWS:Hid (w.heap.size≤wD.heap.size):=hBW.size;go_upto_region 23 with fail
           refine wp_region_invB (vRq w.heap.size wn (.slice (some ⟨gc1,0,none⟩) wn cc1) (.slice (some ⟨go1,0,none⟩) wn co1) (.slice (some ⟨gc2,0,none⟩) wn cc2) (.slice (some ⟨go2,0,none⟩) wn co2) (.agg #[.slice tb tn td,.string T.seed,.int .i64 (T.pos+((wn+wn:Nat):Int))]) L1 L2 M1 M2) [2,5,9] w.heap.size (fRq w.heap.size wn gT gQ (.slice (some ⟨gc1,0,none⟩) wn cc1) (.slice (some ⟨go1,0,none⟩) wn co1) (.slice (some ⟨gc2,0,none⟩) wn cc2) (.slice (some ⟨go2,0,none⟩) wn co2) L1 L2 M1 M2 [.slice tb tn td,.string T.seed,.int .i64 (T.pos+((wn+wn:Nat):Int))] (.slice tb tn td) T.vals) 118 ⟨fun _=>⟨hN1'.drew,hN2'.drew⟩,fun _=>⟨hO1'.drew,hO2'.drew⟩,hT.drew,fun _=>hQ.drew,fun e=>(by cases e),SsAt.after htu2 (Below.drew (Below.refl _ _))⟩ (by kernel_rfl) rfl (by kernel_rfl) ?_ ?_ (by kernel_rfl)
           ·intro hsl done a' w' i o hJ ho hun hpre;have hi:=(Array.getElem?_eq_some_iff.1 ho).1;have hst:=vRq_st w.heap.size wn (.slice (some ⟨gc1,0,none⟩) wn cc1) (.slice (some ⟨go1,0,none⟩) wn co1) (.slice (some ⟨gc2,0,none⟩) wn cc2) (.slice (some ⟨go2,0,none⟩) wn co2) (.agg #[.slice tb tn td,.string T.seed,.int .i64 (T.pos+((wn+wn:Nat):Int))]) L1 L2 M1 M2;have hFt:∀(st:List Bool) (w8 w9:World),Below w8.heap.size w8 w9→fRq w.heap.size wn gT gQ (.slice (some ⟨gc1,0,none⟩) wn cc1) (.slice (some ⟨go1,0,none⟩) wn co1) (.slice (some ⟨gc2,0,none⟩) wn cc2) (.slice (some ⟨go2,0,none⟩) wn co2) L1 L2 M1 M2 [.slice tb tn td,.string T.seed,.int .i64 (T.pos+((wn+wn:Nat):Int))] (.slice tb tn td) T.vals st w8→fRq w.heap.size wn gT gQ (.slice (some ⟨gc1,0,none⟩) wn cc1) (.slice (some ⟨go1,0,none⟩) wn co1) (.slice (some ⟨gc2,0,none⟩) wn cc2) (.slice (some ⟨go2,0,none⟩) wn co2) L1 L2 M1 M2 [.slice tb tn td,.string T.seed,.int .i64 (T.pos+((wn+wn:Nat):Int))] (.slice tb tn td) T.vals st w9:=fun st w8 w9 hb h=>⟨fun e=>⟨own_after (h.1 e).1 hb,own_after (h.1 e).2 hb⟩,fun e=>⟨own_after (h.2.1 e).1 hb,own_after (h.2.1 e).2 hb⟩,h.2.2.1.after hb,fun e=>(h.2.2.2.1 e).after hb,fun e=>(h.2.2.2.2.1 e).after hb,SsAt.after h.2.2.2.2.2 hb⟩
            have hwz:w.heap.size≤w'.heap.size:=Nat.le_trans HWS.out hJ.bw.size;have hTx:=hJ.ex.2.2.1;have hTl:=hTx.lt;have y0:=hTx.cell 0;have y1:=hTx.cell 1;have y2:=hTx.cell 2;match i,hi,ho,hun,hpre with
            | 0,_,ho,hun,hpre =>
             simp at ho;subst ho;refine hJ.op (d:=111) hsl hst hFt hwz rfl rfl rfl (by decide) hpre ?_;have q20:=hJ.keep 20 (.slice (some ⟨gc1,0,none⟩) wn cc1) rfl (by kernel_rfl);refine wp_val (v:=.slice (some ⟨gc1,0,none⟩) wn cc1) (by simp [execOp,q20,go_sem]) rfl
            | 1,_,ho,hun,hpre =>
             simp at ho;subst ho;refine hJ.op (d:=112) hsl hst hFt hwz rfl rfl rfl (by decide) hpre ?_;have q22:=hJ.keep 22 (.slice (some ⟨gc2,0,none⟩) wn cc2) rfl (by kernel_rfl);refine wp_val (v:=.slice (some ⟨gc2,0,none⟩) wn cc2) (by simp [execOp,q22,go_sem]) rfl
            | 2,_,ho,hun,hpre =>
             simp at ho;subst ho;obtain ⟨v111,ev111,hv111⟩:=hJ.dn 0 _ 111 rfl (hpre ⟨0,.data⟩ (by simp) rfl) rfl;have qv111:=eval_of ev111;obtain ⟨v112,ev112,hv112⟩:=hJ.dn 1 _ 112 rfl (hpre ⟨1,.data⟩ (by simp) rfl) rfl;have qv112:=eval_of ev112;obtain ⟨bA,hbA⟩:∃y,y=done.getD 5 false:=⟨_,rfl⟩;obtain ⟨bQ,hbQ⟩:∃y,y=done.getD 9 false:=⟨_,rfl⟩;have hs0:stB [2,5,9] done=[false,bA,bQ]:=by simp only [stB,List.map_cons,List.map_nil,hun,hbA,hbQ]
             have hi2:2<done.size:=by rw [hJ.sz];decide
             have hs1:stB [2,5,9] (done.setIfInBounds 2 true)=[true,bA,bQ]:=by
              have e:=hs0;simp only [stB,List.map_cons,List.map_nil,List.cons.injEq,and_true] at e;simp only [stB,List.map_cons,List.map_nil,getD_set _ _ _ hi2,e,if_true,if_false,Nat.reduceEqDiff]
             obtain rfl:v111=.slice (some ⟨gc1,0,none⟩) wn cc1:=hv111;obtain rfl:v112=.slice (some ⟨gc2,0,none⟩) wn cc2:=hv112;have hex:=hJ.ex;rw [hs0] at hex;obtain ⟨f1,f2,f3,f4,f5,f6⟩:=hex;obtain ⟨r1,r2⟩:=f1 rfl;refine wpOp_step rfl fun K' hK=>?_
             refine step_append_lies _ rfl (.tmp 111) (.tmp 112) 40 rfl w.heap.size 31 i0 _ 1 16 Tryz.underlying40 HI0.out HA0.out HB0.out HC0.out rfl (by omega) (.slice (some ⟨gc1,0,none⟩) wn cc1) wn (strs L1) qv111 r1 ⟨gc2,0,none⟩ wn cc2 (strs L2) qv112 (by rw [strs_len];have:=HLN.out;omega) (fun j u hj=>by rw [Addr.add_lit,Nat.zero_add];exact own_cellS r2 j u hj) (strsOne _) (by have:=HW1.out;omega) (by have:=HWD.out.1;simp only [maxLen];omega) (by have:=HWD.out.1;omega) hwz w'.heap.size rfl fun gE cE w'' hown hgrow hat hlt=>hK _ _ ?_
             refine hJ.put (d:=113) hsl rfl rfl hpre (Below.grown hJ.bw hgrow hwz (fun g' hg'=>(own_lt r1 hg').2)) ?_ ?_ ?_
             ·rw [hs1];exact ⟨fun e=>(by cases e),fun e=>⟨own_grown (f2 e).1 r1 (by decide) hgrow,own_grown (f2 e).2 r1 (by decide) hgrow⟩,Blk.grown f3 hgrow (own_ne r1 f3 (by decide)),fun e=>Blk.grown (f4 e) hgrow (own_ne r1 (f4 e) (by decide)),fun e=>Blk.grown (f5 e) hgrow (own_ne r1 (f5 e) (by decide)),SsAt.grown f6 hgrow hFC⟩
             ·intro j q9 hq hj hdn u h9;rw [hs0] at h9;rw [hs1];refine vRq_a r1 hgrow j u hj ?_ h9;rintro rfl;have a9:=hJ.pr 7 _ rfl hdn ⟨2,.data⟩ (by simp) rfl;rw [hun] at a9;cases a9
             ·rw [hs1];intro _;show World.ownsRow _ _ _ _ _ (wn+wn) (strs (L1++L2));rw [←strs_app];exact hown
            | 3,_,ho,hun,hpre =>
             simp at ho;subst ho;refine hJ.op (d:=114) hsl hst hFt hwz rfl rfl rfl (by decide) hpre ?_;have q21:=hJ.keep 21 (.slice (some ⟨go1,0,none⟩) wn co1) rfl (by kernel_rfl);refine wp_val (v:=.slice (some ⟨go1,0,none⟩) wn co1) (by simp [execOp,q21,go_sem]) rfl
            | 4,_,ho,hun,hpre =>
             simp at ho;subst ho;refine hJ.op (d:=115) hsl hst hFt hwz rfl rfl rfl (by decide) hpre ?_;have q23:=hJ.keep 23 (.slice (some ⟨go2,0,none⟩) wn co2) rfl (by kernel_rfl);refine wp_val (v:=.slice (some ⟨go2,0,none⟩) wn co2) (by simp [execOp,q23,go_sem]) rfl
            | 5,_,ho,hun,hpre =>
             simp at ho;subst ho;obtain ⟨v114,ev114,hv114⟩:=hJ.dn 3 _ 114 rfl (hpre ⟨3,.data⟩ (by simp) rfl) rfl;have qv114:=eval_of ev114;obtain ⟨v115,ev115,hv115⟩:=hJ.dn 4 _ 115 rfl (hpre ⟨4,.data⟩ (by simp) rfl) rfl;have qv115:=eval_of ev115;obtain ⟨bA,hbA⟩:∃y,y=done.getD 2 false:=⟨_,rfl⟩;obtain ⟨bQ,hbQ⟩:∃y,y=done.getD 9 false:=⟨_,rfl⟩;have hs0:stB [2,5,9] done=[bA,false,bQ]:=by simp only [stB,List.map_cons,List.map_nil,hun,hbA,hbQ]
             have hi5:5<done.size:=by rw [hJ.sz];decide
             have hs1:stB [2,5,9] (done.setIfInBounds 5 true)=[bA,true,bQ]:=by
              have e:=hs0;simp only [stB,List.map_cons,List.map_nil,List.cons.injEq,and_true] at e;simp only [stB,List.map_cons,List.map_nil,getD_set _ _ _ hi5,e,if_true,if_false,Nat.reduceEqDiff]
             obtain rfl:v114=.slice (some ⟨go1,0,none⟩) wn co1:=hv114;obtain rfl:v115=.slice (some ⟨go2,0,none⟩) wn co2:=hv115;have hex:=hJ.ex;rw [hs0] at hex;obtain ⟨f1,f2,f3,f4,f5,f6⟩:=hex;obtain ⟨r1,r2⟩:=f2 rfl;refine wpOp_step rfl fun K' hK=>?_
             refine step_append_lies _ rfl (.tmp 114) (.tmp 115) 43 rfl w.heap.size 39 i1 _ 4 48 Tryz.underlying43 HI1.out HA1.out HB1'.out HC1'.out rfl (by omega) (.slice (some ⟨go1,0,none⟩) wn co1) wn ((M1.map nop).flatMap opc) qv114 r1 ⟨go2,0,none⟩ wn co2 ((M2.map nop).flatMap opc) qv115 (by rw [ops_len,List.length_map];have:=HLN.out;omega) (fun j u hj=>by rw [Addr.add_lit,Nat.zero_add];exact own_cellS r2 j u hj) (ops_one _) (by have:=HW1.out;omega) (by have:=HWD.out.1;simp only [maxLen];omega) (by have:=HWD.out.1;omega) hwz w'.heap.size rfl fun gE cE w'' hown hgrow hat hlt=>hK _ _ ?_
             refine hJ.put (d:=116) hsl rfl rfl hpre (Below.grown hJ.bw hgrow hwz (fun g' hg'=>(own_lt r1 hg').2)) ?_ ?_ ?_
             ·rw [hs1];exact ⟨fun e=>⟨own_grown (f1 e).1 r1 (by decide) hgrow,own_grown (f1 e).2 r1 (by decide) hgrow⟩,fun e=>(by cases e),Blk.grown f3 hgrow (own_ne r1 f3 (by decide)),fun e=>Blk.grown (f4 e) hgrow (own_ne r1 (f4 e) (by decide)),fun e=>Blk.grown (f5 e) hgrow (own_ne r1 (f5 e) (by decide)),SsAt.grown f6 hgrow hFO⟩
             ·intro j q9 hq hj hdn u h9;rw [hs0] at h9;rw [hs1];refine vRq_b r1 hgrow j u hj ?_ h9;rintro rfl;have a9:=hJ.pr 8 _ rfl hdn ⟨5,.data⟩ (by simp) rfl;rw [hun] at a9;cases a9
             ·rw [hs1];intro _;show World.ownsRow _ _ _ _ _ (wn+wn) (((M1++M2).map nop).flatMap opc);rw [List.map_append,List.flatMap_append];exact hown
            | 6,_,ho,hun,hpre =>
             simp at ho;subst ho;refine hJ.op (d:=117) hsl hst hFt hwz rfl rfl rfl (by decide) hpre ?_;have q9:=hJ.keep 9 (.pointer (some ⟨gT,0,none⟩)) rfl (by kernel_rfl);refine wp_val (v:=.agg #[.slice tb tn td,.string T.seed,.int .i64 (T.pos+((wn+wn:Nat):Int))]) (by simp [execOp,q9,go_sem,y0,y1,y2]) rfl
            | 7,_,ho,hun,hpre =>
             simp at ho;subst ho;refine hJ.op (d:=10) hsl hst hFt hwz rfl rfl rfl (by decide) hpre ?_;obtain ⟨v113,ev113,hv113⟩:=hJ.dn 2 _ 113 rfl (hpre ⟨2,.data⟩ (by simp) rfl) rfl;have qv113:=eval_of ev113;refine wp_val (v:=v113) (by simp [execOp,ev113,go_sem]) ?_;exact hv113
            | 8,_,ho,hun,hpre =>
             simp at ho;subst ho;refine hJ.op (d:=11) hsl hst hFt hwz rfl rfl rfl (by decide) hpre ?_;obtain ⟨v116,ev116,hv116⟩:=hJ.dn 5 _ 116 rfl (hpre ⟨5,.data⟩ (by simp) rfl) rfl;have qv116:=eval_of ev116;refine wp_val (v:=v116) (by simp [execOp,ev116,go_sem]) ?_;exact hv116
            | 9,_,ho,hun,hpre =>
             simp at ho;subst ho;have q12:=hJ.keep 12 (.pointer (some ⟨gQ,0,none⟩)) rfl (by kernel_rfl);obtain ⟨v117,ev117,hv117⟩:=hJ.dn 6 _ 117 rfl (hpre ⟨6,.data⟩ (by simp) rfl) rfl;have qv117:=eval_of ev117;obtain ⟨bA,hbA⟩:∃y,y=done.getD 2 false:=⟨_,rfl⟩;obtain ⟨bB,hbB⟩:∃y,y=done.getD 5 false:=⟨_,rfl⟩;have hs0:stB [2,5,9] done=[bA,bB,false]:=by simp only [stB,List.map_cons,List.map_nil,hun,hbA,hbB]
             have hi9:9<done.size:=by rw [hJ.sz];decide
             have hs1:stB [2,5,9] (done.setIfInBounds 9 true)=[bA,bB,true]:=by
              have e:=hs0;simp only [stB,List.map_cons,List.map_nil,List.cons.injEq,and_true] at e;simp only [stB,List.map_cons,List.map_nil,getD_set _ _ _ hi9,e,if_true,if_false,Nat.reduceEqDiff]
             obtain rfl:v117=.agg #[.slice tb tn td,.string T.seed,.int .i64 (T.pos+((wn+wn:Nat):Int))]:=hv117;have hex:=hJ.ex;rw [hs0] at hex;obtain ⟨f1,f2,f3,f4,f5,f6⟩:=hex;have hG:=f4 rfl;have hGl:=hG.lt;have g0:=hG.free 0;have g1:=hG.free 1;have g2:=hG.free 2;have z0:=hG.cell 0;have z1:=hG.cell 1;have z2:=hG.cell 2;refine wpOp_step rfl fun K' hK=>?_
             rw [if_pos (by simp [Region.wanted])];simp [Oper.wp,execOp,ev117,q12,go_sem,g0,g1,g2,z0,z1,z2,hGl];have h9:=hJ.skip (i:=9) (v:=undef) rfl rfl hpre (((hJ.bw.setCell (p:=⟨gQ,0,none⟩) HWQ.out (.slice tb tn td)).setCell (p:=⟨gQ,1,none⟩) HWQ.out (.string T.seed)).setCell (p:=⟨gQ,2,none⟩) HWQ.out (.int .i64 (T.pos+((wn+wn:Nat):Int)))) ?_ ?_
             ·first
               | exact hK a' _ h9
               | (simp only [Int.natCast_add] at h9;exact hK a' _ h9)
             ·rw [hs1];exact ⟨fun e=>⟨own_set (own_set (own_set (f1 e).1 (own_ne (f1 e).1 hG (by decide))) (own_ne (f1 e).1 hG (by decide))) (own_ne (f1 e).1 hG (by decide)),own_set (own_set (own_set (f1 e).2 (own_ne (f1 e).2 hG (by decide))) (own_ne (f1 e).2 hG (by decide))) (own_ne (f1 e).2 hG (by decide))⟩,fun e=>⟨own_set (own_set (own_set (f2 e).1 (own_ne (f2 e).1 hG (by decide))) (own_ne (f2 e).1 hG (by decide))) (own_ne (f2 e).1 hG (by decide)),own_set (own_set (own_set (f2 e).2 (own_ne (f2 e).2 hG (by decide))) (own_ne (f2 e).2 hG (by decide))) (own_ne (f2 e).2 hG (by decide))⟩,blk_o3 f3 nQT.symm _ _ _,fun e=>(by cases e),fun _=>((hG.set 0 _).set 1 _).set 2 _,((f6.set_far hFQ).set_far hFQ).set_far hFQ⟩
             ·intro j q9 hq hj hdn d9 u hd9 hu h9;rw [hs0] at h9;rw [hs1];exact vRq_c hG _ _ _ j u h9
            | 10,_,ho,hun,hpre =>
             simp at ho;subst ho;refine hJ.op (d:=13) hsl hst hFt hwz rfl rfl rfl (by decide) hpre ?_;refine wp_val (v:=.int .i64 0) (by simp [execOp,go_sem]) rfl
           ·intro done a' w' hJ hd;obtain ⟨f,hf,hv⟩:=hJ.all hd;have hs1:stB [2,5,9] done=[true,true,true]:=stB_all hd (by kernel_rfl);have h7:=hv 7 _ 10 rfl rfl;have h8:=hv 8 _ 11 rfl rfl;have h10:f 10=.int .i64 0:=hv 10 _ 13 rfl rfl;have hex:=hJ.ex;rw [hs1] at hex h7 h8;replace h7:w'.ownsRow w.heap.size 31 1 (f 7) (wn+wn) (strs (L1++L2)):=h7 rfl;replace h8:w'.ownsRow w.heap.size 39 4 (f 8) (wn+wn) (((M1++M2).map nop).flatMap opc):=h8 rfl;obtain ⟨_,_,_,_,f5,f6⟩:=hex;have hG:=f5 rfl;have hbw:=hJ.bw;clear hJ hv hd f5;subst hf;simp only [putAll,List.size_toArray,List.length_cons,List.length_nil,Nat.reduceAdd,List.getElem?_toArray,List.getElem?_cons_zero,List.getElem?_cons_succ,Option.bind_some,Act.put,List.setIfInBounds_toArray,List.set_cons_zero,List.set_cons_succ];rw [h10];have hGl:=hG.lt;obtain ⟨hGc0,hGf0,hGc1,hGf1,hGc2,hGf2⟩:=hG.x3;go_wp2;refine bodyPost_ret (v:=.tuple #[f 7,f 8,.agg #[.slice tb tn td,.string T.seed,.int .i64 (T.pos+((wn+wn:Nat):Int))],.int .i64 0]) ?_ rfl ?_
            ·simp [results,Tryz.results19,go_sem,hGc0,hGc1,hGc2,hGl]
            ·rw [HX.out];refine ⟨_,_,_,rfl,?_,?_,⟨.slice tb tn td,rfl,f6⟩,hBW.trans hbw⟩
             ·show World.ownsRow _ _ _ _ _ (L1++L2).length _;rw [List.length_append,HLN.out.1,HLN.out.2.1];exact h7
             ·show World.ownsRow _ _ _ _ _ (M1++M2).length _;rw [List.length_append,HLN.out.2.2.1,HLN.out.2.2.2];exact h8
end Go.Proofs.YtdoacbdkbbpamaaGreatDoor
