/- What Prepare returns,in plain words;pedersen.Opens for a key of known order. -/
import Derived.Test.YtdoacbdkbbpamaaGreatDoorWt27
import Derived.Test.YtdoacbdkbbpamaaGreatDoorCmt2
import Derived.Test.YtdoacbdkbbpamaaGreatDoorFo24
import Derived.Test.YtdoacbdkbbpamaaGreatDoorIsm
import Derived.Test.YtdoacbdkbbpamaaGreatDoorExp
import Derived.Test.YtdoacbdkbbpamaaGreatDoorRef5
import Derived.Test.YtdoacbdkbbpamaaGreatDoorFw24
import Derived.Test.YtdoacbdkbbpamaaGreatDoorPq24
import Derived.Test.YtdoacbdkbbpamaaGreatDoorAwk24
set_option linter.unusedVariables false
set_option linter.unusedSimpArgs false
set_option maxRecDepth 100000
set_option maxHeartbeats 16000000
namespace Go.Proofs.YtdoacbdkbbpamaaGreatDoor
section
/- dominoref14.Commit for every key and opening;pedersen.Opens of a commitment. -/
open Go.RowKit Go.Shelf
theorem pedE_has {p q g h:Nat} (he:pedE p q g h=0):hasB p q g=true∧hasB p q h=true:=by
 have hg:=pedE_grp he;unfold pedE at he;rw [if_pos hg] at he;split at he
 ·rename_i hh;exact ⟨hh.1,hh.2.1⟩
 ·omega
end
section
/- dominoref24.Distance. -/
open Go.RowKit Go.Shelf
theorem rdist_c (p q g h v:Nat) (lo hi:Int) (w:World) (hq:q<256^8) (h0:0<q) (hv:v<q) (h1:-9223372036854775808≤lo) (h2:lo≤9223372036854775807) (hle:lo≤hi) (hd:hi-lo<4294967296) :
  Calls Tryz.prog 16 #[.agg #[.string (E p),.string (E q),.string (E g),.string (E h)],.int .i64 lo,.int .i64 hi,.string (E v)] w fun e w'=>e=.returned (.tuple #[.int .i64 ((dstE q lo hi v).1:Int),.bool (dstE q lo hi v).2])∧Below w.heap.size w w':=by
 obtain ⟨f,hf⟩:∃f,f=(lo%(q:Int)).toNat:=⟨_,rfl⟩;have hfq:f<q:=by rw [hf];have:=Int.emod_lt_of_pos lo (show (0:Int)<q by omega);omega
 have HO:Hid (∀w:World,Calls Tryz.prog 18 #[.int .i64 lo] w fun e w'=>e=.returned (.agg #[.bool (sg (lo)),.string (E (lo).natAbs)])∧Below w.heap.size w w'):=fun w=>riof_c lo w h1 h2
 have HM:Hid (∀w:World,Calls Tryz.prog 17 #[.agg #[.bool (sg (lo)),.string (E (lo).natAbs)],.string (E q)] w fun e w'=>e=.returned (.tuple #[.string (E f),.int .i64 0])∧Below w.heap.size w w'):=fun w=>by
  rw [hf];exact rimod_c lo q w (Nat.lt_of_lt_of_le (show lo.natAbs<256^8 by rw [show (256:Nat)^8=18446744073709551616 by decide];omega) (Nat.pow_le_pow_right (by decide) (by decide))) (Nat.lt_of_lt_of_le hq (Nat.pow_le_pow_right (by decide) (by decide))) h0
 obtain ⟨d,hdd⟩:∃d,d=subM v f q:=⟨_,rfl⟩;have hdq:d<q:=by rw [hdd];unfold subM;exact Nat.mod_lt _ h0
 have HSU:Hid (∀w:World,Calls Tryz.prog 39 #[.string (E v),.string (E f),.string (E q)] w fun e w'=>e=.returned (.tuple #[.string (E d),.int .i64 0])∧Below w.heap.size w w'):=fun w=>by rw [hdd];exact rsub3_c v f q w (Nat.lt_of_lt_of_le (Nat.lt_trans hv hq) (Nat.pow_le_pow_right (by decide) (by decide))) (Nat.lt_of_lt_of_le (Nat.lt_trans hfq hq) (Nat.pow_le_pow_right (by decide) (by decide))) (Nat.lt_of_lt_of_le hq (Nat.pow_le_pow_right (by decide) (by decide))) h0
 have HSM:Hid (∀w:World,Calls Tryz.prog 40 #[.string (E d)] w fun e w'=>e=.returned (.tuple #[.int .u64 d,.bool true])∧w=w'):=fun w=>rsm27a_c d w (Nat.lt_trans hdq hq)
 have HE:Hid (dstE q lo hi v=if (hi-lo).toNat<d then (0,false) else (d,true)):=by rw [Hid,hdd,hf];rfl
 obtain ⟨D,hD⟩:∃D:Nat,(D:Int)=hi-lo:=⟨(hi-lo).toNat,by omega⟩;rw [show (hi-lo).toNat=D by omega] at HE;have hw:=wrapU_sub hD (by omega:D<2^64);obtain ⟨t1,ht1⟩:∃t:Bool,t=decide (IntKind.wrap .u64 (IntKind.wrap .u64 hi-IntKind.wrap .u64 lo)<(d:Int)):=⟨_,rfl⟩;have HT1:Hid (t1=decide ((D:Int)<(d:Int))):=by rw [Hid,ht1,hw]
 have ht1':=ht1.symm;have HD2:Hid (D<4294967296):=by rw [Hid];omega
 clear hw ht1 hdd hdq hf hfq hq h0 hv h1 h2 hle hd hD;have hK:=Blk.new w #[.string (E p),.string (E q),.string (E g),.string (E h)] 35;have hBW:=b1 w (.cells #[.string (E p),.string (E q),.string (E g),.string (E h)] 35);go_enter Tryz.func16,Tryz.ntmps16
 go_upto_region 1 with fail
 generalize w.alloc (.cells #[.string (E p),.string (E q),.string (E g),.string (E h)] 35)=w1 at hK hBW ⊢;obtain ⟨gK,hgK⟩:∃x,x=w.heap.size:=⟨_,rfl⟩;rw [←hgK] at hK ⊢;replace hK:Blk w1 gK 35 [.string (E p),.string (E q),.string (E g),.string (E h)]:=hK;clear hgK;go_cut [10] (fun s10 wx=>s10=.string (E f)∧Below w1.heap.size w1 wx)
 case first =>
  refine wp_region_invB (vDs gK q lo f) [] w1.heap.size (fun _ _=>True) 52 trivial (by kernel_rfl) rfl (by kernel_rfl) ?_ ?_ (by kernel_rfl)
  ·intro hsl done a' w' i o hJ ho hun hpre;have hi:=(Array.getElem?_eq_some_iff.1 ho).1;have hst:=vDs_any gK q lo f;have hFt:∀(b:List Bool) (w w':World),Below w.heap.size w w'→(fun (_:List Bool) (_:World)=>True) b w→(fun (_:List Bool) (_:World)=>True) b w':=fun _ _ _ _ _=>trivial
   have hwz:=hJ.bw.size;have hKx:=hK.after hJ.bw;have hKl:=hKx.lt;have x1:=hKx.cell 1
   match i,hi,ho,hun,hpre with
    | 0,_,ho,hun,hpre =>
     simp at ho;subst ho;refine hJ.op (d:=17) hsl hst hFt hwz rfl rfl rfl (by decide) hpre ?_;have q1:=hJ.keep 1 (.int .i64 lo) rfl (by kernel_rfl);refine wp_val (v:=.int .i64 lo) (by simp [execOp,q1,go_sem]) rfl
    | 1,_,ho,hun,hpre =>
     simp at ho;subst ho;refine hJ.op (d:=18) hsl hst hFt hwz rfl rfl rfl (by decide) hpre ?_;obtain ⟨v17,ev17,hv17⟩:=hJ.dn 0 _ 17 rfl (hpre ⟨0,.data⟩ (by simp) rfl) rfl;have qv17:=eval_of ev17;obtain rfl:v17=.int .i64 lo:=hv17;refine wp_callX 18 #[.tmp 17] #[2] rfl (enters_of Tryz.func18 (by kernel_rfl) rfl) ?_;simp only [List.map_toArray,List.map_cons,List.map_nil,qv17];refine (HO.out w').mono ?_;rintro e w'' ⟨rfl,hb⟩;exact ⟨_,rfl,hb,rfl⟩
    | 2,_,ho,hun,hpre =>
     simp at ho;subst ho;refine hJ.op (d:=19) hsl hst hFt hwz rfl rfl rfl (by decide) hpre ?_;have q4:=hJ.keep 4 (.pointer (some ⟨gK,0,none⟩)) rfl (by kernel_rfl);refine wp_val (v:=.pointer (some ⟨gK,0,none⟩)) (by simp [execOp,q4,go_sem]) rfl
    | 3,_,ho,hun,hpre =>
     simp at ho;subst ho;refine hJ.op (d:=20) hsl hst hFt hwz rfl rfl rfl (by decide) hpre ?_;obtain ⟨v19,ev19,hv19⟩:=hJ.dn 2 _ 19 rfl (hpre ⟨2,.data⟩ (by simp) rfl) rfl;have qv19:=eval_of ev19;obtain rfl:v19=.pointer (some ⟨gK,0,none⟩):=hv19;refine wp_val (v:=.pointer (some ⟨gK,1,none⟩)) (by simp [execOp,ev19,go_sem]) rfl
    | 4,_,ho,hun,hpre =>
     simp at ho;subst ho;refine hJ.op (d:=21) hsl hst hFt hwz rfl rfl rfl (by decide) hpre ?_;obtain ⟨v20,ev20,hv20⟩:=hJ.dn 3 _ 20 rfl (hpre ⟨3,.data⟩ (by simp) rfl) rfl;have qv20:=eval_of ev20;obtain rfl:v20=.pointer (some ⟨gK,1,none⟩):=hv20;refine wp_val (v:=.string (E q)) (by simp [execOp,ev20,go_sem,x1]) rfl
    | 5,_,ho,hun,hpre =>
     simp at ho;subst ho;refine hJ.op (d:=22) hsl hst hFt hwz rfl rfl rfl (by decide) hpre ?_;obtain ⟨v18,ev18,hv18⟩:=hJ.dn 1 _ 18 rfl (hpre ⟨1,.data⟩ (by simp) rfl) rfl;have qv18:=eval_of ev18;obtain ⟨v21,ev21,hv21⟩:=hJ.dn 4 _ 21 rfl (hpre ⟨4,.data⟩ (by simp) rfl) rfl;have qv21:=eval_of ev21;obtain rfl:v18=.agg #[.bool (sg (lo)),.string (E (lo).natAbs)]:=hv18;obtain rfl:v21=.string (E q):=hv21;refine wp_callX 17 #[.tmp 18,.tmp 21] #[37,31] rfl (enters_of Tryz.func17 (by kernel_rfl) rfl) ?_;simp only [List.map_toArray,List.map_cons,List.map_nil,qv18,qv21];refine (HM.out w').mono ?_;rintro e w'' ⟨rfl,hb⟩;exact ⟨_,rfl,hb,rfl⟩
    | 6,_,ho,hun,hpre =>
     simp at ho;subst ho;refine hJ.op (d:=16) hsl hst hFt hwz rfl rfl rfl (by decide) hpre ?_;obtain ⟨v22,ev22,hv22⟩:=hJ.dn 5 _ 22 rfl (hpre ⟨5,.data⟩ (by simp) rfl) rfl;have qv22:=eval_of ev22;obtain rfl:v22=.tuple #[.string (E f),.int .i64 0]:=hv22;refine wp_val (v:=.tuple #[.string (E f),.int .i64 0]) (by simp [execOp,ev22,go_sem]) rfl
    | 7,_,ho,hun,hpre =>
     simp at ho;subst ho;refine hJ.op (d:=23) hsl hst hFt hwz rfl rfl rfl (by decide) hpre ?_;obtain ⟨v16,ev16,hv16⟩:=hJ.dn 6 _ 16 rfl (hpre ⟨6,.data⟩ (by simp) rfl) rfl;have qv16:=eval_of ev16;obtain rfl:v16=.tuple #[.string (E f),.int .i64 0]:=hv16;refine wp_val (v:=.string (E f)) (by simp [execOp,ev16,go_sem]) rfl
    | 8,_,ho,hun,hpre =>
     simp at ho;subst ho;refine hJ.op (d:=24) hsl hst hFt hwz rfl rfl rfl (by decide) hpre ?_;obtain ⟨v16,ev16,hv16⟩:=hJ.dn 6 _ 16 rfl (hpre ⟨6,.data⟩ (by simp) rfl) rfl;have qv16:=eval_of ev16;obtain rfl:v16=.tuple #[.string (E f),.int .i64 0]:=hv16;refine wp_val (v:=.int .i64 0) (by simp [execOp,ev16,go_sem]) rfl
    | 9,_,ho,hun,hpre =>
     simp at ho;subst ho;refine hJ.op (d:=10) hsl hst hFt hwz rfl rfl rfl (by decide) hpre ?_;obtain ⟨v23,ev23,hv23⟩:=hJ.dn 7 _ 23 rfl (hpre ⟨7,.data⟩ (by simp) rfl) rfl;have qv23:=eval_of ev23;obtain rfl:v23=.string (E f):=hv23;refine wp_val (v:=.string (E f)) (by simp [execOp,ev23,go_sem]) rfl
    | 10,_,ho,hun,hpre =>
     simp at ho;subst ho;refine hJ.op (d:=11) hsl hst hFt hwz rfl rfl rfl (by decide) hpre ?_;obtain ⟨v24,ev24,hv24⟩:=hJ.dn 8 _ 24 rfl (hpre ⟨8,.data⟩ (by simp) rfl) rfl;have qv24:=eval_of ev24;obtain rfl:v24=.int .i64 0:=hv24;refine wp_val (v:=.int .i64 0) (by simp [execOp,ev24,go_sem]) rfl
  ·intro done a' w' hJ hd;obtain ⟨f9,hf,hv⟩:=hJ.all hd;have h9:f9 9=.string (E f):=hv 9 _ 10 rfl rfl;have hbw:=hJ.bw;clear hJ hv hd;subst hf;simp only [putAll,List.size_toArray,List.length_cons,List.length_nil,Nat.reduceAdd,List.getElem?_toArray,List.getElem?_cons_zero,List.getElem?_cons_succ,Option.bind_some,Act.put,List.setIfInBounds_toArray,List.set_cons_zero,List.set_cons_succ];rw [h9];go_wp2_with fail
   go_meet
   exact ⟨rfl,hbw⟩
 case rest =>
  obtain ⟨rfl,hb⟩:=hcut;obtain ⟨wx,hwx⟩:∃wx,wx=wc:=⟨_,rfl⟩;subst hwx;replace hK:=hK.after hb;replace hBW:=bt hBW hb;clear hb HO HM;have hKl:=hK.lt;obtain ⟨hKc0,hKf0,hKc1,hKf1,hKc2,hKf2,hKc3,hKf3⟩:=hK.x4;go_wp2_with fail
  refine (HSU.out _).mono ?_;rintro e w2 ⟨rfl,hb⟩;clear hKc0 hKf0 hKc1 hKf1 hKc2 hKf2 hKc3 hKf3;replace hBW:=bt hBW hb;clear hb HSU hK hKl;go_wp2_with fail
  refine (HSM.out _).mono ?_;rintro e w3 ⟨rfl,rfl⟩;cases t1
  case true =>
   go_wp2;refine bodyPost_ret (v:=.tuple #[.int .i64 0,.bool false]) ?_ rfl ?_
   ·simp [results,Tryz.results16,go_sem]
   ·rw [HE.out,if_pos (by have:=of_decide_eq_true HT1.out.symm;omega)];exact ⟨rfl,hBW⟩
  case false =>
   have hdD:d≤D:=by have:=of_decide_eq_false HT1.out.symm;omega
   have ew:IntKind.i64.wrap (d:Int)=(d:Int):=IntWalk.i64_in _ (by have:=HD2.out;omega);go_wp2;refine bodyPost_ret (v:=.tuple #[.int .i64 (d:Int),.bool true]) ?_ rfl ?_
   ·simp [results,Tryz.results16,go_sem,ew]
   ·rw [HE.out,if_neg (by omega)];exact ⟨rfl,hBW⟩
end
section
/- The gate of law 24: small,few,narrow. -/
open Go.RowKit Go.Shelf
theorem smlK_inv {a b c d:ByteArray} (h:smlK a b c d=true):a.size≤8∧b.size≤8∧c.size≤8∧d.size≤8:=by
 simp only [smlK,sz8B,List.all_cons,List.all_nil,Bool.and_eq_true,decide_eq_true_eq] at h;exact ⟨h.1,h.2.1,h.2.2.1,h.2.2.2.1⟩
theorem fwB_inv {C va ra sd:ByteArray} {O:List Opn} {P V:List ByteArray} (h:fwB C va ra sd O P V=true):P.length≤24∧O.length≤24∧V.length≤40∧sd.size≤60∧C.size≤16∧va.size≤16∧ra.size≤16∧(∀x∈O,x.va.size≤16∧x.ra.size≤16)∧(∀x∈P,x.size≤16)∧(∀x∈V,x.size≤16):=by
 simp only [fwB,Bool.and_eq_true,decide_eq_true_eq,Bool.not_eq_true'] at h;obtain ⟨h1,h2,h3,h4,h5⟩:=h
 have h6:∀x∈fwL C va ra O P V,x.size≤16:=fun x hx=>by
  have h7:=List.any_eq_false.1 h5 x hx;simp only [sz16B,decide_eq_true_eq] at h7;omega
 unfold fwL at h6;refine ⟨h1,h2,h3,h4,h6 C (by simp),h6 va (by simp),h6 ra (by simp),fun x hx=>⟨h6 _ ?_,h6 _ ?_⟩,fun x hx=>h6 x (by simp [hx]),fun x hx=>h6 x (by simp [hx])⟩
 ·simp only [List.mem_append,List.mem_cons];exact .inl (.inl (.inr (.inr (.inr (List.mem_flatMap.2 ⟨x,hx,by simp⟩)))))
 ·simp only [List.mem_append,List.mem_cons];exact .inl (.inl (.inr (.inr (.inr (List.mem_flatMap.2 ⟨x,hx,by simp⟩)))))
theorem splN_len (att:Att) (p g h q:Nat) (X:List Nat) (T:Tp) (n:Nat):(splN att p g h q X T n).parts.length≤n∧(splN att p g h q X T n).ops.length≤n:=by
 rcases splN_cases att p g h q X T n with ⟨_,e,_⟩ | ⟨_,e⟩
 ·rw [e];exact ⟨by rw [prP_len];exact Nat.le_refl _,by rw [prO_len];exact Nat.le_refl _⟩
 ·rw [e];exact ⟨Nat.zero_le _,Nat.zero_le _⟩
theorem rgR_len (att:Att) (a b c d:ByteArray) (lo hi:Int) (vn:Bool) (va:ByteArray) (rn:Bool) (ra:ByteArray) (T:Tp) (hn:nrwB lo hi=true) (hT:T.vals.length≤1000):(rgR att a b c d lo hi vn va rn ra T).parts.length≤1000∧(rgR att a b c d lo hi vn va rn ra T).ops.length≤1000∧(rgR att a b c d lo hi vn va rn ra T).tp.vals.length≤1000:=by
 have h0:∀k,(⟨k,[],[],Tp.nil⟩:PrR).parts.length≤1000∧(⟨k,[],[],Tp.nil⟩:PrR).ops.length≤1000∧(⟨k,[],[],Tp.nil⟩:PrR).tp.vals.length≤1000:=fun k=>⟨by simp,by simp,by simp [Tp.nil]⟩
 unfold rgR;split
 ·exact h0 _
 ·split
  ·exact h0 _
  ·rename_i h9;split
   ·exact h0 _
   ·split
    ·exact ⟨by simp,by simp,hT⟩
    ·have hw:(rdyE a b c d lo hi).1≤8:=by
      unfold rdyE at h9 ⊢;split at h9
      ·rename_i h1;exact absurd h1 h9
      rename_i h1;rw [if_neg h1];split at h9
      ·exact absurd (by decide) h9
      rename_i h2;rw [if_neg h2];unfold nrwB at hn;rw [Bool.or_eq_true,decide_eq_true_eq,decide_eq_true_eq] at hn;rcases hn with h3 | h3
      ·exact absurd h3 h9
      ·exact h3
     generalize (rdyE a b c d lo hi).1=n at hw;unfold rgS;split
     ·exact h0 _
     split
     ·exact h0 _
     have e1:=splN_len att (numb a) (numb c) (numb d) (numb b) (dgs (dstE (numb b) lo hi (numb va)).1 n) T n;have e2:=splN_len att (numb a) (numb c) (numb d) (numb b) (dgs (othE lo hi (dstE (numb b) lo hi (numb va))) n) (T.on n) n;refine ⟨?_,?_,hT⟩
     ·show (_++_:List Nat).length≤1000;rw [List.length_append];omega
     ·show (_++_:List (Nat × Nat)).length≤1000;rw [List.length_append];omega
end
section
open Go.RowKit Go.Shelf
theorem opensq_c (p q g h:Nat) (m r:Int) (w:World) (hp:p<256^8) (hq:q<256^128) (hgb:g<256^128) (hhb:h<256^128) (hm:m.natAbs<256^128) (hr:r.natAbs<256^128) (he:pedE p q g h=0) :
  Calls Tryz.prog 15 #[.agg #[.string (E p),.string (E q),.string (E g),.string (E h)],.string (E (cmtN p g h m r)),.agg #[.bool (sg m),.string (E m.natAbs),.bool (sg r),.string (E r.natAbs)]] w fun e w'=>e=.returned (.bool true)∧Below w.heap.size w w':=by
 have HC:Hid (∀w:World,Calls Tryz.prog 38 #[.agg #[.string (E p),.string (E q),.string (E g),.string (E h)],.agg #[.bool (sg m),.string (E m.natAbs),.bool (sg r),.string (E r.natAbs)]] w fun e w'=>e=.returned (.tuple #[.string (E (cmtN p g h m r)),.int .i64 0])∧Below w.heap.size w w'):=fun w =>
  commit_c p q g h m r w hp hq hgb hhb hm hr he (pedE_has he).1 (pedE_has he).2
 generalize cmtN p g h m r=x at HC ⊢;have hB:=blk2a w #[Value.string (E p),Value.string (E q),Value.string (E g),Value.string (E h)] #[.bool (sg m),.string (E m.natAbs),.bool (sg r),.string (E r.natAbs)] 35 39;have hI:=blk2b w #[Value.string (E p),Value.string (E q),Value.string (E g),Value.string (E h)] #[.bool (sg m),.string (E m.natAbs),.bool (sg r),.string (E r.natAbs)] 35 39;have hBW:=b2 w (.cells #[Value.string (E p),Value.string (E q),Value.string (E g),Value.string (E h)] 35) (.cells #[.bool (sg m),.string (E m.natAbs),.bool (sg r),.string (E r.natAbs)] 39);clear hp hq hgb hhb hm hr he;obtain ⟨hBc0,hBf0,hBc1,hBf1,hBc2,hBf2,hBc3,hBf3⟩:=hB.x4;obtain ⟨hIc0,hIf0,hIc1,hIf1,hIc2,hIf2,hIc3,hIf3⟩:=hI.x4;go_enter Tryz.func15,Tryz.ntmps15
 go_wp2_with fail
 refine (HC.out _).mono ?_;rintro e w1 ⟨rfl,hb1⟩;go_wp2;go_ret
 exact ⟨rfl,bt hBW hb1⟩
structure DgF (att:Att) (a b c d:ByteArray) (lo hi:Int) (va:ByteArray) (T:Tp) (R:PrR) (p q g h n x y v:Nat):Prop where
 ea:a=E p
 eb:b=E q
 ec:c=E g
 ed:d=E h
 ev:va=E v
 hp:p<256^8
 hq:q<256^8
 h2:2≤q
 hg:g<256^100
 hh:h<256^100
 he:pedE p q g h=0
 hv:v<q
 hle:lo≤hi
 hlt:hi-lo<4294967296
 hn0:0<n
 hn:n≤32
 ex:x=(dstE q lo hi v).1
 ey:y=othE lo hi (dstE q lo hi v)
 eo:R.ops=prO att q (dgs x n) T n++prO att q (dgs y n) (T.on n) n
 epp:R.parts=prP att p g h q (dgs x n) T n++prP att p g h q (dgs y n) (T.on n) n
 et:R.tp=T.on (n+n)
 c1:∀j,j<n→(prC att q T j).1=0
 c2:∀j,j<n→(prC att q (T.on n) j).1=0
 lx:x<2^n
 ly:y<2^n
theorem rgR_dg (att:Att) (a b c d:ByteArray) (lo hi:Int) (vn:Bool) (va:ByteArray) (rn:Bool) (ra:ByteArray) (T:Tp) (ha:a.size≤8) (hb:b.size≤8) (hc:c.size≤8) (hd:d.size≤8) (hva:va.size≤16) (hra:ra.size≤16) :
  ((rgR att a b c d lo hi vn va rn ra T).err≠0→(rgR att a b c d lo hi vn va rn ra T).parts=[]∧(rgR att a b c d lo hi vn va rn ra T).ops=[]) ∧
  ((rgR att a b c d lo hi vn va rn ra T).err=0→(rgR att a b c d lo hi vn va rn ra T)=⟨0,[],[],T⟩∨∃p q g h n x y v,DgF att a b c d lo hi va T (rgR att a b c d lo hi vn va rn ra T) p q g h n x y v):=by
 unfold rgR;split
 ·exact ⟨fun _=>⟨rfl,rfl⟩,fun h=>absurd h (by decide)⟩
 rename_i h1
 have h1:(vlO ⟨vn,va,rn,ra⟩&&vl4 a b c d&&T.good)=true:=by
  cases hb1:(vlO ⟨vn,va,rn,ra⟩&&vl4 a b c d&&T.good) with
  | true=>rfl
  | false=>exact absurd hb1 h1
 rw [Bool.and_eq_true,Bool.and_eq_true] at h1;obtain ⟨⟨hO,h4⟩,hT⟩:=h1;split
 ·rename_i h2;exact ⟨fun _=>⟨rfl,rfl⟩,fun h=>absurd h h2⟩
 rename_i h2;have h2:(rdyE a b c d lo hi).2=0:=by omega
 split
 ·exact ⟨fun _=>⟨rfl,rfl⟩,fun h=>absurd h (by decide)⟩
 rename_i h3;split
 ·exact ⟨fun h=>absurd rfl h,fun _=>.inl rfl⟩
 rename_i h5;obtain ⟨p,q,g,h,rfl,rfl,rfl,rfl,lp,lq,l2,lg,lh,he,hle,hn,hn2⟩:=rg_facts h4 ha hb hc hd h2;obtain ⟨v,y0,rfl,rfl,lv,ly0⟩:=vlO_E hO hva hra;rw [numb_E,numb_E,numb_E,numb_E,numb_E];rw [numb_E,numb_E] at h3;simp only [Bool.or_eq_true,decide_eq_true_eq,not_or] at h3;rw [hn] at h5 ⊢;have hD:=lt_nb (hi-lo).toNat;obtain ⟨n,hnn⟩:∃n,n=nb (hi-lo).toNat:=⟨_,rfl⟩;rw [←hnn] at hD h5 hn2 ⊢;have h32:2^n≤2^32:=Nat.pow_le_pow_right (by decide) hn2;have hdl:=(dst_le (q:=q) (x:=v) (lo:=lo) (hi:=hi)).1;have hol:othE lo hi (dstE q lo hi v)≤(hi-lo).toNat:=by unfold othE;split <;> omega
 rcases splN_cases att p g h q (dgs (dstE q lo hi v).1 n) T n with ⟨e1,f1,c1⟩ | ⟨e1,f1⟩
 ·rcases splN_cases att p g h q (dgs (othE lo hi (dstE q lo hi v)) n) (T.on n) n with ⟨e2,f2,c2⟩ | ⟨e2,f2⟩
  ·have hS:rgS att p g h q (dstE q lo hi v).1 (othE lo hi (dstE q lo hi v)) T n=⟨0,prP att p g h q (dgs (dstE q lo hi v).1 n) T n++prP att p g h q (dgs (othE lo hi (dstE q lo hi v)) n) (T.on n) n,prO att q (dgs (dstE q lo hi v).1 n) T n++prO att q (dgs (othE lo hi (dstE q lo hi v)) n) (T.on n) n,T.on (n+n)⟩:=by
    unfold rgS;rw [if_neg (by rw [e1];decide),if_neg (by rw [e2];decide),f1,f2]
   rw [hS];refine ⟨fun hx=>absurd rfl hx,fun _=>.inr ⟨p,q,g,h,n,_,_,v,rfl,rfl,rfl,rfl,rfl,lp,lq,l2,lg,lh,he,by omega,hle,?_,by omega,hn2,rfl,rfl,rfl,rfl,rfl,c1,c2,by omega,by omega⟩⟩;have:(2:Nat)^32=4294967296:=by decide
   omega
  ·have hS:rgS att p g h q (dstE q lo hi v).1 (othE lo hi (dstE q lo hi v)) T n=⟨(splN att p g h q (dgs (othE lo hi (dstE q lo hi v)) n) (T.on n) n).err,[],[],Tp.nil⟩:=by
    unfold rgS;rw [if_neg (by rw [e1];decide),if_pos e2]
   rw [hS];exact ⟨fun _=>⟨rfl,rfl⟩,fun hx=>absurd hx e2⟩
 ·have hS:rgS att p g h q (dstE q lo hi v).1 (othE lo hi (dstE q lo hi v)) T n=⟨(splN att p g h q (dgs (dstE q lo hi v).1 n) T n).err,[],[],Tp.nil⟩:=by
   unfold rgS;rw [if_pos e1]
  rw [hS];exact ⟨fun _=>⟨rfl,rfl⟩,fun hx=>absurd hx e1⟩
section
variable {att:Att} {a b c d:ByteArray} {lo hi:Int} {va:ByteArray} {T:Tp} {R:PrR} {p q g h n x y v:Nat}
theorem DgF.len (F:DgF att a b c d lo hi va T R p q g h n x y v):R.ops.length=n+n∧R.parts.length=n+n:=by
 rw [F.eo,F.epp,List.length_append,List.length_append,prO_len,prO_len,prP_len,prP_len];exact ⟨rfl,rfl⟩
theorem DgF.take (F:DgF att a b c d lo hi va T R p q g h n x y v):R.ops.take n=prO att q (dgs x n) T n:=by
 rw [F.eo,List.take_append_of_le_length (by rw [prO_len];exact Nat.le_refl _),List.take_of_length_le (by rw [prO_len];exact Nat.le_refl _)]
theorem DgF.drop (F:DgF att a b c d lo hi va T R p q g h n x y v):R.ops.drop n=prO att q (dgs y n) (T.on n) n:=by
 rw [F.eo,List.drop_append_of_le_length (by rw [prO_len];exact Nat.le_refl _),List.drop_of_length_le (by rw [prO_len];exact Nat.le_refl _),List.nil_append]
theorem DgF.valx (F:DgF att a b c d lo hi va T R p q g h n x y v):valE ((R.ops.take n).map nop)=(x,0):=by
 rw [F.take];exact valE_prO att q x n T F.hq F.hn F.lx F.c1
theorem DgF.valy (F:DgF att a b c d lo hi va T R p q g h n x y v):valE ((R.ops.drop n).map nop)=(y,0):=by
 rw [F.drop];exact valE_prO att q y n (T.on n) F.hq F.hn F.ly F.c2
theorem prP_map (att:Att) (p g h rd:Nat) (X:List Nat) (T:Tp) (k:Nat):prP att p g h rd X T k=(prO att rd X T k).map fun o=>cmtN p g h (o.1:Int) (o.2:Int):=by
 unfold prP prO;rw [List.map_map];rfl
theorem DgF.parts (F:DgF att a b c d lo hi va T R p q g h n x y v):R.parts=R.ops.map fun o=>cmtN p g h (o.1:Int) (o.2:Int):=by
 rw [F.epp,F.eo,List.map_append,prP_map,prP_map]
theorem prO_mem {k:Nat} {o:Nat × Nat} {z:Nat} {T:Tp} (hc:∀j,j<k→(prC att q T j).1=0) (ho:o∈prO att q (dgs z k) T k):o.1<2∧o.2<q:=by
 unfold prO at ho;obtain ⟨j,hj,rfl⟩:=List.mem_map.1 ho;have hj:=List.mem_range.1 hj;refine ⟨?_,prC_lt (hc j hj)⟩;show (dgs z k).getD j 0<2;unfold dgs;rw [List.getD_eq_getElem?_getD,List.getElem?_map,List.getElem?_range hj];exact Nat.mod_lt _ (by decide)
theorem DgF.mem (F:DgF att a b c d lo hi va T R p q g h n x y v) {o:Nat × Nat} (ho:o∈R.ops):o.1<2∧o.2<q:=by
 rw [F.eo,List.mem_append] at ho;rcases ho with ho | ho
 ·exact prO_mem F.c1 ho
 ·exact prO_mem F.c2 ho
theorem DgF.sz (F:DgF att a b c d lo hi va T R p q g h n x y v):∀z∈R.ops.map nop,z.va.size≤100∧z.ra.size≤100:=by
 intro z hz;obtain ⟨o,ho,rfl⟩:=List.mem_map.1 hz;have hm:=F.mem ho;have hq:=F.hq;have h8:(256:Nat)^8=18446744073709551616:=by decide
 have s1:(E o.1).size≤8:=(E_size_le o.1 8).2 (by omega);have s2:(E o.2).size≤8:=(E_size_le o.2 8).2 (by omega);exact ⟨by show (E o.1).size≤100;omega,by show (E o.2).size≤100;omega⟩
theorem DgF.opens (F:DgF att a b c d lo hi va T R p q g h n x y v) (k:Nat) (hk:k<R.ops.length) (hk2:k<R.parts.length) (w:World) :
  Calls Tryz.prog 15 #[.agg #[.string a,.string b,.string c,.string d],.string (E R.parts[k]),.agg #[.bool false,.string (E R.ops[k].1),.bool false,.string (E R.ops[k].2)]] w fun e w'=>e=.returned (.bool true)∧Below w.heap.size w w':=by
 have hm:=F.mem (List.getElem_mem hk)
 have hpk:R.parts[k]=cmtN p g h (R.ops[k].1:Int) (R.ops[k].2:Int):=by
  have e:=F.parts;have e2:R.parts[k]?=(R.ops.map fun o=>cmtN p g h (o.1:Int) (o.2:Int))[k]?:=by rw [←e]
  rw [List.getElem?_eq_getElem hk2,List.getElem?_map,List.getElem?_eq_getElem hk] at e2;exact Option.some.inj e2
 have u8:∀{n:Nat},n<256^8→n<256^128:=fun h=>Nat.lt_of_lt_of_le h (Nat.pow_le_pow_right (by decide) (by decide))
 have u100:∀{n:Nat},n<256^100→n<256^128:=fun h=>Nat.lt_of_lt_of_le h (Nat.pow_le_pow_right (by decide) (by decide))
 have hq:=F.hq;have h1:=opensq_c p q g h (R.ops[k].1:Int) (R.ops[k].2:Int) w F.hp (u8 F.hq) (u100 F.hg) (u100 F.hh) (by rw [Int.natAbs_natCast];exact u8 (Nat.lt_trans hm.1 (by decide))) (by rw [Int.natAbs_natCast];exact u8 (Nat.lt_trans hm.2 hq)) F.he;rw [Int.natAbs_natCast,Int.natAbs_natCast,sg_nat,sg_nat] at h1;rw [hpk,F.ea,F.eb,F.ec,F.ed];exact h1
theorem DgF.sum (F:DgF att a b c d lo hi va T R p q g h n x y v) (hok:(dstE q lo hi v).2=true):(x:Int)+(y:Int)=hi-lo:=by
 have e1:=F.ex;have e2:=F.ey;have hle:=F.hle;have hdl:=(dst_le (q:=q) (x:=v) (lo:=lo) (hi:=hi)).1;unfold othE at e2;rw [if_pos hok] at e2;omega
theorem DgF.nok (F:DgF att a b c d lo hi va T R p q g h n x y v) (hok:(dstE q lo hi v).2=false):x=0∧y=0:=by
 have e1:=F.ex;have e2:=F.ey;unfold othE at e2;rw [if_neg (by rw [hok];decide)] at e2;exact ⟨e1.trans ((dst_le (q:=q) (x:=v) (lo:=lo) (hi:=hi)).2 hok),e2⟩
theorem DgF.mod (F:DgF att a b c d lo hi va T R p q g h n x y v) (hok:(dstE q lo hi v).2=true):((lo+(x:Int))%(q:Int)).toNat=v:=by
 have e1:=F.ex;have hv:=F.hv;have h2:=F.h2;unfold dstE at e1 hok;split at hok
 ·cases hok
 rename_i hc;rw [if_neg hc] at e1;have hq0:(0:Int)<(q:Int):=by omega
 have hf0:=Int.emod_nonneg lo (show (q:Int)≠0 by omega);have hf1:=Int.emod_lt_of_pos lo hq0;obtain ⟨f,hf⟩:∃f:Nat,(f:Int)=lo%(q:Int):=⟨(lo%(q:Int)).toNat,by omega⟩;have hfq:f<q:=by omega
 rw [show (lo%(q:Int)).toNat=f by omega] at e1;unfold subM at e1;rw [Nat.mod_eq_of_lt hv,Nat.mod_eq_of_lt hfq] at e1
 have e3:(lo+(x:Int))%(q:Int)=(v:Int):=by
  rw [e1,Int.natCast_emod,Int.add_emod_emod];rw [←Int.emod_add_emod,←hf,show (f:Int)+((v+q-f:Nat):Int)=(v:Int)+(q:Int) by omega,Int.add_emod_right];exact Int.emod_eq_of_lt (by omega) (by omega)
 omega
end
end
end Go.Proofs.YtdoacbdkbbpamaaGreatDoor
