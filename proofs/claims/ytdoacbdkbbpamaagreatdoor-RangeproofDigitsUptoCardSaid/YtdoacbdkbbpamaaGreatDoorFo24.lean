/- rangeproof.formed,ready,distance. -/
import Derived.Test.YtdoacbdkbbpamaaGreatDoorRr24
import Derived.Test.YtdoacbdkbbpamaaGreatDoorWt27
import Derived.Test.YtdoacbdkbbpamaaGreatDoorFwx24
import Derived.Test.YtdoacbdkbbpamaaGreatDoorRd24
set_option linter.unusedVariables false
set_option linter.unusedSimpArgs false
set_option maxRecDepth 100000
set_option maxHeartbeats 16000000
namespace Go.Proofs.YtdoacbdkbbpamaaGreatDoor
open Go.RowKit Go.Shelf
def vlO (x:Opn):Bool:=ivB x.vn x.va&&ivB x.rn x.ra
theorem rgformed_c (L:List Opn) (a b c d:ByteArray) (v:Value) (w:World) (hn:L.length≤100) (hs:∀x∈L,x.va.size≤1000∧x.ra.size≤1000) (ha:a.size≤1000) (hb:b.size≤1000) (hc:c.size≤1000) (hd:d.size≤1000) (hR:OsAt w v L) :
  Calls Tryz.prog 29 #[.agg #[.string a,.string b,.string c,.string d],v] w fun e w'=>e=.returned (.bool (L.all vlO&&vl4 a b c d))∧Below w.heap.size w w':=by
 obtain ⟨ao,cp,rfl⟩:=RAt.form hR;obtain ⟨r,hr⟩:∃r,r=(L.all vlO&&vl4 a b c d):=⟨_,rfl⟩;rw [←hr];have HR:=Lib.hid hr;obtain ⟨m,hm⟩:∃m,m=L.length:=⟨_,rfl⟩;have HM:=Lib.hid hm;rw [←hm] at hR hn ⊢;have HS:=Lib.hid hs;have HA:Hid (∀w:World,Calls Tryz.prog 59 #[.string a] w fun e w'=>e=.returned (.bool (vldB a))∧w'=w):=fun w=>valB_c a _ w ha rfl
 have HB:Hid (∀w:World,Calls Tryz.prog 59 #[.string b] w fun e w'=>e=.returned (.bool (vldB b))∧w'=w):=fun w=>valB_c b _ w hb rfl
 have HC:Hid (∀w:World,Calls Tryz.prog 59 #[.string c] w fun e w'=>e=.returned (.bool (vldB c))∧w'=w):=fun w=>valB_c c _ w hc rfl
 have HD:Hid (∀w:World,Calls Tryz.prog 59 #[.string d] w fun e w'=>e=.returned (.bool (vldB d))∧w'=w):=fun w=>valB_c d _ w hd rfl
 have HV4:Hid (vl4 a b c d=(vldB a&&vldB b&&vldB c&&vldB d)):=by unfold vl4;rfl
 clear hr hm hs ha hb hc hd;have hK:=Blk.new w #[.string a,.string b,.string c,.string d] 35;have hBW:=b1 w (.cells #[.string a,.string b,.string c,.string d] 35);go_enter Tryz.func29,Tryz.ntmps29
 go_upto_region 2 with fail
 replace hR:=OsAt.after hR hBW;generalize w.alloc (.cells #[.string a,.string b,.string c,.string d] 35)=w1 at hK hBW hR ⊢;obtain ⟨gK,hgK⟩:∃x,x=w.heap.size:=⟨_,rfl⟩;rw [←hgK] at hK ⊢;replace hK:Blk w1 gK 35 [.string a,.string b,.string c,.string d]:=hK;clear hgK;go_loopw [9] (fun i wr=>∃k:Nat,k≤m∧i=.int .i64 k∧Hid ((L.take k).all vlO=true)∧Below w1.heap.size w1 wr) (fun i _=>m-(intOf i).toNat)
 case atStart=>exact ⟨0,by omega,rfl,rfl,Below.refl _ _⟩
 case round =>
  obtain ⟨k,hk,rfl,HK,hbr⟩:=hrel;obtain ⟨wp,hwp⟩:∃wp,wp=wr:=⟨_,rfl⟩;subst hwp;have hRp:=OsAt.after hR hbr;have hKp:=hK.after hbr;by_cases hlt:k<m
  ·have hkl:k<L.length:=by rw [←HM.out];exact hlt
   obtain ⟨bb,o,rfl,hbb,x1,x2,x3,x4⟩:=OsAt.at_ hRp hkl;have hsz:=HS.out _ (List.getElem_mem hkl);have h0k:(0:Int)≤(k:Int):=by omega
   have h1k:(k:Int)<(m:Int):=by omega
   have HT:=Lib.hid (all_take vlO L k hkl);have HBD:Hid (vlO L[k]=false→r=false):=fun h=>by rw [HR.out,all_bad vlO L k hkl h];rfl
   have HVX:Hid (vlO L[k]=(ivB L[k].vn L[k].va&&ivB L[k].rn L[k].ra)):=rfl;have HI1:Hid (∀w:World,Calls Tryz.prog 58 #[.agg #[.bool L[k].vn,.string L[k].va]] w fun e w'=>e=.returned (.bool (ivB L[k].vn L[k].va))∧Below w.heap.size w w'):=fun w=>ivalX_c _ _ _ w hsz.1 rfl
   have HI2:Hid (∀w:World,Calls Tryz.prog 58 #[.agg #[.bool L[k].rn,.string L[k].ra]] w fun e w'=>e=.returned (.bool (ivB L[k].rn L[k].ra))∧Below w.heap.size w w'):=fun w=>ivalX_c _ _ _ w hsz.2 rfl
   generalize vlO (L[k]'hkl)=q at HT HBD HVX;generalize (L[k]'hkl)=x at x1 x2 x3 x4 hsz HVX HI1 HI2;have hX:=Blk.new wp #[.bool x.vn,.string x.va,.bool x.rn,.string x.ra] 39;have hbX:=b1 wp (.cells #[.bool x.vn,.string x.va,.bool x.rn,.string x.ra] 39);have hbn:=bt hbr hbX;generalize ivB x.vn x.va=q1 at HI1 HVX;generalize ivB x.rn x.ra=q2 at HI2 HVX;have hXl:=hX.lt;obtain ⟨hXc0,hXf0,hXc1,hXf1,hXc2,hXf2,hXc3,hXf3⟩:=hX.x4;go_wp2_with fail
   refine (HI1.out _).mono ?_;rintro e w2 ⟨rfl,hb2⟩;clear hXc0 hXf0 hXc1 hXf1 hXc2 hXf2 hXc3 hXf3;replace hX:=hX.after hb2;replace hbn:=bt hbn hb2;clear hb2 hXl;have hXl:=hX.lt;cases q1
   ·have HF:Hid (r=false):=by rw [Hid];exact HBD.out (by rw [HVX.out];rfl)
    go_wp2;go_ret
    exact ⟨by first | (rw [HF.out];done) | (rw [HF.out];rfl),bt hBW hbn⟩
   ·
    obtain ⟨hXc0,hXf0,hXc1,hXf1,hXc2,hXf2,hXc3,hXf3⟩:=hX.x4;go_wp2_with fail
    refine (HI2.out _).mono ?_;rintro e w3 ⟨rfl,hb3⟩;replace hbn:=bt hbn hb3;clear hb3;cases q2
    ·have HF:Hid (r=false):=by rw [Hid];exact HBD.out (by rw [HVX.out];rfl)
     go_wp2;go_ret
     exact ⟨by first | (rw [HF.out];done) | (rw [HF.out];rfl),bt hBW hbn⟩
    ·have HX:Hid ((L.take (k+1)).all vlO=true):=by rw [Hid,HT.out,HK.out,HVX.out];rfl
     go_wp2;go_roundw
     case rel=>exact ⟨k+1,by omega,by go_num,HX,hbn⟩
     case measure=>simp [intOf];omega
  ·obtain rfl:k=m:=by omega
   have HE:Hid (r=(vldB a&&vldB b&&vldB c&&vldB d)):=by
    rw [Hid,HR.out,←HV4.out,all_end vlO L k HM.out HK.out];rfl
   generalize vldB a=qa at HA HE;generalize vldB b=qb at HB HE;generalize vldB c=qc at HC HE;generalize vldB d=qd at HD HE;have hKl:=hKp.lt;obtain ⟨hKpc0,hKpf0,hKpc1,hKpf1,hKpc2,hKpf2,hKpc3,hKpf3⟩:=hKp.x4;cases qa
   ·go_wp2_with fail
    refine (HA.out _).mono ?_;rintro e w2 ⟨rfl,rfl⟩;go_wp2;go_ret
    exact ⟨by rw [HE.out];rfl,bt hBW hbr⟩
   ·go_wp2_with fail
    refine (HA.out _).mono ?_;rintro e w2 ⟨rfl,rfl⟩;cases qb
    ·go_wp2_with fail
     refine (HB.out _).mono ?_;rintro e w2 ⟨rfl,rfl⟩;go_wp2;go_ret
     exact ⟨by rw [HE.out];rfl,bt hBW hbr⟩
    ·go_wp2_with fail
     refine (HB.out _).mono ?_;rintro e w2 ⟨rfl,rfl⟩;cases qc
     ·go_wp2_with fail
      refine (HC.out _).mono ?_;rintro e w2 ⟨rfl,rfl⟩;go_wp2;go_ret
      exact ⟨by rw [HE.out];rfl,bt hBW hbr⟩
     ·go_wp2_with fail
      refine (HC.out _).mono ?_;rintro e w2 ⟨rfl,rfl⟩;go_wp2_with fail
      refine (HD.out _).mono ?_;rintro e w2 ⟨rfl,rfl⟩;go_wp2;go_ret
      exact ⟨by rw [HE.out];first | rfl | simp,bt hBW hbr⟩
def rdyE (a b c d:ByteArray) (lo hi:Int):Nat × Nat:=if pedV a b c d≠0 then (0,pedV a b c d) else if b.size=0 then (0,1) else widE lo hi
theorem rgready_c (a b c d:ByteArray) (lo hi:Int) (w:World) (ha:a.size≤8) (hb:b.size≤100) (hc:c.size≤100) (hd:d.size≤100) (h1:-9223372036854775808≤lo) (h2:lo≤9223372036854775807) (h3:-9223372036854775808≤hi) (h4:hi≤9223372036854775807) :
  Calls Tryz.prog 31 #[.agg #[.string a,.string b,.string c,.string d],.int .i64 lo,.int .i64 hi] w fun e w'=>e=.returned (.tuple #[.int .i64 ((rdyE a b c d lo hi).1:Int),.int .i64 ((rdyE a b c d lo hi).2:Int)])∧Below w.heap.size w w':=by
 obtain ⟨k,hk⟩:∃k,k=pedV a b c d:=⟨_,rfl⟩;have HP:Hid (∀w:World,Calls Tryz.prog 60 #[.agg #[.string a,.string b,.string c,.string d]] w fun e w'=>e=.returned (.int .i64 (k:Int))∧Below w.heap.size w w'):=fun w=>pedA_c a b c d k w ha hb hc hd hk.symm
 have HW:Hid (∀w:World,Calls Tryz.prog 7 #[.int .i64 lo,.int .i64 hi] w fun e w'=>e=.returned (.tuple #[.int .i64 ((widE lo hi).1:Int),.int .i64 ((widE lo hi).2:Int)])∧Below w.heap.size w w'):=fun w=>width_c lo hi w h1 h2 h3 h4
 have HE:Hid (rdyE a b c d lo hi=if k≠0 then (0,k) else if b.size=0 then (0,1) else widE lo hi):=by rw [Hid,hk];rfl
 generalize widE lo hi=we at HW HE;obtain ⟨wn,we⟩:=we;clear hk ha hb hc hd h1 h2 h3 h4;have hK:=Blk.new w #[.string a,.string b,.string c,.string d] 35;have hBW:=b1 w (.cells #[.string a,.string b,.string c,.string d] 35);obtain ⟨hKc0,hKf0,hKc1,hKf1,hKc2,hKf2,hKc3,hKf3⟩:=hK.x4;go_enter Tryz.func31,Tryz.ntmps31
 go_wp2_with fail
 refine (HP.out _).mono ?_;rintro e w2 ⟨rfl,hb⟩;clear hKc0 hKf0 hKc1 hKf1 hKc2 hKf2 hKc3 hKf3;replace hK:=hK.after hb;replace hBW:=bt hBW hb;clear hb;by_cases h0:k=0
 case neg =>
  have hkb:((k:Int) != 0)=true:=by rw [bne_iff_ne];omega
  go_wp2;refine bodyPost_ret (v:=.tuple #[.int .i64 0,.int .i64 (k:Int)]) ?_ rfl ?_
  ·simp [results,Tryz.results31,go_sem]
  ·rw [HE.out,if_pos h0];exact ⟨rfl,hBW⟩
 case pos =>
  subst h0;by_cases hbs:b.size=0
  ·have hz:=z_str hbs;have hz2:(b.toList==[])=true:=by simpa using hz
   obtain ⟨hKc0,hKf0,hKc1,hKf1,hKc2,hKf2,hKc3,hKf3⟩:=hK.x4;go_wp2;refine bodyPost_ret (v:=.tuple #[.int .i64 0,.int .i64 1]) ?_ rfl ?_
   ·simp [results,Tryz.results31,go_sem]
   ·rw [HE.out,if_neg (by decide),if_pos hbs];exact ⟨rfl,hBW⟩
  ·have hz:=nz_str (Nat.pos_of_ne_zero hbs)
   have hz2:(b.toList==[])=false:=by
    rw [beq_eq_false_iff_ne];intro e;rw [e] at hz;cases hz
   obtain ⟨hKc0,hKf0,hKc1,hKf1,hKc2,hKf2,hKc3,hKf3⟩:=hK.x4;go_wp2_with fail
   refine (HW.out _).mono ?_;rintro e w3 ⟨rfl,hb⟩;go_wp2;refine bodyPost_ret (v:=.tuple #[.int .i64 (wn:Int),.int .i64 (we:Int)]) ?_ rfl ?_
   ·simp [results,Tryz.results31,go_sem]
   ·rw [HE.out,if_neg (by decide),if_neg hbs];exact ⟨rfl,bt hBW hb⟩
def dstE (q:Nat) (lo hi:Int) (v:Nat):Nat × Bool:=if (hi-lo).toNat<subM v (lo%(q:Int)).toNat q then (0,false) else (subM v (lo%(q:Int)).toNat q,true)
def vDs (gK q:Nat) (lo:Int) (f:Nat):RVB:=fun st i u w=>match i with
 | 0=>u=.int .i64 lo
 | 1=>u=.agg #[.bool (sg (lo)),.string (E (lo).natAbs)]
 | 2=>u=.pointer (some ⟨gK,0,none⟩)
 | 3=>u=.pointer (some ⟨gK,1,none⟩)
 | 4=>u=.string (E q)
 | 5=>u=.tuple #[.string (E f),.int .i64 0]
 | 6=>u=.tuple #[.string (E f),.int .i64 0]
 | 7=>u=.string (E f)
 | 8=>u=.int .i64 0
 | 9=>u=.string (E f)
 | 10=>u=.int .i64 0
 | _=>True
theorem vDs_any (gK q:Nat) (lo:Int) (f:Nat):∀(l:List Bool) (j:Nat) (u:Value) (w w':World),Below w.heap.size w w'→vDs gK q lo f l j u w→vDs gK q lo f l j u w':=by
 intro l j u w w' _ h;unfold vDs at h ⊢;exact h
theorem dist_c (p q g h v:Nat) (lo hi:Int) (w:World) (hq:q<256^8) (h0:0<q) (hv:v<q) (h1:-9223372036854775808≤lo) (h2:lo≤9223372036854775807) (hle:lo≤hi) (hd:hi-lo<4294967296) :
  Calls Tryz.prog 33 #[.agg #[.string (E p),.string (E q),.string (E g),.string (E h)],.int .i64 lo,.int .i64 hi,.string (E v)] w fun e w'=>e=.returned (.tuple #[.int .i64 ((dstE q lo hi v).1:Int),.bool (dstE q lo hi v).2])∧Below w.heap.size w w':=by
 obtain ⟨f,hf⟩:∃f,f=(lo%(q:Int)).toNat:=⟨_,rfl⟩;have hfq:f<q:=by rw [hf];have:=Int.emod_lt_of_pos lo (show (0:Int)<q by omega);omega
 have HO:Hid (∀w:World,Calls Tryz.prog 63 #[.int .i64 lo] w fun e w'=>e=.returned (.agg #[.bool (sg (lo)),.string (E (lo).natAbs)])∧Below w.heap.size w w'):=fun w=>iof_c lo w h1 h2
 have HM:Hid (∀w:World,Calls Tryz.prog 62 #[.agg #[.bool (sg (lo)),.string (E (lo).natAbs)],.string (E q)] w fun e w'=>e=.returned (.tuple #[.string (E f),.int .i64 0])∧Below w.heap.size w w'):=fun w=>by
  rw [hf];exact imod_c lo q w (by rw [show (256:Nat)^8=18446744073709551616 by decide];omega) (Nat.lt_of_lt_of_le hq (Nat.pow_le_pow_right (by decide) (by decide))) h0
 obtain ⟨d,hdd⟩:∃d,d=subM v f q:=⟨_,rfl⟩;have hdq:d<q:=by rw [hdd];unfold subM;exact Nat.mod_lt _ h0
 have HSU:Hid (∀w:World,Calls Tryz.prog 64 #[.string (E v),.string (E f),.string (E q)] w fun e w'=>e=.returned (.tuple #[.string (E d),.int .i64 0])∧Below w.heap.size w w'):=fun w=>by rw [hdd];exact msub_c v f q w (Nat.lt_trans hv hq) (Nat.lt_trans hfq hq) hq h0
 have HSM:Hid (∀w:World,Calls Tryz.prog 65 #[.string (E d)] w fun e w'=>e=.returned (.tuple #[.int .u64 d,.bool true])∧w=w'):=fun w=>small_c d w (Nat.lt_trans hdq hq)
 have HE:Hid (dstE q lo hi v=if (hi-lo).toNat<d then (0,false) else (d,true)):=by rw [Hid,hdd,hf];rfl
 obtain ⟨D,hD⟩:∃D:Nat,(D:Int)=hi-lo:=⟨(hi-lo).toNat,by omega⟩;rw [show (hi-lo).toNat=D by omega] at HE;have hw:=wrapU_sub hD (by omega:D<2^64);obtain ⟨t1,ht1⟩:∃t:Bool,t=decide (IntKind.wrap .u64 (IntKind.wrap .u64 hi-IntKind.wrap .u64 lo)<(d:Int)):=⟨_,rfl⟩;have HT1:Hid (t1=decide ((D:Int)<(d:Int))):=by rw [Hid,ht1,hw]
 have ht1':=ht1.symm;have HD2:Hid (D<4294967296):=by rw [Hid];omega
 clear hw ht1 hdd hdq hf hfq hq h0 hv h1 h2 hle hd hD;have hK:=Blk.new w #[.string (E p),.string (E q),.string (E g),.string (E h)] 35;have hBW:=b1 w (.cells #[.string (E p),.string (E q),.string (E g),.string (E h)] 35);go_enter Tryz.func33,Tryz.ntmps33
 go_upto_region 1 with fail
 generalize w.alloc (.cells #[.string (E p),.string (E q),.string (E g),.string (E h)] 35)=w1 at hK hBW ⊢;obtain ⟨gK,hgK⟩:∃x,x=w.heap.size:=⟨_,rfl⟩;rw [←hgK] at hK ⊢;replace hK:Blk w1 gK 35 [.string (E p),.string (E q),.string (E g),.string (E h)]:=hK;clear hgK;go_cut [10] (fun s10 wx=>s10=.string (E f)∧Below w1.heap.size w1 wx)
 case first =>
  refine wp_region_invB (vDs gK q lo f) [] w1.heap.size (fun _ _=>True) 52 trivial (by kernel_rfl) rfl (by kernel_rfl) ?_ ?_ (by kernel_rfl)
  ·intro hsl done a' w' i o hJ ho hun hpre;have hi:=(Array.getElem?_eq_some_iff.1 ho).1;have hst:=vDs_any gK q lo f;have hFt:∀(b:List Bool) (w w':World),Below w.heap.size w w'→(fun (_:List Bool) (_:World)=>True) b w→(fun (_:List Bool) (_:World)=>True) b w':=fun _ _ _ _ _=>trivial
   have hwz:=hJ.bw.size;have hKx:=hK.after hJ.bw;have hKl:=hKx.lt;have x1:=hKx.cell 1
   match i,hi,ho,hun,hpre with
    | 0,_,ho,hun,hpre =>
     simp at ho;subst ho;refine hJ.op (d:=17) hsl hst hFt hwz rfl rfl rfl (by decide) hpre ?_;have q1:=hJ.keep 1 (.int .i64 lo) rfl (by kernel_rfl);refine wp_val (v:=.int .i64 lo) (by simp [execOp,q1,go_sem]) rfl
    | 1,_,ho,hun,hpre =>
     simp at ho;subst ho;refine hJ.op (d:=18) hsl hst hFt hwz rfl rfl rfl (by decide) hpre ?_;obtain ⟨v17,ev17,hv17⟩:=hJ.dn 0 _ 17 rfl (hpre ⟨0,.data⟩ (by simp) rfl) rfl;have qv17:=eval_of ev17;obtain rfl:v17=.int .i64 lo:=hv17;refine wp_callX 63 #[.tmp 17] #[2] rfl (enters_of Tryz.func63 (by kernel_rfl) rfl) ?_;simp only [List.map_toArray,List.map_cons,List.map_nil,qv17];refine (HO.out w').mono ?_;rintro e w'' ⟨rfl,hb⟩;exact ⟨_,rfl,hb,rfl⟩
    | 2,_,ho,hun,hpre =>
     simp at ho;subst ho;refine hJ.op (d:=19) hsl hst hFt hwz rfl rfl rfl (by decide) hpre ?_;have q4:=hJ.keep 4 (.pointer (some ⟨gK,0,none⟩)) rfl (by kernel_rfl);refine wp_val (v:=.pointer (some ⟨gK,0,none⟩)) (by simp [execOp,q4,go_sem]) rfl
    | 3,_,ho,hun,hpre =>
     simp at ho;subst ho;refine hJ.op (d:=20) hsl hst hFt hwz rfl rfl rfl (by decide) hpre ?_;obtain ⟨v19,ev19,hv19⟩:=hJ.dn 2 _ 19 rfl (hpre ⟨2,.data⟩ (by simp) rfl) rfl;have qv19:=eval_of ev19;obtain rfl:v19=.pointer (some ⟨gK,0,none⟩):=hv19;refine wp_val (v:=.pointer (some ⟨gK,1,none⟩)) (by simp [execOp,ev19,go_sem]) rfl
    | 4,_,ho,hun,hpre =>
     simp at ho;subst ho;refine hJ.op (d:=21) hsl hst hFt hwz rfl rfl rfl (by decide) hpre ?_;obtain ⟨v20,ev20,hv20⟩:=hJ.dn 3 _ 20 rfl (hpre ⟨3,.data⟩ (by simp) rfl) rfl;have qv20:=eval_of ev20;obtain rfl:v20=.pointer (some ⟨gK,1,none⟩):=hv20;refine wp_val (v:=.string (E q)) (by simp [execOp,ev20,go_sem,x1]) rfl
    | 5,_,ho,hun,hpre =>
     simp at ho;subst ho;refine hJ.op (d:=22) hsl hst hFt hwz rfl rfl rfl (by decide) hpre ?_;obtain ⟨v18,ev18,hv18⟩:=hJ.dn 1 _ 18 rfl (hpre ⟨1,.data⟩ (by simp) rfl) rfl;have qv18:=eval_of ev18;obtain ⟨v21,ev21,hv21⟩:=hJ.dn 4 _ 21 rfl (hpre ⟨4,.data⟩ (by simp) rfl) rfl;have qv21:=eval_of ev21;obtain rfl:v18=.agg #[.bool (sg (lo)),.string (E (lo).natAbs)]:=hv18;obtain rfl:v21=.string (E q):=hv21;refine wp_callX 62 #[.tmp 18,.tmp 21] #[37,31] rfl (enters_of Tryz.func62 (by kernel_rfl) rfl) ?_;simp only [List.map_toArray,List.map_cons,List.map_nil,qv18,qv21];refine (HM.out w').mono ?_;rintro e w'' ⟨rfl,hb⟩;exact ⟨_,rfl,hb,rfl⟩
    | 6,_,ho,hun,hpre =>
     simp at ho;subst ho;refine hJ.op (d:=16) hsl hst hFt hwz rfl rfl rfl (by decide) hpre ?_;obtain ⟨v22,ev22,hv22⟩:=hJ.dn 5 _ 22 rfl (hpre ⟨5,.data⟩ (by simp) rfl) rfl;have qv22:=eval_of ev22;obtain rfl:v22=.tuple #[.string (E f),.int .i64 0]:=hv22;refine wp_val (v:=.tuple #[.string (E f),.int .i64 0]) (by simp [execOp,ev22,go_sem]) rfl
    | 7,_,ho,hun,hpre =>
     simp at ho;subst ho;refine hJ.op (d:=23) hsl hst hFt hwz rfl rfl rfl (by decide) hpre ?_;obtain ⟨v16,ev16,hv16⟩:=hJ.dn 6 _ 16 rfl (hpre ⟨6,.data⟩ (by simp) rfl) rfl;have qv16:=eval_of ev16;obtain rfl:v16=.tuple #[.string (E f),.int .i64 0]:=hv16;refine wp_val (v:=.string (E f)) (by simp [execOp,ev16,go_sem]) rfl
    | 8,_,ho,hun,hpre =>
     simp at ho;subst ho;refine hJ.op (d:=24) hsl hst hFt hwz rfl rfl rfl (by decide) hpre ?_;obtain ⟨v16,ev16,hv16⟩:=hJ.dn 6 _ 16 rfl (hpre ⟨6,.data⟩ (by simp) rfl) rfl;have qv16:=eval_of ev16;obtain rfl:v16=.tuple #[.string (E f),.int .i64 0]:=hv16;refine wp_val (v:=.int .i64 0) (by simp [execOp,ev16,go_sem]) rfl
    | 9,_,ho,hun,hpre =>
     simp at ho;subst ho;refine hJ.op (d:=10) hsl hst hFt hwz rfl rfl rfl (by decide) hpre ?_;obtain ⟨v23,ev23,hv23⟩:=hJ.dn 7 _ 23 rfl (hpre ⟨7,.data⟩ (by simp) rfl) rfl;have qv23:=eval_of ev23;obtain rfl:v23=.string (E f):=hv23;refine wp_val (v:=.string (E f)) (by simp [execOp,ev23,go_sem]) rfl
    | 10,_,ho,hun,hpre =>
     simp at ho;subst ho;refine hJ.op (d:=11) hsl hst hFt hwz rfl rfl rfl (by decide) hpre ?_;obtain ⟨v24,ev24,hv24⟩:=hJ.dn 8 _ 24 rfl (hpre ⟨8,.data⟩ (by simp) rfl) rfl;have qv24:=eval_of ev24;obtain rfl:v24=.int .i64 0:=hv24;refine wp_val (v:=.int .i64 0) (by simp [execOp,ev24,go_sem]) rfl
  ·intro done a' w' hJ hd;obtain ⟨f9,hf,hv⟩:=hJ.all hd;have h9:f9 9=.string (E f):=hv 9 _ 10 rfl rfl;have hbw:=hJ.bw;clear hJ hv hd;subst hf;simp only [putAll,List.size_toArray,List.length_cons,List.length_nil,Nat.reduceAdd,List.getElem?_toArray,List.getElem?_cons_zero,List.getElem?_cons_succ,Option.bind_some,Act.put,List.setIfInBounds_toArray,List.set_cons_zero,List.set_cons_succ];rw [h9];go_wp2_with fail
   go_meet
   exact ⟨rfl,hbw⟩
 case rest =>
  obtain ⟨rfl,hb⟩:=hcut;obtain ⟨wx,hwx⟩:∃wx,wx=wc:=⟨_,rfl⟩;subst hwx;replace hK:=hK.after hb;replace hBW:=bt hBW hb;clear hb HO HM;have hKl:=hK.lt;obtain ⟨hKc0,hKf0,hKc1,hKf1,hKc2,hKf2,hKc3,hKf3⟩:=hK.x4;go_wp2_with fail
  refine (HSU.out _).mono ?_;rintro e w2 ⟨rfl,hb⟩;clear hKc0 hKf0 hKc1 hKf1 hKc2 hKf2 hKc3 hKf3;replace hBW:=bt hBW hb;clear hb HSU hK hKl;go_wp2_with fail
  refine (HSM.out _).mono ?_;rintro e w3 ⟨rfl,rfl⟩;cases t1
  case true =>
   go_wp2;refine bodyPost_ret (v:=.tuple #[.int .i64 0,.bool false]) ?_ rfl ?_
   ·simp [results,Tryz.results33,go_sem]
   ·rw [HE.out,if_pos (by have:=of_decide_eq_true HT1.out.symm;omega)];exact ⟨rfl,hBW⟩
  case false =>
   have hdD:d≤D:=by have:=of_decide_eq_false HT1.out.symm;omega
   have ew:IntKind.i64.wrap (d:Int)=(d:Int):=IntWalk.i64_in _ (by have:=HD2.out;omega);go_wp2;refine bodyPost_ret (v:=.tuple #[.int .i64 (d:Int),.bool true]) ?_ rfl ?_
   ·simp [results,Tryz.results33,go_sem,ew]
   ·rw [HE.out,if_neg (by omega)];exact ⟨rfl,hBW⟩
end Go.Proofs.YtdoacbdkbbpamaaGreatDoor
