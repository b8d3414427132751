/- bits.Split: commitments to the digits of a value. -/
import Derived.Test.YtdoacbdkbbpamaaGreatDoorFs24
import Derived.Test.YtdoacbdkbbpamaaGreatDoorLck6
set_option linter.unusedVariables false
set_option linter.unusedSimpArgs false
set_option maxRecDepth 100000
set_option maxHeartbeats 16000000
namespace Go.Proofs.YtdoacbdkbbpamaaGreatDoor
open Go.RowKit Go.Shelf
def dgs (v k:Nat):List Nat:=(List.range k).map fun j=>v / 2^j%2
def splN (att:Att) (p g h q:Nat) (X:List Nat) (T:Tp) (k:Nat):PrR:=
 match (List.range k).find? (fun j=>(prC att q T j).1 != 0) with
 | some j=>⟨(prC att q T j).1,[],[],Tp.nil⟩
 | none=>⟨0,prP att p g h q X T k,prO att q X T k,T.on k⟩
theorem splN_bad {att:Att} {p g h q:Nat} {X:List Nat} {T:Tp} {n k:Nat} (hk:k<n) (hb:∀j,j<k→(prC att q T j).1=0) (he:(prC att q T k).1≠0):splN att p g h q X T n=⟨(prC att q T k).1,[],[],Tp.nil⟩:=by
 unfold splN;rw [find_range (p:=fun j=>(prC att q T j).1 != 0) hk (fun j hj=>by rw [hb j hj];rfl) (bne_iff_ne.2 he)]
theorem splN_ok {att:Att} {p g h q:Nat} {X:List Nat} {T:Tp} {n:Nat} (hb:∀j,j<n→(prC att q T j).1=0):splN att p g h q X T n=⟨0,prP att p g h q X T n,prO att q X T n,T.on n⟩:=by
 unfold splN;rw [List.find?_eq_none.2 (fun j hj=>by have:=hb j (List.mem_range.1 hj);simp [this])]
theorem coin_good {att:Att} {T:Tp} {n:Nat} (hl:T.vals.length≤100) (h:(coin att T n).1=0):T.good=true∧T.pos<2147483647:=by
 unfold coin at h;split at h
 ·cases h
 rename_i h1;have h1:T.good=true:=by cases hh:T.good;exact absurd hh h1;rfl
 split at h
 ·cases h
 refine ⟨h1,?_⟩;unfold Tp.good at h1;simp only [Bool.and_eq_true,decide_eq_true_eq] at h1;have h3:=h1.2.1;have h4:=h1.2.2;unfold coinD at h;split at h
 ·rename_i h5;omega
 ·split at h
  ·cases h
  ·rename_i h5;have:T.pos≠2147483647:=fun e=>h5 (.inr e)
   omega
theorem good_on {T:Tp} (hg:T.good=true) (h:T.pos<2147483647):(T.on 1).good=true:=by
 unfold Tp.good at hg ⊢;simp only [Bool.and_eq_true,decide_eq_true_eq] at hg ⊢;refine ⟨hg.1,?_,?_⟩
 ·show 0≤T.pos+((1:Nat):Int);omega
 ·show T.pos+((1:Nat):Int)≤2147483647;omega
theorem good_all {att:Att} {T:Tp} {q:Nat} (hl:T.vals.length≤100) (hg:T.good=true):∀k,(∀j,j<k→(prC att q T j).1=0)→(T.on k).good=true
 | 0,_=>by rw [Tp.on_zero];exact hg
 | k+1,h=>by
  have h1:=coin_good (T:=T.on k) hl (h k (by omega));have h2:=good_on h1.1 h1.2;rwa [Tp.on_on] at h2
theorem dgs_at {v k j:Nat} (h:j<k):(dgs v k).getD j 0=v / 2^j%2:=by
 unfold dgs;rw [List.getD_eq_getElem?_getD,List.getElem?_eq_getElem (by simpa using h),Option.getD_some,List.getElem_map,List.getElem_range]
theorem bkey_c (p q g h:Nat) (w:World) (hp:p<256^8) (hq:q<256^8) (h0:0<q) (hgb:g<256^100) (hhb:h<256^100) (he:pedE p q g h=0) :
  Calls Tryz.prog 68 #[.agg #[.string (E p),.string (E q),.string (E g),.string (E h)],.bool true] w fun e w'=>e=.returned (.int .i64 0)∧Below w.heap.size w w':=by
 have u128:∀{n:Nat},n<256^100→n<256^128:=fun h=>Nat.lt_of_lt_of_le h (Nat.pow_le_pow_right (by decide) (by decide))
 have HC:Hid (∀w:World,Calls Tryz.prog 60 #[.agg #[.string (E p),.string (E q),.string (E g),.string (E h)]] w fun e w'=>e=.returned (.int .i64 0)∧Below w.heap.size w w'):=fun w=>pedcheckV_c p q g h 0 w hp (Nat.lt_of_lt_of_le hq (Nat.pow_le_pow_right (by decide) (by decide))) (u128 hgb) (u128 hhb) he
 have hz:=nzE h0;have hz2:=nzE2 h0;clear u128 hp hq h0 hgb hhb he;have hK:=Blk.new w #[.string (E p),.string (E q),.string (E g),.string (E h)] 35;have hBW:=b1 w (.cells #[.string (E p),.string (E q),.string (E g),.string (E h)] 35);obtain ⟨hKc0,hKf0,hKc1,hKf1,hKc2,hKf2,hKc3,hKf3⟩:=hK.x4;go_enter Tryz.func68,Tryz.ntmps68
 go_wp2_with fail
 refine (HC.out _).mono ?_;rintro e w2 ⟨rfl,hb⟩;clear hKc0 hKf0 hKc1 hKf1 hKc2 hKf2 hKc3 hKf3;replace hK:=hK.after hb;replace hBW:=bt hBW hb;clear hb;obtain ⟨hKc0,hKf0,hKc1,hKf1,hKc2,hKf2,hKc3,hKf3⟩:=hK.x4;go_wp2;go_ret
 exact ⟨rfl,hBW⟩
def vS1 (B:Nat) (vT:Value) (k:Nat):RVB:=fun st i v w=>match i with
 | 0=>v=vT
 | 1=>v=.string (E 1)
 | 2=>∃x u un uc sd z,v=.tuple #[.string x,.agg #[.slice u un uc,.string sd,.int .i64 z],.int .i64 (k:Int)]
 | 3=>∃x u un uc sd z,v=.tuple #[.string x,.agg #[.slice u un uc,.string sd,.int .i64 z],.int .i64 (k:Int)]
 | 4=>∃x,v=.string x
 | 5=>∃u un uc sd z,v=.agg #[.slice u un uc,.string sd,.int .i64 z]
 | 6=>v=.int .i64 (k:Int)
 | 7=>∃x,v=.pointer (some ⟨x,0,none⟩)∧B≤x∧(st=[false]→Blk w x 42 [.slice none 0 0,.string ⟨#[]⟩,.int .i64 0])
 | 8=>∃x,v=.string x
 | 10=>v=.int .i64 (k:Int)
 | _=>True
theorem vS1_st (B:Nat) (vT:Value) (k:Nat):∀(l:List Bool) (j:Nat) (u:Value) (w w':World),Below w.heap.size w w'→vS1 B vT k l j u w→vS1 B vT k l j u w':=by
 intro l j u w w' hb h;unfold vS1 at h ⊢;split at h
 all_goals first
  | exact h
  | (obtain ⟨x,h1,h2,h3⟩:=h;exact ⟨x,h1,h2,fun e=>(h3 e).after hb⟩)
theorem vS1_sto {B:Nat} {vT:Value} {k:Nat} {w w':World}:∀(j:Nat) (u:Value),vS1 B vT k [false] j u w→vS1 B vT k [true] j u w':=by
 intro j u h;unfold vS1 at h ⊢;split at h
 all_goals first
  | exact h
  | (obtain ⟨x,h1,h2,h3⟩:=h;exact ⟨x,h1,h2,fun e=>(by cases e)⟩)
theorem and_one (m:Nat) (h:m<2^63):bits .and .i64 (m:Int) 1=((m%2:Nat):Int):=by
 have h2:m<2^64:=Nat.lt_trans h (by decide);unfold bits;rw [show (BitVec.ofInt (IntKind.bits .i64) (m:Int))=BitVec.ofNat 64 m from BitVec.ofInt_natCast 64 m,show (BitVec.ofInt (IntKind.bits .i64) (1:Int))=BitVec.ofNat 64 1 from BitVec.ofInt_natCast 64 1];show IntKind.wrap .i64 (((BitVec.ofNat 64 m) &&& (BitVec.ofNat 64 1)).toNat:Int)=_;rw [BitVec.toNat_and,BitVec.toNat_ofNat,BitVec.toNat_ofNat,Nat.mod_eq_of_lt h2,show 1%2^64=1 from rfl,Nat.and_one_is_mod];unfold IntKind.wrap;have h3:=Nat.mod_lt m (show 0<2 by decide);generalize m%2=x at h3;simp [IntKind.bits,IntKind.signed];omega
theorem RInvB.keepX {ops:Array Oper} {V:RVB} {S:List Nat} {B:Nat} {F:List Bool→World→Prop} {w0 w:World} {a0 a:Act} {done:Array Bool} (h:RInvB ops V S B F w0 a0 done a w) (k:Nat) (v:Value) (x:Nat) (hx:done.getD x false=false) (hv:a0.tmps[k]?=some v) (hk:((List.range ops.size).all fun i=>i==x || (ops[i]?).bind (·.dst) != some k)=true):a.tmps[k]?=some v:=by
 rw [h.un k fun i o ho hd e=>?_,hv];rw [List.all_eq_true] at hk;have h1:=hk i (List.mem_range.2 (Array.getElem?_eq_some_iff.1 ho).1);rw [ho,Option.bind_some,e] at h1;simp at h1;subst h1;rw [hx] at hd;cases hd
def vS2 (vK vM vT:Value) (v k xd ke:Nat) (cs s1 s2:ByteArray):RVB:=fun st i u w=>match i with
 | 0=>u=vK
 | 1=>u=.int .i64 (v:Int)
 | 2=>u=.int .i64 (k:Int)
 | 3=>u=.int .i64 ((v / 2^k:Nat):Int)
 | 4=>u=.int .i64 (xd:Int)
 | 5=>u=vM
 | 6=>u=vT
 | 9=>u=.string cs
 | 10=>u=.agg #[.bool false,.string s1,.bool false,.string s2]
 | 12=>u=.int .i64 (ke:Int)
 | 15=>u=.string cs
 | 18=>u=.int .i64 (ke:Int)
 | _=>True
theorem vS2_any (vK vM vT:Value) (v k xd ke:Nat) (cs s1 s2:ByteArray) {l l':List Bool} {w w':World}:∀i u,vS2 vK vM vT v k xd ke cs s1 s2 l i u w→vS2 vK vM vT v k xd ke cs s1 s2 l' i u w':=by
 intro i u h;unfold vS2 at h ⊢;exact h
theorem bsplit_c (att:Att) (p q g h n v:Nat) (T:Tp) (u:Value) (w:World) (hat:HAtt att T.seed w) (hok:T.Ok) (hgd:T.good=true) (hp:p<256^8) (hq:q<256^8) (h2:2≤q) (hgb:g<256^100) (hhb:h<256^100) (he:pedE p q g h=0) (hn:1≤n) (hn2:n≤32) (hv:v<2^n) (hV:SsAt w u T.vals) :
  Calls Tryz.prog 35 #[.agg #[.string (E p),.string (E q),.string (E g),.string (E h)],.int .i64 (n:Int),.int .i64 (v:Int),.agg #[u,.string T.seed,.int .i64 T.pos]] w (PrPostF w (splN att p g h q (dgs v n) T n)):=by
 have HB1:Hid (∀(u:Value) (w':World),Below w.heap.size w w'→SsAt w' u T.vals→Calls Tryz.prog 66 #[.agg #[u,.string T.seed,.int .i64 T.pos],.string (E 1)] w' (CPost w' T (coin att T 1))):=fun u w' hb hu=>cbelow_c att T u 1 w' (hat.after hb) hok (by decide) hu
 have HO1:Hid (∀w:World,Calls Tryz.prog 67 #[.int .u64 1] w fun e w'=>e=.returned (.string (E 1))∧Below w.heap.size w w'):=fun w=>of_c 1 w (by decide)
 have HKY:Hid (∀w:World,Calls Tryz.prog 68 #[.agg #[.string (E p),.string (E q),.string (E g),.string (E h)],.bool true] w fun e w'=>e=.returned (.int .i64 0)∧Below w.heap.size w w'):=fun w=>bkey_c p q g h w hp hq (by omega) hgb hhb he
 have HRN:Hid (∀(j:Nat) (u:Value) (w':World),j<n→(∀i,i<j→(prC att q T i).1=0)→Below w.heap.size w w'→SsAt w' u T.vals→Calls Tryz.prog 69 #[.agg #[.string (E p),.string (E q),.string (E g),.string (E h)],.agg #[.bool false,.string (E ((dgs v n).getD j 0))],.agg #[u,.string T.seed,.int .i64 (T.pos+(j:Int))]] w' (RnPost w' p g h ((dgs v n).getD j 0) (T.on j) (prC att q T j))):=fun j u w' hj hb0 hb hu =>
  prand_c att p q g h ((dgs v n).getD j 0) (T.on j) u w' (hat.after hb) (hok.on j) (good_all hok.n hgd j hb0) hp hq (by omega) hgb hhb (by rw [dgs_at hj];have:=Nat.mod_lt (v / 2^j) (show 0<2 by decide);omega) he hu
 obtain ⟨k1,hk1⟩:∃k,k=(coin att T 1).1:=⟨_,rfl⟩
 have hk3:k1≠3:=by
  rw [hk1];unfold coin;rw [if_neg (by rw [hgd];decide),if_neg (by decide)];unfold coinD;split
  ·split <;> simp
  ·split
   ·simp
   ·unfold coinS;split <;> simp
 obtain ⟨c1,hc1⟩:∃c,c=coin att T 1:=⟨_,rfl⟩;rw [←hc1] at HB1 hk1;clear hc1;obtain ⟨R,hR⟩:∃R,R=splN att p g h q (dgs v n) T n:=⟨_,rfl⟩;have HR:=Lib.hid hR;rw [←hR];clear hR hat hok hgd hp hq h2 hgb hhb he;obtain ⟨at_,ct,rfl⟩:=RAt.form hV;obtain ⟨nt,hnt⟩:∃n,n=T.vals.length:=⟨_,rfl⟩;rw [←hnt] at hV ⊢;clear hnt;have hK:=blk3a w #[.string (E p),.string (E q),.string (E g),.string (E h)] #[.slice at_ nt ct,.string T.seed,.int .i64 T.pos] #[.slice none 0 0,.string ⟨#[]⟩,.int .i64 0] 35 42 42;have hT:=blk3b w #[.string (E p),.string (E q),.string (E g),.string (E h)] #[.slice at_ nt ct,.string T.seed,.int .i64 T.pos] #[.slice none 0 0,.string ⟨#[]⟩,.int .i64 0] 35 42 42;have hQ:=blk3c w #[.string (E p),.string (E q),.string (E g),.string (E h)] #[.slice at_ nt ct,.string T.seed,.int .i64 T.pos] #[.slice none 0 0,.string ⟨#[]⟩,.int .i64 0] 35 42 42;have hBW:=b3 w (.cells #[.string (E p),.string (E q),.string (E g),.string (E h)] 35) (.cells #[.slice at_ nt ct,.string T.seed,.int .i64 T.pos] 42) (.cells #[.slice none 0 0,.string ⟨#[]⟩,.int .i64 0] 42);have hV1:=SsAt.after hV hBW;obtain ⟨gT,hgT⟩:∃g,w.heap.size+1=g:=⟨_,rfl⟩;obtain ⟨gQ,hgQ⟩:∃g,w.heap.size+1+1=g:=⟨_,rfl⟩;have HGW:Hid (w.heap.size<gT∧gT<gQ):=by rw [Hid];omega
 have HG1:=Lib.hid hgT;have HG2:=Lib.hid hgQ;have hFT:FarS (.slice at_ nt ct) gT:=ss_far hV (by omega);have hFQ:FarS (.slice at_ nt ct) gQ:=ss_far hV (by omega);clear hgT hgQ hV;go_enter Tryz.func35,Tryz.ntmps35
 go_upto_region 1 with fail
 rw [HG2.out,HG1.out];replace hT:Blk _ gT 42 [.slice at_ nt ct,.string T.seed,.int .i64 T.pos]:=HG1.out ▸ hT;replace hQ:Blk _ gQ 42 [.slice none 0 0,.string ⟨#[]⟩,.int .i64 0]:=HG2.out ▸ hQ;generalize ((w.alloc (.cells #[.string (E p),.string (E q),.string (E g),.string (E h)] 35)).alloc (.cells #[.slice at_ nt ct,.string T.seed,.int .i64 T.pos] 42)).alloc (.cells #[.slice none 0 0,.string ⟨#[]⟩,.int .i64 0] 42)=w1 at hK hT hQ hBW hV1 ⊢;replace hK:Blk w1 w.heap.size 35 [.string (E p),.string (E q),.string (E g),.string (E h)]:=hK;clear HG1 HG2;go_cut [14] (fun s14 wx=>s14=.int .i64 (k1:Int)∧Below w1.heap.size w1 wx)
 case first =>
  refine wp_region_invB (vS1 w1.heap.size (.agg #[.slice at_ nt ct,.string T.seed,.int .i64 T.pos]) k1) [9] w1.heap.size (fun _ _=>True) 98 trivial (by kernel_rfl) rfl (by kernel_rfl) ?_ ?_ (by kernel_rfl)
  ·intro hsl done a' w' i o hJ ho hun hpre;have hi:=(Array.getElem?_eq_some_iff.1 ho).1;have hst:=vS1_st w1.heap.size (.agg #[.slice at_ nt ct,.string T.seed,.int .i64 T.pos]) k1;have hFt:∀(b:List Bool) (w w':World),Below w.heap.size w w'→(fun (_:List Bool) (_:World)=>True) b w→(fun (_:List Bool) (_:World)=>True) b w':=fun _ _ _ _ _=>trivial
   have hwz:=hJ.bw.size;have hTx:=hT.after hJ.bw;have hTl:=hTx.lt;have x0:=hTx.cell 0;have x1:=hTx.cell 1;have x2:=hTx.cell 2
   match i,hi,ho,hun,hpre with
    | 0,_,ho,hun,hpre =>
     simp at ho;subst ho;refine hJ.op (d:=24) hsl hst hFt hwz rfl rfl rfl (by decide) hpre ?_;have q7:=hJ.keep 7 (.pointer (some ⟨gT,0,none⟩)) rfl (by kernel_rfl);refine wp_val (v:=.agg #[.slice at_ nt ct,.string T.seed,.int .i64 T.pos]) (by simp [execOp,q7,go_sem,x0,x1,x2]) rfl
    | 1,_,ho,hun,hpre =>
     simp at ho;subst ho;refine hJ.op (d:=25) hsl hst hFt hwz rfl rfl rfl (by decide) hpre ?_;refine wp_callX 67 #[.const (.int .u64 1)] #[70] rfl (enters_of Tryz.func67 (by kernel_rfl) rfl) ?_;simp only [List.map_toArray,List.map_cons,List.map_nil,eval_const];refine (HO1.out w').mono ?_;rintro e w'' ⟨rfl,hb⟩;exact ⟨_,rfl,hb,rfl⟩
    | 2,_,ho,hun,hpre =>
     simp at ho;subst ho;refine hJ.op (d:=26) hsl hst hFt hwz rfl rfl rfl (by decide) hpre ?_;obtain ⟨v24,ev24,hv24⟩:=hJ.dn 0 _ 24 rfl (hpre ⟨0,.data⟩ (by simp) rfl) rfl;have qv24:=eval_of ev24;obtain ⟨v25,ev25,hv25⟩:=hJ.dn 1 _ 25 rfl (hpre ⟨1,.data⟩ (by simp) rfl) rfl;have qv25:=eval_of ev25;obtain rfl:v24=.agg #[.slice at_ nt ct,.string T.seed,.int .i64 T.pos]:=hv24;obtain rfl:v25=.string (E 1):=hv25;refine wp_callX 66 #[.tmp 24,.tmp 25] #[42,31] rfl (enters_of Tryz.func66 (by kernel_rfl) rfl) ?_;simp only [List.map_toArray,List.map_cons,List.map_nil,qv24,qv25];refine (HB1.out _ w' (bt hBW hJ.bw) (SsAt.after hV1 hJ.bw)).mono ?_;rintro e w'' ⟨t,rfl,⟨u9,rfl,hU9⟩,_,hb⟩;obtain ⟨a9,c9,rfl⟩:=RAt.form hU9;exact ⟨_,rfl,hb,_,_,_,_,_,_,by rw [hk1]⟩
    | 3,_,ho,hun,hpre =>
     simp at ho;subst ho;refine hJ.op (d:=23) hsl hst hFt hwz rfl rfl rfl (by decide) hpre ?_;obtain ⟨v26,ev26,hv26⟩:=hJ.dn 2 _ 26 rfl (hpre ⟨2,.data⟩ (by simp) rfl) rfl;have qv26:=eval_of ev26;obtain ⟨x9,u9,n9,c9,sd9,z9,rfl⟩:=hv26;refine wp_val (v:=.tuple #[.string x9,.agg #[.slice u9 n9 c9,.string sd9,.int .i64 z9],.int .i64 (k1:Int)]) (by simp [execOp,ev26,go_sem]) ⟨_,_,_,_,_,_,rfl⟩
    | 4,_,ho,hun,hpre =>
     simp at ho;subst ho;refine hJ.op (d:=27) hsl hst hFt hwz rfl rfl rfl (by decide) hpre ?_;obtain ⟨v23,ev23,hv23⟩:=hJ.dn 3 _ 23 rfl (hpre ⟨3,.data⟩ (by simp) rfl) rfl;have qv23:=eval_of ev23;obtain ⟨x9,u9,n9,c9,sd9,z9,rfl⟩:=hv23;refine wp_val (v:=.string x9) (by simp [execOp,ev23,go_sem]) ⟨_,rfl⟩
    | 5,_,ho,hun,hpre =>
     simp at ho;subst ho;refine hJ.op (d:=28) hsl hst hFt hwz rfl rfl rfl (by decide) hpre ?_;obtain ⟨v23,ev23,hv23⟩:=hJ.dn 3 _ 23 rfl (hpre ⟨3,.data⟩ (by simp) rfl) rfl;have qv23:=eval_of ev23;obtain ⟨x9,u9,n9,c9,sd9,z9,rfl⟩:=hv23;refine wp_val (v:=.agg #[.slice u9 n9 c9,.string sd9,.int .i64 z9]) (by simp [execOp,ev23,go_sem]) ⟨_,_,_,_,_,rfl⟩
    | 6,_,ho,hun,hpre =>
     simp at ho;subst ho;refine hJ.op (d:=29) hsl hst hFt hwz rfl rfl rfl (by decide) hpre ?_;obtain ⟨v23,ev23,hv23⟩:=hJ.dn 3 _ 23 rfl (hpre ⟨3,.data⟩ (by simp) rfl) rfl;have qv23:=eval_of ev23;obtain ⟨x9,u9,n9,c9,sd9,z9,rfl⟩:=hv23;refine wp_val (v:=.int .i64 (k1:Int)) (by simp [execOp,ev23,go_sem]) rfl
    | 7,_,ho,hun,hpre =>
     simp at ho;subst ho;refine hJ.op (d:=13) hsl hst hFt hwz rfl rfl rfl (by decide) hpre ?_;have hN:=Blk.new w' #[.slice none 0 0,.string ⟨#[]⟩,.int .i64 0] 42;simp [Oper.wp,execOp,go_sem];exact ⟨_,rfl,b1 _ _,_,rfl,hwz,fun _=>hN⟩
    | 8,_,ho,hun,hpre =>
     simp at ho;subst ho;refine hJ.op (d:=12) hsl hst hFt hwz rfl rfl rfl (by decide) hpre ?_;obtain ⟨v27,ev27,hv27⟩:=hJ.dn 4 _ 27 rfl (hpre ⟨4,.data⟩ (by simp) rfl) rfl;have qv27:=eval_of ev27;obtain ⟨x9,rfl⟩:=hv27;refine wp_val (v:=.string x9) (by simp [execOp,ev27,go_sem]) ⟨_,rfl⟩
    | 9,_,ho,hun,hpre =>
     simp at ho;subst ho;obtain ⟨v28,ev28,hv28⟩:=hJ.dn 5 _ 28 rfl (hpre ⟨5,.data⟩ (by simp) rfl) rfl;have qv28:=eval_of ev28;obtain ⟨v13,ev13,hv13⟩:=hJ.dn 7 _ 13 rfl (hpre ⟨7,.data⟩ (by simp) rfl) rfl;have qv13:=eval_of ev13
     have hs0:stB [9] done=[false]:=by
      have k9:done.getD 9 false=false:=hun;simp only [stB,List.map_cons,List.map_nil,k9]
     have hi9:9<done.size:=by rw [hJ.sz];decide
     have hs1:stB [9] (done.setIfInBounds 9 true)=[true]:=by
      have e:=hs0;simp only [stB,List.map_cons,List.map_nil,List.cons.injEq,and_true] at e;simp only [stB,List.map_cons,List.map_nil,getD_set _ _ _ hi9,e,if_true,if_false,Nat.reduceEqDiff]
     obtain ⟨u9,n9,c9,sd9,z9,rfl⟩:=hv28;rw [hs0] at hv13;obtain ⟨x,rfl,hBx,hG⟩:=hv13;have hG:=hG rfl;have hGl:=hG.lt;have f0:=hG.free 0;have f1:=hG.free 1;have f2:=hG.free 2;have z0:=hG.cell 0;have z1:=hG.cell 1;have z2:=hG.cell 2;refine wpOp_step rfl fun K' hK=>?_
     rw [if_pos (by simp [Region.wanted])];simp [Oper.wp,execOp,ev28,ev13,go_sem,f0,f1,f2,z0,z1,z2,hGl];have h9:=hJ.skip (i:=9) (v:=undef) rfl rfl hpre (((hJ.bw.setCell (p:=⟨x,0,none⟩) hBx (.slice u9 n9 c9)).setCell (p:=⟨x,1,none⟩) hBx (.string sd9)).setCell (p:=⟨x,2,none⟩) hBx (.int .i64 z9)) trivial ?_
     ·exact hK a' _ h9
     ·intro j q hq hj hdn e u' he hu hv;rw [hs0] at hv;rw [hs1];exact vS1_sto j u' hv
    | 10,_,ho,hun,hpre =>
     simp at ho;subst ho;refine hJ.op (d:=14) hsl hst hFt hwz rfl rfl rfl (by decide) hpre ?_;obtain ⟨v29,ev29,hv29⟩:=hJ.dn 6 _ 29 rfl (hpre ⟨6,.data⟩ (by simp) rfl) rfl;have qv29:=eval_of ev29;obtain rfl:v29=.int .i64 (k1:Int):=hv29;refine wp_val (v:=.int .i64 (k1:Int)) (by simp [execOp,ev29,go_sem]) rfl
  ·intro done a' w' hJ hd;obtain ⟨f,hf,hv⟩:=hJ.all hd;have h10:f 10=.int .i64 (k1:Int):=hv 10 _ 14 rfl rfl;have hbw:=hJ.bw;clear hJ hv hd;subst hf;simp only [putAll,List.size_toArray,List.length_cons,List.length_nil,Nat.reduceAdd,List.getElem?_toArray,List.getElem?_cons_zero,List.getElem?_cons_succ,Option.bind_some,Act.put,List.setIfInBounds_toArray,List.set_cons_zero,List.set_cons_succ];rw [h10];go_wp2_with fail
   go_meet
   exact ⟨rfl,hbw⟩
 case rest =>
  obtain ⟨rfl,hb⟩:=hcut;obtain ⟨wx,hwx⟩:∃wx,wx=wc:=⟨_,rfl⟩;subst hwx;replace hK:=hK.after hb;replace hT:=hT.after hb;replace hQ:=hQ.after hb;replace hV1:=SsAt.after hV1 hb;replace hBW:=bt hBW hb;clear hb HB1 HO1;have hk3b:((k1:Int) != 3)=true:=by rw [bne_iff_ne];omega
  clear hk1;obtain ⟨hKc0,hKf0,hKc1,hKf1,hKc2,hKf2,hKc3,hKf3⟩:=hK.x4;go_wp2_with fail
  refine (HKY.out _).mono ?_;rintro e w2 ⟨rfl,hb⟩;clear hKc0 hKf0 hKc1 hKf1 hKc2 hKf2 hKc3 hKf3;replace hK:=hK.after hb;replace hT:=hT.after hb;replace hQ:=hQ.after hb;replace hV1:=SsAt.after hV1 hb;replace hBW:=bt hBW hb;clear hb HKY hk3b hk3;have hn0:decide ((n:Int)<0)=false:=decide_eq_false (by omega);have hn32:decide ((32:Int)<(n:Int))=false:=decide_eq_false (by omega);have hv0:decide ((v:Int)<0)=false:=decide_eq_false (by omega);have hvs:(v:Int) / 2^n=0:=Int.ediv_eq_zero_of_lt (by omega) (by exact_mod_cast hv);go_upto_region 12 with fail
  have HDG:Hid (∀j,j<n→(dgs v n).getD j 0=v / 2^j%2):=fun j hj=>dgs_at hj
  obtain ⟨X,hX⟩:∃X,X=dgs v n:=⟨_,rfl⟩;rw [←hX] at HRN HR HDG;have HV2:Hid (v<2^n):=hv;have HN2:Hid (n≤32):=hn2;clear hX hn0 hn32 hv0 hvs hv;go_loopw [16,17,54] (fun v16 v17 i wr=>∃(k:Nat) (uo:Option Addr) (um uc:Nat),k≤n∧i=.int .i64 k∧Hid (∀j,j<k→(prC att q T j).1=0)∧wr.ownsRow w2.heap.size 31 1 v16 k (strs (prP att p g h q X T k))∧wr.ownsRow w2.heap.size 39 4 v17 k (((prO att q X T k).map nop).flatMap opc)∧Blk wr gT 42 [.slice uo um uc,.string T.seed,.int .i64 (T.pos+(k:Int))]∧Blk wr gQ 42 [.slice none 0 0,.string ⟨#[]⟩,.int .i64 0]∧Blk wr w.heap.size 35 [.string (E p),.string (E q),.string (E g),.string (E h)]∧SsAt wr (.slice uo um uc) T.vals∧FarS (.slice uo um uc) gT∧FarS (.slice uo um uc) gQ∧Hid (k≠0→∀g,g<w.heap.size→FarS (.slice uo um uc) g)∧w2.heap.size≤wr.heap.size∧Below w.heap.size w wr) (fun _ _ i _=>n-(intOf i).toNat)
  case atStart=>exact ⟨0,at_,nt,ct,by omega,rfl,fun j h=>absurd h (Nat.not_lt_zero _),World.ownsRow_nil _ _ _ _,World.ownsRow_nil _ _ _ _,by rw [show T.pos+((0:Nat):Int)=T.pos by omega];exact hT,hQ,hK,hV1,hFT,hFQ,fun h=>absurd rfl h,Nat.le_refl _,hBW⟩
  case round =>
   have HW2:Hid (w.heap.size≤w2.heap.size):=hBW.size;have HGQ2:Hid (gQ<w2.heap.size):=hQ.lt;clear hK hT hQ hV1 hBW hFT hFQ;obtain ⟨k,uo,um,uc,hk,rfl,HAL,hO,hP,hT,hQ,hK,hU,hFT,hFQ,HFX,hbz,hbr⟩:=hrel;obtain ⟨wp,hwp⟩:∃wp,wp=wr:=⟨_,rfl⟩;subst hwp;by_cases hlt:k<n
   ·have HRC0:=Lib.hid (fun (w':World) (hb:Below wp.heap.size wp w')=>HRN.out k _ w' hlt HAL.out (bt hbr hb) (SsAt.after hU hb));have HSP:=Lib.hid (prP_snoc att p g h q X T k);have HSO:=Lib.hid (prO_snoc att q X T k);have HBD:Hid ((prC att q T k).1≠0→R=⟨(prC att q T k).1,[],[],Tp.nil⟩):=fun e=>HR.out.trans (splN_bad hlt HAL.out e)
    have HGD:Hid ((prC att q T k).1=0→∀j,j<k+1→(prC att q T j).1=0):=fun e j hj=>by
     by_cases ej:j=k
     ·rw [ej];exact e
     ·exact HAL.out j (by omega)
    have HXD:=Lib.hid (HDG.out k hlt);clear HAL;generalize prC att q T k=dk at HRC0 HBD HGD HSP HSO;obtain ⟨ke,xe⟩:=dk;generalize X.getD k 0=xd at HRC0 HSP HSO HXD;have HLP:=Lib.hid (prP_len att p g h q X T k);have HLO:=Lib.hid (prO_len att q X T k);have HSP2:Hid (prP att p g h q X T (k+1)=prP att p g h q X T k++[cmtN p g h xd xe]):=HSP.out;have HSO2:Hid (prO att q X T (k+1)=prO att q X T k++[(xd,xe)]):=HSO.out;clear HSP HSO;generalize prP att p g h q X T k=LP at hO HSP2 HLP;generalize prO att q X T k=LO at hP HSO2 HLO;obtain ⟨T1,hT1⟩:∃t,t=(T.on k).after ke:=⟨_,rfl⟩;obtain ⟨tm,htm⟩:∃m,m=T1.vals.length:=⟨_,rfl⟩;obtain ⟨cs,hcs⟩:∃s,s=if ke=0 then E (cmtN p g h (xd:Int) (xe:Int)) else ⟨#[]⟩:=⟨_,rfl⟩
    obtain ⟨s1,hs1⟩:∃s,s=if ke=0 then E xd else ⟨#[]⟩:=⟨_,rfl⟩
    obtain ⟨s2,hs2⟩:∃s,s=if ke=0 then E xe else ⟨#[]⟩:=⟨_,rfl⟩
    have HRC:Hid (∀w',Below wp.heap.size wp w'→Calls Tryz.prog 69 #[.agg #[.string (E p),.string (E q),.string (E g),.string (E h)],.agg #[.bool false,.string (E xd)],.agg #[.slice uo um uc,.string T.seed,.int .i64 (T.pos+(k:Int))]] w' fun e w''=>∃ta tc,e=.returned (.tuple #[.string cs,.agg #[.bool false,.string s1,.bool false,.string s2],.agg #[.slice ta tm tc,.string T1.seed,.int .i64 T1.pos],.int .i64 (ke:Int)])∧SsAt w'' (.slice ta tm tc) T1.vals∧(∀b,b<w'.heap.size→FarS (.slice ta tm tc) b)∧Below w'.heap.size w' w''):=fun w' hb=>(HRC0.out w' hb).mono (by
     rintro e w'' ⟨t,rfl,⟨u9,rfl,hu9⟩,hf9,hb9⟩;simp only [] at hu9 hf9 ⊢;rw [←hT1] at hu9 hf9 ⊢;obtain ⟨ta,tc,rfl⟩:=RAt.form hu9;rw [←htm] at hu9 hf9 ⊢;refine ⟨ta,tc,?_,hu9,fun b hb'=>hf9.far hb',hb9⟩;by_cases e0:ke=0
     ·rw [hcs,hs1,hs2];simp only [if_pos e0]
     ·rw [hcs,hs1,hs2];simp only [if_neg e0])
    have HT1:=Lib.hid hT1;have HTM:=Lib.hid htm;have HCS:=Lib.hid hcs;have HS1:=Lib.hid hs1;have HS2:=Lib.hid hs2;clear hT1 htm hcs hs1 hs2 HRC0;have HOF:Hid (∀w:World,Calls Tryz.prog 63 #[.int .i64 (xd:Int)] w fun e w'=>e=.returned (.agg #[.bool false,.string (E xd)])∧Below w.heap.size w w'):=fun w=>iof_c (xd:Int) w (by omega) (by have:=HXD.out;have:=Nat.mod_lt (v / 2^k) (show 0<2 by decide);omega)
    have h0k:(0:Int)≤(k:Int):=by omega
    have h1k:(k:Int)<(n:Int):=by omega
    go_upto_region 14 with fail
    go_cut [19,20,21,22] (fun s19 s20 s21 s22 wx=>∃(g20 g21:Nat) (ta:Option Addr) (tc:Nat),s19=.string cs∧s20=.pointer (some ⟨g20,0,none⟩)∧s21=.pointer (some ⟨g21,0,none⟩)∧s22=.int .i64 (ke:Int)∧wp.heap.size≤g20∧wp.heap.size≤g21∧Blk wx g20 39 [.bool false,.string s1,.bool false,.string s2]∧Blk wx g21 42 [.slice ta tm tc,.string T1.seed,.int .i64 T1.pos]∧SsAt wx (.slice ta tm tc) T1.vals∧(∀b,b<wp.heap.size→FarS (.slice ta tm tc) b)∧FarS (.slice ta tm tc) g20∧Below wp.heap.size wp wx)
    case first =>
     refine wp_region_invC (vS2 (.agg #[.string (E p),.string (E q),.string (E g),.string (E h)]) (.agg #[.bool false,.string (E xd)]) (.agg #[.slice uo um uc,.string T.seed,.int .i64 (T.pos+(k:Int))]) v k xd ke cs s1 s2) [7,8,11,13,14,16,17] wp.heap.size (fun st t w=>fS2 wp.heap.size cs s1 s2 T1.seed T1.pos ke tm T1.vals (st.getD 0 false) (st.getD 1 false) (st.getD 2 false) (st.getD 3 false) (st.getD 4 false) (st.getD 5 false) (st.getD 6 false) t w) 98 ⟨fun h0=>(by cases h0),fun h0=>(by cases h0),fun h0=>(by cases h0)⟩ (by kernel_rfl) rfl (by kernel_rfl) ?_ ?_ (by kernel_rfl)
     ·intro hsl done a' w' i o hJ ho hun hpre;have hi:=(Array.getElem?_eq_some_iff.1 ho).1;have hst:∀(l:List Bool) (j:Nat) (u:Value) (wa wb:World),Below wa.heap.size wa wb→vS2 (.agg #[.string (E p),.string (E q),.string (E g),.string (E h)]) (.agg #[.bool false,.string (E xd)]) (.agg #[.slice uo um uc,.string T.seed,.int .i64 (T.pos+(k:Int))]) v k xd ke cs s1 s2 l j u wa→vS2 (.agg #[.string (E p),.string (E q),.string (E g),.string (E h)]) (.agg #[.bool false,.string (E xd)]) (.agg #[.slice uo um uc,.string T.seed,.int .i64 (T.pos+(k:Int))]) v k xd ke cs s1 s2 l j u wb:=fun l j u wa wb _ h=>vS2_any _ _ _ _ _ _ _ _ _ _ j u h
      have hFt:∀(st:List Bool) (t:Array Value) (w w':World),Below w.heap.size w w'→(fun (st:List Bool) t w=>fS2 wp.heap.size cs s1 s2 T1.seed T1.pos ke tm T1.vals (st.getD 0 false) (st.getD 1 false) (st.getD 2 false) (st.getD 3 false) (st.getD 4 false) (st.getD 5 false) (st.getD 6 false) t w) st t w→(fun (st:List Bool) t w=>fS2 wp.heap.size cs s1 s2 T1.seed T1.pos ke tm T1.vals (st.getD 0 false) (st.getD 1 false) (st.getD 2 false) (st.getD 3 false) (st.getD 4 false) (st.getD 5 false) (st.getD 6 false) t w) st t w':=fun st t w w' hb h=>fS2_st hb h
      have hFp:∀(st:List Bool) (t:Array Value) (d:Nat) (v:Value) (w:World),d ∉ [20,21,57,65,68]→(fun (st:List Bool) t w=>fS2 wp.heap.size cs s1 s2 T1.seed T1.pos ke tm T1.vals (st.getD 0 false) (st.getD 1 false) (st.getD 2 false) (st.getD 3 false) (st.getD 4 false) (st.getD 5 false) (st.getD 6 false) t w) st t w→(fun (st:List Bool) t w=>fS2 wp.heap.size cs s1 s2 T1.seed T1.pos ke tm T1.vals (st.getD 0 false) (st.getD 1 false) (st.getD 2 false) (st.getD 3 false) (st.getD 4 false) (st.getD 5 false) (st.getD 6 false) t w) st (t.setIfInBounds d v) w:=fun st t d v w hd h=>fS2_put hd h
      have hwz:=hJ.bw.size;have hex:fS2 wp.heap.size cs s1 s2 T1.seed T1.pos ke tm T1.vals (done.getD 7 false) (done.getD 8 false) (done.getD 11 false) (done.getD 13 false) (done.getD 14 false) (done.getD 16 false) (done.getD 17 false) a'.tmps w':=hJ.ex;have hKx:=hK.after hJ.bw;have hTx:=hT.after hJ.bw;have hKl:=hKx.lt;have hTl:=hTx.lt;have x0:=hKx.cell 0;have x1:=hKx.cell 1;have x2:=hKx.cell 2;have x3:=hKx.cell 3;have y0:=hTx.cell 0;have y1:=hTx.cell 1;have y2:=hTx.cell 2
      match i,hi,ho,hun,hpre with
       | 0,_,ho,hun,hpre =>
        simp at ho;subst ho;refine hJ.op (d:=58) hsl hst hFt [20,21,57,65,68] hFp (by decide) hwz rfl rfl rfl (by decide) hpre ?_;have q4:=hJ.keep 4 (.pointer (some ⟨w.heap.size,0,none⟩)) rfl (by kernel_rfl);refine wp_val (v:=.agg #[.string (E p),.string (E q),.string (E g),.string (E h)]) (by simp [execOp,q4,go_sem,x0,x1,x2,x3]) rfl
       | 1,_,ho,hun,hpre =>
        simp at ho;subst ho;refine hJ.op (d:=59) hsl hst hFt [20,21,57,65,68] hFp (by decide) hwz rfl rfl rfl (by decide) hpre ?_;have q2:=hJ.keep 2 (.int .i64 (v:Int)) rfl (by kernel_rfl);refine wp_val (v:=.int .i64 (v:Int)) (by simp [execOp,q2,go_sem]) rfl
       | 2,_,ho,hun,hpre =>
        simp at ho;subst ho;refine hJ.op (d:=60) hsl hst hFt [20,21,57,65,68] hFp (by decide) hwz rfl rfl rfl (by decide) hpre ?_;have q18:=hJ.keep 18 (.int .i64 (k:Int)) rfl (by kernel_rfl);refine wp_val (v:=.int .i64 (k:Int)) (by simp [execOp,q18,go_sem]) rfl
       | 3,_,ho,hun,hpre =>
        simp at ho;subst ho;refine hJ.op (d:=61) hsl hst hFt [20,21,57,65,68] hFp (by decide) hwz rfl rfl rfl (by decide) hpre ?_;obtain ⟨v59,ev59,hv59⟩:=hJ.dn 1 _ 59 rfl (hpre ⟨1,.data⟩ (by simp) rfl) rfl;have qv59:=eval_of ev59;obtain ⟨v60,ev60,hv60⟩:=hJ.dn 2 _ 60 rfl (hpre ⟨2,.data⟩ (by simp) rfl) rfl;have qv60:=eval_of ev60;obtain rfl:v59=.int .i64 (v:Int):=hv59;obtain rfl:v60=.int .i64 (k:Int):=hv60;refine wp_val (v:=.int .i64 ((v / 2^k:Nat):Int)) (by simp [execOp,ev59,ev60,go_sem]) rfl
       | 4,_,ho,hun,hpre =>
        simp at ho;subst ho;refine hJ.op (d:=62) hsl hst hFt [20,21,57,65,68] hFp (by decide) hwz rfl rfl rfl (by decide) hpre ?_;obtain ⟨v61,ev61,hv61⟩:=hJ.dn 3 _ 61 rfl (hpre ⟨3,.data⟩ (by simp) rfl) rfl;have qv61:=eval_of ev61;obtain rfl:v61=.int .i64 ((v / 2^k:Nat):Int):=hv61;refine wp_val (v:=.int .i64 (xd:Int)) (by have hm:v / 2^k<2^63:=Nat.lt_of_le_of_lt (Nat.div_le_self _ _) (Nat.lt_of_lt_of_le HV2.out (Nat.pow_le_pow_right (by decide) (by have:=HN2.out;omega)));rw [HXD.out];generalize v / 2^k=m at ev61 hm;have ha:=and_one m hm;simp [execOp,ev61,go_sem];exact ha) rfl
       | 5,_,ho,hun,hpre =>
        simp at ho;subst ho;refine hJ.op (d:=63) hsl hst hFt [20,21,57,65,68] hFp (by decide) hwz rfl rfl rfl (by decide) hpre ?_;obtain ⟨v62,ev62,hv62⟩:=hJ.dn 4 _ 62 rfl (hpre ⟨4,.data⟩ (by simp) rfl) rfl;have qv62:=eval_of ev62;obtain rfl:v62=.int .i64 (xd:Int):=hv62;refine wp_callX 63 #[.tmp 62] #[2] rfl (enters_of Tryz.func63 (by kernel_rfl) rfl) ?_;simp only [List.map_toArray,List.map_cons,List.map_nil,qv62];refine (HOF.out w').mono ?_;rintro e w'' ⟨rfl,hb⟩;exact ⟨_,rfl,hb,rfl⟩
       | 6,_,ho,hun,hpre =>
        simp at ho;subst ho;refine hJ.op (d:=64) hsl hst hFt [20,21,57,65,68] hFp (by decide) hwz rfl rfl rfl (by decide) hpre ?_;have q7:=hJ.keep 7 (.pointer (some ⟨gT,0,none⟩)) rfl (by kernel_rfl);refine wp_val (v:=.agg #[.slice uo um uc,.string T.seed,.int .i64 (T.pos+(k:Int))]) (by simp [execOp,q7,go_sem,y0,y1,y2]) rfl
       | 7,_,ho,hun,hpre =>
        simp at ho;subst ho;obtain ⟨v58,ev58,hv58⟩:=hJ.dn 0 _ 58 rfl (hpre ⟨0,.data⟩ (by simp) rfl) rfl;have qv58:=eval_of ev58;obtain ⟨v63,ev63,hv63⟩:=hJ.dn 5 _ 63 rfl (hpre ⟨5,.data⟩ (by simp) rfl) rfl;have qv63:=eval_of ev63;obtain ⟨v64,ev64,hv64⟩:=hJ.dn 6 _ 64 rfl (hpre ⟨6,.data⟩ (by simp) rfl) rfl;have qv64:=eval_of ev64
        have k8:done.getD 8 false=false:=by
         cases a8:done.getD 8 false with
         | false=>rfl
         | true =>
          have a7:=hJ.pr 8 _ rfl a8 ⟨7,.data⟩ (by simp) rfl;rw [hun] at a7;cases a7
        have k11:done.getD 11 false=false:=by
         cases a11:done.getD 11 false with
         | false=>rfl
         | true =>
          have a8:=hJ.pr 11 _ rfl a11 ⟨8,.data⟩ (by simp) rfl;have a7:=hJ.pr 8 _ rfl a8 ⟨7,.data⟩ (by simp) rfl;rw [hun] at a7;cases a7
        have k17:done.getD 17 false=false:=by
         cases a17:done.getD 17 false with
         | false=>rfl
         | true =>
          have a11:=hJ.pr 17 _ rfl a17 ⟨11,.data⟩ (by simp) rfl;have a8:=hJ.pr 11 _ rfl a11 ⟨8,.data⟩ (by simp) rfl;have a7:=hJ.pr 8 _ rfl a8 ⟨7,.data⟩ (by simp) rfl;rw [hun] at a7;cases a7
        have hi7:7<done.size:=by rw [hJ.sz];decide
        obtain rfl:v58=.agg #[.string (E p),.string (E q),.string (E g),.string (E h)]:=hv58;obtain rfl:v63=.agg #[.bool false,.string (E xd)]:=hv63;obtain rfl:v64=.agg #[.slice uo um uc,.string T.seed,.int .i64 (T.pos+(k:Int))]:=hv64;rw [hun,k8,k11,k17] at hex;have hds:65<a'.tmps.size:=by rw [hJ.ts];exact (by decide:65<98)
        refine wpOp_step rfl fun K' hK=>?_
        rw [if_pos (by simp [Region.wanted])];refine Oper.wp_mono (fun a2 w9 hx=>hK a2 w9 ?_) (wp_callX (R:=fun u w9=>∃ta tc,u=.tuple #[.string cs,.agg #[.bool false,.string s1,.bool false,.string s2],.agg #[.slice ta tm tc,.string T1.seed,.int .i64 T1.pos],.int .i64 (ke:Int)]∧SsAt w9 (.slice ta tm tc) T1.vals∧∀b,b<w'.heap.size→FarS (.slice ta tm tc) b) 69 #[.tmp 58,.tmp 63,.tmp 64] #[35,37,42] rfl (enters_of Tryz.func69 (by kernel_rfl) rfl) ?_)
        ·obtain ⟨u,rfl,hb,ta,tc,rfl,hU9,hf9⟩:=hx;refine hJ.put (i:=7) (d:=65) hsl rfl rfl hpre (bt hJ.bw hb) ?_ ?_ trivial
         ·show fS2 _ _ _ _ _ _ _ _ _ ((done.setIfInBounds 7 true).getD 7 false) ((done.setIfInBounds 7 true).getD 8 false) ((done.setIfInBounds 7 true).getD 11 false) ((done.setIfInBounds 7 true).getD 13 false) ((done.setIfInBounds 7 true).getD 14 false) ((done.setIfInBounds 7 true).getD 16 false) ((done.setIfInBounds 7 true).getD 17 false) _ _;simp only [getD_set _ _ _ hi7,Nat.reduceEqDiff,if_true,if_false,k8,k11,k17];exact fS2_call hds hwz hb hU9 hf9 hex
         ·intro j q9 hq hj hdn u h9;exact vS2_any _ _ _ _ _ _ _ _ _ _ j u h9
        ·simp only [List.map_toArray,List.map_cons,List.map_nil,qv58,qv63,qv64];refine (HRC.out w' hJ.bw).mono ?_;rintro e w9 ⟨ta,tc,rfl,hU9,hf9,hb⟩;exact ⟨_,rfl,hb,ta,tc,rfl,hU9,hf9⟩
       | 8,_,ho,hun,hpre =>
        simp at ho;subst ho;obtain ⟨v65,ev65,hv65⟩:=hJ.dn 7 _ 65 rfl (hpre ⟨7,.data⟩ (by simp) rfl) rfl;have qv65:=eval_of ev65
        have k11:done.getD 11 false=false:=by
         cases a11:done.getD 11 false with
         | false=>rfl
         | true =>
          have a8:=hJ.pr 11 _ rfl a11 ⟨8,.data⟩ (by simp) rfl;rw [hun] at a8;cases a8
        have k17:done.getD 17 false=false:=by
         cases a17:done.getD 17 false with
         | false=>rfl
         | true =>
          have a11:=hJ.pr 17 _ rfl a17 ⟨11,.data⟩ (by simp) rfl;have a8:=hJ.pr 11 _ rfl a11 ⟨8,.data⟩ (by simp) rfl;rw [hun] at a8;cases a8
        have hi8:8<done.size:=by rw [hJ.sz];decide
        have a7:=hpre ⟨7,.data⟩ (by simp) rfl;rw [a7,hun,k11,k17] at hex;have hds:57<a'.tmps.size:=by rw [hJ.ts];exact (by decide:57<98)
        refine wpOp_step rfl fun K' hK=>?_
        rw [if_pos (by simp [Region.wanted])];simp [Oper.wp,execOp,ev65,go_sem];have h9:=hJ.put (i:=8) (d:=57) (v:=v65) (w':=w') hsl rfl rfl hpre hJ.bw ?_ ?_ trivial
        ·exact hK _ _ h9
        ·show fS2 _ _ _ _ _ _ _ _ _ ((done.setIfInBounds 8 true).getD 7 false) ((done.setIfInBounds 8 true).getD 8 false) ((done.setIfInBounds 8 true).getD 11 false) ((done.setIfInBounds 8 true).getD 13 false) ((done.setIfInBounds 8 true).getD 14 false) ((done.setIfInBounds 8 true).getD 16 false) ((done.setIfInBounds 8 true).getD 17 false) _ _;simp only [getD_set _ _ _ hi8,Nat.reduceEqDiff,if_true,if_false,a7,k11,k17];exact fS2_mv hds ev65 hex
        ·intro j q9 hq hj hdn u h9;exact vS2_any _ _ _ _ _ _ _ _ _ _ j u h9
       | 11,_,ho,hun,hpre =>
        simp at ho;subst ho
        have k17:done.getD 17 false=false:=by
         cases a17:done.getD 17 false with
         | false=>rfl
         | true =>
          have a11:=hJ.pr 17 _ rfl a17 ⟨11,.data⟩ (by simp) rfl;rw [hun] at a11;cases a11
        have hi11:11<done.size:=by rw [hJ.sz];decide
        have a8:=hpre ⟨8,.data⟩ (by simp) rfl;have a7:=hJ.pr 8 _ rfl a8 ⟨7,.data⟩ (by simp) rfl;rw [a7,a8,hun,k17] at hex;have hds:68<a'.tmps.size:=by rw [hJ.ts];exact (by decide:68<98)
        obtain ⟨ta,tc,_,h57,_⟩:=hex.2.2 rfl;have ev57:=h57 rfl;refine wpOp_step rfl fun K' hK=>?_
        rw [if_pos (by simp [Region.wanted])];simp [Oper.wp,execOp,ev57,go_sem];have h9:=hJ.put (i:=11) (d:=68) (v:=.agg #[.slice ta tm tc,.string T1.seed,.int .i64 T1.pos]) (w':=w') hsl rfl rfl hpre hJ.bw ?_ ?_ trivial
        ·exact hK _ _ h9
        ·show fS2 _ _ _ _ _ _ _ _ _ ((done.setIfInBounds 11 true).getD 7 false) ((done.setIfInBounds 11 true).getD 8 false) ((done.setIfInBounds 11 true).getD 11 false) ((done.setIfInBounds 11 true).getD 13 false) ((done.setIfInBounds 11 true).getD 14 false) ((done.setIfInBounds 11 true).getD 16 false) ((done.setIfInBounds 11 true).getD 17 false) _ _;simp only [getD_set _ _ _ hi11,Nat.reduceEqDiff,if_true,if_false,a7,a8,k17];exact fS2_ex hds ev57 hex
        ·intro j q9 hq hj hdn u h9;exact vS2_any _ _ _ _ _ _ _ _ _ _ j u h9
       | 9,_,ho,hun,hpre =>
        simp at ho;subst ho;refine hJ.op (d:=66) hsl hst hFt [20,21,57,65,68] hFp (by decide) hwz rfl rfl rfl (by decide) hpre ?_;have a8:=hpre ⟨8,.data⟩ (by simp) rfl;have a7:=hJ.pr 8 _ rfl a8 ⟨7,.data⟩ (by simp) rfl;rw [a7,a8] at hex;obtain ⟨ta,tc,_,h57,_⟩:=hex.2.2 rfl;have ev57:=h57 rfl;refine wp_val (v:=.string cs) (by simp [execOp,ev57,go_sem]) rfl
       | 10,_,ho,hun,hpre =>
        simp at ho;subst ho;refine hJ.op (d:=67) hsl hst hFt [20,21,57,65,68] hFp (by decide) hwz rfl rfl rfl (by decide) hpre ?_;have a8:=hpre ⟨8,.data⟩ (by simp) rfl;have a7:=hJ.pr 8 _ rfl a8 ⟨7,.data⟩ (by simp) rfl;rw [a7,a8] at hex;obtain ⟨ta,tc,_,h57,_⟩:=hex.2.2 rfl;have ev57:=h57 rfl;refine wp_val (v:=.agg #[.bool false,.string s1,.bool false,.string s2]) (by simp [execOp,ev57,go_sem]) rfl
       | 12,_,ho,hun,hpre =>
        simp at ho;subst ho;refine hJ.op (d:=69) hsl hst hFt [20,21,57,65,68] hFp (by decide) hwz rfl rfl rfl (by decide) hpre ?_;have a8:=hpre ⟨8,.data⟩ (by simp) rfl;have a7:=hJ.pr 8 _ rfl a8 ⟨7,.data⟩ (by simp) rfl;rw [a7,a8] at hex;obtain ⟨ta,tc,_,h57,_⟩:=hex.2.2 rfl;have ev57:=h57 rfl;refine wp_val (v:=.int .i64 (ke:Int)) (by simp [execOp,ev57,go_sem]) rfl
       | 13,_,ho,hun,hpre =>
        simp at ho;subst ho
        have k16:done.getD 16 false=false:=by
         cases a16:done.getD 16 false with
         | false=>rfl
         | true =>
          have a13:=hJ.pr 16 _ rfl a16 ⟨13,.data⟩ (by simp) rfl;rw [hun] at a13;cases a13
        have hi13:13<done.size:=by rw [hJ.sz];decide
        rw [hun,k16] at hex;have hds:20<a'.tmps.size:=by rw [hJ.ts];exact (by decide:20<98)
        refine wpOp_step rfl fun K' hK=>?_
        rw [if_pos (by simp [Region.wanted])];simp [Oper.wp,execOp,go_sem];have h9:=hJ.put (i:=13) (d:=20) (v:=.pointer (some ⟨w'.heap.size,0,none⟩)) (w':=w'.alloc (.cells #[.bool false,.string ⟨#[]⟩,.bool false,.string ⟨#[]⟩] 39)) hsl rfl rfl hpre (ba hJ.bw _) ?_ ?_ trivial
        ·exact hK _ _ h9
        ·show fS2 _ _ _ _ _ _ _ _ _ ((done.setIfInBounds 13 true).getD 7 false) ((done.setIfInBounds 13 true).getD 8 false) ((done.setIfInBounds 13 true).getD 11 false) ((done.setIfInBounds 13 true).getD 13 false) ((done.setIfInBounds 13 true).getD 14 false) ((done.setIfInBounds 13 true).getD 16 false) ((done.setIfInBounds 13 true).getD 17 false) _ _;simp only [getD_set _ _ _ hi13,Nat.reduceEqDiff,if_true,if_false,k16];exact fS2_new1 hds hwz hex
        ·intro j q9 hq hj hdn u h9;exact vS2_any _ _ _ _ _ _ _ _ _ _ j u h9
       | 14,_,ho,hun,hpre =>
        simp at ho;subst ho
        have k17:done.getD 17 false=false:=by
         cases a17:done.getD 17 false with
         | false=>rfl
         | true =>
          have a14:=hJ.pr 17 _ rfl a17 ⟨14,.data⟩ (by simp) rfl;rw [hun] at a14;cases a14
        have hi14:14<done.size:=by rw [hJ.sz];decide
        rw [hun,k17] at hex;have hds:21<a'.tmps.size:=by rw [hJ.ts];exact (by decide:21<98)
        refine wpOp_step rfl fun K' hK=>?_
        rw [if_pos (by simp [Region.wanted])];simp [Oper.wp,execOp,go_sem];have h9:=hJ.put (i:=14) (d:=21) (v:=.pointer (some ⟨w'.heap.size,0,none⟩)) (w':=w'.alloc (.cells #[.slice none 0 0,.string ⟨#[]⟩,.int .i64 0] 42)) hsl rfl rfl hpre (ba hJ.bw _) ?_ ?_ trivial
        ·exact hK _ _ h9
        ·show fS2 _ _ _ _ _ _ _ _ _ ((done.setIfInBounds 14 true).getD 7 false) ((done.setIfInBounds 14 true).getD 8 false) ((done.setIfInBounds 14 true).getD 11 false) ((done.setIfInBounds 14 true).getD 13 false) ((done.setIfInBounds 14 true).getD 14 false) ((done.setIfInBounds 14 true).getD 16 false) ((done.setIfInBounds 14 true).getD 17 false) _ _;simp only [getD_set _ _ _ hi14,Nat.reduceEqDiff,if_true,if_false,k17];exact fS2_new2 hds hwz hex
        ·intro j q9 hq hj hdn u h9;exact vS2_any _ _ _ _ _ _ _ _ _ _ j u h9
       | 15,_,ho,hun,hpre =>
        simp at ho;subst ho;refine hJ.op (d:=19) hsl hst hFt [20,21,57,65,68] hFp (by decide) hwz rfl rfl rfl (by decide) hpre ?_;obtain ⟨v66,ev66,hv66⟩:=hJ.dn 9 _ 66 rfl (hpre ⟨9,.data⟩ (by simp) rfl) rfl;have qv66:=eval_of ev66;obtain rfl:v66=.string cs:=hv66;refine wp_val (v:=.string cs) (by simp [execOp,ev66,go_sem]) rfl
       | 16,_,ho,hun,hpre =>
        simp at ho;subst ho;obtain ⟨v67,ev67,hv67⟩:=hJ.dn 10 _ 67 rfl (hpre ⟨10,.data⟩ (by simp) rfl) rfl;have qv67:=eval_of ev67;have hi16:16<done.size:=by rw [hJ.sz];decide
        obtain rfl:v67=.agg #[.bool false,.string s1,.bool false,.string s2]:=hv67;have a13:=hpre ⟨13,.data⟩ (by simp) rfl;rw [hun,a13] at hex;obtain ⟨g9,hg9,hB9,hG⟩:=hex.1 rfl;have hG:Blk w' g9 39 [.bool false,.string ⟨#[]⟩,.bool false,.string ⟨#[]⟩]:=hG;have hGl:=hG.lt;have f0:=hG.free 0;have f1:=hG.free 1;have f2:=hG.free 2;have f3:=hG.free 3;have z0:=hG.cell 0;have z1:=hG.cell 1;have z2:=hG.cell 2;have z3:=hG.cell 3;refine wpOp_step rfl fun K' hK=>?_
        rw [if_pos (by simp [Region.wanted])];simp [Oper.wp,execOp,ev67,hg9,go_sem,f0,f1,f2,f3,z0,z1,z2,z3,hGl];have h9:=hJ.skip (i:=16) (v:=undef) rfl rfl hpre ((((hJ.bw.setCell (p:=⟨g9,0,none⟩) hB9 (.bool false)).setCell (p:=⟨g9,1,none⟩) hB9 (.string s1)).setCell (p:=⟨g9,2,none⟩) hB9 (.bool false)).setCell (p:=⟨g9,3,none⟩) hB9 (.string s2)) ?_ ?_
        ·exact hK a' _ h9
        ·show fS2 _ _ _ _ _ _ _ _ _ ((done.setIfInBounds 16 true).getD 7 false) ((done.setIfInBounds 16 true).getD 8 false) ((done.setIfInBounds 16 true).getD 11 false) ((done.setIfInBounds 16 true).getD 13 false) ((done.setIfInBounds 16 true).getD 14 false) ((done.setIfInBounds 16 true).getD 16 false) ((done.setIfInBounds 16 true).getD 17 false) _ _;simp only [getD_set _ _ _ hi16,Nat.reduceEqDiff,if_true,if_false,a13];exact fS2_set1 hg9 hex
        ·intro j q9 hq hj hdn d9 u hd9 hu h9;exact vS2_any _ _ _ _ _ _ _ _ _ _ j u h9
       | 17,_,ho,hun,hpre =>
        simp at ho;subst ho;have hi17:17<done.size:=by rw [hJ.sz];decide
        have a11:=hpre ⟨11,.data⟩ (by simp) rfl;have a14:=hpre ⟨14,.data⟩ (by simp) rfl;have a8:=hJ.pr 11 _ rfl a11 ⟨8,.data⟩ (by simp) rfl;have a7:=hJ.pr 8 _ rfl a8 ⟨7,.data⟩ (by simp) rfl;rw [hun,a14,a11,a8,a7] at hex;obtain ⟨g9,hg9,hB9,hG⟩:=hex.2.1 rfl;have hG:=hG rfl;obtain ⟨ta,tc,_,_,h68,_⟩:=hex.2.2 rfl;have ev68:=h68 rfl;have hGl:=hG.lt;have f0:=hG.free 0;have f1:=hG.free 1;have f2:=hG.free 2;have z0:=hG.cell 0;have z1:=hG.cell 1;have z2:=hG.cell 2;refine wpOp_step rfl fun K' hK=>?_
        rw [if_pos (by simp [Region.wanted])];simp [Oper.wp,execOp,ev68,hg9,go_sem,f0,f1,f2,z0,z1,z2,hGl];have h9:=hJ.skip (i:=17) (v:=undef) rfl rfl hpre (((hJ.bw.setCell (p:=⟨g9,0,none⟩) hB9 (.slice ta tm tc)).setCell (p:=⟨g9,1,none⟩) hB9 (.string T1.seed)).setCell (p:=⟨g9,2,none⟩) hB9 (.int .i64 T1.pos)) ?_ ?_
        ·exact hK a' _ h9
        ·show fS2 _ _ _ _ _ _ _ _ _ ((done.setIfInBounds 17 true).getD 7 false) ((done.setIfInBounds 17 true).getD 8 false) ((done.setIfInBounds 17 true).getD 11 false) ((done.setIfInBounds 17 true).getD 13 false) ((done.setIfInBounds 17 true).getD 14 false) ((done.setIfInBounds 17 true).getD 16 false) ((done.setIfInBounds 17 true).getD 17 false) _ _;simp only [getD_set _ _ _ hi17,Nat.reduceEqDiff,if_true,if_false,a14,a11,a8,a7];exact fS2_set2 hg9 ev68 hex
        ·intro j q9 hq hj hdn d9 u hd9 hu h9;exact vS2_any _ _ _ _ _ _ _ _ _ _ j u h9
       | 18,_,ho,hun,hpre =>
        simp at ho;subst ho;refine hJ.op (d:=22) hsl hst hFt [20,21,57,65,68] hFp (by decide) hwz rfl rfl rfl (by decide) hpre ?_;obtain ⟨v69,ev69,hv69⟩:=hJ.dn 12 _ 69 rfl (hpre ⟨12,.data⟩ (by simp) rfl) rfl;have qv69:=eval_of ev69;obtain rfl:v69=.int .i64 (ke:Int):=hv69;refine wp_val (v:=.int .i64 (ke:Int)) (by simp [execOp,ev69,go_sem]) rfl
     ·intro done a' w' hJ hd;obtain ⟨f,hf,hv⟩:=hJ.all hd;have hex:fS2 wp.heap.size cs s1 s2 T1.seed T1.pos ke tm T1.vals (done.getD 7 false) (done.getD 8 false) (done.getD 11 false) (done.getD 13 false) (done.getD 14 false) (done.getD 16 false) (done.getD 17 false) a'.tmps w':=hJ.ex;rw [hd 7 (by decide),hd 8 (by decide),hd 11 (by decide),hd 13 (by decide),hd 14 (by decide),hd 16 (by decide),hd 17 (by decide)] at hex;obtain ⟨hx1,hx2,hx3⟩:=hex;obtain ⟨g20,e20,hB20,hG20⟩:=hx1 rfl;obtain ⟨g21,e21,hB21,_⟩:=hx2 rfl;obtain ⟨ta,tc,_,_,_,hU9,hf9,hf20,_,hG21'⟩:=hx3 rfl;have hF20:=hf20 rfl g20 e20;have hG21:=hG21' rfl g21 e21;replace hG20:Blk w' g20 39 [.bool false,.string s1,.bool false,.string s2]:=hG20;clear hG21' hf20;have e19:f 15=.string cs:=hv 15 _ 19 rfl rfl;have e22:f 18=.int .i64 (ke:Int):=hv 18 _ 22 rfl rfl;have hbw:=hJ.bw;clear hJ hv hd hx1 hx2 hx3;subst hf;simp only [putAll,List.size_toArray,List.length_cons,List.length_nil,Nat.reduceAdd,List.getElem?_toArray,List.getElem?_cons_zero,List.getElem?_cons_succ,Option.bind_some,Act.put,List.setIfInBounds_toArray,List.set_cons_zero,List.set_cons_succ] at e20 e21 ⊢;simp only [List.getElem?_toArray,List.getElem?_cons_succ,List.getElem?_cons_zero,Option.some.injEq] at e20 e21;rw [e20,e21,e19,e22];clear e20 e21 e19 e22;go_wp2_with fail
      go_meet
      exact ⟨g20,g21,ta,tc,rfl,rfl,rfl,rfl,hB20,hB21,hG20,hG21,hU9,hf9,hF20,hbw⟩
    case rest =>
     obtain ⟨g20,g21,ta,tc,rfl,rfl,rfl,rfl,hB20,hB21,hG20,hG21,hU9,hf9,hF20,hb⟩:=hcut;obtain ⟨wx,hwx⟩:∃wx,wx=wc:=⟨_,rfl⟩;subst hwx;have hfO:∀y,u16.ownBlock=some y→FarS (.slice ta tm tc) y:=fun y hy=>hf9 y (own_lt hO hy).1
     have hfP:∀y,u17.ownBlock=some y→FarS (.slice ta tm tc) y:=fun y hy=>hf9 y (own_lt hP hy).1
     have hfT:=hf9 gT hT.lt;have hfQ:=hf9 gQ hQ.lt;have HFW:Hid (∀g,g<w.heap.size→FarS (.slice ta tm tc) g):=fun g hg=>hf9 g (Nat.lt_of_lt_of_le hg hbr.size)
     have HN20:Hid (u17.ownBlock≠some g20):=fun e=>by have:=(own_lt hP e).1;omega
     have HGX:Hid (w2.heap.size≤wp.heap.size):=hbz;replace hO:=own_after hO hb;replace hP:=own_after hP hb;replace hT:=hT.after hb;replace hQ:=hQ.after hb;replace hK:=hK.after hb;replace hbz:=Nat.le_trans hbz hb.size;replace hbr:=bt hbr hb;clear hb hU hFT hFQ HRC HOF hf9;have lQ:w.heap.size≤gQ:=by have:=HGW.out;omega
     by_cases hke:ke=0
     case neg =>
      have hkb:((ke:Int) != 0)=true:=by rw [bne_iff_ne];omega
      have HXX:=Lib.hid (HBD.out hke);have hQl:=hQ.lt;clear hke hO hP hT hK hG20 hG21 hU9;obtain ⟨hQc0,hQf0,hQc1,hQf1,hQc2,hQf2⟩:=hQ.x3;go_wp2;refine bodyPost_ret (v:=.tuple #[.slice none 0 0,.slice none 0 0,.agg #[.slice none 0 0,.string ⟨#[]⟩,.int .i64 0],.int .i64 (ke:Int)]) ?_ rfl ?_
      ·simp [results,Tryz.results35,go_sem,hQc0,hQc1,hQc2,hQl]
      ·rw [HXX.out];exact PrPostF.err (((hbr.setCell lQ _).setCell lQ _).setCell lQ _)
     case pos =>
      subst hke;have HGD2:=Lib.hid (HGD.out rfl)
      have HTN:Hid (T1.vals=T.vals∧T1.seed=T.seed∧T1.pos=T.pos+((k:Int)+1)):=by
       rw [Hid,HT1.out,show (T.on k).after 0=T.on (k+1) from Tp.on_on T k 1];exact ⟨rfl,rfl,rfl⟩
      rw [HTN.out.1] at hU9;rw [HTN.out.2.1,HTN.out.2.2] at hG21;obtain rfl:cs=E (cmtN p g h (xd:Int) (xe:Int)):=by have:=HCS.out;rwa [if_pos rfl] at this
      obtain rfl:s1=E xd:=by have:=HS1.out;rwa [if_pos rfl] at this
      obtain rfl:s2=E xe:=by have:=HS2.out;rwa [if_pos rfl] at this
      clear HGD HBD HCS HS1 HS2 HTN HT1;go_upto_region 17 with fail
      obtain ⟨i0,hi0,hz00,hz01,hz02⟩:=info_parts info_nat;obtain ⟨i1,hi1,hz10,hz11,hz12⟩:=info_parts info_opening;have HI0:=Lib.hid hi0;have HA0:=Lib.hid hz00;have HB0:=Lib.hid hz01;have HC0:=Lib.hid hz02;have HI1:=Lib.hid hi1;have HA1:=Lib.hid hz10;have HB1':=Lib.hid hz11;have HC1:=Lib.hid hz12;clear hi0 hz00 hz01 hz02 hi1 hz10 hz11 hz12;obtain ⟨cm,hcm⟩:∃c,c=cmtN p g h (xd:Int) (xe:Int):=⟨_,rfl⟩;rw [←hcm] at HSP2 ⊢;clear hcm;have hHT:gT<wx.heap.size:=hT.lt;have hTB:gT≤w2.heap.size:=by have h1:=HGW.out;have h2:=HGQ2.out;omega
      have nQT:gQ≠gT:=by have:=HGW.out;omega
      have n21:g21≠gT:=by have:=HGX.out;have:=HGQ2.out;have:=HGW.out;omega
      have HP17:∀b,wx.heap.size≤b→u17.ownBlock=some b→False:=fun b hb e=>by have:=(own_lt hP e).1;omega
      refine wp_region_invB (vS3 w2.heap.size k u16 u17 (.agg #[.slice ta tm tc,.string T.seed,.int .i64 (T.pos+((k:Int)+1))]) cm xd xe LP LO) [3,7,11] gT (fS3 w2.heap.size k gT gQ w.heap.size g20 g21 u16 u17 LP LO [.slice uo um uc,.string T.seed,.int .i64 (T.pos+(k:Int))] [.slice ta tm tc,.string T.seed,.int .i64 (T.pos+((k:Int)+1))] [.string (E p),.string (E q),.string (E g),.string (E h)] [.slice none 0 0,.string ⟨#[]⟩,.int .i64 0] [.bool false,.string (E xd),.bool false,.string (E xe)] [.slice ta tm tc,.string T.seed,.int .i64 (T.pos+((k:Int)+1))] (.slice ta tm tc) T.vals) 98 ⟨fun _ _ _=>hO,fun _ _ _=>hP,hG20,hG21,hQ,fun _ _ _=>hT,fun _ _ e=>(by cases e),hK,hU9⟩ (by kernel_rfl) rfl (by kernel_rfl) ?_ ?_ (by kernel_rfl)
      ·intro hsl done a' w' i o hJ ho hun hpre;have hi:=(Array.getElem?_eq_some_iff.1 ho).1;have hst:=vS3_st w2.heap.size k u16 u17 (.agg #[.slice ta tm tc,.string T.seed,.int .i64 (T.pos+((k:Int)+1))]) cm xd xe LP LO;have hFt:∀(st:List Bool) (w8 w9:World),Below w8.heap.size w8 w9→fS3 w2.heap.size k gT gQ w.heap.size g20 g21 u16 u17 LP LO [.slice uo um uc,.string T.seed,.int .i64 (T.pos+(k:Int))] [.slice ta tm tc,.string T.seed,.int .i64 (T.pos+((k:Int)+1))] [.string (E p),.string (E q),.string (E g),.string (E h)] [.slice none 0 0,.string ⟨#[]⟩,.int .i64 0] [.bool false,.string (E xd),.bool false,.string (E xe)] [.slice ta tm tc,.string T.seed,.int .i64 (T.pos+((k:Int)+1))] (.slice ta tm tc) T.vals st w8→fS3 w2.heap.size k gT gQ w.heap.size g20 g21 u16 u17 LP LO [.slice uo um uc,.string T.seed,.int .i64 (T.pos+(k:Int))] [.slice ta tm tc,.string T.seed,.int .i64 (T.pos+((k:Int)+1))] [.string (E p),.string (E q),.string (E g),.string (E h)] [.slice none 0 0,.string ⟨#[]⟩,.int .i64 0] [.bool false,.string (E xd),.bool false,.string (E xe)] [.slice ta tm tc,.string T.seed,.int .i64 (T.pos+((k:Int)+1))] (.slice ta tm tc) T.vals st w9:=fun st w8 w9 hb h=>⟨fun y z e=>own_after (h.1 y z e) hb,fun y z e=>own_after (h.2.1 y z e) hb,h.2.2.1.after hb,h.2.2.2.1.after hb,h.2.2.2.2.1.after hb,fun y z e=>(h.2.2.2.2.2.1 y z e).after hb,fun y z e=>(h.2.2.2.2.2.2.1 y z e).after hb,h.2.2.2.2.2.2.2.1.after hb,SsAt.after h.2.2.2.2.2.2.2.2 hb⟩
       have hwz:gT≤w'.heap.size:=Nat.le_trans (Nat.le_of_lt hHT) hJ.bw.size;have hwz2:w2.heap.size≤w'.heap.size:=Nat.le_trans hbz hJ.bw.size;have hwx:wx.heap.size≤w'.heap.size:=hJ.bw.size;have hG20x:=hJ.ex.2.2.1;have hG21x:=hJ.ex.2.2.2.1;have hl20:=hG20x.lt;have hl21:=hG21x.lt;have x0:=hG20x.cell 0;have x1:=hG20x.cell 1;have x2:=hG20x.cell 2;have x3:=hG20x.cell 3;have y0:=hG21x.cell 0;have y1:=hG21x.cell 1;have y2:=hG21x.cell 2;match i,hi,ho,hun,hpre with
       | 0,_,ho,hun,hpre =>
        simp at ho;subst ho;refine hJ.op (d:=74) hsl hst hFt hwz rfl rfl rfl (by decide) hpre ?_
        have k9:done.getD 9 false=false:=by
         cases a9:done.getD 9 false with
         | false=>rfl
         | true =>
          have a3:=hJ.pr 9 _ rfl a9 ⟨3,.data⟩ (by simp) rfl;have a0:=hJ.pr 3 _ rfl a3 ⟨0,.data⟩ (by simp) rfl;rw [hun] at a0;cases a0
        have q16:=hJ.keepX 16 (u16) 9 k9 rfl (by kernel_rfl);refine wp_val (v:=u16) (by simp [execOp,q16,go_sem]) rfl
       | 1,_,ho,hun,hpre =>
        simp at ho;subst ho;refine hJ.op (d:=75) hsl hst hFt hwz rfl rfl rfl (by decide) hpre ?_;have q19:=hJ.keep 19 (.string (E cm)) rfl (by kernel_rfl);refine wp_val (v:=.string (E cm)) (by simp [execOp,q19,go_sem]) rfl
       | 2,_,ho,hun,hpre =>
        simp at ho;subst ho;refine hJ.op (d:=76) hsl hst hFt hwz rfl rfl rfl (by decide) hpre ?_;obtain ⟨v75,ev75,hv75⟩:=hJ.dn 1 _ 75 rfl (hpre ⟨1,.data⟩ (by simp) rfl) rfl;have qv75:=eval_of ev75;obtain rfl:v75=.string (E cm):=hv75;have hN:=Blk.new w' #[.string (E cm)] 31;simp [Oper.wp,execOp,ev75,go_sem];exact ⟨_,rfl,b1 _ _,_,rfl,fun _ _ _=>hN⟩
       | 3,_,ho,hun,hpre =>
        simp at ho;subst ho;obtain ⟨v74,ev74,hv74⟩:=hJ.dn 0 _ 74 rfl (hpre ⟨0,.data⟩ (by simp) rfl) rfl;have qv74:=eval_of ev74;obtain ⟨v76,ev76,hv76⟩:=hJ.dn 2 _ 76 rfl (hpre ⟨2,.data⟩ (by simp) rfl) rfl;have qv76:=eval_of ev76
        have k11:done.getD 11 false=false:=by
         cases a11:done.getD 11 false with
         | false=>rfl
         | true =>
          have a10:=hJ.pr 11 _ rfl a11 ⟨10,.chain⟩ (by simp) rfl;have a7:=hJ.pr 10 _ rfl a10 ⟨7,.data⟩ (by simp) rfl;have a9:=hJ.pr 10 _ rfl a10 ⟨9,.chain⟩ (by simp) rfl;have a3:=hJ.pr 9 _ rfl a9 ⟨3,.data⟩ (by simp) rfl;rw [hun] at a3;cases a3
        obtain ⟨bA,hbA⟩:∃y,y=done.getD 7 false:=⟨_,rfl⟩;have hs0:stB [3,7,11] done=[false,bA,false]:=by simp only [stB,List.map_cons,List.map_nil,hun,k11,hbA]
        have hi3:3<done.size:=by rw [hJ.sz];decide
        have hs1:stB [3,7,11] (done.setIfInBounds 3 true)=[true,bA,false]:=by
         have e:=hs0;simp only [stB,List.map_cons,List.map_nil,List.cons.injEq,and_true] at e;simp only [stB,List.map_cons,List.map_nil,getD_set _ _ _ hi3,e,if_true,if_false,Nat.reduceEqDiff]
        obtain rfl:v74=u16:=hv74;rw [hs0] at hv76;obtain ⟨b,rfl,hN⟩:=hv76;have hN:=hN bA false rfl;have hex:=hJ.ex;rw [hs0] at hex;obtain ⟨fO,fP,fG20,fG21,fQ,fT,_,fK,fU⟩:=hex;have fO1:=fO bA false rfl;have fT1:=fT false bA rfl;refine wpOp_step rfl fun K' hK=>?_
        refine step_append_lies _ rfl (.tmp 74) (.tmp 76) 40 rfl w2.heap.size 31 i0 _ 1 16 Tryz.underlying40 HI0.out HA0.out HB0.out HC0.out rfl (by omega) v74 k (strs LP) qv74 fO1 ⟨b,0,none⟩ 1 1 [.string (E cm)] qv76 rfl hN.cells (by simp [Value.oneCell']) (by omega) (by simp only [maxLen];omega) (by omega) hwz2 w'.heap.size rfl fun gE cE w'' hown hgrow hat hlt=>hK _ _ ?_
        refine hJ.put (d:=77) hsl rfl rfl hpre (Below.grown hJ.bw hgrow hwz (fun g' hg'=>Nat.le_trans hTB (own_lt fO1 hg').2)) ?_ ?_ ?_
        ·rw [hs1];exact ⟨fun y z e=>(by cases e),fun x z e=>own_grown (fP false z (by injection e with _ e;rw [e])) fO1 (by decide) hgrow,Blk.grown fG20 hgrow (own_ne fO1 fG20 (by decide)),Blk.grown fG21 hgrow (own_ne fO1 fG21 (by decide)),Blk.grown fQ hgrow (own_ne fO1 fQ (by decide)),fun _ _ _=>Blk.grown fT1 hgrow (own_ne fO1 fT1 (by decide)),fun _ _ e=>(by injection e with _ e;injection e with _ e;injection e with e _;cases e),Blk.grown fK hgrow (own_ne fO1 fK (by decide)),SsAt.grown fU hgrow hfO⟩
        ·intro j q9 hq hj hdn u h9;rw [hs0] at h9;rw [hs1];refine vS3_a fO1 hgrow j u hj ?_ h9;rintro rfl;have a3:=hJ.pr 9 _ rfl hdn ⟨3,.data⟩ (by simp) rfl;rw [hun] at a3;cases a3
        ·rw [hs1];show World.ownsRow _ _ _ _ _ _ (strs (LP++[cm]));rw [←strs_app];exact hown
       | 4,_,ho,hun,hpre =>
        simp at ho;subst ho;refine hJ.op (d:=78) hsl hst hFt hwz rfl rfl rfl (by decide) hpre ?_
        have k10:done.getD 10 false=false:=by
         cases a10:done.getD 10 false with
         | false=>rfl
         | true =>
          have a3:=hJ.pr 10 _ rfl a10 ⟨7,.data⟩ (by simp) rfl;have a0:=hJ.pr 7 _ rfl a3 ⟨4,.data⟩ (by simp) rfl;rw [hun] at a0;cases a0
        have q17:=hJ.keepX 17 (u17) 10 k10 rfl (by kernel_rfl);refine wp_val (v:=u17) (by simp [execOp,q17,go_sem]) rfl
       | 5,_,ho,hun,hpre =>
        simp at ho;subst ho;refine hJ.op (d:=79) hsl hst hFt hwz rfl rfl rfl (by decide) hpre ?_;have q20:=hJ.keep 20 (.pointer (some ⟨g20,0,none⟩)) rfl (by kernel_rfl);refine wp_val (v:=.agg #[.bool false,.string (E xd),.bool false,.string (E xe)]) (by simp [execOp,q20,go_sem,x0,x1,x2,x3]) rfl
       | 6,_,ho,hun,hpre =>
        simp at ho;subst ho;refine hJ.op (d:=80) hsl hst hFt hwz rfl rfl rfl (by decide) hpre ?_;obtain ⟨v79,ev79,hv79⟩:=hJ.dn 5 _ 79 rfl (hpre ⟨5,.data⟩ (by simp) rfl) rfl;have qv79:=eval_of ev79;obtain rfl:v79=.agg #[.bool false,.string (E xd),.bool false,.string (E xe)]:=hv79;have hN:=Blk.new w' #[.bool false,.string (E xd),.bool false,.string (E xe)] 39;simp [Oper.wp,execOp,ev79,go_sem];exact ⟨_,rfl,b1 _ _,_,rfl,fun e=>HP17 w'.heap.size hwx e,fun _ _ _=>hN⟩
       | 7,_,ho,hun,hpre =>
        simp at ho;subst ho;obtain ⟨v78,ev78,hv78⟩:=hJ.dn 4 _ 78 rfl (hpre ⟨4,.data⟩ (by simp) rfl) rfl;have qv78:=eval_of ev78;obtain ⟨v80,ev80,hv80⟩:=hJ.dn 6 _ 80 rfl (hpre ⟨6,.data⟩ (by simp) rfl) rfl;have qv80:=eval_of ev80
        have k11:done.getD 11 false=false:=by
         cases a11:done.getD 11 false with
         | false=>rfl
         | true =>
          have a10:=hJ.pr 11 _ rfl a11 ⟨10,.chain⟩ (by simp) rfl;have a7:=hJ.pr 10 _ rfl a10 ⟨7,.data⟩ (by simp) rfl;rw [hun] at a7;cases a7
        obtain ⟨bA,hbA⟩:∃y,y=done.getD 3 false:=⟨_,rfl⟩;have hs0:stB [3,7,11] done=[bA,false,false]:=by simp only [stB,List.map_cons,List.map_nil,hun,k11,hbA]
        have hi7:7<done.size:=by rw [hJ.sz];decide
        have hs1:stB [3,7,11] (done.setIfInBounds 7 true)=[bA,true,false]:=by
         have e:=hs0;simp only [stB,List.map_cons,List.map_nil,List.cons.injEq,and_true] at e;simp only [stB,List.map_cons,List.map_nil,getD_set _ _ _ hi7,e,if_true,if_false,Nat.reduceEqDiff]
        obtain rfl:v78=u17:=hv78;rw [hs0] at hv80;obtain ⟨b,rfl,_,hN⟩:=hv80;have hN:=hN bA false rfl;have hex:=hJ.ex;rw [hs0] at hex;obtain ⟨fO,fP,fG20,fG21,fQ,fT,_,fK,fU⟩:=hex;have fP1:=fP bA false rfl;have fT1:=fT bA false rfl;refine wpOp_step rfl fun K' hK=>?_
        refine step_append_lies _ rfl (.tmp 78) (.tmp 80) 43 rfl w2.heap.size 39 i1 _ 4 48 Tryz.underlying43 HI1.out HA1.out HB1'.out HC1.out rfl (by omega) v78 k ((LO.map nop).flatMap opc) qv78 fP1 ⟨b,0,none⟩ 1 1 [.bool false,.string (E xd),.bool false,.string (E xe)] qv80 rfl hN.cells (by simp [Value.oneCell']) (by omega) (by simp only [maxLen];omega) (by omega) hwz2 w'.heap.size rfl fun gE cE w'' hown hgrow hat hlt=>hK _ _ ?_
        refine hJ.put (d:=81) hsl rfl rfl hpre (Below.grown hJ.bw hgrow hwz (fun g' hg'=>Nat.le_trans hTB (own_lt fP1 hg').2)) ?_ ?_ ?_
        ·rw [hs1];exact ⟨fun y z e=>own_grown (fO false false (by injection e with e _;rw [e])) fP1 (by decide) hgrow,fun x z e=>(by injection e with _ e;injection e with e _;cases e),Blk.grown fG20 hgrow HN20.out,Blk.grown fG21 hgrow (own_ne fP1 fG21 (by decide)),Blk.grown fQ hgrow (own_ne fP1 fQ (by decide)),fun _ _ _=>Blk.grown fT1 hgrow (own_ne fP1 fT1 (by decide)),fun _ _ e=>(by injection e with _ e;injection e with _ e;injection e with e _;cases e),Blk.grown fK hgrow (own_ne fP1 fK (by decide)),SsAt.grown fU hgrow hfP⟩
        ·intro j q9 hq hj hdn u h9;rw [hs0] at h9;rw [hs1];refine vS3_b fP1 hgrow j u hj ?_ h9;rintro rfl;have a7:=hJ.pr 10 _ rfl hdn ⟨7,.data⟩ (by simp) rfl;rw [hun] at a7;cases a7
        ·rw [hs1];show World.ownsRow _ _ _ _ _ _ (((LO++[(xd,xe)]).map nop).flatMap opc);rw [List.map_append,List.flatMap_append];exact hown
       | 8,_,ho,hun,hpre =>
        simp at ho;subst ho;refine hJ.op (d:=82) hsl hst hFt hwz rfl rfl rfl (by decide) hpre ?_;have q21:=hJ.keep 21 (.pointer (some ⟨g21,0,none⟩)) rfl (by kernel_rfl);refine wp_val (v:=.agg #[.slice ta tm tc,.string T.seed,.int .i64 (T.pos+((k:Int)+1))]) (by simp [execOp,q21,go_sem,y0,y1,y2]) rfl
       | 9,_,ho,hun,hpre =>
        simp at ho;subst ho;refine hJ.op (d:=16) hsl hst hFt hwz rfl rfl rfl (by decide) hpre ?_;obtain ⟨v77,ev77,hv77⟩:=hJ.dn 3 _ 77 rfl (hpre ⟨3,.data⟩ (by simp) rfl) rfl;have qv77:=eval_of ev77;have hv9:=hv77;refine wp_val (v:=v77) (by simp [execOp,ev77,go_sem]) hv9
       | 10,_,ho,hun,hpre =>
        simp at ho;subst ho;refine hJ.op (d:=17) hsl hst hFt hwz rfl rfl rfl (by decide) hpre ?_;obtain ⟨v81,ev81,hv81⟩:=hJ.dn 7 _ 81 rfl (hpre ⟨7,.data⟩ (by simp) rfl) rfl;have qv81:=eval_of ev81;have hv9:=hv81;refine wp_val (v:=v81) (by simp [execOp,ev81,go_sem]) hv9
       | 11,_,ho,hun,hpre =>
        simp at ho;subst ho;have q7:=hJ.keep 7 (.pointer (some ⟨gT,0,none⟩)) rfl (by kernel_rfl);obtain ⟨v82,ev82,hv82⟩:=hJ.dn 8 _ 82 rfl (hpre ⟨8,.data⟩ (by simp) rfl) rfl;have qv82:=eval_of ev82;have a10:=hpre ⟨10,.chain⟩ (by simp) rfl;have a7:=hJ.pr 10 _ rfl a10 ⟨7,.data⟩ (by simp) rfl;have a9:=hJ.pr 10 _ rfl a10 ⟨9,.chain⟩ (by simp) rfl;have a3:=hJ.pr 9 _ rfl a9 ⟨3,.data⟩ (by simp) rfl;have hs0:stB [3,7,11] done=[true,true,false]:=by simp only [stB,List.map_cons,List.map_nil,a3,a7,hun]
        have hi11:11<done.size:=by rw [hJ.sz];decide
        have hs1:stB [3,7,11] (done.setIfInBounds 11 true)=[true,true,true]:=by
         have e:=hs0;simp only [stB,List.map_cons,List.map_nil,List.cons.injEq,and_true] at e;simp only [stB,List.map_cons,List.map_nil,getD_set _ _ _ hi11,e,if_true,if_false,Nat.reduceEqDiff]
        obtain rfl:v82=.agg #[.slice ta tm tc,.string T.seed,.int .i64 (T.pos+((k:Int)+1))]:=hv82;have hex:=hJ.ex;rw [hs0] at hex;obtain ⟨_,_,fG20,fG21,fQ,fT,_,fK,fU⟩:=hex;have fT1:=fT true true rfl;have hGl:=fT1.lt;have f0:=fT1.free 0;have f1:=fT1.free 1;have f2:=fT1.free 2;have z0:=fT1.cell 0;have z1:=fT1.cell 1;have z2:=fT1.cell 2;refine wpOp_step rfl fun K' hK=>?_
        rw [if_pos (by simp [Region.wanted])];simp [Oper.wp,execOp,ev82,q7,go_sem,f0,f1,f2,z0,z1,z2,hGl];have h9:=hJ.skip (i:=11) (v:=undef) rfl rfl hpre (((hJ.bw.setCell (p:=⟨gT,0,none⟩) (Nat.le_refl _) (.slice ta tm tc)).setCell (p:=⟨gT,1,none⟩) (Nat.le_refl _) (.string T.seed)).setCell (p:=⟨gT,2,none⟩) (Nat.le_refl _) (.int .i64 (T.pos+((k:Int)+1)))) ?_ ?_
        ·exact hK a' _ h9
        ·rw [hs1];exact ⟨fun y z e=>(by cases e),fun x z e=>(by injection e with _ e;injection e with e _;cases e),blk_o3 fG20 (blk_neT' fG20 fT1 (by decide)) _ _ _,blk_o3 fG21 n21 _ _ _,blk_o3 fQ nQT _ _ _,fun _ _ e=>(by injection e with _ e;injection e with _ e;injection e with e _;cases e),fun _ _ _=>((fT1.set 0 _).set 1 _).set 2 _,blk_o3 fK (blk_neT' fK fT1 (by decide)) _ _ _,((fU.set_far hfT).set_far hfT).set_far hfT⟩
        ·intro j q9 hq hj hdn d9 u hd9 hu h9;rw [hs0] at h9;rw [hs1];exact vS3_c fT1 _ _ _ j u h9
      ·intro done a' w' hJ hd;obtain ⟨f,hf,hv⟩:=hJ.all hd;have hs1:stB [3,7,11] done=[true,true,true]:=stB_all hd (by kernel_rfl);have h9:=hv 9 _ 16 rfl rfl;have h10:=hv 10 _ 17 rfl rfl;have hex:=hJ.ex;rw [hs1] at hex;obtain ⟨_,_,_,_,fQ,_,fT,fK,fU⟩:=hex;have fT1:=fT true true rfl;have hbw:=hJ.bw;have hO2:w'.ownsRow w2.heap.size 31 1 (f 9) (k+1) (strs (LP++[cm])):=h9;have hP2:w'.ownsRow w2.heap.size 39 4 (f 10) (k+1) (((LO++[(xd,xe)]).map nop).flatMap opc):=h10;clear hJ hv hd fT h9 h10 hK;subst hf;have hWT:w.heap.size≤gT:=Nat.le_of_lt HGW.out.1;have hbr2:=hbr.trans (hbw.mono hWT);have hbz2:=Nat.le_trans hbz hbw.size;rw [←HSP2.out] at hO2;rw [←HSO2.out] at hP2;simp only [putAll,List.size_toArray,List.length_cons,List.length_nil,Nat.reduceAdd,List.getElem?_toArray,List.getElem?_cons_zero,List.getElem?_cons_succ,Option.bind_some,Act.put,List.setIfInBounds_toArray,List.set_cons_zero,List.set_cons_succ];go_wp2;go_roundw
       case rel=>exact ⟨k+1,ta,tm,tc,by omega,by go_num,HGD2.out,hO2,hP2,by rw [show T.pos+((k+1:Nat):Int)=T.pos+((k:Int)+1) by omega];exact fT1,fQ,fK,fU,hfT,hfQ,fun _=>HFW.out,hbz2,hbr2⟩
       case measure=>simp [intOf];omega
   ·obtain rfl:n=k:=by omega
    have HXX:Hid (R=⟨0,prP att p g h q X T n,prO att q X T n,T.on n⟩):=by rw [Hid,HR.out,splN_ok HAL.out]
    have hn0b:((n:Int)==0)=false:=by rw [beq_eq_false_iff_ne];omega
    have HNZ:Hid (n≠0):=by rw [Hid];omega
    have lQ:w.heap.size≤gQ:=by have:=HGW.out;omega
    have n1':¬ gT=gQ:=by have:=HGW.out;omega
    have hTl:=hT.lt;have hQl:=hQ.lt;clear HAL HR HDG HRN;go_upto_region 21 with fail
    obtain ⟨hTc0,hTf0,hTc1,hTf1,hTc2,hTf2⟩:=hT.x3;obtain ⟨hQc0,hQf0,hQc1,hQf1,hQc2,hQf2⟩:=hQ.x3;go_region;go_wp2;refine bodyPost_ret (v:=.tuple #[u16,u17,.agg #[.slice uo um uc,.string T.seed,.int .i64 (T.pos+(n:Int))],.int .i64 0]) ?_ rfl ?_
    ·simp [results,Tryz.results35,go_sem,hQc0,hQc1,hQc2,hQl]
    ·rw [HXX.out];have hnO:u16.ownBlock≠some gQ:=own_ne hO hQ (by decide);have hnP:u17.ownBlock≠some gQ:=own_ne hP hQ (by decide);refine ⟨u16,u17,_,rfl,?_,?_,⟨.slice uo um uc,rfl,SsAt.after (((hU.set_far hFQ).set_far hFQ).set_far hFQ) (Below.drew (Below.refl _ _))⟩,TFar.of (fun b hb=>HFX.out HNZ.out b hb),(((hbr.setCell lQ _).setCell lQ _).setCell lQ _).drew⟩
     ·show World.ownsRow _ _ _ _ _ (prP att p g h q X T n).length _;rw [prP_len];exact own_mono (World.ownsRow.drew (own_set (own_set (own_set hO hnO) hnO) hnO)) HW2.out
     ·show World.ownsRow _ _ _ _ _ (prO att q X T n).length _;rw [prO_len];exact own_mono (World.ownsRow.drew (own_set (own_set (own_set hP hnP) hnP) hnP)) HW2.out
end Go.Proofs.YtdoacbdkbbpamaaGreatDoor
