import Derived.Shelf.LaysM
import Derived.Shelf.Strconv.Itoa3
import Derived.Lib.LaidTab
import Derived.Test.YtfgandecbkbleaaGreatDoorHv8
import Derived.RangeFuncNested
import Derived.RangeFuncBound
import Derived.RangeFuncCalls
import Derived.RangeFuncLeaves
import Derived.RangeFuncBox
import Derived.Test.YtfgandecbkbleaaGreatDoorExp
import Derived.Test.YtfgandecbkbleaaGreatDoorHp6
import Derived.Test.YtfgandecbkbleaaGreatDoorStm
import Derived.Deep.RegionLaw
import Derived.Deep.AppendLies
import Derived.Shelf.Abstract
import Derived.Test.YtfgandecbkbleaaGreatDoorRc1
set_option linter.unusedVariables false
set_option linter.unusedSimpArgs false
set_option maxRecDepth 100000
set_option maxHeartbeats 16000000
namespace Go.Proofs.YtfgandecbkbleaaGreatDoor
section
open Go.RowKit Go.Shelf
def TabW (w:World):Prop:=Lib.TabIs Tryz.prog w "internal/strconv.uint64pow10" .u64 Lib.pow10Tab
theorem TabW.after {w w':World} (h:TabW w) (hb:Below w.heap.size w w'):TabW w':=by
 have h1:w.var? Tryz.prog "internal/strconv.uint64pow10"=some _:=h;show w'.var? Tryz.prog "internal/strconv.uint64pow10"=some _;unfold World.var? at h1 ⊢;cases hg:Tryz.prog.globalNamed "internal/strconv.uint64pow10" with
 | none=>rw [hg] at h1;cases h1
 | some g =>
  rw [hg] at h1;simp only [Option.bind_some] at h1 ⊢;cases hx:w.heap[g]? with
  | none=>rw [hx] at h1;cases h1
  | some o =>
   rw [hb.block g (Array.getElem?_eq_some_iff.1 hx).1];exact h1
theorem grow_below (w:World) (k:Nat) (os:Array Obj):Below w.heap.size w (Go.Sort.grow (w.drewN k) os):=
 ⟨rfl,rfl,rfl,by show w.heap.size≤(w.heap++os).size;rw [Array.size_append];omega,fun j hj=>by show (w.heap++os)[j]?=_;rw [Array.getElem?_append_left hj]⟩
theorem itoa_v (n:Nat) (w:World) (hn:n≤2147483647) (ht:TabW w) :
  Calls Tryz.prog 190 #[.int .i64 (n:Int)] w fun e w'=>e=.returned (.string (decV n))∧Below w.heap.size w w':=by
 refine (Tryz.strconv_Itoa (n:Int) (by omega) (by omega) w ht).mono ?_;rintro e w' ⟨rfl,k,os,rfl⟩;refine ⟨?_,grow_below _ _ _⟩;rw [Lib.itoa_nonneg];rfl
end
section
open Go.RowKit Go.Shelf
def untilPost {T:Type} (isOut:Code→Prop) (I Ix:Nat→World→Prop) (k:Nat) (W:World):Exit→T→World→Prop
 | .normal,_,W'=>KeepsOthers W W'∧I (k+1) W'
 | .exit j,_,W'=>isOut (.exit j)∧KeepsOthers W W'∧Ix (k+1) W'
 | _,_,_=>False
theorem wpIn_range_until {F:Fence} {n:Nat} {P:Program} {g:Operand} {ps:Array Tmp} {assign body out:Code} {Q:Exit→Act→World→Prop} {a:Act} {w:World}
  (hro:F.round=none) (h1:1≤n) {gf:Nat} {lb:Array Value} (hg:a.eval g=.func (.func gf) #[] lb) (hFg:F.fn gf) (eg:∀args w,(callFunc gf args).run P w=.ok (.enter gf args) w)
  {enc:Nat→Array Value} (hps:∀k,(enc k).size=ps.size) (I Ix:Nat→World→Prop) (hI:OwnFrom w.heap.size I) (hIx:OwnFrom w.heap.size Ix)
  (hIb:∀k A B,I k A→Below A.heap.size A B→I k B) (h0:I 0 w)
  (hit:∀(l:Nat) (J Jx:Nat→World→Prop) (W:World),(∀k A,J k A→I k A)→(∀k A B,J k A→Below A.heap.size A B→J k B) →
   (∀k A,J k A→YieldAt F (n-1-1) P l (enc k) A fun e A'=>(e=.returned (.bool true)∧J (k+1) A')∨(e=.returned (.bool false)∧Jx (k+1) A'))→J 0 W →
   CallsIn F (n-1) P gf (#[.func (.yield l) #[] #[]]++lb) W fun e W'=>(∃v,e=.returned v)∧∃k,Jx k W')
  (a₁:Nat→Act)
  (hassign:∀(l k:Nat) (W:World) (K:Act→World→Prop),K (a₁ k) W →
   assign.wpIn (F.inRound l) (n-1-1) P (Exit.then K (fun _ _ _=>False)) { tmps:=(ps.zip (enc k)).foldl (fun t (p,v)=>t.setIfInBounds p v) a.tmps,defers:=[] } W)
  (hbody:∀(l k:Nat) (W:World),I k W→body.wpIn (F.inRound l) (n-1-1) P (untilPost (·=out) I Ix k W) (a₁ k) W)
  (hstop:∀(D k:Nat) (W:World),w.heap.size≤D→Ix k W→W.heap[D]?=some (.deferred (some []))→out.wpIn F n P Q { a with defers:={ target:=.collected D,args:=#[] } :: a.defers } W) :
  (Code.rangeFunc g ps assign body).wpIn F n P Q a w:=by
 refine wpIn_rangeFunc fun fn hfn=>?_
 rw [hro];-- the record of the loop,by its state and pending jump;the world that holds it,ready
 let R:LoopState→Option Code→Loop:=fun st pe=>{ state:=st,pending:=pe,fn,tmps:=a.tmps,params:=ps,assign,body,defers:=w.heap.size }
 have eL:(w.alloc (.deferred (some []))).heap.size=w.heap.size+1:=by simp
 have hRec:((w.alloc (.deferred (some []))).alloc (.loop (R .ready none))).heap[w.heap.size+1]?=some (.loop (R .ready none)):=by
  have h:=World.alloc_heap_new (w.alloc (.deferred (some []))) (.loop (R .ready none));rwa [eL] at h
 have hDef:((w.alloc (.deferred (some []))).alloc (.loop (R .ready none))).heap[w.heap.size]?=some (.deferred (some [])):=
  (Below.heap_alloc _ _ _ (by omega)).trans (World.alloc_heap_new w _)
 refine ⟨w.heap.size+1,[{ target:=.collected w.heap.size,args:=#[] }],((w.alloc (.deferred (some []))).alloc (.loop (R .ready none))),{ target:=.fn (.func gf) lb,args:=#[.func (.yield (w.heap.size+1)) #[] #[]] },((w.alloc (.deferred (some []))).alloc (.loop (R .ready none))),gf,
  #[.func (.yield (w.heap.size+1)) #[] #[]]++lb,((w.alloc (.deferred (some []))).alloc (.loop (R .ready none))),run_enterLoop_outer _ _ _ _ _,?_,?_,?_,fun _=>h1,?_⟩
 ·simp only [resolve,hg];simp [go_sem]
 ·intro f' hf';simp [Target.leads] at hf';subst hf';exact hFg
 ·simp [invoke,go_sem,eg]
 refine (hit (w.heap.size+1)
  (fun k W=>I k W∧W.heap[w.heap.size+1]?=some (.loop (R .ready none))∧W.heap[w.heap.size]?=some (.deferred (some [])))
  (fun k W=>Ix k W∧W.heap[w.heap.size+1]?=some (.loop (R .done (some out)))∧W.heap[w.heap.size]?=some (.deferred (some [])))
  _ (fun _ _ h=>h.1) (fun k A B h hb=>⟨hIb k A B h.1 hb,(hb.block _ (Array.getElem?_eq_some_iff.1 h.2.1).1).trans h.2.1,(hb.block _ (Array.getElem?_eq_some_iff.1 h.2.2).1).trans h.2.2⟩) ?_
  ⟨hI.alloc _ (hI.alloc _ h0),hRec,hDef⟩).mono ?_
 ·-- one round
  rintro k W ⟨hi,hl,hk⟩;have hlt:w.heap.size+1<W.heap.size:=(Array.getElem?_eq_some_iff.1 hl).1;refine ⟨fn,_,assign,body,run_yield hl (hps k),roundIn_of_wpIn hfn (hassign _ k W _ ⟨_,run_beginRound hl rfl,?_⟩)⟩;have hl2:(W.putObj (w.heap.size+1) (.loop (R .busy none))).heap[w.heap.size+1]?=some (.loop (R .busy none)):=World.putObj_heap_same hlt;have hk2:(W.putObj (w.heap.size+1) (.loop (R .busy none))).heap[w.heap.size]?=some (.deferred (some [])):=(World.putObj_heap_other (by omega)).trans hk;refine wpIn_mono (hbody _ k _ (hI.putObj _ hi (by omega) hl rfl)) ?_;-- the record behind the round
  have fin:∀(jump:Option Code) (W3:World),KeepsOthers (W.putObj (w.heap.size+1) (.loop (R .busy none))) W3 →
    W3.heap[w.heap.size+1]?=some (.loop (R .busy none)) ∧
    (W3.putObj (w.heap.size+1) (.loop (R (if jump.isNone then .ready else .done) jump))).heap[w.heap.size+1]?=some (.loop (R (if jump.isNone then .ready else .done) jump)) ∧
    (W3.putObj (w.heap.size+1) (.loop (R (if jump.isNone then .ready else .done) jump))).heap[w.heap.size]?=some (.deferred (some [])):=fun jump W3 hk3=>by
   have hl3:=hk3.same _ _ hl2 rfl;exact ⟨hl3,World.putObj_heap_same (Array.getElem?_eq_some_iff.1 hl3).1,(World.putObj_heap_other (by omega)).trans (hk3.same _ _ hk2 rfl)⟩
  rintro e a3 W3 hp;cases e with
  | normal =>
   obtain ⟨hk3,hi3⟩:=hp;obtain ⟨hl3,hl4,hk4⟩:=fin none W3 hk3;exact ⟨_,_,run_endRound none hl3,.inl ⟨rfl,hI.putObj _ hi3 (by omega) hl3 rfl,hl4,hk4⟩⟩
  | exit j =>
   obtain ⟨hj,hk3,hi3⟩:=hp;obtain ⟨hl3,hl4,hk4⟩:=fin (some (.exit j)) W3 hk3;replace hj:Code.exit j=out:=hj;refine ⟨_,_,run_endRound (some (.exit j)) hl3,.inr ⟨rfl,hIx.putObj _ hi3 (by omega) hl3 rfl,?_,hk4⟩⟩;rw [←hj];exact hl4
  | ret=>exact hp.elim
  | goto t=>exact hp.elim
  | panic ch=>exact hp.elim
  | outgrown=>exact hp.elim
 ·-- behind the iterator
  rintro e W2 ⟨⟨v,rfl⟩,k,hi,hl,hk⟩;exact ⟨some out,_,run_endLoop hl (by simp [R]),hstop _ k _ (Nat.le_refl _) (hIx.putObj _ hi (by omega) hl rfl) ((World.putObj_heap_other (by omega)).trans hk)⟩
end
section
open Go.RowKit Go.Shelf
theorem itoaV_v (n:Nat) (v:Value) (d:ByteArray) (w:World) (hv:v=.int .i64 (n:Int)) (hd:d=decV n) (hn:n≤2147483647) (ht:TabW w) :
  Calls Tryz.prog 190 #[v] w fun e w'=>e=.returned (.string d)∧Below w.heap.size w w':=by
 subst hv hd;exact itoa_v n w hn ht
theorem pblocks_c (ao:Option Addr) (m c:Nat) (seed:ByteArray) (p a:Nat) (w:World) :
  Calls Tryz.prog 167 #[.agg #[.slice ao m c,.string seed,.int .i64 (p:Int)],.int .i64 (a:Int)] w fun e w'=>e=.returned (.func (.func 189) #[] #[.pointer (some ⟨w.heap.size,0,none⟩),.pointer (some ⟨w.heap.size+1,0,none⟩)]) ∧
   w'=(w.alloc (.cells #[.slice ao m c,.string seed,.int .i64 (p:Int)] 47)).alloc (.cells #[.int .i64 (a:Int)] 3):=by
 go_enter Tryz.func167,Tryz.ntmps167
 go_wp2;go_ret
 exact ⟨by simp,rfl⟩
def ItW (gt ga:Nat) (seed:ByteArray) (p a:Nat) (W:World):Prop:=
 W.cell? ⟨gt,1,none⟩=some (.string seed)∧W.cell? ⟨gt,2,none⟩=some (.int .i64 (p:Int))∧W.cell? ⟨ga,0,none⟩=some (.int .i64 (a:Int))∧gt<W.heap.size∧ga<W.heap.size∧TabW W
theorem blocks1_in (n l gt ga:Nat) (seed:ByteArray) (p a N:Nat) (hk:seed.size≤1000) (hp:p≤2147483647) (ha:a<256) (hN:N≤1000) (J Jx:Nat→World→Prop)
  (hJI:∀k A,J k A→k<N∧ItW gt ga seed p a A) (hJb:∀k A B,J k A→Below A.heap.size A B→J k B)
  (hY:∀k A,J k A→YieldAt Fence.wide (n-1) Tryz.prog l #[.string (macV seed (nmV p a k))] A fun e A'=>(e=.returned (.bool true)∧J (k+1) A')∨(e=.returned (.bool false)∧Jx (k+1) A'))
  (W:World) (h0:J 0 W) :
  CallsIn Fence.wide n Tryz.prog 189 #[.func (.yield l) #[] #[],.pointer (some ⟨gt,0,none⟩),.pointer (some ⟨ga,0,none⟩)] W fun e W'=>(∃v,e=.returned v)∧∃k,Jx k W':=by
 have HY:=Lib.hid hY;have HJI:=Lib.hid hJI;have HJB:=Lib.hid hJb;have HDS:Hid (∀n,n≤2147483647→(decV n).size≤10):=fun n h=>dec_size n 9 (by omega)
 have HM:Hid (∀(s:ByteArray) (w:World),s.size≤900→Calls Tryz.prog 191 #[.string seed,.string s] w fun e w'=>e=.returned (.string (macV seed s))∧Below w.heap.size w w'):=fun s w h=>pmac_v seed s w hk h
 clear hY hJI hJb;refine callsIn_of_wp Tryz.func189 rfl trivial ?_ rfl;simp only [Tryz.ntmps189,List.size_toArray,List.length_cons,List.length_nil,Nat.reduceAdd,Nat.reduceSub,Array.replicate_succ,Array.replicate_zero,List.push_toArray,List.append_toArray,List.nil_append,List.cons_append];gi_wp2
 gi_loopw [4] (fun i wr=>∃k:Nat,i=.int .i64 (k:Int)∧J k wr) (fun i _=>N-(intOf i).toNat)
 case atStart=>exact ⟨0,rfl,h0⟩
 case round =>
  obtain ⟨k,rfl,hJ⟩:=hrel;obtain ⟨wp,hwp⟩:∃wp,wp=wr:=⟨_,rfl⟩;subst hwp;obtain ⟨hkN,c1,c2,ca,l1,l2,ht⟩:=HJI.out k wp hJ;have g1:=gclH (a:=⟨gt,1,none⟩) l1 c1;have g2:=gclH (a:=⟨gt,2,none⟩) l1 c2;have g3:=gclH (a:=⟨ga,0,none⟩) l2 ca;have HT:Hid (∀W,Below wp.heap.size wp W→TabW W):=fun W h=>ht.after h
  have hd1:=HDS.out p hp;have hd2:=HDS.out a (by omega);have hd3:=HDS.out k (by omega);obtain ⟨d1,hdd1⟩:∃d,d=decV p:=⟨_,rfl⟩;obtain ⟨d2,hdd2⟩:∃d,d=decV a:=⟨_,rfl⟩;obtain ⟨d3,hdd3⟩:∃d,d=decV k:=⟨_,rfl⟩;have HI1:Hid (∀(v:Value) (W:World),v=.int .i64 (p:Int)→Below wp.heap.size wp W→Calls Tryz.prog 190 #[v] W fun e w'=>e=.returned (.string d1)∧Below W.heap.size W w'):=fun v W hv hb=>itoaV_v p v d1 W hv hdd1 hp (HT.out W hb)
  have HI2:Hid (∀(v:Value) (W:World),v=.int .i64 (a:Int)→Below wp.heap.size wp W→Calls Tryz.prog 190 #[v] W fun e w'=>e=.returned (.string d2)∧Below W.heap.size W w'):=fun v W hv hb=>itoaV_v a v d2 W hv hdd2 (by omega) (HT.out W hb)
  have HI3:Hid (∀(v:Value) (W:World),v=.int .i64 (k:Int)→Below wp.heap.size wp W→Calls Tryz.prog 190 #[v] W fun e w'=>e=.returned (.string d3)∧Below W.heap.size W w'):=fun v W hv hb=>itoaV_v k v d3 W hv hdd3 (by omega) (HT.out W hb)
  have HNM:Hid (nmV p a k=d1++(⟨#[46]⟩:ByteArray)++d2++(⟨#[46]⟩:ByteArray)++d3):=by rw [Hid,hdd1,hdd2,hdd3];rfl
  rw [←hdd1] at hd1;rw [←hdd2] at hd2;rw [←hdd3] at hd3;have HJ:=Lib.hid hJ;clear hdd1 hdd2 hdd3 hJ c1 c2 ca ht;have q1:¬ 9223372036854775807<d1.size+1:=by omega
  have q2:¬ 9223372036854775807<d1.size+1+d2.size:=by omega
  have q3:¬ 9223372036854775807<d1.size+1+d2.size+1:=by omega
  have q4:¬ 9223372036854775807<d1.size+1+d2.size+1+d3.size:=by omega
  have HSZ:Hid ((d1++(⟨#[46]⟩:ByteArray)++d2++(⟨#[46]⟩:ByteArray)++d3).size≤900):=by
   rw [Hid,ByteArray.size_append,ByteArray.size_append,ByteArray.size_append,ByteArray.size_append];show d1.size+1+d2.size+1+d3.size≤900;omega
  clear hd1 hd2 hd3;gi_wp2_with fail
  refine wpIn_wide.2 ?_;go_wp2_with fail
  refine wp_region_gw (by kernel_rfl) (by kernel_rfl) ?_;repeat (go_big_quiet_step (first | (go_at_call 190;exact gw_of (HI1.out _ _ rfl (gw_below _))) | (go_at_call 190;exact gw_of (HI2.out _ _ rfl (gw_below _))) | (go_at_call 190;exact gw_of (HI3.out _ _ rfl (gw_below _)))))
  refine wpQuiet_nil ?_;rintro w9 ⟨xw9,rfl⟩;have hb9:=gw_below xw9;generalize gw xw9=w9 at hb9;clear g1 g2 g3;have c1:w9.cell? ⟨gt,1,none⟩=some (.string seed):=(hb9.cell (p:=⟨gt,1,none⟩) l1).trans (HJI.out k wp HJ.out).2.1;have HJ9:=Lib.hid (HJB.out k wp w9 HJ.out hb9);clear HJ HI1 HI2 HI3 HT hb9;rw [←HNM.out] at HSZ ⊢;clear HNM q1 q2 q3 q4;have HMk:=Lib.hid (fun w=>HM.out (nmV p a k) w HSZ.out);have HYk:=Lib.hid (HY.out k);generalize macV seed (nmV p a k)=mv at HMk HYk;generalize nmV p a k=nm at HMk ⊢;clear HM;gi_wp2_with fail
  refine ⟨trivial,wide_depth,?_⟩;refine (callsIn_wide.2 (HMk.out _)).mono ?_;rintro e w4 ⟨rfl,hb4⟩;have HJ4:=Lib.hid (HJB.out k w9 w4 HJ9.out hb4);obtain ⟨fn,tmps,assign,body,hy,hR⟩:=HYk.out w4 HJ4.out;gi_wp2
  refine ⟨wide_depth,hR.mono ?_⟩;rintro r W3 (⟨rfl,hJ3⟩ | ⟨rfl,hJx3⟩)
  ·gi_wp2
   go_roundw
   case rel=>exact ⟨k+1,by go_num,hJ3⟩
   case measure=>simp [intOf] <;> omega
  ·gi_wp2
   refine bodyPost_ret (results_none rfl _ _ _) rfl ?_;exact ⟨⟨_,rfl⟩,_,hJx3⟩
end
section
open Go.RowKit
def StmPost (w:World) (p q t:Nat) (B:List Nat) (e:Ending) (w':World):Prop:=
 ∃g1 g2 g3 g4 c1 c2 c3 c4:Nat,e=.returned (.agg #[.slice (some ⟨g1,0,none⟩) 1 c1,.slice (some ⟨g2,0,none⟩) B.length c2,.slice (some ⟨g3,0,none⟩) 1 c3])∧Stm w' g1 g2 g3 g4 c4 p q t B∧(w.heap.size≤g1∧w.heap.size≤g2∧w.heap.size≤g3∧w.heap.size≤g4)∧Below w.heap.size w w'
theorem Stm.one {w:World} {g1 g2 g3 g4 c4 p q t b:Nat} (h1:Blk w g1 24 [.string (E p),.string (E q)]) (h2:Blk w g2 113 [.string { data:=#[] }])
  (h3:Blk w g3 115 [.int .i64 0,.string (E t),.slice (some ⟨g4,0,none⟩) 1 c4]) (h4:Blk w g4 118 [.string (E b),.int .i64 0,.bool false,.string (E 1)]) (hc:1≤c4):Stm w g1 g2 g3 g4 c4 p q t [b] where
 l1:=h1.lt
 l2:=h2.lt
 l3:=h3.lt
 l4:=h4.lt
 m0:=h1.cell 0
 m1:=h1.cell 1
 vs:=fun j hj=>by
            obtain rfl:j=0:=by simp at hj;exact hj
            exact h2.cell 0
 e0:=h3.cell 0
 e1:=h3.cell 1
 e2:=h3.cell 2
 t0:=fun j hj=>by
            obtain rfl:j=0:=by simp at hj;exact hj
            exact h4.cell 0
 t1:=fun j hj=>by
            obtain rfl:j=0:=by simp at hj;exact hj
            exact h4.cell 1
 t2:=fun j hj=>by
            obtain rfl:j=0:=by simp at hj;exact hj
            exact h4.cell 2
 t3:=fun j hj=>by
            obtain rfl:j=0:=by simp at hj;exact hj
            exact h4.cell 3
 cap:=hc
theorem two_cases {j:Nat} {l:List Nat} {b c:Nat} (h:l=[b,c]) (hj:j<l.length):j=0∨j=1:=by subst h;simp at hj;omega
theorem Stm.two {w:World} {g1 g2 g3 g4 c4 p q t b c:Nat} (h1:Blk w g1 24 [.string (E p),.string (E q)]) (h2:Blk w g2 113 [.string { data:=#[] },.string { data:=#[] }])
  (h3:Blk w g3 115 [.int .i64 0,.string (E t),.slice (some ⟨g4,0,none⟩) 2 c4]) (h4:Blk w g4 118 [.string (E b),.int .i64 0,.bool false,.string (E 1),.string (E c),.int .i64 1,.bool false,.string (E 1)]) (hc:2≤c4):Stm w g1 g2 g3 g4 c4 p q t [b,c] where
 l1:=h1.lt
 l2:=h2.lt
 l3:=h3.lt
 l4:=h4.lt
 m0:=h1.cell 0
 m1:=h1.cell 1
 vs:=fun j hj=>by
            rcases two_cases rfl hj with rfl | rfl
            ·exact h2.cell 0
            ·exact h2.cell 1
 e0:=h3.cell 0
 e1:=h3.cell 1
 e2:=h3.cell 2
 t0:=fun j hj=>by
            rcases two_cases rfl hj with rfl | rfl
            ·exact h4.cell 0
            ·exact h4.cell 4
 t1:=fun j hj=>by
            rcases two_cases rfl hj with rfl | rfl
            ·exact h4.cell 1
            ·exact h4.cell 5
 t2:=fun j hj=>by
            rcases two_cases rfl hj with rfl | rfl
            ·exact h4.cell 2
            ·exact h4.cell 6
 t3:=fun j hj=>by
            rcases two_cases rfl hj with rfl | rfl
            ·exact h4.cell 3
            ·exact h4.cell 7
 cap:=hc
theorem Blk.newAt {w:World} {g:Nat} {cs:Array Value} {T:TypeId} (h:g=w.heap.size):Blk (w.alloc (.cells cs T)) g T cs.toList:=by rw [h];exact Blk.new w cs T
theorem Stm.set {w:World} {g1 g2 g3 g4 c4 p q t r i:Nat} {B:List Nat} {v:Value} (h:Stm w g1 g2 g3 g4 c4 p q t B) (h1:g1≠r) (h2:g2≠r) (h3:g3≠r) (h4:g4≠r):Stm (w.setCell ⟨r,i,none⟩ v) g1 g2 g3 g4 c4 p q t B:=by
 have k:∀(g j:Nat),g≠r→(w.setCell ⟨r,i,none⟩ v).cell? ⟨g,j,none⟩=w.cell? ⟨g,j,none⟩:=fun g j hg=>World.cell?_setCell_other _ _ _ _ (fun e=>hg (congrArg Addr.block e).symm)
 exact ⟨by rw [World.size_setCell];exact h.l1,by rw [World.size_setCell];exact h.l2,by rw [World.size_setCell];exact h.l3,by rw [World.size_setCell];exact h.l4,
  (k _ _ h1).trans h.m0,(k _ _ h1).trans h.m1,fun j hj=>(k _ _ h2).trans (h.vs j hj),(k _ _ h3).trans h.e0,(k _ _ h3).trans h.e1,(k _ _ h3).trans h.e2,
  fun j hj=>(k _ _ h4).trans (h.t0 j hj),fun j hj=>(k _ _ h4).trans (h.t1 j hj),fun j hj=>(k _ _ h4).trans (h.t2 j hj),fun j hj=>(k _ _ h4).trans (h.t3 j hj),h.cap⟩
theorem Stm.drew {w:World} {g1 g2 g3 g4 c4 p q t:Nat} {B:List Nat} (h:Stm w g1 g2 g3 g4 c4 p q t B):Stm w.drew g1 g2 g3 g4 c4 p q t B:=h.after (Below.refl _ _).drew
def ResPost (w:World) (p q t:Nat) (B:List Nat) (e:Ending) (w':World):Prop:=
 ∃g1 g2 g3 g4 c1 c2 c3 c4:Nat,e=.returned (.tuple #[.agg #[.slice (some ⟨g1,0,none⟩) 1 c1,.slice (some ⟨g2,0,none⟩) B.length c2,.slice (some ⟨g3,0,none⟩) 1 c3],.int .i64 0])∧Stm w' g1 g2 g3 g4 c4 p q t B∧Below w.heap.size w w'
end
section
/- A call of a Go function at a step of a region that draws its order,by the callee's contract. -/
open Go.RowKit Go.Shelf
theorem wp_call_law {P:Program} {o:Oper} {a:Act} {w:World} {K:Act→World→Prop} {Q:Exit→Act→World→Prop} (f:FuncId) (xs:Array Operand) (ts:Array TypeId)
  (ho:o.op=.call { callee:=.value (.func f),args:=xs,argTypes:=ts }) (hE:∀args w,(callFunc f args).run P w=.ok (.enter f args) w) {v:Value} {R:World→Prop}
  (hc:Calls P f (xs.map a.eval) w fun e w'=>e=.returned v∧R w') (h:∀w',R w'→K (a.put o.dst v) w'):o.wp P a w K Q:=by
 have hrun:(execOp a.eval o).run P w=.ok (.enter f (xs.map a.eval)) w:=by
  simp [execOp,ho,resolve,invoke,go_sem,hE]
 unfold Oper.wp;rw [hrun,Oper.upon_enter];refine hc.mono fun e w' he=>?_
 obtain ⟨rfl,hR⟩:=he;exact h w' hR
theorem step_call1 {P:Program} {ops:Array Oper} {o:Oper} {a:Act} {w:World} {K:Act→World→Prop} {Q:Exit→Act→World→Prop} {E:Prop} (hgd:o.guard=none) (f:FuncId) (x:Operand) (t:TypeId)
  (ho:o.op=.call { callee:=.value (.func f),args:=#[x],argTypes:=#[t] }) (hE:∀args w,(callFunc f args).run P w=.ok (.enter f args) w) (u:Value) (hx:a.eval x=u) {v:Value} {R:World→Prop}
  (hc:Calls P f #[u] w fun e w'=>e=.returned v∧R w') (h:∀w',R w'→K (a.put o.dst v) w') :
  if Region.wanted o (yielded ops a.tmps)=true then Oper.wp P o a w K Q else E:=by
 have hw:Region.wanted o (yielded ops a.tmps)=true:=by simp [Region.wanted,hgd]
 rw [if_pos hw];refine wp_call_law f #[x] #[t] ho hE ?_ h;have e:(#[x].map a.eval)=#[u]:=by simp [hx]
 rw [e];exact hc
theorem step_call {P:Program} {ops:Array Oper} {o:Oper} {a:Act} {w:World} {K:Act→World→Prop} {Q:Exit→Act→World→Prop} {E:Prop} (hgd:o.guard=none) (f:FuncId) (xs:Array Operand) (ts:Array TypeId)
  (ho:o.op=.call { callee:=.value (.func f),args:=xs,argTypes:=ts }) (hE:∀args w,(callFunc f args).run P w=.ok (.enter f args) w) {v:Value} {R:World→Prop}
  (hc:Calls P f (xs.map a.eval) w fun e w'=>e=.returned v∧R w') (h:∀w',R w'→K (a.put o.dst v) w') :
  if Region.wanted o (yielded ops a.tmps)=true then Oper.wp P o a w K Q else E:=by
 have hw:Region.wanted o (yielded ops a.tmps)=true:=by simp [Region.wanted,hgd]
 rw [if_pos hw];exact wp_call_law f xs ts ho hE hc h
end
section
open Go.RowKit Go.Shelf
theorem rbelow_v (att:Att) (T:Tp) (v:Value) (n:Nat) (w:World) (hat:RAtt att T.seed) (hok:T.Ok) (h2:n<256^64) (hV:SsAt w v T.vals) :
  Calls Tryz.prog 54 #[.agg #[v,.string T.seed,.int .i64 T.pos],.string (E n)] w (CPost w T (coin att T n)):=by
 have HVL:Hid (∀w,Calls Tryz.prog 50 #[.string (E n)] w fun e w'=>e=.returned (.bool true)∧w=w'):=fun w=>rvalidE_c n w (lt64 h2)
 have HGD:Hid (∀w',Below w.heap.size w w'→Calls Tryz.prog 51 #[.agg #[v,.string T.seed,.int .i64 T.pos]] w' fun e w''=>e=.returned (.bool T.good)∧Below w'.heap.size w' w''):=fun w' hb=>rgood_v T v w' hok (SsAt.after hV hb)
 have HDR:Hid (T.good=true→n≠0→∀w',Below w.heap.size w w'→Calls Tryz.prog 109 #[.agg #[v,.string T.seed,.int .i64 T.pos],.string (E n)] w' (CPost w' T (coinD att T n))):=fun h h1 w' hb=>rdraw_v att T v n w' hat hok h (by omega) h2 (SsAt.after hV hb)
 have HC1:Hid (T.good=false→coin att T n=(3,0)):=fun h=>by unfold coin;rw [if_pos h]
 have HC2:Hid (T.good=true→n=0→coin att T n=(11,0)):=fun h h0=>by unfold coin;rw [if_neg (by rw [h];decide),if_pos h0]
 have HC3:Hid (T.good=true→n≠0→coin att T n=coinD att T n):=fun h h0=>by unfold coin;rw [if_neg (by rw [h];decide),if_neg h0]
 obtain ⟨ao,c,rfl⟩:=RAt.form hV;generalize coin att T n=rr at HC1 HC2 HC3 ⊢;generalize coinD att T n=rd at HDR HC3;generalize T.good=tg at HGD HDR HC1 HC2 HC3;generalize T.vals.length=m at HGD HDR ⊢;have hP:=blk2a w #[.slice ao m c,.string T.seed,.int .i64 T.pos] #[.slice none 0 0,.string ⟨#[]⟩,.int .i64 0] 47 47;have hR:=blk2b w #[.slice ao m c,.string T.seed,.int .i64 T.pos] #[.slice none 0 0,.string ⟨#[]⟩,.int .i64 0] 47 47;have hBW:=b2 w (.cells #[.slice ao m c,.string T.seed,.int .i64 T.pos] 47) (.cells #[.slice none 0 0,.string ⟨#[]⟩,.int .i64 0] 47);obtain ⟨gR,hgR⟩:∃g,w.heap.size+1=g:=⟨_,rfl⟩;have HGR:Hid (w.heap.size≤gR):=by rw [Hid];omega
 have HGE:=Lib.hid hgR;clear hat hok h2 hV hgR;obtain ⟨hPc0,hPf0,hPc1,hPf1,hPc2,hPf2⟩:=hP.x3;go_enter Tryz.func54,Tryz.ntmps54
 go_wp2_with fail
 refine (HGD.out _ hBW).mono ?_;rintro e w2 ⟨rfl,hb2⟩;clear hPc0 hPf0 hPc1 hPf1 hPc2 hPf2;replace hP:=hP.after hb2;replace hR:=hR.after hb2;replace hBW:=bt hBW hb2;clear hb2 HGD;rw [HGE.out] at hR ⊢;clear HGE;replace hP:Blk w2 w.heap.size 47 [.slice ao m c,.string T.seed,.int .i64 T.pos]:=hP;replace hR:Blk w2 gR 47 [.slice none 0 0,.string ⟨#[]⟩,.int .i64 0]:=hR;have HRW:=Lib.hid hR.lt;have hRl:=hR.lt;cases tg
 ·have HRR:=Lib.hid (HC1.out rfl);clear HC2 HC3 HDR hP;clear HC1;obtain ⟨hRc0,hRf0,hRc1,hRf1,hRc2,hRf2⟩:=hR.x3;go_wp2;refine bodyPost_ret (v:=.tuple #[.string ⟨#[]⟩,.agg #[.slice none 0 0,.string ⟨#[]⟩,.int .i64 0],.int .i64 3]) ?_ rfl ?_
  ·simp [results,Tryz.results54,go_sem,hRc0,hRc1,hRc2,hRl]
  ·rw [HRR.out];exact ⟨_,rfl,⟨_,rfl,ss_nil _⟩,TFar.zero _ _ _,((hBW.setCell HGR.out _).setCell HGR.out _).setCell HGR.out _⟩
 ·clear HC1;have HD2:=Lib.hid (HC2.out rfl);have HD3:=Lib.hid (HC3.out rfl);have HD4:=Lib.hid (HDR.out rfl);clear HC2 HC3 HDR;go_wp2_with fail
  refine (HVL.out _).mono ?_;rintro e w' ⟨rfl,rfl⟩;by_cases h0:n=0
  ·have HRR:=Lib.hid (HD2.out h0);have HC1:=HRR;clear HD2 HD3 HD4 hP;subst h0;have hz:=zE (n:=0) rfl;clear HC1;obtain ⟨hRc0,hRf0,hRc1,hRf1,hRc2,hRf2⟩:=hR.x3;go_wp2;refine bodyPost_ret (v:=.tuple #[.string ⟨#[]⟩,.agg #[.slice none 0 0,.string ⟨#[]⟩,.int .i64 0],.int .i64 11]) ?_ rfl ?_
   ·simp [results,Tryz.results54,go_sem,hRc0,hRc1,hRc2,hRl]
   ·rw [HRR.out];exact ⟨_,rfl,⟨_,rfl,ss_nil _⟩,TFar.zero _ _ _,((hBW.setCell HGR.out _).setCell HGR.out _).setCell HGR.out _⟩
  ·have HRR:=Lib.hid (HD3.out h0);have HD:=Lib.hid (HD4.out h0);have hz:=nzE (n:=n) (by omega);obtain rfl:rr=rd:=HRR.out;clear HD2 HD3 HD4 hRl h0;obtain ⟨hPc0,hPf0,hPc1,hPf1,hPc2,hPf2⟩:=hP.x3;go_wp2_with fail
   refine (HD.out _ hBW).mono ?_;rintro e w3 ⟨t,rfl,⟨u,rfl,hU⟩,hF,hb3⟩;clear hPc0 hPf0 hPc1 hPf1 hPc2 hPf2;have HF2:=Lib.hid (hF.far HRW.out);replace hF:=hF.mono hBW.size;replace hR:=hR.after hb3;replace hBW:=bt hBW hb3;clear hb3 hP HD HRR;generalize hT':T.after rr.1=T' at hU hF ⊢;obtain ⟨uo,uc,rfl⟩:=RAt.form hU;obtain ⟨ul,hul⟩:∃l,l=T'.vals.length:=⟨_,rfl⟩;have HUL:=Lib.hid hul;have HTT:=Lib.hid hT';rw [←hul] at hU hF HF2 ⊢;clear hul hT';obtain ⟨us,hus⟩:∃s,s=T'.seed:=⟨_,rfl⟩;obtain ⟨ut,hut⟩:∃s,s=T'.pos:=⟨_,rfl⟩;rw [←hus,←hut] at hF ⊢;have HE:=Lib.hid (And.intro hus hut);clear hus hut;have hRl:=hR.lt;obtain ⟨hRc0,hRf0,hRc1,hRf1,hRc2,hRf2⟩:=hR.x3;go_wp2;refine bodyPost_ret (v:=.tuple #[.string (E rr.2),.agg #[.slice uo ul uc,.string us,.int .i64 ut],.int .i64 (rr.1:Int)]) ?_ rfl ⟨_,rfl,?_,hF,((hBW.setCell HGR.out _).setCell HGR.out _).setCell HGR.out _⟩
   ·simp [results,Tryz.results54,go_sem,hRc0,hRc1,hRc2,hRl]
   ·rw [HTT.out,HE.out.1,HE.out.2];exact ⟨_,rfl,((hU.set_far HF2.out).set_far HF2.out).set_far HF2.out⟩
end
end Go.Proofs.YtfgandecbkbleaaGreatDoor
