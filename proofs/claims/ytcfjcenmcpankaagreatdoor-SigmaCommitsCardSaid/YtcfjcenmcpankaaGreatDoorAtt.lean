/- The attempts of the program: a function;the table that the row lists. -/
import Derived.Shelf.LaysM
import Derived.Shelf.Strconv.Itoa3
import Derived.Lib.LaidTab
import Derived.Test.YtcfjcenmcpankaaGreatDoorHv8
import Derived.RangeFuncNested
import Derived.RangeFuncBound
import Derived.RangeFuncCalls
import Derived.RangeFuncLeaves
import Derived.RangeFuncBox
import Derived.Test.YtcfjcenmcpankaaGreatDoorExp
import Derived.Test.YtcfjcenmcpankaaGreatDoorHp6
import Derived.Lib.AppendStr
import Derived.Test.YtcfjcenmcpankaaGreatDoorCo4
import Derived.Test.YtcfjcenmcpankaaGreatDoorSat1
import Derived.Test.YtcfjcenmcpankaaGreatDoorLd16
section
set_option linter.unusedVariables false
set_option maxRecDepth 100000
namespace Go.Proofs
open Go.Shelf
def Tryz.laysM171_ren:Go.Shelf.Ren:=⟨fun | 171=>237 | 243=>242 | 246=>247 | 283=>250 | 284=>251 | 285=>252 | 286=>253 | 129=>239 | 317=>257 | 318=>258 | 319=>259 | 320=>260 | 337=>262 | 338=>263 | n=>n,fun | 3=>3 | 9=>9 | 2=>2 | 4=>4 | 171=>269 | 0=>0 | 53=>69 | 37=>134 | 5=>5 | 173=>271 | 212=>278 | 51=>229 | 20=>20 | 213=>279 | 46=>224 | 232=>281 | 233=>260 | n=>n,fun | 17=>3 | 18=>4 | 19=>5 | n=>n⟩
theorem Tryz.laysM171:Go.Proofs.LaysM.n171 Tryz.prog Tryz.laysM171_ren:={
 mixed:=by kernel_rfl
 f129:=Tryz.func239.trans (congrArg some (by kernel_rfl))
 f171:=Tryz.func237.trans (congrArg some (by kernel_rfl))
 f243:=Tryz.func242.trans (congrArg some (by kernel_rfl))
 f246:=Tryz.func247.trans (congrArg some (by kernel_rfl))
 f283:=Tryz.func250.trans (congrArg some (by kernel_rfl))
 f284:=Tryz.func251.trans (congrArg some (by kernel_rfl))
 f285:=Tryz.func252.trans (congrArg some (by kernel_rfl))
 f286:=Tryz.func253.trans (congrArg some (by kernel_rfl))
 f317:=Tryz.func257.trans (congrArg some (by kernel_rfl))
 f318:=Tryz.func258.trans (congrArg some (by kernel_rfl))
 f319:=Tryz.func259.trans (congrArg some (by kernel_rfl))
 f320:=Tryz.func260.trans (congrArg some (by kernel_rfl))
 f337:=Tryz.func262.trans (congrArg some (by kernel_rfl))
 f338:=Tryz.func263.trans (congrArg some (by kernel_rfl))
 t0:=Tryz.underlying0
 a0:=Tryz.isAgg0
 z0:=Tryz.sizeOf0
 v0:=Tryz.zeroValue0
 t2:=Tryz.underlying2
 a2:=Tryz.isAgg2
 z2:=Tryz.sizeOf2
 v2:=Tryz.zeroValue2
 t3:=Tryz.underlying3
 a3:=Tryz.isAgg3
 z3:=Tryz.sizeOf3
 v3:=Tryz.zeroValue3
 t4:=Tryz.underlying4
 a4:=Tryz.isAgg4
 z4:=Tryz.sizeOf4
 v4:=Tryz.zeroValue4
 t5:=Tryz.underlying5
 a5:=Tryz.isAgg5
 z5:=Tryz.sizeOf5
 v5:=Tryz.zeroValue5
 t9:=Tryz.underlying9
 a9:=Tryz.isAgg9
 z9:=Tryz.sizeOf9
 v9:=Tryz.zeroValue9
 t20:=Tryz.underlying20
 a20:=Tryz.isAgg20
 z20:=Tryz.sizeOf20
 v20:=Tryz.zeroValue20
 t37:=Tryz.underlying134
 a37:=Tryz.isAgg134
 z37:=Tryz.sizeOf134
 v37:=Tryz.zeroValue134
 t46:=Tryz.underlying224
 a46:=Tryz.isAgg224
 z46:=Tryz.sizeOf224
 v46:=Tryz.zeroValue224
 t51:=Tryz.underlying229
 a51:=Tryz.isAgg229
 z51:=Tryz.sizeOf229
 v51:=Tryz.zeroValue229
 t53:=Tryz.underlying69
 a53:=Tryz.isAgg69
 z53:=Tryz.sizeOf69
 v53:=Tryz.zeroValue69
 t171:=Tryz.underlying269
 a171:=Tryz.isAgg269
 z171:=Tryz.sizeOf269
 v171:=Tryz.zeroValue269
 t173:=Tryz.underlying271
 a173:=Tryz.isAgg271
 z173:=Tryz.sizeOf271
 v173:=Tryz.zeroValue271
 t212:=Tryz.underlying278
 a212:=Tryz.isAgg278
 z212:=Tryz.sizeOf278
 v212:=Tryz.zeroValue278
 t213:=Tryz.underlying279
 a213:=Tryz.isAgg279
 z213:=Tryz.sizeOf279
 t232:=Tryz.underlying281
 a232:=Tryz.isAgg281
 z232:=Tryz.sizeOf281
 v232:=Tryz.zeroValue281
 t233:=Tryz.underlying260
 a233:=Tryz.isAgg260
 z233:=Tryz.sizeOf260
 v233:=Tryz.zeroValue260
 g17:=by kernel_rfl
 g18:=by kernel_rfl
 g19:=by kernel_rfl
 i0:=by kernel_rfl
 i2:=by kernel_rfl
 i3:=by kernel_rfl
 i4:=by kernel_rfl
 i5:=by kernel_rfl
 i9:=by kernel_rfl
 i20:=by kernel_rfl
 i37:=by kernel_rfl
 i46:=by kernel_rfl
 i51:=by kernel_rfl
 i53:=by kernel_rfl
 i171:=by kernel_rfl
 i173:=by kernel_rfl
 i212:=by kernel_rfl
 i232:=by kernel_rfl
 i233:=by kernel_rfl
 m17:=by kernel_rfl
 m18:=by kernel_rfl
 m19:=by kernel_rfl }
open Go.RowKit Go.Sort Go.Lib in
theorem Tryz.strconv_Itoa (n:Int) (h0:-9223372036854775808≤n) (h1:n≤9223372036854775807) (w:World) (htab:Lib.TabIs Tryz.prog w "internal/strconv.uint64pow10" .u64 Lib.pow10Tab) :
  Calls Tryz.prog 237 #[.int .i64 n] w fun e w'=>e=.returned (.string ⟨(Lib.itoa n).toArray⟩)∧∃k os,w'=grow (w.drewN k) os:=Any.strconv_Itoa Tryz.laysM171 n h0 h1 w htab
end Go.Proofs
namespace Go.Proofs.YtcfjcenmcpankaaGreatDoor
open Go.RowKit Go.Shelf

def TabW (w:World):Prop:=Lib.TabIs Tryz.prog w "internal/strconv.uint64pow10" .u64 Lib.pow10Tab
theorem TabW.after {w w':World} (h:TabW w) (hb:Below w.heap.size w w'):TabW w':=by
 have h1:w.var? Tryz.prog "internal/strconv.uint64pow10"=some _:=h;show w'.var? Tryz.prog "internal/strconv.uint64pow10"=some _;unfold World.var? at h1 ⊢;cases hg:Tryz.prog.globalNamed "internal/strconv.uint64pow10" with
 | none=>rw [hg] at h1;cases h1
 | some g =>
  rw [hg] at h1;simp only [Option.bind_some] at h1 ⊢;cases hx:w.heap[g]? with
  | none=>rw [hx] at h1;cases h1
  | some o =>
   rw [hb.block g (Array.getElem?_eq_some_iff.1 hx).1];exact h1
theorem grow_below (w:World) (k:Nat) (os:Array Obj):Below w.heap.size w (Go.Sort.grow (w.drewN k) os):=
 ⟨rfl,rfl,rfl,by show w.heap.size≤(w.heap++os).size;rw [Array.size_append];omega,fun j hj=>by show (w.heap++os)[j]?=_;rw [Array.getElem?_append_left hj]⟩
theorem itoa_v (n:Nat) (w:World) (hn:n≤2147483647) (ht:TabW w) :
  Calls Tryz.prog 237 #[.int .i64 (n:Int)] w fun e w'=>e=.returned (.string (decV n))∧Below w.heap.size w w':=by
 refine (Tryz.strconv_Itoa (n:Int) (by omega) (by omega) w ht).mono ?_;rintro e w' ⟨rfl,k,os,rfl⟩;refine ⟨?_,grow_below _ _ _⟩;rw [Lib.itoa_nonneg];rfl
end Go.Proofs.YtcfjcenmcpankaaGreatDoor
end

section
set_option linter.unusedVariables false
set_option linter.unusedSimpArgs false
set_option maxRecDepth 100000
namespace Go.Proofs.YtcfjcenmcpankaaGreatDoor
open Go.RowKit Go.Shelf

def untilPost {T:Type} (isOut:Code→Prop) (I Ix:Nat→World→Prop) (k:Nat) (W:World):Exit→T→World→Prop
 | .normal,_,W'=>KeepsOthers W W'∧I (k+1) W'
 | .exit j,_,W'=>isOut (.exit j)∧KeepsOthers W W'∧Ix (k+1) W'
 | _,_,_=>False

theorem wpIn_range_until {F:Fence} {n:Nat} {P:Program} {g:Operand} {ps:Array Tmp} {assign body out:Code} {Q:Exit→Act→World→Prop} {a:Act} {w:World}
  (hro:F.round=none) (h1:1≤n) {gf:Nat} {lb:Array Value} (hg:a.eval g=.func (.func gf) #[] lb) (hFg:F.fn gf) (eg:∀args w,(callFunc gf args).run P w=.ok (.enter gf args) w)
  {enc:Nat→Array Value} (hps:∀k,(enc k).size=ps.size) (I Ix:Nat→World→Prop) (hI:OwnFrom w.heap.size I) (hIx:OwnFrom w.heap.size Ix)
  (hIb:∀k A B,I k A→Below A.heap.size A B→I k B) (h0:I 0 w)
  (hit:∀(l:Nat) (J Jx:Nat→World→Prop) (W:World),(∀k A,J k A→I k A)→(∀k A B,J k A→Below A.heap.size A B→J k B) →
   (∀k A,J k A→YieldAt F (n-1-1) P l (enc k) A fun e A'=>(e=.returned (.bool true)∧J (k+1) A')∨(e=.returned (.bool false)∧Jx (k+1) A'))→J 0 W →
   CallsIn F (n-1) P gf (#[.func (.yield l) #[] #[]]++lb) W fun e W'=>(∃v,e=.returned v)∧∃k,Jx k W')
  (a₁:Nat→Act)
  (hassign:∀(l k:Nat) (W:World) (K:Act→World→Prop),K (a₁ k) W →
   assign.wpIn (F.inRound l) (n-1-1) P (Exit.then K (fun _ _ _=>False)) { tmps:=(ps.zip (enc k)).foldl (fun t (p,v)=>t.setIfInBounds p v) a.tmps,defers:=[] } W)
  (hbody:∀(l k:Nat) (W:World),I k W→body.wpIn (F.inRound l) (n-1-1) P (untilPost (·=out) I Ix k W) (a₁ k) W)
  (hstop:∀(D k:Nat) (W:World),w.heap.size≤D→Ix k W→W.heap[D]?=some (.deferred (some []))→out.wpIn F n P Q { a with defers:={ target:=.collected D,args:=#[] } :: a.defers } W) :
  (Code.rangeFunc g ps assign body).wpIn F n P Q a w:=by
 refine wpIn_rangeFunc fun fn hfn=>?_
 rw [hro];-- the record of the loop,by its state and pending jump;the world that holds it,ready
 let R:LoopState→Option Code→Loop:=fun st pe=>{ state:=st,pending:=pe,fn,tmps:=a.tmps,params:=ps,assign,body,defers:=w.heap.size }
 have eL:(w.alloc (.deferred (some []))).heap.size=w.heap.size+1:=by simp
 have hRec:((w.alloc (.deferred (some []))).alloc (.loop (R .ready none))).heap[w.heap.size+1]?=some (.loop (R .ready none)):=by
  have h:=World.alloc_heap_new (w.alloc (.deferred (some []))) (.loop (R .ready none));rwa [eL] at h
 have hDef:((w.alloc (.deferred (some []))).alloc (.loop (R .ready none))).heap[w.heap.size]?=some (.deferred (some [])):=
  (Below.heap_alloc _ _ _ (by omega)).trans (World.alloc_heap_new w _)
 refine ⟨w.heap.size+1,[{ target:=.collected w.heap.size,args:=#[] }],((w.alloc (.deferred (some []))).alloc (.loop (R .ready none))),{ target:=.fn (.func gf) lb,args:=#[.func (.yield (w.heap.size+1)) #[] #[]] },((w.alloc (.deferred (some []))).alloc (.loop (R .ready none))),gf,
  #[.func (.yield (w.heap.size+1)) #[] #[]]++lb,((w.alloc (.deferred (some []))).alloc (.loop (R .ready none))),run_enterLoop_outer _ _ _ _ _,?_,?_,?_,fun _=>h1,?_⟩
 ·simp only [resolve,hg];simp [go_sem]
 ·intro f' hf';simp [Target.leads] at hf';subst hf';exact hFg
 ·simp [invoke,go_sem,eg]
 refine (hit (w.heap.size+1)
  (fun k W=>I k W∧W.heap[w.heap.size+1]?=some (.loop (R .ready none))∧W.heap[w.heap.size]?=some (.deferred (some [])))
  (fun k W=>Ix k W∧W.heap[w.heap.size+1]?=some (.loop (R .done (some out)))∧W.heap[w.heap.size]?=some (.deferred (some [])))
  _ (fun _ _ h=>h.1) (fun k A B h hb=>⟨hIb k A B h.1 hb,(hb.block _ (Array.getElem?_eq_some_iff.1 h.2.1).1).trans h.2.1,(hb.block _ (Array.getElem?_eq_some_iff.1 h.2.2).1).trans h.2.2⟩) ?_
  ⟨hI.alloc _ (hI.alloc _ h0),hRec,hDef⟩).mono ?_
 ·-- one round
  rintro k W ⟨hi,hl,hk⟩;have hlt:w.heap.size+1<W.heap.size:=(Array.getElem?_eq_some_iff.1 hl).1;refine ⟨fn,_,assign,body,run_yield hl (hps k),roundIn_of_wpIn hfn (hassign _ k W _ ⟨_,run_beginRound hl rfl,?_⟩)⟩;have hl2:(W.putObj (w.heap.size+1) (.loop (R .busy none))).heap[w.heap.size+1]?=some (.loop (R .busy none)):=World.putObj_heap_same hlt;have hk2:(W.putObj (w.heap.size+1) (.loop (R .busy none))).heap[w.heap.size]?=some (.deferred (some [])):=(World.putObj_heap_other (by omega)).trans hk;refine wpIn_mono (hbody _ k _ (hI.putObj _ hi (by omega) hl rfl)) ?_;-- the record behind the round
  have fin:∀(jump:Option Code) (W3:World),KeepsOthers (W.putObj (w.heap.size+1) (.loop (R .busy none))) W3 →
    W3.heap[w.heap.size+1]?=some (.loop (R .busy none)) ∧
    (W3.putObj (w.heap.size+1) (.loop (R (if jump.isNone then .ready else .done) jump))).heap[w.heap.size+1]?=some (.loop (R (if jump.isNone then .ready else .done) jump)) ∧
    (W3.putObj (w.heap.size+1) (.loop (R (if jump.isNone then .ready else .done) jump))).heap[w.heap.size]?=some (.deferred (some [])):=fun jump W3 hk3=>by
   have hl3:=hk3.same _ _ hl2 rfl;exact ⟨hl3,World.putObj_heap_same (Array.getElem?_eq_some_iff.1 hl3).1,(World.putObj_heap_other (by omega)).trans (hk3.same _ _ hk2 rfl)⟩
  rintro e a3 W3 hp;cases e with
  | normal =>
   obtain ⟨hk3,hi3⟩:=hp;obtain ⟨hl3,hl4,hk4⟩:=fin none W3 hk3;exact ⟨_,_,run_endRound none hl3,.inl ⟨rfl,hI.putObj _ hi3 (by omega) hl3 rfl,hl4,hk4⟩⟩
  | exit j =>
   obtain ⟨hj,hk3,hi3⟩:=hp;obtain ⟨hl3,hl4,hk4⟩:=fin (some (.exit j)) W3 hk3;replace hj:Code.exit j=out:=hj;refine ⟨_,_,run_endRound (some (.exit j)) hl3,.inr ⟨rfl,hIx.putObj _ hi3 (by omega) hl3 rfl,?_,hk4⟩⟩;rw [←hj];exact hl4
  | ret=>exact hp.elim
  | goto t=>exact hp.elim
  | panic ch=>exact hp.elim
  | outgrown=>exact hp.elim
 ·-- behind the iterator
  rintro e W2 ⟨⟨v,rfl⟩,k,hi,hl,hk⟩;exact ⟨some out,_,run_endLoop hl (by simp [R]),hstop _ k _ (Nat.le_refl _) (hIx.putObj _ hi (by omega) hl rfl) ((World.putObj_heap_other (by omega)).trans hk)⟩
end Go.Proofs.YtcfjcenmcpankaaGreatDoor
end

section
set_option linter.unusedVariables false
set_option linter.unusedSimpArgs false
set_option maxRecDepth 100000
namespace Go.Proofs.YtcfjcenmcpankaaGreatDoor
open Go.RowKit Go.Shelf

theorem itoaV_v (n:Nat) (v:Value) (d:ByteArray) (w:World) (hv:v=.int .i64 (n:Int)) (hd:d=decV n) (hn:n≤2147483647) (ht:TabW w) :
  Calls Tryz.prog 237 #[v] w fun e w'=>e=.returned (.string d)∧Below w.heap.size w w':=by
 subst hv hd;exact itoa_v n w hn ht

theorem pblocks_c (ao:Option Addr) (m c:Nat) (seed:ByteArray) (p a:Nat) (w:World) :
  Calls Tryz.prog 228 #[.agg #[.slice ao m c,.string seed,.int .i64 (p:Int)],.int .i64 (a:Int)] w fun e w'=>e=.returned (.func (.func 236) #[] #[.pointer (some ⟨w.heap.size,0,none⟩),.pointer (some ⟨w.heap.size+1,0,none⟩)]) ∧
   w'=(w.alloc (.cells #[.slice ao m c,.string seed,.int .i64 (p:Int)] 41)).alloc (.cells #[.int .i64 (a:Int)] 3):=by
 go_enter Tryz.func228,Tryz.ntmps228
 go_wp2;go_ret
 exact ⟨by simp,rfl⟩

def ItW (gt ga:Nat) (seed:ByteArray) (p a:Nat) (W:World):Prop:=
 W.cell? ⟨gt,1,none⟩=some (.string seed)∧W.cell? ⟨gt,2,none⟩=some (.int .i64 (p:Int))∧W.cell? ⟨ga,0,none⟩=some (.int .i64 (a:Int))∧gt<W.heap.size∧ga<W.heap.size∧TabW W

set_option maxHeartbeats 3200000 in
theorem blocks1_in (n l gt ga:Nat) (seed:ByteArray) (p a N:Nat) (hk:seed.size≤1000) (hp:p≤2147483647) (ha:a<256) (hN:N≤1000) (J Jx:Nat→World→Prop)
  (hJI:∀k A,J k A→k<N∧ItW gt ga seed p a A) (hJb:∀k A B,J k A→Below A.heap.size A B→J k B)
  (hY:∀k A,J k A→YieldAt Fence.wide (n-1) Tryz.prog l #[.string (macV seed (nmV p a k))] A fun e A'=>(e=.returned (.bool true)∧J (k+1) A')∨(e=.returned (.bool false)∧Jx (k+1) A'))
  (W:World) (h0:J 0 W) :
  CallsIn Fence.wide n Tryz.prog 236 #[.func (.yield l) #[] #[],.pointer (some ⟨gt,0,none⟩),.pointer (some ⟨ga,0,none⟩)] W fun e W'=>(∃v,e=.returned v)∧∃k,Jx k W':=by
 have HY:=Lib.hid hY;have HJI:=Lib.hid hJI;have HJB:=Lib.hid hJb;have HDS:Hid (∀n,n≤2147483647→(decV n).size≤10):=fun n h=>dec_size n 9 (by omega)
 have HM:Hid (∀(s:ByteArray) (w:World),s.size≤900→Calls Tryz.prog 238 #[.string seed,.string s] w fun e w'=>e=.returned (.string (macV seed s))∧Below w.heap.size w w'):=fun s w h=>pmac_v seed s w hk h
 clear hY hJI hJb;refine callsIn_of_wp Tryz.func236 rfl trivial ?_ rfl;simp only [Tryz.ntmps236,List.size_toArray,List.length_cons,List.length_nil,Nat.reduceAdd,Nat.reduceSub,Array.replicate_succ,Array.replicate_zero,List.push_toArray,List.append_toArray,List.nil_append,List.cons_append];gi_wp2
 gi_loopw [4] (fun i wr=>∃k:Nat,i=.int .i64 (k:Int)∧J k wr) (fun i _=>N-(intOf i).toNat)
 case atStart=>exact ⟨0,rfl,h0⟩
 case round =>
  obtain ⟨k,rfl,hJ⟩:=hrel;obtain ⟨wp,hwp⟩:∃wp,wp=wr:=⟨_,rfl⟩;subst hwp;obtain ⟨hkN,c1,c2,ca,l1,l2,ht⟩:=HJI.out k wp hJ;have g1:=gclH (a:=⟨gt,1,none⟩) l1 c1;have g2:=gclH (a:=⟨gt,2,none⟩) l1 c2;have g3:=gclH (a:=⟨ga,0,none⟩) l2 ca;have HT:Hid (∀W,Below wp.heap.size wp W→TabW W):=fun W h=>ht.after h
  have hd1:=HDS.out p hp;have hd2:=HDS.out a (by omega);have hd3:=HDS.out k (by omega);obtain ⟨d1,hdd1⟩:∃d,d=decV p:=⟨_,rfl⟩;obtain ⟨d2,hdd2⟩:∃d,d=decV a:=⟨_,rfl⟩;obtain ⟨d3,hdd3⟩:∃d,d=decV k:=⟨_,rfl⟩;have HI1:Hid (∀(v:Value) (W:World),v=.int .i64 (p:Int)→Below wp.heap.size wp W→Calls Tryz.prog 237 #[v] W fun e w'=>e=.returned (.string d1)∧Below W.heap.size W w'):=fun v W hv hb=>itoaV_v p v d1 W hv hdd1 hp (HT.out W hb)
  have HI2:Hid (∀(v:Value) (W:World),v=.int .i64 (a:Int)→Below wp.heap.size wp W→Calls Tryz.prog 237 #[v] W fun e w'=>e=.returned (.string d2)∧Below W.heap.size W w'):=fun v W hv hb=>itoaV_v a v d2 W hv hdd2 (by omega) (HT.out W hb)
  have HI3:Hid (∀(v:Value) (W:World),v=.int .i64 (k:Int)→Below wp.heap.size wp W→Calls Tryz.prog 237 #[v] W fun e w'=>e=.returned (.string d3)∧Below W.heap.size W w'):=fun v W hv hb=>itoaV_v k v d3 W hv hdd3 (by omega) (HT.out W hb)
  have HNM:Hid (nmV p a k=d1++(⟨#[46]⟩:ByteArray)++d2++(⟨#[46]⟩:ByteArray)++d3):=by rw [Hid,hdd1,hdd2,hdd3];rfl
  rw [←hdd1] at hd1;rw [←hdd2] at hd2;rw [←hdd3] at hd3;have HJ:=Lib.hid hJ;clear hdd1 hdd2 hdd3 hJ c1 c2 ca ht;have q1:¬ 9223372036854775807<d1.size+1:=by omega
  have q2:¬ 9223372036854775807<d1.size+1+d2.size:=by omega
  have q3:¬ 9223372036854775807<d1.size+1+d2.size+1:=by omega
  have q4:¬ 9223372036854775807<d1.size+1+d2.size+1+d3.size:=by omega
  have HSZ:Hid ((d1++(⟨#[46]⟩:ByteArray)++d2++(⟨#[46]⟩:ByteArray)++d3).size≤900):=by
   rw [Hid,ByteArray.size_append,ByteArray.size_append,ByteArray.size_append,ByteArray.size_append];show d1.size+1+d2.size+1+d3.size≤900;omega
  clear hd1 hd2 hd3;gi_wp2_with fail
  refine wpIn_wide.2 ?_;go_wp2_with fail
  refine wp_region_gw (by kernel_rfl) (by kernel_rfl) ?_;repeat (go_big_quiet_step (first | (go_at_call 237;exact gw_of (HI1.out _ _ rfl (gw_below _))) | (go_at_call 237;exact gw_of (HI2.out _ _ rfl (gw_below _))) | (go_at_call 237;exact gw_of (HI3.out _ _ rfl (gw_below _)))))
  refine wpQuiet_nil ?_;rintro w9 ⟨xw9,rfl⟩;have hb9:=gw_below xw9;generalize gw xw9=w9 at hb9;clear g1 g2 g3;have c1:w9.cell? ⟨gt,1,none⟩=some (.string seed):=(hb9.cell (p:=⟨gt,1,none⟩) l1).trans (HJI.out k wp HJ.out).2.1;have HJ9:=Lib.hid (HJB.out k wp w9 HJ.out hb9);clear HJ HI1 HI2 HI3 HT hb9;rw [←HNM.out] at HSZ ⊢;clear HNM q1 q2 q3 q4;have HMk:=Lib.hid (fun w=>HM.out (nmV p a k) w HSZ.out);have HYk:=Lib.hid (HY.out k);generalize macV seed (nmV p a k)=mv at HMk HYk;generalize nmV p a k=nm at HMk ⊢;clear HM;gi_wp2_with fail
  refine ⟨trivial,wide_depth,?_⟩;refine (callsIn_wide.2 (HMk.out _)).mono ?_;rintro e w4 ⟨rfl,hb4⟩;have HJ4:=Lib.hid (HJB.out k w9 w4 HJ9.out hb4);obtain ⟨fn,tmps,assign,body,hy,hR⟩:=HYk.out w4 HJ4.out;gi_wp2
  refine ⟨wide_depth,hR.mono ?_⟩;rintro r W3 (⟨rfl,hJ3⟩ | ⟨rfl,hJx3⟩)
  ·gi_wp2
   go_roundw
   case rel=>exact ⟨k+1,by go_num,hJ3⟩
   case measure=>simp [intOf] <;> omega
  ·gi_wp2
   refine bodyPost_ret (results_none rfl _ _ _) rfl ?_;exact ⟨⟨_,rfl⟩,_,hJx3⟩
end Go.Proofs.YtcfjcenmcpankaaGreatDoor
end

section
set_option linter.unusedVariables false
set_option linter.unusedSimpArgs false
set_option maxRecDepth 100000
namespace Go.Proofs.YtcfjcenmcpankaaGreatDoor
open Go.RowKit Go.Shelf
attribute [local go_sem] Oper.semAt_some

theorem wpListIn_append_str {F:Fence} {n':Nat} {P:Program} {ops:Array Oper} {rest:List Oper} {o:Oper} {a:Act} {Q:Exit→Act→World→Prop} {w:World} (hgd:o.guard=none) (sl x:Operand) (t u:TypeId)
  (ho:o.op=.call { callee:=.builtin .append,args:=#[sl,x],argTypes:=#[t,u] }) (v:Value) (s:ByteArray) (hs:a.eval sl=v) (hx:a.eval x=.string s) (v':Value) (w':World)
  (hr:(Builtin.append_ #[t,u] o.type #[v,.string s]).run P w=.ok v' w') (h:wpListIn F n' P ops Q rest (a.put o.dst v') w'):wpListIn F n' P ops Q (o :: rest) a w:=by
 refine wpListIn_plain hgd fun K hK=>?_
 unfold Oper.wpIn;refine ⟨?_,?_⟩
 ·simp [Oper.about,ho,resolve,Target.leads,Sem.run_pure]
 ·rw [Oper.semAt_plain F _ _ (by rw [ho];intro c hc';cases hc')];simp only [execOp,ho,resolve,invoke,builtin,Sem.run_bind,Sem.run_pure,Result.andThen_ok,List.map_toArray,List.map_cons,List.map_nil,hs,hx,hr];exact hK _ _ h
theorem row_strN {w:World} {b o c:Nat} {l:List UInt8} (h:Row w b o l) :
  (convert 134 22 (.slice (some ⟨b,o,none⟩) l.length c)).run Tryz.prog w=.ok (.string ⟨l.toArray⟩) w:=by
 have:=Lib.run_convert_whole (P:=Tryz.prog) w 134 5 22 Tryz.underlying134 Tryz.underlying5 Tryz.underlying22 b o ⟨l.toArray⟩ h.bytes c;simpa [ByteArray.size] using this
theorem strCells_u8s (s:ByteArray):Lib.strCells s=u8s s.data.toList:=rfl

def AtR (w:World) (gz gt ga:Nat) (seed:ByteArray) (ao:Option Addr) (m c p a z:Nat) (W:World):Prop:=
 Blk W gz 3 [.int .i64 (z:Int)]∧Blk W gt 41 [.slice ao m c,.string seed,.int .i64 (p:Int)]∧Blk W ga 3 [.int .i64 (a:Int)]∧Below w.heap.size w W
theorem AtR.own (w:World) (gz gt ga:Nat) (seed:ByteArray) (ao:Option Addr) (m c p a z B:Nat) (hB:w.heap.size≤B):OwnFrom B (fun (_:Nat)=>AtR w gz gt ga seed ao m c p a z):=
 fun s X Y row hs hg hr=>⟨hs.1.own hg (fun r h=>(hr r h).2),hs.2.1.own hg (fun r h=>(hr r h).2),hs.2.2.1.own hg (fun r h=>(hr r h).2),hs.2.2.2.grown hg hs.2.2.2.size (fun k h=>Nat.le_trans hB (hr k h).1)⟩
theorem AtR.after {w:World} {gz gt ga:Nat} {seed:ByteArray} {ao:Option Addr} {m c p a z:Nat} {A B:World} (h:AtR w gz gt ga seed ao m c p a z A) (hb:Below A.heap.size A B):AtR w gz gt ga seed ao m c p a z B:=
 ⟨h.1.after hb,h.2.1.after hb,h.2.2.1.after hb,bt h.2.2.2 hb⟩
def AtO (n₀ gb:Nat) (bl:Nat→ByteArray) (k:Nat) (W:World):Prop:=
 ∃v,Boxed W gb 134 v∧W.ownsRow n₀ 5 1 v (32*k) (u8s (bl k).data.toList)∧True
theorem AtO.own (n₀ gb:Nat) (bl:Nat→ByteArray) (B:Nat):OwnFrom B (AtO n₀ gb bl):=
 Own.from (holdsRow_own n₀ gb 134 5 1 (fun k=>32*k) (fun k=>u8s (bl k).data.toList) (fun _ _=>True)) _
theorem AtO.after {n₀ gb:Nat} {bl:Nat→ByteArray} {k:Nat} {A B:World} (h:AtO n₀ gb bl k A) (hb:Below A.heap.size A B):AtO n₀ gb bl k B:=by
 obtain ⟨v,h1,h2,h3⟩:=h;exact ⟨v,(hb.block _ h1.lt).trans h1,own_after h2 hb,h3⟩
theorem ownFrom_pure' {B:Nat} (P:Nat→Prop):OwnFrom B (fun k (_:World)=>P k):=fun _ _ _ _ hs _ _=>hs
theorem and_mask (b r:Nat) (hb:b<256) (hr:r≤7):bits .and .u8 (b:Int) ((255:Int) / 2^r)=((b%2^(8-r):Nat):Int):=by
 have h255:(255:Int) / 2^r=((2^(8-r)-1:Nat):Int):=by
  rcases (by omega:r=0∨r=1∨r=2∨r=3∨r=4∨r=5∨r=6∨r=7) with h | h | h | h | h | h | h | h <;> subst h <;> rfl
 have hlt:2^(8-r)-1<256:=by
  have:2^(8-r)≤2^8:=Nat.pow_le_pow_right (by decide) (by omega);omega
 rw [h255,u8_and_nat _ _ hb hlt,Nat.and_two_pow_sub_one_eq_mod]


set_option maxHeartbeats 3200000 in
theorem attempt_v (seed:ByteArray) (p a n:Nat) (ao:Option Addr) (m c:Nat) (w:World) (hk:seed.size≤1000) (h1:p≤2147483647) (h2:a<256) (h3:1≤n) (h4:n≤512) (ht:TabW w) :
  Calls Tryz.prog 208 #[.agg #[.slice ao m c,.string seed,.int .i64 (p:Int)],.int .i64 (a:Int),.int .i64 (n:Int)] w fun e w'=>e=.returned (.string (attT seed p a n))∧Below w.heap.size w w':=by
 obtain ⟨i0,hi0,hz00,hz01,hz02⟩:=info_parts info_u8;have HI0:=Lib.hid hi0;have HA0:=Lib.hid hz00;have HB0:=Lib.hid hz01;have HC0:=Lib.hid hz02;clear hi0 hz00 hz01 hz02;obtain ⟨z,hz⟩:∃z,z=(n+7) / 8:=⟨_,rfl⟩;have hz1:1≤z:=by omega
 have hz2:z≤64:=by omega
 have hz3:n≤8*z:=by omega
 have hz4:8*z<n+8:=by omega
 have e1:((n:Int)+7) / 8=(z:Int):=by omega
 have e2:((n:Int)+7).tdiv 8=(z:Int):=by rw [Int.tdiv_eq_ediv_of_nonneg (by omega)];exact e1
 have HAT:Hid (attT seed p a n=canonV ((⟨#[UInt8.ofNat (byt (blV seed p a ((z+31) / 32)) 0%2^(8-(8*z-n)))]⟩:ByteArray)++(blV seed p a ((z+31) / 32)).extract 1 z)):=by rw [Hid,hz];rfl
 have HT:=Lib.hid ht;clear hz ht;refine (callsIn_wide (n:=3)).1 ?_;refine callsIn_of_wp_marks Tryz.func208 rfl trivial ?_ rfl;simp only [Tryz.ntmps208,List.size_toArray,List.length_cons,List.length_nil,Nat.reduceAdd,Nat.reduceSub,Array.replicate_succ,Array.replicate_zero,List.push_toArray,List.append_toArray,List.nil_append,List.cons_append];gi_wp2_with fail
 refine ⟨trivial,?_⟩;refine (callsIn_wide.2 (pblocks_c ao m c seed p a _)).mono ?_;rintro e w' ⟨rfl,rfl⟩;gi_wp2_with fail
 obtain ⟨W0,hW0⟩:∃W,W=(((((w.alloc (.cells #[.slice ao m c,.string seed,.int .i64 (p:Int)] 41)).alloc (.cells #[.int .i64 (z:Int)] 3)).alloc (.cells #[.slice none 0 0] 134)).alloc (.cells #[.slice ao m c,.string seed,.int .i64 (p:Int)] 41)).alloc (.cells #[.int .i64 (a:Int)] 3)):=⟨_,rfl⟩;obtain ⟨ga,hga⟩:∃g,g=w.heap.size+1+1+1+1:=⟨_,rfl⟩;obtain ⟨gt,hgt⟩:∃g,g=w.heap.size+1+1+1:=⟨_,rfl⟩;obtain ⟨gb,hgb⟩:∃g,g=w.heap.size+1+1:=⟨_,rfl⟩;obtain ⟨gz,hgz⟩:∃g,g=w.heap.size+1:=⟨_,rfl⟩;have hsz:W0.heap.size=w.heap.size+1+1+1+1+1:=by rw [hW0];simp
 have bZ:Blk W0 gz 3 [.int .i64 (z:Int)]:=by
  have h:=(((Blk.new (w.alloc (.cells #[.slice ao m c,.string seed,.int .i64 (p:Int)] 41)) #[.int .i64 (z:Int)] 3).alloc (.cells #[.slice none 0 0] 134)).alloc (.cells #[.slice ao m c,.string seed,.int .i64 (p:Int)] 41)).alloc (.cells #[.int .i64 (a:Int)] 3);rw [World.size_alloc] at h;rw [hW0,hgz];exact h
 have bO:Boxed W0 gb 134 (.slice none 0 0):=by
  have h:=((Boxed.new ((w.alloc (.cells #[.slice ao m c,.string seed,.int .i64 (p:Int)] 41)).alloc (.cells #[.int .i64 (z:Int)] 3)) 134 (.slice none 0 0)).alloc (.cells #[.slice ao m c,.string seed,.int .i64 (p:Int)] 41)).alloc (.cells #[.int .i64 (a:Int)] 3);simp only [World.size_alloc] at h;rw [hW0,hgb];exact h
 have bT:Blk W0 gt 41 [.slice ao m c,.string seed,.int .i64 (p:Int)]:=by
  have h:=(Blk.new (((w.alloc (.cells #[.slice ao m c,.string seed,.int .i64 (p:Int)] 41)).alloc (.cells #[.int .i64 (z:Int)] 3)).alloc (.cells #[.slice none 0 0] 134)) #[.slice ao m c,.string seed,.int .i64 (p:Int)] 41).alloc (.cells #[.int .i64 (a:Int)] 3);simp only [World.size_alloc] at h;rw [hW0,hgt];exact h
 have bA:Blk W0 ga 3 [.int .i64 (a:Int)]:=by
  have h:=Blk.new ((((w.alloc (.cells #[.slice ao m c,.string seed,.int .i64 (p:Int)] 41)).alloc (.cells #[.int .i64 (z:Int)] 3)).alloc (.cells #[.slice none 0 0] 134)).alloc (.cells #[.slice ao m c,.string seed,.int .i64 (p:Int)] 41)) #[.int .i64 (a:Int)] 3;simp only [World.size_alloc] at h;rw [hW0,hga];exact h
 have hBW:Below w.heap.size w W0:=by rw [hW0];exact ba (ba (ba (ba (b1 w _) _) _) _) _
 rw [←hW0];clear hW0;have HG:Hid (w.heap.size≤gb∧gz≠gb∧gt≠gb∧ga≠gb∧w.heap.size≤W0.heap.size):=⟨by omega,by omega,by omega,by omega,by omega⟩;rw [←hga,←hgt,←hgb,←hgz];clear hga hgt hgb hgz hsz;have HBL:Hid (∀k,blV seed p a (k+1)=blV seed p a k++macV seed (nmV p a k)):=fun k=>rfl
 have HBS:Hid (∀k,(blV seed p a k).size=32*k):=blV_size seed p a;have HMS:Hid (∀k,(macV seed (nmV p a k)).size=32):=fun k=>macV_size _ _
 have HIT:Hid (∀(n l:Nat) (J Jx:Nat→World→Prop) (hJI:∀k A,J k A→k<2∧ItW gt ga seed p a A) (hJb:∀k A B,J k A→Below A.heap.size A B→J k B)
  (hY:∀k A,J k A→YieldAt Fence.wide (n-1) Tryz.prog l #[.string (macV seed (nmV p a k))] A fun e A'=>(e=.returned (.bool true)∧J (k+1) A')∨(e=.returned (.bool false)∧Jx (k+1) A'))
  (W:World) (h0:J 0 W),CallsIn Fence.wide n Tryz.prog 236 #[.func (.yield l) #[] #[],.pointer (some ⟨gt,0,none⟩),.pointer (some ⟨ga,0,none⟩)] W fun e W'=>(∃v,e=.returned v)∧∃k,Jx k W'):=fun n l J Jx q1 q2 q3 W q4=>blocks1_in n l gt ga seed p a 2 hk h1 h2 (by decide) J Jx q1 q2 q3 W q4
 have hB0:blV seed p a 0=⟨#[]⟩:=rfl;obtain ⟨bl,hbl⟩:∃f:Nat→ByteArray,f=blV seed p a:=⟨_,rfl⟩;obtain ⟨mv,hmv⟩:∃f:Nat→ByteArray,f=fun k=>macV seed (nmV p a k):=⟨_,rfl⟩
 have hmk:∀k,macV seed (nmV p a k)=mv k:=fun k=>by rw [hmv]
 simp only [←hbl,hmk] at HBL HBS HMS HIT hB0 HAT;clear hbl hmv hmk
 refine wpIn_range_until (n:=3) (out:=.exit 0) rfl (by omega) (gf:=236) (lb:=#[.pointer (some ⟨gt,0,none⟩),.pointer (some ⟨ga,0,none⟩)]) rfl trivial (enters_of Tryz.func236 (by kernel_rfl) rfl)
  (enc:=fun k=>#[.string (mv k)]) (fun _=>rfl)
  (fun k W=>(k<2∧(k=0∨32*k<z))∧(AtO w.heap.size gb bl k W∧AtR w gz gt ga seed ao m c p a z W))
  (fun k W=>(k≤2∧z≤32*k∧32*k<z+32)∧(AtO w.heap.size gb bl k W∧AtR w gz gt ga seed ao m c p a z W))
  (OwnFrom.and (ownFrom_pure' _) (OwnFrom.and (AtO.own _ _ _ _) (AtR.own _ _ _ _ _ _ _ _ _ _ _ _ HG.out.2.2.2.2)))
  (OwnFrom.and (ownFrom_pure' _) (OwnFrom.and (AtO.own _ _ _ _) (AtR.own _ _ _ _ _ _ _ _ _ _ _ _ HG.out.2.2.2.2)))
  (fun k A B h hb=>⟨h.1,h.2.1.after hb,h.2.2.after hb⟩)
  ⟨⟨by omega,.inl rfl⟩,⟨_,bO,by rw [hB0];exact World.ownsRow_nil _ _ _ _,trivial⟩,bZ,bT,bA,hBW⟩
  (fun l J Jx W hJI hJb hY h0=>HIT.out _ l J Jx (fun k A hJ=>⟨(hJI k A hJ).1.1,(hJI k A hJ).2.2.2.1.cell 1,(hJI k A hJ).2.2.2.1.cell 2,(hJI k A hJ).2.2.2.2.1.cell 0,(hJI k A hJ).2.2.2.1.lt,(hJI k A hJ).2.2.2.2.1.lt,HT.out.after (hJI k A hJ).2.2.2.2.2⟩) hJb hY W h0)
  (fun k=>{ tmps:=#[.agg #[.slice ao m c,.string seed,.int .i64 (p:Int)],.int .i64 (a:Int),.int .i64 (n:Int),.pointer (some ⟨w.heap.size,0,none⟩),undef,undef,.string { data:=#[] },.pointer (some ⟨gz,0,none⟩),.pointer (some ⟨gb,0,none⟩),.string (mv k),.int .i64 (n:Int),.int .i64 ((n:Int)+7),.int .i64 (z:Int),.agg #[.slice ao m c,.string seed,.int .i64 (p:Int)],.int .i64 (a:Int),.func (.func 236) #[] #[.pointer (some ⟨gt,0,none⟩),.pointer (some ⟨ga,0,none⟩)],.string (mv k),undef,undef,undef,undef,undef,undef,undef,undef,undef,undef,undef,undef,undef,undef,undef,undef,undef,undef,undef,undef,undef,undef,undef,undef,undef,undef,undef,undef,undef,undef,undef,undef,undef,undef,undef],defers:=[] }) ?assign ?body ?stop
 case assign =>
  intro l k W K hK;gi_wp2
  exact hK
 case body =>
  rintro l k W ⟨⟨hk2,hkz⟩,⟨v,hv,hrow,_⟩,hR⟩;have hc:=hv.cell;have hf:=hv.frozen;have hms:=HMS.out k;obtain ⟨v',w1,hr,hown',hgrow,_⟩:=Lib.run_append_own_string (P:=Tryz.prog) (w:=W) w.heap.size 134 9 134 5 i0 Tryz.underlying134 Tryz.underlying9 HI0.out HA0.out HB0.out HC0.out v (32*k) _ hrow (mv k) (by rw [hms];simp only [maxLen];omega) (by rw [hms];omega) hR.2.2.2.size;rw [strCells_u8s,hms] at hown'
  have HOW:Hid (u8s (bl k).data.toList++u8s (mv k).data.toList=u8s (bl (k+1)).data.toList):=by
   rw [Hid,HBL.out k,ByteArray.data_append,Array.toList_append,u8s,u8s,u8s,List.map_append]
  rw [HOW.out] at hown';obtain ⟨q,hq⟩:∃q,q=32*k+32:=⟨_,rfl⟩;rw [←hq] at hown';obtain ⟨q',hq'⟩:∃q',q=q'+1:=⟨q-1,by omega⟩;obtain ⟨g',cap',rfl⟩:∃g cap,v'=.slice (some ⟨g,0,none⟩) q cap:=by rw [hq'] at hown' ⊢;exact ownsRow_succ hown'
  have hv1:Boxed w1 gb 134 v:=hv.kept hgrow (hv.not_row (by decide) hrow);have hv2:=hv1.set (.slice (some ⟨g',0,none⟩) q cap');have hrow2:=hown'.kept (grownBy_setCell' w1 gb (.slice (some ⟨g',0,none⟩) q cap')) (.inr (hv1.not_row (by decide) hown').symm)
  have hcells:∀j o,v.ownBlock=some j→W.heap[j]?=some o→o.isCells=true:=fun j o ej hj=>by
   rcases hrow.2 with ⟨rfl,_⟩ | ⟨g,cap,cur,rfl,_,hgb,_⟩
   ·simp [Value.ownBlock] at ej
   ·obtain rfl:g=j:=by simpa [Value.ownBlock] using ej
    rw [hgb] at hj;cases hj;rfl
  have hnb:∀{g:Nat} {T:TypeId} {cs:List Value},Blk W g T cs→T≠5→some g≠v.ownBlock:=fun {g T cs} hb hT e=>by
   rcases hrow.2 with ⟨rfl,_⟩ | ⟨g2,cap,cur,rfl,_,hgb,_⟩
   ·simp [Value.ownBlock] at e
   ·obtain rfl:g=g2:=by simpa [Value.ownBlock] using e
    have h:=(show W.heap[g]?=_ from hb).symm.trans hgb;simp at h;exact hT h.2
  have hk2':KeepsOthers W (w1.setCell ⟨gb,0,none⟩ (.slice (some ⟨g',0,none⟩) q cap')):=(KeepsOthers.of_grownBy hgrow hcells).trans (KeepsOthers.setCell _ _ _)
  have hB1:Below w.heap.size w w1:=hR.2.2.2.grown hgrow hR.2.2.2.size (fun j ej=>by
   rcases hrow.2 with ⟨rfl,_⟩ | ⟨g,cap,cur,rfl,hb,_,_⟩
   ·simp [Value.ownBlock] at ej
   ·obtain rfl:g=j:=by simpa [Value.ownBlock] using ej
    exact hb)
  have hR2:AtR w gz gt ga seed ao m c p a z (w1.setCell ⟨gb,0,none⟩ (.slice (some ⟨g',0,none⟩) q cap')):=
   ⟨Blk.other ((hgrow.block _ hR.1.lt (hnb hR.1 (by decide))).trans hR.1) _ _ HG.out.2.1,Blk.other ((hgrow.block _ hR.2.1.lt (hnb hR.2.1 (by decide))).trans hR.2.1) _ _ HG.out.2.2.1,Blk.other ((hgrow.block _ hR.2.2.1.lt (hnb hR.2.2.1 (by decide))).trans hR.2.2.1) _ _ HG.out.2.2.2.1,hB1.setCell (p:=⟨gb,0,none⟩) HG.out.1 _⟩
  have hc1:=hv1.cell;have hf1:=hv1.frozen;have hc2:=hv2.cell;have hcz:=hR2.1.cell 0;have HRW:=Lib.hid hrow2;have HV2:=Lib.hid hv2;have HR2:=Lib.hid hR2;have HKO:=Lib.hid hk2';clear hv hrow hR hown' hgrow hv1 hv2 hrow2 hcells hnb hk2' hB1 hR2 hms HOW hq';have HQ:=Lib.hid hq;clear hq;by_cases hge:z≤q
  ·have hd:decide ((z:Int)≤(q:Int))=true:=decide_eq_true (by omega);gi_wp2_with (gi_at_builtin;refine wpListIn_append_str rfl (.tmp 17) (.tmp 18) 134 9 rfl v (mv k) rfl rfl _ _ hr ?_)
   exact ⟨rfl,HKO.out,⟨by omega,by have:=HQ.out;omega,by have:=HQ.out;omega⟩,⟨_,HV2.out,by have h:=HRW.out;rw [HQ.out] at h ⊢;exact h,trivial⟩,HR2.out⟩
  ·have hd:decide ((z:Int)≤(q:Int))=false:=decide_eq_false (by omega);gi_wp2_with (gi_at_builtin;refine wpListIn_append_str rfl (.tmp 17) (.tmp 18) 134 9 rfl v (mv k) rfl rfl _ _ hr ?_)
   exact ⟨HKO.out,⟨by have:=HQ.out;omega,.inr (by have:=HQ.out;omega)⟩,⟨_,HV2.out,by have h:=HRW.out;rw [HQ.out] at h ⊢;exact h,trivial⟩,HR2.out⟩
 case stop =>
  rintro D k W hD ⟨⟨hk2,hzk,hkz⟩,⟨v,hv,hrow,_⟩,hR⟩ hK;have hke:k=(z+31) / 32:=by omega
  rw [←hke] at HAT;have hts:=HBS.out k;obtain ⟨t,htt⟩:∃t,t=bl k:=⟨_,rfl⟩;rw [←htt] at HAT hts hrow;clear htt hke HBL HBS HMS HIT hB0 hk2 hkz bZ bO bT bA hBW;obtain ⟨q,hq⟩:∃q,q=32*k:=⟨_,rfl⟩;rw [←hq] at hts hrow hzk;clear hq;have hv0:=hv;rcases hrow.2 with ⟨rfl,h0⟩ | ⟨g',cap,cur,rfl,hbg,hg,hnc,hcm,hcs,htake⟩
  ·omega
  have hne:gb≠g':=fun e=>hv.not_row (by decide) hrow (by rw [e];rfl)
  have hblk:Blk W g' 5 cur.toList:=by show W.heap[g']?=some _;rw [Array.toArray_toList];exact hg
  have hr7:8*z-n≤7:=by omega
  obtain ⟨r,hr⟩:∃r,r=8*z-n:=⟨_,rfl⟩;rw [←hr] at hr7 HAT;obtain ⟨y,hy⟩:∃y,y=byt t 0:=⟨_,rfl⟩;have hc:=hv.cell;have hf:=hv.frozen;have hcz:=hR.1.cell 0;have z0:(0:Int)≤(z:Int):=by omega
  have z1:(z:Int)≤(cap:Int):=by omega
  have zd:decide ((0:Int)<(z:Int))=true:=decide_eq_true (by omega);have hcz2:(W.setCell ⟨gb,0,none⟩ (.slice (some ⟨g',0,none⟩) z cap)).cell? ⟨gz,0,none⟩=some (.int .i64 (z:Int)):=(hR.1.other ⟨gb,0,none⟩ (.slice (some ⟨g',0,none⟩) z cap) HG.out.2.1).cell 0;gi_wp2_with fail
  have hv2:=hv.set (.slice (some ⟨g',0,none⟩) z cap);have hb2:=hblk.other ⟨gb,0,none⟩ (.slice (some ⟨g',0,none⟩) z cap) (Ne.symm hne);have hz2':=hR.1.other ⟨gb,0,none⟩ (.slice (some ⟨g',0,none⟩) z cap) HG.out.2.1;have hB2:=hR.2.2.2.setCell (p:=⟨gb,0,none⟩) HG.out.1 (.slice (some ⟨g',0,none⟩) z cap);have hK2:=(KeepsOthers.setCell W ⟨gb,0,none⟩ (.slice (some ⟨g',0,none⟩) z cap)).same D _ hK rfl
  have hy0:cur.toList[0]?=some (.int .u8 (y:Int)):=by
   have h:(cur.toList.take (q*1))[0]?=(u8s t.data.toList)[0]?:=by rw [htake]
   rw [List.getElem?_take,if_pos (by omega)] at h;rw [h,u8s,List.getElem?_map,Array.getElem?_toList,Array.getElem?_eq_getElem (by show 0<t.size;omega),hy,byt,Array.getD_eq_getD_getElem?,Array.getElem?_eq_getElem (by show 0<t.size;omega)];rfl
  have hy256:y<256:=by rw [hy,byt];exact UInt8.toNat_lt _
  have hCr:∀j,1≤j→(hj:j<z)→cur.toList[j]?=some (u8v (t.data.getD j 0)):=fun j hj1 hj=>by
   have h:(cur.toList.take (q*1))[j]?=(u8s t.data.toList)[j]?:=by rw [htake]
   rw [List.getElem?_take,if_pos (by omega)] at h;rw [h,u8s,List.getElem?_map,Array.getElem?_toList,Array.getD_eq_getD_getElem?,Array.getElem?_eq_getElem (by show j<t.size;omega)];rfl
  have hlen:cur.toList.length=cap:=by rw [Array.length_toList];omega
  -- the bytes
  obtain ⟨tl,htl⟩:∃tl:List UInt8,tl=UInt8.ofNat (y%2^(8-r)) :: (t.extract 1 z).data.toList:=⟨_,rfl⟩
  have htll:tl.length=z:=by
   have h:(t.extract 1 z).data.toList.length=z-1:=by rw [Array.length_toList];show (t.extract 1 z).size=_;rw [ByteArray.size_extract];omega
   rw [htl,List.length_cons,h];omega
  have HAV:Hid (attT seed p a n=⟨(tl.dropWhile (·==0)).toArray⟩):=by
   rw [Hid,HAT.out,canonV];congr 3
   rw [htl,ByteArray.data_append,Array.toList_append,hy];rfl
  obtain ⟨mb,hmb⟩:∃mb,mb=y%2^(8-r):=⟨_,rfl⟩;have hmb256:mb<256:=by rw [hmb];exact Nat.lt_of_le_of_lt (Nat.mod_le _ _) hy256
  have HCC:Hid (∀j,j<z→(cur.toList.set 0 (.int .u8 (mb:Int)))[j]?=some (u8v (tl.getD j 0))):=fun j hj=>by
   by_cases h0:j=0
   ·subst h0;rw [List.getElem?_set_self (by omega),htl,←hmb];show some (Value.int .u8 (mb:Int))=some (Value.int .u8 ((UInt8.ofNat mb).toNat:Int));rw [UInt8.toNat_ofNat',Nat.mod_eq_of_lt (by omega)]
   ·rw [List.getElem?_set_ne (by omega),hCr j (by omega) hj,htl];obtain ⟨i,rfl⟩:∃i,j=i+1:=⟨j-1,by omega⟩;congr 2
    show _=((t.extract 1 z).data.toList).getD i 0
    rw [List.getD_eq_getElem?_getD,Array.getElem?_toList,ByteArray.data_extract,Array.getElem?_extract,if_pos (by
     show i<min z t.data.size-1;have h3:t.data.size=t.size:=rfl;omega),Array.getD_eq_getD_getElem?,Nat.add_comm]
  have hbits:bits .and .u8 (y:Int) ((255:Int) / 2^r)=(mb:Int):=by rw [hmb];exact and_mask y r hy256 hr7
  have er:(8:Int)*(z:Int)-(n:Int)=(r:Int):=by omega
  have er2:IntKind.i64.wrap ((8:Int)*(z:Int))=8*(z:Int):=IntWalk.i64_in _ (by omega);have er3:IntKind.i64.wrap (r:Int)=(r:Int):=IntWalk.i64_in _ (by omega);have r0:(0:Int)≤(r:Int):=by omega
  have HTL:=Lib.hid htll;have HLN:=Lib.hid hlen;have HHR:=Lib.hid hR.2.2.2;clear hv hblk hR hK hy htl hCr hmb hlen hv0 hg htake hcs hcm hnc hrow hc hf hcz hcz2 zd htll HAT hr;generalize W.setCell ⟨gb,0,none⟩ (.slice (some ⟨g',0,none⟩) z cap)=W2 at hv2 hb2 hz2' hB2 hK2 ⊢;have c8:=hv2.cell;have f8:=hv2.frozen;have cz:=hz2'.cell 0;have cb:=(hb2.cell 0).trans hy0;have fb:=hb2.free 0;have lb:=hb2.lt;have l8:=hv2.lt;have lz:=hz2'.lt;refine wpIn_wide.2 ?_;go_region;have hO3:Blk (W2.setCell ⟨g',0,none⟩ (.int .u8 (mb:Int))).drew gb 134 [.slice (some ⟨g',0,none⟩) z cap]:=(Blk.other (show Blk W2 gb 134 [_] from hv2) ⟨g',0,none⟩ (.int .u8 (mb:Int)) hne).drew;have hb3:Blk (W2.setCell ⟨g',0,none⟩ (.int .u8 (mb:Int))).drew g' 5 (cur.toList.set 0 (.int .u8 (mb:Int))):=(hb2.set 0 _).drew;have hB3:Below w.heap.size w (W2.setCell ⟨g',0,none⟩ (.int .u8 (mb:Int))).drew:=(hB2.setCell (p:=⟨g',0,none⟩) hbg _).drew;have hK3:(W2.setCell ⟨g',0,none⟩ (.int .u8 (mb:Int))).drew.heap[D]?=some (.deferred (some [])):=(KeepsOthers.setCell W2 ⟨g',0,none⟩ (.int .u8 (mb:Int))).same D _ hK2 rfl;have HHD:Hid (W0.heap.size≤D):=hD;clear c8 f8 cz cb fb lb l8 lz hv2 hb2 hz2' hB2 hK2 hD hy0 hbits er er2 er3;generalize (W2.setCell ⟨g',0,none⟩ (.int .u8 (mb:Int))).drew=W3 at hO3 hb3 hB3 hK3 ⊢;generalize cur.toList.set 0 (.int .u8 (mb:Int))=C at hb3 HCC;clear HLN;gi_wp2
  gi_loopw [39] (fun _ wr=>∃(j o rr c':Nat),j≤z∧Hid (j<z→o=j)∧Hid (rr+j=z)∧Hid (c'+j=cap)∧Blk wr gb 134 [.slice (some ⟨g',o,none⟩) rr c']∧Blk wr g' 5 C∧Hid ((tl.drop j).dropWhile (·==0)=tl.dropWhile (·==0))∧Below w.heap.size w wr∧wr.heap[D]?=some (.deferred (some []))) (fun _ wr=>match wr.cell? ⟨gb,0,none⟩ with | some (.slice _ m _)=>m | _=>0)
  case atStart=>exact ⟨0,0,z,cap,by omega,fun _=>rfl,rfl,rfl,hO3,hb3,rfl,hB3,hK3⟩
  case round =>
   clear hO3 hb3 hB3 hK3;obtain ⟨j,o,rr,c',hjz,HO,HRR,HC',hO,hb,HDW,hB,hK⟩:=hrel;obtain ⟨wp,hwp⟩:∃wp,wp=wr:=⟨_,rfl⟩;subst hwp;have c8:=hO.cell 0;have f8:=hO.free 0;have l8:=hO.lt;have lb:=hb.lt;have HDL:Hid ((tl.drop j).length=rr):=by rw [Hid,List.length_drop,HTL.out];have:=HRR.out;omega
   by_cases hlt:j<z
   ·obtain rfl:o=j:=HO.out hlt;have hrr:1≤rr:=by have:=HRR.out;omega
    have hrc:rr≤c':=by have:=HRR.out;have:=HC'.out;omega
    have hd0:decide ((0:Int)<(rr:Int))=true:=decide_eq_true (by omega);have hbc:wp.cell? ⟨g',o,none⟩=some (u8v (tl.getD o 0)):=(hb.cell o).trans (HCC.out o hlt)
    have HDC:Hid (tl.drop o=tl.getD o 0 :: tl.drop (o+1)):=by
     rw [Hid,List.drop_eq_getElem_cons (by rw [HTL.out];exact hlt),List.getD_eq_getElem?_getD,List.getElem?_eq_getElem (by rw [HTL.out];exact hlt)];rfl
    have hcv:=row_strN (w:=wp) (b:=g') (o:=o) (c:=c') (l:=tl.drop o) (fun i hi=>by
     have h:=(hb.cell (o+i)).trans (HCC.out (o+i) (by rw [List.length_drop,HTL.out] at hi;omega));rw [h,List.getElem_drop,List.getD_eq_getElem?_getD,List.getElem?_eq_getElem (by rw [List.length_drop] at hi;omega)];rfl)
    rw [HDL.out] at hcv;generalize tl.getD o 0=x at hbc HDC;unfold u8v at hbc;have q1:(0:Int)≤1:=by omega
    have q2:(1:Int)≤(rr:Int):=by omega
    have q3:(rr:Int)≤(c':Int):=by omega
    by_cases hx:x=0
    ·have hx0:((x.toNat:Int)==0)=true:=by rw [hx];rfl
     have HX:=Lib.hid hx
     have HDX:Hid ((tl.drop (o+1)).dropWhile (·==0)=tl.dropWhile (·==0)):=by
      have h:=HDW.out;rw [HDC.out,List.dropWhile_cons,if_pos (by rw [hx];rfl)] at h;exact h
     clear hx hcv;gi_wp2
     ·refine ⟨⟨o+1,by omega,o,fun h=>by have:=HRR.out;omega,rr-1,by rw [Hid];have:=HRR.out;omega,0,by rw [Hid];have:=HC'.out;omega,hO.set 0 _,hb.other _ _ (Ne.symm hne),HDX,hB.setCell (p:=⟨gb,0,none⟩) HG.out.1 _,(KeepsOthers.setCell wp ⟨gb,0,none⟩ _).same D _ hK rfl⟩,by omega⟩
     ·refine ⟨⟨o+1,by omega,o+1,fun _=>rfl,rr-1,by rw [Hid];have:=HRR.out;omega,c'-1,by rw [Hid];have:=HC'.out;omega,hO.set 0 _,hb.other _ _ (Ne.symm hne),HDX,hB.setCell (p:=⟨gb,0,none⟩) HG.out.1 _,(KeepsOthers.setCell wp ⟨gb,0,none⟩ _).same D _ hK rfl⟩,by omega⟩
    ·have hx0:((x.toNat:Int)==0)=false:=by
      rw [beq_eq_false_iff_ne];intro e;exact hx (UInt8.toNat_inj.1 (by show x.toNat=0;omega))
     have HX:=Lib.hid hx
     have HFIN:Hid (attT seed p a n=⟨(tl.drop o).toArray⟩):=by
      have h:=HDW.out;rw [Hid,HAV.out,←h];congr 2
      rw [HDC.out,List.dropWhile_cons,if_neg (by rw [beq_iff_eq];exact hx)]
     clear hx;gi_wp2
     refine ⟨by simp,.inl ⟨_,_,rfl,run_takeDeferred hK,?_⟩⟩;exact ⟨_,results_tmp rfl _ _ _,by rw [HFIN.out];rfl,hB.trans (belowK_b (w:=W0) HG.out.2.2.2.2 wp D _ _ HHD.out hK rfl rfl)⟩
   ·have hr0:rr=0:=by have:=HRR.out;omega
    have hcv:=row_strN (w:=wp) (b:=g') (o:=o) (c:=c') (l:=[]) (fun i hi=>absurd hi (Nat.not_lt_zero _));subst hr0;have hcv2:(convert 134 22 (.slice (some ⟨g',o,none⟩) 0 c')).run Tryz.prog wp=.ok (.string ⟨#[]⟩) wp:=hcv
    have HFIN:Hid (attT seed p a n=⟨#[]⟩):=by
     have h:=HDW.out;rw [List.drop_eq_nil_of_le (by rw [HTL.out];omega)] at h;rw [Hid,HAV.out,←h];rfl
    clear hcv;gi_wp2
    refine ⟨by simp,.inl ⟨_,_,rfl,run_takeDeferred hK,?_⟩⟩;exact ⟨_,results_tmp rfl _ _ _,by rw [HFIN.out];rfl,hB.trans (belowK_b (w:=W0) HG.out.2.2.2.2 wp D _ _ HHD.out hK rfl rfl)⟩
end Go.Proofs.YtcfjcenmcpankaaGreatDoor
end

section
set_option linter.unusedVariables false
set_option linter.unusedSimpArgs false
set_option maxRecDepth 100000
namespace Go.Proofs.YtcfjcenmcpankaaGreatDoor
open Go.RowKit Go.Shelf

theorem laid_tail {P:Program} {x:String × DataW Unit} {r:List (String × DataW Unit)} {w:World} (h:laidMet P (x :: r) w):laidMet P r w:=by
 obtain ⟨ps,hv,hnd,hrows⟩:=h;obtain ⟨n,d⟩:=x;obtain ⟨g,t,cs,fuel,p,q,_,_,_,_,hq,rfl⟩:=hv;exact ⟨q,hq,List.Nodup.sublist (List.sublist_append_right _ _) hnd,fun b off hm=>hrows b off (List.mem_append_right _ hm)⟩

theorem tab_of_laid {W:World} (h:laidMetH Tryz.prog laid3 W):TabW W:=by
 rw [MakeChecks.laidMetH_plain _ _ _ (by kernel_rfl)] at h;have h2:laidMet Tryz.prog [("internal/strconv.uint64pow10",Lib.tabData .u64 Lib.pow10Tab)] W:=laid_tail (laid_tail h);have hs:(Tryz.prog.globalNamed "internal/strconv.uint64pow10").isSome=true:=by kernel_rfl
 have ht:((Tryz.prog.globalNamed "internal/strconv.uint64pow10").bind fun g=>(Tryz.prog.globals[g]?).map (·.type))=some 278:=by kernel_rfl
 obtain ⟨g,hg⟩:=Option.isSome_iff_exists.1 hs;rw [hg,Option.bind_some] at ht;exact Lib.tabIs_of_head (e:=69) (n:=20) hg ht Tryz.underlying278 Tryz.underlying69 (by kernel_rfl) (by kernel_rfl) h2

theorem canon_fact:∀(k:Nat) (s:ByteArray),s.size=k→s.size≤128→vldB (canonV s)=true∧(canonV s).size≤s.size
 | 0,s,h,_=>by
  obtain rfl:s=ByteArray.empty:=by apply ByteArray.ext;apply Array.eq_empty_of_size_eq_zero;exact h
  exact ⟨vldB_empty,Nat.le_refl _⟩
 | k+1,s,h,h2=>by
  have hp:0<s.size:=by omega
  by_cases h0:s[0].toNat=0
  ·rw [canon_zero s hp h0];have hs:(s.extract 1 s.size).size=k:=by rw [ByteArray.size_extract];omega
   obtain ⟨a,b⟩:=canon_fact k (s.extract 1 s.size) hs (by omega);exact ⟨a,by omega⟩
  ·rw [canon_stop s hp h0];refine ⟨?_,Nat.le_refl _⟩;rw [vldB_pos hp h2,bne_iff_ne];omega

def attN:Att:=fun sd p a k=>numb (attT sd p a k)
theorem att_num (sd:ByteArray) (p a n:Nat) (h2:n≤512):attT sd p a n=E (attN sd p a n)∧attN sd p a n<256^64:=by
 obtain ⟨v,hv⟩:∃v,v=((⟨#[UInt8.ofNat (byt (blV sd p a (((n+7) / 8+31) / 32)) 0%2^(8-(8*((n+7) / 8)-n)))]⟩:ByteArray)++(blV sd p a (((n+7) / 8+31) / 32)).extract 1 ((n+7) / 8)):=⟨_,rfl⟩;have hT:attT sd p a n=canonV v:=by rw [hv];rfl
 have hs:v.size≤64:=by
  rw [hv,ByteArray.size_append,ByteArray.size_extract];show 1+_≤64;omega
 obtain ⟨c1,c2⟩:=canon_fact v.size v rfl (by omega);rw [←hT] at c1 c2;obtain ⟨x,hx,e⟩:=numk (k:=64) (by omega) c1
 have he:attN sd p a n=x:=by
  show numb (attT sd p a n)=x;rw [e,numb_E]
 rw [he];exact ⟨e,hx⟩
theorem hatt (sd:ByteArray) (w:World) (hs:sd.size≤1000) (ht:TabW w):HAtt attN sd w:=fun _ p a k h1 h2 h3 h4=>⟨(att_num sd p a k h4).2,fun ao m c W hW=>by
 rw [←(att_num sd p a k h4).1];exact attempt_v sd p a k ao m c W hs h1 h2 h3 h4 (ht.after hW)⟩
end Go.Proofs.YtcfjcenmcpankaaGreatDoor
end
