import Derived.Test.YtihjpddbjhcbmaaGreatDoorMod1
import Derived.RangeFuncNested
import Derived.RangeFuncBound
import Derived.RangeFuncCalls
import Derived.RangeFuncLeaves
import Derived.Shelf.Abstract
import Derived.Shelf.RegionOpen
import Derived.OwnWalkIn
import Derived.TacticsInMore
import Derived.LoopNIn
import Derived.LoopIn
set_option linter.unusedVariables false
set_option linter.unusedSimpArgs false
set_option maxRecDepth 100000
set_option maxHeartbeats 16000000
namespace Go.Proofs.YtihjpddbjhcbmaaGreatDoor
open Go.RowKit Go.Shelf
attribute [local go_sem] Oper.semAt_some
def upto {α:Type} (f:Nat→α) (k:Nat):List α:=(List.range k).map f
theorem upto_succ {α:Type} (f:Nat→α) (k:Nat):upto f (k+1)=upto f k++[f k]:=by simp[upto,List.range_succ]
theorem upto_length {α:Type} (f:Nat→α) (k:Nat):(upto f k).length=k:=by simp[upto]
def bitAt (e k:Nat):Bool:=bitB e (nb e-1-k)
def bval (l:List Bool):Nat:=l.foldl (fun n b=>2*n+b.toNat) 0
theorem bval_snoc (l:List Bool) (b:Bool):bval (l++[b])=2*bval l+b.toNat:=by simp[bval]
theorem bval_upto (e k:Nat) (h:k≤nb e):bval (upto (bitAt e) k)=e / 2^(nb e-k):=by
 induction k with
 | zero=>rw[Nat.sub_zero,Nat.div_eq_of_lt (lt_nb e)];rfl
 | succ k ih =>
  rw[upto_succ,bval_snoc,ih (by omega)];have e1:nb e-k=(nb e-(k+1))+1:=by omega
  have e2:bitAt e k=bitB e (nb e-(k+1)):=by unfold bitAt;congr 1;omega
  rw[e2,e1];cases hb:bitB e (nb e-(k+1))
  ·rw[bit_nil hb];rfl
  ·rw[bit_one hb];rfl
theorem bval_all (e:Nat):bval (upto (bitAt e) (nb e))=e:=by
 rw[bval_upto e _ (Nat.le_refl _),Nat.sub_self,Nat.pow_zero,Nat.div_one]
theorem wide_depth {n:Nat}:Fence.wide.depth.isSome=true→1≤n:=fun h=>by simp[Fence.wide]at h
def KpE (b:Nat) (A B:World):Prop:=B.cell? ⟨b,0,none⟩=A.cell? ⟨b,0,none⟩
theorem digits1_in (n l b e:Nat) (he:e<256^128) (J Jx:List Bool→World→Prop)
  (hY:∀pre x W,J pre W→pre.length<nb e→YieldAt Fence.wide (n-1) Tryz.prog l #[.bool x] W fun e W' =>
   (e=.returned (.bool true)∧J (pre++[x]) W'∧KpE b W W')∨(e=.returned (.bool false)∧Jx (pre++[x]) W'))
  (W:World) (hc:W.cell? ⟨b,0,none⟩=some (.string (E e))) (h0:J [] W) :
  CallsIn Fence.wide n Tryz.prog 351 #[.func (.yield l) #[] #[],.pointer (some ⟨b,0,none⟩)] W fun r W'=>(∃v,r=.returned v) ∧
   ((∃ys,ys=upto (bitAt e) (nb e)∧J ys W')∨(∃pre,True∧Jx pre W')):=by
 have HE:=Kh he;have hi:=nb_le e 128 (sz e he);clear he;refine callsIn_of_wp Tryz.func351 rfl trivial ?_ rfl;simp only[Tryz.ntmps351,List.size_toArray,List.length_cons,List.length_nil,Nat.reduceAdd,Nat.reduceSub,Array.replicate_succ,Array.replicate_zero,List.push_toArray,List.append_toArray,List.nil_append,List.cons_append];gi_wp2_with fail
 refine⟨trivial,wide_depth,?_⟩;refine (callsIn_wide.2 (bits_c e _ HE.out)).mono ?_;rintro e w' ⟨rfl,rfl⟩;gi_wp2
 gi_loopw [3] (fun i wr=>∃j:Nat,j≤nb e∧i=.int .i64 ((j:Int)-1)∧J (upto (bitAt e) (nb e-j)) wr∧wr.cell? ⟨b,0,none⟩=some (.string (E e)))
  (fun i _=>(intOf i+1).toNat)
 case atStart=>exact⟨nb e,Nat.le_refl _,rfl,by rw[Nat.sub_self];exact h0,hc⟩
 case round =>
  obtain⟨j,hj,rfl,hd,hf⟩:=hrel;by_cases hlt:0<j
  ·obtain⟨i,rfl⟩:∃i,j=i+1:=⟨j-1,by omega⟩;have HI:Hid (((i+1:Nat):Int)-1=(i:Int)):=by unfold Hid;omega
   rw[HI.out];have hx:bitAt e (nb e-(i+1))=bitB e i:=by unfold bitAt;congr 1;omega
   obtain⟨fn,tmps,assign,body,hy,hR⟩:=hY _ (bitB e i) wr hd (by rw[upto_length];omega)
   have HS:Hid (upto (bitAt e) (nb e-i)=upto (bitAt e) (nb e-(i+1))++[bitB e i]):=by
    rw[Hid,←hx,←upto_succ];congr 1;omega
   clear hx;gi_wp2_with fail
   refine⟨trivial,wide_depth,?_⟩;refine (callsIn_wide.2 (bit_c e i _ HE.out (by omega))).mono ?_;rintro e w' ⟨rfl,rfl⟩;gi_wp2
   refine⟨wide_depth,hR.mono ?_⟩;rintro r W3 (⟨rfl,hg,hh⟩ | ⟨rfl,hb⟩)
   ·gi_wp2
    go_roundw
    case rel=>exact⟨i,by omega,rfl,by rw[HS.out];exact hg,hh.trans hf⟩
    case measure=>simp[intOf] <;> omega
   ·gi_wp2
    refine bodyPost_ret (results_none rfl _ _ _) rfl ?_;exact⟨⟨_,rfl⟩,.inr ⟨_,trivial,hb⟩⟩
  ·obtain rfl:j=0:=by omega
   gi_wp2
   go_end0
   exact⟨⟨_,rfl⟩,.inl ⟨_,by rw[Nat.sub_zero],hd⟩⟩
theorem digits_stops (n b e:Nat) (he:e<256^128) (w:World) (hb:b<w.heap.size) (hc:w.cell? ⟨b,0,none⟩=some (.string (E e))) :
  SeqStopsK Fence.wide n Tryz.prog 351 #[.pointer (some ⟨b,0,none⟩)] (fun x:Bool=>#[.bool x]) (KpE b) (fun xs=>xs=upto (bitAt e) (nb e)) (fun _=>True) (nb e) w:=
 fun l J Jx W hW hJ hd hY h0=>digits1_in n l b e he J Jx hY W ((hW.cell (p:=⟨b,0,none⟩) hb).trans hc) h0
theorem mdigits_c (e:Nat) (w:World) :
  Calls Tryz.prog 342 #[.string (E e)] w fun r w'=>r=.returned (.func (.func 351) #[] #[.pointer (some ⟨w.heap.size,0,none⟩)])∧w'=w.alloc (.cells #[.string (E e)] 22):=by
 go_enter Tryz.func342,Tryz.ntmps342
 go_wp2;go_ret
 exact⟨rfl,rfl⟩
theorem keeps_of_below {W W':World} (h:Bw W W'):KeepsOthers W W':=
 ⟨h.size,fun k o hk _=>(h.block k (Array.getElem?_eq_some_iff.1 hk).1).trans hk⟩
theorem mred1_c (m:Nat) (w:World) (hm:m<256^128) (h0:0<m) :
  Calls Tryz.prog 214 #[.string { data:=#[1] },.string (E m)] w fun e w'=>e=.returned (.string (E (1%m)))∧Bw w w':=
 mreduced_c 1 m w (by decide) hm h0
theorem blk4c (w:World) (O P D:Obj) (C:Array Value) (T:TypeId):Blk ((((w.alloc O).alloc P).alloc (.cells C T)).alloc D) (w.heap.size+1+1) T C.toList:=by
 have h:=(Blk.new ((w.alloc O).alloc P) C T).alloc D;rw[show ((w.alloc O).alloc P).heap.size=w.heap.size+1+1 by simp]at h;exact h
theorem blk4d (w:World) (O P Q:Obj) (C:Array Value) (T:TypeId):Blk ((((w.alloc O).alloc P).alloc Q).alloc (.cells C T)) (w.heap.size+1+1+1) T C.toList:=by
 have h:=Blk.new (((w.alloc O).alloc P).alloc Q) C T;rw[show (((w.alloc O).alloc P).alloc Q).heap.size=w.heap.size+1+1+1 by simp]at h;exact h
theorem Blk.own {A B:World} {g:Nat} {T:TypeId} {cs:List Value} {row:Option Nat} (h:Blk A g T cs) (hg:A.grownBy B row) (hr:∀r,row=some r→∃o:Obj,A.heap[r]?=some o∧o.isCells=false):Blk B g T cs:=by
 unfold Blk;rw[hg.block g h.lt (fun e=>?_)]
 ·exact h
 ·obtain⟨o,ho,hc⟩:=hr g e.symm;rw[show A.heap[g]?=some (.cells cs.toArray T (0,0)) from h]at ho;cases ho
  exact Bool.noConfusion hc
theorem exp_step0 (a k m:Nat):a^k%m*(a^k%m)%m=a^(2*k+Bool.toNat false)%m:=by
 rw[show 2*k+Bool.toNat false=k+k by simp[Nat.two_mul],Nat.pow_add,←Nat.mul_mod]
theorem exp_step1 (a k m:Nat):a^k%m*(a^k%m)*a%m=a^(2*k+Bool.toNat true)%m:=by
 rw[show 2*k+Bool.toNat true=k+k+1 by simp[Nat.two_mul],Nat.pow_succ,Nat.pow_add,Nat.mul_mod,show a^k%m*(a^k%m)%m=a^k*a^k%m from (Nat.mul_mod _ _ _).symm,←Nat.mul_mod]
def ExpI (w w3:World) (a e m:Nat) (pre:List Bool) (W:World):Prop:=
 Blk W w3.heap.size 22 [.string (E (a^bval pre%m))]∧Blk W (w3.heap.size+1) 22 [.string (E e)]∧Blk W w.heap.size 22 [.string (E (a%m))]∧Blk W (w.heap.size+1) 22 [.string (E m)]∧Bw w W
theorem ExpI.own (w w3:World) (a e m B:Nat) (hB:w.heap.size≤B):OwnFrom B (ExpI w w3 a e m):=
 fun s X Y row hs hg hr=>⟨hs.1.own hg (fun r h=>(hr r h).2),hs.2.1.own hg (fun r h=>(hr r h).2),hs.2.2.1.own hg (fun r h=>(hr r h).2),hs.2.2.2.1.own hg (fun r h=>(hr r h).2),hs.2.2.2.2.grown hg hs.2.2.2.2.size (fun k h=>Nat.le_trans hB (hr k h).1)⟩
theorem mexp_c (a e m:Nat) (w:World) (ha:a<256^8) (he:e<256^128) (hm:m<256^8) (h0:0<m) :
  Calls Tryz.prog 314 #[.string (E a),.string (E e),.string (E m)] w fun r w'=>r=.returned (.tuple #[.string (E (a^e%m)),.int .i64 0])∧Bw w w':=by
 have HA:=Kh ha;have HE:=Kh he;have HM:=Kh (lt128 hm);have hh:=Kh hm;have H0:=Kh h0;have H1:Hid ((1:Nat)<256^8):=by unfold Hid;decide
 have HC:=Kh (mcheck_c (w.heap.size+1+1) (w.heap.size+1+1+1) [a,e] m ((((w.alloc (.cells #[.string (E a)] 22)).alloc (.cells #[.string (E m)] 22)).alloc (.cells #[.string (E a),.string (E e)] 22)).alloc (.cells #[.string (E m)] 22)) (by simp) (by simp) (by simp[lt128 ha,he]) (lt128 hm) h0 (blk4c _ _ _ _ _ _) (blk4d _ _ _ _ _ _));have hA:=(blk2a w #[.string (E a)] #[.string (E m)] 22 22).alloc (.cells #[.string (E a),.string (E e)] 22) |>.alloc (.cells #[.string (E m)] 22);have hM:=(blk2b w #[.string (E a)] #[.string (E m)] 22 22).alloc (.cells #[.string (E a),.string (E e)] 22) |>.alloc (.cells #[.string (E m)] 22);have ht:Bw w ((((w.alloc (.cells #[.string (E a)] 22)).alloc (.cells #[.string (E m)] 22)).alloc (.cells #[.string (E a),.string (E e)] 22)).alloc (.cells #[.string (E m)] 22)):=ba (ba (b2 _ _ _) _) _;clear ha he hm h0;refine (callsIn_wide (n:=3)).1 ?_;refine callsIn_of_wp_marks Tryz.func314 rfl trivial ?_ rfl;simp only[Tryz.ntmps314,List.size_toArray,List.length_cons,List.length_nil,Nat.reduceAdd,Nat.reduceSub,Array.replicate_succ,Array.replicate_zero,List.push_toArray,List.append_toArray,List.nil_append,List.cons_append];gi_wp2_with fail
 refine⟨trivial,?_⟩;refine (callsIn_wide.2 (HC.out)).mono ?_;rintro e w1 ⟨rfl,hn⟩;replace hA:=hA.after hn;replace hM:=hM.after hn;obtain⟨hc,hd⟩:=hA.x1;obtain⟨hf,hg⟩:=hM.x1;gi_wp2_with fail
 refine⟨trivial,?_⟩;refine (callsIn_wide.2 (mreduced_c a m _ HA.out HM.out H0.out)).mono ?_;rintro e w2 ⟨rfl,hp⟩;have hj:=(bt ht hn);clear hc hd;clear hf hg;replace hA:=hA.after hp;replace hM:=hM.after hp;obtain⟨hc,hd⟩:=hA.x1;obtain⟨hf,hg⟩:=hM.x1;gi_wp2_with fail
 refine⟨trivial,?_⟩;refine (callsIn_wide.2 (mred1_c m _ HM.out H0.out)).mono ?_;rintro e w3 ⟨rfl,hq⟩;have hk:Bw w w3:=bt ((bt hj hp).setCell (p:=⟨w.heap.size,0,none⟩) (Nat.le_refl _) (.string (E (a%m)))) hq;clear hc hd;clear hf hg;replace hA:=(hA.set 0 (.string (E (a%m)))).after hq;replace hM:=(hM.other ⟨w.heap.size,0,none⟩ (.string (E (a%m))) (by simp)).after hq;clear hj ht;gi_wp2_with fail
 refine⟨trivial,?_⟩;refine (callsIn_wide.2 (mdigits_c e _)).mono ?_;rintro r w4 ⟨rfl,rfl⟩;gi_wp2_with fail
 have hz:w.heap.size+1<w3.heap.size:=hM.lt;have hO:=blk2a w3 #[.string (E (1%m))] #[.string (E e)] 22 22;have hE:=blk2b w3 #[.string (E (1%m))] #[.string (E e)] 22 22;replace hA:=(hA.alloc (.cells #[.string (E (1%m))] 22)).alloc (.cells #[.string (E e)] 22);replace hM:=(hM.alloc (.cells #[.string (E (1%m))] 22)).alloc (.cells #[.string (E e)] 22);have hw:=ba (ba hk (.cells #[.string (E (1%m))] 22)) (.cells #[.string (E e)] 22);have hr:((w3.alloc (.cells #[.string (E (1%m))] 22)).alloc (.cells #[.string (E e)] 22)).heap.size=w3.heap.size+1+1:=by simp
 clear hn hp hq hk HC
 refine wpIn_rangeFunc_ownF rfl (by omega) (gf:=351) (lb:=#[.pointer (some ⟨w3.heap.size+1,0,none⟩)]) rfl trivial (enters_of Tryz.func351 (by kernel_rfl) rfl)
  (digits_stops _ (w3.heap.size+1) e HE.out _ hE.lt (hE.cell 0)) (fun h k=>k.trans h)
  (fun W l o o' hl ho h1 h2=>(belowK_b (Nat.le_refl _) W l o o' hl ho h1 h2).cell (p:=⟨w3.heap.size+1,0,none⟩) (by rw[hr];simp)) Br (fun _=>rfl)
  (ExpI w w3 a e m) (fun _ _ _=>False) (ExpI.own w w3 a e m _ (by rw[hr];omega)) (fun _ _ _ _ _ hs _ _=>hs)
  ⟨hO,hE,hA,hM,hw⟩
  (fun x=>{ tmps:=#[.string (E a),.string (E e),.string (E m),.pointer (some ⟨w.heap.size,0,none⟩),undef,.pointer (some ⟨w.heap.size+1,0,none⟩),.string { data:=#[] },.int .i64 0,.int .i64 0,.pointer (some ⟨w3.heap.size,0,none⟩),.bool x,.string (E a),.string (E e),.slice (some ⟨w.heap.size+1+1,0,none⟩) 2 2,.string (E m),.slice (some ⟨w.heap.size+1+1+1,0,none⟩) 1 1,.int .i64 0,.int .i64 0,.bool false,undef,.string (E a),.string (E m),.string (E (a%m)),.string (E m),.string (E (1%m)),.string (E e),.func (.func 351) #[] #[.pointer (some ⟨w3.heap.size+1,0,none⟩)],.bool x,undef,undef,undef,undef,undef,undef,undef,undef,undef,undef],defers:=[] }) ?assign ?body ?done ?stop
 case assign =>
  intro l x W K hK;gi_wp2
  exact hK
 case body =>
  rintro l pre x W ⟨iO,iE,iA,iM,iB⟩ _;have HS:=Kh (bval_snoc pre x);have hlt:=Nat.mod_lt (a^bval pre) H0.out;have hu:=Kh (exp_step0 a (bval pre) m);have hv:=Kh (exp_step1 a (bval pre) m);generalize a^bval pre%m=y at iO hlt hu hv;have HY:=Kh (Nat.lt_trans hlt hh.out);have hx:=Kh (Nat.lt_trans (Nat.mod_lt (y*y) H0.out) hh.out);have hy:=Kh (Nat.lt_trans (Nat.mod_lt a H0.out) hh.out);clear hlt;have iEc:=iE.cell 0;obtain⟨iOc0,iOf0⟩:=iO.x1;obtain⟨iAc0,iAf0⟩:=iA.x1;obtain⟨iMc0,iMf0⟩:=iM.x1;have iBs:w.heap.size≤w3.heap.size:=by omega
  cases x
  ·gi_wp2_with fail
   refine⟨trivial,?_⟩;refine (CallsIn.inRound _ (callsIn_wide.2 (mtimes_c y y m _ HY.out HY.out hh.out H0.out))).mono ?_;rintro e w5 ⟨rfl,hb⟩;clear iOc0 iOf0;clear iAc0 iAf0;clear iMc0 iMf0;replace iO:=iO.after hb;replace iE:=iE.after hb;replace iA:=iA.after hb;replace iM:=iM.after hb;obtain⟨iOc0,iOf0⟩:=iO.x1;gi_wp2
   refine⟨(keeps_of_below hb).trans (KeepsOthers.setCell _ _ _),?_,?_,iE.other _ _ (by simp),iA.other _ _ (by simp;omega),iM.other _ _ (by simp;omega),(bt iB hb).setCell (p:=⟨w3.heap.size,0,none⟩) iBs _⟩
   ·exact (iE.other _ _ (by simp)).cell 0 |>.trans (iEc.symm)
   ·rw[HS.out,←hu.out];exact iO.set 0 _
  ·gi_wp2_with fail
   refine⟨trivial,?_⟩;refine (CallsIn.inRound _ (callsIn_wide.2 (mtimes_c y y m _ HY.out HY.out hh.out H0.out))).mono ?_;rintro e w5 ⟨rfl,hb⟩;clear iOc0 iOf0;clear iAc0 iAf0;clear iMc0 iMf0;replace iO:=iO.after hb;replace iE:=iE.after hb;replace iA:=iA.after hb;replace iM:=iM.after hb;obtain⟨iOc0,iOf0⟩:=iO.x1;obtain⟨iAc0,iAf0⟩:=iA.x1;obtain⟨iMc0,iMf0⟩:=iM.x1;gi_wp2_with fail
   refine⟨trivial,?_⟩;refine (CallsIn.inRound _ (callsIn_wide.2 (mtimes_c (y*y%m) (a%m) m _ hx.out hy.out hh.out H0.out))).mono ?_;rintro e w6 ⟨rfl,hi⟩;clear iOc0 iOf0;clear iAc0 iAf0;clear iMc0 iMf0;replace iO:=(iO.set 0 (.string (E (y*y%m)))).after hi;replace iE:=(iE.other ⟨w3.heap.size,0,none⟩ (.string (E (y*y%m))) (by simp)).after hi;replace iA:=(iA.other ⟨w3.heap.size,0,none⟩ (.string (E (y*y%m))) (by simp;omega)).after hi;replace iM:=(iM.other ⟨w3.heap.size,0,none⟩ (.string (E (y*y%m))) (by simp;omega)).after hi;have iB6:=bt ((bt iB hb).setCell (p:=⟨w3.heap.size,0,none⟩) iBs (.string (E (y*y%m)))) hi;obtain⟨iOc0,iOf0⟩:=iO.x1;gi_wp2
   refine⟨(((keeps_of_below hb).trans (KeepsOthers.setCell _ _ _)).trans (keeps_of_below hi)).trans (KeepsOthers.setCell _ _ _),?_,?_,iE.other _ _ (by simp),iA.other _ _ (by simp;omega),iM.other _ _ (by simp;omega),iB6.setCell (p:=⟨w3.heap.size,0,none⟩) iBs _⟩
   ·exact (iE.other _ _ (by simp)).cell 0 |>.trans (iEc.symm)
   ·rw[HS.out,←hv.out];exact iO.set 0 _
 case done =>
  rintro D ys W hD rfl ⟨iO,iE,iA,iM,iB⟩ hK;rw[bval_all]at iO;obtain⟨iOc0,iOf0⟩:=iO.x1;gi_wp2
  refine⟨by simp,.inl ⟨_,_,rfl,run_takeDeferred hK,?_⟩⟩;refine⟨.tuple #[.string (E (a^e%m)),.int .i64 0],by simp[results,Tryz.results314,go_sem],rfl,?_⟩;exact iB.trans (belowK_b (w:=w) (Nat.le_refl _) W D _ _ (by rw[hr]at hD;omega) hK rfl rfl)
 case stop =>
  rintro D c pre W _ _ h _;exact h.elim
end Go.Proofs.YtihjpddbjhcbmaaGreatDoor
