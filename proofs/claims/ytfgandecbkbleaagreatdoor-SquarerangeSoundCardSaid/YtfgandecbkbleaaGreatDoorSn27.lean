/- SquarerangeSound: the law. -/
import Derived.Test.YtfgandecbkbleaaGreatDoorSq27
import Derived.Test.YtfgandecbkbleaaGreatDoorWi27
import Derived.Test.YtfgandecbkbleaaGreatDoorSf27
import Derived.Test.YtfgandecbkbleaaGreatDoorRinc
set_option linter.unusedVariables false
set_option linter.unusedSimpArgs false
set_option maxRecDepth 100000
set_option maxHeartbeats 16000000
namespace Go.Proofs.YtfgandecbkbleaaGreatDoor
open Go.RowKit Go.Shelf
def xsN (n:Nat→Int) (k:Nat):List (Int × Int):=(List.range k).map fun j=>(n (2*j),n (2*j+1))
theorem xsN_snoc (n:Nat→Int) (k:Nat):xsN n (k+1)=xsN n k++[(n (2*k),n (2*k+1))]:=by unfold xsN;rw [List.range_succ,List.map_append];rfl
theorem xsN_len (n:Nat→Int) (k:Nat):(xsN n k).length=k:=by unfold xsN;simp
theorem sqs_app (X Y:List (Int × Int)):sqs (X++Y)=sqs X+sqs Y:=by unfold sqs;rw [List.map_append,List.sum_append]
theorem prd_app (X Y:List (Int × Int)):prd (X++Y)=prd X+prd Y:=by unfold prd;rw [List.map_append,List.sum_append]
def wsN (n:Nat→Int) (k:Nat):List Int:=(xsN n k).flatMap fun x=>[x.1,x.2]
theorem wsN_snoc (n:Nat→Int) (k:Nat):wsN n (k+1)=wsN n k++[n (2*k),n (2*k+1)]:=by unfold wsN;rw [xsN_snoc,List.flatMap_append];rfl
theorem wsN_len (n:Nat→Int) (k:Nat):(wsN n k).length=2*k:=by
 induction k with
 | zero=>rfl
 | succ k ih=>rw [wsN_snoc,List.length_append,ih];simp;omega
def psN (cf:Int→Int→Nat) (n:Nat→Int) (k:Nat):List Nat:=(xsN n k).map fun x=>cf x.1 x.2
theorem psN_snoc (cf:Int→Int→Nat) (n:Nat→Int) (k:Nat):psN cf n (k+1)=psN cf n k++[cf (n (2*k)) (n (2*k+1))]:=by unfold psN;rw [xsN_snoc,List.map_append];rfl
theorem psN_len (cf:Int→Int→Nat) (n:Nat→Int) (k:Nat):(psN cf n k).length=k:=by unfold psN;rw [List.length_map,xsN_len]
theorem mul_le30 {x y:Int} (hx:x.natAbs≤32768) (hy:y.natAbs≤32768):(x*y).natAbs≤1073741824:=by
 rw [Int.natAbs_mul];exact Nat.mul_le_mul hx hy
theorem sqs_leM {n:Nat→Int} (M:Nat) (h:∀i j,(n i*n j).natAbs≤M) (k:Nat):(sqs (xsN n k)).natAbs≤k*M∧(prd (xsN n k)).natAbs≤k*M:=by
 induction k with
 | zero=>rw [Nat.zero_mul];exact ⟨Nat.le_refl _,Nat.le_refl _⟩
 | succ k ih =>
  have h1:=h (2*k) (2*k);have h2:=h (2*k) (2*k+1);rw [xsN_snoc,sqs_app,prd_app,show (k+1)*M=k*M+M from Nat.succ_mul k M];have e1:sqs [(n (2*k),n (2*k+1))]=n (2*k)*n (2*k):=by simp [sqs]
  have e2:prd [(n (2*k),n (2*k+1))]=n (2*k)*n (2*k+1):=by simp [prd]
  rw [e1,e2];generalize n (2*k)*n (2*k)=y1 at h1;generalize n (2*k)*n (2*k+1)=y2 at h2;constructor <;> omega
theorem sqs_le {n:Nat→Int} (h:∀j,(n j).natAbs≤32768) (k:Nat):(sqs (xsN n k)).natAbs≤k*1073741824∧(prd (xsN n k)).natAbs≤k*1073741824:=sqs_leM _ (fun i j=>mul_le30 (h i) (h j)) k
def vSn6 (gX gA:Nat) (lo:Int) (n:Nat→Int):RVB:=fun _ i v _=>match i with
 | 0=>v=.pointer (some ⟨gX,4,none⟩)
 | 1=>v=.int .i64 lo
 | 2=>v=.agg #[.bool (sg (lo)),.string (E (lo).natAbs)]
 | 3=>v=.pointer (some ⟨gA,8,none⟩)
 | 4=>v=.int .i16 (n 8)
 | 5=>v=.int .i64 (n 8)
 | 6=>v=.agg #[.bool (sg (n 8)),.string (E (n 8).natAbs)]
 | _=>True
theorem vSn6_any (gX gA:Nat) (lo:Int) (n:Nat→Int) {l l':List Bool} {w w':World}:∀i u,vSn6 gX gA lo n l i u w→vSn6 gX gA lo n l' i u w':=by
 intro i u h;unfold vSn6 at h ⊢;exact h
def fTwo (s1 s2 B:Nat) (x y:Int) (d0 d1 d2 d3:Bool) (t:Array Value) (w:World):Prop:=
 (d0=true→∃g,t[s1]?=some (.pointer (some ⟨g,0,none⟩))∧B≤g∧Blk w g 28 (if d2=true then [.bool (sg x),.string (E x.natAbs)] else [.bool false,.string ⟨#[]⟩])) ∧
 (d1=true→∃g,t[s2]?=some (.pointer (some ⟨g,0,none⟩))∧B≤g∧Blk w g 28 (if d3=true then [.bool (sg y),.string (E y.natAbs)] else [.bool false,.string ⟨#[]⟩])) ∧
 (d0=true→d1=true→t[s1]?≠t[s2]?)
theorem fTwo_st {s1 s2 B:Nat} {x y:Int} {d0 d1 d2 d3:Bool} {t:Array Value} {w w':World} (hb:Below w.heap.size w w') (h:fTwo s1 s2 B x y d0 d1 d2 d3 t w):fTwo s1 s2 B x y d0 d1 d2 d3 t w':=by
 obtain ⟨h1,h2,h3⟩:=h;exact ⟨fun k=>by obtain ⟨g,a,b,c⟩:=h1 k;exact ⟨g,a,b,c.after hb⟩,fun k=>by obtain ⟨g,a,b,c⟩:=h2 k;exact ⟨g,a,b,c.after hb⟩,h3⟩
theorem fTwo_put {s1 s2 B:Nat} {x y:Int} {d0 d1 d2 d3:Bool} {t:Array Value} {w:World} {d:Nat} {v:Value} (h1:d≠s1) (h2:d≠s2) (h:fTwo s1 s2 B x y d0 d1 d2 d3 t w):fTwo s1 s2 B x y d0 d1 d2 d3 (t.setIfInBounds d v) w:=by
 unfold fTwo at h ⊢;rw [Array.getElem?_setIfInBounds_ne h1,Array.getElem?_setIfInBounds_ne h2];exact h
def fSn6 (B:Nat) (x y:Int) (st:List Bool) (t:Array Value) (w:World):Prop:=fTwo 8 9 B x y (st.getD 0 false) (st.getD 1 false) (st.getD 2 false) (st.getD 3 false) t w
theorem fSn6_eq (B:Nat) (x y:Int) (done:Array Bool) (t:Array Value) (w:World):fSn6 B x y (stB [7,8,9,10] done) t w=fTwo 8 9 B x y (done.getD 7 false) (done.getD 8 false) (done.getD 9 false) (done.getD 10 false) t w:=rfl
theorem fTwo_new1 {s1 s2 B:Nat} {x y:Int} {d1 d3:Bool} {t:Array Value} {w:World} (hs:s1<t.size) (hne:s1≠s2) (hB:B≤w.heap.size) (h:fTwo s1 s2 B x y false d1 false d3 t w) :
  fTwo s1 s2 B x y true d1 false d3 (t.setIfInBounds s1 (.pointer (some ⟨w.heap.size,0,none⟩))) (w.alloc (.cells #[.bool false,.string ⟨#[]⟩] 28)):=by
 have h':=fTwo_st (b1 w (.cells #[.bool false,.string ⟨#[]⟩] 28)) h;obtain ⟨_,h2,_⟩:=h';obtain ⟨_,k2,_⟩:=h;refine ⟨fun _=>⟨w.heap.size,by rw [Array.getElem?_setIfInBounds_self_of_lt hs],hB,Blk.new _ _ _⟩,fun k=>?_,fun _ k e=>?_⟩
 ·rw [Array.getElem?_setIfInBounds_ne hne];exact h2 k
 ·obtain ⟨g,a,_,c⟩:=k2 k;rw [Array.getElem?_setIfInBounds_ne hne,Array.getElem?_setIfInBounds_self_of_lt hs,a] at e;have hl:=c.lt;injection e with e;injection e with e;injection e with e;injection e with e
  omega
theorem fTwo_new2 {s1 s2 B:Nat} {x y:Int} {d0 d2:Bool} {t:Array Value} {w:World} (hs:s2<t.size) (hne:s2≠s1) (hB:B≤w.heap.size) (h:fTwo s1 s2 B x y d0 false d2 false t w) :
  fTwo s1 s2 B x y d0 true d2 false (t.setIfInBounds s2 (.pointer (some ⟨w.heap.size,0,none⟩))) (w.alloc (.cells #[.bool false,.string ⟨#[]⟩] 28)):=by
 have h':=fTwo_st (b1 w (.cells #[.bool false,.string ⟨#[]⟩] 28)) h;obtain ⟨h1,_,_⟩:=h';obtain ⟨k1,_,_⟩:=h;refine ⟨fun k=>?_,fun _=>⟨w.heap.size,by rw [Array.getElem?_setIfInBounds_self_of_lt hs],hB,Blk.new _ _ _⟩,fun k _ e=>?_⟩
 ·rw [Array.getElem?_setIfInBounds_ne hne];exact h1 k
 ·obtain ⟨g,a,_,c⟩:=k1 k;rw [Array.getElem?_setIfInBounds_ne hne,Array.getElem?_setIfInBounds_self_of_lt hs,a] at e;have hl:=c.lt;injection e with e;injection e with e;injection e with e;injection e with e
  omega
theorem fTwo_set1 {s1 s2 B g:Nat} {x y:Int} {d1 d3:Bool} {t:Array Value} {w:World} (hg:t[s1]?=some (.pointer (some ⟨g,0,none⟩))) (h:fTwo s1 s2 B x y true d1 false d3 t w) :
  fTwo s1 s2 B x y true d1 true d3 t ((w.setCell ⟨g,0,none⟩ (.bool (sg x))).setCell ⟨g,1,none⟩ (.string (E x.natAbs))):=by
 obtain ⟨h1,h2,h3⟩:=h;refine ⟨fun _=>?_,fun k=>?_,h3⟩
 ·obtain ⟨g',a,b,c⟩:=h1 rfl;rw [hg] at a;injection a with a;injection a with a;injection a with a;injection a with a
  subst a;exact ⟨g,hg,b,(c.set 0 _).set 1 _⟩
 ·obtain ⟨g',a,b,c⟩:=h2 k;have hne:g'≠g:=fun e=>h3 rfl k (by rw [hg,a,e])
  exact ⟨g',a,b,(c.other ⟨g,0,none⟩ _ hne).other ⟨g,1,none⟩ _ hne⟩
theorem fTwo_set2 {s1 s2 B g:Nat} {x y:Int} {d0 d2:Bool} {t:Array Value} {w:World} (hg:t[s2]?=some (.pointer (some ⟨g,0,none⟩))) (h:fTwo s1 s2 B x y d0 true d2 false t w) :
  fTwo s1 s2 B x y d0 true d2 true t ((w.setCell ⟨g,0,none⟩ (.bool (sg y))).setCell ⟨g,1,none⟩ (.string (E y.natAbs))):=by
 obtain ⟨h1,h2,h3⟩:=h;refine ⟨fun k=>?_,fun _=>?_,h3⟩
 ·obtain ⟨g',a,b,c⟩:=h1 k;have hne:g'≠g:=fun e=>h3 k rfl (by rw [hg,a,e])
  exact ⟨g',a,b,(c.other ⟨g,0,none⟩ _ hne).other ⟨g,1,none⟩ _ hne⟩
 ·obtain ⟨g',a,b,c⟩:=h2 rfl;rw [hg] at a;injection a with a;injection a with a;injection a with a;injection a with a
  subst a;exact ⟨g,hg,b,(c.set 0 _).set 1 _⟩
def vSn10 (gA k B1:Nat) (x r:Int):RVB:=fun st i v w=>match i with
 | 0=>v=.int .i64 (k:Int)
 | 1=>v=.int .i64 ((2*k:Nat):Int)
 | 2=>v=.pointer (some ⟨gA,2*k,none⟩)
 | 3=>v=.int .i16 x
 | 4=>v=.int .i64 x
 | 5=>v=.agg #[.bool (sg (x)),.string (E (x).natAbs)]
 | 6=>v=.int .i64 (k:Int)
 | 7=>v=.int .i64 ((2*k:Nat):Int)
 | 8=>v=.int .i64 ((2*k+1:Nat):Int)
 | 9=>v=.pointer (some ⟨gA,2*k+1,none⟩)
 | 10=>v=.int .i16 r
 | 11=>v=.int .i64 r
 | 12=>v=.agg #[.bool (sg (r)),.string (E (r).natAbs)]
 | 13=>v=.agg #[.bool (sg x),.string (E x.natAbs),.bool (sg r),.string (E r.natAbs)]
 | 14=>∃g,v=.pointer (some ⟨g,0,none⟩)∧B1≤g∧(st=[false]→Blk w g 30 [.bool false,.string ⟨#[]⟩,.bool false,.string ⟨#[]⟩])∧(st=[true]→Blk w g 30 [.bool (sg x),.string (E x.natAbs),.bool (sg r),.string (E r.natAbs)])
 | _=>True
theorem vSn10_st (gA k B1:Nat) (x r:Int):∀(l:List Bool) (j:Nat) (u:Value) (w w':World),Below w.heap.size w w'→vSn10 gA k B1 x r l j u w→vSn10 gA k B1 x r l j u w':=by
 intro l j u w w' hb h;unfold vSn10 at h ⊢;split at h
 all_goals first
  | exact h
  | (obtain ⟨g,h1,h2,h3,h4⟩:=h;exact ⟨g,h1,h2,fun k=>(h3 k).after hb,fun k=>(h4 k).after hb⟩)
theorem vSn10_sto {gA k B1 g:Nat} {x r:Int} {w w':World} (hG:Blk w' g 30 [.bool (sg x),.string (E x.natAbs),.bool (sg r),.string (E r.natAbs)]):∀(j:Nat) (u:Value),(j=14→u=.pointer (some ⟨g,0,none⟩))→vSn10 gA k B1 x r [false] j u w→vSn10 gA k B1 x r [true] j u w':=by
 intro j u hj h;unfold vSn10 at h ⊢;split at h
 all_goals first
  | exact h
  | (obtain ⟨g',h1,h2,h3,h4⟩:=h;have e:=hj rfl;rw [e] at h1;injection h1 with h1;injection h1 with h1;injection h1 with h1;subst h1;exact ⟨g,e,h2,fun k=>(by cases k),fun _=>hG⟩)
theorem NAt.sli {w:World} {v1 v2 v3:Value} {N:NSta} (h:NAt w v1 v2 v3 N):(∃a n c,v1=.slice a n c)∧(∃a n c,v2=.slice a n c)∧∃a n c,v3=.slice a n c:=by
 obtain ⟨a1,c1,a2,c2,a3,c3,rfl,rfl,rfl⟩:=h.forms;exact ⟨⟨_,_,_,rfl⟩,⟨_,_,_,rfl⟩,⟨_,_,_,rfl⟩⟩
theorem sn_walk (a b c d:ByteArray) (lo:Int) (vn:Bool) (va:ByteArray) (rn:Bool) (ra vl rd:ByteArray) (n:Nat→Int) (w:World) (G:Prop) (cf ce:Int→Int→Nat) (hn:∀j,(n j).natAbs≤32768)
  (hs:∀w':World,Calls Tryz.prog 8 #[.agg #[.string a,.string b,.string c,.string d,.int .i64 lo,.bool vn,.string va,.bool rn,.string ra,.string vl,.string rd]] w' fun e w2=>GateP G w' w2 e) (hlo:G→lo.natAbs<1099511627776)
  (hC:G→∀(m r:Int) (w:World),m.natAbs<1152921504606846976→r.natAbs<1152921504606846976→cf m r<256^8∧Calls Tryz.prog 30 #[.agg #[.string a,.string b,.string c,.string d],.agg #[.bool (sg m),.string (E m.natAbs),.bool (sg r),.string (E r.natAbs)]] w fun e w'=>e=.returned (.tuple #[.string (E (cf m r)),.int .i64 (ce m r)])∧Below w.heap.size w w')
  (hg:G→3≤vl.size→4≤rd.size→∀(S R:Int),S=lo+sqs (xsN n 4)→R=n 8+prd (xsN n 4)→∃(k:Nat) (N:NSta),(∀(vP:Value) (w':World),SsAt w' vP ((psN cf n 4).map E)→Calls Tryz.prog 20 #[.agg #[.string a,.string b,.string c,.string d],.int .i64 lo,.string (E (cf S R)),vP,.string vl,.string rd] w' (StPost w' (k,N))) ∧
   (ce S R=0→k=0→∃(o:Nat) (N2:NSta),(∀(v1 v2 v3 vW:Value) (w':World),NAt w' v1 v2 v3 N→ZsAt w' vW (wsN n 4++[n 8])→Calls Tryz.prog 24 #[.agg #[v1,v2,v3],vW] w' fun e w''=>e=.returned (.tuple #[.bool true,.int .i64 0])∧Below w'.heap.size w' w'') ∧
    (∀w':World,Calls Tryz.prog 33 #[.agg #[.string a,.string b],.string (E (cf S R)),.string c] w' fun e w''=>e=.returned (.tuple #[.string (E o),.int .i64 0])∧Below w'.heap.size w' w'') ∧
    (∀(vP:Value) (w':World),SsAt w' vP ((psN cf n 4).map E)→Calls Tryz.prog 20 #[.agg #[.string a,.string b,.string c,.string d],.int .i64 lo,.string (E o),vP,.string vl,.string rd] w' (StPost w' (0,N2))) ∧
    (∀(v1 v2 v3 vW:Value) (w':World),NAt w' v1 v2 v3 N2→ZsAt w' vW (wsN n 4++[n 8])→Calls Tryz.prog 24 #[.agg #[v1,v2,v3],vW] w' fun e w''=>e=.returned (.tuple #[.bool false,.int .i64 0])∧Below w'.heap.size w' w'') ∧
    (∀w':World,Calls Tryz.prog 34 #[.agg #[.string a,.string b,.string c,.string d],.string (E (cf S R)),.agg #[.bool (sg S),.string (E S.natAbs),.bool (sg R),.string (E R.natAbs)]] w' fun e w''=>e=.returned (.bool true)∧Below w'.heap.size w' w'')))  :
  Calls Tryz.prog 7 #[.agg #[.string a,.string b,.string c,.string d,.int .i64 lo,.bool vn,.string va,.bool rn,.string ra,.string vl,.string rd],.agg #[.int .i16 (n 0),.int .i16 (n 1),.int .i16 (n 2),.int .i16 (n 3),.int .i16 (n 4),.int .i16 (n 5),.int .i16 (n 6),.int .i16 (n 7),.int .i16 (n 8)]] w fun e w'=>e=.returned (.bool true)∧Below w.heap.size w w':=by
 have HS:=Lib.hid hs;have HG:=Lib.hid hg;have HLO0:=Lib.hid hlo;have HCM0:=Lib.hid hC;have HN:=Lib.hid hn;have HW:=Lib.hid (fun w=>awake27_c w);clear hs hg hn hlo hC;have hB:=blk2a w #[.string a,.string b,.string c,.string d,.int .i64 lo,.bool vn,.string va,.bool rn,.string ra,.string vl,.string rd] #[.int .i16 (n 0),.int .i16 (n 1),.int .i16 (n 2),.int .i16 (n 3),.int .i16 (n 4),.int .i16 (n 5),.int .i16 (n 6),.int .i16 (n 7),.int .i16 (n 8)] 32 81;have hA:=blk2b w #[.string a,.string b,.string c,.string d,.int .i64 lo,.bool vn,.string va,.bool rn,.string ra,.string vl,.string rd] #[.int .i16 (n 0),.int .i16 (n 1),.int .i16 (n 2),.int .i16 (n 3),.int .i16 (n 4),.int .i16 (n 5),.int .i16 (n 6),.int .i16 (n 7),.int .i16 (n 8)] 32 81;have hBW:=b2 w (.cells #[.string a,.string b,.string c,.string d,.int .i64 lo,.bool vn,.string va,.bool rn,.string ra,.string vl,.string rd] 32) (.cells #[.int .i16 (n 0),.int .i16 (n 1),.int .i16 (n 2),.int .i16 (n 3),.int .i16 (n 4),.int .i16 (n 5),.int .i16 (n 6),.int .i16 (n 7),.int .i16 (n 8)] 81);obtain ⟨t1,ht1⟩:∃t:Bool,t=decide ((vl.size:Int)<3):=⟨_,rfl⟩;obtain ⟨t2,ht2⟩:∃t:Bool,t=decide ((rd.size:Int)<4):=⟨_,rfl⟩;have HC1:Hid (t1=false→3≤vl.size):=fun h=>by rw [h] at ht1;have:=of_decide_eq_false ht1.symm;omega
 have HC2:Hid (t2=false→4≤rd.size):=fun h=>by rw [h] at ht2;have:=of_decide_eq_false ht2.symm;omega
 have ht1':=ht1.symm;have ht2':=ht2.symm;clear ht1 ht2;obtain ⟨hBc0,hBf0,hBc1,hBf1,hBc2,hBf2,hBc3,hBf3,hBc4,hBf4,hBc5,hBf5,hBc6,hBf6,hBc7,hBf7,hBc8,hBf8,hBc9,hBf9,hBc10,hBf10⟩:=hB.x11;go_enter Tryz.func7,Tryz.ntmps7
 go_upto_region 1 with fail
 clear hBc0 hBf0 hBc1 hBf1 hBc2 hBf2 hBc3 hBf3 hBc4 hBf4 hBc5 hBf5 hBc6 hBf6 hBc7 hBf7 hBc8 hBf8 hBc9 hBf9 hBc10 hBf10;generalize (w.alloc (.cells #[.string a,.string b,.string c,.string d,.int .i64 lo,.bool vn,.string va,.bool rn,.string ra,.string vl,.string rd] 32)).alloc (.cells #[.int .i16 (n 0),.int .i16 (n 1),.int .i16 (n 2),.int .i16 (n 3),.int .i16 (n 4),.int .i16 (n 5),.int .i16 (n 6),.int .i16 (n 7),.int .i16 (n 8)] 81)=w1 at hB hA hBW ⊢;obtain ⟨gA,hgA⟩:∃g,w.heap.size+1=g:=⟨_,rfl⟩;rw [hgA] at hA ⊢;replace hA:Blk w1 gA 81 [.int .i16 (n 0),.int .i16 (n 1),.int .i16 (n 2),.int .i16 (n 3),.int .i16 (n 4),.int .i16 (n 5),.int .i16 (n 6),.int .i16 (n 7),.int .i16 (n 8)]:=hA;replace hB:Blk w1 w.heap.size 32 [.string a,.string b,.string c,.string d,.int .i64 lo,.bool vn,.string va,.bool rn,.string ra,.string vl,.string rd]:=hB;have HGA:Hid (w.heap.size<gA):=by rw [Hid];omega
 clear hgA;obtain ⟨hBc0,hBf0,hBc1,hBf1,hBc2,hBf2,hBc3,hBf3,hBc4,hBf4,hBc5,hBf5,hBc6,hBf6,hBc7,hBf7,hBc8,hBf8,hBc9,hBf9,hBc10,hBf10⟩:=hB.x11;go_wp2_with fail
 refine (HS.out _).mono ?_;rintro e w2 ⟨r,rfl,hr,hb2⟩;have HR:=Lib.hid hr;clear hr;clear hBc0 hBf0 hBc1 hBf1 hBc2 hBf2 hBc3 hBf3 hBc4 hBf4 hBc5 hBf5 hBc6 hBf6 hBc7 hBf7 hBc8 hBf8 hBc9 hBf9 hBc10 hBf10;replace hB:=hB.after hb2;replace hA:=hA.after hb2;replace hBW:=bt hBW hb2;have hBl:=hB.lt;cases r
 case false =>
  obtain ⟨hBc0,hBf0,hBc1,hBf1,hBc2,hBf2,hBc3,hBf3,hBc4,hBf4,hBc5,hBf5,hBc6,hBf6,hBc7,hBf7,hBc8,hBf8,hBc9,hBf9,hBc10,hBf10⟩:=hB.x11;go_wp2_with fail
  refine (HW.out _).mono ?_;rintro e w3 ⟨rfl,hb3⟩;go_wp2;go_ret
  exact ⟨rfl,bt hBW hb3⟩
 case true =>
  cases t1
  case true =>
   obtain ⟨hBc0,hBf0,hBc1,hBf1,hBc2,hBf2,hBc3,hBf3,hBc4,hBf4,hBc5,hBf5,hBc6,hBf6,hBc7,hBf7,hBc8,hBf8,hBc9,hBf9,hBc10,hBf10⟩:=hB.x11;go_wp2_with fail
   refine (HW.out _).mono ?_;rintro e w3 ⟨rfl,hb3⟩;go_wp2;go_ret
   exact ⟨rfl,bt hBW hb3⟩
  case false =>
   cases t2
   case true =>
    obtain ⟨hBc0,hBf0,hBc1,hBf1,hBc2,hBf2,hBc3,hBf3,hBc4,hBf4,hBc5,hBf5,hBc6,hBf6,hBc7,hBf7,hBc8,hBf8,hBc9,hBf9,hBc10,hBf10⟩:=hB.x11;go_wp2_with fail
    refine (HW.out _).mono ?_;rintro e w3 ⟨rfl,hb3⟩;go_wp2;go_ret
    exact ⟨rfl,bt hBW hb3⟩
   case false =>
    have HG1:=Lib.hid (HG.out (HR.out (by trivial)) (HC1.out (by trivial)) (HC2.out (by trivial)));have HLO:=Lib.hid (HLO0.out (HR.out (by trivial)));have HCM:=Lib.hid (HCM0.out (HR.out (by trivial)));clear HG HLO0 HCM0 HC1 HC2 HR;have hK:=Blk.new w2 #[.string a,.string b,.string c,.string d] 26;have hbK:=b1 w2 (.cells #[.string a,.string b,.string c,.string d] 26);obtain ⟨hBc0,hBf0,hBc1,hBf1,hBc2,hBf2,hBc3,hBf3,hBc4,hBf4,hBc5,hBf5,hBc6,hBf6,hBc7,hBf7,hBc8,hBf8,hBc9,hBf9,hBc10,hBf10⟩:=hB.x11;go_upto_region 6 with fail
    clear hBc0 hBf0 hBc1 hBf1 hBc2 hBf2 hBc3 hBf3 hBc4 hBf4 hBc5 hBf5 hBc6 hBf6 hBc7 hBf7 hBc8 hBf8 hBc9 hBf9 hBc10 hBf10;replace hB:=hB.after hbK;replace hA:=hA.after hbK;replace hBW:=bt hBW hbK;clear hbK hBl;generalize w2.alloc (.cells #[.string a,.string b,.string c,.string d] 26)=w3 at hB hA hK hBW ⊢;obtain ⟨gK,hgK⟩:∃g,g=w2.heap.size:=⟨_,rfl⟩;rw [←hgK] at hK ⊢;clear hgK;replace hK:Blk w3 gK 26 [.string a,.string b,.string c,.string d]:=hK;have HLE:Hid (w.heap.size≤w3.heap.size):=hBW.size;have HGL0:Hid (gK<w3.heap.size∧gA<w3.heap.size∧w.heap.size<w3.heap.size):=⟨hK.lt,hA.lt,hB.lt⟩;have HOL:Hid (∀w:World,Calls Tryz.prog 26 #[.int .i64 lo] w fun e w'=>e=.returned (.agg #[.bool (sg (lo)),.string (E (lo).natAbs)])∧Below w.heap.size w w'):=fun w=>l27whole_c lo w (by have:=HLO.out;omega) (by have:=HLO.out;omega)
    have HON:Hid (∀(j:Nat) (w:World),Calls Tryz.prog 26 #[.int .i64 (n j)] w fun e w'=>e=.returned (.agg #[.bool (sg (n j)),.string (E (n j).natAbs)])∧Below w.heap.size w w'):=fun j w=>l27whole_c (n j) w (by have:=HN.out j;omega) (by have:=HN.out j;omega)
    go_cut [8,9] (fun s8 s9 wx=>∃g8 g9,s8=.pointer (some ⟨g8,0,none⟩)∧s9=.pointer (some ⟨g9,0,none⟩)∧g8≠g9∧w3.heap.size≤g8∧w3.heap.size≤g9∧Blk wx g8 28 [.bool (sg lo),.string (E lo.natAbs)]∧Blk wx g9 28 [.bool (sg (n 8)),.string (E (n 8).natAbs)]∧Below w3.heap.size w3 wx)
    case first =>
     refine wp_region_invC (vSn6 w.heap.size gA lo n) [7,8,9,10] w3.heap.size (fSn6 w3.heap.size lo (n 8)) 215 ⟨fun h0=>(by cases h0),fun h0=>(by cases h0),fun h0=>(by cases h0)⟩ (by kernel_rfl) rfl (by kernel_rfl) ?_ ?_ (by kernel_rfl)
     ·intro hsl done a' w' i o hJ ho hun hpre;have hi:=(Array.getElem?_eq_some_iff.1 ho).1;have hst:∀(l:List Bool) (j:Nat) (u:Value) (wa wb:World),Below wa.heap.size wa wb→vSn6 w.heap.size gA lo n l j u wa→vSn6 w.heap.size gA lo n l j u wb:=fun l j u wa wb _ h=>vSn6_any w.heap.size gA lo n j u h
      have hFt:∀(l:List Bool) (t:Array Value) (w w':World),Below w.heap.size w w'→fSn6 w3.heap.size lo (n 8) l t w→fSn6 w3.heap.size lo (n 8) l t w':=fun l t w w' hb h=>fTwo_st hb h
      have hFp:∀(l:List Bool) (t:Array Value) (d:Nat) (v:Value) (w:World),d ∉ [8,9]→fSn6 w3.heap.size lo (n 8) l t w→fSn6 w3.heap.size lo (n 8) l (t.setIfInBounds d v) w:=fun l t d v w hd h=>fTwo_put (fun e=>hd (by rw [e];simp)) (fun e=>hd (by rw [e];simp)) h
      have hwz:=hJ.bw.size
      match i,hi,ho,hun,hpre with
       | 0,_,ho,hun,hpre =>
        simp at ho;subst ho;refine hJ.op (d:=48) hsl hst hFt [8,9] hFp (by decide) hwz rfl rfl rfl (by decide) hpre ?_;simp only [List.getElem_toArray,List.getElem_cons_zero,List.getElem_cons_succ] at hpre ⊢;have q2:=hJ.keep 2 (.pointer (some ⟨w.heap.size,0,none⟩)) rfl (by kernel_rfl);refine wp_val (v:=.pointer (some ⟨w.heap.size,4,none⟩)) (by simp [execOp,q2,go_sem]) rfl
       | 1,_,ho,hun,hpre =>
        simp at ho;subst ho;refine hJ.op (d:=49) hsl hst hFt [8,9] hFp (by decide) hwz rfl rfl rfl (by decide) hpre ?_;simp only [List.getElem_toArray,List.getElem_cons_zero,List.getElem_cons_succ] at hpre ⊢;obtain ⟨v48,ev48,hv48⟩:=hJ.dn 0 _ 48 rfl (hpre { on:=0,ground:=Ground.data } (by simp) rfl) rfl;have qv48:=eval_of ev48;obtain rfl:v48=.pointer (some ⟨w.heap.size,4,none⟩):=hv48;have hBx:=hB.after hJ.bw;have hBl:=hBx.lt;have x4:=hBx.cell 4;refine wp_val (v:=.int .i64 lo) (by simp [execOp,ev48,go_sem,x4]) rfl
       | 2,_,ho,hun,hpre =>
        simp at ho;subst ho;refine hJ.op (d:=50) hsl hst hFt [8,9] hFp (by decide) hwz rfl rfl rfl (by decide) hpre ?_;simp only [List.getElem_toArray,List.getElem_cons_zero,List.getElem_cons_succ] at hpre ⊢;obtain ⟨v49,ev49,hv49⟩:=hJ.dn 1 _ 49 rfl (hpre { on:=1,ground:=Ground.data } (by simp) rfl) rfl;have qv49:=eval_of ev49;obtain rfl:v49=.int .i64 lo:=hv49;refine wp_callX 26 #[.tmp 49] #[2] rfl (enters_of Tryz.func26 (by kernel_rfl) rfl) ?_;simp only [List.map_toArray,List.map_cons,List.map_nil,qv49];refine (HOL.out w').mono ?_;rintro e w'' ⟨rfl,hb⟩;exact ⟨_,rfl,hb,rfl⟩
       | 3,_,ho,hun,hpre =>
        simp at ho;subst ho;refine hJ.op (d:=51) hsl hst hFt [8,9] hFp (by decide) hwz rfl rfl rfl (by decide) hpre ?_;simp only [List.getElem_toArray,List.getElem_cons_zero,List.getElem_cons_succ] at hpre ⊢;have q3:=hJ.keep 3 (.pointer (some ⟨gA,0,none⟩)) rfl (by kernel_rfl);refine wp_val (v:=.pointer (some ⟨gA,8,none⟩)) (by simp [execOp,q3,go_sem]) rfl
       | 4,_,ho,hun,hpre =>
        simp at ho;subst ho;refine hJ.op (d:=52) hsl hst hFt [8,9] hFp (by decide) hwz rfl rfl rfl (by decide) hpre ?_;simp only [List.getElem_toArray,List.getElem_cons_zero,List.getElem_cons_succ] at hpre ⊢;obtain ⟨v51,ev51,hv51⟩:=hJ.dn 3 _ 51 rfl (hpre { on:=3,ground:=Ground.data } (by simp) rfl) rfl;have qv51:=eval_of ev51;obtain rfl:v51=.pointer (some ⟨gA,8,none⟩):=hv51;have hAx:=hA.after hJ.bw;have hAl:=hAx.lt;have x8:=hAx.cell 8;refine wp_val (v:=.int .i16 (n 8)) (by simp [execOp,ev51,go_sem,x8]) rfl
       | 5,_,ho,hun,hpre =>
        simp at ho;subst ho;refine hJ.op (d:=53) hsl hst hFt [8,9] hFp (by decide) hwz rfl rfl rfl (by decide) hpre ?_;simp only [List.getElem_toArray,List.getElem_cons_zero,List.getElem_cons_succ] at hpre ⊢;obtain ⟨v52,ev52,hv52⟩:=hJ.dn 4 _ 52 rfl (hpre { on:=4,ground:=Ground.data } (by simp) rfl) rfl;have qv52:=eval_of ev52;obtain rfl:v52=.int .i16 (n 8):=hv52;have hn8:=HN.out 8;have ew:IntKind.i64.wrap (n 8)=n 8:=IntWalk.i64_in _ (by omega);refine wp_val (v:=.int .i64 (n 8)) (by simp [execOp,ev52,go_sem,ew]) rfl
       | 6,_,ho,hun,hpre =>
        simp at ho;subst ho;refine hJ.op (d:=54) hsl hst hFt [8,9] hFp (by decide) hwz rfl rfl rfl (by decide) hpre ?_;simp only [List.getElem_toArray,List.getElem_cons_zero,List.getElem_cons_succ] at hpre ⊢;obtain ⟨v53,ev53,hv53⟩:=hJ.dn 5 _ 53 rfl (hpre { on:=5,ground:=Ground.data } (by simp) rfl) rfl;have qv53:=eval_of ev53;obtain rfl:v53=.int .i64 (n 8):=hv53;refine wp_callX 26 #[.tmp 53] #[2] rfl (enters_of Tryz.func26 (by kernel_rfl) rfl) ?_;simp only [List.map_toArray,List.map_cons,List.map_nil,qv53];refine (HON.out 8 w').mono ?_;rintro e w'' ⟨rfl,hb⟩;exact ⟨_,rfl,hb,rfl⟩
       | 7,_,ho,hun,hpre =>
        simp at ho;subst ho;simp only [List.getElem_toArray,List.getElem_cons_zero,List.getElem_cons_succ] at hpre
        have k9:done.getD 9 false=false:=by
         cases a9:done.getD 9 false with
         | false=>rfl
         | true =>
          have a7:=hJ.pr 9 _ rfl a9 { on:=7,ground:=Ground.data } (by simp) rfl;rw [hun] at a7;cases a7
        have hi7:7<done.size:=by rw [hJ.sz];decide
        have hex:=hJ.ex;rw [fSn6_eq] at hex;rw [hun,k9] at hex;have hds:8<a'.tmps.size:=by rw [hJ.ts];exact (by decide:8<215)
        refine wpOp_step rfl fun K' hK=>?_
        simp only [List.getElem_toArray,List.getElem_cons_zero,List.getElem_cons_succ];rw [if_pos (by simp [Region.wanted])];simp [Oper.wp,execOp,go_sem];have h9:=hJ.put (i:=7) (d:=8) (v:=.pointer (some ⟨w'.heap.size,0,none⟩)) (w':=w'.alloc (.cells #[.bool false,.string ⟨#[]⟩] 28)) hsl rfl rfl hpre (ba hJ.bw _) ?_ ?_ trivial
        ·exact hK _ _ h9
        ·rw [fSn6_eq];simp only [getD_set _ _ _ hi7,Nat.reduceEqDiff,if_true,if_false,k9];exact fTwo_new1 hds (by decide) hwz hex
        ·intro j q hq hj hdn u h;exact vSn6_any w.heap.size gA lo n j u h
       | 8,_,ho,hun,hpre =>
        simp at ho;subst ho;simp only [List.getElem_toArray,List.getElem_cons_zero,List.getElem_cons_succ] at hpre
        have k10:done.getD 10 false=false:=by
         cases a10:done.getD 10 false with
         | false=>rfl
         | true =>
          have a8:=hJ.pr 10 _ rfl a10 { on:=8,ground:=Ground.data } (by simp) rfl;rw [hun] at a8;cases a8
        have hi8:8<done.size:=by rw [hJ.sz];decide
        have hex:=hJ.ex;rw [fSn6_eq] at hex;rw [hun,k10] at hex;have hds:9<a'.tmps.size:=by rw [hJ.ts];exact (by decide:9<215)
        refine wpOp_step rfl fun K' hK=>?_
        simp only [List.getElem_toArray,List.getElem_cons_zero,List.getElem_cons_succ];rw [if_pos (by simp [Region.wanted])];simp [Oper.wp,execOp,go_sem];have h9:=hJ.put (i:=8) (d:=9) (v:=.pointer (some ⟨w'.heap.size,0,none⟩)) (w':=w'.alloc (.cells #[.bool false,.string ⟨#[]⟩] 28)) hsl rfl rfl hpre (ba hJ.bw _) ?_ ?_ trivial
        ·exact hK _ _ h9
        ·rw [fSn6_eq];simp only [getD_set _ _ _ hi8,Nat.reduceEqDiff,if_true,if_false,k10];exact fTwo_new2 hds (by decide) hwz hex
        ·intro j q hq hj hdn u h;exact vSn6_any w.heap.size gA lo n j u h
       | 9,_,ho,hun,hpre =>
        simp at ho;subst ho;simp only [List.getElem_toArray,List.getElem_cons_zero,List.getElem_cons_succ] at hpre;obtain ⟨v50,ev50,hv50⟩:=hJ.dn 2 _ 50 rfl (hpre { on:=2,ground:=Ground.data } (by simp) rfl) rfl;have qv50:=eval_of ev50;obtain rfl:v50=.agg #[.bool (sg (lo)),.string (E (lo).natAbs)]:=hv50;have a7:=hpre { on:=7,ground:=Ground.data } (by simp) rfl;have hi9:9<done.size:=by rw [hJ.sz];decide
        have hex:=hJ.ex;rw [fSn6_eq] at hex;rw [hun,a7] at hex;obtain ⟨g,hg,hBg,hGk⟩:=hex.1 rfl;have hGk:Blk w' g 28 [.bool false,.string ⟨#[]⟩]:=hGk;have qg:=eval_of hg;have hgl:=hGk.lt;have f0:=hGk.free 0;have f1:=hGk.free 1;have c0:=hGk.cell 0;have c1:=hGk.cell 1;refine wpOp_step rfl fun K' hK=>?_
        simp only [List.getElem_toArray,List.getElem_cons_zero,List.getElem_cons_succ];rw [if_pos (by simp [Region.wanted])];simp [Oper.wp,execOp,ev50,hg,go_sem,f0,f1,c0,c1,hgl];have h9:=hJ.skip (i:=9) (v:=undef) rfl rfl hpre ((hJ.bw.setCell (p:=⟨g,0,none⟩) hBg (.bool (sg (lo)))).setCell (p:=⟨g,1,none⟩) hBg (.string (E (lo).natAbs))) ?_ ?_
        ·exact hK a' _ h9
        ·rw [fSn6_eq];simp only [getD_set _ _ _ hi9,Nat.reduceEqDiff,if_true,if_false,a7];exact fTwo_set1 hg hex
        ·intro j q hq hj hdn d u hd hu hv;exact vSn6_any w.heap.size gA lo n j u hv
       | 10,_,ho,hun,hpre =>
        simp at ho;subst ho;simp only [List.getElem_toArray,List.getElem_cons_zero,List.getElem_cons_succ] at hpre;obtain ⟨v54,ev54,hv54⟩:=hJ.dn 6 _ 54 rfl (hpre { on:=6,ground:=Ground.data } (by simp) rfl) rfl;have qv54:=eval_of ev54;obtain rfl:v54=.agg #[.bool (sg (n 8)),.string (E (n 8).natAbs)]:=hv54;have a8:=hpre { on:=8,ground:=Ground.data } (by simp) rfl;have hi10:10<done.size:=by rw [hJ.sz];decide
        have hex:=hJ.ex;rw [fSn6_eq] at hex;rw [hun,a8] at hex;obtain ⟨g,hg,hBg,hGk⟩:=hex.2.1 rfl;have hGk:Blk w' g 28 [.bool false,.string ⟨#[]⟩]:=hGk;have qg:=eval_of hg;have hgl:=hGk.lt;have f0:=hGk.free 0;have f1:=hGk.free 1;have c0:=hGk.cell 0;have c1:=hGk.cell 1;refine wpOp_step rfl fun K' hK=>?_
        simp only [List.getElem_toArray,List.getElem_cons_zero,List.getElem_cons_succ];rw [if_pos (by simp [Region.wanted])];simp [Oper.wp,execOp,ev54,hg,go_sem,f0,f1,c0,c1,hgl];have h9:=hJ.skip (i:=10) (v:=undef) rfl rfl hpre ((hJ.bw.setCell (p:=⟨g,0,none⟩) hBg (.bool (sg (n 8)))).setCell (p:=⟨g,1,none⟩) hBg (.string (E (n 8).natAbs))) ?_ ?_
        ·exact hK a' _ h9
        ·rw [fSn6_eq];simp only [getD_set _ _ _ hi10,Nat.reduceEqDiff,if_true,if_false,a8];exact fTwo_set2 hg hex
        ·intro j q hq hj hdn d u hd hu hv;exact vSn6_any w.heap.size gA lo n j u hv
     ·intro done a' w' hJ hd;obtain ⟨f,hf,hv⟩:=hJ.all hd;have hex:=hJ.ex;rw [fSn6_eq,hd 7 (by decide),hd 8 (by decide),hd 9 (by decide),hd 10 (by decide)] at hex;obtain ⟨hx1,hx2,hx3⟩:=hex;obtain ⟨g8,e8,hB8,hG8⟩:=hx1 rfl;obtain ⟨g9,e9,hB9,hG9⟩:=hx2 rfl;have hne:g8≠g9:=fun e=>hx3 rfl rfl (by rw [e8,e9,e])
      have hG8:Blk w' g8 28 [.bool (sg lo),.string (E lo.natAbs)]:=hG8;have hG9:Blk w' g9 28 [.bool (sg (n 8)),.string (E (n 8).natAbs)]:=hG9;have hbw:=hJ.bw;clear hJ hv hd hx1 hx2 hx3;subst hf;simp only [putAll,List.size_toArray,List.length_cons,List.length_nil,Nat.reduceAdd,List.getElem?_toArray,List.getElem?_cons_zero,List.getElem?_cons_succ,Option.bind_some,Act.put,List.setIfInBounds_toArray,List.set_cons_zero,List.set_cons_succ] at e8 e9 ⊢;simp only [List.getElem?_toArray,List.getElem?_cons_succ,List.getElem?_cons_zero,Option.some.injEq] at e8 e9;rw [e8,e9];clear e8 e9;go_wp2_with fail
      go_meet
      exact ⟨g8,g9,rfl,rfl,hne,hB8,hB9,hG8,hG9,hbw⟩
    case rest =>
     obtain ⟨g8,g9,rfl,rfl,hne,hB8,hB9,hG8,hG9,hb4⟩:=hcut;obtain ⟨w4,hw4⟩:∃w4,w4=wc:=⟨_,rfl⟩;subst hw4;replace hB:=hB.after hb4;replace hA:=hA.after hb4;replace hK:=hK.after hb4;replace hBW:=bt hBW hb4;obtain ⟨i0,hi0,hz00,hz01,hz02⟩:=info_parts info_nat;have HI0:=Lib.hid hi0;have HA0:=Lib.hid hz00;have HB0:=Lib.hid hz01;have HC0:=Lib.hid hz02;obtain ⟨i1,hi1,hz10,hz11,hz12⟩:=info_parts info_Int;have HI1:=Lib.hid hi1;have HA1:=Lib.hid hz10;have HB1:=Lib.hid hz11;have HC1:=Lib.hid hz12;clear hi0 hz00 hz01 hz02 hi1 hz10 hz11 hz12;have HS0:Hid (w4.heap.size≤w4.heap.size):=Nat.le_refl _;have HG89:Hid (g8<w4.heap.size∧g9<w4.heap.size∧g8≠g9):=⟨hG8.lt,hG9.lt,hne⟩;have HB8:=Lib.hid hB8;have HB9:=Lib.hid hB9;have HGL:Hid (gK<w3.heap.size∧gA<w3.heap.size∧w.heap.size<w3.heap.size):=HGL0.out;have HW34:Hid (w3.heap.size≤w4.heap.size):=hb4.size;have HBW4:=Lib.hid hBW;have HB4:=Lib.hid hb4;clear hne hB8 hB9 hb4;go_wp2;go_loopw [6,7,10] (fun v6 v7 i wr=>∃(k:Nat) (S R:Int),k≤4∧i=.int .i64 k∧Hid (S=lo+sqs (xsN n k))∧Hid (R=n 8+prd (xsN n k))∧NOwn wr w4.heap.size v6 (psN cf n k)∧ZOwn wr w4.heap.size v7 (wsN n k)∧Blk wr g8 28 [.bool (sg S),.string (E S.natAbs)]∧Blk wr g9 28 [.bool (sg R),.string (E R.natAbs)]∧Blk wr w.heap.size 32 [.string a,.string b,.string c,.string d,.int .i64 lo,.bool vn,.string va,.bool rn,.string ra,.string vl,.string rd]∧Blk wr gK 26 [.string a,.string b,.string c,.string d]∧Blk wr gA 81 [.int .i16 (n 0),.int .i16 (n 1),.int .i16 (n 2),.int .i16 (n 3),.int .i16 (n 4),.int .i16 (n 5),.int .i16 (n 6),.int .i16 (n 7),.int .i16 (n 8)]∧w4.heap.size≤wr.heap.size∧Below w.heap.size w wr) (fun _ _ i _=>4-(intOf i).toNat)
     case atStart=>exact ⟨0,lo,n 8,by omega,rfl,(by rw [Hid];show lo=lo+0;omega),(by rw [Hid];show n 8=n 8+0;omega),World.ownsRow_nil _ _ _ _,World.ownsRow_nil _ _ _ _,hG8,hG9,hB,hK,hA,Nat.le_refl _,hBW⟩
     case round =>
      clear hG8 hG9 hB hK hA hBW HS0;obtain ⟨k,S,R,hk,rfl,HSS,HRR,hN6,hZ7,hG8,hG9,hB,hK,hA,hsz,hBW⟩:=hrel;obtain ⟨wp,hwp⟩:∃wp,wp=wr:=⟨_,rfl⟩;subst hwp;by_cases hlt:k<4
      ·have HAK:Hid (∀(k:Nat) (w':World),k<9→Below wp.heap.size wp w'→w'.cell? ⟨gA,k,none⟩=some (.int .i16 (n k))∧gA<w'.heap.size):=fun k w' hk hb=>by
        have h:=hA.after hb;refine ⟨?_,h.lt⟩;match k,hk with
        | 0,_=>exact h.cell 0
        | 1,_=>exact h.cell 1
        | 2,_=>exact h.cell 2
        | 3,_=>exact h.cell 3
        | 4,_=>exact h.cell 4
        | 5,_=>exact h.cell 5
        | 6,_=>exact h.cell 6
        | 7,_=>exact h.cell 7
        | 8,_=>exact h.cell 8
        | k+9,hk=>omega
       obtain ⟨x,hx⟩:∃x,x=n (2*k):=⟨_,rfl⟩;obtain ⟨r,hr⟩:∃r,r=n (2*k+1):=⟨_,rfl⟩;have HX:=Lib.hid hx;have HR:=Lib.hid hr;have HXB:Hid (x.natAbs≤32768∧r.natAbs≤32768):=⟨by rw [hx];exact HN.out _,by rw [hr];exact HN.out _⟩;have HOX:Hid (∀w:World,Calls Tryz.prog 26 #[.int .i64 x] w fun e w'=>e=.returned (.agg #[.bool (sg (x)),.string (E (x).natAbs)])∧Below w.heap.size w w'):=fun w=>by rw [hx];exact HON.out _ w
       have HOR:Hid (∀w:World,Calls Tryz.prog 26 #[.int .i64 r] w fun e w'=>e=.returned (.agg #[.bool (sg (r)),.string (E (r).natAbs)])∧Below w.heap.size w w'):=fun w=>by rw [hr];exact HON.out _ w
       have HKL:Hid (k<4):=hlt;clear hx hr;go_upto_region 10 with fail
       go_cut [11] (fun s11 wx=>∃g11,s11=.pointer (some ⟨g11,0,none⟩)∧wp.heap.size≤g11∧Blk wx g11 30 [.bool (sg x),.string (E x.natAbs),.bool (sg r),.string (E r.natAbs)]∧Below wp.heap.size wp wx)
       case first =>
        refine wp_region_invB (vSn10 gA k wp.heap.size x r) [15] wp.heap.size (fun _ _=>True) 215 trivial (by kernel_rfl) rfl (by kernel_rfl) ?_ ?_ (by kernel_rfl)
        ·intro hsl done a' w' i o hJ ho hun hpre;have hi:=(Array.getElem?_eq_some_iff.1 ho).1;have hst:=vSn10_st gA k wp.heap.size x r;have hFt:∀(b:List Bool) (w w':World),Below w.heap.size w w'→(fun (_:List Bool) (_:World)=>True) b w→(fun (_:List Bool) (_:World)=>True) b w':=fun _ _ _ _ _=>trivial
         have hwz:=hJ.bw.size;have hk4:=HKL.out
         match i,hi,ho,hun,hpre with
          | 0,_,ho,hun,hpre =>
           simp at ho;subst ho;refine hJ.op (d:=59) hsl hst hFt hwz rfl rfl rfl (by decide) hpre ?_;simp only [List.getElem_toArray,List.getElem_cons_zero,List.getElem_cons_succ] at hpre ⊢;have q10:=hJ.keep 10 (.int .i64 (k:Int)) rfl (by kernel_rfl);refine wp_val (v:=.int .i64 (k:Int)) (by simp [execOp,q10,go_sem]) rfl
          | 1,_,ho,hun,hpre =>
           simp at ho;subst ho;refine hJ.op (d:=60) hsl hst hFt hwz rfl rfl rfl (by decide) hpre ?_;simp only [List.getElem_toArray,List.getElem_cons_zero,List.getElem_cons_succ] at hpre ⊢;obtain ⟨v59,ev59,hv59⟩:=hJ.dn 0 _ 59 rfl (hpre { on:=0,ground:=Ground.data } (by simp) rfl) rfl;have qv59:=eval_of ev59;obtain rfl:v59=.int .i64 (k:Int):=hv59;refine wp_val (v:=.int .i64 ((2*k:Nat):Int)) (by rcases (show k=0∨k=1∨k=2∨k=3 by omega) with rfl | rfl | rfl | rfl <;> (simp [execOp,ev59,go_sem];try rfl)) rfl
          | 2,_,ho,hun,hpre =>
           simp at ho;subst ho;refine hJ.op (d:=61) hsl hst hFt hwz rfl rfl rfl (by decide) hpre ?_;simp only [List.getElem_toArray,List.getElem_cons_zero,List.getElem_cons_succ] at hpre ⊢;have q3:=hJ.keep 3 (.pointer (some ⟨gA,0,none⟩)) rfl (by kernel_rfl);obtain ⟨v60,ev60,hv60⟩:=hJ.dn 1 _ 60 rfl (hpre { on:=1,ground:=Ground.data } (by simp) rfl) rfl;have qv60:=eval_of ev60;obtain rfl:v60=.int .i64 ((2*k:Nat):Int):=hv60;refine wp_val (v:=.pointer (some ⟨gA,2*k,none⟩)) (by rcases (show k=0∨k=1∨k=2∨k=3 by omega) with rfl | rfl | rfl | rfl <;> (simp [execOp,q3,ev60,go_sem];try rfl)) rfl
          | 3,_,ho,hun,hpre =>
           simp at ho;subst ho;refine hJ.op (d:=62) hsl hst hFt hwz rfl rfl rfl (by decide) hpre ?_;simp only [List.getElem_toArray,List.getElem_cons_zero,List.getElem_cons_succ] at hpre ⊢;obtain ⟨v61,ev61,hv61⟩:=hJ.dn 2 _ 61 rfl (hpre { on:=2,ground:=Ground.data } (by simp) rfl) rfl;have qv61:=eval_of ev61;obtain rfl:v61=.pointer (some ⟨gA,2*k,none⟩):=hv61;obtain ⟨x9,hAl⟩:=HAK.out (2*k) w' (by omega) hJ.bw;rw [←HX.out] at x9;refine wp_val (v:=.int .i16 x) (by simp [execOp,ev61,go_sem,x9]) rfl
          | 4,_,ho,hun,hpre =>
           simp at ho;subst ho;refine hJ.op (d:=63) hsl hst hFt hwz rfl rfl rfl (by decide) hpre ?_;simp only [List.getElem_toArray,List.getElem_cons_zero,List.getElem_cons_succ] at hpre ⊢;obtain ⟨v62,ev62,hv62⟩:=hJ.dn 3 _ 62 rfl (hpre { on:=3,ground:=Ground.data } (by simp) rfl) rfl;have qv62:=eval_of ev62;obtain rfl:v62=.int .i16 x:=hv62;have hbd:=HXB.out.1;have ew:IntKind.i64.wrap x=x:=IntWalk.i64_in _ (by omega);refine wp_val (v:=.int .i64 x) (by simp [execOp,ev62,go_sem,ew]) rfl
          | 5,_,ho,hun,hpre =>
           simp at ho;subst ho;refine hJ.op (d:=64) hsl hst hFt hwz rfl rfl rfl (by decide) hpre ?_;simp only [List.getElem_toArray,List.getElem_cons_zero,List.getElem_cons_succ] at hpre ⊢;obtain ⟨v63,ev63,hv63⟩:=hJ.dn 4 _ 63 rfl (hpre { on:=4,ground:=Ground.data } (by simp) rfl) rfl;have qv63:=eval_of ev63;obtain rfl:v63=.int .i64 x:=hv63;refine wp_callX 26 #[.tmp 63] #[2] rfl (enters_of Tryz.func26 (by kernel_rfl) rfl) ?_;simp only [List.map_toArray,List.map_cons,List.map_nil,qv63];refine (HOX.out w').mono ?_;rintro e w'' ⟨rfl,hb⟩;exact ⟨_,rfl,hb,rfl⟩
          | 6,_,ho,hun,hpre =>
           simp at ho;subst ho;refine hJ.op (d:=65) hsl hst hFt hwz rfl rfl rfl (by decide) hpre ?_;simp only [List.getElem_toArray,List.getElem_cons_zero,List.getElem_cons_succ] at hpre ⊢;have q10:=hJ.keep 10 (.int .i64 (k:Int)) rfl (by kernel_rfl);refine wp_val (v:=.int .i64 (k:Int)) (by simp [execOp,q10,go_sem]) rfl
          | 7,_,ho,hun,hpre =>
           simp at ho;subst ho;refine hJ.op (d:=66) hsl hst hFt hwz rfl rfl rfl (by decide) hpre ?_;simp only [List.getElem_toArray,List.getElem_cons_zero,List.getElem_cons_succ] at hpre ⊢;obtain ⟨v65,ev65,hv65⟩:=hJ.dn 6 _ 65 rfl (hpre { on:=6,ground:=Ground.data } (by simp) rfl) rfl;have qv65:=eval_of ev65;obtain rfl:v65=.int .i64 (k:Int):=hv65;refine wp_val (v:=.int .i64 ((2*k:Nat):Int)) (by rcases (show k=0∨k=1∨k=2∨k=3 by omega) with rfl | rfl | rfl | rfl <;> (simp [execOp,ev65,go_sem];try rfl)) rfl
          | 8,_,ho,hun,hpre =>
           simp at ho;subst ho;refine hJ.op (d:=67) hsl hst hFt hwz rfl rfl rfl (by decide) hpre ?_;simp only [List.getElem_toArray,List.getElem_cons_zero,List.getElem_cons_succ] at hpre ⊢;obtain ⟨v66,ev66,hv66⟩:=hJ.dn 7 _ 66 rfl (hpre { on:=7,ground:=Ground.data } (by simp) rfl) rfl;have qv66:=eval_of ev66;obtain rfl:v66=.int .i64 ((2*k:Nat):Int):=hv66;refine wp_val (v:=.int .i64 ((2*k+1:Nat):Int)) (by rcases (show k=0∨k=1∨k=2∨k=3 by omega) with rfl | rfl | rfl | rfl <;> (simp [execOp,ev66,go_sem];try rfl)) rfl
          | 9,_,ho,hun,hpre =>
           simp at ho;subst ho;refine hJ.op (d:=68) hsl hst hFt hwz rfl rfl rfl (by decide) hpre ?_;simp only [List.getElem_toArray,List.getElem_cons_zero,List.getElem_cons_succ] at hpre ⊢;have q3:=hJ.keep 3 (.pointer (some ⟨gA,0,none⟩)) rfl (by kernel_rfl);obtain ⟨v67,ev67,hv67⟩:=hJ.dn 8 _ 67 rfl (hpre { on:=8,ground:=Ground.data } (by simp) rfl) rfl;have qv67:=eval_of ev67;obtain rfl:v67=.int .i64 ((2*k+1:Nat):Int):=hv67;refine wp_val (v:=.pointer (some ⟨gA,2*k+1,none⟩)) (by rcases (show k=0∨k=1∨k=2∨k=3 by omega) with rfl | rfl | rfl | rfl <;> (simp [execOp,q3,ev67,go_sem];try rfl)) rfl
          | 10,_,ho,hun,hpre =>
           simp at ho;subst ho;refine hJ.op (d:=69) hsl hst hFt hwz rfl rfl rfl (by decide) hpre ?_;simp only [List.getElem_toArray,List.getElem_cons_zero,List.getElem_cons_succ] at hpre ⊢;obtain ⟨v68,ev68,hv68⟩:=hJ.dn 9 _ 68 rfl (hpre { on:=9,ground:=Ground.data } (by simp) rfl) rfl;have qv68:=eval_of ev68;obtain rfl:v68=.pointer (some ⟨gA,2*k+1,none⟩):=hv68;obtain ⟨x9,hAl⟩:=HAK.out (2*k+1) w' (by omega) hJ.bw;rw [←HR.out] at x9;refine wp_val (v:=.int .i16 r) (by simp [execOp,ev68,go_sem,x9]) rfl
          | 11,_,ho,hun,hpre =>
           simp at ho;subst ho;refine hJ.op (d:=70) hsl hst hFt hwz rfl rfl rfl (by decide) hpre ?_;simp only [List.getElem_toArray,List.getElem_cons_zero,List.getElem_cons_succ] at hpre ⊢;obtain ⟨v69,ev69,hv69⟩:=hJ.dn 10 _ 69 rfl (hpre { on:=10,ground:=Ground.data } (by simp) rfl) rfl;have qv69:=eval_of ev69;obtain rfl:v69=.int .i16 r:=hv69;have hbd:=HXB.out.2;have ew:IntKind.i64.wrap r=r:=IntWalk.i64_in _ (by omega);refine wp_val (v:=.int .i64 r) (by simp [execOp,ev69,go_sem,ew]) rfl
          | 12,_,ho,hun,hpre =>
           simp at ho;subst ho;refine hJ.op (d:=71) hsl hst hFt hwz rfl rfl rfl (by decide) hpre ?_;simp only [List.getElem_toArray,List.getElem_cons_zero,List.getElem_cons_succ] at hpre ⊢;obtain ⟨v70,ev70,hv70⟩:=hJ.dn 11 _ 70 rfl (hpre { on:=11,ground:=Ground.data } (by simp) rfl) rfl;have qv70:=eval_of ev70;obtain rfl:v70=.int .i64 r:=hv70;refine wp_callX 26 #[.tmp 70] #[2] rfl (enters_of Tryz.func26 (by kernel_rfl) rfl) ?_;simp only [List.map_toArray,List.map_cons,List.map_nil,qv70];refine (HOR.out w').mono ?_;rintro e w'' ⟨rfl,hb⟩;exact ⟨_,rfl,hb,rfl⟩
          | 13,_,ho,hun,hpre =>
           simp at ho;subst ho;refine hJ.op (d:=72) hsl hst hFt hwz rfl rfl rfl (by decide) hpre ?_;simp only [List.getElem_toArray,List.getElem_cons_zero,List.getElem_cons_succ] at hpre ⊢;obtain ⟨v64,ev64,hv64⟩:=hJ.dn 5 _ 64 rfl (hpre { on:=5,ground:=Ground.data } (by simp) rfl) rfl;have qv64:=eval_of ev64;obtain ⟨v71,ev71,hv71⟩:=hJ.dn 12 _ 71 rfl (hpre { on:=12,ground:=Ground.data } (by simp) rfl) rfl;have qv71:=eval_of ev71;obtain rfl:v64=.agg #[.bool (sg (x)),.string (E (x).natAbs)]:=hv64;obtain rfl:v71=.agg #[.bool (sg (r)),.string (E (r).natAbs)]:=hv71;refine wp_val (v:=.agg #[.bool (sg x),.string (E x.natAbs),.bool (sg r),.string (E r.natAbs)]) (by simp [execOp,ev64,ev71,go_sem]) rfl
          | 14,_,ho,hun,hpre =>
           simp at ho;subst ho;refine hJ.op (d:=11) hsl hst hFt hwz rfl rfl rfl (by decide) hpre ?_;simp only [List.getElem_toArray,List.getElem_cons_zero,List.getElem_cons_succ] at hpre ⊢
           have hs0:stB [15] done=[false]:=by
            have k15:done.getD 15 false=false:=by
             cases a15:done.getD 15 false with
             | false=>rfl
             | true =>
              have a14:=hJ.pr 15 _ rfl a15 { on:=14,ground:=Ground.data } (by simp) rfl;rw [hun] at a14;cases a14
            simp only [stB,List.map_cons,List.map_nil,k15]
           have hN:=Blk.new w' #[.bool false,.string ⟨#[]⟩,.bool false,.string ⟨#[]⟩] 30;simp [Oper.wp,execOp,go_sem];exact ⟨_,rfl,b1 _ _,_,rfl,hwz,fun _=>hN,fun h0=>by rw [hs0] at h0;cases h0⟩
          | 15,_,ho,hun,hpre =>
           simp at ho;subst ho;simp only [List.getElem_toArray,List.getElem_cons_zero,List.getElem_cons_succ] at hpre;obtain ⟨v72,ev72,hv72⟩:=hJ.dn 13 _ 72 rfl (hpre { on:=13,ground:=Ground.data } (by simp) rfl) rfl;have qv72:=eval_of ev72;obtain ⟨v11,ev11,hv11⟩:=hJ.dn 14 _ 11 rfl (hpre { on:=14,ground:=Ground.data } (by simp) rfl) rfl;have qv11:=eval_of ev11
           have hs0:stB [15] done=[false]:=by
            have k15:done.getD 15 false=false:=hun;simp only [stB,List.map_cons,List.map_nil,k15]
           have hi15:15<done.size:=by rw [hJ.sz];decide
           have hs1:stB [15] (done.setIfInBounds 15 true)=[true]:=by
            have e:=hs0;simp only [stB,List.map_cons,List.map_nil,List.cons.injEq,and_true] at e;simp only [stB,List.map_cons,List.map_nil,getD_set _ _ _ hi15,e,if_true,if_false,Nat.reduceEqDiff]
           obtain rfl:v72=.agg #[.bool (sg x),.string (E x.natAbs),.bool (sg r),.string (E r.natAbs)]:=hv72;rw [hs0] at hv11;obtain ⟨g,rfl,hBg,hG,_⟩:=hv11;have hG:=hG rfl;have hGl:=hG.lt;have f0:=hG.free 0;have f1:=hG.free 1;have f2:=hG.free 2;have f3:=hG.free 3;have z0:=hG.cell 0;have z1:=hG.cell 1;have z2:=hG.cell 2;have z3:=hG.cell 3;refine wpOp_step rfl fun K' hK=>?_
           simp only [List.getElem_toArray,List.getElem_cons_zero,List.getElem_cons_succ];rw [if_pos (by simp [Region.wanted])];simp [Oper.wp,execOp,ev72,ev11,go_sem,f0,f1,f2,f3,z0,z1,z2,z3,hGl];have h9:=hJ.skip (i:=15) (v:=undef) rfl rfl hpre ((((hJ.bw.setCell (p:=⟨g,0,none⟩) hBg (.bool (sg x))).setCell (p:=⟨g,1,none⟩) hBg (.string (E x.natAbs))).setCell (p:=⟨g,2,none⟩) hBg (.bool (sg r))).setCell (p:=⟨g,3,none⟩) hBg (.string (E r.natAbs))) trivial ?_
           ·exact hK a' _ h9
           ·intro j q hq hj hdn d u hd hu hv;rw [hs0] at hv;rw [hs1];refine vSn10_sto ((((hG.set 0 _).set 1 _).set 2 _).set 3 _) j u ?_ hv;rintro rfl;simp at hq;subst hq;cases hd
            rw [ev11] at hu;injection hu with hu
            exact hu.symm
        ·intro done a' w' hJ hd;obtain ⟨f,hf,hv⟩:=hJ.all hd;have hs1:stB [15] done=[true]:=stB_all hd (by kernel_rfl);have h14:=hv 14 _ 11 rfl rfl;rw [hs1] at h14;obtain ⟨g11,e11,hB11,_,hG11⟩:=h14;replace hG11:=hG11 rfl;have hbw:=hJ.bw;clear hJ hv hd;subst hf;simp only [putAll,List.size_toArray,List.length_cons,List.length_nil,Nat.reduceAdd,List.getElem?_toArray,List.getElem?_cons_zero,List.getElem?_cons_succ,Option.bind_some,Act.put,List.setIfInBounds_toArray,List.set_cons_zero,List.set_cons_succ];rw [e11];go_wp2_with fail
         go_meet
         exact ⟨g11,rfl,hB11,hG11,hbw⟩
       case rest =>
        obtain ⟨g11,rfl,hB11,hG11,hb5⟩:=hcut;obtain ⟨w5,hw5⟩:∃w5,w5=wc:=⟨_,rfl⟩;subst hw5;clear HAK HOX HOR HKL;have HG11:Hid (w4.heap.size≤g11):=Nat.le_trans hsz hB11;clear hB11;replace hN6:NOwn w5 w4.heap.size u6 (psN cf n (k)):=own_after hN6 hb5;replace hZ7:ZOwn w5 w4.heap.size u7 (wsN n (k)):=own_after hZ7 hb5;replace hG8:=hG8.after hb5;replace hG9:=hG9.after hb5;replace hB:=hB.after hb5;replace hK:=hK.after hb5;replace hA:=hA.after hb5;replace hBW:=bt hBW hb5;replace hsz:w4.heap.size≤w5.heap.size:=Nat.le_trans hsz hb5.size;clear hb5;have HCX:=Lib.hid (fun w=>HCM.out x r w (by have:=HXB.out.1;omega) (by have:=HXB.out.2;omega));obtain ⟨hKc0,hKf0,hKc1,hKf1,hKc2,hKf2,hKc3,hKf3⟩:=hK.x4;obtain ⟨hG11c0,hG11f0,hG11c1,hG11f1,hG11c2,hG11f2,hG11c3,hG11f3⟩:=hG11.x4;go_wp2_with fail
        refine (HCX.out _).2.mono ?_;rintro e w6 ⟨rfl,hb6⟩;clear hKc0 hKf0 hKc1 hKf1 hKc2 hKf2 hKc3 hKf3;clear hG11c0 hG11f0 hG11c1 hG11f1 hG11c2 hG11f2 hG11c3 hG11f3;replace hN6:NOwn w6 w4.heap.size u6 (psN cf n (k)):=own_after hN6 hb6;replace hZ7:ZOwn w6 w4.heap.size u7 (wsN n (k)):=own_after hZ7 hb6;replace hG8:=hG8.after hb6;replace hG9:=hG9.after hb6;replace hB:=hB.after hb6;replace hK:=hK.after hb6;replace hA:=hA.after hb6;replace hG11:=hG11.after hb6;replace hBW:=bt hBW hb6;replace hsz:w4.heap.size≤w6.heap.size:=Nat.le_trans hsz hb6.size;clear hb6;obtain ⟨cx,hcx⟩:∃c,c=cf x r:=⟨_,rfl⟩;have HCXE:=Lib.hid hcx;rw [←hcx];clear hcx;have hbN:=b1 w6 (.cells #[.string (E cx)] 22)
        have hNJ:(w6.alloc (.cells #[.string (E cx)] 22)).ownsRow w4.heap.size 22 1 u6 k (strs (psN cf n k)):=by
         have h:=own_after hN6 hbN;unfold NOwn at h;rwa [psN_len] at h
        have hWW:w.heap.size≤w4.heap.size:=Nat.le_trans HLE.out HW34.out;go_upto_region 13 with (at_builtin;go_loud (refine wpList_append_lies _ rfl (.tmp 79) (.tmp 81) 45 rfl w4.heap.size 22 i0 _ 1 16 Tryz.underlying45 HI0.out HA0.out HB0.out HC0.out rfl (by omega) u6 k (strs (psN cf n k)) rfl hNJ ⟨w6.heap.size,0,none⟩ 1 1 [.string (E cx)] rfl rfl (Blk.new w6 #[.string (E cx)] 22).cells (by simp [Value.oneCell']) (by omega) (by simp only [maxLen];omega) (by omega) (by rw [World.size_alloc];omega) (w6.heap.size+1) (by simp) ?_);intro gP cP w7 hownP hgrowP hatP hltP)
        have hZJ0:=own_after hZ7 hbN;have hZ7':ZOwn w7 w4.heap.size u7 (wsN n k):=own_grown hZJ0 hNJ (by decide) hgrowP;replace hG8:=Blk.grown (hG8.after hbN) hgrowP (own_ne hNJ (hG8.after hbN) (by decide));replace hG9:=Blk.grown (hG9.after hbN) hgrowP (own_ne hNJ (hG9.after hbN) (by decide));replace hB:=Blk.grown (hB.after hbN) hgrowP (own_ne hNJ (hB.after hbN) (by decide));replace hK:=Blk.grown (hK.after hbN) hgrowP (own_ne hNJ (hK.after hbN) (by decide));replace hA:=Blk.grown (hA.after hbN) hgrowP (own_ne hNJ (hA.after hbN) (by decide));replace hG11:=Blk.grown (hG11.after hbN) hgrowP (own_ne hNJ (hG11.after hbN) (by decide));replace hBW:=Below.grown (ba hBW (.cells #[.string (E cx)] 22)) hgrowP (by rw [World.size_alloc];omega) (fun y hy=>Nat.le_trans hWW (own_lt hNJ hy).2);have hsz9:w4.heap.size≤w7.heap.size:=Nat.le_trans (Nat.le_trans hsz hbN.size) hgrowP.size
        have hN7:NOwn w7 w4.heap.size (.slice (some ⟨gP,0,none⟩) (k+1) cP) (psN cf n (k+1)):=by
         unfold NOwn;rw [psN_snoc,List.length_append,psN_len,←HX.out,←HR.out,←HCXE.out];have e:strs (psN cf n k++[cx])=strs (psN cf n k)++[.string (E cx)]:=by unfold strs;rw [List.map_append];rfl
         rw [e];exact hownP
        clear hNJ hZJ0 hZ7 hN6 hbN hownP hgrowP hatP hltP hsz;have hZ7:=hZ7';clear hZ7';have hsz:=hsz9;clear hsz9;have hN6:=hN7;clear hN7;generalize (.slice (some ⟨gP,0,none⟩) (k+1) cP:Value)=v6 at hN6 ⊢;have hbN:=b1 w7 (.cells #[.bool (sg x),.string (E x.natAbs),.bool (sg r),.string (E r.natAbs)] 28)
        have hZJ:(w7.alloc (.cells #[.bool (sg x),.string (E x.natAbs),.bool (sg r),.string (E r.natAbs)] 28)).ownsRow w4.heap.size 28 2 u7 (2*k) (ics ((wsN n k).map zI)):=by
         have h:=own_after hZ7 hbN;unfold ZOwn at h;rwa [wsN_len] at h
        have hGl:=hG11.lt;obtain ⟨hG11c0,hG11f0,hG11c1,hG11f1,hG11c2,hG11f2,hG11c3,hG11f3⟩:=hG11.x4;go_upto_region 14 with (at_builtin;go_loud (refine wpList_append_lies _ rfl (.tmp 83) (.tmp 88) 37 rfl w4.heap.size 28 i1 _ 2 24 Tryz.underlying37 HI1.out HA1.out HB1.out HC1.out rfl (by omega) u7 (2*k) (ics ((wsN n k).map zI)) rfl hZJ ⟨w7.heap.size,0,none⟩ 2 2 [.bool (sg x),.string (E x.natAbs),.bool (sg r),.string (E r.natAbs)] rfl rfl (Blk.new w7 #[.bool (sg x),.string (E x.natAbs),.bool (sg r),.string (E r.natAbs)] 28).cells (by simp [Value.oneCell']) (by omega) (by simp only [maxLen];omega) (by omega) (by rw [World.size_alloc];omega) (w7.heap.size+1) (by simp) ?_);intro gP2 cP2 w8 hownP hgrowP hatP hltP)
        clear hG11c0 hG11f0 hG11c1 hG11f1 hG11c2 hG11f2 hG11c3 hG11f3;clear hGl;have hNJ0:=own_after hN6 hbN;have hN7:NOwn w8 w4.heap.size v6 (psN cf n (k+1)):=own_grown hNJ0 hZJ (by decide) hgrowP;replace hG8:=Blk.grown (hG8.after hbN) hgrowP (fun e=>by have h1:=(own_lt hZJ e).2;have h2:=HG89.out;omega);replace hG9:=Blk.grown (hG9.after hbN) hgrowP (fun e=>by have h1:=(own_lt hZJ e).2;have h2:=HG89.out;omega);replace hB:=Blk.grown (hB.after hbN) hgrowP (own_ne hZJ (hB.after hbN) (by decide));replace hK:=Blk.grown (hK.after hbN) hgrowP (own_ne hZJ (hK.after hbN) (by decide));replace hA:=Blk.grown (hA.after hbN) hgrowP (own_ne hZJ (hA.after hbN) (by decide));replace hG11:=Blk.grown (hG11.after hbN) hgrowP (own_ne hZJ (hG11.after hbN) (by decide));replace hBW:=Below.grown (ba hBW (.cells #[.bool (sg x),.string (E x.natAbs),.bool (sg r),.string (E r.natAbs)] 28)) hgrowP (by rw [World.size_alloc];omega) (fun y hy=>Nat.le_trans hWW (own_lt hZJ hy).2);have hsz9:w4.heap.size≤w8.heap.size:=Nat.le_trans (Nat.le_trans hsz hbN.size) hgrowP.size
        have hZ8:ZOwn w8 w4.heap.size (.slice (some ⟨gP2,0,none⟩) (2*k+2) cP2) (wsN n (k+1)):=by
         unfold ZOwn;rw [wsN_snoc,List.length_append,wsN_len,←HX.out,←HR.out,List.map_append,ics_app2];exact hownP
        clear hZJ hNJ0 hN6 hZ7 hbN hownP hgrowP hatP hltP hsz;have hsz:=hsz9;clear hsz9;have hN6:=hN7;clear hN7;have hZ7:=hZ8;clear hZ8;generalize (.slice (some ⟨gP2,0,none⟩) (2*k+2) cP2:Value)=v7 at hZ7 ⊢
        have hSB:S.natAbs<1152921504606846976:=by
         have h1:=HSS.out;have h2:=(sqs_le HN.out k).1;have h3:=HLO.out;omega
        have hRB:R.natAbs<1152921504606846976:=by
         have h1:=HRR.out;have h2:=(sqs_le HN.out k).2;have h3:=HN.out 8;omega
        have hq1:=mul_le30 HXB.out.1 HXB.out.1;have hq2:=mul_le30 HXB.out.1 HXB.out.2;have h60:(1152921504606846976:Nat)<256^128 / 4:=by decide
        have up:∀z:Int,z.natAbs<2305843009213693952→z.natAbs<256^128:=fun z h=>Nat.lt_trans h (by decide)
        have HMQ:Hid (∀w:World,Calls Tryz.prog 31 #[.agg #[.bool (sg (x)),.string (E (x).natAbs)],.agg #[.bool (sg (x)),.string (E (x).natAbs)]] w fun e w'=>e=.returned (.tuple #[.agg #[.bool (sg (x*x)),.string (E (x*x).natAbs)],.int .i64 0])∧Below w.heap.size w w'):=fun w=>rimul_c x x w (up x (by have:=HXB.out.1;omega)) (up x (by have:=HXB.out.1;omega)) (by rw [←Int.natAbs_mul];exact up _ (by omega))
        have HMP:Hid (∀w:World,Calls Tryz.prog 31 #[.agg #[.bool (sg (x)),.string (E (x).natAbs)],.agg #[.bool (sg (r)),.string (E (r).natAbs)]] w fun e w'=>e=.returned (.tuple #[.agg #[.bool (sg (x*r)),.string (E (x*r).natAbs)],.int .i64 0])∧Below w.heap.size w w'):=fun w=>rimul_c x r w (up x (by have:=HXB.out.1;omega)) (up r (by have:=HXB.out.2;omega)) (by rw [←Int.natAbs_mul];exact up _ (by omega))
        have HAS:Hid (∀w:World,Calls Tryz.prog 32 #[.agg #[.bool (sg (S)),.string (E (S).natAbs)],.agg #[.bool (sg (x*x)),.string (E (x*x).natAbs)]] w fun e w'=>e=.returned (.tuple #[.agg #[.bool (sg (S+x*x)),.string (E (S+x*x).natAbs)],.int .i64 0])∧Below w.heap.size w w'):=fun w=>riadd_c S (x*x) w (up S (by omega)) (up _ (by omega)) (up _ (by omega))
        have HAR:Hid (∀w:World,Calls Tryz.prog 32 #[.agg #[.bool (sg (R)),.string (E (R).natAbs)],.agg #[.bool (sg (x*r)),.string (E (x*r).natAbs)]] w fun e w'=>e=.returned (.tuple #[.agg #[.bool (sg (R+x*r)),.string (E (R+x*r).natAbs)],.int .i64 0])∧Below w.heap.size w w'):=fun w=>riadd_c R (x*r) w (up R (by omega)) (up _ (by omega)) (up _ (by omega))
        have HS2:Hid (S+x*x=lo+sqs (xsN n (k+1))):=by
         rw [Hid,HSS.out,HX.out,xsN_snoc,sqs_app];have e1:sqs [(n (2*k),n (2*k+1))]=n (2*k)*n (2*k):=by simp [sqs]
         rw [e1];omega
        have HR2:Hid (R+x*r=n 8+prd (xsN n (k+1))):=by
         rw [Hid,HRR.out,HX.out,HR.out,xsN_snoc,prd_app];have e1:prd [(n (2*k),n (2*k+1))]=n (2*k)*n (2*k+1):=by simp [prd]
         rw [e1];omega
        generalize x*x=q at HMQ HAS HS2 hq1;generalize x*r=q2 at HMP HAR HR2 hq2;obtain ⟨S2,hS2⟩:∃s,s=S+q:=⟨_,rfl⟩;obtain ⟨R2,hR2⟩:∃s,s=R+q2:=⟨_,rfl⟩;rw [←hS2] at HAS HS2;rw [←hR2] at HAR HR2;clear hSB hRB hq1 hq2 h60 up hS2 hR2 HSS HRR;obtain ⟨hG11c0,hG11f0,hG11c1,hG11f1,hG11c2,hG11f2,hG11c3,hG11f3⟩:=hG11.x4;go_wp2_with fail
        refine (HMQ.out _).mono ?_;rintro e w9 ⟨rfl,hb9⟩;clear hG11c0 hG11f0 hG11c1 hG11f1 hG11c2 hG11f2 hG11c3 hG11f3;replace hN6:NOwn w9 w4.heap.size v6 (psN cf n (k+1)):=own_after hN6 hb9;replace hZ7:ZOwn w9 w4.heap.size v7 (wsN n (k+1)):=own_after hZ7 hb9;replace hG8:=hG8.after hb9;replace hG9:=hG9.after hb9;replace hB:=hB.after hb9;replace hK:=hK.after hb9;replace hA:=hA.after hb9;replace hG11:=hG11.after hb9;replace hBW:=bt hBW hb9;replace hsz:w4.heap.size≤w9.heap.size:=Nat.le_trans hsz hb9.size;clear hb9;have hQ:=Blk.new w9 #[.bool (sg q),.string (E q.natAbs)] 28;have hbQ:=b1 w9 (.cells #[.bool (sg q),.string (E q.natAbs)] 28);go_upto_region 15 with fail
        generalize w9.alloc (.cells #[.bool (sg q),.string (E q.natAbs)] 28)=wA at hQ hbQ ⊢;replace hN6:NOwn wA w4.heap.size v6 (psN cf n (k+1)):=own_after hN6 hbQ;replace hZ7:ZOwn wA w4.heap.size v7 (wsN n (k+1)):=own_after hZ7 hbQ;replace hG8:=hG8.after hbQ;replace hG9:=hG9.after hbQ;replace hB:=hB.after hbQ;replace hK:=hK.after hbQ;replace hA:=hA.after hbQ;replace hG11:=hG11.after hbQ;replace hBW:=bt hBW hbQ;replace hsz:w4.heap.size≤wA.heap.size:=Nat.le_trans hsz hbQ.size;clear hbQ;obtain ⟨gQ,hgQ⟩:∃g,g=w9.heap.size:=⟨_,rfl⟩;rw [←hgQ] at hQ ⊢;clear hgQ;replace hQ:Blk wA gQ 28 [.bool (sg q),.string (E q.natAbs)]:=hQ;obtain ⟨hG8c0,hG8f0,hG8c1,hG8f1⟩:=hG8.x2;obtain ⟨hQc0,hQf0,hQc1,hQf1⟩:=hQ.x2;go_wp2_with fail
        refine (HAS.out _).mono ?_;rintro e wB ⟨rfl,hbB⟩;clear hG8c0 hG8f0 hG8c1 hG8f1;clear hQc0 hQf0 hQc1 hQf1;clear hQ;replace hN6:NOwn wB w4.heap.size v6 (psN cf n (k+1)):=own_after hN6 hbB;replace hZ7:ZOwn wB w4.heap.size v7 (wsN n (k+1)):=own_after hZ7 hbB;replace hG8:=hG8.after hbB;replace hG9:=hG9.after hbB;replace hB:=hB.after hbB;replace hK:=hK.after hbB;replace hA:=hA.after hbB;replace hG11:=hG11.after hbB;replace hBW:=bt hBW hbB;replace hsz:w4.heap.size≤wB.heap.size:=Nat.le_trans hsz hbB.size;clear hbB;have hGl:=hG8.lt;obtain ⟨hG8c0,hG8f0,hG8c1,hG8f1⟩:=hG8.x2;go_upto_region 16 with fail
        clear hG8c0 hG8f0 hG8c1 hG8f1;clear hGl;replace hG9:=(hG9.other ⟨g8,0,none⟩ (.bool (sg S2)) (by have h0:=HG11.out;have h1:=HGL.out;have h2:=HG89.out;have h3:=HB8.out;have h4:=HB9.out;show g9≠g8;omega)).other ⟨g8,1,none⟩ (.string (E S2.natAbs)) (by have h0:=HG11.out;have h1:=HGL.out;have h2:=HG89.out;have h3:=HB8.out;have h4:=HB9.out;show g9≠g8;omega);replace hB:=(hB.other ⟨g8,0,none⟩ (.bool (sg S2)) (by have h0:=HG11.out;have h1:=HGL.out;have h2:=HG89.out;have h3:=HB8.out;have h4:=HB9.out;show w.heap.size≠g8;omega)).other ⟨g8,1,none⟩ (.string (E S2.natAbs)) (by have h0:=HG11.out;have h1:=HGL.out;have h2:=HG89.out;have h3:=HB8.out;have h4:=HB9.out;show w.heap.size≠g8;omega);replace hK:=(hK.other ⟨g8,0,none⟩ (.bool (sg S2)) (by have h0:=HG11.out;have h1:=HGL.out;have h2:=HG89.out;have h3:=HB8.out;have h4:=HB9.out;show gK≠g8;omega)).other ⟨g8,1,none⟩ (.string (E S2.natAbs)) (by have h0:=HG11.out;have h1:=HGL.out;have h2:=HG89.out;have h3:=HB8.out;have h4:=HB9.out;show gK≠g8;omega);replace hA:=(hA.other ⟨g8,0,none⟩ (.bool (sg S2)) (by have h0:=HG11.out;have h1:=HGL.out;have h2:=HG89.out;have h3:=HB8.out;have h4:=HB9.out;show gA≠g8;omega)).other ⟨g8,1,none⟩ (.string (E S2.natAbs)) (by have h0:=HG11.out;have h1:=HGL.out;have h2:=HG89.out;have h3:=HB8.out;have h4:=HB9.out;show gA≠g8;omega);replace hG11:=(hG11.other ⟨g8,0,none⟩ (.bool (sg S2)) (by have h0:=HG11.out;have h1:=HGL.out;have h2:=HG89.out;have h3:=HB8.out;have h4:=HB9.out;show g11≠g8;omega)).other ⟨g8,1,none⟩ (.string (E S2.natAbs)) (by have h0:=HG11.out;have h1:=HGL.out;have h2:=HG89.out;have h3:=HB8.out;have h4:=HB9.out;show g11≠g8;omega);have hsn:NOwn (wB.setCell ⟨g8,0,none⟩ (.bool (sg S2))) w4.heap.size v6 (psN cf n (k+1)):=own_set hN6 (own_ne hN6 hG8 (by decide));replace hN6:NOwn ((wB.setCell ⟨g8,0,none⟩ (.bool (sg S2))).setCell ⟨g8,1,none⟩ (.string (E S2.natAbs))) w4.heap.size v6 (psN cf n (k+1)):=own_set hsn (own_ne hsn (hG8.set 0 _) (by decide));have hsz7:ZOwn (wB.setCell ⟨g8,0,none⟩ (.bool (sg S2))) w4.heap.size v7 (wsN n (k+1)):=own_set hZ7 (fun e=>by have h1:=(own_lt hZ7 e).2;have h2:=HG89.out;omega);replace hZ7:ZOwn ((wB.setCell ⟨g8,0,none⟩ (.bool (sg S2))).setCell ⟨g8,1,none⟩ (.string (E S2.natAbs))) w4.heap.size v7 (wsN n (k+1)):=own_set hsz7 (fun e=>by have h1:=(own_lt hsz7 e).2;have h2:=HG89.out;omega);replace hG8:=(hG8.set 0 (.bool (sg S2))).set 1 (.string (E S2.natAbs));replace hBW:=(hBW.setCell (p:=⟨g8,0,none⟩) (by have h1:=HLE.out;have h3:=HB8.out;have h4:=HB9.out;show w.heap.size≤g8;omega) (.bool (sg S2))).setCell (p:=⟨g8,1,none⟩) (by have h1:=HLE.out;have h3:=HB8.out;have h4:=HB9.out;show w.heap.size≤g8;omega) (.string (E S2.natAbs));have hsz9:w4.heap.size≤((wB.setCell ⟨g8,0,none⟩ (.bool (sg S2))).setCell ⟨g8,1,none⟩ (.string (E S2.natAbs))).heap.size:=by rw [World.size_setCell,World.size_setCell];exact hsz
        clear hsn hsz7 hsz;generalize hww:(wB.setCell ⟨g8,0,none⟩ (.bool (sg S2))).setCell ⟨g8,1,none⟩ (.string (E S2.natAbs))=wC at hN6 hZ7 hG8 hG9 hB hK hA hG11 hBW hsz9 ⊢;clear hww;have hsz:=hsz9;clear hsz9;replace hG8:Blk wC g8 28 [.bool (sg S2),.string (E S2.natAbs)]:=hG8;obtain ⟨hG11c0,hG11f0,hG11c1,hG11f1,hG11c2,hG11f2,hG11c3,hG11f3⟩:=hG11.x4;go_wp2_with fail
        refine (HMP.out _).mono ?_;rintro e wD ⟨rfl,hbD⟩;clear hG11c0 hG11f0 hG11c1 hG11f1 hG11c2 hG11f2 hG11c3 hG11f3;replace hN6:NOwn wD w4.heap.size v6 (psN cf n (k+1)):=own_after hN6 hbD;replace hZ7:ZOwn wD w4.heap.size v7 (wsN n (k+1)):=own_after hZ7 hbD;replace hG8:=hG8.after hbD;replace hG9:=hG9.after hbD;replace hB:=hB.after hbD;replace hK:=hK.after hbD;replace hA:=hA.after hbD;replace hG11:=hG11.after hbD;replace hBW:=bt hBW hbD;replace hsz:w4.heap.size≤wD.heap.size:=Nat.le_trans hsz hbD.size;clear hbD;have hQ:=Blk.new wD #[.bool (sg q2),.string (E q2.natAbs)] 28;have hbQ:=b1 wD (.cells #[.bool (sg q2),.string (E q2.natAbs)] 28);go_upto_region 17 with fail
        generalize wD.alloc (.cells #[.bool (sg q2),.string (E q2.natAbs)] 28)=wE at hQ hbQ ⊢;replace hN6:NOwn wE w4.heap.size v6 (psN cf n (k+1)):=own_after hN6 hbQ;replace hZ7:ZOwn wE w4.heap.size v7 (wsN n (k+1)):=own_after hZ7 hbQ;replace hG8:=hG8.after hbQ;replace hG9:=hG9.after hbQ;replace hB:=hB.after hbQ;replace hK:=hK.after hbQ;replace hA:=hA.after hbQ;replace hG11:=hG11.after hbQ;replace hBW:=bt hBW hbQ;replace hsz:w4.heap.size≤wE.heap.size:=Nat.le_trans hsz hbQ.size;clear hbQ;obtain ⟨gQ2,hgQ⟩:∃g,g=wD.heap.size:=⟨_,rfl⟩;rw [←hgQ] at hQ ⊢;clear hgQ;replace hQ:Blk wE gQ2 28 [.bool (sg q2),.string (E q2.natAbs)]:=hQ;obtain ⟨hG9c0,hG9f0,hG9c1,hG9f1⟩:=hG9.x2;obtain ⟨hQc0,hQf0,hQc1,hQf1⟩:=hQ.x2;go_wp2_with fail
        refine (HAR.out _).mono ?_;rintro e wF ⟨rfl,hbF⟩;clear hG9c0 hG9f0 hG9c1 hG9f1;clear hQc0 hQf0 hQc1 hQf1;clear hQ;replace hN6:NOwn wF w4.heap.size v6 (psN cf n (k+1)):=own_after hN6 hbF;replace hZ7:ZOwn wF w4.heap.size v7 (wsN n (k+1)):=own_after hZ7 hbF;replace hG8:=hG8.after hbF;replace hG9:=hG9.after hbF;replace hB:=hB.after hbF;replace hK:=hK.after hbF;replace hA:=hA.after hbF;replace hG11:=hG11.after hbF;replace hBW:=bt hBW hbF;replace hsz:w4.heap.size≤wF.heap.size:=Nat.le_trans hsz hbF.size;clear hbF;have hGl:=hG9.lt;obtain ⟨hG9c0,hG9f0,hG9c1,hG9f1⟩:=hG9.x2;go_upto_region 9 with fail
        clear hG9c0 hG9f0 hG9c1 hG9f1;clear hGl;replace hG8:=(hG8.other ⟨g9,0,none⟩ (.bool (sg R2)) (by have h0:=HG11.out;have h1:=HGL.out;have h2:=HG89.out;have h3:=HB8.out;have h4:=HB9.out;show g8≠g9;omega)).other ⟨g9,1,none⟩ (.string (E R2.natAbs)) (by have h0:=HG11.out;have h1:=HGL.out;have h2:=HG89.out;have h3:=HB8.out;have h4:=HB9.out;show g8≠g9;omega);replace hB:=(hB.other ⟨g9,0,none⟩ (.bool (sg R2)) (by have h0:=HG11.out;have h1:=HGL.out;have h2:=HG89.out;have h3:=HB8.out;have h4:=HB9.out;show w.heap.size≠g9;omega)).other ⟨g9,1,none⟩ (.string (E R2.natAbs)) (by have h0:=HG11.out;have h1:=HGL.out;have h2:=HG89.out;have h3:=HB8.out;have h4:=HB9.out;show w.heap.size≠g9;omega);replace hK:=(hK.other ⟨g9,0,none⟩ (.bool (sg R2)) (by have h0:=HG11.out;have h1:=HGL.out;have h2:=HG89.out;have h3:=HB8.out;have h4:=HB9.out;show gK≠g9;omega)).other ⟨g9,1,none⟩ (.string (E R2.natAbs)) (by have h0:=HG11.out;have h1:=HGL.out;have h2:=HG89.out;have h3:=HB8.out;have h4:=HB9.out;show gK≠g9;omega);replace hA:=(hA.other ⟨g9,0,none⟩ (.bool (sg R2)) (by have h0:=HG11.out;have h1:=HGL.out;have h2:=HG89.out;have h3:=HB8.out;have h4:=HB9.out;show gA≠g9;omega)).other ⟨g9,1,none⟩ (.string (E R2.natAbs)) (by have h0:=HG11.out;have h1:=HGL.out;have h2:=HG89.out;have h3:=HB8.out;have h4:=HB9.out;show gA≠g9;omega);replace hG11:=(hG11.other ⟨g9,0,none⟩ (.bool (sg R2)) (by have h0:=HG11.out;have h1:=HGL.out;have h2:=HG89.out;have h3:=HB8.out;have h4:=HB9.out;show g11≠g9;omega)).other ⟨g9,1,none⟩ (.string (E R2.natAbs)) (by have h0:=HG11.out;have h1:=HGL.out;have h2:=HG89.out;have h3:=HB8.out;have h4:=HB9.out;show g11≠g9;omega);have hsn:NOwn (wF.setCell ⟨g9,0,none⟩ (.bool (sg R2))) w4.heap.size v6 (psN cf n (k+1)):=own_set hN6 (own_ne hN6 hG9 (by decide));replace hN6:NOwn ((wF.setCell ⟨g9,0,none⟩ (.bool (sg R2))).setCell ⟨g9,1,none⟩ (.string (E R2.natAbs))) w4.heap.size v6 (psN cf n (k+1)):=own_set hsn (own_ne hsn (hG9.set 0 _) (by decide));have hsz7:ZOwn (wF.setCell ⟨g9,0,none⟩ (.bool (sg R2))) w4.heap.size v7 (wsN n (k+1)):=own_set hZ7 (fun e=>by have h1:=(own_lt hZ7 e).2;have h2:=HG89.out;omega);replace hZ7:ZOwn ((wF.setCell ⟨g9,0,none⟩ (.bool (sg R2))).setCell ⟨g9,1,none⟩ (.string (E R2.natAbs))) w4.heap.size v7 (wsN n (k+1)):=own_set hsz7 (fun e=>by have h1:=(own_lt hsz7 e).2;have h2:=HG89.out;omega);replace hG9:=(hG9.set 0 (.bool (sg R2))).set 1 (.string (E R2.natAbs));replace hBW:=(hBW.setCell (p:=⟨g9,0,none⟩) (by have h1:=HLE.out;have h3:=HB8.out;have h4:=HB9.out;show w.heap.size≤g9;omega) (.bool (sg R2))).setCell (p:=⟨g9,1,none⟩) (by have h1:=HLE.out;have h3:=HB8.out;have h4:=HB9.out;show w.heap.size≤g9;omega) (.string (E R2.natAbs));have hsz9:w4.heap.size≤((wF.setCell ⟨g9,0,none⟩ (.bool (sg R2))).setCell ⟨g9,1,none⟩ (.string (E R2.natAbs))).heap.size:=by rw [World.size_setCell,World.size_setCell];exact hsz
        clear hsn hsz7 hsz;generalize hww:(wF.setCell ⟨g9,0,none⟩ (.bool (sg R2))).setCell ⟨g9,1,none⟩ (.string (E R2.natAbs))=wG at hN6 hZ7 hG9 hG8 hB hK hA hG11 hBW hsz9 ⊢;clear hww;have hsz:=hsz9;clear hsz9;replace hG9:Blk wG g9 28 [.bool (sg R2),.string (E R2.natAbs)]:=hG9;clear hG11;go_wp2;go_roundw
        case rel=>exact ⟨k+1,S2,R2,by omega,by go_num,HS2,HR2,hN6,hZ7,hG8,hG9,hB,hK,hA,hsz,hBW⟩
        case measure=>simp [intOf];omega
      ·obtain rfl:k=4:=by omega
       have ew:IntKind.i64.wrap (n 8)=n 8:=IntWalk.i64_in _ (by have:=HN.out 8;omega);have hWW:w.heap.size≤w4.heap.size:=Nat.le_trans HLE.out HW34.out
       have hSB:S.natAbs<1152921504606846976:=by
        have h1:=HSS.out;have h2:=(sqs_le HN.out 4).1;have h3:=HLO.out;omega
       have hRB:R.natAbs<1152921504606846976:=by
        have h1:=HRR.out;have h2:=(sqs_le HN.out 4).2;have h3:=HN.out 8;omega
       have HSB:Hid (S.natAbs<1152921504606846976∧R.natAbs<1152921504606846976):=⟨hSB,hRB⟩;obtain ⟨k0,N0,hst0,hgo0⟩:=HG1.out S R HSS.out HRR.out;have HST:=Lib.hid hst0;have HGO:=Lib.hid hgo0;clear hst0 hgo0 hSB hRB hlt hk;have hAl:=hA.lt;have hAc8:=hA.cell 8;have hAf8:=hA.free 8;go_wp2_with fail
       refine (HON.out 8 _).mono ?_;rintro e w5 ⟨rfl,hb5⟩;clear ew hAl hAc8 hAf8;replace hN6:NOwn w5 w4.heap.size u6 (psN cf n 4):=own_after hN6 hb5;replace hZ7:ZOwn w5 w4.heap.size u7 (wsN n 4):=own_after hZ7 hb5;replace hG8:=hG8.after hb5;replace hG9:=hG9.after hb5;replace hB:=hB.after hb5;replace hK:=hK.after hb5;replace hA:=hA.after hb5;replace hBW:=bt hBW hb5;replace hsz:w4.heap.size≤w5.heap.size:=Nat.le_trans hsz hb5.size;clear hb5;have hbN:=b1 w5 (.cells #[.bool (sg (n 8)),.string (E (n 8).natAbs)] 28);have hZJ:(w5.alloc (.cells #[.bool (sg (n 8)),.string (E (n 8).natAbs)] 28)).ownsRow w4.heap.size 28 2 u7 8 (ics ((wsN n 4).map zI)):=own_after hZ7 hbN;go_upto_region 19 with (at_builtin;go_loud (refine wpList_append_lies _ rfl (.tmp 118) (.tmp 123) 37 rfl w4.heap.size 28 i1 _ 2 24 Tryz.underlying37 HI1.out HA1.out HB1.out HC1.out rfl (by omega) u7 8 (ics ((wsN n 4).map zI)) rfl hZJ ⟨w5.heap.size,0,none⟩ 1 1 [.bool (sg (n 8)),.string (E (n 8).natAbs)] rfl rfl (Blk.new w5 #[.bool (sg (n 8)),.string (E (n 8).natAbs)] 28).cells (by simp [Value.oneCell']) (by omega) (by simp only [maxLen];omega) (by omega) (by rw [World.size_alloc];omega) (w5.heap.size+1) (by simp) ?_);intro gP2 cP2 w6 hownP hgrowP hatP hltP)
       have hNJ0:=own_after hN6 hbN;have hN7:NOwn w6 w4.heap.size u6 (psN cf n 4):=own_grown hNJ0 hZJ (by decide) hgrowP;replace hG8:=Blk.grown (hG8.after hbN) hgrowP (fun e=>by have h1:=(own_lt hZJ e).2;have h2:=HG89.out;omega);replace hG9:=Blk.grown (hG9.after hbN) hgrowP (fun e=>by have h1:=(own_lt hZJ e).2;have h2:=HG89.out;omega);replace hB:=Blk.grown (hB.after hbN) hgrowP (own_ne hZJ (hB.after hbN) (by decide));replace hK:=Blk.grown (hK.after hbN) hgrowP (own_ne hZJ (hK.after hbN) (by decide));replace hA:=Blk.grown (hA.after hbN) hgrowP (own_ne hZJ (hA.after hbN) (by decide));replace hBW:=Below.grown (ba hBW (.cells #[.bool (sg (n 8)),.string (E (n 8).natAbs)] 28)) hgrowP (by rw [World.size_alloc];omega) (fun y hy=>Nat.le_trans hWW (own_lt hZJ hy).2);have hsz9:w4.heap.size≤w6.heap.size:=Nat.le_trans (Nat.le_trans hsz hbN.size) hgrowP.size
       have hZ8:ZOwn w6 w4.heap.size (.slice (some ⟨gP2,0,none⟩) 9 cP2) (wsN n 4++[n 8]):=by
        unfold ZOwn;rw [List.map_append,ics_app2];exact hownP
       clear hZJ hNJ0 hN6 hZ7 hbN hownP hgrowP hatP hltP hsz;have hsz:=hsz9;have hN6:=hN7;have hZ7:=hZ8;clear hsz9 hN7 hZ8;generalize (.slice (some ⟨gP2,0,none⟩) 9 cP2:Value)=v7 at hZ7 ⊢;have hKl:=hK.lt;have hGl:=hG8.lt;have hGl2:=hG9.lt;obtain ⟨hKc0,hKf0,hKc1,hKf1,hKc2,hKf2,hKc3,hKf3⟩:=hK.x4;obtain ⟨hG8c0,hG8f0,hG8c1,hG8f1⟩:=hG8.x2;obtain ⟨hG9c0,hG9f0,hG9c1,hG9f1⟩:=hG9.x2;go_wp2_with fail
       refine (HCM.out S R _ HSB.out.1 HSB.out.2).2.mono ?_;rintro e w7 ⟨rfl,hb7⟩;clear hKc0 hKf0 hKc1 hKf1 hKc2 hKf2 hKc3 hKf3;clear hG8c0 hG8f0 hG8c1 hG8f1;clear hG9c0 hG9f0 hG9c1 hG9f1;clear hKl hGl hGl2;replace hN6:NOwn w7 w4.heap.size u6 (psN cf n 4):=own_after hN6 hb7;replace hZ7:ZOwn w7 w4.heap.size v7 (wsN n 4++[n 8]):=own_after hZ7 hb7;replace hG8:=hG8.after hb7;replace hG9:=hG9.after hb7;replace hB:=hB.after hb7;replace hK:=hK.after hb7;replace hA:=hA.after hb7;replace hBW:=bt hBW hb7;replace hsz:w4.heap.size≤w7.heap.size:=Nat.le_trans hsz hb7.size;clear hb7;obtain ⟨hKc0,hKf0,hKc1,hKf1,hKc2,hKf2,hKc3,hKf3⟩:=hK.x4;obtain ⟨hBc0,hBf0,hBc1,hBf1,hBc2,hBf2,hBc3,hBf3,hBc4,hBf4,hBc5,hBf5,hBc6,hBf6,hBc7,hBf7,hBc8,hBf8,hBc9,hBf9,hBc10,hBf10⟩:=hB.x11;go_wp2_with fail
       refine (HST.out _ _ hN6.ss).mono ?_;rintro e w8 ⟨v1,v2,v3,rfl,hT1,hb8⟩;clear hKc0 hKf0 hKc1 hKf1 hKc2 hKf2 hKc3 hKf3;clear hBc0 hBf0 hBc1 hBf1 hBc2 hBf2 hBc3 hBf3 hBc4 hBf4 hBc5 hBf5 hBc6 hBf6 hBc7 hBf7 hBc8 hBf8 hBc9 hBf9 hBc10 hBf10;replace hN6:NOwn w8 w4.heap.size u6 (psN cf n 4):=own_after hN6 hb8;replace hZ7:ZOwn w8 w4.heap.size v7 (wsN n 4++[n 8]):=own_after hZ7 hb8;replace hG8:=hG8.after hb8;replace hG9:=hG9.after hb8;replace hB:=hB.after hb8;replace hK:=hK.after hb8;replace hA:=hA.after hb8;replace hBW:=bt hBW hb8;replace hsz:w4.heap.size≤w8.heap.size:=Nat.le_trans hsz hb8.size;clear hb8;obtain ⟨⟨a1,m1,c1,rfl⟩,⟨a2,m2,c2,rfl⟩,⟨a3,m3,c3,rfl⟩⟩:=hT1.sli;have hM1:=Blk.new w8 #[.slice a1 m1 c1,.slice a2 m2 c2,.slice a3 m3 c3] 61;have hbM:=b1 w8 (.cells #[.slice a1 m1 c1,.slice a2 m2 c2,.slice a3 m3 c3] 61);go_upto_region 21 with fail
       generalize w8.alloc (.cells #[.slice a1 m1 c1,.slice a2 m2 c2,.slice a3 m3 c3] 61)=w9 at hM1 hbM ⊢;obtain ⟨gM,hgM⟩:∃g,g=w8.heap.size:=⟨_,rfl⟩;rw [←hgM] at hM1 ⊢;clear hgM;replace hM1:Blk w9 gM 61 [.slice a1 m1 c1,.slice a2 m2 c2,.slice a3 m3 c3]:=hM1;replace hT1:=hT1.after hbM;replace hN6:NOwn w9 w4.heap.size u6 (psN cf n 4):=own_after hN6 hbM;replace hZ7:ZOwn w9 w4.heap.size v7 (wsN n 4++[n 8]):=own_after hZ7 hbM;replace hG8:=hG8.after hbM;replace hG9:=hG9.after hbM;replace hB:=hB.after hbM;replace hK:=hK.after hbM;replace hA:=hA.after hbM;replace hBW:=bt hBW hbM;replace hsz:w4.heap.size≤w9.heap.size:=Nat.le_trans hsz hbM.size;clear hbM;obtain ⟨ec,hec⟩:∃e,e=ce S R:=⟨_,rfl⟩;rw [←hec] at HGO ⊢;clear hec;have HT1:=Lib.hid hT1;clear hT1;by_cases he0:ec=0
       case neg =>
        have hmb:((ec:Int) != 0)=true:=by rw [bne_iff_ne];omega
        go_wp2_with fail
        refine (HW.out _).mono ?_;rintro e wq ⟨rfl,hbq⟩;go_wp2;go_ret
        exact ⟨rfl,bt hBW hbq⟩
       case pos =>
        subst he0;by_cases hk0:k0=0
        case neg =>
         have hmb:((k0:Int) != 0)=true:=by rw [bne_iff_ne];omega
         go_wp2_with fail
         refine (HW.out _).mono ?_;rintro e wq ⟨rfl,hbq⟩;go_wp2;go_ret
         exact ⟨rfl,bt hBW hbq⟩
        case pos =>
         subst hk0;obtain ⟨o,N2,hh1,hmul,hst2,hh2,hop⟩:=HGO.out rfl rfl;have HH1:=Lib.hid hh1;have HML:=Lib.hid hmul;have HS2:=Lib.hid hst2;have HH2:=Lib.hid hh2;have HOP:=Lib.hid hop;clear hh1 hmul hst2 hh2 hop HGO HST;have hMl:=hM1.lt;obtain ⟨hM1c0,hM1f0,hM1c1,hM1f1,hM1c2,hM1f2⟩:=hM1.x3;go_wp2_with fail
         refine (HH1.out _ _ _ _ _ HT1.out hZ7.zs).mono ?_;rintro e wa ⟨rfl,hba⟩;clear hM1c0 hM1f0 hM1c1 hM1f1 hM1c2 hM1f2;clear hMl hM1 HT1;replace hN6:NOwn wa w4.heap.size u6 (psN cf n 4):=own_after hN6 hba;replace hZ7:ZOwn wa w4.heap.size v7 (wsN n 4++[n 8]):=own_after hZ7 hba;replace hG8:=hG8.after hba;replace hG9:=hG9.after hba;replace hB:=hB.after hba;replace hK:=hK.after hba;replace hA:=hA.after hba;replace hBW:=bt hBW hba;replace hsz:w4.heap.size≤wa.heap.size:=Nat.le_trans hsz hba.size;clear hba;obtain ⟨hKc0,hKf0,hKc1,hKf1,hKc2,hKf2,hKc3,hKf3⟩:=hK.x4;go_wp2_with fail
         refine (HML.out _).mono ?_;rintro e wb ⟨rfl,hbb⟩;clear hKc0 hKf0 hKc1 hKf1 hKc2 hKf2 hKc3 hKf3;replace hN6:NOwn wb w4.heap.size u6 (psN cf n 4):=own_after hN6 hbb;replace hZ7:ZOwn wb w4.heap.size v7 (wsN n 4++[n 8]):=own_after hZ7 hbb;replace hG8:=hG8.after hbb;replace hG9:=hG9.after hbb;replace hB:=hB.after hbb;replace hK:=hK.after hbb;replace hA:=hA.after hbb;replace hBW:=bt hBW hbb;replace hsz:w4.heap.size≤wb.heap.size:=Nat.le_trans hsz hbb.size;clear hbb;obtain ⟨hKc0,hKf0,hKc1,hKf1,hKc2,hKf2,hKc3,hKf3⟩:=hK.x4;obtain ⟨hBc0,hBf0,hBc1,hBf1,hBc2,hBf2,hBc3,hBf3,hBc4,hBf4,hBc5,hBf5,hBc6,hBf6,hBc7,hBf7,hBc8,hBf8,hBc9,hBf9,hBc10,hBf10⟩:=hB.x11;go_wp2_with fail
         refine (HS2.out _ _ hN6.ss).mono ?_;rintro e wc ⟨y1,y2,y3,rfl,hT2,hbc⟩;clear hKc0 hKf0 hKc1 hKf1 hKc2 hKf2 hKc3 hKf3;clear hBc0 hBf0 hBc1 hBf1 hBc2 hBf2 hBc3 hBf3 hBc4 hBf4 hBc5 hBf5 hBc6 hBf6 hBc7 hBf7 hBc8 hBf8 hBc9 hBf9 hBc10 hBf10;replace hN6:NOwn wc w4.heap.size u6 (psN cf n 4):=own_after hN6 hbc;replace hZ7:ZOwn wc w4.heap.size v7 (wsN n 4++[n 8]):=own_after hZ7 hbc;replace hG8:=hG8.after hbc;replace hG9:=hG9.after hbc;replace hB:=hB.after hbc;replace hK:=hK.after hbc;replace hA:=hA.after hbc;replace hBW:=bt hBW hbc;replace hsz:w4.heap.size≤wc.heap.size:=Nat.le_trans hsz hbc.size;clear hbc;obtain ⟨⟨a4,m4,c4,rfl⟩,⟨a5,m5,c5,rfl⟩,⟨a6,m6,c6,rfl⟩⟩:=hT2.sli;have hM2:=Blk.new wc #[.slice a4 m4 c4,.slice a5 m5 c5,.slice a6 m6 c6] 61;have hbM:=b1 wc (.cells #[.slice a4 m4 c4,.slice a5 m5 c5,.slice a6 m6 c6] 61);go_upto_region 26 with fail
         generalize wc.alloc (.cells #[.slice a4 m4 c4,.slice a5 m5 c5,.slice a6 m6 c6] 61)=wd at hM2 hbM ⊢;obtain ⟨gM2,hgM⟩:∃g,g=wc.heap.size:=⟨_,rfl⟩;rw [←hgM] at hM2 ⊢;clear hgM;replace hM2:Blk wd gM2 61 [.slice a4 m4 c4,.slice a5 m5 c5,.slice a6 m6 c6]:=hM2;replace hT2:=hT2.after hbM;replace hN6:NOwn wd w4.heap.size u6 (psN cf n 4):=own_after hN6 hbM;replace hZ7:ZOwn wd w4.heap.size v7 (wsN n 4++[n 8]):=own_after hZ7 hbM;replace hG8:=hG8.after hbM;replace hG9:=hG9.after hbM;replace hB:=hB.after hbM;replace hK:=hK.after hbM;replace hA:=hA.after hbM;replace hBW:=bt hBW hbM;replace hsz:w4.heap.size≤wd.heap.size:=Nat.le_trans hsz hbM.size;clear hbM;have HT2:=Lib.hid hT2;clear hT2;have hMl:=hM2.lt;obtain ⟨hM2c0,hM2f0,hM2c1,hM2f1,hM2c2,hM2f2⟩:=hM2.x3;go_wp2_with fail
         refine (HH2.out _ _ _ _ _ HT2.out hZ7.zs).mono ?_;rintro e we ⟨rfl,hbe⟩;clear hM2c0 hM2f0 hM2c1 hM2f1 hM2c2 hM2f2;clear hMl hM2 HT2;replace hN6:NOwn we w4.heap.size u6 (psN cf n 4):=own_after hN6 hbe;replace hZ7:ZOwn we w4.heap.size v7 (wsN n 4++[n 8]):=own_after hZ7 hbe;replace hG8:=hG8.after hbe;replace hG9:=hG9.after hbe;replace hB:=hB.after hbe;replace hK:=hK.after hbe;replace hA:=hA.after hbe;replace hBW:=bt hBW hbe;replace hsz:w4.heap.size≤we.heap.size:=Nat.le_trans hsz hbe.size;clear hbe;go_wp2_with fail
         refine (HW.out _).mono ?_;rintro e wf ⟨rfl,hbf⟩;replace hN6:NOwn wf w4.heap.size u6 (psN cf n 4):=own_after hN6 hbf;replace hZ7:ZOwn wf w4.heap.size v7 (wsN n 4++[n 8]):=own_after hZ7 hbf;replace hG8:=hG8.after hbf;replace hG9:=hG9.after hbf;replace hB:=hB.after hbf;replace hK:=hK.after hbf;replace hA:=hA.after hbf;replace hBW:=bt hBW hbf;replace hsz:w4.heap.size≤wf.heap.size:=Nat.le_trans hsz hbf.size;clear hbf;have hKl:=hK.lt;have hGl:=hG8.lt;have hGl2:=hG9.lt;obtain ⟨hKc0,hKf0,hKc1,hKf1,hKc2,hKf2,hKc3,hKf3⟩:=hK.x4;obtain ⟨hG8c0,hG8f0,hG8c1,hG8f1⟩:=hG8.x2;obtain ⟨hG9c0,hG9f0,hG9c1,hG9f1⟩:=hG9.x2;go_wp2_with fail
         refine (HOP.out _).mono ?_;rintro e wg ⟨rfl,hbg⟩;go_wp2;go_ret
         exact ⟨rfl,bt hBW hbg⟩
end Go.Proofs.YtfgandecbkbleaaGreatDoor
