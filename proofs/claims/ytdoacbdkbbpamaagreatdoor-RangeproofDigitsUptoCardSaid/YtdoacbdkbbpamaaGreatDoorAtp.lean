import Derived.Test.YtdoacbdkbbpamaaGreatDoorItr
import Derived.Lib.AppendStr
set_option linter.unusedVariables false
set_option linter.unusedSimpArgs false
set_option maxRecDepth 100000
set_option maxHeartbeats 16000000
namespace Go.Proofs.YtdoacbdkbbpamaaGreatDoor
open Go.RowKit Go.Shelf
attribute [local go_sem] Oper.semAt_some
theorem wpListIn_append_str {F:Fence} {n':Nat} {P:Program} {ops:Array Oper} {rest:List Oper} {o:Oper} {a:Act} {Q:Exit→Act→World→Prop} {w:World} (hgd:o.guard=none) (sl x:Operand) (t u:TypeId)
  (ho:o.op=.call { callee:=.builtin .append,args:=#[sl,x],argTypes:=#[t,u] }) (v:Value) (s:ByteArray) (hs:a.eval sl=v) (hx:a.eval x=.string s) (v':Value) (w':World)
  (hr:(Builtin.append_ #[t,u] o.type #[v,.string s]).run P w=.ok v' w') (h:wpListIn F n' P ops Q rest (a.put o.dst v') w'):wpListIn F n' P ops Q (o :: rest) a w:=by
 refine wpListIn_plain hgd fun K hK=>?_
 unfold Oper.wpIn;refine ⟨?_,?_⟩
 ·simp [Oper.about,ho,resolve,Target.leads,Sem.run_pure]
 ·rw [Oper.semAt_plain F _ _ (by rw [ho];intro c hc';cases hc')];simp only [execOp,ho,resolve,invoke,builtin,Sem.run_bind,Sem.run_pure,Result.andThen_ok,List.map_toArray,List.map_cons,List.map_nil,hs,hx,hr];exact hK _ _ h
theorem row_strN {w:World} {b o c:Nat} {l:List UInt8} (h:Row w b o l) :
  (convert 122 31 (.slice (some ⟨b,o,none⟩) l.length c)).run Tryz.prog w=.ok (.string ⟨l.toArray⟩) w:=by
 have:=Lib.run_convert_whole (P:=Tryz.prog) w 122 5 31 Tryz.underlying122 Tryz.underlying5 Tryz.underlying31 b o ⟨l.toArray⟩ h.bytes c;simpa [ByteArray.size] using this
theorem strCells_u8s (s:ByteArray):Lib.strCells s=u8s s.data.toList:=rfl
def AtR (w:World) (gz gt ga:Nat) (seed:ByteArray) (ao:Option Addr) (m c p a z:Nat) (W:World):Prop:=
 Blk W gz 3 [.int .i64 (z:Int)]∧Blk W gt 42 [.slice ao m c,.string seed,.int .i64 (p:Int)]∧Blk W ga 3 [.int .i64 (a:Int)]∧Below w.heap.size w W
theorem AtR.own (w:World) (gz gt ga:Nat) (seed:ByteArray) (ao:Option Addr) (m c p a z B:Nat) (hB:w.heap.size≤B):OwnFrom B (fun (_:Nat)=>AtR w gz gt ga seed ao m c p a z):=
 fun s X Y row hs hg hr=>⟨hs.1.own hg (fun r h=>(hr r h).2),hs.2.1.own hg (fun r h=>(hr r h).2),hs.2.2.1.own hg (fun r h=>(hr r h).2),hs.2.2.2.grown hg hs.2.2.2.size (fun k h=>Nat.le_trans hB (hr k h).1)⟩
theorem AtR.after {w:World} {gz gt ga:Nat} {seed:ByteArray} {ao:Option Addr} {m c p a z:Nat} {A B:World} (h:AtR w gz gt ga seed ao m c p a z A) (hb:Below A.heap.size A B):AtR w gz gt ga seed ao m c p a z B:=
 ⟨h.1.after hb,h.2.1.after hb,h.2.2.1.after hb,bt h.2.2.2 hb⟩
def AtO (n₀ gb:Nat) (bl:Nat→ByteArray) (k:Nat) (W:World):Prop:=
 ∃v,Boxed W gb 122 v∧W.ownsRow n₀ 5 1 v (32*k) (u8s (bl k).data.toList)∧True
theorem AtO.own (n₀ gb:Nat) (bl:Nat→ByteArray) (B:Nat):OwnFrom B (AtO n₀ gb bl):=
 Own.from (holdsRow_own n₀ gb 122 5 1 (fun k=>32*k) (fun k=>u8s (bl k).data.toList) (fun _ _=>True)) _
theorem AtO.after {n₀ gb:Nat} {bl:Nat→ByteArray} {k:Nat} {A B:World} (h:AtO n₀ gb bl k A) (hb:Below A.heap.size A B):AtO n₀ gb bl k B:=by
 obtain ⟨v,h1,h2,h3⟩:=h;exact ⟨v,(hb.block _ h1.lt).trans h1,own_after h2 hb,h3⟩
theorem ownFrom_pure' {B:Nat} (P:Nat→Prop):OwnFrom B (fun k (_:World)=>P k):=fun _ _ _ _ hs _ _=>hs
theorem and_mask (b r:Nat) (hb:b<256) (hr:r≤7):bits .and .u8 (b:Int) ((255:Int) / 2^r)=((b%2^(8-r):Nat):Int):=by
 have h255:(255:Int) / 2^r=((2^(8-r)-1:Nat):Int):=by
  rcases (by omega:r=0∨r=1∨r=2∨r=3∨r=4∨r=5∨r=6∨r=7) with h | h | h | h | h | h | h | h <;> subst h <;> rfl
 have hlt:2^(8-r)-1<256:=by
  have:2^(8-r)≤2^8:=Nat.pow_le_pow_right (by decide) (by omega);omega
 rw [h255,u8_and_nat _ _ hb hlt,Nat.and_two_pow_sub_one_eq_mod]
theorem attempt_v (seed:ByteArray) (p a n:Nat) (ao:Option Addr) (m c:Nat) (w:World) (hk:seed.size≤1000) (h1:p≤2147483647) (h2:a<256) (h3:1≤n) (h4:n≤512) (ht:TabW w) :
  Calls Tryz.prog 133 #[.agg #[.slice ao m c,.string seed,.int .i64 (p:Int)],.int .i64 (a:Int),.int .i64 (n:Int)] w fun e w'=>e=.returned (.string (attT seed p a n))∧Below w.heap.size w w':=by
 obtain ⟨i0,hi0,hz00,hz01,hz02⟩:=info_parts info_u8;have HI0:=Lib.hid hi0;have HA0:=Lib.hid hz00;have HB0:=Lib.hid hz01;have HC0:=Lib.hid hz02;clear hi0 hz00 hz01 hz02;obtain ⟨z,hz⟩:∃z,z=(n+7) / 8:=⟨_,rfl⟩;have hz1:1≤z:=by omega
 have hz2:z≤64:=by omega
 have hz3:n≤8*z:=by omega
 have hz4:8*z<n+8:=by omega
 have e1:((n:Int)+7) / 8=(z:Int):=by omega
 have e2:((n:Int)+7).tdiv 8=(z:Int):=by rw [Int.tdiv_eq_ediv_of_nonneg (by omega)];exact e1
 have HAT:Hid (attT seed p a n=canonV ((⟨#[UInt8.ofNat (byt (blV seed p a ((z+31) / 32)) 0%2^(8-(8*z-n)))]⟩:ByteArray)++(blV seed p a ((z+31) / 32)).extract 1 z)):=by rw [Hid,hz];rfl
 have HT:=Lib.hid ht;clear hz ht;refine (callsIn_wide (n:=3)).1 ?_;refine callsIn_of_wp_marks Tryz.func133 rfl trivial ?_ rfl;simp only [Tryz.ntmps133,List.size_toArray,List.length_cons,List.length_nil,Nat.reduceAdd,Nat.reduceSub,Array.replicate_succ,Array.replicate_zero,List.push_toArray,List.append_toArray,List.nil_append,List.cons_append];gi_wp2_with fail
 refine ⟨trivial,?_⟩;refine (callsIn_wide.2 (pblocks_c ao m c seed p a _)).mono ?_;rintro e w' ⟨rfl,rfl⟩;gi_wp2_with fail
 obtain ⟨W0,hW0⟩:∃W,W=(((((w.alloc (.cells #[.slice ao m c,.string seed,.int .i64 (p:Int)] 42)).alloc (.cells #[.int .i64 (z:Int)] 3)).alloc (.cells #[.slice none 0 0] 122)).alloc (.cells #[.slice ao m c,.string seed,.int .i64 (p:Int)] 42)).alloc (.cells #[.int .i64 (a:Int)] 3)):=⟨_,rfl⟩;obtain ⟨ga,hga⟩:∃g,g=w.heap.size+1+1+1+1:=⟨_,rfl⟩;obtain ⟨gt,hgt⟩:∃g,g=w.heap.size+1+1+1:=⟨_,rfl⟩;obtain ⟨gb,hgb⟩:∃g,g=w.heap.size+1+1:=⟨_,rfl⟩;obtain ⟨gz,hgz⟩:∃g,g=w.heap.size+1:=⟨_,rfl⟩;have hsz:W0.heap.size=w.heap.size+1+1+1+1+1:=by rw [hW0];simp
 have bZ:Blk W0 gz 3 [.int .i64 (z:Int)]:=by
  have h:=(((Blk.new (w.alloc (.cells #[.slice ao m c,.string seed,.int .i64 (p:Int)] 42)) #[.int .i64 (z:Int)] 3).alloc (.cells #[.slice none 0 0] 122)).alloc (.cells #[.slice ao m c,.string seed,.int .i64 (p:Int)] 42)).alloc (.cells #[.int .i64 (a:Int)] 3);rw [World.size_alloc] at h;rw [hW0,hgz];exact h
 have bO:Boxed W0 gb 122 (.slice none 0 0):=by
  have h:=((Boxed.new ((w.alloc (.cells #[.slice ao m c,.string seed,.int .i64 (p:Int)] 42)).alloc (.cells #[.int .i64 (z:Int)] 3)) 122 (.slice none 0 0)).alloc (.cells #[.slice ao m c,.string seed,.int .i64 (p:Int)] 42)).alloc (.cells #[.int .i64 (a:Int)] 3);simp only [World.size_alloc] at h;rw [hW0,hgb];exact h
 have bT:Blk W0 gt 42 [.slice ao m c,.string seed,.int .i64 (p:Int)]:=by
  have h:=(Blk.new (((w.alloc (.cells #[.slice ao m c,.string seed,.int .i64 (p:Int)] 42)).alloc (.cells #[.int .i64 (z:Int)] 3)).alloc (.cells #[.slice none 0 0] 122)) #[.slice ao m c,.string seed,.int .i64 (p:Int)] 42).alloc (.cells #[.int .i64 (a:Int)] 3);simp only [World.size_alloc] at h;rw [hW0,hgt];exact h
 have bA:Blk W0 ga 3 [.int .i64 (a:Int)]:=by
  have h:=Blk.new ((((w.alloc (.cells #[.slice ao m c,.string seed,.int .i64 (p:Int)] 42)).alloc (.cells #[.int .i64 (z:Int)] 3)).alloc (.cells #[.slice none 0 0] 122)).alloc (.cells #[.slice ao m c,.string seed,.int .i64 (p:Int)] 42)) #[.int .i64 (a:Int)] 3;simp only [World.size_alloc] at h;rw [hW0,hga];exact h
 have hBW:Below w.heap.size w W0:=by rw [hW0];exact ba (ba (ba (ba (b1 w _) _) _) _) _
 rw [←hW0];clear hW0;have HG:Hid (w.heap.size≤gb∧gz≠gb∧gt≠gb∧ga≠gb∧w.heap.size≤W0.heap.size):=⟨by omega,by omega,by omega,by omega,by omega⟩;rw [←hga,←hgt,←hgb,←hgz];clear hga hgt hgb hgz hsz;have HBL:Hid (∀k,blV seed p a (k+1)=blV seed p a k++macV seed (nmV p a k)):=fun k=>rfl
 have HBS:Hid (∀k,(blV seed p a k).size=32*k):=blV_size seed p a;have HMS:Hid (∀k,(macV seed (nmV p a k)).size=32):=fun k=>macV_size _ _
 have HIT:Hid (∀(n l:Nat) (J Jx:Nat→World→Prop) (hJI:∀k A,J k A→k<2∧ItW gt ga seed p a A) (hJb:∀k A B,J k A→Below A.heap.size A B→J k B)
  (hY:∀k A,J k A→YieldAt Fence.wide (n-1) Tryz.prog l #[.string (macV seed (nmV p a k))] A fun e A'=>(e=.returned (.bool true)∧J (k+1) A')∨(e=.returned (.bool false)∧Jx (k+1) A'))
  (W:World) (h0:J 0 W),CallsIn Fence.wide n Tryz.prog 178 #[.func (.yield l) #[] #[],.pointer (some ⟨gt,0,none⟩),.pointer (some ⟨ga,0,none⟩)] W fun e W'=>(∃v,e=.returned v)∧∃k,Jx k W'):=fun n l J Jx q1 q2 q3 W q4=>blocks1_in n l gt ga seed p a 2 hk h1 h2 (by decide) J Jx q1 q2 q3 W q4
 have hB0:blV seed p a 0=⟨#[]⟩:=rfl;obtain ⟨bl,hbl⟩:∃f:Nat→ByteArray,f=blV seed p a:=⟨_,rfl⟩;obtain ⟨mv,hmv⟩:∃f:Nat→ByteArray,f=fun k=>macV seed (nmV p a k):=⟨_,rfl⟩
 have hmk:∀k,macV seed (nmV p a k)=mv k:=fun k=>by rw [hmv]
 simp only [←hbl,hmk] at HBL HBS HMS HIT hB0 HAT;clear hbl hmv hmk
 refine wpIn_range_until (n:=3) (out:=.exit 0) rfl (by omega) (gf:=178) (lb:=#[.pointer (some ⟨gt,0,none⟩),.pointer (some ⟨ga,0,none⟩)]) rfl trivial (enters_of Tryz.func178 (by kernel_rfl) rfl)
  (enc:=fun k=>#[.string (mv k)]) (fun _=>rfl)
  (fun k W=>(k<2∧(k=0∨32*k<z))∧(AtO w.heap.size gb bl k W∧AtR w gz gt ga seed ao m c p a z W))
  (fun k W=>(k≤2∧z≤32*k∧32*k<z+32)∧(AtO w.heap.size gb bl k W∧AtR w gz gt ga seed ao m c p a z W))
  (OwnFrom.and (ownFrom_pure' _) (OwnFrom.and (AtO.own _ _ _ _) (AtR.own _ _ _ _ _ _ _ _ _ _ _ _ HG.out.2.2.2.2)))
  (OwnFrom.and (ownFrom_pure' _) (OwnFrom.and (AtO.own _ _ _ _) (AtR.own _ _ _ _ _ _ _ _ _ _ _ _ HG.out.2.2.2.2)))
  (fun k A B h hb=>⟨h.1,h.2.1.after hb,h.2.2.after hb⟩)
  ⟨⟨by omega,.inl rfl⟩,⟨_,bO,by rw [hB0];exact World.ownsRow_nil _ _ _ _,trivial⟩,bZ,bT,bA,hBW⟩
  (fun l J Jx W hJI hJb hY h0=>HIT.out _ l J Jx (fun k A hJ=>⟨(hJI k A hJ).1.1,(hJI k A hJ).2.2.2.1.cell 1,(hJI k A hJ).2.2.2.1.cell 2,(hJI k A hJ).2.2.2.2.1.cell 0,(hJI k A hJ).2.2.2.1.lt,(hJI k A hJ).2.2.2.2.1.lt,HT.out.after (hJI k A hJ).2.2.2.2.2⟩) hJb hY W h0)
  (fun k=>{ tmps:=#[.agg #[.slice ao m c,.string seed,.int .i64 (p:Int)],.int .i64 (a:Int),.int .i64 (n:Int),.pointer (some ⟨w.heap.size,0,none⟩),undef,undef,.string { data:=#[] },.pointer (some ⟨gz,0,none⟩),.pointer (some ⟨gb,0,none⟩),.string (mv k),.int .i64 (n:Int),.int .i64 ((n:Int)+7),.int .i64 (z:Int),.agg #[.slice ao m c,.string seed,.int .i64 (p:Int)],.int .i64 (a:Int),.func (.func 178) #[] #[.pointer (some ⟨gt,0,none⟩),.pointer (some ⟨ga,0,none⟩)],.string (mv k),undef,undef,undef,undef,undef,undef,undef,undef,undef,undef,undef,undef,undef,undef,undef,undef,undef,undef,undef,undef,undef,undef,undef,undef,undef,undef,undef,undef,undef,undef,undef,undef,undef,undef,undef],defers:=[] }) ?assign ?body ?stop
 case assign =>
  intro l k W K hK;gi_wp2
  exact hK
 case body =>
  rintro l k W ⟨⟨hk2,hkz⟩,⟨v,hv,hrow,_⟩,hR⟩;have hc:=hv.cell;have hf:=hv.frozen;have hms:=HMS.out k;obtain ⟨v',w1,hr,hown',hgrow,_⟩:=Lib.run_append_own_string (P:=Tryz.prog) (w:=W) w.heap.size 122 9 122 5 i0 Tryz.underlying122 Tryz.underlying9 HI0.out HA0.out HB0.out HC0.out v (32*k) _ hrow (mv k) (by rw [hms];simp only [maxLen];omega) (by rw [hms];omega) hR.2.2.2.size;rw [strCells_u8s,hms] at hown'
  have HOW:Hid (u8s (bl k).data.toList++u8s (mv k).data.toList=u8s (bl (k+1)).data.toList):=by
   rw [Hid,HBL.out k,ByteArray.data_append,Array.toList_append,u8s,u8s,u8s,List.map_append]
  rw [HOW.out] at hown';obtain ⟨q,hq⟩:∃q,q=32*k+32:=⟨_,rfl⟩;rw [←hq] at hown';obtain ⟨q',hq'⟩:∃q',q=q'+1:=⟨q-1,by omega⟩;obtain ⟨g',cap',rfl⟩:∃g cap,v'=.slice (some ⟨g,0,none⟩) q cap:=by rw [hq'] at hown' ⊢;exact ownsRow_succ hown'
  have hv1:Boxed w1 gb 122 v:=hv.kept hgrow (hv.not_row (by decide) hrow);have hv2:=hv1.set (.slice (some ⟨g',0,none⟩) q cap');have hrow2:=hown'.kept (grownBy_setCell' w1 gb (.slice (some ⟨g',0,none⟩) q cap')) (.inr (hv1.not_row (by decide) hown').symm)
  have hcells:∀j o,v.ownBlock=some j→W.heap[j]?=some o→o.isCells=true:=fun j o ej hj=>by
   rcases hrow.2 with ⟨rfl,_⟩ | ⟨g,cap,cur,rfl,_,hgb,_⟩
   ·simp [Value.ownBlock] at ej
   ·obtain rfl:g=j:=by simpa [Value.ownBlock] using ej
    rw [hgb] at hj;cases hj;rfl
  have hnb:∀{g:Nat} {T:TypeId} {cs:List Value},Blk W g T cs→T≠5→some g≠v.ownBlock:=fun {g T cs} hb hT e=>by
   rcases hrow.2 with ⟨rfl,_⟩ | ⟨g2,cap,cur,rfl,_,hgb,_⟩
   ·simp [Value.ownBlock] at e
   ·obtain rfl:g=g2:=by simpa [Value.ownBlock] using e
    have h:=(show W.heap[g]?=_ from hb).symm.trans hgb;simp at h;exact hT h.2
  have hk2':KeepsOthers W (w1.setCell ⟨gb,0,none⟩ (.slice (some ⟨g',0,none⟩) q cap')):=(KeepsOthers.of_grownBy hgrow hcells).trans (KeepsOthers.setCell _ _ _)
  have hB1:Below w.heap.size w w1:=hR.2.2.2.grown hgrow hR.2.2.2.size (fun j ej=>by
   rcases hrow.2 with ⟨rfl,_⟩ | ⟨g,cap,cur,rfl,hb,_,_⟩
   ·simp [Value.ownBlock] at ej
   ·obtain rfl:g=j:=by simpa [Value.ownBlock] using ej
    exact hb)
  have hR2:AtR w gz gt ga seed ao m c p a z (w1.setCell ⟨gb,0,none⟩ (.slice (some ⟨g',0,none⟩) q cap')):=
   ⟨Blk.other ((hgrow.block _ hR.1.lt (hnb hR.1 (by decide))).trans hR.1) _ _ HG.out.2.1,Blk.other ((hgrow.block _ hR.2.1.lt (hnb hR.2.1 (by decide))).trans hR.2.1) _ _ HG.out.2.2.1,Blk.other ((hgrow.block _ hR.2.2.1.lt (hnb hR.2.2.1 (by decide))).trans hR.2.2.1) _ _ HG.out.2.2.2.1,hB1.setCell (p:=⟨gb,0,none⟩) HG.out.1 _⟩
  have hc1:=hv1.cell;have hf1:=hv1.frozen;have hc2:=hv2.cell;have hcz:=hR2.1.cell 0;have HRW:=Lib.hid hrow2;have HV2:=Lib.hid hv2;have HR2:=Lib.hid hR2;have HKO:=Lib.hid hk2';clear hv hrow hR hown' hgrow hv1 hv2 hrow2 hcells hnb hk2' hB1 hR2 hms HOW hq';have HQ:=Lib.hid hq;clear hq;by_cases hge:z≤q
  ·have hd:decide ((z:Int)≤(q:Int))=true:=decide_eq_true (by omega);gi_wp2_with (gi_at_builtin;refine wpListIn_append_str rfl (.tmp 17) (.tmp 18) 122 9 rfl v (mv k) rfl rfl _ _ hr ?_)
   exact ⟨rfl,HKO.out,⟨by omega,by have:=HQ.out;omega,by have:=HQ.out;omega⟩,⟨_,HV2.out,by have h:=HRW.out;rw [HQ.out] at h ⊢;exact h,trivial⟩,HR2.out⟩
  ·have hd:decide ((z:Int)≤(q:Int))=false:=decide_eq_false (by omega);gi_wp2_with (gi_at_builtin;refine wpListIn_append_str rfl (.tmp 17) (.tmp 18) 122 9 rfl v (mv k) rfl rfl _ _ hr ?_)
   exact ⟨HKO.out,⟨by have:=HQ.out;omega,.inr (by have:=HQ.out;omega)⟩,⟨_,HV2.out,by have h:=HRW.out;rw [HQ.out] at h ⊢;exact h,trivial⟩,HR2.out⟩
 case stop =>
  rintro D k W hD ⟨⟨hk2,hzk,hkz⟩,⟨v,hv,hrow,_⟩,hR⟩ hK;have hke:k=(z+31) / 32:=by omega
  rw [←hke] at HAT;have hts:=HBS.out k;obtain ⟨t,htt⟩:∃t,t=bl k:=⟨_,rfl⟩;rw [←htt] at HAT hts hrow;clear htt hke HBL HBS HMS HIT hB0 hk2 hkz bZ bO bT bA hBW;obtain ⟨q,hq⟩:∃q,q=32*k:=⟨_,rfl⟩;rw [←hq] at hts hrow hzk;clear hq;have hv0:=hv;rcases hrow.2 with ⟨rfl,h0⟩ | ⟨g',cap,cur,rfl,hbg,hg,hnc,hcm,hcs,htake⟩
  ·omega
  have hne:gb≠g':=fun e=>hv.not_row (by decide) hrow (by rw [e];rfl)
  have hblk:Blk W g' 5 cur.toList:=by show W.heap[g']?=some _;rw [Array.toArray_toList];exact hg
  have hr7:8*z-n≤7:=by omega
  obtain ⟨r,hr⟩:∃r,r=8*z-n:=⟨_,rfl⟩;rw [←hr] at hr7 HAT;obtain ⟨y,hy⟩:∃y,y=byt t 0:=⟨_,rfl⟩;have hc:=hv.cell;have hf:=hv.frozen;have hcz:=hR.1.cell 0;have z0:(0:Int)≤(z:Int):=by omega
  have z1:(z:Int)≤(cap:Int):=by omega
  have zd:decide ((0:Int)<(z:Int))=true:=decide_eq_true (by omega);have hcz2:(W.setCell ⟨gb,0,none⟩ (.slice (some ⟨g',0,none⟩) z cap)).cell? ⟨gz,0,none⟩=some (.int .i64 (z:Int)):=(hR.1.other ⟨gb,0,none⟩ (.slice (some ⟨g',0,none⟩) z cap) HG.out.2.1).cell 0;gi_wp2_with fail
  have hv2:=hv.set (.slice (some ⟨g',0,none⟩) z cap);have hb2:=hblk.other ⟨gb,0,none⟩ (.slice (some ⟨g',0,none⟩) z cap) (Ne.symm hne);have hz2':=hR.1.other ⟨gb,0,none⟩ (.slice (some ⟨g',0,none⟩) z cap) HG.out.2.1;have hB2:=hR.2.2.2.setCell (p:=⟨gb,0,none⟩) HG.out.1 (.slice (some ⟨g',0,none⟩) z cap);have hK2:=(KeepsOthers.setCell W ⟨gb,0,none⟩ (.slice (some ⟨g',0,none⟩) z cap)).same D _ hK rfl
  have hy0:cur.toList[0]?=some (.int .u8 (y:Int)):=by
   have h:(cur.toList.take (q*1))[0]?=(u8s t.data.toList)[0]?:=by rw [htake]
   rw [List.getElem?_take,if_pos (by omega)] at h;rw [h,u8s,List.getElem?_map,Array.getElem?_toList,Array.getElem?_eq_getElem (by show 0<t.size;omega),hy,byt,Array.getD_eq_getD_getElem?,Array.getElem?_eq_getElem (by show 0<t.size;omega)];rfl
  have hy256:y<256:=by rw [hy,byt];exact UInt8.toNat_lt _
  have hCr:∀j,1≤j→(hj:j<z)→cur.toList[j]?=some (u8v (t.data.getD j 0)):=fun j hj1 hj=>by
   have h:(cur.toList.take (q*1))[j]?=(u8s t.data.toList)[j]?:=by rw [htake]
   rw [List.getElem?_take,if_pos (by omega)] at h;rw [h,u8s,List.getElem?_map,Array.getElem?_toList,Array.getD_eq_getD_getElem?,Array.getElem?_eq_getElem (by show j<t.size;omega)];rfl
  have hlen:cur.toList.length=cap:=by rw [Array.length_toList];omega
  -- the bytes
  obtain ⟨tl,htl⟩:∃tl:List UInt8,tl=UInt8.ofNat (y%2^(8-r)) :: (t.extract 1 z).data.toList:=⟨_,rfl⟩
  have htll:tl.length=z:=by
   have h:(t.extract 1 z).data.toList.length=z-1:=by rw [Array.length_toList];show (t.extract 1 z).size=_;rw [ByteArray.size_extract];omega
   rw [htl,List.length_cons,h];omega
  have HAV:Hid (attT seed p a n=⟨(tl.dropWhile (·==0)).toArray⟩):=by
   rw [Hid,HAT.out,canonV];congr 3
   rw [htl,ByteArray.data_append,Array.toList_append,hy];rfl
  obtain ⟨mb,hmb⟩:∃mb,mb=y%2^(8-r):=⟨_,rfl⟩;have hmb256:mb<256:=by rw [hmb];exact Nat.lt_of_le_of_lt (Nat.mod_le _ _) hy256
  have HCC:Hid (∀j,j<z→(cur.toList.set 0 (.int .u8 (mb:Int)))[j]?=some (u8v (tl.getD j 0))):=fun j hj=>by
   by_cases h0:j=0
   ·subst h0;rw [List.getElem?_set_self (by omega),htl,←hmb];show some (Value.int .u8 (mb:Int))=some (Value.int .u8 ((UInt8.ofNat mb).toNat:Int));rw [UInt8.toNat_ofNat',Nat.mod_eq_of_lt (by omega)]
   ·rw [List.getElem?_set_ne (by omega),hCr j (by omega) hj,htl];obtain ⟨i,rfl⟩:∃i,j=i+1:=⟨j-1,by omega⟩;congr 2
    show _=((t.extract 1 z).data.toList).getD i 0
    rw [List.getD_eq_getElem?_getD,Array.getElem?_toList,ByteArray.data_extract,Array.getElem?_extract,if_pos (by
     show i<min z t.data.size-1;have h3:t.data.size=t.size:=rfl;omega),Array.getD_eq_getD_getElem?,Nat.add_comm]
  have hbits:bits .and .u8 (y:Int) ((255:Int) / 2^r)=(mb:Int):=by rw [hmb];exact and_mask y r hy256 hr7
  have er:(8:Int)*(z:Int)-(n:Int)=(r:Int):=by omega
  have er2:IntKind.i64.wrap ((8:Int)*(z:Int))=8*(z:Int):=IntWalk.i64_in _ (by omega);have er3:IntKind.i64.wrap (r:Int)=(r:Int):=IntWalk.i64_in _ (by omega);have r0:(0:Int)≤(r:Int):=by omega
  have HTL:=Lib.hid htll;have HLN:=Lib.hid hlen;have HHR:=Lib.hid hR.2.2.2;clear hv hblk hR hK hy htl hCr hmb hlen hv0 hg htake hcs hcm hnc hrow hc hf hcz hcz2 zd htll HAT hr;generalize W.setCell ⟨gb,0,none⟩ (.slice (some ⟨g',0,none⟩) z cap)=W2 at hv2 hb2 hz2' hB2 hK2 ⊢;have c8:=hv2.cell;have f8:=hv2.frozen;have cz:=hz2'.cell 0;have cb:=(hb2.cell 0).trans hy0;have fb:=hb2.free 0;have lb:=hb2.lt;have l8:=hv2.lt;have lz:=hz2'.lt;refine wpIn_wide.2 ?_;go_region;have hO3:Blk (W2.setCell ⟨g',0,none⟩ (.int .u8 (mb:Int))).drew gb 122 [.slice (some ⟨g',0,none⟩) z cap]:=(Blk.other (show Blk W2 gb 122 [_] from hv2) ⟨g',0,none⟩ (.int .u8 (mb:Int)) hne).drew;have hb3:Blk (W2.setCell ⟨g',0,none⟩ (.int .u8 (mb:Int))).drew g' 5 (cur.toList.set 0 (.int .u8 (mb:Int))):=(hb2.set 0 _).drew;have hB3:Below w.heap.size w (W2.setCell ⟨g',0,none⟩ (.int .u8 (mb:Int))).drew:=(hB2.setCell (p:=⟨g',0,none⟩) hbg _).drew;have hK3:(W2.setCell ⟨g',0,none⟩ (.int .u8 (mb:Int))).drew.heap[D]?=some (.deferred (some [])):=(KeepsOthers.setCell W2 ⟨g',0,none⟩ (.int .u8 (mb:Int))).same D _ hK2 rfl;have HHD:Hid (W0.heap.size≤D):=hD;clear c8 f8 cz cb fb lb l8 lz hv2 hb2 hz2' hB2 hK2 hD hy0 hbits er er2 er3;generalize (W2.setCell ⟨g',0,none⟩ (.int .u8 (mb:Int))).drew=W3 at hO3 hb3 hB3 hK3 ⊢;generalize cur.toList.set 0 (.int .u8 (mb:Int))=C at hb3 HCC;clear HLN;gi_wp2
  gi_loopw [39] (fun _ wr=>∃(j o rr c':Nat),j≤z∧Hid (j<z→o=j)∧Hid (rr+j=z)∧Hid (c'+j=cap)∧Blk wr gb 122 [.slice (some ⟨g',o,none⟩) rr c']∧Blk wr g' 5 C∧Hid ((tl.drop j).dropWhile (·==0)=tl.dropWhile (·==0))∧Below w.heap.size w wr∧wr.heap[D]?=some (.deferred (some []))) (fun _ wr=>match wr.cell? ⟨gb,0,none⟩ with | some (.slice _ m _)=>m | _=>0)
  case atStart=>exact ⟨0,0,z,cap,by omega,fun _=>rfl,rfl,rfl,hO3,hb3,rfl,hB3,hK3⟩
  case round =>
   clear hO3 hb3 hB3 hK3;obtain ⟨j,o,rr,c',hjz,HO,HRR,HC',hO,hb,HDW,hB,hK⟩:=hrel;obtain ⟨wp,hwp⟩:∃wp,wp=wr:=⟨_,rfl⟩;subst hwp;have c8:=hO.cell 0;have f8:=hO.free 0;have l8:=hO.lt;have lb:=hb.lt;have HDL:Hid ((tl.drop j).length=rr):=by rw [Hid,List.length_drop,HTL.out];have:=HRR.out;omega
   by_cases hlt:j<z
   ·obtain rfl:o=j:=HO.out hlt;have hrr:1≤rr:=by have:=HRR.out;omega
    have hrc:rr≤c':=by have:=HRR.out;have:=HC'.out;omega
    have hd0:decide ((0:Int)<(rr:Int))=true:=decide_eq_true (by omega);have hbc:wp.cell? ⟨g',o,none⟩=some (u8v (tl.getD o 0)):=(hb.cell o).trans (HCC.out o hlt)
    have HDC:Hid (tl.drop o=tl.getD o 0 :: tl.drop (o+1)):=by
     rw [Hid,List.drop_eq_getElem_cons (by rw [HTL.out];exact hlt),List.getD_eq_getElem?_getD,List.getElem?_eq_getElem (by rw [HTL.out];exact hlt)];rfl
    have hcv:=row_strN (w:=wp) (b:=g') (o:=o) (c:=c') (l:=tl.drop o) (fun i hi=>by
     have h:=(hb.cell (o+i)).trans (HCC.out (o+i) (by rw [List.length_drop,HTL.out] at hi;omega));rw [h,List.getElem_drop,List.getD_eq_getElem?_getD,List.getElem?_eq_getElem (by rw [List.length_drop] at hi;omega)];rfl)
    rw [HDL.out] at hcv;generalize tl.getD o 0=x at hbc HDC;unfold u8v at hbc;have q1:(0:Int)≤1:=by omega
    have q2:(1:Int)≤(rr:Int):=by omega
    have q3:(rr:Int)≤(c':Int):=by omega
    by_cases hx:x=0
    ·have hx0:((x.toNat:Int)==0)=true:=by rw [hx];rfl
     have HX:=Lib.hid hx
     have HDX:Hid ((tl.drop (o+1)).dropWhile (·==0)=tl.dropWhile (·==0)):=by
      have h:=HDW.out;rw [HDC.out,List.dropWhile_cons,if_pos (by rw [hx];rfl)] at h;exact h
     clear hx hcv;gi_wp2
     ·refine ⟨⟨o+1,by omega,o,fun h=>by have:=HRR.out;omega,rr-1,by rw [Hid];have:=HRR.out;omega,0,by rw [Hid];have:=HC'.out;omega,hO.set 0 _,hb.other _ _ (Ne.symm hne),HDX,hB.setCell (p:=⟨gb,0,none⟩) HG.out.1 _,(KeepsOthers.setCell wp ⟨gb,0,none⟩ _).same D _ hK rfl⟩,by omega⟩
     ·refine ⟨⟨o+1,by omega,o+1,fun _=>rfl,rr-1,by rw [Hid];have:=HRR.out;omega,c'-1,by rw [Hid];have:=HC'.out;omega,hO.set 0 _,hb.other _ _ (Ne.symm hne),HDX,hB.setCell (p:=⟨gb,0,none⟩) HG.out.1 _,(KeepsOthers.setCell wp ⟨gb,0,none⟩ _).same D _ hK rfl⟩,by omega⟩
    ·have hx0:((x.toNat:Int)==0)=false:=by
      rw [beq_eq_false_iff_ne];intro e;exact hx (UInt8.toNat_inj.1 (by show x.toNat=0;omega))
     have HX:=Lib.hid hx
     have HFIN:Hid (attT seed p a n=⟨(tl.drop o).toArray⟩):=by
      have h:=HDW.out;rw [Hid,HAV.out,←h];congr 2
      rw [HDC.out,List.dropWhile_cons,if_neg (by rw [beq_iff_eq];exact hx)]
     clear hx;gi_wp2
     refine ⟨by simp,.inl ⟨_,_,rfl,run_takeDeferred hK,?_⟩⟩;exact ⟨_,results_tmp rfl _ _ _,by rw [HFIN.out];rfl,hB.trans (belowK_b (w:=W0) HG.out.2.2.2.2 wp D _ _ HHD.out hK rfl rfl)⟩
   ·have hr0:rr=0:=by have:=HRR.out;omega
    have hcv:=row_strN (w:=wp) (b:=g') (o:=o) (c:=c') (l:=[]) (fun i hi=>absurd hi (Nat.not_lt_zero _));subst hr0;have hcv2:(convert 122 31 (.slice (some ⟨g',o,none⟩) 0 c')).run Tryz.prog wp=.ok (.string ⟨#[]⟩) wp:=hcv
    have HFIN:Hid (attT seed p a n=⟨#[]⟩):=by
     have h:=HDW.out;rw [List.drop_eq_nil_of_le (by rw [HTL.out];omega)] at h;rw [Hid,HAV.out,←h];rfl
    clear hcv;gi_wp2
    refine ⟨by simp,.inl ⟨_,_,rfl,run_takeDeferred hK,?_⟩⟩;exact ⟨_,results_tmp rfl _ _ _,by rw [HFIN.out];rfl,hB.trans (belowK_b (w:=W0) HG.out.2.2.2.2 wp D _ _ HHD.out hK rfl rfl)⟩
end Go.Proofs.YtdoacbdkbbpamaaGreatDoor
