/- The attempts of the program: a function;the table that the row lists. -/
import Derived.Test.YtdgddpnjkinciaaGreatDoorItr
import Derived.Lib.AppendStr
import Derived.LaidMore
import Derived.ProofKit
import Derived.OpenShut
import Derived.Stop.Joined
import Derived.Lib.LaidTab
set_option linter.all false
set_option maxRecDepth 100000
set_option maxHeartbeats 16000000
namespace Go.Proofs.YtdgddpnjkinciaaGreatDoor
section
open Go.RowKit Go.Shelf
attribute [local go_sem] Oper.semAt_some
theorem wpListIn_append_str {F:Fence} {n':Nat} {P:Program} {ops:Array Oper} {rest:List Oper} {o:Oper} {a:Act} {Q:Exit→Act→World→Prop} {w:World} (hb:o.guard=none) (sl x:Operand) (t u:TypeId)
  (ho:o.op=.call { callee:=.builtin .append,args:=#[sl,x],argTypes:=#[t,u] }) (v:Value) (s:ByteArray) (hs:a.eval sl=v) (hx:a.eval x=.string s) (v':Value) (w':World)
  (hr:(Builtin.append_ #[t,u] o.type #[v,.string s]).run P w=.ok v' w') (h:wpListIn F n' P ops Q rest (a.put o.dst v') w'):wpListIn F n' P ops Q (o :: rest) a w:=by
 refine wpListIn_plain hb fun K hK=>?_
 unfold Oper.wpIn;refine⟨?_,?_⟩
 ·simp[Oper.about,ho,resolve,Target.leads,Sem.run_pure]
 ·rw[Oper.semAt_plain F _ _ (by rw[ho];intro c hc;cases hc)];simp only[execOp,ho,resolve,invoke,builtin,Sem.run_bind,Sem.run_pure,Result.andThen_ok,List.map_toArray,List.map_cons,List.map_nil,hs,hx,hr];exact hK _ _ h
theorem row_strN {w:World} {b o c:Nat} {l:List UInt8} (h:Row w b o l) :
  (convert 137 22 (.slice (some ⟨b,o,none⟩) l.length c)).run Tryz.prog w=.ok (.string ⟨l.toArray⟩) w:=by
 have:=Lib.run_convert_whole (P:=Tryz.prog) w 137 5 22 Tryz.underlying137 Tryz.underlying5 Tryz.underlying22 b o ⟨l.toArray⟩ h.bytes c;simpa [ByteArray.size] using this
theorem strCells_u8s (s:ByteArray):Lib.strCells s=u8s s.data.toList:=rfl
def AtR (w:World) (gz gt ga:Nat) (seed:ByteArray) (ao:Option Addr) (m c p a z:Nat) (W:World):Prop:=
 Blk W gz 3 [.int .i64 (z:Int)]∧Blk W gt 35 [.slice ao m c,.string seed,.int .i64 (p:Int)]∧Blk W ga 3 [.int .i64 (a:Int)]∧Bw w W
theorem AtR.own (w:World) (gz gt ga:Nat) (seed:ByteArray) (ao:Option Addr) (m c p a z B:Nat) (hB:w.heap.size≤B):OwnFrom B (fun (_:Nat)=>AtR w gz gt ga seed ao m c p a z):=
 fun s X Y row hs hg hr=>⟨hs.1.own hg (fun r h=>(hr r h).2),hs.2.1.own hg (fun r h=>(hr r h).2),hs.2.2.1.own hg (fun r h=>(hr r h).2),hs.2.2.2.grown hg hs.2.2.2.size (fun k h=>Nat.le_trans hB (hr k h).1)⟩
theorem AtR.after {w:World} {gz gt ga:Nat} {seed:ByteArray} {ao:Option Addr} {m c p a z:Nat} {A B:World} (h:AtR w gz gt ga seed ao m c p a z A) (hb:Bw A B):AtR w gz gt ga seed ao m c p a z B:=
 ⟨h.1.after hb,h.2.1.after hb,h.2.2.1.after hb,bt h.2.2.2 hb⟩
def AtO (n₀ gb:Nat) (bl:Nat→ByteArray) (k:Nat) (W:World):Prop:=
 ∃v,Boxed W gb 137 v∧W.ownsRow n₀ 5 1 v (32*k) (u8s (bl k).data.toList)∧True
theorem AtO.own (n₀ gb:Nat) (bl:Nat→ByteArray) (B:Nat):OwnFrom B (AtO n₀ gb bl):=
 Own.from (holdsRow_own n₀ gb 137 5 1 (fun k=>32*k) (fun k=>u8s (bl k).data.toList) (fun _ _=>True)) _
theorem AtO.after {n₀ gb:Nat} {bl:Nat→ByteArray} {k:Nat} {A B:World} (h:AtO n₀ gb bl k A) (hb:Bw A B):AtO n₀ gb bl k B:=by
 obtain⟨v,h1,h2,h3⟩:=h;exact⟨v,(hb.block _ h1.lt).trans h1,own_after h2 hb,h3⟩
theorem ownFrom_pure' {B:Nat} (P:Nat→Prop):OwnFrom B (fun k (_:World)=>P k):=fun _ _ _ _ hs _ _=>hs
theorem and_mask (b r:Nat) (hb:b<256) (hr:r≤7):bits .and .u8 (b:Int) ((255:Int) / 2^r)=((b%2^(8-r):Nat):Int):=by
 have hc:(255:Int) / 2^r=((2^(8-r)-1:Nat):Int):=by
  rcases (by omega:r=0∨r=1∨r=2∨r=3∨r=4∨r=5∨r=6∨r=7) with h | h | h | h | h | h | h | h <;> subst h <;> rfl
 have hlt:2^(8-r)-1<256:=by
  have:2^(8-r)≤2^8:=Nat.pow_le_pow_right (by decide) (by omega);omega
 rw[hc,u8_and_nat _ _ hb hlt,Nat.and_two_pow_sub_one_eq_mod]
theorem attempt_v (seed:ByteArray) (p a n:Nat) (ao:Option Addr) (m c:Nat) (w:World) (hk:seed.size≤1000) (h1:p≤2147483647) (h2:a<256) (h3:1≤n) (h4:n≤512) (ht:TabW w) :
  Calls Tryz.prog 138 #[.agg #[.slice ao m c,.string seed,.int .i64 (p:Int)],.int .i64 (a:Int),.int .i64 (n:Int)] w fun e w'=>e=.returned (.string (attT seed p a n))∧Bw w w':=by
 obtain⟨i0,Hv,hL,hM,hN⟩:=info_parts info_u8;have HZ:=Kh Hv;have H0:=Kh hL;have H1:=Kh hM;have H2:=Kh hN;clear Hv hL hM hN;obtain⟨z,hz⟩:∃z,z=(n+7) / 8:=⟨_,rfl⟩;have jf:1≤z:=by omega
 have jg:z≤64:=by omega
 have jh:n≤8*z:=by omega
 have ji:8*z<n+8:=by omega
 have e1:((n:Int)+7) / 8=(z:Int):=by omega
 have e2:((n:Int)+7).tdiv 8=(z:Int):=by rw[Int.tdiv_eq_ediv_of_nonneg (by omega)];exact e1
 have hH:Hid (attT seed p a n=canonV ((⟨#[UInt8.ofNat (byt (blV seed p a ((z+31) / 32)) 0%2^(8-(8*z-n)))]⟩:ByteArray)++(blV seed p a ((z+31) / 32)).extract 1 z)):=by rw[Hid,hz];rfl
 have HT:=Kh ht;clear hz ht;refine (callsIn_wide (n:=3)).1 ?_;refine callsIn_of_wp_marks Tryz.func138 rfl trivial ?_ rfl;simp only[Tryz.ntmps138,List.size_toArray,List.length_cons,List.length_nil,Nat.reduceAdd,Nat.reduceSub,Array.replicate_succ,Array.replicate_zero,List.push_toArray,List.append_toArray,List.nil_append,List.cons_append];gi_wp2_with fail
 refine⟨trivial,?_⟩;refine (callsIn_wide.2 (pblocks_c ao m c seed p a _)).mono ?_;rintro e w' ⟨rfl,rfl⟩;gi_wp2_with fail
 obtain⟨W0,hu⟩:∃W,W=(((((w.alloc (.cells #[.slice ao m c,.string seed,.int .i64 (p:Int)] 35)).alloc (.cells #[.int .i64 (z:Int)] 3)).alloc (.cells #[.slice none 0 0] 137)).alloc (.cells #[.slice ao m c,.string seed,.int .i64 (p:Int)] 35)).alloc (.cells #[.int .i64 (a:Int)] 3)):=⟨_,rfl⟩;obtain⟨ga,Hb⟩:∃g,g=w.heap.size+1+1+1+1:=⟨_,rfl⟩;obtain⟨gt,Hc⟩:∃g,g=w.heap.size+1+1+1:=⟨_,rfl⟩;obtain⟨gb,hE⟩:∃g,g=w.heap.size+1+1:=⟨_,rfl⟩;obtain⟨gz,Hd⟩:∃g,g=w.heap.size+1:=⟨_,rfl⟩;have H3:W0.heap.size=w.heap.size+1+1+1+1+1:=by rw[hu];simp
 have bZ:Blk W0 gz 3 [.int .i64 (z:Int)]:=by
  have h:=(((Blk.new (w.alloc (.cells #[.slice ao m c,.string seed,.int .i64 (p:Int)] 35)) #[.int .i64 (z:Int)] 3).alloc (.cells #[.slice none 0 0] 137)).alloc (.cells #[.slice ao m c,.string seed,.int .i64 (p:Int)] 35)).alloc (.cells #[.int .i64 (a:Int)] 3);rw[World.size_alloc]at h;rw[hu,Hd];exact h
 have bO:Boxed W0 gb 137 (.slice none 0 0):=by
  have h:=((Boxed.new ((w.alloc (.cells #[.slice ao m c,.string seed,.int .i64 (p:Int)] 35)).alloc (.cells #[.int .i64 (z:Int)] 3)) 137 (.slice none 0 0)).alloc (.cells #[.slice ao m c,.string seed,.int .i64 (p:Int)] 35)).alloc (.cells #[.int .i64 (a:Int)] 3);simp only[World.size_alloc]at h;rw[hu,hE];exact h
 have bT:Blk W0 gt 35 [.slice ao m c,.string seed,.int .i64 (p:Int)]:=by
  have h:=(Blk.new (((w.alloc (.cells #[.slice ao m c,.string seed,.int .i64 (p:Int)] 35)).alloc (.cells #[.int .i64 (z:Int)] 3)).alloc (.cells #[.slice none 0 0] 137)) #[.slice ao m c,.string seed,.int .i64 (p:Int)] 35).alloc (.cells #[.int .i64 (a:Int)] 3);simp only[World.size_alloc]at h;rw[hu,Hc];exact h
 have bA:Blk W0 ga 3 [.int .i64 (a:Int)]:=by
  have h:=Blk.new ((((w.alloc (.cells #[.slice ao m c,.string seed,.int .i64 (p:Int)] 35)).alloc (.cells #[.int .i64 (z:Int)] 3)).alloc (.cells #[.slice none 0 0] 137)).alloc (.cells #[.slice ao m c,.string seed,.int .i64 (p:Int)] 35)) #[.int .i64 (a:Int)] 3;simp only[World.size_alloc]at h;rw[hu,Hb];exact h
 have Hw:Bw w W0:=by rw[hu];exact ba (ba (ba (ba (b1 w _) _) _) _) _
 rw[←hu];clear hu;have HG:Hid (w.heap.size≤gb∧gz≠gb∧gt≠gb∧ga≠gb∧w.heap.size≤W0.heap.size):=⟨by omega,by omega,by omega,by omega,by omega⟩;rw[←Hb,←Hc,←hE,←Hd];clear Hb Hc hE Hd H3;have He:Hid (∀k,blV seed p a (k+1)=blV seed p a k++macV seed (nmV p a k)):=fun k=>rfl
 have Hf:Hid (∀k,(blV seed p a k).size=32*k):=blV_size seed p a;have Hg:Hid (∀k,(macV seed (nmV p a k)).size=32):=fun k=>macV_size _ _
 have Hh:Hid (∀(n l:Nat) (J Jx:Nat→World→Prop) (hw:∀k A,J k A→k<2∧ItW gt ga seed p a A) (Hx:∀k A B,J k A→Bw A B→J k B)
  (hY:∀k A,J k A→YieldAt Fence.wide (n-1) Tryz.prog l #[.string (macV seed (nmV p a k))] A fun e A'=>(e=.returned (.bool true)∧J (k+1) A')∨(e=.returned (.bool false)∧Jx (k+1) A'))
  (W:World) (h0:J 0 W),CallsIn Fence.wide n Tryz.prog 205 #[.func (.yield l) #[] #[],.pointer (some ⟨gt,0,none⟩),.pointer (some ⟨ga,0,none⟩)] W fun e W'=>(∃v,e=.returned v)∧∃k,Jx k W'):=fun n l J Jx q1 q2 q3 W q4=>blocks1_in n l gt ga seed p a 2 hk h1 h2 (by decide) J Jx q1 q2 q3 W q4
 have Hi:blV seed p a 0=⟨#[]⟩:=rfl;obtain⟨bl,Hy⟩:∃f:Nat→ByteArray,f=blV seed p a:=⟨_,rfl⟩;obtain⟨mv,Hz⟩:∃f:Nat→ByteArray,f=fun k=>macV seed (nmV p a k):=⟨_,rfl⟩
 have HA:∀k,macV seed (nmV p a k)=mv k:=fun k=>by rw[Hz]
 simp only[←Hy,HA]at He Hf Hg Hh Hi hH;clear Hy Hz HA
 refine wpIn_range_until (n:=3) (out:=.exit 0) rfl (by omega) (gf:=205) (lb:=#[.pointer (some ⟨gt,0,none⟩),.pointer (some ⟨ga,0,none⟩)]) rfl trivial (enters_of Tryz.func205 (by kernel_rfl) rfl)
  (enc:=fun k=>#[.string (mv k)]) (fun _=>rfl)
  (fun k W=>(k<2∧(k=0∨32*k<z))∧(AtO w.heap.size gb bl k W∧AtR w gz gt ga seed ao m c p a z W))
  (fun k W=>(k≤2∧z≤32*k∧32*k<z+32)∧(AtO w.heap.size gb bl k W∧AtR w gz gt ga seed ao m c p a z W))
  (OwnFrom.and (ownFrom_pure' _) (OwnFrom.and (AtO.own _ _ _ _) (AtR.own _ _ _ _ _ _ _ _ _ _ _ _ HG.out.2.2.2.2)))
  (OwnFrom.and (ownFrom_pure' _) (OwnFrom.and (AtO.own _ _ _ _) (AtR.own _ _ _ _ _ _ _ _ _ _ _ _ HG.out.2.2.2.2)))
  (fun k A B h hb=>⟨h.1,h.2.1.after hb,h.2.2.after hb⟩)
  ⟨⟨by omega,.inl rfl⟩,⟨_,bO,by rw[Hi];exact World.ownsRow_nil _ _ _ _,trivial⟩,bZ,bT,bA,Hw⟩
  (fun l J Jx W hw Hx hY h0=>Hh.out _ l J Jx (fun k A hJ=>⟨(hw k A hJ).1.1,(hw k A hJ).2.2.2.1.cell 1,(hw k A hJ).2.2.2.1.cell 2,(hw k A hJ).2.2.2.2.1.cell 0,(hw k A hJ).2.2.2.1.lt,(hw k A hJ).2.2.2.2.1.lt,HT.out.after (hw k A hJ).2.2.2.2.2⟩) Hx hY W h0)
  (fun k=>{ tmps:=#[.agg #[.slice ao m c,.string seed,.int .i64 (p:Int)],.int .i64 (a:Int),.int .i64 (n:Int),.pointer (some ⟨w.heap.size,0,none⟩),undef,undef,.string { data:=#[] },.pointer (some ⟨gz,0,none⟩),.pointer (some ⟨gb,0,none⟩),.string (mv k),.int .i64 (n:Int),.int .i64 ((n:Int)+7),.int .i64 (z:Int),.agg #[.slice ao m c,.string seed,.int .i64 (p:Int)],.int .i64 (a:Int),.func (.func 205) #[] #[.pointer (some ⟨gt,0,none⟩),.pointer (some ⟨ga,0,none⟩)],.string (mv k),undef,undef,undef,undef,undef,undef,undef,undef,undef,undef,undef,undef,undef,undef,undef,undef,undef,undef,undef,undef,undef,undef,undef,undef,undef,undef,undef,undef,undef,undef,undef,undef,undef,undef,undef],defers:=[] }) ?assign ?body ?stop
 case assign =>
  intro l k W K hK;gi_wp2
  exact hK
 case body =>
  rintro l k W ⟨⟨HB,HC⟩,⟨v,hv,hh,_⟩,hR⟩;have hc:=hv.cell;have hf:=hv.frozen;have h6:=Hg.out k;obtain⟨v',w1,hr,he,hl,_⟩:=Lib.run_append_own_string (P:=Tryz.prog) (w:=W) w.heap.size 137 9 137 5 i0 Tryz.underlying137 Tryz.underlying9 HZ.out H0.out H1.out H2.out v (32*k) _ hh (mv k) (by rw[h6];simp only[maxLen];omega) (by rw[h6];omega) hR.2.2.2.size;rw[strCells_u8s,h6]at he
  have HD:Hid (u8s (bl k).data.toList++u8s (mv k).data.toList=u8s (bl (k+1)).data.toList):=by
   rw[Hid,He.out k,ByteArray.data_append,Array.toList_append,u8s,u8s,u8s,List.map_append]
  rw[HD.out]at he;obtain⟨q,hq⟩:∃q,q=32*k+32:=⟨_,rfl⟩;rw[←hq]at he;obtain⟨q',HE⟩:∃q',q=q'+1:=⟨q-1,by omega⟩;obtain⟨g',cap',rfl⟩:∃g cap,v'=.slice (some ⟨g,0,none⟩) q cap:=by rw[HE]at he ⊢;exact ownsRow_succ he
  have hP:Boxed w1 gb 137 v:=hv.kept hl (hv.not_row (by decide) hh);have ho:=hP.set (.slice (some ⟨g',0,none⟩) q cap');have hA:=he.kept (grownBy_setCell' w1 gb (.slice (some ⟨g',0,none⟩) q cap')) (.inr (hP.not_row (by decide) he).symm)
  have hm:∀j o,v.ownBlock=some j→W.heap[j]?=some o→o.isCells=true:=fun j o ej hj=>by
   rcases hh.2 with⟨rfl,_⟩ | ⟨g,cap,cur,rfl,_,hE,_⟩
   ·simp[Value.ownBlock]at ej
   ·obtain rfl:g=j:=by simpa [Value.ownBlock] using ej
    rw[hE]at hj;cases hj;rfl
  have h7:∀{g:Nat} {T:TypeId} {cs:List Value},Blk W g T cs→T≠5→some g≠v.ownBlock:=fun {g T cs} hb hT e=>by
   rcases hh.2 with⟨rfl,_⟩ | ⟨g2,cap,cur,rfl,_,hE,_⟩
   ·simp[Value.ownBlock]at e
   ·obtain rfl:g=g2:=by simpa [Value.ownBlock] using e
    have h:=(show W.heap[g]?=_ from hb).symm.trans hE;simp at h;exact hT h.2
  have hQ:KeepsOthers W (w1.setCell ⟨gb,0,none⟩ (.slice (some ⟨g',0,none⟩) q cap')):=(KeepsOthers.of_grownBy hl hm).trans (KeepsOthers.setCell _ _ _)
  have HF:Bw w w1:=hR.2.2.2.grown hl hR.2.2.2.size (fun j ej=>by
   rcases hh.2 with⟨rfl,_⟩ | ⟨g,cap,cur,rfl,hb,_,_⟩
   ·simp[Value.ownBlock]at ej
   ·obtain rfl:g=j:=by simpa [Value.ownBlock] using ej
    exact hb)
  have Hj:AtR w gz gt ga seed ao m c p a z (w1.setCell ⟨gb,0,none⟩ (.slice (some ⟨g',0,none⟩) q cap')):=
   ⟨Blk.other ((hl.block _ hR.1.lt (h7 hR.1 (by decide))).trans hR.1) _ _ HG.out.2.1,Blk.other ((hl.block _ hR.2.1.lt (h7 hR.2.1 (by decide))).trans hR.2.1) _ _ HG.out.2.2.1,Blk.other ((hl.block _ hR.2.2.1.lt (h7 hR.2.2.1 (by decide))).trans hR.2.2.1) _ _ HG.out.2.2.2.1,HF.setCell (p:=⟨gb,0,none⟩) HG.out.1 _⟩
  have jj:=hP.cell;have jk:=hP.frozen;have jl:=ho.cell;have HH:=Hj.1.cell 0;have HI:=Kh hA;have HJ:=Kh ho;have HK:=Kh Hj;have HL:=Kh hQ;clear hv hh hR he hl hP ho hA hm h7 hQ HF Hj h6 HD HE;have HQ:=Kh hq;clear hq;by_cases jm:z≤q
  ·have hd:decide ((z:Int)≤(q:Int))=true:=Dt (by omega);gi_wp2_with (gi_at_builtin;refine wpListIn_append_str rfl (.tmp 17) (.tmp 18) 137 9 rfl v (mv k) rfl rfl _ _ hr ?_)
   exact⟨rfl,HL.out,⟨by omega,by have:=HQ.out;omega,by have:=HQ.out;omega⟩,⟨_,HJ.out,by have h:=HI.out;rw[HQ.out]at h ⊢;exact h,trivial⟩,HK.out⟩
  ·have hd:decide ((z:Int)≤(q:Int))=false:=decide_eq_false (by omega);gi_wp2_with (gi_at_builtin;refine wpListIn_append_str rfl (.tmp 17) (.tmp 18) 137 9 rfl v (mv k) rfl rfl _ _ hr ?_)
   exact⟨HL.out,⟨by have:=HQ.out;omega,.inr (by have:=HQ.out;omega)⟩,⟨_,HJ.out,by have h:=HI.out;rw[HQ.out]at h ⊢;exact h,trivial⟩,HK.out⟩
 case stop =>
  rintro D k W hD ⟨⟨HB,H4,HC⟩,⟨v,hv,hh,_⟩,hR⟩ hK;have HM:k=(z+31) / 32:=by omega
  rw[←HM]at hH;have HN:=Hf.out k;obtain⟨t,HP⟩:∃t,t=bl k:=⟨_,rfl⟩;rw[←HP]at hH HN hh;clear HP HM He Hf Hg Hh Hi HB HC bZ bO bT bA Hw;obtain⟨q,hq⟩:∃q,q=32*k:=⟨_,rfl⟩;rw[←hq]at HN hh H4;clear hq;have H5:=hv;rcases hh.2 with⟨rfl,h0⟩ | ⟨g',cap,cur,rfl,H6,hg,H7,H8,H9,hn⟩
  ·omega
  have h8:gb≠g':=fun e=>hv.not_row (by decide) hh (by rw[e];rfl)
  have hS:Blk W g' 5 cur.toList:=by show W.heap[g']?=some _;rw[Array.toArray_toList];exact hg
  have HR:8*z-n≤7:=by omega
  obtain⟨r,hr⟩:∃r,r=8*z-n:=⟨_,rfl⟩;rw[←hr]at HR hH;obtain⟨y,hy⟩:∃y,y=byt t 0:=⟨_,rfl⟩;have hc:=hv.cell;have hf:=hv.frozen;have HH:=hR.1.cell 0;have z0:(0:Int)≤(z:Int):=by omega
  have z1:(z:Int)≤(cap:Int):=by omega
  have zd:decide ((0:Int)<(z:Int))=true:=Dt (by omega);have Hk:(W.setCell ⟨gb,0,none⟩ (.slice (some ⟨g',0,none⟩) z cap)).cell? ⟨gz,0,none⟩=some (.int .i64 (z:Int)):=(hR.1.other ⟨gb,0,none⟩ (.slice (some ⟨g',0,none⟩) z cap) HG.out.2.1).cell 0;gi_wp2_with fail
  have ho:=hv.set (.slice (some ⟨g',0,none⟩) z cap);have hI:=hS.other ⟨gb,0,none⟩ (.slice (some ⟨g',0,none⟩) z cap) (Ne.symm h8);have hp:=hR.1.other ⟨gb,0,none⟩ (.slice (some ⟨g',0,none⟩) z cap) HG.out.2.1;have Hl:=hR.2.2.2.setCell (p:=⟨gb,0,none⟩) HG.out.1 (.slice (some ⟨g',0,none⟩) z cap);have Hm:=(KeepsOthers.setCell W ⟨gb,0,none⟩ (.slice (some ⟨g',0,none⟩) z cap)).same D _ hK rfl
  have hy0:cur.toList[0]?=some (.int .u8 (y:Int)):=by
   have h:(cur.toList.take (q*1))[0]?=(u8s t.data.toList)[0]?:=by rw[hn]
   rw[List.getElem?_take,if_pos (by omega)]at h;rw[h,u8s,List.getElem?_map,Array.getElem?_toList,Array.getElem?_eq_getElem (by show 0<t.size;omega),hy,byt,Array.getD_eq_getD_getElem?,Array.getElem?_eq_getElem (by show 0<t.size;omega)];rfl
  have hC:y<256:=by rw[hy,byt];exact UInt8.toNat_lt _
  have HS:∀j,1≤j→(hj:j<z)→cur.toList[j]?=some (u8v (t.data.getD j 0)):=fun j jn hj=>by
   have h:(cur.toList.take (q*1))[j]?=(u8s t.data.toList)[j]?:=by rw[hn]
   rw[List.getElem?_take,if_pos (by omega)]at h;rw[h,u8s,List.getElem?_map,Array.getElem?_toList,Array.getD_eq_getD_getElem?,Array.getElem?_eq_getElem (by show j<t.size;omega)];rfl
  have hU:cur.toList.length=cap:=by rw[Array.length_toList];omega
  -- the bytes
  obtain⟨tl,hV⟩:∃tl:List UInt8,tl=UInt8.ofNat (y%2^(8-r)) :: (t.extract 1 z).data.toList:=⟨_,rfl⟩
  have hW:tl.length=z:=by
   have h:(t.extract 1 z).data.toList.length=z-1:=by rw[Array.length_toList];show (t.extract 1 z).size=_;rw[ByteArray.size_extract];omega
   rw[hV,List.length_cons,h];omega
  have HU:Hid (attT seed p a n=⟨(tl.dropWhile (·==0)).toArray⟩):=by
   rw[Hid,hH.out,canonV];congr 3
   rw[hV,ByteArray.data_append,Array.toList_append,hy];rfl
  obtain⟨mb,h9⟩:∃mb,mb=y%2^(8-r):=⟨_,rfl⟩;have Hn:mb<256:=by rw[h9];exact Nat.lt_of_le_of_lt (Nat.mod_le _ _) hC
  have Ho:Hid (∀j,j<z→(cur.toList.set 0 (.int .u8 (mb:Int)))[j]?=some (u8v (tl.getD j 0))):=fun j hj=>by
   by_cases h0:j=0
   ·subst h0;rw[List.getElem?_set_self (by omega),hV,←h9];show some (Value.int .u8 (mb:Int))=some (Value.int .u8 ((UInt8.ofNat mb).toNat:Int));rw[UInt8.toNat_ofNat',Nat.mod_eq_of_lt (by omega)]
   ·rw[List.getElem?_set_ne (by omega),HS j (by omega) hj,hV];obtain⟨i,rfl⟩:∃i,j=i+1:=⟨j-1,by omega⟩;congr 2
    show _=((t.extract 1 z).data.toList).getD i 0
    rw[List.getD_eq_getElem?_getD,Array.getElem?_toList,ByteArray.data_extract,Array.getElem?_extract,if_pos (by
     show i<min z t.data.size-1;have h3:t.data.size=t.size:=rfl;omega),Array.getD_eq_getD_getElem?,Nat.add_comm]
  have hX:bits .and .u8 (y:Int) ((255:Int) / 2^r)=(mb:Int):=by rw[h9];exact and_mask y r hC HR
  have er:(8:Int)*(z:Int)-(n:Int)=(r:Int):=by omega
  have er2:IntKind.i64.wrap ((8:Int)*(z:Int))=8*(z:Int):=IntWalk.i64_in _ (by omega);have er3:IntKind.i64.wrap (r:Int)=(r:Int):=IntWalk.i64_in _ (by omega);have r0:(0:Int)≤(r:Int):=by omega
  have hZ:=Kh hW;have ja:=Kh hU;have jo:=Kh hR.2.2.2;clear hv hS hR hK hy hV HS h9 hU H5 hg hn H9 H8 H7 hh hc hf HH Hk zd hW hH hr;generalize W.setCell ⟨gb,0,none⟩ (.slice (some ⟨g',0,none⟩) z cap)=W2 at ho hI hp Hl Hm ⊢;have c8:=ho.cell;have f8:=ho.frozen;have cz:=hp.cell 0;have cb:=(hI.cell 0).trans hy0;have fb:=hI.free 0;have lb:=hI.lt;have l8:=ho.lt;have lz:=hp.lt;refine wpIn_wide.2 ?_;go_region;have Hp:Blk (W2.setCell ⟨g',0,none⟩ (.int .u8 (mb:Int))).drew gb 137 [.slice (some ⟨g',0,none⟩) z cap]:=(Blk.other (show Blk W2 gb 137 [_] from ho) ⟨g',0,none⟩ (.int .u8 (mb:Int)) h8).drew;have Ha:Blk (W2.setCell ⟨g',0,none⟩ (.int .u8 (mb:Int))).drew g' 5 (cur.toList.set 0 (.int .u8 (mb:Int))):=(hI.set 0 _).drew;have Hq:Bw w (W2.setCell ⟨g',0,none⟩ (.int .u8 (mb:Int))).drew:=(Hl.setCell (p:=⟨g',0,none⟩) H6 _).drew;have Hr:(W2.setCell ⟨g',0,none⟩ (.int .u8 (mb:Int))).drew.heap[D]?=some (.deferred (some [])):=(KeepsOthers.setCell W2 ⟨g',0,none⟩ (.int .u8 (mb:Int))).same D _ Hm rfl;have HV:Hid (W0.heap.size≤D):=hD;clear c8 f8 cz cb fb lb l8 lz ho hI hp Hl Hm hD hy0 hX er er2 er3;generalize (W2.setCell ⟨g',0,none⟩ (.int .u8 (mb:Int))).drew=W3 at Hp Ha Hq Hr ⊢;generalize cur.toList.set 0 (.int .u8 (mb:Int))=C at Ha Ho;clear ja;gi_wp2
  gi_loopw [39] (fun _ wr=>∃(j o rr c':Nat),j≤z∧Hid (j<z→o=j)∧Hid (rr+j=z)∧Hid (c'+j=cap)∧Blk wr gb 137 [.slice (some ⟨g',o,none⟩) rr c']∧Blk wr g' 5 C∧Hid ((tl.drop j).dropWhile (·==0)=tl.dropWhile (·==0))∧Bw w wr∧wr.heap[D]?=some (.deferred (some []))) (fun _ wr=>match wr.cell? ⟨gb,0,none⟩ with | some (.slice _ m _)=>m | _=>0)
  case atStart=>exact⟨0,0,z,cap,by omega,fun _=>rfl,rfl,rfl,Hp,Ha,rfl,Hq,Hr⟩
  case round =>
   clear Hp Ha Hq Hr;obtain⟨j,o,rr,c',jp,HO,hF,Hs,hO,hb,Ht,hB,hK⟩:=hrel;obtain⟨wp,jb⟩:∃wp,wp=wr:=⟨_,rfl⟩;subst jb;have c8:=hO.cell 0;have f8:=hO.free 0;have l8:=hO.lt;have lb:=hb.lt;have jc:Hid ((tl.drop j).length=rr):=by rw[Hid,List.length_drop,hZ.out];have:=hF.out;omega
   by_cases hlt:j<z
   ·obtain rfl:o=j:=HO.out hlt;have jq:1≤rr:=by have:=hF.out;omega
    have jr:rr≤c':=by have:=hF.out;have:=Hs.out;omega
    have js:decide ((0:Int)<(rr:Int))=true:=Dt (by omega);have HW:wp.cell? ⟨g',o,none⟩=some (u8v (tl.getD o 0)):=(hb.cell o).trans (Ho.out o hlt)
    have Hu:Hid (tl.drop o=tl.getD o 0 :: tl.drop (o+1)):=by
     rw[Hid,List.drop_eq_getElem_cons (by rw[hZ.out];exact hlt),List.getD_eq_getElem?_getD,List.getElem?_eq_getElem (by rw[hZ.out];exact hlt)];rfl
    have h5:=row_strN (w:=wp) (b:=g') (o:=o) (c:=c') (l:=tl.drop o) (fun i hi=>by
     have h:=(hb.cell (o+i)).trans (Ho.out (o+i) (by rw[List.length_drop,hZ.out]at hi;omega));rw[h,List.getElem_drop,List.getD_eq_getElem?_getD,List.getElem?_eq_getElem (by rw[List.length_drop]at hi;omega)];rfl)
    rw[jc.out]at h5;generalize tl.getD o 0=x at HW Hu;unfold u8v at HW;have q1:(0:Int)≤1:=by omega
    have q2:(1:Int)≤(rr:Int):=by omega
    have q3:(rr:Int)≤(c':Int):=by omega
    by_cases hx:x=0
    ·have hx0:((x.toNat:Int)==0)=true:=by rw[hx];rfl
     have HX:=Kh hx
     have HY:Hid ((tl.drop (o+1)).dropWhile (·==0)=tl.dropWhile (·==0)):=by
      have h:=Ht.out;rw[Hu.out,List.dropWhile_cons,if_pos (by rw[hx];rfl)]at h;exact h
     clear hx h5;gi_wp2
     ·refine⟨⟨o+1,by omega,o,fun h=>by have:=hF.out;omega,rr-1,by rw[Hid];have:=hF.out;omega,0,by rw[Hid];have:=Hs.out;omega,hO.set 0 _,hb.other _ _ (Ne.symm h8),HY,hB.setCell (p:=⟨gb,0,none⟩) HG.out.1 _,(KeepsOthers.setCell wp ⟨gb,0,none⟩ _).same D _ hK rfl⟩,by omega⟩
     ·refine⟨⟨o+1,by omega,o+1,fun _=>rfl,rr-1,by rw[Hid];have:=hF.out;omega,c'-1,by rw[Hid];have:=Hs.out;omega,hO.set 0 _,hb.other _ _ (Ne.symm h8),HY,hB.setCell (p:=⟨gb,0,none⟩) HG.out.1 _,(KeepsOthers.setCell wp ⟨gb,0,none⟩ _).same D _ hK rfl⟩,by omega⟩
    ·have hx0:((x.toNat:Int)==0)=false:=by
      rw[beq_eq_false_iff_ne];intro e;exact hx (UInt8.toNat_inj.1 (by show x.toNat=0;omega))
     have HX:=Kh hx
     have hG:Hid (attT seed p a n=⟨(tl.drop o).toArray⟩):=by
      have h:=Ht.out;rw[Hid,HU.out,←h];congr 2
      rw[Hu.out,List.dropWhile_cons,if_neg (by rw[beq_iff_eq];exact hx)]
     clear hx;gi_wp2
     refine⟨by simp,.inl ⟨_,_,rfl,run_takeDeferred hK,?_⟩⟩;exact⟨_,results_tmp rfl _ _ _,by rw[hG.out];rfl,hB.trans (belowK_b (w:=W0) HG.out.2.2.2.2 wp D _ _ HV.out hK rfl rfl)⟩
   ·have jd:rr=0:=by have:=hF.out;omega
    have h5:=row_strN (w:=wp) (b:=g') (o:=o) (c:=c') (l:=[]) (fun i hi=>absurd hi (Nat.not_lt_zero _));subst jd;have je:(convert 137 22 (.slice (some ⟨g',o,none⟩) 0 c')).run Tryz.prog wp=.ok (.string ⟨#[]⟩) wp:=h5
    have hG:Hid (attT seed p a n=⟨#[]⟩):=by
     have h:=Ht.out;rw[List.drop_eq_nil_of_le (by rw[hZ.out];omega)]at h;rw[Hid,HU.out,←h];rfl
    clear h5;gi_wp2
    refine⟨by simp,.inl ⟨_,_,rfl,run_takeDeferred hK,?_⟩⟩;exact⟨_,results_tmp rfl _ _ _,by rw[hG.out];rfl,hB.trans (belowK_b (w:=W0) HG.out.2.2.2.2 wp D _ _ HV.out hK rfl rfl)⟩
end
section
def laid3:List (String × DataW Unit):=[("math/bits.deBruijn32tab",Rows.laid_math_bits_deBruijn32tab),("math/bits.deBruijn64tab",Rows.laid_math_bits_deBruijn64tab),("internal/strconv.uint64pow10",Rows.laid_internal_strconv_uint64pow10)]
theorem door_met (os:Os) (args:Array Value):laidMetH Tryz.prog laid3 ((World.doorLaid Tryz.prog 24 os).forCall (fun _ _=>0) ⟨#[],args,[]⟩).memory:=
 laidMetH_of_parts3 (fuel:=8) (laidMet_of_run' 8 (by kernel_rfl) (by kernel_rfl)) (by kernel_rfl) (by kernel_rfl)
end
section
open Go.RowKit Go.Shelf
theorem laid_tail {P:Program} {x:String × DataW Unit} {r:List (String × DataW Unit)} {w:World} (h:laidMet P (x :: r) w):laidMet P r w:=by
 obtain⟨ps,hv,hc,hb⟩:=h;obtain⟨n,d⟩:=x;obtain⟨g,t,cs,fuel,p,q,_,_,_,_,hq,rfl⟩:=hv;exact⟨q,hq,List.Nodup.sublist (List.sublist_append_right _ _) hc,fun b off hm=>hb b off (List.mem_append_right _ hm)⟩
theorem tab_of_laid {W:World} (h:laidMetH Tryz.prog laid3 W):TabW W:=by
 rw[MakeChecks.laidMetH_plain _ _ _ (by kernel_rfl)]at h;have h2:laidMet Tryz.prog [("internal/strconv.uint64pow10",Lib.tabData .u64 Lib.pow10Tab)] W:=laid_tail (laid_tail h);have hs:(Tryz.prog.globalNamed "internal/strconv.uint64pow10").isSome=true:=by kernel_rfl
 have ht:((Tryz.prog.globalNamed "internal/strconv.uint64pow10").bind fun g=>(Tryz.prog.globals[g]?).map (·.type))=some 276:=by kernel_rfl
 obtain⟨g,hg⟩:=Option.isSome_iff_exists.1 hs;rw[hg,Option.bind_some]at ht;exact Lib.tabIs_of_head (e:=50) (n:=20) hg ht Tryz.underlying276 Tryz.underlying50 (by kernel_rfl) (by kernel_rfl) h2
theorem canon_fact:∀(k:Nat) (s:ByteArray),s.size=k→s.size≤128→vldB (canonV s)=true∧(canonV s).size≤s.size
 | 0,s,h,_=>by
  obtain rfl:s=ByteArray.empty:=by apply ByteArray.ext;apply Array.eq_empty_of_size_eq_zero;exact h
  exact⟨vldB_empty,Nat.le_refl _⟩
 | k+1,s,h,h2=>by
  have hp:0<s.size:=by omega
  by_cases h0:s[0].toNat=0
  ·rw[canon_zero s hp h0];have hs:(s.extract 1 s.size).size=k:=by rw[ByteArray.size_extract];omega
   obtain⟨a,b⟩:=canon_fact k (s.extract 1 s.size) hs (by omega);exact⟨a,by omega⟩
  ·rw[canon_stop s hp h0];refine⟨?_,Nat.le_refl _⟩;rw[vldB_pos hp h2,bne_iff_ne];omega
def attN:Att:=fun sd p a k=>numb (attT sd p a k)
theorem att_num (sd:ByteArray) (p a n:Nat) (h2:n≤512):attT sd p a n=E (attN sd p a n)∧attN sd p a n<256^64:=by
 obtain⟨v,hv⟩:∃v,v=((⟨#[UInt8.ofNat (byt (blV sd p a (((n+7) / 8+31) / 32)) 0%2^(8-(8*((n+7) / 8)-n)))]⟩:ByteArray)++(blV sd p a (((n+7) / 8+31) / 32)).extract 1 ((n+7) / 8)):=⟨_,rfl⟩;have hT:attT sd p a n=canonV v:=by rw[hv];rfl
 have hs:v.size≤64:=by
  rw[hv,ByteArray.size_append,ByteArray.size_extract];show 1+_≤64;omega
 obtain⟨c1,c2⟩:=canon_fact v.size v rfl (by omega);rw[←hT]at c1 c2;obtain⟨x,hx,e⟩:=numk (k:=64) (by omega) c1
 have he:attN sd p a n=x:=by
  show numb (attT sd p a n)=x;rw[e,numb_E]
 rw[he];exact⟨e,hx⟩
theorem hatt (sd:ByteArray) (w:World) (hs:sd.size≤1000) (ht:TabW w):HAtt attN sd w:=fun _ p a k h1 h2 h3 h4=>⟨(att_num sd p a k h4).2,fun ao m c W hW=>by
 rw[←(att_num sd p a k h4).1];exact attempt_v sd p a k ao m c W hs h1 h2 h3 h4 (ht.after hW)⟩
end
end Go.Proofs.YtdgddpnjkinciaaGreatDoor
