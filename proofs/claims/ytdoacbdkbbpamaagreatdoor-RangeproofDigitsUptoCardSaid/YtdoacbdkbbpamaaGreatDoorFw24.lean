/- law24.small,narrow,few. -/
import Derived.Test.YtdoacbdkbbpamaaGreatDoorFwx24
import Derived.Test.YtdoacbdkbbpamaaGreatDoorRr24
import Derived.Test.YtdoacbdkbbpamaaGreatDoorWt27
import Derived.Test.YtdoacbdkbbpamaaGreatDoorSmT
import Derived.Test.YtdoacbdkbbpamaaGreatDoorRd24
import Derived.Test.YtdoacbdkbbpamaaGreatDoorSp24
set_option linter.unusedVariables false
set_option linter.unusedSimpArgs false
set_option maxRecDepth 100000
set_option maxHeartbeats 16000000
namespace Go.Proofs.YtdoacbdkbbpamaaGreatDoor
open Go.RowKit Go.Shelf
theorem Blk.x10 {w:World} {g:Nat} {T:TypeId} {cs:List Value} (h:Blk w g T cs):w.cell? ⟨g,0,none⟩=cs[0]?∧w.frozen? ⟨g,0,none⟩=false∧w.cell? ⟨g,1,none⟩=cs[1]?∧w.frozen? ⟨g,1,none⟩=false∧w.cell? ⟨g,2,none⟩=cs[2]?∧w.frozen? ⟨g,2,none⟩=false∧w.cell? ⟨g,3,none⟩=cs[3]?∧w.frozen? ⟨g,3,none⟩=false∧w.cell? ⟨g,4,none⟩=cs[4]?∧w.frozen? ⟨g,4,none⟩=false∧w.cell? ⟨g,5,none⟩=cs[5]?∧w.frozen? ⟨g,5,none⟩=false∧w.cell? ⟨g,6,none⟩=cs[6]?∧w.frozen? ⟨g,6,none⟩=false∧w.cell? ⟨g,7,none⟩=cs[7]?∧w.frozen? ⟨g,7,none⟩=false∧w.cell? ⟨g,8,none⟩=cs[8]?∧w.frozen? ⟨g,8,none⟩=false∧w.cell? ⟨g,9,none⟩=cs[9]?∧w.frozen? ⟨g,9,none⟩=false:=⟨h.cell 0,h.free 0,h.cell 1,h.free 1,h.cell 2,h.free 2,h.cell 3,h.free 3,h.cell 4,h.free 4,h.cell 5,h.free 5,h.cell 6,h.free 6,h.cell 7,h.free 7,h.cell 8,h.free 8,h.cell 9,h.free 9⟩
theorem wp_append_all {P:Program} {w:World} {o:Oper} {a:Act} {K:Act→World→Prop} {Q:Exit→Act→World→Prop} (s x:Operand) (t:TypeId)
  (ho:o.op=.call { callee:=.builtin .append,args:=#[s,x],argTypes:=#[t,t] }) {v:Value} {ao:Option Addr} {m c:Nat} (hs:a.eval s=v) (hx:a.eval x=.slice ao m c)
  (base:Nat) (e:TypeId) (i:TypeInfo) (z:Value) (bytes:Nat) (ht:P.underlying t=some (.slice e)) (hi:P.info? e=some i) (hz:i.zero=some z)
  (hsize:i.size=1) (hby:i.bytes=bytes) (hzs:z.cells.size=1) (n:Nat) (xs:List Value) (hown:w.ownsRow base e 1 v n xs) (M:List ByteArray) (hM:SsAt w (.slice ao m c) M)
  (h63:n+m≤maxLen) (hbytes:(n+m)*bytes≤140737488355328) (hbase:base≤w.heap.size)
  (h:∀v' w',w'.ownsRow base e 1 v' (n+m) (xs++M.map .string)→w.grownBy w' v.ownBlock→(∀g,v.ownBlock=some g→base≤g∧g<w.heap.size)→K (a.put o.dst v') w'):Oper.wp P o a w K Q:=by
 obtain ⟨v',w',h1,h2,h3⟩:=run_append_all (P:=P) w t o.type base e i z bytes ht hi hz hsize hby hzs v n xs hown ao m c M hM h63 hbytes hbase;unfold Oper.wp execOp;simp only [ho,resolve,invoke,builtin,Sem.run_bind,Sem.run_pure,Result.andThen_ok,List.map_toArray,List.map_cons,List.map_nil,hs,hx,h1];exact h v' w' h2 h3 (fun g hg=>⟨(own_lt hown hg).2,(own_lt hown hg).1⟩)
def sz8B (s:ByteArray):Bool:=decide (s.size≤8)
def smlK (a b c d:ByteArray):Bool:=[a,b,c,d].all sz8B
theorem small24_c (a b c d:ByteArray) (w:World) (ha:a.size≤9223372036854775807) (hb:b.size≤9223372036854775807) (hc:c.size≤9223372036854775807) (hd:d.size≤9223372036854775807) :
  Calls Tryz.prog 10 #[.agg #[.string a,.string b,.string c,.string d],.slice none 0 0] w fun e w'=>e=.returned (.bool (smlK a b c d))∧Below w.heap.size w w':=by
 obtain ⟨i0,hi0,hz00,hz01,hz02⟩:=info_parts info_nat;have HI0:=Lib.hid hi0;have HA0:=Lib.hid hz00;have HB0:=Lib.hid hz01;have HC0:=Lib.hid hz02;clear hi0 hz00 hz01 hz02;obtain ⟨r,hr⟩:∃r,r=smlK a b c d:=⟨_,rfl⟩;rw [←hr];have HR:Hid (r=[a,b,c,d].all sz8B):=hr;obtain ⟨L,hL⟩:∃L,L=[a,b,c,d]:=⟨_,rfl⟩;rw [←hL] at HR
 have HLS:Hid (∀x∈L,x.size≤9223372036854775807):=by
  rw [Hid,hL];intro x hx;simp only [List.mem_cons,List.not_mem_nil,or_false] at hx;rcases hx with rfl | rfl | rfl | rfl
  ·exact ha
  ·exact hb
  ·exact hc
  ·exact hd
 have HLL:Hid (L.length=4):=by rw [hL];rfl
 have HLM:Hid ([Value.string a,.string b,.string c,.string d]=L.map .string):=by rw [hL];rfl
 clear hr hL ha hb hc hd;have hK:=Blk.new w #[.string a,.string b,.string c,.string d] 35;have hBW:=b1 w (.cells #[.string a,.string b,.string c,.string d] 35);have hKl:=hK.lt;obtain ⟨hKc0,hKf0,hKc1,hKf1,hKc2,hKf2,hKc3,hKf3⟩:=hK.x4;go_enter Tryz.func10,Tryz.ntmps10
 go_upto_region 1 with fail
 clear hKc0 hKf0 hKc1 hKf1 hKc2 hKf2 hKc3 hKf3;clear hKl;generalize w.alloc (.cells #[.string a,.string b,.string c,.string d] 35)=w1 at hK hBW ⊢;obtain ⟨gK,hgK⟩:∃x,x=w.heap.size:=⟨_,rfl⟩;rw [←hgK] at hK ⊢;replace hK:Blk w1 gK 35 [.string a,.string b,.string c,.string d]:=hK;clear hgK;have hKl:=hK.lt;have hN:=Blk.new w1 #[.string a,.string b,.string c,.string d] 31;have hbN:=b1 w1 (.cells #[.string a,.string b,.string c,.string d] 31);obtain ⟨hKc0,hKf0,hKc1,hKf1,hKc2,hKf2,hKc3,hKf3⟩:=hK.x4;go_wp2_with (at_builtin;refine wpList_append_lies _ rfl (.tmp 7) (.tmp 18) _ rfl w1.heap.size 31 i0 _ 1 16 Tryz.underlying40 HI0.out HA0.out HB0.out HC0.out rfl (by omega) (.slice none 0 0) 0 [] rfl (World.ownsRow_nil _ _ _ _) ⟨w1.heap.size,0,none⟩ 4 4 [.string a,.string b,.string c,.string d] rfl rfl hN.cells (by simp [Value.oneCell']) (by omega) (by simp only [maxLen];omega) (by omega) (by simp) (w1.heap.size+1) (by simp) ?_;intro ga ca wa hown hgrow hat hlt2)
 clear hKc0 hKf0 hKc1 hKf1 hKc2 hKf2 hKc3 hKf3;rw [List.nil_append,Nat.zero_add,HLM.out] at hown;have hbA:=hbN.grown hgrow (by simp) (fun x hx=>by simp [Value.ownBlock] at hx);have hSS:SsAt wa (.slice (some ⟨ga,0,none⟩) 4 ca) L:=ss_own (base:=w1.heap.size) L HLL.out.symm hown;replace hBW:=bt hBW hbA;clear hgrow hat hlt2 hN hbN hK hKl hbA hown;go_loopw [21] (fun i wr=>∃k:Nat,k≤4∧i=.int .i64 k∧Hid ((L.take k).all sz8B=true)∧Below wa.heap.size wa wr) (fun i _=>4-(intOf i).toNat)
 case atStart=>exact ⟨0,by omega,rfl,rfl,by first | exact Below.refl _ _ | exact Below.drew (Below.refl _ _)⟩
 case round =>
  obtain ⟨k,hk,rfl,HA,hbr⟩:=hrel;obtain ⟨wp,hwp⟩:∃wp,wp=wr:=⟨_,rfl⟩;subst hwp;have hS2:=SsAt.after hSS hbr;by_cases hlt:k<4
  ·have hkl:k<L.length:=by rw [HLL.out];exact hlt
   have HT:=Lib.hid (all_take sz8B L k hkl);have HBD:Hid (sz8B L[k]=false→r=false):=fun h=>by rw [HR.out,all_bad sz8B L k hkl h]
   have HZ:Hid (sz8B L[k]=decide (L[k].size≤8)):=rfl;have hz:=HLS.out _ (List.getElem_mem hkl);obtain ⟨b',o,he,hbl,x1⟩:=SsAt.at_ hS2 hkl;injection he with he
   injection he with he1 he2 he3
   subst he1 he2;simp only [Nat.zero_add] at x1;generalize sz8B (L[k]'hkl)=q at HT HBD HZ;generalize (L[k]'hkl)=s at x1 HZ hz;have h0k:(0:Int)≤(k:Int):=by omega
   have h1k:(k:Int)<4:=by omega
   by_cases g1:s.size≤8
   ·have e1:decide ((8:Int)<(s.size:Int))=false:=dzF g1;have HX:Hid ((L.take (k+1)).all sz8B=true):=by rw [Hid,HT.out,HA.out,HZ.out,decide_eq_true g1];rfl
    clear g1;go_wp2;go_roundw
    case rel=>exact ⟨k+1,by omega,by go_num,HX,hbr⟩
    case measure=>simp [intOf];omega
   ·have e1:decide ((8:Int)<(s.size:Int))=true:=dzT g1;have HF:Hid (r=false):=HBD.out (by rw [HZ.out,decide_eq_false g1]);clear g1;go_wp2;go_ret
    exact ⟨by first | (rw [HF.out];done) | (rw [HF.out];rfl),bt hBW hbr⟩
  ·obtain rfl:k=4:=by omega
   have HF:Hid (r=true):=by rw [Hid,HR.out,all_end sz8B L 4 HLL.out.symm HA.out]
   go_wp2;go_ret
   exact ⟨by first | (rw [HF.out];done) | (rw [HF.out];rfl),bt hBW hbr⟩
def nrwB (lo hi:Int):Bool:=decide ((widE lo hi).2≠0) || decide ((widE lo hi).1≤8)
theorem narrow24_c (lo hi:Int) (w:World) (h1:-9223372036854775808≤lo) (h2:lo≤9223372036854775807) (h3:-9223372036854775808≤hi) (h4:hi≤9223372036854775807) :
  Calls Tryz.prog 12 #[.agg #[.int .i64 lo,.int .i64 hi]] w fun e w'=>e=.returned (.bool (nrwB lo hi))∧Below w.heap.size w w':=by
 have HA:Hid (∀w:World,Calls Tryz.prog 8 #[.int .i64 lo,.int .i64 hi] w fun e w'=>e=.returned (.tuple #[.int .i64 ((widE lo hi).1:Int),.int .i64 ((widE lo hi).2:Int)])∧Below w.heap.size w w'):=fun w=>rwidth_c lo hi w h1 h2 h3 h4
 have HR:Hid (nrwB lo hi=(decide ((widE lo hi).2≠0) || decide ((widE lo hi).1≤8))):=rfl;generalize nrwB lo hi=r at HR ⊢;generalize (widE lo hi).1=n at HA HR;generalize (widE lo hi).2=k at HA HR;clear h1 h2 h3 h4;have hX:=Blk.new w #[.int .i64 lo,.int .i64 hi] 23;have hBW:=b1 w (.cells #[.int .i64 lo,.int .i64 hi] 23);have hXl:=hX.lt;obtain ⟨hXc0,hXf0,hXc1,hXf1⟩:=hX.x2;go_enter Tryz.func12,Tryz.ntmps12
 go_wp2_with fail
 refine (HA.out _).mono ?_;rintro e w2 ⟨rfl,hb⟩;replace hBW:=bt hBW hb;clear hXc0 hXf0 hXc1 hXf1;clear hb hX hXl HA;by_cases hk:k=0
 ·have e1:((k:Int) != 0)=false:=by subst hk;rfl
  by_cases hn:n≤8
  ·have e2:decide ((n:Int)≤8)=true:=decide_eq_true (by omega);have HF:Hid (r=true):=by rw [Hid,HR.out,decide_eq_true hn,Bool.or_true]
   clear hk hn;go_wp2;go_ret
   exact ⟨by first | (rw [HF.out];done) | (rw [HF.out];rfl),hBW⟩
  ·have e2:decide ((n:Int)≤8)=false:=decide_eq_false (by omega);have HF:Hid (r=false):=by rw [Hid,HR.out,decide_eq_false hn,decide_eq_false (fun h=>h hk)];rfl
   clear hk hn;go_wp2;go_ret
   exact ⟨by first | (rw [HF.out];done) | (rw [HF.out];rfl),hBW⟩
 ·have e1:((k:Int) != 0)=true:=by rw [bne_iff_ne];omega
  have HF:Hid (r=true):=by rw [Hid,HR.out,decide_eq_true hk];rfl
  clear hk;go_wp2;go_ret
  exact ⟨by first | (rw [HF.out];done) | (rw [HF.out];rfl),hBW⟩
def oAbs (O:List Opn):List ByteArray:=O.flatMap fun x=>[x.va,x.ra]
theorem oAbs_len (O:List Opn):(oAbs O).length=2*O.length:=by
 unfold oAbs;induction O with
 | nil=>rfl
 | cons x t ih=>rw [List.flatMap_cons,List.length_append,ih,List.length_cons];simp;omega
theorem oAbs_snoc (O:List Opn) (k:Nat) (h:k<O.length):oAbs (O.take (k+1))=oAbs (O.take k)++[O[k].va,O[k].ra]:=by
 unfold oAbs;rw [List.take_succ_eq_append_getElem h,List.flatMap_append];rfl
def fwL (C va ra:ByteArray) (O:List Opn) (P V:List ByteArray):List ByteArray:=((C :: va :: ra :: oAbs O)++P)++V
def sz16B (s:ByteArray):Bool:=decide (16<s.size)
def fwB (C va ra sd:ByteArray) (O:List Opn) (P V:List ByteArray):Bool:=decide (P.length≤24)&&(decide (O.length≤24)&&(decide (V.length≤40)&&(decide (sd.size≤60)&&!(fwL C va ra O P V).any sz16B)))
theorem few1_c (s:ByteArray) (w:World) (hs:s.size≤9223372036854775807):Calls Tryz.prog 28 #[.string s] w fun e w'=>e=.returned (.bool (sz16B s))∧Below w.heap.size w w':=by
 have HR:Hid (sz16B s=decide (16<s.size)):=rfl;generalize sz16B s=r at HR ⊢;by_cases h:16<s.size
 ·have e1:decide ((16:Int)<(s.size:Int))=true:=decide_eq_true (by omega);have HF:Hid (r=true):=by rw [Hid,HR.out,decide_eq_true h]
  clear h;go_enter Tryz.func28,Tryz.ntmps28
  go_wp2;go_ret
  exact ⟨by first | (rw [HF.out];done) | (rw [HF.out];rfl),Below.refl _ _⟩
 ·have e1:decide ((16:Int)<(s.size:Int))=false:=decide_eq_false (by omega);have HF:Hid (r=false):=by rw [Hid,HR.out,decide_eq_false h]
  clear h;go_enter Tryz.func28,Tryz.ntmps28
  go_wp2;go_ret
  exact ⟨by first | (rw [HF.out];done) | (rw [HF.out];rfl),Below.refl _ _⟩
def vFw (B n np mt:Nat) (u3 vP vT:Value) (xs:List Value) (P V:List ByteArray) (gC:Nat):RVB:=fun st i v w=>match i with
 | 0=>v=u3
 | 1=>v=.pointer (some ⟨gC,8,none⟩)
 | 2=>v=vP
 | 3=>st=[true,false]→w.ownsRow B 31 1 v (n+np) (xs++P.map .string)
 | 4=>v=.pointer (some ⟨gC,4,none⟩)
 | 5=>v=.pointer (some ⟨gC,4,none⟩)
 | 6=>v=vT
 | 7=>st=[true,true]→w.ownsRow B 31 1 v (n+np+mt) (xs++P.map .string++V.map .string)
 | 8=>st=[true,true]→w.ownsRow B 31 1 v (n+np+mt) (xs++P.map .string++V.map .string)
 | _=>True
theorem vFw_st (B n np mt:Nat) (u3 vP vT:Value) (xs:List Value) (P V:List ByteArray) (gC:Nat):∀(l:List Bool) (j:Nat) (x:Value) (w w':World),Below w.heap.size w w'→vFw B n np mt u3 vP vT xs P V gC l j x w→vFw B n np mt u3 vP vT xs P V gC l j x w':=by
 intro l j x w w' hb h;unfold vFw at h ⊢;split at h
 all_goals first
  | (with_reducible exact h)
  | exact fun e=>own_after (h e) hb
  | exact own_after h hb
theorem vFw_a {B n np mt:Nat} {u3 vP vT:Value} {xs:List Value} {P V:List ByteArray} {gC:Nat} {l:List Bool} {w w':World}:∀(j:Nat) (x:Value),j≠3→vFw B n np mt u3 vP vT xs P V gC l j x w→vFw B n np mt u3 vP vT xs P V gC [true,false] j x w':=by
 intro j x hj h;unfold vFw at h ⊢;split at h
 all_goals first
  | exact absurd rfl hj
  | (with_reducible exact h)
  | exact fun e=>by cases e
theorem vFw_b {B n np mt:Nat} {u3 vP vT:Value} {xs:List Value} {P V:List ByteArray} {gC:Nat} {l:List Bool} {w w':World}:∀(j:Nat) (x:Value),j≠7→j≠8→vFw B n np mt u3 vP vT xs P V gC l j x w→vFw B n np mt u3 vP vT xs P V gC [true,true] j x w':=by
 intro j x hj hj2 h;unfold vFw at h ⊢;split at h
 all_goals first
  | exact absurd rfl hj
  | exact absurd rfl hj2
  | (with_reducible exact h)
  | exact fun e=>by cases e
def fFw (B n:Nat) (u3:Value) (xs:List Value) (st:List Bool) (w:World):Prop:=st.getD 0 false=false→w.ownsRow B 31 1 u3 n xs
theorem few24_c (vn:Bool) (va:ByteArray) (rn:Bool) (ra:ByteArray) (st:Option Addr) (mt dt:Nat) (sd:ByteArray) (ti:Int) (C:ByteArray) (po:Option Addr) (np pc:Nat) (oo:Option Addr) (no oc:Nat) (V P:List ByteArray) (O:List Opn) (w:World)
  (hva:va.size≤9223372036854775807) (hra:ra.size≤9223372036854775807) (hC:C.size≤9223372036854775807) (hsd:sd.size≤9223372036854775807) (hVn:V.length≤1000000000) (hPn:P.length≤1000000000) (hOn:O.length≤1000000000) (hVs:∀x∈V,x.size≤9223372036854775807) (hPs:∀x∈P,x.size≤9223372036854775807) (hOs:∀x∈O,x.va.size≤9223372036854775807∧x.ra.size≤9223372036854775807)
  (hV:SsAt w (.slice st mt dt) V) (hP:SsAt w (.slice po np pc) P) (hO:OsAt w (.slice oo no oc) O) :
  Calls Tryz.prog 11 #[.agg #[.bool vn,.string va,.bool rn,.string ra,.slice st mt dt,.string sd,.int .i64 ti,.string C,.slice po np pc,.slice oo no oc]] w fun e w'=>e=.returned (.bool (fwB C va ra sd O P V))∧Below w.heap.size w w':=by
 obtain ⟨i0,hi0,hz00,hz01,hz02⟩:=info_parts info_nat;have HI0:=Lib.hid hi0;have HA0:=Lib.hid hz00;have HB0:=Lib.hid hz01;have HC0:=Lib.hid hz02;clear hi0 hz00 hz01 hz02;obtain ⟨r,hr⟩:∃r,r=fwB C va ra sd O P V:=⟨_,rfl⟩;rw [←hr];have HLV:Hid (mt=V.length):=by obtain ⟨a,b,e,_⟩:=hV;injection e
 have HLP:Hid (np=P.length):=by obtain ⟨a,b,e,_⟩:=hP;injection e
 have HLO:Hid (no=O.length):=by obtain ⟨a,b,e,_⟩:=hO;injection e
 have HR:Hid (r=(decide (np≤24)&&(decide (no≤24)&&(decide (mt≤40)&&(decide (sd.size≤60)&&!(fwL C va ra O P V).any sz16B))))):=by rw [Hid,hr,HLV.out,HLP.out,HLO.out];rfl
 have HNN:Hid (mt≤1000000000∧np≤1000000000∧no≤1000000000):=by rw [Hid,HLV.out,HLP.out,HLO.out];exact ⟨hVn,hPn,hOn⟩
 have HSZ:Hid (∀x∈fwL C va ra O P V,x.size≤9223372036854775807):=by
  intro x hx;unfold fwL at hx;rw [List.mem_append,List.mem_append,List.mem_cons,List.mem_cons,List.mem_cons] at hx;rcases hx with ((rfl | rfl | rfl | hx) | hx) | hx
  ·exact hC
  ·exact hva
  ·exact hra
  ·unfold oAbs at hx;obtain ⟨y,hy,hx⟩:=List.mem_flatMap.1 hx;have h5:=hOs y hy;simp only [List.mem_cons,List.not_mem_nil,or_false] at hx;rcases hx with rfl | rfl
   ·exact h5.1
   ·exact h5.2
  ·exact hPs x hx
  ·exact hVs x hx
 have hno:no≤1000000000:=HNN.out.2.2;clear hr hva hra hC hVn hPn hOn hVs hPs hOs;have hX:=Blk.new w #[.bool vn,.string va,.bool rn,.string ra,.slice st mt dt,.string sd,.int .i64 ti,.string C,.slice po np pc,.slice oo no oc] 45;have hBW:=b1 w (.cells #[.bool vn,.string va,.bool rn,.string ra,.slice st mt dt,.string sd,.int .i64 ti,.string C,.slice po np pc,.slice oo no oc] 45);have hXl:=hX.lt;obtain ⟨hXc0,hXf0,hXc1,hXf1,hXc2,hXf2,hXc3,hXf3,hXc4,hXf4,hXc5,hXf5,hXc6,hXf6,hXc7,hXf7,hXc8,hXf8,hXc9,hXf9⟩:=hX.x10;go_enter Tryz.func11,Tryz.ntmps11
 go_upto_region 1 with fail
 clear hXc0 hXf0 hXc1 hXf1 hXc2 hXf2 hXc3 hXf3 hXc4 hXf4 hXc5 hXf5 hXc6 hXf6 hXc7 hXf7 hXc8 hXf8 hXc9 hXf9;clear hXl;generalize w.alloc (.cells #[.bool vn,.string va,.bool rn,.string ra,.slice st mt dt,.string sd,.int .i64 ti,.string C,.slice po np pc,.slice oo no oc] 45)=w1 at hX hBW ⊢;obtain ⟨gX,hgX⟩:∃x,x=w.heap.size:=⟨_,rfl⟩;rw [←hgX] at hX ⊢;replace hX:Blk w1 gX 45 [.bool vn,.string va,.bool rn,.string ra,.slice st mt dt,.string sd,.int .i64 ti,.string C,.slice po np pc,.slice oo no oc]:=hX;clear hgX;have hXl:=hX.lt;have hN:=Blk.new w1 #[.string C,.string va,.string ra] 31;have hbN:=b1 w1 (.cells #[.string C,.string va,.string ra] 31);have hR0:(w1.alloc (.cells #[.string C,.string va,.string ra] 31)).ownsRow w.heap.size 31 1 (.slice (some ⟨w1.heap.size,0,none⟩) 3 3) (3+2*0) ((C :: va :: ra :: oAbs (O.take 0)).map .string):=own_blkB hN rfl (by decide) hBW.size;have hX0:=hX.after hbN;have hBW0:=bt hBW hbN;obtain ⟨hXc0,hXf0,hXc1,hXf1,hXc2,hXf2,hXc3,hXf3,hXc4,hXf4,hXc5,hXf5,hXc6,hXf6,hXc7,hXf7,hXc8,hXf8,hXc9,hXf9⟩:=hX.x10;go_upto_region 3 with fail
 clear hXc0 hXf0 hXc1 hXf1 hXc2 hXf2 hXc3 hXf3 hXc4 hXf4 hXc5 hXf5 hXc6 hXf6 hXc7 hXf7 hXc8 hXf8 hXc9 hXf9;clear hX hbN hN hXl hBW;generalize w1.alloc (.cells #[.string C,.string va,.string ra] 31)=w2 at hR0 hX0 hBW0 ⊢;generalize (Value.slice (some ⟨w1.heap.size,0,none⟩) 3 3)=v30 at hR0 ⊢;go_loopw [3,20] (fun v3 i wr=>∃k:Nat,k≤no∧i=.int .i64 k∧wr.ownsRow w.heap.size 31 1 v3 (3+2*k) ((C :: va :: ra :: oAbs (O.take k)).map .string)∧Blk wr gX 45 [.bool vn,.string va,.bool rn,.string ra,.slice st mt dt,.string sd,.int .i64 ti,.string C,.slice po np pc,.slice oo no oc]∧Below w.heap.size w wr) (fun _ i _=>no-(intOf i).toNat)
 case atStart=>exact ⟨0,by omega,rfl,hR0,hX0,hBW0⟩
 case round =>
  clear hR0 hX0 hBW0;obtain ⟨k,hk,rfl,hR,hX,hBW⟩:=hrel;obtain ⟨wp,hwp⟩:∃wp,wp=wr:=⟨_,rfl⟩;subst hwp;have hO1:=OsAt.after hO hBW;by_cases hlt:k<no
  ·have hkl:k<O.length:=by rw [←HLO.out];exact hlt
   obtain ⟨bo,ob,rfl,hbo,x1,x2,x3,x4⟩:=OsAt.at_ hO1 hkl
   have HSN:Hid ((C :: va :: ra :: oAbs (O.take (k+1))).map Value.string=(C :: va :: ra :: oAbs (O.take k)).map .string++[.string O[k].va,.string O[k].ra]):=by
    rw [Hid,oAbs_snoc O k hkl,←List.cons_append,←List.cons_append,←List.cons_append,List.map_append];rfl
   generalize (O[k]'hkl)=o at x1 x2 x3 x4 HSN;obtain ⟨o1,o2,o3,o4⟩:=o;simp only [] at x1 x2 x3 x4 HSN;have h0k:(0:Int)≤(k:Int):=by omega
   have h1k:(k:Int)<(no:Int):=by omega
   have HK9:Hid (3+2*k+2≤3000000000):=by have:=HNN.out;rw [Hid];omega
   have hb9:=b1 wp (.cells #[.bool o1,.string o2,.bool o3,.string o4] 39);have hR9:=own_after hR hb9;have hX9:=hX.after hb9;have hBW9:=bt hBW hb9;have hsz:=hBW.size;clear hR hX hBW hO1;have hQ:=blk2a wp #[.bool o1,.string o2,.bool o3,.string o4] #[.string o2,.string o4] 39 31;have hN:=blk2b wp #[.bool o1,.string o2,.bool o3,.string o4] #[.string o2,.string o4] 39 31;have hQ1:=Blk.new wp #[.bool o1,.string o2,.bool o3,.string o4] 39;have hQl:=hQ1.lt;obtain ⟨hQ1c0,hQ1f0,hQ1c1,hQ1f1,hQ1c2,hQ1f2,hQ1c3,hQ1f3⟩:=hQ1.x4;go_wp2_with (at_builtin;refine wpList_append_lies _ rfl (.tmp 24) (.tmp 31) _ rfl w.heap.size 31 i0 _ 1 16 Tryz.underlying40 HI0.out HA0.out HB0.out HC0.out rfl (by omega) u3 (3+2*k) ((C :: va :: ra :: oAbs (O.take k)).map .string) rfl (own_after hR9 (b1 _ (.cells #[.string o2,.string o4] 31))) ⟨wp.heap.size+1,0,none⟩ 2 2 [.string o2,.string o4] rfl rfl hN.cells (by simp [Value.oneCell']) (by omega) (by have:=HK9.out;simp only [maxLen];omega) (by have:=HK9.out;omega) (by simp;omega) (wp.heap.size+2) (by simp) ?_;intro ga ca wa hown hgrow hat hlt2)
   rw [←HSN.out,show 3+2*k+2=3+2*(k+1) by omega] at hown;have hXA:=Blk.grown (hX9.alloc (.cells #[.string o2,.string o4] 31)) hgrow (own_ne hR9 hX9 (by decide));have hbA:=(ba hBW9 (.cells #[.string o2,.string o4] 31)).grown hgrow (by simp only [World.size_alloc];omega) (fun x hx=>(own_lt hR9 hx).2);clear hgrow hat hlt2 hR9 hX9 hBW9;go_wp2;go_roundw
   case rel=>exact ⟨k+1,by omega,by go_num,hown,hXA,hbA⟩
   case measure=>simp [intOf];omega
  ·obtain rfl:no=k:=by omega
   have HTK:Hid (O.take no=O):=List.take_of_length_le (by rw [←HLO.out];exact Nat.le_refl _);rw [HTK.out] at hR;clear HTK hk hlt;have HNX:Hid ((3+2*no)+np+mt≤4100000000):=by have:=HNN.out;rw [Hid];omega
   have hP1:=SsAt.after hP hBW;have hV1:=SsAt.after hV hBW;have HWS:Hid (w.heap.size≤wp.heap.size):=hBW.size;obtain ⟨xs,hxs⟩:∃xs,xs=(C :: va :: ra :: oAbs O).map Value.string:=⟨_,rfl⟩;rw [←hxs] at hR;have HXS:=Lib.hid hxs;clear hxs;go_upto_region 7 with fail
   go_cut [3] (fun s3 wx=>(∃sa sm sc,s3=.slice sa sm sc∧SsAt wx (.slice sa sm sc) (fwL C va ra O P V))∧Blk wx gX 45 [.bool vn,.string va,.bool rn,.string ra,.slice st mt dt,.string sd,.int .i64 ti,.string C,.slice po np pc,.slice oo no oc]∧Below w.heap.size w wx)
   case first =>
    refine wp_region_invB (vFw w.heap.size (3+2*no) np mt u3 (.slice po np pc) (.slice st mt dt) xs P V gX) [3,7] w.heap.size (fun s wx=>fFw w.heap.size (3+2*no) u3 xs s wx∧Blk wx gX 45 [.bool vn,.string va,.bool rn,.string ra,.slice st mt dt,.string sd,.int .i64 ti,.string C,.slice po np pc,.slice oo no oc]∧SsAt wx (.slice po np pc) P∧SsAt wx (.slice st mt dt) V) 71 ⟨fun _=>hR.drew,hX.drew,SsAt.after hP1 (Below.drew (Below.refl _ _)),SsAt.after hV1 (Below.drew (Below.refl _ _))⟩ (by kernel_rfl) rfl (by kernel_rfl) ?_ ?_ (by kernel_rfl)
    ·intro hsl done a' w' i o hJ ho hun hpre;have hi:=(Array.getElem?_eq_some_iff.1 ho).1;have hst:=vFw_st w.heap.size (3+2*no) np mt u3 (.slice po np pc) (.slice st mt dt) xs P V gX;have hFt:∀(b:List Bool) (w1 w2:World),Below w1.heap.size w1 w2→(fFw w.heap.size (3+2*no) u3 xs b w1∧Blk w1 gX 45 [.bool vn,.string va,.bool rn,.string ra,.slice st mt dt,.string sd,.int .i64 ti,.string C,.slice po np pc,.slice oo no oc]∧SsAt w1 (.slice po np pc) P∧SsAt w1 (.slice st mt dt) V)→(fFw w.heap.size (3+2*no) u3 xs b w2∧Blk w2 gX 45 [.bool vn,.string va,.bool rn,.string ra,.slice st mt dt,.string sd,.int .i64 ti,.string C,.slice po np pc,.slice oo no oc]∧SsAt w2 (.slice po np pc) P∧SsAt w2 (.slice st mt dt) V):=fun b w1 w2 hb h=>⟨fun e=>own_after (h.1 e) hb,h.2.1.after hb,SsAt.after h.2.2.1 hb,SsAt.after h.2.2.2 hb⟩
     have hwz:w.heap.size≤w'.heap.size:=Nat.le_trans HWS.out hJ.bw.size;obtain ⟨hfR,hXx,hPx,hVx⟩:=hJ.ex;have hXl:=hXx.lt;have y4:=hXx.cell 4;have y8:=hXx.cell 8
     match i,hi,ho,hun,hpre with
      | 0,_,ho,hun,hpre =>
       simp at ho;subst ho;refine hJ.op (d:=34) hsl hst hFt hwz rfl rfl rfl (by decide) hpre ?_
       have k8:done.getD 8 false=false:=by
        cases a8:done.getD 8 false with
        | false=>rfl
        | true =>
         have a7:=hJ.pr 8 _ rfl a8 ⟨7,.data⟩ (by simp) rfl;have a3:=hJ.pr 7 _ rfl a7 ⟨3,.data⟩ (by simp) rfl;have a0:=hJ.pr 3 _ rfl a3 ⟨0,.data⟩ (by simp) rfl;rw [hun] at a0;cases a0
       have q3:=hJ.keepX 3 u3 8 k8 rfl (by kernel_rfl);refine wp_val (v:=u3) (by simp [execOp,q3,go_sem]) rfl
      | 1,_,ho,hun,hpre =>
       simp at ho;subst ho;refine hJ.op (d:=35) hsl hst hFt hwz rfl rfl rfl (by decide) hpre ?_;have q1:=hJ.keep 1 (.pointer (some ⟨gX,0,none⟩)) rfl (by kernel_rfl);refine wp_val (v:=.pointer (some ⟨gX,8,none⟩)) (by simp [execOp,q1,go_sem]) rfl
      | 2,_,ho,hun,hpre =>
       simp at ho;subst ho;refine hJ.op (d:=36) hsl hst hFt hwz rfl rfl rfl (by decide) hpre ?_;obtain ⟨v35,ev35,hv35⟩:=hJ.dn 1 _ 35 rfl (hpre ⟨1,.data⟩ (by simp) rfl) rfl;have qv35:=eval_of ev35;obtain rfl:v35=.pointer (some ⟨gX,8,none⟩):=hv35;refine wp_val (v:=.slice po np pc) (by simp [execOp,ev35,go_sem,y8]) rfl
      | 3,_,ho,hun,hpre =>
       simp at ho;subst ho;refine wpOp_step rfl fun K' hK'=>?_
       obtain ⟨v34,ev34,hv34⟩:=hJ.dn 0 _ 34 rfl (hpre ⟨0,.data⟩ (by simp) rfl) rfl;have qv34:=eval_of ev34;obtain ⟨v36,ev36,hv36⟩:=hJ.dn 2 _ 36 rfl (hpre ⟨2,.data⟩ (by simp) rfl) rfl;have qv36:=eval_of ev36
       have hs0:stB [3,7] done=[false,false]:=by
        have k3:done.getD 3 false=false:=hun
        have k7:done.getD 7 false=false:=by
         cases a7:done.getD 7 false with
         | false=>rfl
         | true =>
          have a3:=hJ.pr 7 _ rfl a7 ⟨3,.data⟩ (by simp) rfl;rw [hun] at a3;cases a3
        simp only [stB,List.map_cons,List.map_nil,k3,k7]
       obtain rfl:v34=u3:=hv34;obtain rfl:v36=.slice po np pc:=hv36;rw [hs0] at hfR;have hRx:=hfR rfl;rw [if_pos (by simp [Region.wanted])];refine wp_append_all (.tmp 34) (.tmp 36) _ rfl qv34 qv36 w.heap.size 31 i0 _ 16 Tryz.underlying40 HI0.out HA0.out HB0.out HC0.out rfl (3+2*no) xs hRx P hPx (by have:=HNX.out;simp only [maxLen];omega) (by have:=HNX.out;omega) hwz ?_;intro v' w'' hown hgr hbs;have hi3:3<done.size:=by rw [hJ.sz];decide
       have hs1:stB [3,7] (done.setIfInBounds 3 true)=[true,false]:=by
        have e:=hs0;simp only [stB,List.map_cons,List.map_nil,List.cons.injEq,and_true] at e;simp only [stB,List.map_cons,List.map_nil,getD_set _ _ _ hi3,e,if_true,if_false,Nat.reduceEqDiff]
       have hbw2:=hJ.bw.grown hgr hwz (fun g hg=>(hbs g hg).1);refine hK' _ _ (hJ.put (i:=3) (d:=37) hsl rfl rfl hpre hbw2 ?_ ?_ ?_)
       ·rw [hs1];exact ⟨fun e=>(by cases e),Blk.grown hXx hgr (own_ne hRx hXx (by decide)),SsAt.after hP (hBW.trans hbw2),SsAt.after hV (hBW.trans hbw2)⟩
       ·intro j q hq hji hdn u hu;rw [hs1];exact vFw_a j u hji hu
       ·rw [hs1];exact fun _=>hown
      | 4,_,ho,hun,hpre =>
       simp at ho;subst ho;refine hJ.op (d:=38) hsl hst hFt hwz rfl rfl rfl (by decide) hpre ?_;have q1:=hJ.keep 1 (.pointer (some ⟨gX,0,none⟩)) rfl (by kernel_rfl);refine wp_val (v:=.pointer (some ⟨gX,4,none⟩)) (by simp [execOp,q1,go_sem]) rfl
      | 5,_,ho,hun,hpre =>
       simp at ho;subst ho;refine hJ.op (d:=39) hsl hst hFt hwz rfl rfl rfl (by decide) hpre ?_;obtain ⟨v38,ev38,hv38⟩:=hJ.dn 4 _ 38 rfl (hpre ⟨4,.data⟩ (by simp) rfl) rfl;have qv38:=eval_of ev38;obtain rfl:v38=.pointer (some ⟨gX,4,none⟩):=hv38;refine wp_val (v:=.pointer (some ⟨gX,4,none⟩)) (by simp [execOp,ev38,go_sem]) rfl
      | 6,_,ho,hun,hpre =>
       simp at ho;subst ho;refine hJ.op (d:=40) hsl hst hFt hwz rfl rfl rfl (by decide) hpre ?_;obtain ⟨v39,ev39,hv39⟩:=hJ.dn 5 _ 39 rfl (hpre ⟨5,.data⟩ (by simp) rfl) rfl;have qv39:=eval_of ev39;obtain rfl:v39=.pointer (some ⟨gX,4,none⟩):=hv39;refine wp_val (v:=.slice st mt dt) (by simp [execOp,ev39,go_sem,y4]) rfl
      | 7,_,ho,hun,hpre =>
       simp at ho;subst ho;have a3:done.getD 3 false=true:=hpre ⟨3,.data⟩ (by simp) rfl;refine wpOp_step rfl fun K' hK'=>?_
       obtain ⟨v37,ev37,hv37⟩:=hJ.dn 3 _ 37 rfl (hpre ⟨3,.data⟩ (by simp) rfl) rfl;have qv37:=eval_of ev37;obtain ⟨v40,ev40,hv40⟩:=hJ.dn 6 _ 40 rfl (hpre ⟨6,.data⟩ (by simp) rfl) rfl;have qv40:=eval_of ev40
       have hs0:stB [3,7] done=[true,false]:=by
        have k7:done.getD 7 false=false:=hun;simp only [stB,List.map_cons,List.map_nil,a3,k7]
       obtain rfl:v40=.slice st mt dt:=hv40;rw [hs0] at hv37;have hRx:=hv37 rfl;rw [if_pos (by simp [Region.wanted])];refine wp_append_all (.tmp 37) (.tmp 40) _ rfl qv37 qv40 w.heap.size 31 i0 _ 16 Tryz.underlying40 HI0.out HA0.out HB0.out HC0.out rfl (3+2*no+np) _ hRx V hVx (by have:=HNX.out;simp only [maxLen];omega) (by have:=HNX.out;omega) hwz ?_;intro v' w'' hown hgr hbs;have hi7:7<done.size:=by rw [hJ.sz];decide
       have hs1:stB [3,7] (done.setIfInBounds 7 true)=[true,true]:=by
        have e:=hs0;simp only [stB,List.map_cons,List.map_nil,List.cons.injEq,and_true] at e;simp only [stB,List.map_cons,List.map_nil,getD_set _ _ _ hi7,e,if_true,if_false,Nat.reduceEqDiff]
       have hbw2:=hJ.bw.grown hgr hwz (fun g hg=>(hbs g hg).1);refine hK' _ _ (hJ.put (i:=7) (d:=41) hsl rfl rfl hpre hbw2 ?_ ?_ ?_)
       ·rw [hs1];exact ⟨fun e=>(by cases e),Blk.grown hXx hgr (own_ne hRx hXx (by decide)),SsAt.after hP (hBW.trans hbw2),SsAt.after hV (hBW.trans hbw2)⟩
       ·intro j q hq hji hdn u hu;rw [hs1];refine vFw_b j u hji ?_ hu;rintro rfl;have h8:=hJ.pr 8 _ rfl hdn ⟨7,.data⟩ (by simp) rfl;rw [hun] at h8;cases h8
       ·rw [hs1];exact fun _=>hown
      | 8,_,ho,hun,hpre =>
       simp at ho;subst ho;refine hJ.op (d:=3) hsl hst hFt hwz rfl rfl rfl (by decide) hpre ?_;obtain ⟨v41,ev41,hv41⟩:=hJ.dn 7 _ 41 rfl (hpre ⟨7,.data⟩ (by simp) rfl) rfl;have qv41:=eval_of ev41;refine wp_val (v:=v41) (by simp [execOp,ev41,go_sem]) ?_;exact hv41
    ·intro done a' w' hJ hd;obtain ⟨f,hf,hv⟩:=hJ.all hd;have h8:=hv 8 _ 3 rfl rfl;rw [stB_all hd (by decide)] at h8;replace h8:=h8 rfl;have hbw:=hJ.bw;have hXx:=hJ.ex.2.1;clear hJ hv hd;subst hf;simp only [putAll,List.size_toArray,List.length_cons,List.length_nil,Nat.reduceAdd,List.getElem?_toArray,List.getElem?_cons_zero,List.getElem?_cons_succ,Option.bind_some,Act.put,List.setIfInBounds_toArray,List.set_cons_zero,List.set_cons_succ];go_wp2_with fail
     go_meet
     have hss:SsAt w' (f 8) (fwL C va ra O P V):=by
      refine ss_own (base:=w.heap.size) (n:=3+2*no+np+mt) _ ?_ ?_
      ·unfold fwL;simp only [List.length_append,List.length_cons,oAbs_len];rw [HLV.out,HLP.out,HLO.out];omega
      ·unfold fwL;rw [List.map_append,List.map_append,←HXS.out];exact h8
     obtain ⟨sa,sc,hfe⟩:=RAt.form hss;refine ⟨⟨sa,_,sc,hfe,?_⟩,hXx,hBW.trans hbw⟩;rw [←hfe];exact hss
   case rest =>
    obtain ⟨⟨sa,sm,sc,rfl,hSS⟩,hX2,hB2⟩:=hcut;obtain ⟨wy,hwy⟩:∃wy,wy=wc:=⟨_,rfl⟩;subst hwy;clear hP1 hV1 hR hX HXS HNX;have hXl:=hX2.lt;have HFW:=Lib.hid HR.out;by_cases g1:np≤24
    rotate_left
    ·have e0:decide ((np:Int)≤24)=false:=decide_eq_false (by omega);have HF:Hid (r=false):=by rw [Hid,HR.out,decide_eq_false g1];rfl
     clear g1;obtain ⟨hX2c0,hX2f0,hX2c1,hX2f1,hX2c2,hX2f2,hX2c3,hX2f3,hX2c4,hX2f4,hX2c5,hX2f5,hX2c6,hX2f6,hX2c7,hX2f7,hX2c8,hX2f8,hX2c9,hX2f9⟩:=hX2.x10;go_wp2;go_ret
     exact ⟨by first | (rw [HF.out];done) | (rw [HF.out];rfl),hB2⟩
    have e0:decide ((np:Int)≤24)=true:=decide_eq_true (by omega);by_cases g2:no≤24
    rotate_left
    ·have e1:decide ((no:Int)≤24)=false:=decide_eq_false (by omega);have HF:Hid (r=false):=by rw [Hid,HR.out,decide_eq_true g1,decide_eq_false g2];rfl
     clear g2;obtain ⟨hX2c0,hX2f0,hX2c1,hX2f1,hX2c2,hX2f2,hX2c3,hX2f3,hX2c4,hX2f4,hX2c5,hX2f5,hX2c6,hX2f6,hX2c7,hX2f7,hX2c8,hX2f8,hX2c9,hX2f9⟩:=hX2.x10;go_wp2;go_ret
     exact ⟨by first | (rw [HF.out];done) | (rw [HF.out];rfl),hB2⟩
    have e1:decide ((no:Int)≤24)=true:=decide_eq_true (by omega);by_cases g3:mt≤40
    rotate_left
    ·have e2:decide ((mt:Int)≤40)=false:=decide_eq_false (by omega);have HF:Hid (r=false):=by rw [Hid,HR.out,decide_eq_true g1,decide_eq_true g2,decide_eq_false g3];rfl
     clear g3;obtain ⟨hX2c0,hX2f0,hX2c1,hX2f1,hX2c2,hX2f2,hX2c3,hX2f3,hX2c4,hX2f4,hX2c5,hX2f5,hX2c6,hX2f6,hX2c7,hX2f7,hX2c8,hX2f8,hX2c9,hX2f9⟩:=hX2.x10;go_wp2;go_ret
     exact ⟨by first | (rw [HF.out];done) | (rw [HF.out];rfl),hB2⟩
    have e2:decide ((mt:Int)≤40)=true:=decide_eq_true (by omega);by_cases g4:sd.size≤60
    rotate_left
    ·have e3:decide ((sd.size:Int)≤60)=false:=decide_eq_false (by omega);have HF:Hid (r=false):=by rw [Hid,HR.out,decide_eq_true g1,decide_eq_true g2,decide_eq_true g3,decide_eq_false g4];rfl
     clear g4;obtain ⟨hX2c0,hX2f0,hX2c1,hX2f1,hX2c2,hX2f2,hX2c3,hX2f3,hX2c4,hX2f4,hX2c5,hX2f5,hX2c6,hX2f6,hX2c7,hX2f7,hX2c8,hX2f8,hX2c9,hX2f9⟩:=hX2.x10;go_wp2;go_ret
     exact ⟨by first | (rw [HF.out];done) | (rw [HF.out];rfl),hB2⟩
    have e3:decide ((sd.size:Int)≤60)=true:=decide_eq_true (by omega)
    have hln:(fwL C va ra O P V).length≤1000:=by
     unfold fwL;simp only [List.length_append,List.length_cons,oAbs_len];have e1:=HLV.out;have e2:=HLP.out;have e3:=HLO.out;omega
    obtain ⟨b,hb⟩:∃b,b=(fwL C va ra O P V).any sz16B:=⟨_,rfl⟩;have HF:Hid (r=!b):=by rw [Hid,HR.out,decide_eq_true g1,decide_eq_true g2,decide_eq_true g3,decide_eq_true g4,hb];rfl
    have HC:Hid (∀w',Below wy.heap.size wy w'→Calls Tryz.prog 27 #[.slice sa sm sc,.func (.func 28) #[] #[]] w' fun e w''=>e=.returned (.bool b)∧Below w'.heap.size w' w''):=fun w' hbb =>
     cont_fw24 (fwL C va ra O P V) sz16B b _ w' hln (SsAt.after hSS hbb) hb.symm (fun k hk w2 _=>few1_c _ w2 (HSZ.out _ (List.getElem_mem hk)))
    clear hb g1 g2 g3 g4 hln;obtain ⟨hX2c0,hX2f0,hX2c1,hX2f1,hX2c2,hX2f2,hX2c3,hX2f3,hX2c4,hX2f4,hX2c5,hX2f5,hX2c6,hX2f6,hX2c7,hX2f7,hX2c8,hX2f8,hX2c9,hX2f9⟩:=hX2.x10;go_wp2_with fail
    refine (HC.out _ (by first | exact Below.refl _ _ | exact Below.drew (Below.refl _ _))).mono ?_;rintro e w2 ⟨rfl,hb2⟩;cases b
    ·go_wp2;go_ret
     exact ⟨by rw [HF.out];rfl,by first | exact bt hB2 hb2 | exact bt hB2.drew hb2⟩
    ·go_wp2;go_ret
     exact ⟨by rw [HF.out];rfl,by first | exact bt hB2 hb2 | exact bt hB2.drew hb2⟩
end Go.Proofs.YtdoacbdkbbpamaaGreatDoor
