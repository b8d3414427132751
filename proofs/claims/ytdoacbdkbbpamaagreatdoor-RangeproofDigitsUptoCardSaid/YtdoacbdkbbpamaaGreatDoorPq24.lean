/- rangeproof.Prepare. -/
import Derived.Test.YtdoacbdkbbpamaaGreatDoorHf24
import Derived.Test.YtdoacbdkbbpamaaGreatDoorFo24
set_option linter.unusedVariables false
set_option linter.unusedSimpArgs false
set_option maxRecDepth 100000
set_option maxHeartbeats 16000000
namespace Go.Proofs.YtdoacbdkbbpamaaGreatDoor
open Go.RowKit Go.Shelf
def rgS (att:Att) (p g h q:Nat) (x y:Nat) (T:Tp) (n:Nat):PrR:=
 if (splN att p g h q (dgs x n) T n).err≠0 then ⟨(splN att p g h q (dgs x n) T n).err,[],[],Tp.nil⟩
 else if (splN att p g h q (dgs y n) (T.on n) n).err≠0 then ⟨(splN att p g h q (dgs y n) (T.on n) n).err,[],[],Tp.nil⟩
 else ⟨0,(splN att p g h q (dgs x n) T n).parts++(splN att p g h q (dgs y n) (T.on n) n).parts,(splN att p g h q (dgs x n) T n).ops++(splN att p g h q (dgs y n) (T.on n) n).ops,T.on (n+n)⟩
def othE (lo hi:Int) (x:Nat × Bool):Nat:=if x.2=true then (hi-lo).toNat-x.1 else 0
def rgR (att:Att) (a b c d:ByteArray) (lo hi:Int) (vn:Bool) (va:ByteArray) (rn:Bool) (ra:ByteArray) (T:Tp):PrR:=
 if (vlO ⟨vn,va,rn,ra⟩&&vl4 a b c d&&T.good)=false then ⟨3,[],[],Tp.nil⟩
 else if (rdyE a b c d lo hi).2≠0 then ⟨(rdyE a b c d lo hi).2,[],[],Tp.nil⟩
 else if (vn || decide (numb b≤numb va) || (rn || decide (numb b≤numb ra)))=true then ⟨2,[],[],Tp.nil⟩
 else if (rdyE a b c d lo hi).1=0 then ⟨0,[],[],T⟩
 else rgS att (numb a) (numb c) (numb d) (numb b) (dstE (numb b) lo hi (numb va)).1 (othE lo hi (dstE (numb b) lo hi (numb va))) T (rdyE a b c d lo hi).1
theorem os_blk1 {w:World} {g cp:Nat} {vn rn:Bool} {va ra:ByteArray} (h:Blk w g 39 [.bool vn,.string va,.bool rn,.string ra]):OsAt w (.slice (some ⟨g,0,none⟩) 1 cp) [⟨vn,va,rn,ra⟩]:=by
 refine ⟨_,_,rfl,.inr ⟨g,0,rfl,h.lt,fun j hj=>?_⟩⟩;have hj:j<1:=hj;obtain rfl:j=0:=by omega
 refine ⟨_,rfl,fun i hi=>?_⟩;simp only [Nat.zero_mul,Nat.zero_add];exact h.cell i
theorem rg_facts {a b c d:ByteArray} {lo hi:Int} (hv:vl4 a b c d=true) (ha:a.size≤8) (hb:b.size≤8) (hc:c.size≤8) (hd:d.size≤8) (h:(rdyE a b c d lo hi).2=0) :
  ∃p q g h,a=E p∧b=E q∧c=E g∧d=E h∧p<256^8∧q<256^8∧2≤q∧g<256^100∧h<256^100∧pedE p q g h=0∧lo≤hi∧(rdyE a b c d lo hi).1=nb (hi-lo).toNat∧nb (hi-lo).toNat≤32:=by
 obtain ⟨p,q,g,k,⟨l1,l2,l3,l4⟩,rfl,rfl,rfl,rfl⟩:=vl4_of hv;unfold rdyE at h ⊢;rw [pedV_E l1 l2 l3 l4] at h ⊢;have h8:(256:Nat)^8≤256^100:=Nat.pow_le_pow_right (by decide) (by decide);have hg:=lt_of_size hc;have hk:=lt_of_size hd;split at h
 ·rename_i h1;exact absurd h h1
 rename_i h1;rw [if_neg h1];split at h
 ·cases h
 rename_i h2;rw [if_neg h2];have he:pedE p q g k=0:=by omega
 have hgr:=pedE_grp he;have hq0:q≠0:=fun e=>h2 (empty_E.2 e)
 rw [grpE_q (by omega)] at hgr;unfold widE at h ⊢;split at h
 ·cases h
 rename_i h3;rw [if_neg h3];split at h
 ·cases h
 rename_i h4;rw [if_neg h4];refine ⟨p,q,g,k,rfl,rfl,rfl,rfl,lt_of_size ha,lt_of_size hb,?_,by omega,by omega,he,by omega,rfl,by omega⟩;split at hgr
 ·rename_i h5;exact h5.2.1
 ·cases hgr
theorem vlO_E {vn rn:Bool} {va ra:ByteArray} (h:vlO ⟨vn,va,rn,ra⟩=true) (h1:va.size≤16) (h2:ra.size≤16):∃x y,va=E x∧ra=E y∧x<256^16∧y<256^16:=by
 unfold vlO at h;rw [Bool.and_eq_true] at h;obtain ⟨z,_,_,e1⟩:=of_ivB h.1;obtain ⟨z2,_,_,e2⟩:=of_ivB h.2;have e1:va=E z.natAbs:=e1;have e2:ra=E z2.natAbs:=e2;exact ⟨_,_,e1,e2,lt_of_size (e1 ▸ h1),lt_of_size (e2 ▸ h2)⟩
theorem rgR_E {att:Att} {p q g h:Nat} {lo hi:Int} {vn rn:Bool} {x y:Nat} {T:Tp} (hf:(vlO ⟨vn,E x,rn,E y⟩&&vl4 (E p) (E q) (E g) (E h))=true) (ht:T.good=true) (hr:(rdyE (E p) (E q) (E g) (E h) lo hi).2=0) :
  rgR att (E p) (E q) (E g) (E h) lo hi vn (E x) rn (E y) T=if (vn || decide (q≤x) || (rn || decide (q≤y)))=true then ⟨2,[],[],Tp.nil⟩
   else if (rdyE (E p) (E q) (E g) (E h) lo hi).1=0 then ⟨0,[],[],T⟩
   else rgS att p g h q (dstE q lo hi x).1 (othE lo hi (dstE q lo hi x)) T (rdyE (E p) (E q) (E g) (E h) lo hi).1:=by
 unfold rgR;rw [hf,ht,if_neg (by decide),if_neg (by rw [hr];decide),numb_E,numb_E,numb_E,numb_E,numb_E,numb_E]
theorem dst_le {q x:Nat} {lo hi:Int}:(dstE q lo hi x).1≤(hi-lo).toNat∧((dstE q lo hi x).2=false→(dstE q lo hi x).1=0):=by
 unfold dstE;split
 ·exact ⟨Nat.zero_le _,fun _=>rfl⟩
 ·exact ⟨by omega,fun h=>by cases h⟩
theorem cmpN_ge {a b:Nat} (h:b≤a):decide ((0:Int)≤cmpN a b)=true:=by
 unfold cmpN;rw [if_neg (by omega)];split <;> rfl
theorem cmpN_lt {a b:Nat} (h:a<b):decide ((0:Int)≤cmpN a b)=false:=by
 unfold cmpN;rw [if_pos h];rfl
def HfPostA (w:World) (gT gP gO B B0 a n:Nat) (u vO us:Value) (L:List Nat) (M:List (Nat × Nat)) (T:Tp) (R:PrR) (e:Ending) (w':World):Prop:=
 e=.returned (.int .i64 (R.err:Int))∧Below B0 w w' ∧
 (R.err=0→∃ta tm tc u' v',Blk w' gT 42 [.slice ta tm tc,.string T.seed,.int .i64 (T.pos+(n:Int))]∧Blk w' gP 40 [u']∧Blk w' gO 43 [v']∧w'.ownsRow B 31 1 u' (a+n) (strs (L++R.parts))∧w'.ownsRow B 39 4 v' (a+n) (((M++R.ops).map nop).flatMap opc)∧SsAt w' (.slice ta tm tc) T.vals∧∀b,b<w.heap.size→FarS us b→FarS (.slice ta tm tc) b) ∧
 (∀g T cs,Blk w g T cs→g≠gT→g≠gP→g≠gO→u.ownBlock≠some g→vO.ownBlock≠some g→Blk w' g T cs)
theorem splN_zero (att:Att) (p g h q:Nat) (X:List Nat) (T:Tp):splN att p g h q X T 0=⟨0,[],[],T.on 0⟩:=splN_ok (fun j h=>absurd h (Nat.not_lt_zero _))
theorem halfA_c (att:Att) (p q g h n v a:Nat) (T:Tp) (L:List Nat) (M:List (Nat × Nat)) (uo:Option Addr) (um uc:Nat) (u vO:Value) (gW gK gT gP gO B B0:Nat) (w:World) (hat:HAtt att T.seed w) (hok:T.Ok) (hgd:T.good=true) (hp:p<256^8) (hq:q<256^8) (h2:2≤q) (hgb:g<256^100) (hhb:h<256^100) (he:pedE p q g h=0) (hn2:n≤32) (hv:v<2^n) (ha:a≤100)
  (hW:Blk w gW 3 [.int .i64 (n:Int)]) (hK:Blk w gK 35 [.string (E p),.string (E q),.string (E g),.string (E h)]) (hT:Blk w gT 42 [.slice uo um uc,.string T.seed,.int .i64 T.pos]) (hP:Blk w gP 40 [u]) (hO:Blk w gO 43 [vO]) (hu:w.ownsRow B 31 1 u a (strs L)) (hvO:w.ownsRow B 39 4 vO a ((M.map nop).flatMap opc)) (hV:SsAt w (.slice uo um uc) T.vals) (hB1:B0≤gT) (hB2:B0≤gP) (hB3:B0≤gO) (hB4:B0≤B) (hB5:B≤w.heap.size) :
  Calls Tryz.prog 34 #[.int .i64 (v:Int),.pointer (some ⟨gW,0,none⟩),.pointer (some ⟨gK,0,none⟩),.pointer (some ⟨gT,0,none⟩),.pointer (some ⟨gP,0,none⟩),.pointer (some ⟨gO,0,none⟩)] w (HfPostA w gT gP gO B B0 a n u vO (.slice uo um uc) L M T (splN att p g h q (dgs v n) T n)):=by
 by_cases hn:1≤n
 ·refine (half_c att p q g h n v a T L M uo um uc u vO gW gK gT gP gO B B0 w hat hok hgd hp hq h2 hgb hhb he hn hn2 hv ha hW hK hT hP hO hu hvO hV hB1 hB2 hB3 hB4 hB5).mono ?_;rintro e w' ⟨h1,h2,h3,h4⟩;refine ⟨h1,h2,fun h0=>?_,h4⟩;obtain ⟨ta,tm,tc,u',v',k1,k2,k3,k4,k5,k6,k7⟩:=h3 h0;exact ⟨ta,tm,tc,u',v',k1,k2,k3,k4,k5,k6,fun b hb _=>k7 b hb⟩
 ·obtain rfl:n=0:=by omega
  rw [splN_zero];have hWl:=hW.lt;have w0':=hW.cell 0;clear hat hok hgd hp hq h2 hgb hhb he hn hn2 hv ha hK
  have HF:Hid (HfPostA w gT gP gO B B0 a 0 u vO (.slice uo um uc) L M T ⟨0,[],[],T.on 0⟩ (.returned (.int .i64 0)) w):=by
   refine ⟨rfl,Below.refl _ _,fun _=>⟨uo,um,uc,u,vO,?_,hP,hO,?_,?_,hV,fun b _ h=>h⟩,fun _ _ _ h _ _ _ _ _=>h⟩
   ·rw [show T.pos+((0:Nat):Int)=T.pos by omega];exact hT
   ·rw [List.append_nil];exact hu
   ·rw [List.append_nil];exact hvO
  clear hT hP hO hu hvO hV hB1 hB2 hB3 hB4 hB5;go_enter Tryz.func34,Tryz.ntmps34
  go_wp2;go_ret
  exact HF.out
theorem rgprep_c (att:Att) (a b c d:ByteArray) (lo hi:Int) (vn:Bool) (va:ByteArray) (rn:Bool) (ra:ByteArray) (T:Tp) (v:Value) (w:World)
  (hat:HAtt att T.seed w) (hok:T.Ok) (ha:a.size≤8) (hb:b.size≤8) (hc:c.size≤8) (hd:d.size≤8) (hva:va.size≤16) (hra:ra.size≤16) (hl1:-9223372036854775808≤lo) (hl2:lo≤9223372036854775807) (hh1:-9223372036854775808≤hi) (hh2:hi≤9223372036854775807) (hV:SsAt w v T.vals) :
  Calls Tryz.prog 13 #[.agg #[.string a,.string b,.string c,.string d],.int .i64 lo,.int .i64 hi,.agg #[.bool vn,.string va,.bool rn,.string ra],.agg #[v,.string T.seed,.int .i64 T.pos]] w (PrPost w (rgR att a b c d lo hi vn va rn ra T)):=by
 obtain ⟨R,hR⟩:∃R,R=rgR att a b c d lo hi vn va rn ra T:=⟨_,rfl⟩;rw [←hR];have HR:=Lib.hid hR
 have HFM:Hid (∀(u:Value) (w':World),OsAt w' u [⟨vn,va,rn,ra⟩]→Calls Tryz.prog 29 #[.agg #[.string a,.string b,.string c,.string d],u] w' fun e w''=>e=.returned (.bool (vlO ⟨vn,va,rn,ra⟩&&vl4 a b c d))∧Below w'.heap.size w' w''):=fun u w' hu=>by
  have h9:=rgformed_c [⟨vn,va,rn,ra⟩] a b c d u w' (by simp) (by intro x hx;simp only [List.mem_singleton] at hx;subst hx;exact ⟨by show va.size≤1000;omega,by show ra.size≤1000;omega⟩) (by omega) (by omega) (by omega) (by omega) hu;rwa [show ([⟨vn,va,rn,ra⟩]:List Opn).all vlO=vlO ⟨vn,va,rn,ra⟩ by simp] at h9
 have HTP:Hid (∀(u:Value) (w':World),SsAt w' u T.vals→Calls Tryz.prog 30 #[.agg #[u,.string T.seed,.int .i64 T.pos]] w' fun e w''=>e=.returned (.bool T.good)∧Below w'.heap.size w' w''):=fun u w' hu=>rgtape_c T u w' hok hu
 have HRD:Hid (∀w:World,Calls Tryz.prog 31 #[.agg #[.string a,.string b,.string c,.string d],.int .i64 lo,.int .i64 hi] w fun e w'=>e=.returned (.tuple #[.int .i64 ((rdyE a b c d lo hi).1:Int),.int .i64 ((rdyE a b c d lo hi).2:Int)])∧Below w.heap.size w w'):=fun w=>rgready_c a b c d lo hi w ha (by omega) (by omega) (by omega) hl1 hl2 hh1 hh2
 obtain ⟨fm,hfm⟩:∃t,t=(vlO ⟨vn,va,rn,ra⟩&&vl4 a b c d):=⟨_,rfl⟩;obtain ⟨tg,htg⟩:∃t,t=T.good:=⟨_,rfl⟩;rw [←hfm] at HFM;rw [←htg] at HTP;have HBAD:Hid ((fm&&tg)=false→R=⟨3,[],[],Tp.nil⟩):=fun h=>by rw [HR.out,rgR,←hfm,←htg,if_pos h]
 have HFT:Hid (fm=(vlO ⟨vn,va,rn,ra⟩&&vl4 a b c d)∧tg=T.good):=⟨hfm,htg⟩;have HAT:=Lib.hid hat;have HOK:=Lib.hid hok;have HSZ:Hid (a.size≤8∧b.size≤8∧c.size≤8∧d.size≤8∧va.size≤16∧ra.size≤16):=⟨ha,hb,hc,hd,hva,hra⟩;have HLH:Hid (-9223372036854775808≤lo∧lo≤9223372036854775807∧-9223372036854775808≤hi∧hi≤9223372036854775807):=⟨hl1,hl2,hh1,hh2⟩;clear hR hfm htg hat hok ha hb hc hd hva hra hl1 hl2 hh1 hh2;obtain ⟨at_,ct,rfl⟩:=RAt.form hV;obtain ⟨nt,hnt⟩:∃n,n=T.vals.length:=⟨_,rfl⟩;have HNT:=Lib.hid hnt;rw [←hnt] at hV ⊢;clear hnt;obtain ⟨hK,hO,hT,hQ,hBW⟩:=blk4 w #[.string a,.string b,.string c,.string d] #[.bool vn,.string va,.bool rn,.string ra] #[.slice at_ nt ct,.string T.seed,.int .i64 T.pos] #[.slice none 0 0,.string ⟨#[]⟩,.int .i64 0] 35 39 42 42;have hV1:=SsAt.after hV hBW;obtain ⟨gO,hgO⟩:∃g,w.heap.size+1=g:=⟨_,rfl⟩;obtain ⟨gT,hgT⟩:∃g,w.heap.size+1+1=g:=⟨_,rfl⟩;obtain ⟨gQ,hgQ⟩:∃g,w.heap.size+1+1+1=g:=⟨_,rfl⟩;have HGW:Hid (w.heap.size<gO∧gO<gT∧gT<gQ):=by rw [Hid];omega
 have HG1:=Lib.hid hgO;have HG2:=Lib.hid hgT;have HG3:=Lib.hid hgQ;have hFT:FarS (.slice at_ nt ct) gT:=ss_far hV (by omega);have hFQ:FarS (.slice at_ nt ct) gQ:=ss_far hV (by omega);clear hgO hgT hgQ hV;go_enter Tryz.func13,Tryz.ntmps13
 go_upto_region 1 with fail
 rw [HG3.out,HG2.out,HG1.out];replace hO:Blk _ gO 39 [.bool vn,.string va,.bool rn,.string ra]:=HG1.out ▸ hO;replace hT:Blk _ gT 42 [.slice at_ nt ct,.string T.seed,.int .i64 T.pos]:=HG2.out ▸ hT;replace hQ:Blk _ gQ 42 [.slice none 0 0,.string ⟨#[]⟩,.int .i64 0]:=HG3.out ▸ hQ;generalize (((w.alloc (.cells #[.string a,.string b,.string c,.string d] 35)).alloc (.cells #[.bool vn,.string va,.bool rn,.string ra] 39)).alloc (.cells #[.slice at_ nt ct,.string T.seed,.int .i64 T.pos] 42)).alloc (.cells #[.slice none 0 0,.string ⟨#[]⟩,.int .i64 0] 42)=w1 at hK hO hT hQ hBW hV1 ⊢;obtain ⟨gK,hgK⟩:∃g,g=w.heap.size:=⟨_,rfl⟩;rw [←hgK] at hK ⊢;replace hK:Blk w1 gK 35 [.string a,.string b,.string c,.string d]:=hK;have HGK:=Lib.hid hgK;clear hgK HG1 HG2 HG3;have HWQ:Hid (w.heap.size≤gQ):=by have:=HGW.out;rw [Hid];omega
 have hN:=Blk.new w1 #[.bool vn,.string va,.bool rn,.string ra] 39;have hbN:=b1 w1 (.cells #[.bool vn,.string va,.bool rn,.string ra] 39);obtain ⟨hKc0,hKf0,hKc1,hKf1,hKc2,hKf2,hKc3,hKf3⟩:=hK.x4;obtain ⟨hOc0,hOf0,hOc1,hOf1,hOc2,hOf2,hOc3,hOf3⟩:=hO.x4;go_wp2_with fail
 refine (HFM.out _ _ (by first | exact os_blk1 hN | exact os_blk1 (hN.drew))).mono ?_;rintro e w2 ⟨rfl,hb⟩;clear hKc0 hKf0 hKc1 hKf1 hKc2 hKf2 hKc3 hKf3;clear hOc0 hOf0 hOc1 hOf1 hOc2 hOf2 hOc3 hOf3;have hb2:=bt hbN hb;replace hK:=hK.after hb2;replace hO:=hO.after hb2;replace hT:=hT.after hb2;replace hQ:=hQ.after hb2;replace hV1:=SsAt.after hV1 hb2;replace hBW:=bt hBW hb2;clear hN hbN hb hb2 HFM;have hQl:=hQ.lt;cases fm
 case false =>
  have HX:=Lib.hid (HBAD.out rfl);clear hK hO hT hV1;obtain ⟨hQc0,hQf0,hQc1,hQf1,hQc2,hQf2⟩:=hQ.x3;go_wp2;refine bodyPost_ret (v:=.tuple #[.slice none 0 0,.slice none 0 0,.agg #[.slice none 0 0,.string ⟨#[]⟩,.int .i64 0],.int .i64 3]) ?_ rfl ?_
  ·simp [results,Tryz.results13,go_sem,hQc0,hQc1,hQc2,hQl]
  ·rw [HX.out];exact PrPost.err (((hBW.setCell HWQ.out _).setCell HWQ.out _).setCell HWQ.out _)
 case true =>
  obtain ⟨hTc0,hTf0,hTc1,hTf1,hTc2,hTf2⟩:=hT.x3;go_wp2_with fail
  refine (HTP.out _ _ hV1).mono ?_;rintro e w3 ⟨rfl,hb⟩;clear hTc0 hTf0 hTc1 hTf1 hTc2 hTf2;replace hK:=hK.after hb;replace hO:=hO.after hb;replace hT:=hT.after hb;replace hQ:=hQ.after hb;replace hV1:=SsAt.after hV1 hb;replace hBW:=bt hBW hb;clear hb HTP hQl;have hQl:=hQ.lt;cases tg
  case false =>
   have HX:=Lib.hid (HBAD.out rfl);clear hK hO hT hV1;obtain ⟨hQc0,hQf0,hQc1,hQf1,hQc2,hQf2⟩:=hQ.x3;go_wp2;refine bodyPost_ret (v:=.tuple #[.slice none 0 0,.slice none 0 0,.agg #[.slice none 0 0,.string ⟨#[]⟩,.int .i64 0],.int .i64 3]) ?_ rfl ?_
   ·simp [results,Tryz.results13,go_sem,hQc0,hQc1,hQc2,hQl]
   ·rw [HX.out];exact PrPost.err (((hBW.setCell HWQ.out _).setCell HWQ.out _).setCell HWQ.out _)
  case true =>
   clear HBAD;obtain ⟨wn,hwn⟩:∃n,n=(rdyE a b c d lo hi).1:=⟨_,rfl⟩;obtain ⟨we,hwe⟩:∃n,n=(rdyE a b c d lo hi).2:=⟨_,rfl⟩;rw [←hwn,←hwe] at HRD;have HWN:=Lib.hid hwn;have HWE:=Lib.hid hwe;clear hwn hwe;obtain ⟨hKc0,hKf0,hKc1,hKf1,hKc2,hKf2,hKc3,hKf3⟩:=hK.x4;go_wp2_with fail
   refine (HRD.out _).mono ?_;rintro e w4 ⟨rfl,hb⟩;clear hKc0 hKf0 hKc1 hKf1 hKc2 hKf2 hKc3 hKf3;replace hK:=hK.after hb;replace hO:=hO.after hb;replace hT:=hT.after hb;replace hQ:=hQ.after hb;replace hV1:=SsAt.after hV1 hb;replace hBW:=bt hBW hb;clear hb HRD hQl;have hW:=Blk.new w4 #[.int .i64 (wn:Int)] 3;have hbN:=b1 w4 (.cells #[.int .i64 (wn:Int)] 3);go_upto_region 4 with fail
   obtain ⟨gW,hgW⟩:∃g,g=w4.heap.size:=⟨_,rfl⟩;have hgQW:gQ<gW:=by rw [hgW];exact hQ.lt
   rw [←hgW] at hW ⊢;replace hK:=hK.after hbN;replace hO:=hO.after hbN;replace hT:=hT.after hbN;replace hQ:=hQ.after hbN;replace hV1:=SsAt.after hV1 hbN;replace hBW:=bt hBW hbN;generalize w4.alloc (.cells #[.int .i64 (wn:Int)] 3)=w5 at hW hK hO hT hQ hV1 hBW ⊢;replace hW:Blk w5 gW 3 [.int .i64 (wn:Int)]:=hW;clear hgW hbN;have hQl:=hQ.lt;by_cases h0:we=0
   case neg =>
    have hkb:((we:Int) != 0)=true:=by rw [bne_iff_ne];omega
    have HX:Hid (R=⟨we,[],[],Tp.nil⟩):=by
     rw [Hid,HR.out,rgR,←HFT.out.1,←HFT.out.2,if_neg (by decide),←HWE.out,if_pos h0]
    clear h0 hK hO hT hV1 hW;obtain ⟨hQc0,hQf0,hQc1,hQf1,hQc2,hQf2⟩:=hQ.x3;go_wp2;refine bodyPost_ret (v:=.tuple #[.slice none 0 0,.slice none 0 0,.agg #[.slice none 0 0,.string ⟨#[]⟩,.int .i64 0],.int .i64 (we:Int)]) ?_ rfl ?_
    ·simp [results,Tryz.results13,go_sem,hQc0,hQc1,hQc2,hQl]
    ·rw [HX.out];exact PrPost.err (((hBW.setCell HWQ.out _).setCell HWQ.out _).setCell HWQ.out _)
   case pos =>
    subst h0;obtain ⟨s1,s2,s3,s4,s5,s6⟩:=HSZ.out;have hvo:(vlO ⟨vn,va,rn,ra⟩&&vl4 a b c d)=true:=HFT.out.1.symm;have htg:T.good=true:=HFT.out.2.symm;rw [Bool.and_eq_true] at hvo;obtain ⟨p,q,g,h,rfl,rfl,rfl,rfl,hp,hq,h2,hgb,hhb,he,hle,hwE,hw32⟩:=rg_facts hvo.2 s1 s2 s3 s4 HWE.out.symm;obtain ⟨x,y,rfl,rfl,hx,hy⟩:=vlO_E hvo.1 s5 s6;have hRE:=rgR_E (att:=att) (HFT.out.1.symm) htg HWE.out.symm;rw [←HR.out,←HWN.out] at hRE;rw [←HWN.out] at hwE;obtain ⟨D,hD⟩:∃D:Nat,(D:Int)=hi-lo:=⟨(hi-lo).toNat,by omega⟩;have hDn:(hi-lo).toNat=D:=by omega
    rw [hDn] at hwE hw32;rw [←hwE] at hw32;have hD2:D<2^wn:=by rw [hwE];exact lt_nb D
    have hD3:D<4294967296:=Nat.lt_of_lt_of_le hD2 (Nat.pow_le_pow_right (by decide) hw32);have HWD:Hid (wn≤32∧D<2^wn∧D<4294967296):=⟨hw32,hD2,hD3⟩;have HPQ:Hid (p<256^8∧q<256^8∧2≤q∧g<256^100∧h<256^100∧pedE p q g h=0):=⟨hp,hq,h2,hgb,hhb,he⟩;have HTG:Hid (T.good=true):=htg;have HLE:Hid (lo≤hi∧(D:Int)=hi-lo):=⟨hle,hD⟩;have HXY:Hid (x<256^16∧y<256^16):=⟨hx,hy⟩;have HRE:Hid (R=if (vn || decide (q≤x) || (rn || decide (q≤y)))=true then ⟨2,[],[],Tp.nil⟩ else if wn=0 then ⟨0,[],[],T⟩ else rgS att p g h q (dstE q lo hi x).1 (othE lo hi (dstE q lo hi x)) T wn):=hRE;clear HSZ HFT HR HWN HWE s1 s2 s3 s4 s5 s6 hvo htg hp hq h2 hgb hhb he hle hwE hw32 hx hy hRE hD hDn hD2 hD3;have hOl:=hO.lt;obtain ⟨hOc0,hOf0,hOc1,hOf1,hOc2,hOf2,hOc3,hOf3⟩:=hO.x4;have hS:=Blk.new w5 #[.bool vn,.string (E x),.bool rn,.string (E y)] 37;have hbN:=b1 w5 (.cells #[.bool vn,.string (E x),.bool rn,.string (E y)] 37);go_upto_region 7 with fail
    clear hOc0 hOf0 hOc1 hOf1 hOc2 hOf2 hOc3 hOf3;obtain ⟨gS,hgS⟩:∃g,g=w5.heap.size:=⟨_,rfl⟩;rw [←hgS] at hS ⊢;replace hK:=hK.after hbN;replace hO:=hO.after hbN;replace hT:=hT.after hbN;replace hQ:=hQ.after hbN;replace hW:=hW.after hbN;replace hV1:=SsAt.after hV1 hbN;replace hBW:=bt hBW hbN;clear hQl hOl;generalize w5.alloc (.cells #[.bool vn,.string (E x),.bool rn,.string (E y)] 37)=w6 at hS hK hO hT hQ hW hV1 hBW ⊢;replace hS:Blk w6 gS 37 [.bool vn,.string (E x),.bool rn,.string (E y)]:=hS;clear hgS hbN;have hSI:IsAt w6 (.slice (some ⟨gS,0,none⟩) 2 2) [(vn,E x),(rn,E y)]:=is_blk _ rfl hS
    have HXS:Hid (∀k (hk:k<[(vn,E x),(rn,E y)].length),∃b n,[(vn,E x),(rn,E y)][k]=(b,E n)∧n<256^16∧((b=true∨q≤n)→R=⟨2,[],[],Tp.nil⟩)∧(b=false∧n<q→((1≤k→vn=false∧x<q)∧(2≤k→rn=false∧y<q))→((1≤k+1→vn=false∧x<q)∧(2≤k+1→rn=false∧y<q)))):=by
     intro k hk;have hk:k<2:=hk;obtain rfl | rfl:k=0∨k=1:=by omega
     ·refine ⟨vn,x,rfl,HXY.out.1,fun hb=>?_,fun hg _=>⟨fun _=>hg,fun h9=>by omega⟩⟩;rw [HRE.out,if_pos];rcases hb with rfl | hb
      ·rfl
      ·rw [decide_eq_true hb];simp
     ·refine ⟨rn,y,rfl,HXY.out.2,fun hb=>?_,fun hg h9=>⟨fun _=>h9.1 (by omega),fun _=>hg⟩⟩;rw [HRE.out,if_pos];rcases hb with rfl | hb
      ·simp
      ·rw [decide_eq_true hb];simp
    obtain ⟨XS,hXS⟩:∃XS,XS=[(vn,E x),(rn,E y)]:=⟨_,rfl⟩;have hXl:XS.length=2:=by rw [hXS];rfl
    rw [←hXS] at hSI HXS;obtain ⟨aS,haS⟩:∃a,a=some (⟨gS,0,none⟩:Addr):=⟨_,rfl⟩;rw [←haS] at hSI ⊢;clear hXS haS hS;go_loopw [55] (fun i wr=>∃k:Nat,k≤2∧i=.int .i64 k∧Hid ((1≤k→vn=false∧x<q)∧(2≤k→rn=false∧y<q))∧Below w6.heap.size w6 wr) (fun i _=>2-(intOf i).toNat)
    case atStart=>exact ⟨0,by omega,rfl,⟨fun h9=>by omega,fun h9=>by omega⟩,Below.refl _ _⟩
    case round =>
     obtain ⟨k,hk,rfl,HG,hbr⟩:=hrel;obtain ⟨wp,hwp⟩:∃wp,wp=wr:=⟨_,rfl⟩;subst hwp;replace hK:=hK.after hbr;replace hO:=hO.after hbr;replace hT:=hT.after hbr;replace hQ:=hQ.after hbr;replace hW:=hW.after hbr;replace hV1:=SsAt.after hV1 hbr;have hSp:=IsAt.after hSI hbr;replace hBW:=bt hBW hbr;by_cases hlt:k<2
     ·have hkl:k<XS.length:=by rw [hXl];exact hlt
      obtain ⟨bb,o,rfl,hbb,x1,x2⟩:=IsAt.at_ hSp hkl;obtain ⟨bk,nk,hek,hnk,hbad,hgood⟩:=HXS.out k hkl;have HBD:=Lib.hid hbad;have HGO:=Lib.hid hgood;have h0k:(0:Int)≤(k:Int):=by omega
      have h1k:(k:Int)<2:=by omega
      have HC:Hid (∀w:World,Calls Tryz.prog 32 #[.string (E nk),.string (E q)] w fun e w'=>e=.returned (.int .i64 (cmpN nk q))∧w=w'):=fun w=>cmp_c nk q w (Nat.lt_of_lt_of_le hnk (Nat.pow_le_pow_right (by decide) (by decide))) (Nat.lt_of_lt_of_le HPQ.out.2.1 (Nat.pow_le_pow_right (by decide) (by decide)))
      rw [hek] at x1 x2;have x1:wp.cell? ⟨bb,o+k*2,none⟩=some (.bool bk):=x1;have x2:wp.cell? ⟨bb,o+k*2+1,none⟩=some (.string (E nk)):=x2;clear hek hnk hbad hgood hSp;have hX:=Blk.new wp #[.bool bk,.string (E nk)] 37;have hbX:=b1 wp (.cells #[.bool bk,.string (E nk)] 37);have hXl2:=hX.lt;replace hK:=hK.after hbX;replace hO:=hO.after hbX;replace hT:=hT.after hbX;replace hQ:=hQ.after hbX;replace hW:=hW.after hbX;replace hV1:=SsAt.after hV1 hbX;replace hBW:=bt hBW hbX;have hbn:=bt hbr hbX;have hQl:=hQ.lt;cases bk
      case true =>
       have HX:Hid (R=⟨2,[],[],Tp.nil⟩):=HBD.out (.inl rfl);clear hK hO hT hV1 hW;obtain ⟨hXc0,hXf0,hXc1,hXf1⟩:=hX.x2;obtain ⟨hQc0,hQf0,hQc1,hQf1,hQc2,hQf2⟩:=hQ.x3;go_wp2;refine bodyPost_ret (v:=.tuple #[.slice none 0 0,.slice none 0 0,.agg #[.slice none 0 0,.string ⟨#[]⟩,.int .i64 0],.int .i64 2]) ?_ rfl ?_
       ·simp [results,Tryz.results13,go_sem,hQc0,hQc1,hQc2,hQl]
       ·rw [HX.out];exact PrPost.err (((hBW.setCell HWQ.out _).setCell HWQ.out _).setCell HWQ.out _)
      case false =>
       have hKl:=hK.lt;obtain ⟨hXc0,hXf0,hXc1,hXf1⟩:=hX.x2;obtain ⟨hKc0,hKf0,hKc1,hKf1,hKc2,hKf2,hKc3,hKf3⟩:=hK.x4;go_wp2_with fail
       refine (HC.out _).mono ?_;rintro e w7 ⟨rfl,rfl⟩;clear hXc0 hXf0 hXc1 hXf1;clear hKc0 hKf0 hKc1 hKf1 hKc2 hKf2 hKc3 hKf3;by_cases hge:q≤nk
       case pos =>
        have hcb:=cmpN_ge hge;have HX:Hid (R=⟨2,[],[],Tp.nil⟩):=HBD.out (.inr hge);clear hK hO hT hV1 hW;obtain ⟨hQc0,hQf0,hQc1,hQf1,hQc2,hQf2⟩:=hQ.x3;go_wp2;refine bodyPost_ret (v:=.tuple #[.slice none 0 0,.slice none 0 0,.agg #[.slice none 0 0,.string ⟨#[]⟩,.int .i64 0],.int .i64 2]) ?_ rfl ?_
        ·simp [results,Tryz.results13,go_sem,hQc0,hQc1,hQc2,hQl]
        ·rw [HX.out];exact PrPost.err (((hBW.setCell HWQ.out _).setCell HWQ.out _).setCell HWQ.out _)
       case neg =>
        have hcb:=cmpN_lt (a:=nk) (b:=q) (by omega);have HN:Hid ((1≤k+1→vn=false∧x<q)∧(2≤k+1→rn=false∧y<q)):=HGO.out ⟨by trivial,by omega⟩ HG.out;go_wp2;go_roundw
        case rel=>exact ⟨k+1,by omega,by go_num,HN,hbn⟩
        case measure=>simp [intOf];omega
     ·obtain rfl:k=2:=by omega
      have hxq:=(HG.out.1 (by omega));have hyq:=(HG.out.2 (by omega))
      have HR2:Hid (R=if wn=0 then ⟨0,[],[],T⟩ else rgS att p g h q (dstE q lo hi x).1 (othE lo hi (dstE q lo hi x)) T wn):=by
       rw [Hid,HRE.out,hxq.1,hyq.1,decide_eq_false (by omega),decide_eq_false (by omega)];rfl
      have HXQ:=Lib.hid hxq.2;clear hxq hyq HG HRE HXS HXY hSI hSp hbr hlt;have HDS:Hid (∀w:World,Calls Tryz.prog 33 #[.agg #[.string (E p),.string (E q),.string (E g),.string (E h)],.int .i64 lo,.int .i64 hi,.string (E x)] w fun e w'=>e=.returned (.tuple #[.int .i64 ((dstE q lo hi x).1:Int),.bool (dstE q lo hi x).2])∧Below w.heap.size w w'):=fun w=>dist_c p q g h x lo hi w HPQ.out.2.1 (by have:=HPQ.out.2.2.1;omega) HXQ.out HLH.out.1 HLH.out.2.1 HLE.out.1 (by have:=HLE.out.2;have:=HWD.out.2.2;omega)
      have hdl:=@dst_le q x lo hi;have hDn:(hi-lo).toNat=D:=by have:=HLE.out.2;omega
      have HOB:Hid (((dstE q lo hi x).2=true→othE lo hi (dstE q lo hi x)=D-(dstE q lo hi x).1)∧((dstE q lo hi x).2=false→othE lo hi (dstE q lo hi x)=0)):=by
       unfold othE;exact ⟨fun h=>by rw [if_pos h,hDn],fun h=>by rw [if_neg (by rw [h];decide)]⟩
      rw [hDn] at hdl;obtain ⟨oB,hoB⟩:∃n,n=othE lo hi (dstE q lo hi x):=⟨_,rfl⟩;rw [←hoB] at HOB HR2;obtain ⟨dA,hdA⟩:∃n,n=(dstE q lo hi x).1:=⟨_,rfl⟩;obtain ⟨ins,hins⟩:∃n,n=(dstE q lo hi x).2:=⟨_,rfl⟩;rw [←hins,←hdA] at HDS;rw [←hins,←hdA] at HOB hdl;rw [←hdA] at HR2;have HDL:=Lib.hid hdl
      have hoBD:oB≤D:=by
       cases ins
       ·rw [HOB.out.2 rfl];omega
       ·rw [HOB.out.1 rfl];omega
      have HOD:Hid (oB<2^wn∧dA<2^wn):=⟨Nat.lt_of_le_of_lt hoBD HWD.out.2.1,Nat.lt_of_le_of_lt hdl.1 HWD.out.2.1⟩;clear hdA hins hoB hdl hoBD hDn;obtain ⟨hKc0,hKf0,hKc1,hKf1,hKc2,hKf2,hKc3,hKf3⟩:=hK.x4;obtain ⟨hOc0,hOf0,hOc1,hOf1,hOc2,hOf2,hOc3,hOf3⟩:=hO.x4;go_wp2_with fail
      refine (HDS.out _).mono ?_;rintro e w7 ⟨rfl,hb⟩;clear hKc0 hKf0 hKc1 hKf1 hKc2 hKf2 hKc3 hKf3;clear hOc0 hOf0 hOc1 hOf1 hOc2 hOf2 hOc3 hOf3;clear hO;replace hK:=hK.after hb;replace hT:=hT.after hb;replace hQ:=hQ.after hb;replace hW:=hW.after hb;replace hV1:=SsAt.after hV1 hb;replace hBW:=bt hBW hb;clear hb HDS HXQ;go_upto_if 82 with fail
      go_cut [20] (fun s20 wx=>s20=.int .i64 (oB:Int)∧wx=w7)
      case first =>
       have hwr1:IntKind.wrap .i64 (hi-lo)=(D:Int):=by
        rw [←HLE.out.2,IntKind.wrap_i64];have:=HWD.out.2.2;omega
       have hwr2:IntKind.wrap .i64 ((D:Int)-(dA:Int))=((D-dA:Nat):Int):=by
        rw [IntKind.wrap_i64];have:=HWD.out.2.2;have:=HDL.out.1;omega
       have hwr3:IntKind.wrap .i64 (hi-lo-(dA:Int))=((D-dA:Nat):Int):=by rw [←HLE.out.2,hwr2]
       cases ins
       ·have hoz:=HOB.out.2 rfl;subst hoz;go_wp2;go_meet
        exact ⟨rfl,rfl⟩
       ·have hoz:=HOB.out.1 rfl;subst hoz;go_wp2;go_meet
        exact ⟨by first | rfl | simp only [hwr1,hwr2,hwr3],rfl⟩
      case rest =>
       obtain ⟨hs20,rfl⟩:=hcut;subst hs20;have hmf:∀(fn:Fn) (first cap:Array Value) (w:World),(Instr.makeFunc fn first cap).run Tryz.prog w=.ok (.func fn first cap) w:=fun _ _ _ _=>rfl
       go_upto_region 20 with fail
       have hP:=blk2a wc #[.slice none 0 0] #[.slice none 0 0] 40 43;have hV:=blk2b wc #[.slice none 0 0] #[.slice none 0 0] 40 43;have hbN:=b2 wc (.cells #[.slice none 0 0] 40) (.cells #[.slice none 0 0] 43);obtain ⟨gV,hgV⟩:∃g,wc.heap.size+1=g:=⟨_,rfl⟩;rw [hgV];obtain ⟨gP,hgP⟩:∃g,wc.heap.size=g:=⟨_,rfl⟩;rw [hgP];rw [hgP] at hP;replace hP:Blk _ gP 40 [.slice none 0 0]:=hP;replace hV:Blk _ gV 43 [.slice none 0 0]:=hgV ▸ hV;have HGV:Hid (w.heap.size≤gP∧w.heap.size≤gV∧gP<gV∧gQ<gP):=by have:=hBW.size;have:=hQ.lt;rw [Hid];omega
       replace hK:=hK.after hbN;replace hT:=hT.after hbN;replace hQ:=hQ.after hbN;replace hW:=hW.after hbN;replace hV1:=SsAt.after hV1 hbN;replace hBW:=bt hBW hbN;generalize (wc.alloc (.cells #[.slice none 0 0] 40)).alloc (.cells #[.slice none 0 0] 43)=w8 at hP hV hK hT hQ hW hV1 hBW ⊢;clear hgV hgP hbN HOB HDL hFT;obtain ⟨S1,hS1⟩:∃S,S=splN att p g h q (dgs dA wn) T wn:=⟨_,rfl⟩;obtain ⟨S2,hS2⟩:∃S,S=splN att p g h q (dgs oB wn) (T.on wn) wn:=⟨_,rfl⟩;have HS1:=Lib.hid hS1;have HS2:=Lib.hid hS2
       have HR3:Hid (R=if S1.err≠0 then ⟨S1.err,[],[],Tp.nil⟩ else if S2.err≠0 then ⟨S2.err,[],[],Tp.nil⟩ else ⟨0,S1.parts++S2.parts,S1.ops++S2.ops,T.on (wn+wn)⟩):=by
        rw [Hid,HR2.out];by_cases hz:wn=0
        ·subst hz;rw [if_pos rfl,hS1,hS2,splN_zero,splN_zero,if_neg (fun h=>h rfl),if_neg (fun h=>h rfl)];rw [show (0:Nat)+0=0 by rfl,Tp.on_zero];rfl
        ·rw [if_neg hz,hS1,hS2];rfl
       clear hS1 hS2 HR2
       have HFK0:Hid (∀k:Nat,k<2→∀L M,((k=0→L=[]∧M=[])∧(k=1→S1.err=0∧L=S1.parts∧M=S1.ops)∧(k=2→S1.err=0∧S2.err=0∧L=S1.parts++S2.parts∧M=S1.ops++S2.ops))→∃xv:Nat,xv<2^wn∧(∀w,(Instr.index 80 (Value.agg #[Value.int .i64 (dA:Int),.int .i64 (oB:Int)]) (.int .i64 (k:Int))).run Tryz.prog w=.ok (.int .i64 (xv:Int)) w)∧(T.on (k*wn)).good=true∧((splN att p g h q (dgs xv wn) (T.on (k*wn)) wn).err≠0→R=⟨(splN att p g h q (dgs xv wn) (T.on (k*wn)) wn).err,[],[],Tp.nil⟩) ∧
         ((splN att p g h q (dgs xv wn) (T.on (k*wn)) wn).err=0→∀L' M',L'=L++(splN att p g h q (dgs xv wn) (T.on (k*wn)) wn).parts→M'=M++(splN att p g h q (dgs xv wn) (T.on (k*wn)) wn).ops→((k+1=0→L'=[]∧M'=[])∧(k+1=1→S1.err=0∧L'=S1.parts∧M'=S1.ops)∧(k+1=2→S1.err=0∧S2.err=0∧L'=S1.parts++S2.parts∧M'=S1.ops++S2.ops)))):=by
        intro k hk L M hL;obtain rfl | rfl:k=0∨k=1:=by omega
        ·refine ⟨dA,HOD.out.2,fun _=>rfl,?_,?_,?_⟩
         ·rw [Nat.zero_mul,Tp.on_zero];exact HTG.out
         ·rw [Nat.zero_mul,Tp.on_zero,←HS1.out];intro h9;rw [HR3.out,if_pos h9]
         ·rw [Nat.zero_mul,Tp.on_zero,←HS1.out];rintro h9 L' M' rfl rfl;refine ⟨fun h8=>by omega,fun _=>⟨h9,?_,?_⟩,fun h8=>by omega⟩
          ·rw [(hL.1 rfl).1];rfl
          ·rw [(hL.1 rfl).2];rfl
        ·have h1:=hL.2.1 rfl;refine ⟨oB,HOD.out.1,fun _=>rfl,?_,?_,?_⟩
         ·rw [Nat.one_mul];have h5:=splN_cases att p g h q (dgs dA wn) T wn;rw [←HS1.out] at h5;rcases h5 with ⟨_,_,h6⟩ | ⟨h6,_⟩
          ·exact good_all HOK.out.n HTG.out wn h6
          ·exact absurd h1.1 h6
         ·rw [Nat.one_mul,←HS2.out];intro h9;rw [HR3.out,if_neg (by rw [h1.1];decide),if_pos h9]
         ·rw [Nat.one_mul,←HS2.out];rintro h9 L' M' rfl rfl;refine ⟨fun h8=>by omega,fun h8=>by omega,fun _=>⟨h1.1,h9,?_,?_⟩⟩
          ·rw [h1.2.1]
          ·rw [h1.2.2]
       obtain ⟨FK,hFK⟩:∃F:Nat→List Nat→List (Nat × Nat)→Prop,F=fun k L M=>((k=0→L=[]∧M=[])∧(k=1→S1.err=0∧L=S1.parts∧M=S1.ops)∧(k=2→S1.err=0∧S2.err=0∧L=S1.parts++S2.parts∧M=S1.ops++S2.ops)):=⟨_,rfl⟩
       have HFK:Hid (∀k:Nat,k<2→∀L M,FK k L M→∃xv:Nat,xv<2^wn∧(∀w,(Instr.index 80 (Value.agg #[Value.int .i64 (dA:Int),.int .i64 (oB:Int)]) (.int .i64 (k:Int))).run Tryz.prog w=.ok (.int .i64 (xv:Int)) w)∧(T.on (k*wn)).good=true∧((splN att p g h q (dgs xv wn) (T.on (k*wn)) wn).err≠0→R=⟨(splN att p g h q (dgs xv wn) (T.on (k*wn)) wn).err,[],[],Tp.nil⟩) ∧
         ((splN att p g h q (dgs xv wn) (T.on (k*wn)) wn).err=0→FK (k+1) (L++(splN att p g h q (dgs xv wn) (T.on (k*wn)) wn).parts) (M++(splN att p g h q (dgs xv wn) (T.on (k*wn)) wn).ops))):=by
        rw [hFK];intro k hk L M hL;obtain ⟨xv,e1,e2,e3,e4,e5⟩:=HFK0.out k hk L M hL;exact ⟨xv,e1,e2,e3,e4,fun h9=>e5 h9 _ _ rfl rfl⟩
       have HF0:Hid (FK 0 [] []):=by rw [hFK];exact ⟨fun _=>⟨rfl,rfl⟩,fun h8=>by omega,fun h8=>by omega⟩
       have HF2:Hid (∀L M,FK 2 L M→R=⟨0,L,M,T.on (wn+wn)⟩):=by
        rw [hFK];intro L M hL;obtain ⟨e1,e2,e3,e4⟩:=hL.2.2 rfl;rw [HR3.out,if_neg (by rw [e1];decide),if_neg (by rw [e2];decide),e3,e4]
       clear hFK HFK0 HR3 HS1 HS2;go_loopw [92] (fun i wr=>∃(k:Nat) (uo:Option Addr) (um uc:Nat) (u vO:Value) (L:List Nat) (M:List (Nat × Nat)),k≤2∧i=.int .i64 k∧Hid (FK k L M)∧Blk wr gT 42 [.slice uo um uc,.string T.seed,.int .i64 (T.pos+((k*wn:Nat):Int))]∧Blk wr gP 40 [u]∧Blk wr gV 43 [vO]∧wr.ownsRow w.heap.size 31 1 u (k*wn) (strs L)∧wr.ownsRow w.heap.size 39 4 vO (k*wn) ((M.map nop).flatMap opc)∧SsAt wr (.slice uo um uc) T.vals∧FarS (.slice uo um uc) gQ∧Blk wr gK 35 [.string (E p),.string (E q),.string (E g),.string (E h)]∧Blk wr gW 3 [.int .i64 (wn:Int)]∧Blk wr gQ 42 [.slice none 0 0,.string ⟨#[]⟩,.int .i64 0]∧Below w.heap.size w wr) (fun i _=>2-(intOf i).toNat)
       case atStart=>exact ⟨0,at_,nt,ct,_,_,[],[],by omega,rfl,HF0.out,by rw [Nat.zero_mul,show T.pos+((0:Nat):Int)=T.pos by omega];exact hT,hP,hV,by rw [Nat.zero_mul];exact World.ownsRow_nil _ _ _ _,by rw [Nat.zero_mul];exact World.ownsRow_nil _ _ _ _,hV1,hFQ,hK,hW,hQ,hBW⟩
       case round =>
        clear hP hV hK hT hQ hW hV1 hBW hFQ;obtain ⟨k,uo,um,uc,u,vO,L,M,hk,rfl,HL,hT,hP,hV,hu,hvO,hU,hFQ,hK,hW,hQ,hBW⟩:=hrel;obtain ⟨wq,hwq⟩:∃wq,wq=wr:=⟨_,rfl⟩;subst hwq;by_cases hlt:k<2
        ·obtain ⟨xv,hxv,hix,hgd,hRe,hRo⟩:=HFK.out k hlt L M HL.out;have h0k:(0:Int)≤(k:Int):=by omega
         have h1k:(k:Int)<2:=by omega
         have hkn:k*wn≤100:=by
          have h5:k*wn≤1*32:=Nat.mul_le_mul (by omega) HWD.out.1;omega
         have HH:Hid (Calls Tryz.prog 34 #[.int .i64 (xv:Int),.pointer (some ⟨gW,0,none⟩),.pointer (some ⟨gK,0,none⟩),.pointer (some ⟨gT,0,none⟩),.pointer (some ⟨gP,0,none⟩),.pointer (some ⟨gV,0,none⟩)] wq (HfPostA wq gT gP gV w.heap.size w.heap.size (k*wn) wn u vO (.slice uo um uc) L M (T.on (k*wn)) (splN att p g h q (dgs xv wn) (T.on (k*wn)) wn))):=
          halfA_c att p q g h wn xv (k*wn) (T.on (k*wn)) L M uo um uc u vO gW gK gT gP gV w.heap.size w.heap.size wq (HAT.out.after hBW) (HOK.out.on _) hgd HPQ.out.1 HPQ.out.2.1 HPQ.out.2.2.1 HPQ.out.2.2.2.1 HPQ.out.2.2.2.2.1 HPQ.out.2.2.2.2.2 HWD.out.1 hxv hkn hW hK hT hP hV hu hvO hU (by have:=HGW.out;omega) HGV.out.1 HGV.out.2.1 (Nat.le_refl _) hBW.size
         obtain ⟨Rk,hRk⟩:∃Rk,Rk=splN att p g h q (dgs xv wn) (T.on (k*wn)) wn:=⟨_,rfl⟩;rw [←hRk] at HH hRe hRo;have HRE:=Lib.hid hRe;have HRO:=Lib.hid hRo;have HB0:Hid (w.heap.size≤wq.heap.size):=hBW.size;have HNE:Hid (u.ownBlock≠some gK∧u.ownBlock≠some gW∧u.ownBlock≠some gQ∧vO.ownBlock≠some gK∧vO.ownBlock≠some gW∧vO.ownBlock≠some gQ):=⟨own_ne hu hK (by decide),own_ne hu hW (by decide),own_ne hu hQ (by decide),own_ne hvO hK (by decide),own_ne hvO hW (by decide),own_ne hvO hQ (by decide)⟩;have HNB:Hid ((gK≠gT∧gK≠gP∧gK≠gV)∧(gW≠gT∧gW≠gP∧gW≠gV)∧(gQ≠gT∧gQ≠gP∧gQ≠gV)):=⟨⟨blk_neT' hK hT (by decide),blk_neT' hK hP (by decide),blk_neT' hK hV (by decide)⟩,⟨blk_neT' hW hT (by decide),blk_neT' hW hP (by decide),blk_neT' hW hV (by decide)⟩,by have:=HGW.out;have:=HGV.out;omega⟩;clear hRk hRe hRo hgd hxv hkn hT hP hV hu hvO hU;go_wp2_with fail
         refine HH.out.mono ?_;rintro e w2' ⟨rfl,hb9,hok9,hfr9⟩;obtain ⟨⟨n1,n2,n3⟩,⟨n4,n5,n6⟩,⟨n7,n8,n9⟩⟩:=HNB.out;obtain ⟨m1,m2,m3,m4,m5,m6⟩:=HNE.out;have hK2:=hfr9 _ _ _ hK n1 n2 n3 m1 m4;have hW2:=hfr9 _ _ _ hW n4 n5 n6 m2 m5;have hQ2:=hfr9 _ _ _ hQ n7 n8 n9 m3 m6;have hQl2:=hQ.lt;clear hfr9 HNB HNE n1 n2 n3 n4 n5 n6 n7 n8 n9 m1 m2 m3 m4 m5 m6 hK hW hQ HH HGV HGW;have hBW9:Below w.heap.size w w2':=hBW.trans hb9;clear hBW hb9;by_cases h0:Rk.err=0
         case neg =>
          have hkb:((Rk.err:Int) != 0)=true:=by rw [bne_iff_ne];omega
          have HX:Hid (R=⟨Rk.err,[],[],Tp.nil⟩):=HRE.out h0;obtain ⟨ke,hke⟩:∃k,k=Rk.err:=⟨_,rfl⟩;rw [←hke] at hkb HX ⊢;clear hke h0 hok9 hK2 hW2 hQl2;have hQ:=hQ2;have hBW:=hBW9;have hQl:=hQ.lt;clear hQ2 hBW9;obtain ⟨hQc0,hQf0,hQc1,hQf1,hQc2,hQf2⟩:=hQ.x3;go_wp2;refine bodyPost_ret (v:=.tuple #[.slice none 0 0,.slice none 0 0,.agg #[.slice none 0 0,.string ⟨#[]⟩,.int .i64 0],.int .i64 (ke:Int)]) ?_ rfl ?_
          ·simp [results,Tryz.results13,go_sem,hQc0,hQc1,hQc2,hQl]
          ·rw [HX.out];exact PrPost.err (((hBW.setCell HWQ.out _).setCell HWQ.out _).setCell HWQ.out _)
         case pos =>
          have hkb:((Rk.err:Int) != 0)=false:=by rw [h0];rfl
          obtain ⟨ta,tm,tc,u',v',r1,r2,r3,r4,r5,r6,r7⟩:=hok9 h0;have hL2:=HRO.out h0;have hf2:=r7 gQ hQl2 hFQ;have e1:(k+1)*wn=k*wn+wn:=by rw [Nat.add_mul,Nat.one_mul]
          have HNX:Hid (∃(k':Nat) (uo:Option Addr) (um uc:Nat) (u vO:Value) (L:List Nat) (M:List (Nat × Nat)),k'≤2∧Value.int .i64 ((k:Int)+1)=.int .i64 k'∧Hid (FK k' L M)∧Blk w2' gT 42 [.slice uo um uc,.string T.seed,.int .i64 (T.pos+((k'*wn:Nat):Int))]∧Blk w2' gP 40 [u]∧Blk w2' gV 43 [vO]∧w2'.ownsRow w.heap.size 31 1 u (k'*wn) (strs L)∧w2'.ownsRow w.heap.size 39 4 vO (k'*wn) ((M.map nop).flatMap opc)∧SsAt w2' (.slice uo um uc) T.vals∧FarS (.slice uo um uc) gQ∧Blk w2' gK 35 [.string (E p),.string (E q),.string (E g),.string (E h)]∧Blk w2' gW 3 [.int .i64 (wn:Int)]∧Blk w2' gQ 42 [.slice none 0 0,.string ⟨#[]⟩,.int .i64 0]∧Below w.heap.size w w2'):=by
           refine ⟨k+1,ta,tm,tc,u',v',_,_,by omega,by go_num,hL2,?_,r2,r3,by rw [e1];exact r4,by rw [e1];exact r5,r6,hf2,hK2,hW2,hQ2,hBW9⟩;rw [e1,show T.pos+((k*wn+wn:Nat):Int)=T.pos+((k*wn:Nat):Int)+(wn:Int) by omega];exact r1
          clear r1 r2 r3 r4 r5 r6 r7 hL2 hf2 hok9 hK2 hW2 hQ2 hBW9 hFQ hQl2 HRE HRO;go_wp2;go_roundw
          case rel=>exact HNX.out
          case measure=>simp [intOf];omega
        ·obtain rfl:k=2:=by omega
         have HX:=Lib.hid (HF2.out L M HL.out);clear hK hW HFK HF0 HF2 hlt;have hTl:=hT.lt;have hPl:=hP.lt;have hVl:=hV.lt;have hQl:=hQ.lt;obtain ⟨hTc0,hTf0,hTc1,hTf1,hTc2,hTf2⟩:=hT.x3;obtain ⟨hPc0,hPf0⟩:=hP.x1;obtain ⟨hVc0,hVf0⟩:=hV.x1;clear hPc0 hPf0;clear hVc0 hVf0;clear hPl hVl hTl;obtain ⟨ua,um2,uc2,rfl⟩:=own_sl hu;obtain ⟨va2,vm2,vc2,rfl⟩:=own_sl hvO;have hLl:L.length=2*wn:=by have h5:=hu.1;unfold strs at h5;simp at h5;omega
         have hMl:M.length=2*wn:=by have h5:=hvO.1;rw [ops_len,List.length_map] at h5;omega
         have hTl:=hT.lt;have hPl:=hP.lt;have hVl:=hV.lt;have n1':¬ gT=gQ:=by have:=HGW.out;omega
         have n2':¬ gP=gQ:=by have:=HGV.out;omega
         have n3':¬ gV=gQ:=by have:=HGV.out;omega
         obtain ⟨hPc0,hPf0⟩:=hP.x1;obtain ⟨hVc0,hVf0⟩:=hV.x1;go_upto_region 26 with fail
         obtain ⟨hQc0,hQf0,hQc1,hQf1,hQc2,hQf2⟩:=hQ.x3;go_region;go_wp2;refine bodyPost_ret (v:=.tuple #[.slice ua um2 uc2,.slice va2 vm2 vc2,.agg #[.slice uo um uc,.string T.seed,.int .i64 (T.pos+((2*wn:Nat):Int))],.int .i64 0]) ?_ rfl ?_
         ·simp [results,Tryz.results13,go_sem,hQc0,hQc1,hQc2,hQl]
         ·rw [HX.out];have hnO:=own_ne hu hQ (by decide);have hnP:=own_ne hvO hQ (by decide);refine ⟨_,_,_,rfl,?_,?_,⟨.slice uo um uc,?_,SsAt.after (((hU.set_far hFQ).set_far hFQ).set_far hFQ) (Below.drew (Below.refl _ _))⟩,(((hBW.setCell HWQ.out _).setCell HWQ.out _).setCell HWQ.out _).drew⟩
          ·show World.ownsRow _ _ _ _ _ L.length _;rw [hLl];exact World.ownsRow.drew (own_set (own_set (own_set hu hnO) hnO) hnO)
          ·show World.ownsRow _ _ _ _ _ M.length _;rw [hMl];exact World.ownsRow.drew (own_set (own_set (own_set hvO hnP) hnP) hnP)
          ·rw [show 2*wn=wn+wn by omega];rfl
end Go.Proofs.YtdoacbdkbbpamaaGreatDoor
