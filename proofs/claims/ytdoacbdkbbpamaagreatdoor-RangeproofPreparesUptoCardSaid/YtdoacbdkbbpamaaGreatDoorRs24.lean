/- dominoref23.key,formed;Split: commitments to the digits of a value. -/
import Derived.Test.YtdoacbdkbbpamaaGreatDoorRr24
import Derived.Test.YtdoacbdkbbpamaaGreatDoorSp24
import Derived.Test.YtdoacbdkbbpamaaGreatDoorRf24
set_option linter.unusedVariables false
set_option linter.unusedSimpArgs false
set_option maxRecDepth 100000
set_option maxHeartbeats 16000000
namespace Go.Proofs.YtdoacbdkbbpamaaGreatDoor
open Go.RowKit Go.Shelf
theorem r23key_c (p q g h:Nat) (w:World) (hp:p<256^8) (hq:q<256^8) (h0:0<q) (hgb:g<256^100) (hhb:h<256^100) (he:pedE p q g h=0) :
  Calls Tryz.prog 83 #[.agg #[.string (E p),.string (E q),.string (E g),.string (E h)]] w fun e w'=>e=.returned (.int .i64 0)∧Below w.heap.size w w':=by
 have u128:∀{n:Nat},n<256^100→n<256^128:=fun h=>Nat.lt_of_lt_of_le h (Nat.pow_le_pow_right (by decide) (by decide))
 have HC:Hid (∀w:World,Calls Tryz.prog 80 #[.agg #[.string (E p),.string (E q),.string (E g),.string (E h)]] w fun e w'=>e=.returned (.int .i64 0)∧Below w.heap.size w w'):=fun w=>rpedcheckV_c p q g h 0 w hp (Nat.lt_of_lt_of_le hq (Nat.pow_le_pow_right (by decide) (by decide))) (u128 hgb) (u128 hhb) he
 have hz:=nzE h0;have hz2:=nzE2 h0;clear u128 hp hq h0 hgb hhb he;have hK:=Blk.new w #[.string (E p),.string (E q),.string (E g),.string (E h)] 35;have hBW:=b1 w (.cells #[.string (E p),.string (E q),.string (E g),.string (E h)] 35);obtain ⟨hKc0,hKf0,hKc1,hKf1,hKc2,hKf2,hKc3,hKf3⟩:=hK.x4;go_enter Tryz.func83,Tryz.ntmps83
 go_wp2_with fail
 refine (HC.out _).mono ?_;rintro e w2 ⟨rfl,hb⟩;clear hKc0 hKf0 hKc1 hKf1 hKc2 hKf2 hKc3 hKf3;replace hK:=hK.after hb;replace hBW:=bt hBW hb;clear hb;obtain ⟨hKc0,hKf0,hKc1,hKf1,hKc2,hKf2,hKc3,hKf3⟩:=hK.x4;go_wp2;go_ret
 exact ⟨rfl,hBW⟩
def vS2r (vK vM vT:Value) (y xd ke:Nat) (cs s1 s2:ByteArray):RVB:=fun st i u w=>match i with
 | 0=>u=vK
 | 1=>u=.int .i64 (y:Int)
 | 2=>u=.int .i64 (xd:Int)
 | 3=>u=vM
 | 4=>u=vT
 | 7=>u=.string cs
 | 8=>u=.agg #[.bool false,.string s1,.bool false,.string s2]
 | 10=>u=.int .i64 (ke:Int)
 | 13=>u=.string cs
 | 16=>u=.int .i64 (ke:Int)
 | _=>True
theorem vS2r_any (vK vM vT:Value) (y xd ke:Nat) (cs s1 s2:ByteArray) {l l':List Bool} {w w':World}:∀i u,vS2r vK vM vT y xd ke cs s1 s2 l i u w→vS2r vK vM vT y xd ke cs s1 s2 l' i u w':=by
 intro i u h;unfold vS2r at h ⊢;exact h
theorem rsplit_c (att:Att) (p q g h n v:Nat) (T:Tp) (u:Value) (w:World) (hat:RAtt att T.seed) (hok:T.Ok) (hgd:T.good=true) (hp:p<256^8) (hq:q<256^8) (h2:2≤q) (hgb:g<256^100) (hhb:h<256^100) (he:pedE p q g h=0) (hn:1≤n) (hn2:n≤32) (hv:v<2^n) (hV:SsAt w u T.vals) :
  Calls Tryz.prog 51 #[.agg #[.string (E p),.string (E q),.string (E g),.string (E h)],.int .i64 (n:Int),.int .i64 (v:Int),.agg #[u,.string T.seed,.int .i64 T.pos]] w (PrPostF w (splN att p g h q (dgs v n) T n)):=by
 have u128:∀{n:Nat},n<256^100→n<256^128:=fun h=>Nat.lt_of_lt_of_le h (Nat.pow_le_pow_right (by decide) (by decide))
 have u8:∀{n:Nat},n<256^8→n<256^128:=fun h=>Nat.lt_of_lt_of_le h (Nat.pow_le_pow_right (by decide) (by decide))
 have HFM:Hid (∀w:World,Calls Tryz.prog 82 #[.agg #[.string (E p),.string (E q),.string (E g),.string (E h)]] w fun e w'=>e=.returned (.bool true)∧Below w.heap.size w w'):=fun w=>r23formed_c (E p) (E q) (E g) (E h) true w (sz1000 (u8 hp)) (sz1000 (u8 hq)) (sz1000 (u128 hgb)) (sz1000 (u128 hhb)) (vl4_E (u8 hp) (u8 hq) (u128 hgb) (u128 hhb))
 have HTP:Hid (∀(u:Value) (w':World),SsAt w' u T.vals→Calls Tryz.prog 48 #[.agg #[u,.string T.seed,.int .i64 T.pos]] w' fun e w''=>e=.returned (.bool true)∧Below w'.heap.size w' w''):=fun u w' hu=>by
  have:=rgood_v T u w' hok hu;rwa [hgd] at this
 have HKY:Hid (∀w:World,Calls Tryz.prog 83 #[.agg #[.string (E p),.string (E q),.string (E g),.string (E h)]] w fun e w'=>e=.returned (.int .i64 0)∧Below w.heap.size w w'):=fun w=>r23key_c p q g h w hp hq (by omega) hgb hhb he
 have HRN:Hid (∀(j:Nat) (u:Value) (w':World),j<n→(∀i,i<j→(prC att q T i).1=0)→SsAt w' u T.vals→Calls Tryz.prog 84 #[.agg #[.string (E p),.string (E q),.string (E g),.string (E h)],.agg #[.bool false,.string (E ((dgs v n).getD j 0))],.agg #[u,.string T.seed,.int .i64 (T.pos+(j:Int))]] w' (RnPost w' p g h ((dgs v n).getD j 0) (T.on j) (prC att q T j))):=fun j u w' hj hb0 hu =>
  rrand_c att p q g h ((dgs v n).getD j 0) (T.on j) u w' hat (hok.on j) (good_all hok.n hgd j hb0) hp hq (by omega) hgb hhb (by rw [dgs_at hj];have:=Nat.mod_lt (v / 2^j) (show 0<2 by decide);omega) he hu
 obtain ⟨R,hR⟩:∃R,R=splN att p g h q (dgs v n) T n:=⟨_,rfl⟩;have HR:=Lib.hid hR;rw [←hR];clear hR hat hok hgd hp hq h2 hgb hhb he u128 u8;obtain ⟨at_,ct,rfl⟩:=RAt.form hV;obtain ⟨nt,hnt⟩:∃n,n=T.vals.length:=⟨_,rfl⟩;rw [←hnt] at hV ⊢;clear hnt;have hK:=blk3a w #[.string (E p),.string (E q),.string (E g),.string (E h)] #[.slice at_ nt ct,.string T.seed,.int .i64 T.pos] #[.slice none 0 0,.string ⟨#[]⟩,.int .i64 0] 35 42 42;have hT:=blk3b w #[.string (E p),.string (E q),.string (E g),.string (E h)] #[.slice at_ nt ct,.string T.seed,.int .i64 T.pos] #[.slice none 0 0,.string ⟨#[]⟩,.int .i64 0] 35 42 42;have hQ:=blk3c w #[.string (E p),.string (E q),.string (E g),.string (E h)] #[.slice at_ nt ct,.string T.seed,.int .i64 T.pos] #[.slice none 0 0,.string ⟨#[]⟩,.int .i64 0] 35 42 42;have hBW:=b3 w (.cells #[.string (E p),.string (E q),.string (E g),.string (E h)] 35) (.cells #[.slice at_ nt ct,.string T.seed,.int .i64 T.pos] 42) (.cells #[.slice none 0 0,.string ⟨#[]⟩,.int .i64 0] 42);have hV1:=SsAt.after hV hBW;obtain ⟨gT,hgT⟩:∃g,w.heap.size+1=g:=⟨_,rfl⟩;obtain ⟨gQ,hgQ⟩:∃g,w.heap.size+1+1=g:=⟨_,rfl⟩;have HGW:Hid (w.heap.size<gT∧gT<gQ):=by rw [Hid];omega
 have HG1:=Lib.hid hgT;have HG2:=Lib.hid hgQ;have hFT:FarS (.slice at_ nt ct) gT:=ss_far hV (by omega);have hFQ:FarS (.slice at_ nt ct) gQ:=ss_far hV (by omega);clear hgT hgQ hV;go_enter Tryz.func51,Tryz.ntmps51
 go_upto_region 1 with fail
 rw [HG2.out,HG1.out];replace hT:Blk _ gT 42 [.slice at_ nt ct,.string T.seed,.int .i64 T.pos]:=HG1.out ▸ hT;replace hQ:Blk _ gQ 42 [.slice none 0 0,.string ⟨#[]⟩,.int .i64 0]:=HG2.out ▸ hQ;generalize ((w.alloc (.cells #[.string (E p),.string (E q),.string (E g),.string (E h)] 35)).alloc (.cells #[.slice at_ nt ct,.string T.seed,.int .i64 T.pos] 42)).alloc (.cells #[.slice none 0 0,.string ⟨#[]⟩,.int .i64 0] 42)=w1 at hK hT hQ hBW hV1 ⊢;replace hK:Blk w1 w.heap.size 35 [.string (E p),.string (E q),.string (E g),.string (E h)]:=hK;clear HG1 HG2;obtain ⟨hKc0,hKf0,hKc1,hKf1,hKc2,hKf2,hKc3,hKf3⟩:=hK.x4;obtain ⟨hTc0,hTf0,hTc1,hTf1,hTc2,hTf2⟩:=hT.x3;go_wp2_with fail
 refine (HFM.out _).mono ?_;rintro e w2' ⟨rfl,hb⟩;clear hKc0 hKf0 hKc1 hKf1 hKc2 hKf2 hKc3 hKf3;clear hTc0 hTf0 hTc1 hTf1 hTc2 hTf2;replace hK:=hK.after hb;replace hT:=hT.after hb;replace hQ:=hQ.after hb;replace hV1:=SsAt.after hV1 hb;replace hBW:=bt hBW hb;clear hb;obtain ⟨hKc0,hKf0,hKc1,hKf1,hKc2,hKf2,hKc3,hKf3⟩:=hK.x4;obtain ⟨hTc0,hTf0,hTc1,hTf1,hTc2,hTf2⟩:=hT.x3;go_wp2_with fail
 refine (HTP.out _ _ hV1).mono ?_;rintro e w3' ⟨rfl,hb⟩;clear hKc0 hKf0 hKc1 hKf1 hKc2 hKf2 hKc3 hKf3;clear hTc0 hTf0 hTc1 hTf1 hTc2 hTf2;replace hK:=hK.after hb;replace hT:=hT.after hb;replace hQ:=hQ.after hb;replace hV1:=SsAt.after hV1 hb;replace hBW:=bt hBW hb;clear hb HFM HTP;obtain ⟨hKc0,hKf0,hKc1,hKf1,hKc2,hKf2,hKc3,hKf3⟩:=hK.x4;obtain ⟨hTc0,hTf0,hTc1,hTf1,hTc2,hTf2⟩:=hT.x3;go_wp2_with fail
 refine (HKY.out _).mono ?_;rintro e w4' ⟨rfl,hb⟩;clear hKc0 hKf0 hKc1 hKf1 hKc2 hKf2 hKc3 hKf3;clear hTc0 hTf0 hTc1 hTf1 hTc2 hTf2;replace hK:=hK.after hb;replace hT:=hT.after hb;replace hQ:=hQ.after hb;replace hV1:=SsAt.after hV1 hb;replace hBW:=bt hBW hb;clear hb HKY;obtain ⟨w2,hw2⟩:∃x,x=w4':=⟨_,rfl⟩;subst hw2;have hn0:decide ((n:Int)<0)=false:=decide_eq_false (by omega);have hn32:decide ((32:Int)<(n:Int))=false:=decide_eq_false (by omega);have hv0:decide ((v:Int)<0)=false:=decide_eq_false (by omega);have hn64:(n:Int)≤64:=by omega
 have hn0n:(0:Int)≤(n:Int):=by omega
 have hpw:(2:Nat)^n≤2^32:=Nat.pow_le_pow_right (by decide) hn2;have hpi:((2:Int)^n)=((2^n:Nat):Int):=by simp
 have hun:IntKind.wrap .u64 (n:Int)=(n:Int):=by rw [IntKind.wrap_u64];omega
 have hsh:IntKind.wrap .i64 ((2:Int)^n)=(2:Int)^n:=by rw [hpi];exact wi64 (by omega) (by omega)
 have hsh2:wrap64 ((2:Int)^n)=(2:Int)^n:=by rw [hpi];exact IntWalk.wrap64_in _ (by omega)
 have hsh3:wrap64 ((2:Int)^min n 64)=(2:Int)^n:=by rw [Nat.min_eq_left (by omega)];exact hsh2
 have hvn:decide ((2:Int)^n≤(v:Int))=false:=by rw [hpi];exact decide_eq_false (by omega)
 clear hpi hpw;go_upto_region 13 with fail
 have HDG:Hid (∀j,j<n→(dgs v n).getD j 0=v / 2^j%2):=fun j hj=>dgs_at hj
 obtain ⟨X,hX⟩:∃X,X=dgs v n:=⟨_,rfl⟩;rw [←hX] at HRN HR HDG;have HV2:Hid (v<2^n):=hv;have HN2:Hid (n≤32):=hn2;clear hX hn0 hn32 hn64 hn0n hv0 hun hsh hsh2 hsh3 hvn hv;go_loopw [2,13,14,15] (fun v2 v13 v14 i wr=>∃(k:Nat) (uo:Option Addr) (um uc:Nat),k≤n∧i=.int .i64 k∧v2=.int .i64 ((v / 2^k:Nat):Int)∧Hid (∀j,j<k→(prC att q T j).1=0)∧wr.ownsRow w2.heap.size 31 1 v13 k (strs (prP att p g h q X T k))∧wr.ownsRow w2.heap.size 39 4 v14 k (((prO att q X T k).map nop).flatMap opc)∧Blk wr gT 42 [.slice uo um uc,.string T.seed,.int .i64 (T.pos+(k:Int))]∧Blk wr gQ 42 [.slice none 0 0,.string ⟨#[]⟩,.int .i64 0]∧Blk wr w.heap.size 35 [.string (E p),.string (E q),.string (E g),.string (E h)]∧SsAt wr (.slice uo um uc) T.vals∧FarS (.slice uo um uc) gT∧FarS (.slice uo um uc) gQ∧Hid (k≠0→∀g,g<w.heap.size→FarS (.slice uo um uc) g)∧w2.heap.size≤wr.heap.size∧Below w.heap.size w wr) (fun _ _ _ i _=>n-(intOf i).toNat)
 case atStart=>exact ⟨0,at_,nt,ct,by omega,rfl,by simp,fun j h=>absurd h (Nat.not_lt_zero _),World.ownsRow_nil _ _ _ _,World.ownsRow_nil _ _ _ _,by rw [show T.pos+((0:Nat):Int)=T.pos by omega];exact hT,hQ,hK,hV1,hFT,hFQ,fun h=>absurd rfl h,Nat.le_refl _,hBW⟩
 case round =>
  have HW2:Hid (w.heap.size≤w2.heap.size):=hBW.size;have HGQ2:Hid (gQ<w2.heap.size):=hQ.lt;clear hK hT hQ hV1 hBW hFT hFQ;obtain ⟨k,uo,um,uc,hk,rfl,rfl,HAL,hO,hP,hT,hQ,hK,hU,hFT,hFQ,HFX,hbz,hbr⟩:=hrel;obtain ⟨wp,hwp⟩:∃wp,wp=wr:=⟨_,rfl⟩;subst hwp;by_cases hlt:k<n
  ·have HRC0:=Lib.hid (fun (w':World) (hb:Below wp.heap.size wp w')=>HRN.out k _ w' hlt HAL.out (SsAt.after hU hb));have HSP:=Lib.hid (prP_snoc att p g h q X T k);have HSO:=Lib.hid (prO_snoc att q X T k);have HBD:Hid ((prC att q T k).1≠0→R=⟨(prC att q T k).1,[],[],Tp.nil⟩):=fun e=>HR.out.trans (splN_bad hlt HAL.out e)
   have HGD:Hid ((prC att q T k).1=0→∀j,j<k+1→(prC att q T j).1=0):=fun e j hj=>by
    by_cases ej:j=k
    ·rw [ej];exact e
    ·exact HAL.out j (by omega)
   have HXD:=Lib.hid (HDG.out k hlt);clear HAL;generalize prC att q T k=dk at HRC0 HBD HGD HSP HSO;obtain ⟨ke,xe⟩:=dk;generalize X.getD k 0=xd at HRC0 HSP HSO HXD;have HLP:=Lib.hid (prP_len att p g h q X T k);have HLO:=Lib.hid (prO_len att q X T k);have HSP2:Hid (prP att p g h q X T (k+1)=prP att p g h q X T k++[cmtN p g h xd xe]):=HSP.out;have HSO2:Hid (prO att q X T (k+1)=prO att q X T k++[(xd,xe)]):=HSO.out;clear HSP HSO;generalize prP att p g h q X T k=LP at hO HSP2 HLP;generalize prO att q X T k=LO at hP HSO2 HLO;obtain ⟨T1,hT1⟩:∃t,t=(T.on k).after ke:=⟨_,rfl⟩;obtain ⟨tm,htm⟩:∃m,m=T1.vals.length:=⟨_,rfl⟩;obtain ⟨cs,hcs⟩:∃s,s=if ke=0 then E (cmtN p g h (xd:Int) (xe:Int)) else ⟨#[]⟩:=⟨_,rfl⟩
   obtain ⟨s1,hs1⟩:∃s,s=if ke=0 then E xd else ⟨#[]⟩:=⟨_,rfl⟩
   obtain ⟨s2,hs2⟩:∃s,s=if ke=0 then E xe else ⟨#[]⟩:=⟨_,rfl⟩
   have HRC:Hid (∀w',Below wp.heap.size wp w'→Calls Tryz.prog 84 #[.agg #[.string (E p),.string (E q),.string (E g),.string (E h)],.agg #[.bool false,.string (E xd)],.agg #[.slice uo um uc,.string T.seed,.int .i64 (T.pos+(k:Int))]] w' fun e w''=>∃ta tc,e=.returned (.tuple #[.string cs,.agg #[.bool false,.string s1,.bool false,.string s2],.agg #[.slice ta tm tc,.string T1.seed,.int .i64 T1.pos],.int .i64 (ke:Int)])∧SsAt w'' (.slice ta tm tc) T1.vals∧(∀b,b<w'.heap.size→FarS (.slice ta tm tc) b)∧Below w'.heap.size w' w''):=fun w' hb=>(HRC0.out w' hb).mono (by
    rintro e w'' ⟨t,rfl,⟨u9,rfl,hu9⟩,hf9,hb9⟩;simp only [] at hu9 hf9 ⊢;rw [←hT1] at hu9 hf9 ⊢;obtain ⟨ta,tc,rfl⟩:=RAt.form hu9;rw [←htm] at hu9 hf9 ⊢;refine ⟨ta,tc,?_,hu9,fun b hb'=>hf9.far hb',hb9⟩;by_cases e0:ke=0
    ·rw [hcs,hs1,hs2];simp only [if_pos e0]
    ·rw [hcs,hs1,hs2];simp only [if_neg e0])
   have HT1:=Lib.hid hT1;have HTM:=Lib.hid htm;have HCS:=Lib.hid hcs;have HS1:=Lib.hid hs1;have HS2:=Lib.hid hs2;clear hT1 htm hcs hs1 hs2 HRC0
   have HOF:Hid (∀w:World,Calls Tryz.prog 18 #[.int .i64 (xd:Int)] w fun e w'=>e=.returned (.agg #[.bool false,.string (E xd)])∧Below w.heap.size w w'):=fun w=>by
    have h9:=riof_c (xd:Int) w (by omega) (by have:=HXD.out;have:=Nat.mod_lt (v / 2^k) (show 0<2 by decide);omega);rwa [Int.natAbs_natCast,sg_nat] at h9
   have h0k:(0:Int)≤(k:Int):=by omega
   have h1k:(k:Int)<(n:Int):=by omega
   obtain ⟨y,hy⟩:∃y,y=v / 2^k:=⟨_,rfl⟩;have HY:=Lib.hid hy;rw [←hy] at HXD ⊢;clear hy;go_upto_region 15 with fail
   go_cut [16,17,18,19] (fun s16 s17 s18 s19 wx=>∃(g20 g21:Nat) (ta:Option Addr) (tc:Nat),s16=.string cs∧s17=.pointer (some ⟨g20,0,none⟩)∧s18=.pointer (some ⟨g21,0,none⟩)∧s19=.int .i64 (ke:Int)∧wp.heap.size≤g20∧wp.heap.size≤g21∧Blk wx g20 39 [.bool false,.string s1,.bool false,.string s2]∧Blk wx g21 42 [.slice ta tm tc,.string T1.seed,.int .i64 T1.pos]∧SsAt wx (.slice ta tm tc) T1.vals∧(∀b,b<wp.heap.size→FarS (.slice ta tm tc) b)∧FarS (.slice ta tm tc) g20∧Below wp.heap.size wp wx)
   case first =>
    refine wp_region_invC (vS2r (.agg #[.string (E p),.string (E q),.string (E g),.string (E h)]) (.agg #[.bool false,.string (E xd)]) (.agg #[.slice uo um uc,.string T.seed,.int .i64 (T.pos+(k:Int))]) y xd ke cs s1 s2) [5,6,9,11,12,14,15] wp.heap.size (fun (st:List Bool) t w=>fS2r wp.heap.size cs s1 s2 T1.seed T1.pos ke tm T1.vals (st.getD 0 false) (st.getD 1 false) (st.getD 2 false) (st.getD 3 false) (st.getD 4 false) (st.getD 5 false) (st.getD 6 false) t w) 85 ⟨fun h0=>(by cases h0),fun h0=>(by cases h0),fun h0=>(by cases h0)⟩ (by kernel_rfl) rfl (by kernel_rfl) ?_ ?_ (by kernel_rfl)
    ·intro hsl done a' w' i o hJ ho hun hpre;have hi:=(Array.getElem?_eq_some_iff.1 ho).1;have hst:∀(l:List Bool) (j:Nat) (u:Value) (wa wb:World),Below wa.heap.size wa wb→vS2r (.agg #[.string (E p),.string (E q),.string (E g),.string (E h)]) (.agg #[.bool false,.string (E xd)]) (.agg #[.slice uo um uc,.string T.seed,.int .i64 (T.pos+(k:Int))]) y xd ke cs s1 s2 l j u wa→vS2r (.agg #[.string (E p),.string (E q),.string (E g),.string (E h)]) (.agg #[.bool false,.string (E xd)]) (.agg #[.slice uo um uc,.string T.seed,.int .i64 (T.pos+(k:Int))]) y xd ke cs s1 s2 l j u wb:=fun l j u wa wb _ h=>vS2r_any _ _ _ _ _ _ _ _ _ j u h
     have hFt:∀(st:List Bool) (t:Array Value) (w w':World),Below w.heap.size w w'→(fun (st:List Bool) t w=>fS2r wp.heap.size cs s1 s2 T1.seed T1.pos ke tm T1.vals (st.getD 0 false) (st.getD 1 false) (st.getD 2 false) (st.getD 3 false) (st.getD 4 false) (st.getD 5 false) (st.getD 6 false) t w) st t w→(fun (st:List Bool) t w=>fS2r wp.heap.size cs s1 s2 T1.seed T1.pos ke tm T1.vals (st.getD 0 false) (st.getD 1 false) (st.getD 2 false) (st.getD 3 false) (st.getD 4 false) (st.getD 5 false) (st.getD 6 false) t w) st t w':=fun st t w w' hb h=>fS2r_st hb h
     have hFp:∀(st:List Bool) (t:Array Value) (d:Nat) (v:Value) (w:World),d ∉ [17,18,56,62,65]→(fun (st:List Bool) t w=>fS2r wp.heap.size cs s1 s2 T1.seed T1.pos ke tm T1.vals (st.getD 0 false) (st.getD 1 false) (st.getD 2 false) (st.getD 3 false) (st.getD 4 false) (st.getD 5 false) (st.getD 6 false) t w) st t w→(fun (st:List Bool) t w=>fS2r wp.heap.size cs s1 s2 T1.seed T1.pos ke tm T1.vals (st.getD 0 false) (st.getD 1 false) (st.getD 2 false) (st.getD 3 false) (st.getD 4 false) (st.getD 5 false) (st.getD 6 false) t w) st (t.setIfInBounds d v) w:=fun st t d v w hd h=>fS2r_put hd h
     have hwz:=hJ.bw.size;have hex:fS2r wp.heap.size cs s1 s2 T1.seed T1.pos ke tm T1.vals (done.getD 5 false) (done.getD 6 false) (done.getD 9 false) (done.getD 11 false) (done.getD 12 false) (done.getD 14 false) (done.getD 15 false) a'.tmps w':=hJ.ex;have hKx:=hK.after hJ.bw;have hTx:=hT.after hJ.bw;have hKl:=hKx.lt;have hTl:=hTx.lt;have x0:=hKx.cell 0;have x1:=hKx.cell 1;have x2:=hKx.cell 2;have x3:=hKx.cell 3;have y0:=hTx.cell 0;have y1:=hTx.cell 1;have y2:=hTx.cell 2
     match i,hi,ho,hun,hpre with
      | 0,_,ho,hun,hpre =>
       simp at ho;subst ho;refine hJ.op (d:=57) hsl hst hFt [17,18,56,62,65] hFp (by decide) hwz rfl rfl rfl (by decide) hpre ?_;have q4:=hJ.keep 4 (.pointer (some ⟨w.heap.size,0,none⟩)) rfl (by kernel_rfl);refine wp_val (v:=.agg #[.string (E p),.string (E q),.string (E g),.string (E h)]) (by simp [execOp,q4,go_sem,x0,x1,x2,x3]) rfl
      | 1,_,ho,hun,hpre =>
       simp at ho;subst ho;refine hJ.op (d:=58) hsl hst hFt [17,18,56,62,65] hFp (by decide) hwz rfl rfl rfl (by decide) hpre ?_;have q2:=hJ.keep 2 (.int .i64 (y:Int)) rfl (by kernel_rfl);refine wp_val (v:=.int .i64 (y:Int)) (by simp [execOp,q2,go_sem]) rfl
      | 2,_,ho,hun,hpre =>
       simp at ho;subst ho;refine hJ.op (d:=59) hsl hst hFt [17,18,56,62,65] hFp (by decide) hwz rfl rfl rfl (by decide) hpre ?_;obtain ⟨v58,ev58,hv58⟩:=hJ.dn 1 _ 58 rfl (hpre ⟨1,.data⟩ (by simp) rfl) rfl;have qv58:=eval_of ev58;obtain rfl:v58=.int .i64 (y:Int):=hv58
       refine wp_val (v:=.int .i64 (xd:Int)) (by
        have hm:y<2^63:=by rw [HY.out];exact Nat.lt_of_le_of_lt (Nat.div_le_self _ _) (Nat.lt_of_lt_of_le HV2.out (Nat.pow_le_pow_right (by decide) (by have:=HN2.out;omega)))
        have hr:IntKind.i64.wrap ((y:Int).tmod 2)=((y%2:Nat):Int):=by rw [show (y:Int).tmod 2=((y%2:Nat):Int) from rfl];exact wi64 (by omega) (by omega)
        rw [HXD.out];simp [execOp,ev58,go_sem];first | exact hr | rfl | exact Int.tmod_eq_emod_of_nonneg (by omega)) rfl
      | 3,_,ho,hun,hpre =>
       simp at ho;subst ho;refine hJ.op (d:=60) hsl hst hFt [17,18,56,62,65] hFp (by decide) hwz rfl rfl rfl (by decide) hpre ?_;obtain ⟨v59,ev59,hv59⟩:=hJ.dn 2 _ 59 rfl (hpre ⟨2,.data⟩ (by simp) rfl) rfl;have qv59:=eval_of ev59;obtain rfl:v59=.int .i64 (xd:Int):=hv59;refine wp_callX 18 #[.tmp 59] #[2] rfl (enters_of Tryz.func18 (by kernel_rfl) rfl) ?_;simp only [List.map_toArray,List.map_cons,List.map_nil,qv59];refine (HOF.out w').mono ?_;rintro e w'' ⟨rfl,hb⟩;exact ⟨_,rfl,hb,rfl⟩
      | 4,_,ho,hun,hpre =>
       simp at ho;subst ho;refine hJ.op (d:=61) hsl hst hFt [17,18,56,62,65] hFp (by decide) hwz rfl rfl rfl (by decide) hpre ?_;have q7:=hJ.keep 7 (.pointer (some ⟨gT,0,none⟩)) rfl (by kernel_rfl);refine wp_val (v:=.agg #[.slice uo um uc,.string T.seed,.int .i64 (T.pos+(k:Int))]) (by simp [execOp,q7,go_sem,y0,y1,y2]) rfl
      | 5,_,ho,hun,hpre =>
       simp at ho;subst ho;obtain ⟨v57,ev57,hv57⟩:=hJ.dn 0 _ 57 rfl (hpre ⟨0,.data⟩ (by simp) rfl) rfl;have qv57:=eval_of ev57;obtain ⟨v60,ev60,hv60⟩:=hJ.dn 3 _ 60 rfl (hpre ⟨3,.data⟩ (by simp) rfl) rfl;have qv60:=eval_of ev60;obtain ⟨v61,ev61,hv61⟩:=hJ.dn 4 _ 61 rfl (hpre ⟨4,.data⟩ (by simp) rfl) rfl;have qv61:=eval_of ev61
       have k6:done.getD 6 false=false:=by
        cases a6:done.getD 6 false with
        | false=>rfl
        | true =>
         have a5:=hJ.pr 6 _ rfl a6 ⟨5,.data⟩ (by simp) rfl;rw [hun] at a5;cases a5
       have k9:done.getD 9 false=false:=by
        cases a9:done.getD 9 false with
        | false=>rfl
        | true =>
         have a6:=hJ.pr 9 _ rfl a9 ⟨6,.data⟩ (by simp) rfl;have a5:=hJ.pr 6 _ rfl a6 ⟨5,.data⟩ (by simp) rfl;rw [hun] at a5;cases a5
       have k15:done.getD 15 false=false:=by
        cases a15:done.getD 15 false with
        | false=>rfl
        | true =>
         have a9:=hJ.pr 15 _ rfl a15 ⟨9,.data⟩ (by simp) rfl;have a6:=hJ.pr 9 _ rfl a9 ⟨6,.data⟩ (by simp) rfl;have a5:=hJ.pr 6 _ rfl a6 ⟨5,.data⟩ (by simp) rfl;rw [hun] at a5;cases a5
       have hi5:5<done.size:=by rw [hJ.sz];decide
       obtain rfl:v57=.agg #[.string (E p),.string (E q),.string (E g),.string (E h)]:=hv57;obtain rfl:v60=.agg #[.bool false,.string (E xd)]:=hv60;obtain rfl:v61=.agg #[.slice uo um uc,.string T.seed,.int .i64 (T.pos+(k:Int))]:=hv61;rw [hun,k6,k9,k15] at hex;have hds:62<a'.tmps.size:=by rw [hJ.ts];exact (by decide:62<85)
       refine wpOp_step rfl fun K' hK=>?_
       rw [if_pos (by simp [Region.wanted])];refine Oper.wp_mono (fun a2 w9 hx=>hK a2 w9 ?_) (wp_callX (R:=fun u w9=>∃ta tc,u=.tuple #[.string cs,.agg #[.bool false,.string s1,.bool false,.string s2],.agg #[.slice ta tm tc,.string T1.seed,.int .i64 T1.pos],.int .i64 (ke:Int)]∧SsAt w9 (.slice ta tm tc) T1.vals∧∀b,b<w'.heap.size→FarS (.slice ta tm tc) b) 84 #[.tmp 57,.tmp 60,.tmp 61] #[35,37,42] rfl (enters_of Tryz.func84 (by kernel_rfl) rfl) ?_)
       ·obtain ⟨u,rfl,hb,ta,tc,rfl,hU9,hf9⟩:=hx;refine hJ.put (i:=5) (d:=62) hsl rfl rfl hpre (bt hJ.bw hb) ?_ ?_ trivial
        ·show fS2r _ _ _ _ _ _ _ _ _ ((done.setIfInBounds 5 true).getD 5 false) ((done.setIfInBounds 5 true).getD 6 false) ((done.setIfInBounds 5 true).getD 9 false) ((done.setIfInBounds 5 true).getD 11 false) ((done.setIfInBounds 5 true).getD 12 false) ((done.setIfInBounds 5 true).getD 14 false) ((done.setIfInBounds 5 true).getD 15 false) _ _;simp only [getD_set _ _ _ hi5,Nat.reduceEqDiff,if_true,if_false,k6,k9,k15];exact fS2r_call hds hwz hb hU9 hf9 hex
        ·intro j q9 hq hj hdn u h9;exact vS2r_any _ _ _ _ _ _ _ _ _ j u h9
       ·simp only [List.map_toArray,List.map_cons,List.map_nil,qv57,qv60,qv61];refine (HRC.out w' hJ.bw).mono ?_;rintro e w9 ⟨ta,tc,rfl,hU9,hf9,hb⟩;exact ⟨_,rfl,hb,ta,tc,rfl,hU9,hf9⟩
      | 6,_,ho,hun,hpre =>
       simp at ho;subst ho;obtain ⟨v62,ev62,hv62⟩:=hJ.dn 5 _ 62 rfl (hpre ⟨5,.data⟩ (by simp) rfl) rfl;have qv62:=eval_of ev62
       have k9:done.getD 9 false=false:=by
        cases a9:done.getD 9 false with
        | false=>rfl
        | true =>
         have a6:=hJ.pr 9 _ rfl a9 ⟨6,.data⟩ (by simp) rfl;rw [hun] at a6;cases a6
       have k15:done.getD 15 false=false:=by
        cases a15:done.getD 15 false with
        | false=>rfl
        | true =>
         have a9:=hJ.pr 15 _ rfl a15 ⟨9,.data⟩ (by simp) rfl;have a6:=hJ.pr 9 _ rfl a9 ⟨6,.data⟩ (by simp) rfl;rw [hun] at a6;cases a6
       have hi6:6<done.size:=by rw [hJ.sz];decide
       have a5:=hpre ⟨5,.data⟩ (by simp) rfl;rw [a5,hun,k9,k15] at hex;have hds:56<a'.tmps.size:=by rw [hJ.ts];exact (by decide:56<85)
       refine wpOp_step rfl fun K' hK=>?_
       rw [if_pos (by simp [Region.wanted])];simp [Oper.wp,execOp,ev62,go_sem];have h9:=hJ.put (i:=6) (d:=56) (v:=v62) (w':=w') hsl rfl rfl hpre hJ.bw ?_ ?_ trivial
       ·exact hK _ _ h9
       ·show fS2r _ _ _ _ _ _ _ _ _ ((done.setIfInBounds 6 true).getD 5 false) ((done.setIfInBounds 6 true).getD 6 false) ((done.setIfInBounds 6 true).getD 9 false) ((done.setIfInBounds 6 true).getD 11 false) ((done.setIfInBounds 6 true).getD 12 false) ((done.setIfInBounds 6 true).getD 14 false) ((done.setIfInBounds 6 true).getD 15 false) _ _;simp only [getD_set _ _ _ hi6,Nat.reduceEqDiff,if_true,if_false,a5,k9,k15];exact fS2r_mv hds ev62 hex
       ·intro j q9 hq hj hdn u h9;exact vS2r_any _ _ _ _ _ _ _ _ _ j u h9
      | 9,_,ho,hun,hpre =>
       simp at ho;subst ho
       have k15:done.getD 15 false=false:=by
        cases a15:done.getD 15 false with
        | false=>rfl
        | true =>
         have a9:=hJ.pr 15 _ rfl a15 ⟨9,.data⟩ (by simp) rfl;rw [hun] at a9;cases a9
       have hi9:9<done.size:=by rw [hJ.sz];decide
       have a6:=hpre ⟨6,.data⟩ (by simp) rfl;have a5:=hJ.pr 6 _ rfl a6 ⟨5,.data⟩ (by simp) rfl;rw [a5,a6,hun,k15] at hex;have hds:65<a'.tmps.size:=by rw [hJ.ts];exact (by decide:65<85)
       obtain ⟨ta,tc,_,h56,_⟩:=hex.2.2 rfl;have ev56:=h56 rfl;refine wpOp_step rfl fun K' hK=>?_
       rw [if_pos (by simp [Region.wanted])];simp [Oper.wp,execOp,ev56,go_sem];have h9:=hJ.put (i:=9) (d:=65) (v:=.agg #[.slice ta tm tc,.string T1.seed,.int .i64 T1.pos]) (w':=w') hsl rfl rfl hpre hJ.bw ?_ ?_ trivial
       ·exact hK _ _ h9
       ·show fS2r _ _ _ _ _ _ _ _ _ ((done.setIfInBounds 9 true).getD 5 false) ((done.setIfInBounds 9 true).getD 6 false) ((done.setIfInBounds 9 true).getD 9 false) ((done.setIfInBounds 9 true).getD 11 false) ((done.setIfInBounds 9 true).getD 12 false) ((done.setIfInBounds 9 true).getD 14 false) ((done.setIfInBounds 9 true).getD 15 false) _ _;simp only [getD_set _ _ _ hi9,Nat.reduceEqDiff,if_true,if_false,a5,a6,k15];exact fS2r_ex hds ev56 hex
       ·intro j q9 hq hj hdn u h9;exact vS2r_any _ _ _ _ _ _ _ _ _ j u h9
      | 7,_,ho,hun,hpre =>
       simp at ho;subst ho;refine hJ.op (d:=63) hsl hst hFt [17,18,56,62,65] hFp (by decide) hwz rfl rfl rfl (by decide) hpre ?_;have a6:=hpre ⟨6,.data⟩ (by simp) rfl;have a5:=hJ.pr 6 _ rfl a6 ⟨5,.data⟩ (by simp) rfl;rw [a5,a6] at hex;obtain ⟨ta,tc,_,h56,_⟩:=hex.2.2 rfl;have ev56:=h56 rfl;refine wp_val (v:=.string cs) (by simp [execOp,ev56,go_sem]) rfl
      | 8,_,ho,hun,hpre =>
       simp at ho;subst ho;refine hJ.op (d:=64) hsl hst hFt [17,18,56,62,65] hFp (by decide) hwz rfl rfl rfl (by decide) hpre ?_;have a6:=hpre ⟨6,.data⟩ (by simp) rfl;have a5:=hJ.pr 6 _ rfl a6 ⟨5,.data⟩ (by simp) rfl;rw [a5,a6] at hex;obtain ⟨ta,tc,_,h56,_⟩:=hex.2.2 rfl;have ev56:=h56 rfl;refine wp_val (v:=.agg #[.bool false,.string s1,.bool false,.string s2]) (by simp [execOp,ev56,go_sem]) rfl
      | 10,_,ho,hun,hpre =>
       simp at ho;subst ho;refine hJ.op (d:=66) hsl hst hFt [17,18,56,62,65] hFp (by decide) hwz rfl rfl rfl (by decide) hpre ?_;have a6:=hpre ⟨6,.data⟩ (by simp) rfl;have a5:=hJ.pr 6 _ rfl a6 ⟨5,.data⟩ (by simp) rfl;rw [a5,a6] at hex;obtain ⟨ta,tc,_,h56,_⟩:=hex.2.2 rfl;have ev56:=h56 rfl;refine wp_val (v:=.int .i64 (ke:Int)) (by simp [execOp,ev56,go_sem]) rfl
      | 11,_,ho,hun,hpre =>
       simp at ho;subst ho
       have k14:done.getD 14 false=false:=by
        cases a14:done.getD 14 false with
        | false=>rfl
        | true =>
         have a11:=hJ.pr 14 _ rfl a14 ⟨11,.data⟩ (by simp) rfl;rw [hun] at a11;cases a11
       have hi11:11<done.size:=by rw [hJ.sz];decide
       rw [hun,k14] at hex;have hds:17<a'.tmps.size:=by rw [hJ.ts];exact (by decide:17<85)
       refine wpOp_step rfl fun K' hK=>?_
       rw [if_pos (by simp [Region.wanted])];simp [Oper.wp,execOp,go_sem];have h9:=hJ.put (i:=11) (d:=17) (v:=.pointer (some ⟨w'.heap.size,0,none⟩)) (w':=w'.alloc (.cells #[.bool false,.string ⟨#[]⟩,.bool false,.string ⟨#[]⟩] 39)) hsl rfl rfl hpre (ba hJ.bw _) ?_ ?_ trivial
       ·exact hK _ _ h9
       ·show fS2r _ _ _ _ _ _ _ _ _ ((done.setIfInBounds 11 true).getD 5 false) ((done.setIfInBounds 11 true).getD 6 false) ((done.setIfInBounds 11 true).getD 9 false) ((done.setIfInBounds 11 true).getD 11 false) ((done.setIfInBounds 11 true).getD 12 false) ((done.setIfInBounds 11 true).getD 14 false) ((done.setIfInBounds 11 true).getD 15 false) _ _;simp only [getD_set _ _ _ hi11,Nat.reduceEqDiff,if_true,if_false,k14];exact fS2r_new1 hds hwz hex
       ·intro j q9 hq hj hdn u h9;exact vS2r_any _ _ _ _ _ _ _ _ _ j u h9
      | 12,_,ho,hun,hpre =>
       simp at ho;subst ho
       have k15:done.getD 15 false=false:=by
        cases a15:done.getD 15 false with
        | false=>rfl
        | true =>
         have a12:=hJ.pr 15 _ rfl a15 ⟨12,.data⟩ (by simp) rfl;rw [hun] at a12;cases a12
       have hi12:12<done.size:=by rw [hJ.sz];decide
       rw [hun,k15] at hex;have hds:18<a'.tmps.size:=by rw [hJ.ts];exact (by decide:18<85)
       refine wpOp_step rfl fun K' hK=>?_
       rw [if_pos (by simp [Region.wanted])];simp [Oper.wp,execOp,go_sem];have h9:=hJ.put (i:=12) (d:=18) (v:=.pointer (some ⟨w'.heap.size,0,none⟩)) (w':=w'.alloc (.cells #[.slice none 0 0,.string ⟨#[]⟩,.int .i64 0] 42)) hsl rfl rfl hpre (ba hJ.bw _) ?_ ?_ trivial
       ·exact hK _ _ h9
       ·show fS2r _ _ _ _ _ _ _ _ _ ((done.setIfInBounds 12 true).getD 5 false) ((done.setIfInBounds 12 true).getD 6 false) ((done.setIfInBounds 12 true).getD 9 false) ((done.setIfInBounds 12 true).getD 11 false) ((done.setIfInBounds 12 true).getD 12 false) ((done.setIfInBounds 12 true).getD 14 false) ((done.setIfInBounds 12 true).getD 15 false) _ _;simp only [getD_set _ _ _ hi12,Nat.reduceEqDiff,if_true,if_false,k15];exact fS2r_new2 hds hwz hex
       ·intro j q9 hq hj hdn u h9;exact vS2r_any _ _ _ _ _ _ _ _ _ j u h9
      | 13,_,ho,hun,hpre =>
       simp at ho;subst ho;refine hJ.op (d:=16) hsl hst hFt [17,18,56,62,65] hFp (by decide) hwz rfl rfl rfl (by decide) hpre ?_;obtain ⟨v63,ev63,hv63⟩:=hJ.dn 7 _ 63 rfl (hpre ⟨7,.data⟩ (by simp) rfl) rfl;have qv63:=eval_of ev63;obtain rfl:v63=.string cs:=hv63;refine wp_val (v:=.string cs) (by simp [execOp,ev63,go_sem]) rfl
      | 14,_,ho,hun,hpre =>
       simp at ho;subst ho;obtain ⟨v64,ev64,hv64⟩:=hJ.dn 8 _ 64 rfl (hpre ⟨8,.data⟩ (by simp) rfl) rfl;have qv64:=eval_of ev64;have hi14:14<done.size:=by rw [hJ.sz];decide
       obtain rfl:v64=.agg #[.bool false,.string s1,.bool false,.string s2]:=hv64;have a11:=hpre ⟨11,.data⟩ (by simp) rfl;rw [hun,a11] at hex;obtain ⟨g9,hg9,hB9,hG⟩:=hex.1 rfl;have hG:Blk w' g9 39 [.bool false,.string ⟨#[]⟩,.bool false,.string ⟨#[]⟩]:=hG;have hGl:=hG.lt;have f0:=hG.free 0;have f1:=hG.free 1;have f2:=hG.free 2;have f3:=hG.free 3;have z0:=hG.cell 0;have z1:=hG.cell 1;have z2:=hG.cell 2;have z3:=hG.cell 3;refine wpOp_step rfl fun K' hK=>?_
       rw [if_pos (by simp [Region.wanted])];simp [Oper.wp,execOp,ev64,hg9,go_sem,f0,f1,f2,f3,z0,z1,z2,z3,hGl];have h9:=hJ.skip (i:=14) (v:=undef) rfl rfl hpre ((((hJ.bw.setCell (p:=⟨g9,0,none⟩) hB9 (.bool false)).setCell (p:=⟨g9,1,none⟩) hB9 (.string s1)).setCell (p:=⟨g9,2,none⟩) hB9 (.bool false)).setCell (p:=⟨g9,3,none⟩) hB9 (.string s2)) ?_ ?_
       ·exact hK a' _ h9
       ·show fS2r _ _ _ _ _ _ _ _ _ ((done.setIfInBounds 14 true).getD 5 false) ((done.setIfInBounds 14 true).getD 6 false) ((done.setIfInBounds 14 true).getD 9 false) ((done.setIfInBounds 14 true).getD 11 false) ((done.setIfInBounds 14 true).getD 12 false) ((done.setIfInBounds 14 true).getD 14 false) ((done.setIfInBounds 14 true).getD 15 false) _ _;simp only [getD_set _ _ _ hi14,Nat.reduceEqDiff,if_true,if_false,a11];exact fS2r_set1 hg9 hex
       ·intro j q9 hq hj hdn d9 u hd9 hu h9;exact vS2r_any _ _ _ _ _ _ _ _ _ j u h9
      | 15,_,ho,hun,hpre =>
       simp at ho;subst ho;have hi15:15<done.size:=by rw [hJ.sz];decide
       have a9:=hpre ⟨9,.data⟩ (by simp) rfl;have a12:=hpre ⟨12,.data⟩ (by simp) rfl;have a6:=hJ.pr 9 _ rfl a9 ⟨6,.data⟩ (by simp) rfl;have a5:=hJ.pr 6 _ rfl a6 ⟨5,.data⟩ (by simp) rfl;rw [hun,a12,a9,a6,a5] at hex;obtain ⟨g9,hg9,hB9,hG⟩:=hex.2.1 rfl;have hG:=hG rfl;obtain ⟨ta,tc,_,_,h65,_⟩:=hex.2.2 rfl;have ev65:=h65 rfl;have hGl:=hG.lt;have f0:=hG.free 0;have f1:=hG.free 1;have f2:=hG.free 2;have z0:=hG.cell 0;have z1:=hG.cell 1;have z2:=hG.cell 2;refine wpOp_step rfl fun K' hK=>?_
       rw [if_pos (by simp [Region.wanted])];simp [Oper.wp,execOp,ev65,hg9,go_sem,f0,f1,f2,z0,z1,z2,hGl];have h9:=hJ.skip (i:=15) (v:=undef) rfl rfl hpre (((hJ.bw.setCell (p:=⟨g9,0,none⟩) hB9 (.slice ta tm tc)).setCell (p:=⟨g9,1,none⟩) hB9 (.string T1.seed)).setCell (p:=⟨g9,2,none⟩) hB9 (.int .i64 T1.pos)) ?_ ?_
       ·exact hK a' _ h9
       ·show fS2r _ _ _ _ _ _ _ _ _ ((done.setIfInBounds 15 true).getD 5 false) ((done.setIfInBounds 15 true).getD 6 false) ((done.setIfInBounds 15 true).getD 9 false) ((done.setIfInBounds 15 true).getD 11 false) ((done.setIfInBounds 15 true).getD 12 false) ((done.setIfInBounds 15 true).getD 14 false) ((done.setIfInBounds 15 true).getD 15 false) _ _;simp only [getD_set _ _ _ hi15,Nat.reduceEqDiff,if_true,if_false,a12,a9,a6,a5];exact fS2r_set2 hg9 ev65 hex
       ·intro j q9 hq hj hdn d9 u hd9 hu h9;exact vS2r_any _ _ _ _ _ _ _ _ _ j u h9
      | 16,_,ho,hun,hpre =>
       simp at ho;subst ho;refine hJ.op (d:=19) hsl hst hFt [17,18,56,62,65] hFp (by decide) hwz rfl rfl rfl (by decide) hpre ?_;obtain ⟨v66,ev66,hv66⟩:=hJ.dn 10 _ 66 rfl (hpre ⟨10,.data⟩ (by simp) rfl) rfl;have qv66:=eval_of ev66;obtain rfl:v66=.int .i64 (ke:Int):=hv66;refine wp_val (v:=.int .i64 (ke:Int)) (by simp [execOp,ev66,go_sem]) rfl
    ·intro done a' w' hJ hd;obtain ⟨f,hf,hv⟩:=hJ.all hd;have hex:fS2r wp.heap.size cs s1 s2 T1.seed T1.pos ke tm T1.vals (done.getD 5 false) (done.getD 6 false) (done.getD 9 false) (done.getD 11 false) (done.getD 12 false) (done.getD 14 false) (done.getD 15 false) a'.tmps w':=hJ.ex;rw [hd 5 (by decide),hd 6 (by decide),hd 9 (by decide),hd 11 (by decide),hd 12 (by decide),hd 14 (by decide),hd 15 (by decide)] at hex;obtain ⟨hx1,hx2,hx3⟩:=hex;obtain ⟨g20,e20,hB20,hG20⟩:=hx1 rfl;obtain ⟨g21,e21,hB21,_⟩:=hx2 rfl;obtain ⟨ta,tc,_,_,_,hU9,hf9,hf20,_,hG21'⟩:=hx3 rfl;have hF20:=hf20 rfl g20 e20;have hG21:=hG21' rfl g21 e21;replace hG20:Blk w' g20 39 [.bool false,.string s1,.bool false,.string s2]:=hG20;clear hG21' hf20;have e16:f 13=.string cs:=hv 13 _ 16 rfl rfl;have e19:f 16=.int .i64 (ke:Int):=hv 16 _ 19 rfl rfl;have hbw:=hJ.bw;clear hJ hv hd hx1 hx2 hx3;subst hf;simp only [putAll,List.size_toArray,List.length_cons,List.length_nil,Nat.reduceAdd,List.getElem?_toArray,List.getElem?_cons_zero,List.getElem?_cons_succ,Option.bind_some,Act.put,List.setIfInBounds_toArray,List.set_cons_zero,List.set_cons_succ] at e20 e21 ⊢;simp only [List.getElem?_toArray,List.getElem?_cons_succ,List.getElem?_cons_zero,Option.some.injEq] at e20 e21;rw [e20,e21,e16,e19];clear e20 e21 e16 e19;go_wp2_with fail
     go_meet
     exact ⟨g20,g21,ta,tc,rfl,rfl,rfl,rfl,hB20,hB21,hG20,hG21,hU9,hf9,hF20,hbw⟩
   case rest =>
    obtain ⟨g20,g21,ta,tc,rfl,rfl,rfl,rfl,hB20,hB21,hG20,hG21,hU9,hf9,hF20,hb⟩:=hcut;obtain ⟨wx,hwx⟩:∃wx,wx=wc:=⟨_,rfl⟩;subst hwx;have hfT:=hf9 gT hT.lt;have hfQ:=hf9 gQ hQ.lt;have HFW:Hid (∀g,g<w.heap.size→FarS (.slice ta tm tc) g):=fun g hg=>hf9 g (Nat.lt_of_lt_of_le hg hbr.size)
    have HN20:Hid (u14.ownBlock≠some g20):=fun e=>by have:=(own_lt hP e).1;omega
    have hfO:∀y,u13.ownBlock=some y→FarS (.slice ta tm tc) y:=fun y hy=>hf9 y (own_lt hO hy).1
    have hfP:∀y,u14.ownBlock=some y→FarS (.slice ta tm tc) y:=fun y hy=>hf9 y (own_lt hP hy).1
    have HGX:Hid (w2.heap.size≤wp.heap.size):=hbz;replace hO:=own_after hO hb;replace hP:=own_after hP hb;replace hT:=hT.after hb;replace hQ:=hQ.after hb;replace hK:=hK.after hb;replace hbz:=Nat.le_trans hbz hb.size;replace hbr:=bt hbr hb;clear hb hU hFT hFQ HRC HOF hf9;have lQ:w.heap.size≤gQ:=by have:=HGW.out;omega
    by_cases hke:ke=0
    case neg =>
     have hkb:((ke:Int) != 0)=true:=by rw [bne_iff_ne];omega
     have HXX:=Lib.hid (HBD.out hke);have hQl:=hQ.lt;clear hke hO hP hT hK hG20 hG21 hU9;obtain ⟨hQc0,hQf0,hQc1,hQf1,hQc2,hQf2⟩:=hQ.x3;go_wp2;refine bodyPost_ret (v:=.tuple #[.slice none 0 0,.slice none 0 0,.agg #[.slice none 0 0,.string ⟨#[]⟩,.int .i64 0],.int .i64 (ke:Int)]) ?_ rfl ?_
     ·simp [results,Tryz.results51,go_sem,hQc0,hQc1,hQc2,hQl]
     ·rw [HXX.out];exact PrPostF.err (((hbr.setCell lQ _).setCell lQ _).setCell lQ _)
    case pos =>
     subst hke;have HGD2:=Lib.hid (HGD.out rfl)
     have HTN:Hid (T1.vals=T.vals∧T1.seed=T.seed∧T1.pos=T.pos+((k:Int)+1)):=by
      rw [Hid,HT1.out,show (T.on k).after 0=T.on (k+1) from Tp.on_on T k 1];exact ⟨rfl,rfl,rfl⟩
     rw [HTN.out.1] at hU9;rw [HTN.out.2.1,HTN.out.2.2] at hG21;obtain rfl:cs=E (cmtN p g h (xd:Int) (xe:Int)):=by have:=HCS.out;rwa [if_pos rfl] at this
     obtain rfl:s1=E xd:=by have:=HS1.out;rwa [if_pos rfl] at this
     obtain rfl:s2=E xe:=by have:=HS2.out;rwa [if_pos rfl] at this
     clear HGD HBD HCS HS1 HS2 HTN HT1;have HN32:Hid (k+1≤33):=by have:=HN2.out;rw [Hid];omega
     obtain ⟨cm,hcm⟩:∃c,c=cmtN p g h (xd:Int) (xe:Int):=⟨_,rfl⟩;rw [←hcm] at HSP2 ⊢;clear hcm;have hTl:=hT.lt;have hGl:=hG21.lt;have nQT:gQ≠gT:=by have:=HGW.out;omega
     have n21:g21≠gT:=by have:=HGX.out;have:=HGQ2.out;have:=HGW.out;omega
     have lT:w.heap.size≤gT:=by have:=HGW.out;omega
     have nOT:=own_ne hO hT (by decide);have nPT:=own_ne hP hT (by decide);have n20T:g20≠gT:=blk_neT' hG20 hT (by decide);have nKT:w.heap.size≠gT:=by have:=HGW.out;omega
     obtain ⟨hG21c0,hG21f0,hG21c1,hG21f1,hG21c2,hG21f2⟩:=hG21.x3;obtain ⟨hTc0,hTf0,hTc1,hTf1,hTc2,hTf2⟩:=hT.x3;go_upto_region 19 with fail
     clear hG21c0 hG21f0 hG21c1 hG21f1 hG21c2 hG21f2;clear hTc0 hTf0 hTc1 hTf1 hTc2 hTf2;replace hO:=own_set (u:=.int .i64 (T.pos+((k:Int)+1))) (i:=2) (own_set (u:=.string T.seed) (i:=1) (own_set (u:=.slice ta tm tc) (i:=0) hO nOT) nOT) nOT;replace hP:=own_set (u:=.int .i64 (T.pos+((k:Int)+1))) (i:=2) (own_set (u:=.string T.seed) (i:=1) (own_set (u:=.slice ta tm tc) (i:=0) hP nPT) nPT) nPT;replace hU9:=((hU9.set_far (i:=0) (x:=.slice ta tm tc) hfT).set_far (i:=1) (x:=.string T.seed) hfT).set_far (i:=2) (x:=.int .i64 (T.pos+((k:Int)+1))) hfT;replace hG20:=blk_o3 hG20 n20T (.slice ta tm tc) (.string T.seed) (.int .i64 (T.pos+((k:Int)+1)));replace hQ:=blk_o3 hQ nQT (.slice ta tm tc) (.string T.seed) (.int .i64 (T.pos+((k:Int)+1)));replace hK:=blk_o3 hK nKT (.slice ta tm tc) (.string T.seed) (.int .i64 (T.pos+((k:Int)+1)));replace hT:=((hT.set 0 (.slice ta tm tc)).set 1 (.string T.seed)).set 2 (.int .i64 (T.pos+((k:Int)+1)));replace hbr:=((hbr.setCell (p:=⟨gT,0,none⟩) lT (.slice ta tm tc)).setCell (p:=⟨gT,1,none⟩) lT (.string T.seed)).setCell (p:=⟨gT,2,none⟩) lT (.int .i64 (T.pos+((k:Int)+1)));have hbz3:w2.heap.size≤(((wx.setCell ⟨gT,0,none⟩ (.slice ta tm tc)).setCell ⟨gT,1,none⟩ (.string T.seed)).setCell ⟨gT,2,none⟩ (.int .i64 (T.pos+((k:Int)+1)))).heap.size:=by simp only [World.size_setCell];exact hbz
     clear hG21 hTl hGl n21 nQT n20T nKT nOT nPT;generalize ((wx.setCell ⟨gT,0,none⟩ (.slice ta tm tc)).setCell ⟨gT,1,none⟩ (.string T.seed)).setCell ⟨gT,2,none⟩ (.int .i64 (T.pos+((k:Int)+1)))=w5 at hO hP hU9 hG20 hQ hK hT hbr hbz3 ⊢;replace hT:Blk w5 gT 42 [.slice ta tm tc,.string T.seed,.int .i64 (T.pos+((k:Int)+1))]:=hT;obtain ⟨i0,hi0,hz00,hz01,hz02⟩:=info_parts info_nat;obtain ⟨i1,hi1,hz10,hz11,hz12⟩:=info_parts info_opening;have HI0:=Lib.hid hi0;have HA0:=Lib.hid hz00;have HB0:=Lib.hid hz01;have HC0:=Lib.hid hz02;have HI1:=Lib.hid hi1;have HA1:=Lib.hid hz10;have HB1':=Lib.hid hz11;have HC1:=Lib.hid hz12;clear hi0 hz00 hz01 hz02 hi1 hz10 hz11 hz12
     have HYN:Hid (wrap64 ((y:Int) / 2)=((v / 2^(k+1):Nat):Int)):=by
      have hm:y / 2<2^63:=by rw [HY.out];exact Nat.lt_of_le_of_lt (Nat.div_le_self _ _) (Nat.lt_of_le_of_lt (Nat.div_le_self _ _) (Nat.lt_of_lt_of_le HV2.out (Nat.pow_le_pow_right (by decide) (by have:=HN2.out;omega))))
      rw [Hid,show (y:Int) / 2=((y / 2:Nat):Int) from rfl,IntWalk.wrap64_in _ (by omega),HY.out,Nat.div_div_eq_div_mul,Nat.pow_succ]
     have hN:=Blk.new w5 #[.string (E cm)] 31;have hbN:=b1 w5 (.cells #[.string (E cm)] 31);have hWT:w.heap.size≤w2.heap.size:=HW2.out;go_upto_region 21 with (at_builtin;go_loud (refine wpList_append_lies _ rfl (.tmp 74) (.tmp 76) _ rfl w2.heap.size 31 i0 _ 1 16 Tryz.underlying40 HI0.out HA0.out HB0.out HC0.out rfl (by omega) u13 k (strs LP) rfl (own_after hO hbN) ⟨w5.heap.size,0,none⟩ 1 1 [.string (E cm)] rfl rfl hN.cells (by simp [Value.oneCell']) (by omega) (by have:=HN32.out;simp only [maxLen];omega) (by have:=HN32.out;omega) (by simp;omega) (w5.heap.size+1) (by simp) ?_);intro ga ca wa hownA hgrowA hatA hltA)
     have hbA:Below w.heap.size w wa:=(ba hbr (.cells #[.string (E cm)] 31)).grown hgrowA (by simp only [World.size_alloc];omega) (fun x hx=>Nat.le_trans hWT (own_lt hO hx).2);have hPA:=own_grown (own_after hP hbN) (own_after hO hbN) (by decide) hgrowA;have hTA:=Blk.grown (hT.after hbN) hgrowA (own_ne hO hT (by decide));have hQA:=Blk.grown (hQ.after hbN) hgrowA (own_ne hO hQ (by decide));have hKA:=Blk.grown (hK.after hbN) hgrowA (own_ne hO hK (by decide));have hGA:=Blk.grown (hG20.after hbN) hgrowA (own_ne hO hG20 (by decide));have hUA:=SsAt.grown (SsAt.after hU9 hbN) hgrowA hfO;have hbzA:w2.heap.size≤wa.heap.size:=by have:=hgrowA.size;simp only [World.size_alloc] at this;omega
     clear hN hbN hO hP hT hQ hK hG20 hU9 hgrowA hatA hltA;have hGl2:=hGA.lt;have hN2:=Blk.new wa #[.bool false,.string (E xd),.bool false,.string (E xe)] 39;have hbN2:=b1 wa (.cells #[.bool false,.string (E xd),.bool false,.string (E xe)] 39);obtain ⟨hGAc0,hGAf0,hGAc1,hGAf1,hGAc2,hGAf2,hGAc3,hGAf3⟩:=hGA.x4;go_wp2_with (at_builtin;go_loud (refine wpList_append_lies _ rfl (.tmp 78) (.tmp 80) _ rfl w2.heap.size 39 i1 _ 4 48 Tryz.underlying43 HI1.out HA1.out HB1'.out HC1.out rfl (by omega) u14 k ((LO.map nop).flatMap opc) rfl (own_after hPA hbN2) ⟨wa.heap.size,0,none⟩ 1 1 [.bool false,.string (E xd),.bool false,.string (E xe)] rfl rfl hN2.cells (by simp [Value.oneCell']) (by omega) (by have:=HN32.out;simp only [maxLen];omega) (by have:=HN32.out;omega) (by simp;omega) (wa.heap.size+1) (by simp) ?_);intro gb cb wb hownB hgrowB hatB hltB)
     clear hGAc0 hGAf0 hGAc1 hGAf1 hGAc2 hGAf2 hGAc3 hGAf3;have hbB:Below w.heap.size w wb:=(ba hbA (.cells #[.bool false,.string (E xd),.bool false,.string (E xe)] 39)).grown hgrowB (by simp only [World.size_alloc];omega) (fun x hx=>Nat.le_trans hWT (own_lt hPA hx).2);have hOB:=own_grown (own_after hownA hbN2) (own_after hPA hbN2) (by decide) hgrowB;have hTB:=Blk.grown (hTA.after hbN2) hgrowB (own_ne hPA hTA (by decide));have hQB:=Blk.grown (hQA.after hbN2) hgrowB (own_ne hPA hQA (by decide));have hKB:=Blk.grown (hKA.after hbN2) hgrowB (own_ne hPA hKA (by decide));have hUB:=SsAt.grown (SsAt.after hUA hbN2) hgrowB hfP;have hbzB:w2.heap.size≤wb.heap.size:=by have:=hgrowB.size;simp only [World.size_alloc] at this;omega
     have hO2:wb.ownsRow w2.heap.size 31 1 (.slice (some ⟨ga,0,none⟩) (k+1) ca) (k+1) (strs (LP++[cm])):=by rw [←strs_app];exact hOB
     have hP2:wb.ownsRow w2.heap.size 39 4 (.slice (some ⟨gb,0,none⟩) (k+1) cb) (k+1) (((LO++[(xd,xe)]).map nop).flatMap opc):=by rw [List.map_append,List.flatMap_append];exact hownB
     rw [←HSP2.out] at hO2;rw [←HSO2.out] at hP2;clear hownA hownB hOB hPA hTA hQA hKA hGA hUA hN2 hbN2 hgrowB hatB hltB hGl2;go_wp2;go_roundw
     case rel=>exact ⟨k+1,ta,tm,tc,by omega,by go_num,by first | (rw [HYN.out];done) | (rw [HYN.out];rfl) | (congr 1;exact HYN.out),HGD2.out,hO2,hP2,by rw [show T.pos+((k+1:Nat):Int)=T.pos+((k:Int)+1) by omega];exact hTB,hQB,hKB,hUB,hfT,hfQ,fun _=>HFW.out,hbzB,hbB⟩
     case measure=>simp [intOf];omega
  ·obtain rfl:n=k:=by omega
   have HXX:Hid (R=⟨0,prP att p g h q X T n,prO att q X T n,T.on n⟩):=by rw [Hid,HR.out,splN_ok HAL.out]
   have HNZ:Hid (n≠0):=by rw [Hid];omega
   have lQ:w.heap.size≤gQ:=by have:=HGW.out;omega
   have n1':¬ gT=gQ:=by have:=HGW.out;omega
   have hTl:=hT.lt;have hQl:=hQ.lt;clear HAL HR HDG HRN;go_upto_region 22 with fail
   obtain ⟨hTc0,hTf0,hTc1,hTf1,hTc2,hTf2⟩:=hT.x3;obtain ⟨hQc0,hQf0,hQc1,hQf1,hQc2,hQf2⟩:=hQ.x3;go_region;go_wp2;refine bodyPost_ret (v:=.tuple #[u13,u14,.agg #[.slice uo um uc,.string T.seed,.int .i64 (T.pos+(n:Int))],.int .i64 0]) ?_ rfl ?_
   ·simp [results,Tryz.results51,go_sem,hQc0,hQc1,hQc2,hQl]
   ·rw [HXX.out];have hnO:u13.ownBlock≠some gQ:=own_ne hO hQ (by decide);have hnP:u14.ownBlock≠some gQ:=own_ne hP hQ (by decide);refine ⟨u13,u14,_,rfl,?_,?_,⟨.slice uo um uc,rfl,SsAt.after (((hU.set_far hFQ).set_far hFQ).set_far hFQ) (Below.drew (Below.refl _ _))⟩,TFar.of (fun b hb=>HFX.out HNZ.out b hb),(((hbr.setCell lQ _).setCell lQ _).setCell lQ _).drew⟩
    ·show World.ownsRow _ _ _ _ _ (prP att p g h q X T n).length _;rw [prP_len];exact own_mono (World.ownsRow.drew (own_set (own_set (own_set hO hnO) hnO) hnO)) HW2.out
    ·show World.ownsRow _ _ _ _ _ (prO att q X T n).length _;rw [prO_len];exact own_mono (World.ownsRow.drew (own_set (own_set (own_set hP hnP) hnP) hnP)) HW2.out
end Go.Proofs.YtdoacbdkbbpamaaGreatDoor
