/- integer.Small at any integer. -/
import Derived.Test.YtdoacbdkbbpamaaGreatDoorLdvl
import Derived.Laws.CopyRow
import Derived.Test.YtdoacbdkbbpamaaGreatDoorFwx24
import Derived.Test.YtdoacbdkbbpamaaGreatDoorLck6
import Derived.Test.YtdoacbdkbbpamaaGreatDoorDivN
import Derived.Test.YtdoacbdkbbpamaaGreatDoorFs5
import Derived.Test.YtdoacbdkbbpamaaGreatDoorCmt2
set_option linter.unusedVariables false
set_option linter.unusedSimpArgs false
set_option maxRecDepth 100000
set_option maxHeartbeats 16000000
namespace Go.Proofs.YtdoacbdkbbpamaaGreatDoor
section
open Go.RowKit Go.Shelf
def shf (F:Nat→Int) (j:Nat):Int:=if j=0 then F 0 else F (j-1)
theorem shf_eq (F:Nat→Int):(u32f F 8).toArray.toList.take 1++u32f F 7++(u32f F 8).toArray.toList.drop (1+(u32f F 7).length)=u32f (shf F) 8:=by rfl
theorem rnd_set (F:Nat→Int) (kk ww t u:Int) (ht:t=rT F kk ww) (hu:u=tU (F 0) (F 1) (F 2)) :
  ((u32f (shf F) 8).set 4 (.int .u32 ((F 3+t)%4294967296))).set 0 (.int .u32 ((t+u)%4294967296))=u32f (rnd F kk ww) 8:=by
 subst ht hu;rw [u32f_set,u32f_set];refine u32f_congr fun j hj=>?_
 unfold rnd shf;by_cases h0:j=0
 ·rw [if_pos h0,if_pos h0]
 ·rw [if_neg h0];by_cases h4:j=4
  ·rw [if_pos h4,if_neg h0,if_pos h4]
  ·rw [if_neg h4,if_neg h0,if_neg h4,if_neg h0]
theorem z8:Z8.toList=u32f (fun _=>0) 8:=by rfl
theorem after_v (S:Nat→Int) (s:ByteArray) (b o c:Nat) (w:World) (hs:s.size=64) (hA:BytA w b o s) (hc:64≤c) :
  Calls Tryz.prog 203 #[.agg (u32f S 8).toArray,.slice (some ⟨b,o,none⟩) 64 c] w fun e w'=>e=.returned (.agg (u32f (cmp S s) 8).toArray)∧Below w.heap.size w w':=by
 go_enter Tryz.func203,Tryz.ntmps203
 go_upto_region 1 with fail
 have hS2:=((Blk.new w (u32f S 8).toArray 206).as (cs':=u32f S 8) (by simp)).alloc (.cells Z8 206);have hR4:=(Blk.new (w.alloc (.cells (u32f S 8).toArray 206)) Z8 206).as z8;rw [World.size_alloc] at hR4;have hBW:=ba (b1 w (.cells (u32f S 8).toArray 206)) (.cells Z8 206);generalize (w.alloc (.cells (u32f S 8).toArray 206)).alloc (.cells Z8 206)=w1 at hS2 hR4 hBW ⊢;obtain ⟨g4,hg4⟩:∃g,w.heap.size+1=g:=⟨_,rfl⟩;obtain ⟨g2,hg2⟩:∃g,w.heap.size=g:=⟨_,rfl⟩;have HG4:Hid (w.heap.size≤g4):=by rw [Hid];omega
 rw [hg4] at hR4 ⊢;rw [hg2] at hS2 ⊢;clear hg4 hg2;go_wp2_with fail
 refine (pconstants_v _).mono ?_;rintro e w2 ⟨rfl,hb2⟩;replace hS2:=hS2.after hb2;replace hR4:=hR4.after hb2;replace hBW:=bt hBW hb2;go_wp2_with fail
 refine (pschedule_v s b o c _ hs (hA.after hBW) hc).mono ?_;rintro e w3 ⟨rfl,hb3⟩;replace hS2:=hS2.after hb3;replace hR4:=hR4.after hb3;replace hBW:=bt hBW hb3;have hb3z:=hBW.size;have HG2:Hid (g2<w3.heap.size∧g4<w3.heap.size):=⟨hS2.lt,hR4.lt⟩;clear hb2 hb3;have h5:=((Blk.new w3 Z64 216).as z64).alloc (.cells Z64 216);have h6:=(Blk.new (w3.alloc (.cells Z64 216)) Z64 216).as z64;rw [World.size_alloc] at h6;replace hS2:=(hS2.alloc (.cells Z64 216)).alloc (.cells Z64 216);replace hR4:=(hR4.alloc (.cells Z64 216)).alloc (.cells Z64 216);replace hBW:=ba (ba hBW (.cells Z64 216)) (.cells Z64 216);have HS3:=Lib.hid hBW.size
 have h6':Blk (((w3.alloc (.cells Z64 216)).alloc (.cells Z64 216)).setRow w3.heap.size (u32f kC 64).toArray) (w3.heap.size+1) 216 (u32f (fun _=>0) 64):=by
  show ((_:World).setRow _ _).heap[_]?=_;rw [setRow_other _ _ _ _ (by omega)];exact h6
 go_upto_region 2 with (first | (refine wpList_store_row rfl 216 (.tmp 5) (.tmp 18) rfl w3.heap.size (u32f kC 64).toArray rfl rfl 216 _ h5 (size_w64 _) (by simp [u32f]) (u32f_one _ _) ?_) | (refine wpList_store_row rfl 216 (.tmp 6) (.tmp 20) rfl (w3.heap.size+1) (u32f (sW s) 64).toArray rfl rfl 216 _ h6' (size_w64 _) (by simp [u32f]) (u32f_one _ _) ?_))
 have hW:=setRow_blk (cs:=(u32f (sW s) 64).toArray) h6'
 have hK:Blk ((((w3.alloc (.cells Z64 216)).alloc (.cells Z64 216)).setRow w3.heap.size (u32f kC 64).toArray).setRow (w3.heap.size+1) (u32f (sW s) 64).toArray) w3.heap.size 216 (u32f kC 64):=by
  show ((_:World).setRow _ _).heap[_]?=_;rw [setRow_other _ _ _ _ (by omega)];exact setRow_blk (cs:=(u32f kC 64).toArray) h5
 have hl3:=hS2.lt;have hl4:=hR4.lt;have HB3:=Lib.hid hb3z
 have hS5:Blk ((((w3.alloc (.cells Z64 216)).alloc (.cells Z64 216)).setRow w3.heap.size (u32f kC 64).toArray).setRow (w3.heap.size+1) (u32f (sW s) 64).toArray) g2 206 (u32f S 8):=by
  show (((_:World).setRow _ _).setRow _ _).heap[_]?=_;rw [setRow_other _ _ _ _ (by have:=HG2.out;omega),setRow_other _ _ _ _ (by have:=HG2.out;omega)];exact hS2
 have hR5:Blk ((((w3.alloc (.cells Z64 216)).alloc (.cells Z64 216)).setRow w3.heap.size (u32f kC 64).toArray).setRow (w3.heap.size+1) (u32f (sW s) 64).toArray) g4 206 (u32f (fun _=>0) 8):=by
  show (((_:World).setRow _ _).setRow _ _).heap[_]?=_;rw [setRow_other _ _ _ _ (by have:=HG2.out;omega),setRow_other _ _ _ _ (by have:=HG2.out;omega)];exact hR4
 have hB5:=setRow_below (cs:=(u32f (sW s) 64).toArray) (setRow_below (cs:=(u32f kC 64).toArray) hBW (g:=w3.heap.size) HB3.out) (g:=w3.heap.size+1) (by have:=HB3.out;omega);clear h5 h6 h6' hS2 hR4 hBW HS3 hl3 hl4;generalize (((w3.alloc (.cells Z64 216)).alloc (.cells Z64 216)).setRow w3.heap.size (u32f kC 64).toArray).setRow (w3.heap.size+1) (u32f (sW s) 64).toArray=w5 at hW hK hS5 hR5 hB5 ⊢;replace hW:Blk w5 (w3.heap.size+1) 216 (u32f (sW s) 64):=hW;obtain ⟨g6,hg6⟩:∃g,w3.heap.size+1=g:=⟨_,rfl⟩;obtain ⟨g5,hg5⟩:∃g,w3.heap.size=g:=⟨_,rfl⟩;rw [hg6] at hW ⊢;rw [hg5] at hK ⊢;clear hg5 hg6 HB3 HG2;apply wp_region_lit
 refine wpList_load_row rfl 206 (.tmp 2) rfl g2 rfl 206 _ (0,0) _ hS5 Tryz.underlying206 rfl (size_s8 _) ?_;have h7:=(Blk.new w5 Z8 206).as z8;have hB7:=setRow_below (cs:=(u32f S 8).toArray) (b1 w5 (.cells Z8 206)) (Nat.le_refl _);have hV:=setRow_blk (cs:=(u32f S 8).toArray) h7;go_upto_region 3 with (first | (refine wpList_store_row rfl 206 (.tmp 7) (.tmp 21) rfl w5.heap.size (u32f S 8).toArray rfl rfl 206 _ h7 (size_s8 _) (by simp [u32f]) (u32f_one _ _) ?_))
 clear h7;generalize (w5.alloc (.cells Z8 206)).setRow w5.heap.size (u32f S 8).toArray=w7 at hB7 hV ⊢;replace hV:Blk w7 w5.heap.size 206 (u32f S 8):=hV;obtain ⟨g7,hg7⟩:∃g,w5.heap.size=g:=⟨_,rfl⟩;rw [hg7] at hV ⊢;have HG7:Hid (w5.heap.size≤g7):=by rw [Hid];omega
 clear hg7;go_wp2;go_loopw [22] (fun i wr=>∃k:Nat,k≤64∧i=.int .i64 k∧Blk wr g7 206 (u32f (vv s S k) 8)∧Below w5.heap.size w5 wr) (fun i _=>64-(intOf i).toNat)
 case atStart=>exact ⟨0,by omega,rfl,hV,hB7⟩
 case round =>
  clear hV hB7;obtain ⟨k,hk,rfl,hV,hbr⟩:=hrel;obtain ⟨wp,hwp⟩:∃wp,wp=wr:=⟨_,rfl⟩;subst hwp;by_cases hlt:k<64
  ·have hKr:=hK.after hbr;have hWr:=hW.after hbr;have HV3:Hid (∀j,j<8→vv s S (k+1) j=rnd (vv s S k) (kC k) (sW s k) j):=fun j _=>rfl
   have HRT:Hid (rT (vv s S k) (kC k) (sW s k)=tT (vv s S k 4) (vv s S k 5) (vv s S k 6) (vv s S k 7) (kC k) (sW s k)):=rfl;have ck:wp.cell? ⟨g5,k,none⟩=some (.int .u32 (kC k)):=by rw [hKr.cell,u32f_get _ hlt]
   have cw:wp.cell? ⟨g6,k,none⟩=some (.int .u32 (sW s k)):=by rw [hWr.cell,u32f_get _ hlt]
   have hKl:=hKr.lt;have hWl:=hWr.lt;have hVl:=hV.lt;obtain ⟨VK,hVK⟩:∃F,F=vv s S k:=⟨_,rfl⟩;rw [←hVK] at hV HV3 HRT;have HVK:=Lib.hid hVK;clear hVK hKr hWr;generalize hkk:kC k=kk at ck HV3 HRT;generalize hwk:sW s k=wk at cw HV3 HRT;clear hkk hwk;have c0:wp.cell? ⟨g7,0,none⟩=some (.int .u32 (VK 0)):=by rw [hV.cell,u32f_get _ (by omega)]
   have c1:wp.cell? ⟨g7,1,none⟩=some (.int .u32 (VK 1)):=by rw [hV.cell,u32f_get _ (by omega)]
   have c2:wp.cell? ⟨g7,2,none⟩=some (.int .u32 (VK 2)):=by rw [hV.cell,u32f_get _ (by omega)]
   have c3:wp.cell? ⟨g7,3,none⟩=some (.int .u32 (VK 3)):=by rw [hV.cell,u32f_get _ (by omega)]
   have c4:wp.cell? ⟨g7,4,none⟩=some (.int .u32 (VK 4)):=by rw [hV.cell,u32f_get _ (by omega)]
   have c5:wp.cell? ⟨g7,5,none⟩=some (.int .u32 (VK 5)):=by rw [hV.cell,u32f_get _ (by omega)]
   have c6:wp.cell? ⟨g7,6,none⟩=some (.int .u32 (VK 6)):=by rw [hV.cell,u32f_get _ (by omega)]
   have c7:wp.cell? ⟨g7,7,none⟩=some (.int .u32 (VK 7)):=by rw [hV.cell,u32f_get _ (by omega)]
   obtain ⟨y0,hy0⟩:∃y,y=VK 0:=⟨_,rfl⟩;rw [←hy0] at c0;have HY0:=Lib.hid hy0;clear hy0;obtain ⟨y1,hy1⟩:∃y,y=VK 1:=⟨_,rfl⟩;rw [←hy1] at c1;have HY1:=Lib.hid hy1;clear hy1;obtain ⟨y2,hy2⟩:∃y,y=VK 2:=⟨_,rfl⟩;rw [←hy2] at c2;have HY2:=Lib.hid hy2;clear hy2;obtain ⟨y3,hy3⟩:∃y,y=VK 3:=⟨_,rfl⟩;rw [←hy3] at c3;have HY3:=Lib.hid hy3;clear hy3;obtain ⟨y4,hy4⟩:∃y,y=VK 4:=⟨_,rfl⟩;rw [←hy4] at c4;have HY4:=Lib.hid hy4;clear hy4;obtain ⟨y5,hy5⟩:∃y,y=VK 5:=⟨_,rfl⟩;rw [←hy5] at c5;have HY5:=Lib.hid hy5;clear hy5;obtain ⟨y6,hy6⟩:∃y,y=VK 6:=⟨_,rfl⟩;rw [←hy6] at c6;have HY6:=Lib.hid hy6;clear hy6;obtain ⟨y7,hy7⟩:∃y,y=VK 7:=⟨_,rfl⟩;rw [←hy7] at c7;have HY7:=Lib.hid hy7;clear hy7;have HTT:Hid (tT y4 y5 y6 y7 kk wk=rT VK kk wk):=by rw [Hid,HY4.out,HY5.out,HY6.out,HY7.out];exact HRT.out.symm
   have HUU:Hid (tU y0 y1 y2=tU (VK 0) (VK 1) (VK 2)):=by rw [Hid,HY0.out,HY1.out,HY2.out]
   clear HRT;have k1:(0:Int)≤(k:Int):=by omega
   have k2:(k:Int)<64:=by omega
   go_upto_region 6 with fail
   go_cut [9,10,11,12,13,14] (fun s9 s10 s11 s12 s13 s14 wc'=>s9=.int .u32 y0∧s10=.int .u32 y1∧s11=.int .u32 y2∧s12=.int .u32 y4∧s13=.int .u32 y5∧s14=.int .u32 y6∧wc'=wp.drew)
   case first =>
    as_aux_lemma =>
    clear ck cw hK hW;go_wp2_with fail
    go_region;go_wp2_with fail
    go_meet
    exact ⟨rfl,rfl,rfl,rfl,rfl,rfl,rfl⟩
   case rest =>
   obtain ⟨rfl,rfl,rfl,rfl,rfl,rfl,rfl⟩:=hcut;have hV2:=Blk.drewH hV;have hbr2:=hbr.drew;have g7c:=gclH (w:=wp.drew) (a:=⟨g7,7,none⟩) hVl c7;have gkc:=gclH (w:=wp.drew) (a:=⟨g5,k,none⟩) hKl ck;have gwc:=gclH (w:=wp.drew) (a:=⟨g6,k,none⟩) hWl cw;clear c0 c1 c2 c3 c4 c5 c6 c7 ck cw hV hbr hKl hWl;generalize wp.drew=wx at hV2 hbr2 g7c gkc gwc ⊢;go_upto_region 7 with fail
   go_cut [15] (fun s15 wc'=>s15=.int .u32 (tT y4 y5 y6 y7 kk wk)∧Below wx.heap.size wx wc')
   case first =>
    clear hbr2 hV2 hK hW;go_wp2_with fail
    refine wp_region_gw (by kernel_rfl) (by kernel_rfl) ?_;repeat (go_big_quiet_step (first | (go_at_call 214;exact gw_of (turn_c _ _ 6 _ rfl (by decide) (by decide))) | (go_at_call 214;exact gw_of (turn_c _ _ 11 _ rfl (by decide) (by decide))) | (go_at_call 214;exact gw_of (turn_c _ _ 25 _ rfl (by decide) (by decide)))))
    refine wpQuiet_nil ?_;rintro w9 ⟨xw9,rfl⟩;have hb9:=gw_below xw9;generalize gw xw9=w9 at hb9;clear g7c gkc gwc;go_wp2_with fail
    go_meet
    exact ⟨rfl,hb9⟩
   case rest =>
   obtain ⟨rfl,hbc⟩:=hcut;rw [HTT.out];obtain ⟨wy,hwy⟩:∃wx,wx=wc:=⟨_,rfl⟩;subst hwy;replace hbr2:=bt hbr2 hbc;replace hV2:=hV2.after hbc;clear hbc g7c gkc gwc;go_upto_region 8 with fail
   go_cut [16] (fun s16 wc'=>s16=.int .u32 (tU y0 y1 y2)∧Below wy.heap.size wy wc')
   case first =>
    clear hbr2 hV2 hK hW;go_wp2_with fail
    refine (turn_c _ _ 2 _ rfl (by decide) (by decide)).mono ?_;rintro e wa ⟨rfl,hba⟩;go_wp2_with fail
    refine (turn_c _ _ 13 _ rfl (by decide) (by decide)).mono ?_;rintro e wb ⟨rfl,hbb⟩;go_wp2_with fail
    refine (turn_c _ _ 22 _ rfl (by decide) (by decide)).mono ?_;rintro e wd ⟨rfl,hbd⟩;have hb6:=bt hba (bt hbb hbd);go_wp2_with fail
    go_meet
    exact ⟨rfl,hb6⟩
   case rest =>
   obtain ⟨rfl,hbc⟩:=hcut;rw [HUU.out];obtain ⟨wd,hwd⟩:∃wx,wx=wc:=⟨_,rfl⟩;subst hwd;replace hbr2:=bt hbr2 hbc;replace hV2:=hV2.after hbc;clear hbc;obtain ⟨u2,hu2⟩:∃u,u=tU (VK 0) (VK 1) (VK 2):=⟨_,rfl⟩;obtain ⟨t,ht⟩:∃t,t=rT VK kk wk:=⟨_,rfl⟩;rw [←hu2,←ht];have HU2:=Lib.hid hu2;have HT2:=Lib.hid ht;clear hu2 ht;have HSH:=Lib.hid (rnd_set VK kk wk t u2 HT2.out HU2.out);replace hV2:=Blk.drewH hV2;replace hbr2:=hbr2.drew;have hRS:=setRow_blk (cs:=((u32f VK 8).toArray.toList.take 1++u32f VK 7++(u32f VK 8).toArray.toList.drop (1+(u32f VK 7).length)).toArray) hV2
   have hcp:=run_copy_row (P:=Tryz.prog) wd.drew 164 164 3 181 g7 1 7 7 ⟨g7,0,none⟩ 7 8 (u32f VK 8).toArray 206 (u32f VK 7) Tryz.underlying164 (by kernel_rfl) hV2 (by simp [u32f]) (fun j v hv=>by
    have hj:j<7:=by
     apply Classical.byContradiction
     intro hn;rw [List.getElem?_eq_none (by rw [u32f_len];omega)] at hv;cases hv
    rw [u32f_get _ hj] at hv;rw [show (⟨g7,0,none⟩:Addr).add j=⟨g7,j,none⟩ by unfold Addr.add;split <;> simp_all,hV2.cell,u32f_get _ (by omega)];exact hv) (by simp [u32f]) (fun v hv=>by
    obtain ⟨j,_,rfl⟩:=List.mem_map.1 hv;rfl)
   have e9:((u32f VK 8).toArray.toList.take 1++u32f VK 7++(u32f VK 8).toArray.toList.drop (1+(u32f VK 7).length)).toArray.toList=u32f (shf VK) 8:=shf_eq VK;rw [e9] at hRS;clear e9;have hBR:=setRow_below (cs:=((u32f VK 8).toArray.toList.take 1++u32f VK 7++(u32f VK 8).toArray.toList.drop (1+(u32f VK 7).length)).toArray) hbr2 HG7.out;generalize ((u32f VK 8).toArray.toList.take 1++u32f VK 7++(u32f VK 8).toArray.toList.drop (1+(u32f VK 7).length)).toArray=xs at hcp hRS hBR;generalize (u32f VK 7).length=nl at hcp;have hVl:=hV2.lt;clear hV2 hbr2;have s0:=hRS.cell 0;have s4:=hRS.cell 4;have f0:=hRS.free 0;have f4:=hRS.free 4;have hVl:=hRS.lt;rw [u32f_get _ (by omega)] at s0 s4;have hs4:shf VK 4=VK 3:=rfl;rw [hs4] at s4;clear hs4;generalize shf VK 0=z0 at s0;obtain ⟨z3,hz3⟩:∃y,y=VK 3:=⟨_,rfl⟩;rw [←hz3] at s4;have HZ3:=Lib.hid hz3;clear hz3;go_wp2_with fail
   go_region;go_wp2;go_roundw
   case rel =>
    refine ⟨k+1,by omega,by go_num,?_,(hBR.setCell HG7.out _).setCell HG7.out _⟩;exact Blk.setv (Blk.setv hRS (by rw [HZ3.out]) rfl) rfl (HSH.out.trans (u32f_congr fun j hj=>(HV3.out j hj).symm))
   case measure=>simp [intOf];omega
  ·obtain rfl:k=64:=by omega
   clear hlt hk hK hW;go_wp2;go_loopw [98] (fun i wr=>∃k:Nat,k≤8∧i=.int .i64 k∧Blk wr g7 206 (u32f (fP s S k) 8)∧Below w5.heap.size w5 wr) (fun i _=>8-(intOf i).toNat)
   case atStart=>exact ⟨0,by omega,rfl,by rw [fP_zero];exact hV,hbr⟩
   case round =>
    clear hV hbr;obtain ⟨k,hk,rfl,hV,hbr⟩:=hrel;obtain ⟨wp,hwp⟩:∃wp,wp=wr:=⟨_,rfl⟩;subst hwp;have hSr:=hS5.after hbr;by_cases hlt:k<8
    ·have c1:=fP_at hV hlt;have c2:wp.cell? ⟨g2,k,none⟩=some (.int .u32 (S k)):=by rw [hSr.cell,u32f_get _ hlt]
     have HSS:=Lib.hid (fP_set s S k);have HCM:Hid (cmp S s k=(vv s S 64 k+S k)%4294967296):=rfl;generalize vv s S 64 k=x at c1 HCM;generalize S k=y at c2 HCM;have f1:=hV.free k;have l1:=hV.lt;have l2:=hSr.lt;have k1:(0:Int)≤(k:Int):=by omega
     have k2:(k:Int)<8:=by omega
     go_wp2_with fail
     go_region;go_wp2;go_roundw
     case rel=>exact ⟨k+1,by omega,by go_num,Blk.drewH (Blk.setv hV (by rw [HCM.out]) HSS.out),(hbr.setCell HG7.out _).drew⟩
     case measure=>simp [intOf];omega
    ·obtain rfl:k=8:=by omega
     have hRr:=hR5.after hbr;have hBB:=bt hB5 hbr;go_upto_region 18 with fail
     apply wp_region_lit
     refine wpList_load_row rfl 206 (.tmp 7) rfl g7 rfl 206 _ (0,0) _ hV Tryz.underlying206 rfl (size_s8 _) ?_;refine wpList_store_row rfl 206 (.tmp 4) (.tmp 110) rfl g4 _ rfl rfl 206 _ hRr (size_s8 _) (by simp [u32f]) (u32f_one _ _) ?_;apply wpList_nil
     go_wp2;refine bodyPost_ret (v:=.agg (u32f (fP s S 8) 8).toArray) ?_ rfl ⟨?_,setRow_below hBB HG4.out⟩
     ·refine results_cell_row (p:=4) (ty:=206) rfl _ _ g4 206 _ (0,0) _ rfl (setRow_heap _ _ _ _ _ _ hRr) Tryz.underlying206 rfl (size_s8 _)
     ·rw [u32f_congr (f:=fP s S 8) (g:=cmp S s) fun j hj=>by rw [fP,if_pos hj]]
end
section
/- dominoref02.Small at any integer. -/
open Go.RowKit Go.Shelf
theorem rsm27a_c (n:Nat) (w:World) (h:n<256^8) :
  Calls Tryz.prog 40 #[.string (E n)] w fun e w'=>e=.returned (.tuple #[.int .u64 n,.bool true])∧w=w':=by
 have hs:=(E_size_le n 8).2 h;have e1:decide ((8:Int)<((E n).size:Int))=false:=decide_eq_false (by omega);have HV:Hid (∀w,Calls Tryz.prog 42 #[.string (E n)] w fun e w'=>e=.returned (.bool true)∧w=w'):=fun w=>rvalidE_c n w (Nat.lt_of_lt_of_le h (Nat.pow_le_pow_right (by decide) (by decide)))
 have HU:Hid (∀w,Calls Tryz.prog 77 #[.string (E n)] w fun e w'=>e=.returned (.int .u64 n)∧w=w'):=fun w=>ru64_c n w h
 generalize E n=s at e1 HV HU hs ⊢;clear h;go_enter Tryz.func40,Tryz.ntmps40
 go_wp2_with fail
 refine (HV.out _).mono ?_;rintro e w1 ⟨rfl,rfl⟩;go_wp2_with fail
 refine (HU.out _).mono ?_;rintro e w2 ⟨rfl,rfl⟩;go_wp2;go_ret2
 exact ⟨rfl,rfl⟩
def sm64 (z:Int):Int:=if -9223372036854775808≤z∧z≤9223372036854775807 then z else 0
def sm64B (z:Int):Bool:=decide (-9223372036854775808≤z∧z≤9223372036854775807)
end
section
open Go.RowKit Go.Shelf
end
section
/- dominoref23.SameOpenings and dominoref15.SameInts at equal lists of any bytes. -/
open Go.RowKit Go.Shelf
theorem sameOpn_c (Z:List Opn) (u v:Value) (w:World) (ha:Z.length≤1000) (hA:OsAt w u Z) (hB:OsAt w v Z) :
  Calls Tryz.prog 21 #[u,v] w fun e w'=>e=.returned (.bool true)∧Below w.heap.size w w':=by
 obtain ⟨a1,c1,rfl⟩:=RAt.form hA;obtain ⟨a2,c2,rfl⟩:=RAt.form hB;obtain ⟨n,hn⟩:∃n,n=Z.length:=⟨_,rfl⟩;have HN:=Lib.hid hn;rw [←hn] at hA hB ha ⊢;clear hn;have hx1:((n:Int) != (n:Int))=false:=by simp
 go_enter Tryz.func21,Tryz.ntmps21
 go_wp2;go_loopw [5] (fun i wr=>∃k:Nat,k≤n∧i=.int .i64 k∧Below w.heap.size w wr) (fun i _=>n-(intOf i).toNat)
 case atStart=>exact ⟨0,by omega,rfl,Below.refl _ _⟩
 case round =>
  obtain ⟨k,hk,rfl,hbr⟩:=hrel;obtain ⟨wp,hwp⟩:∃wp,wp=wr:=⟨_,rfl⟩;subst hwp;replace hA:=OsAt.after hA hbr;replace hB:=OsAt.after hB hbr;by_cases hlt:k<n
  ·have hkz:k<Z.length:=by rw [←HN.out];exact hlt
   obtain ⟨b,o,rfl,hbl,x1,x2,x3,x4⟩:=OsAt.at_ hA hkz;obtain ⟨b',o',rfl,hbl',y1,y2,y3,y4⟩:=OsAt.at_ hB hkz;generalize (Z[k]'hkz)=z at x1 x2 x3 x4 y1 y2 y3 y4;have h0k:(0:Int)≤(k:Int):=by omega
   have h1k:(k:Int)<(n:Int):=by omega
   have g1:=gcl (a:=⟨b,o+k*4,none⟩) hbl x1;have g2:=gcl (a:=⟨b,o+k*4+1,none⟩) hbl x2;have g3:=gcl (a:=⟨b,o+k*4+2,none⟩) hbl x3;have g4:=gcl (a:=⟨b,o+k*4+3,none⟩) hbl x4;have g5:=gcl (a:=⟨b',o'+k*4,none⟩) hbl' y1;have g6:=gcl (a:=⟨b',o'+k*4+1,none⟩) hbl' y2;have g7:=gcl (a:=⟨b',o'+k*4+2,none⟩) hbl' y3;have g8:=gcl (a:=⟨b',o'+k*4+3,none⟩) hbl' y4;go_wp2_with fail
   refine wp_region_gw (by kernel_rfl) (by kernel_rfl) ?_;repeat (go_big_quiet_step (first | (fail)))
   refine wpQuiet_nil ?_;rintro w5 ⟨xw5,rfl⟩;have hb5:=gw_below xw5;generalize gw xw5=w5 at hb5;go_wp2;go_roundw
   case rel=>exact ⟨k+1,by omega,by go_num,bt hbr hb5⟩
   case measure=>simp [intOf];omega
  ·go_wp2;go_ret
   exact ⟨rfl,hbr⟩
end
section
open Go.RowKit Go.Shelf
theorem ism_c (z:Int) (w:World) (h:z.natAbs<256^128) :
  Calls Tryz.prog 37 #[.agg #[.bool (sg (z)),.string (E (z).natAbs)]] w fun e w'=>e=.returned (.tuple #[.int .i64 (sm64 z),.bool (sm64B z)])∧Below w.heap.size w w':=by
 have HV:Hid (∀w,Calls Tryz.prog 58 #[.agg #[.bool (sg (z)),.string (E (z).natAbs)]] w fun e w'=>e=.returned (.bool true)∧Below w.heap.size w w'):=fun w=>ivalX_c (sg z) (E z.natAbs) true w (by have:=sz z.natAbs h;omega) (ivB_I z h)
 have hP:=Blk.new w #[.bool (sg z),.string (E z.natAbs)] 37;have hBW:=b1 w (.cells #[.bool (sg z),.string (E z.natAbs)] 37);obtain ⟨n,hzn⟩:∃n,n=z.natAbs:=⟨_,rfl⟩;by_cases hn:n<256^8
 ·have HS:Hid (∀w,Calls Tryz.prog 65 #[.string (E n)] w fun e w'=>e=.returned (.tuple #[.int .u64 n,.bool true])∧w=w'):=fun w=>small_c n w hn
  have hn8:n<18446744073709551616:=hn;rw [←hzn] at HV hP hBW h ⊢;by_cases hz:z<0
  ·have hb:sg z=true:=by unfold sg;exact decide_eq_true hz
   rw [hb] at HV hP hBW ⊢;by_cases hlo:n≤9223372036854775808
   ·have HZ:Hid (sm64 z=-((n:Int)-1)-1):=by rw [Hid,sm64,if_pos (by omega)];omega
    have HZB:Hid (sm64B z=true):=decide_eq_true (by omega);have e0:decide ((9223372036854775808:Int)<(n:Int))=false:=decide_eq_false (by omega)
    have HC:Hid (wrap64 (-(wrap64 (n:Int)))=-((n:Int)-1)-1):=by
     rw [Hid];by_cases h9:n=9223372036854775808
     ·subst h9;kernel_rfl
     ·rw [IntWalk.wrap64_in (n:Int) (by omega),IntWalk.wrap64_in (-(n:Int)) (by omega)];omega
    clear hn hn8 hlo h;generalize E n=s at HV HS hP hBW ⊢;clear hz hzn hb;obtain ⟨hPc0,hPf0,hPc1,hPf1⟩:=hP.x2;go_enter Tryz.func37,Tryz.ntmps37
    go_wp2_with fail
    refine (HS.out _).mono ?_;rintro e w1 ⟨rfl,rfl⟩;go_wp2_with fail
    refine (HV.out _).mono ?_;rintro e w2 ⟨rfl,hb1⟩;clear hPc0 hPf0 hPc1 hPf1;replace hP:=hP.after hb1;replace hBW:=bt hBW hb1;clear hb1;obtain ⟨hPc0,hPf0,hPc1,hPf1⟩:=hP.x2;go_wp2;go_ret2
    exact ⟨by rw [HZ.out,HZB.out,HC.out];rfl,hBW⟩
   ·have HZ:Hid (sm64 z=0):=by rw [Hid,sm64,if_neg (by omega)]
    have HZB:Hid (sm64B z=false):=decide_eq_false (by omega);have e0:decide ((9223372036854775808:Int)<(n:Int))=true:=decide_eq_true (by omega);clear hn hn8 hlo h;generalize E n=s at HV HS hP hBW ⊢;clear hz hzn hb;obtain ⟨hPc0,hPf0,hPc1,hPf1⟩:=hP.x2;go_enter Tryz.func37,Tryz.ntmps37
    go_wp2_with fail
    refine (HS.out _).mono ?_;rintro e w1 ⟨rfl,rfl⟩;go_wp2_with fail
    refine (HV.out _).mono ?_;rintro e w2 ⟨rfl,hb1⟩;clear hPc0 hPf0 hPc1 hPf1;replace hP:=hP.after hb1;replace hBW:=bt hBW hb1;clear hb1;obtain ⟨hPc0,hPf0,hPc1,hPf1⟩:=hP.x2;go_wp2;go_ret2
    exact ⟨by rw [HZ.out,HZB.out];first | rfl | go_num,hBW⟩
  ·have hb:sg z=false:=by unfold sg;exact decide_eq_false hz
   rw [hb] at HV hP hBW ⊢;by_cases hlo:n<9223372036854775808
   ·have HZ:Hid (sm64 z=(n:Int)):=by rw [Hid,sm64,if_pos (by omega)];omega
    have HZB:Hid (sm64B z=true):=decide_eq_true (by omega);have e0:decide ((9223372036854775807:Int)<(n:Int))=false:=decide_eq_false (by omega);have c2:IntKind.i64.wrap (n:Int)=(n:Int):=wi64 (by omega) (by omega);clear hn hn8 hlo h;generalize E n=s at HV HS hP hBW ⊢;clear hz hzn hb;obtain ⟨hPc0,hPf0,hPc1,hPf1⟩:=hP.x2;go_enter Tryz.func37,Tryz.ntmps37
    go_wp2_with fail
    refine (HS.out _).mono ?_;rintro e w1 ⟨rfl,rfl⟩;go_wp2_with fail
    refine (HV.out _).mono ?_;rintro e w2 ⟨rfl,hb1⟩;clear hPc0 hPf0 hPc1 hPf1;replace hP:=hP.after hb1;replace hBW:=bt hBW hb1;clear hb1;obtain ⟨hPc0,hPf0,hPc1,hPf1⟩:=hP.x2;go_wp2;go_ret2
    exact ⟨by rw [HZ.out,HZB.out];first | rfl | go_num,hBW⟩
   ·have HZ:Hid (sm64 z=0):=by rw [Hid,sm64,if_neg (by omega)]
    have HZB:Hid (sm64B z=false):=decide_eq_false (by omega);have e0:decide ((9223372036854775807:Int)<(n:Int))=true:=decide_eq_true (by omega);clear hn hn8 hlo h;generalize E n=s at HV HS hP hBW ⊢;clear hz hzn hb;obtain ⟨hPc0,hPf0,hPc1,hPf1⟩:=hP.x2;go_enter Tryz.func37,Tryz.ntmps37
    go_wp2_with fail
    refine (HS.out _).mono ?_;rintro e w1 ⟨rfl,rfl⟩;go_wp2_with fail
    refine (HV.out _).mono ?_;rintro e w2 ⟨rfl,hb1⟩;clear hPc0 hPf0 hPc1 hPf1;replace hP:=hP.after hb1;replace hBW:=bt hBW hb1;clear hb1;obtain ⟨hPc0,hPf0,hPc1,hPf1⟩:=hP.x2;go_wp2;go_ret2
    exact ⟨by rw [HZ.out,HZB.out];first | rfl | go_num,hBW⟩
 ·have HS:Hid (∀w,Calls Tryz.prog 65 #[.string (E n)] w fun e w'=>e=.returned (.tuple #[.int .u64 0,.bool false])∧w=w'):=fun w=>small_long n w (by omega) (by rw [hzn];exact h)
  have hn8:18446744073709551616≤n:=by
   have:(256:Nat)^8=18446744073709551616:=by decide
   omega
  have HZ:Hid (sm64 z=0):=by rw [Hid,sm64,if_neg (by omega)]
  have HZB:Hid (sm64B z=false):=decide_eq_false (by omega);rw [←hzn] at HV hP hBW h ⊢;clear hn hn8 h;generalize E n=s at HV HS hP hBW ⊢;generalize sg z=sb at HV hP hBW ⊢;clear hzn;obtain ⟨hPc0,hPf0,hPc1,hPf1⟩:=hP.x2;go_enter Tryz.func37,Tryz.ntmps37
  go_wp2_with fail
  refine (HS.out _).mono ?_;rintro e w1 ⟨rfl,rfl⟩;go_wp2;go_ret2
  exact ⟨by rw [HZ.out,HZB.out];first | rfl | go_num,hBW⟩
end
end Go.Proofs.YtdoacbdkbbpamaaGreatDoor
