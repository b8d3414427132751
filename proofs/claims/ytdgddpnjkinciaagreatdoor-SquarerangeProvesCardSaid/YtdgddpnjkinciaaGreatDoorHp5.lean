import Derived.Test.YtdgddpnjkinciaaGreatDoorWi27
import Derived.Laws.CopyRow
import Derived.Lib.BufferWrite
set_option linter.all false
set_option maxRecDepth 100000
set_option maxHeartbeats 16000000
namespace Go.Proofs.YtdgddpnjkinciaaGreatDoor
section
open Go.RowKit Go.Shelf
def shf (F:Nat→Int) (j:Nat):Int:=if j=0 then F 0 else F (j-1)
theorem shf_eq (F:Nat→Int):(u32f F 8).toArray.toList.take 1++u32f F 7++(u32f F 8).toArray.toList.drop (1+(u32f F 7).length)=u32f (shf F) 8:=by rfl
theorem rnd_set (F:Nat→Int) (kk ww t u:Int) (ht:t=rT F kk ww) (hu:u=tU (F 0) (F 1) (F 2)) :
  ((u32f (shf F) 8).set 4 (.int .u32 ((F 3+t)%4294967296))).set 0 (.int .u32 ((t+u)%4294967296))=u32f (rnd F kk ww) 8:=by
 subst ht hu;rw[u32f_set,u32f_set];refine u32f_congr fun j hj=>?_
 unfold rnd shf;by_cases h0:j=0
 ·rw[if_pos h0,if_pos h0]
 ·rw[if_neg h0];by_cases h4:j=4
  ·rw[if_pos h4,if_neg h0,if_pos h4]
  ·rw[if_neg h4,if_neg h0,if_neg h4,if_neg h0]
theorem z8:Z8.toList=u32f (fun _=>0) 8:=by rfl
theorem after_v (S:Nat→Int) (s:ByteArray) (b o c:Nat) (w:World) (hs:s.size=64) (hA:BytA w b o s) (hc:64≤c) :
  Calls Tryz.prog 225 #[.agg (u32f S 8).toArray,.slice (some ⟨b,o,none⟩) 64 c] w fun e w'=>e=.returned (.agg (u32f (cmp S s) 8).toArray)∧Bw w w':=by
 go_enter Tryz.func225,Tryz.ntmps225
 go_upto_region 1 with fail
 have hf:=((Blk.new w (u32f S 8).toArray 263).as (cs':=u32f S 8) (by simp)).alloc (.cells Z8 263);have he:=(Blk.new (w.alloc (.cells (u32f S 8).toArray 263)) Z8 263).as z8;rw[World.size_alloc]at he;have hg:=ba (b1 w (.cells (u32f S 8).toArray 263)) (.cells Z8 263);generalize (w.alloc (.cells (u32f S 8).toArray 263)).alloc (.cells Z8 263)=w1 at hf he hg ⊢;obtain⟨g4,hR⟩:∃g,w.heap.size+1=g:=⟨_,rfl⟩;obtain⟨g2,hS⟩:∃g,w.heap.size=g:=⟨_,rfl⟩;have Hb:Hid (w.heap.size≤g4):=by rw[Hid];omega
 rw[hR]at he ⊢;rw[hS]at hf ⊢;clear hR hS;go_wp2_with fail
 refine (pconstants_v _).mono ?_;rintro e w2 ⟨rfl,hp⟩;replace hf:=hf.after hp;replace he:=he.after hp;replace hg:=bt hg hp;go_wp2_with fail
 refine (pschedule_v s b o c _ hs (hA.after hg) hc).mono ?_;rintro e w3 ⟨rfl,hq⟩;replace hf:=hf.after hq;replace he:=he.after hq;replace hg:=bt hg hq;have hw:=hg.size;have hm:Hid (g2<w3.heap.size∧g4<w3.heap.size):=⟨hf.lt,he.lt⟩;clear hp hq;have h5:=((Blk.new w3 Z64 270).as z64).alloc (.cells Z64 270);have h6:=(Blk.new (w3.alloc (.cells Z64 270)) Z64 270).as z64;rw[World.size_alloc]at h6;replace hf:=(hf.alloc (.cells Z64 270)).alloc (.cells Z64 270);replace he:=(he.alloc (.cells Z64 270)).alloc (.cells Z64 270);replace hg:=ba (ba hg (.cells Z64 270)) (.cells Z64 270);have Hc:=Kh hg.size
 have hx:Blk (((w3.alloc (.cells Z64 270)).alloc (.cells Z64 270)).setRow w3.heap.size (u32f kC 64).toArray) (w3.heap.size+1) 270 (u32f (fun _=>0) 64):=by
  show ((_:World).setRow _ _).heap[_]?=_;rw[setRow_other _ _ _ _ (by omega)];exact h6
 go_upto_region 2 with (first | (refine wpList_store_row rfl 270 (.tmp 5) (.tmp 18) rfl w3.heap.size (u32f kC 64).toArray rfl rfl 270 _ h5 (size_w64 _) (by simp[u32f]) (u32f_one _ _) ?_) | (refine wpList_store_row rfl 270 (.tmp 6) (.tmp 20) rfl (w3.heap.size+1) (u32f (sW s) 64).toArray rfl rfl 270 _ hx (size_w64 _) (by simp[u32f]) (u32f_one _ _) ?_))
 have hW:=setRow_blk (cs:=(u32f (sW s) 64).toArray) hx
 have hK:Blk ((((w3.alloc (.cells Z64 270)).alloc (.cells Z64 270)).setRow w3.heap.size (u32f kC 64).toArray).setRow (w3.heap.size+1) (u32f (sW s) 64).toArray) w3.heap.size 270 (u32f kC 64):=by
  show ((_:World).setRow _ _).heap[_]?=_;rw[setRow_other _ _ _ _ (by omega)];exact setRow_blk (cs:=(u32f kC 64).toArray) h5
 have Hd:=hf.lt;have He:=he.lt;have hy:=Kh hw
 have hz:Blk ((((w3.alloc (.cells Z64 270)).alloc (.cells Z64 270)).setRow w3.heap.size (u32f kC 64).toArray).setRow (w3.heap.size+1) (u32f (sW s) 64).toArray) g2 263 (u32f S 8):=by
  show (((_:World).setRow _ _).setRow _ _).heap[_]?=_;rw[setRow_other _ _ _ _ (by have:=hm.out;omega),setRow_other _ _ _ _ (by have:=hm.out;omega)];exact hf
 have hT:Blk ((((w3.alloc (.cells Z64 270)).alloc (.cells Z64 270)).setRow w3.heap.size (u32f kC 64).toArray).setRow (w3.heap.size+1) (u32f (sW s) 64).toArray) g4 263 (u32f (fun _=>0) 8):=by
  show (((_:World).setRow _ _).setRow _ _).heap[_]?=_;rw[setRow_other _ _ _ _ (by have:=hm.out;omega),setRow_other _ _ _ _ (by have:=hm.out;omega)];exact he
 have hU:=setRow_below (cs:=(u32f (sW s) 64).toArray) (setRow_below (cs:=(u32f kC 64).toArray) hg (g:=w3.heap.size) hy.out) (g:=w3.heap.size+1) (by have:=hy.out;omega);clear h5 h6 hx hf he hg Hc Hd He;generalize (((w3.alloc (.cells Z64 270)).alloc (.cells Z64 270)).setRow w3.heap.size (u32f kC 64).toArray).setRow (w3.heap.size+1) (u32f (sW s) 64).toArray=w5 at hW hK hz hT hU ⊢;replace hW:Blk w5 (w3.heap.size+1) 270 (u32f (sW s) 64):=hW;obtain⟨g6,hX⟩:∃g,w3.heap.size+1=g:=⟨_,rfl⟩;obtain⟨g5,hY⟩:∃g,w3.heap.size=g:=⟨_,rfl⟩;rw[hX]at hW ⊢;rw[hY]at hK ⊢;clear hY hX hy hm;apply wp_region_lit
 refine wpList_load_row rfl 263 (.tmp 2) rfl g2 rfl 263 _ (0,0) _ hz Tryz.underlying263 rfl (size_s8 _) ?_;have h7:=(Blk.new w5 Z8 263).as z8;have hB:=setRow_below (cs:=(u32f S 8).toArray) (b1 w5 (.cells Z8 263)) (Nat.le_refl _);have hV:=setRow_blk (cs:=(u32f S 8).toArray) h7;go_upto_region 3 with (first | (refine wpList_store_row rfl 263 (.tmp 7) (.tmp 21) rfl w5.heap.size (u32f S 8).toArray rfl rfl 263 _ h7 (size_s8 _) (by simp[u32f]) (u32f_one _ _) ?_))
 clear h7;generalize (w5.alloc (.cells Z8 263)).setRow w5.heap.size (u32f S 8).toArray=w7 at hB hV ⊢;replace hV:Blk w7 w5.heap.size 263 (u32f S 8):=hV;obtain⟨g7,hZ⟩:∃g,w5.heap.size=g:=⟨_,rfl⟩;rw[hZ]at hV ⊢;have hr:Hid (w5.heap.size≤g7):=by rw[Hid];omega
 clear hZ;go_wp2;go_loopw [22] (fun i wr=>∃k:Nat,k≤64∧i=.int .i64 k∧Blk wr g7 263 (u32f (vv s S k) 8)∧Bw w5 wr) (fun i _=>64-(intOf i).toNat)
 case atStart=>exact⟨0,by omega,rfl,hV,hB⟩
 case round =>
  clear hV hB;obtain⟨k,hk,rfl,hV,hh⟩:=hrel;obtain⟨wp,hC⟩:∃wp,wp=wr:=⟨_,rfl⟩;subst hC;by_cases hlt:k<64
  ·have hD:=hK.after hh;have hE:=hW.after hh;have hu:Hid (∀j,j<8→vv s S (k+1) j=rnd (vv s S k) (kC k) (sW s k) j):=fun j _=>rfl
   have ho:Hid (rT (vv s S k) (kC k) (sW s k)=tT (vv s S k 4) (vv s S k 5) (vv s S k 6) (vv s S k 7) (kC k) (sW s k)):=rfl;have ck:wp.cell? ⟨g5,k,none⟩=some (.int .u32 (kC k)):=by rw[hD.cell,u32f_get _ hlt]
   have cw:wp.cell? ⟨g6,k,none⟩=some (.int .u32 (sW s k)):=by rw[hE.cell,u32f_get _ hlt]
   have h0:=hD.lt;have h2:=hE.lt;have hF:=hV.lt;obtain⟨VK,hG⟩:∃F,F=vv s S k:=⟨_,rfl⟩;rw[←hG]at hV hu ho;have HB:=Kh hG;clear hG hD hE;generalize Hf:kC k=kk at ck hu ho;generalize Hg:sW s k=wk at cw hu ho;clear Hf Hg;have c0:wp.cell? ⟨g7,0,none⟩=some (.int .u32 (VK 0)):=by rw[hV.cell,u32f_get _ (by omega)]
   have c1:wp.cell? ⟨g7,1,none⟩=some (.int .u32 (VK 1)):=by rw[hV.cell,u32f_get _ (by omega)]
   have c2:wp.cell? ⟨g7,2,none⟩=some (.int .u32 (VK 2)):=by rw[hV.cell,u32f_get _ (by omega)]
   have c3:wp.cell? ⟨g7,3,none⟩=some (.int .u32 (VK 3)):=by rw[hV.cell,u32f_get _ (by omega)]
   have c4:wp.cell? ⟨g7,4,none⟩=some (.int .u32 (VK 4)):=by rw[hV.cell,u32f_get _ (by omega)]
   have c5:wp.cell? ⟨g7,5,none⟩=some (.int .u32 (VK 5)):=by rw[hV.cell,u32f_get _ (by omega)]
   have c6:wp.cell? ⟨g7,6,none⟩=some (.int .u32 (VK 6)):=by rw[hV.cell,u32f_get _ (by omega)]
   have c7:wp.cell? ⟨g7,7,none⟩=some (.int .u32 (VK 7)):=by rw[hV.cell,u32f_get _ (by omega)]
   obtain⟨y0,hy0⟩:∃y,y=VK 0:=⟨_,rfl⟩;rw[←hy0]at c0;have Hh:=Kh hy0;clear hy0;obtain⟨y1,hy1⟩:∃y,y=VK 1:=⟨_,rfl⟩;rw[←hy1]at c1;have Hi:=Kh hy1;clear hy1;obtain⟨y2,hH⟩:∃y,y=VK 2:=⟨_,rfl⟩;rw[←hH]at c2;have Hj:=Kh hH;clear hH;obtain⟨y3,hI⟩:∃y,y=VK 3:=⟨_,rfl⟩;rw[←hI]at c3;have HC:=Kh hI;clear hI;obtain⟨y4,hJ⟩:∃y,y=VK 4:=⟨_,rfl⟩;rw[←hJ]at c4;have Hk:=Kh hJ;clear hJ;obtain⟨y5,hL⟩:∃y,y=VK 5:=⟨_,rfl⟩;rw[←hL]at c5;have Hl:=Kh hL;clear hL;obtain⟨y6,hM⟩:∃y,y=VK 6:=⟨_,rfl⟩;rw[←hM]at c6;have Hm:=Kh hM;clear hM;obtain⟨y7,hN⟩:∃y,y=VK 7:=⟨_,rfl⟩;rw[←hN]at c7;have Hn:=Kh hN;clear hN;have Ho:Hid (tT y4 y5 y6 y7 kk wk=rT VK kk wk):=by rw[Hid,Hk.out,Hl.out,Hm.out,Hn.out];exact ho.out.symm
   have Hp:Hid (tU y0 y1 y2=tU (VK 0) (VK 1) (VK 2)):=by rw[Hid,Hh.out,Hi.out,Hj.out]
   clear ho;have k1:(0:Int)≤(k:Int):=by omega
   have k2:(k:Int)<64:=by omega
   go_upto_region 6 with fail
   go_cut [9,10,11,12,13,14] (fun s9 s10 s11 s12 s13 s14 wc'=>s9=.int .u32 y0∧s10=.int .u32 y1∧s11=.int .u32 y2∧s12=.int .u32 y4∧s13=.int .u32 y5∧s14=.int .u32 y6∧wc'=wp.drew)
   case first =>
    as_aux_lemma =>
    clear ck cw hK hW;go_wp2_with fail
    go_region;go_wp2_with fail
    go_meet
    exact⟨rfl,rfl,rfl,rfl,rfl,rfl,rfl⟩
   case rest =>
   obtain⟨rfl,rfl,rfl,rfl,rfl,rfl,rfl⟩:=hcut;have hd:=Blk.drewH hV;have hb:=hh.drew;have g7c:=gclH (w:=wp.drew) (a:=⟨g7,7,none⟩) hF c7;have gkc:=gclH (w:=wp.drew) (a:=⟨g5,k,none⟩) h0 ck;have gwc:=gclH (w:=wp.drew) (a:=⟨g6,k,none⟩) h2 cw;clear c0 c1 c2 c3 c4 c5 c6 c7 ck cw hV hh h0 h2;generalize wp.drew=wx at hd hb g7c gkc gwc ⊢;go_upto_region 7 with fail
   go_cut [15] (fun s15 wc'=>s15=.int .u32 (tT y4 y5 y6 y7 kk wk)∧Bw wx wc')
   case first =>
    clear hb hd hK hW;go_wp2_with fail
    refine wp_region_gw (by kernel_rfl) (by kernel_rfl) ?_;repeat (go_big_quiet_step (first | (go_at_call 235;exact gw_of (turn_c _ _ 6 _ rfl (by decide) (by decide))) | (go_at_call 235;exact gw_of (turn_c _ _ 11 _ rfl (by decide) (by decide))) | (go_at_call 235;exact gw_of (turn_c _ _ 25 _ rfl (by decide) (by decide)))))
    refine wpQuiet_nil ?_;rintro w9 ⟨xw9,rfl⟩;have hb9:=gw_below xw9;generalize gw xw9=w9 at hb9;clear g7c gkc gwc;go_wp2_with fail
    go_meet
    exact⟨rfl,hb9⟩
   case rest =>
   obtain⟨rfl,hl⟩:=hcut;rw[Ho.out];obtain⟨wy,Hq⟩:∃wx,wx=wc:=⟨_,rfl⟩;subst Hq;replace hb:=bt hb hl;replace hd:=hd.after hl;clear hl g7c gkc gwc;go_upto_region 8 with fail
   go_cut [16] (fun s16 wc'=>s16=.int .u32 (tU y0 y1 y2)∧Bw wy wc')
   case first =>
    clear hb hd hK hW;go_wp2_with fail
    refine (turn_c _ _ 2 _ rfl (by decide) (by decide)).mono ?_;rintro e wa ⟨rfl,Hr⟩;go_wp2_with fail
    refine (turn_c _ _ 13 _ rfl (by decide) (by decide)).mono ?_;rintro e wb ⟨rfl,Hs⟩;go_wp2_with fail
    refine (turn_c _ _ 22 _ rfl (by decide) (by decide)).mono ?_;rintro e wd ⟨rfl,hbd⟩;have Ht:=bt Hr (bt Hs hbd);go_wp2_with fail
    go_meet
    exact⟨rfl,Ht⟩
   case rest =>
   obtain⟨rfl,hl⟩:=hcut;rw[Hp.out];obtain⟨wd,Hu⟩:∃wx,wx=wc:=⟨_,rfl⟩;subst Hu;replace hb:=bt hb hl;replace hd:=hd.after hl;clear hl;obtain⟨u2,hO⟩:∃u,u=tU (VK 0) (VK 1) (VK 2):=⟨_,rfl⟩;obtain⟨t,ht⟩:∃t,t=rT VK kk wk:=⟨_,rfl⟩;rw[←hO,←ht];have Hv:=Kh hO;have Hw:=Kh ht;clear hO ht;have Hx:=Kh (rnd_set VK kk wk t u2 Hw.out Hv.out);replace hd:=Blk.drewH hd;replace hb:=hb.drew;have hi:=setRow_blk (cs:=((u32f VK 8).toArray.toList.take 1++u32f VK 7++(u32f VK 8).toArray.toList.drop (1+(u32f VK 7).length)).toArray) hd
   have h3:=run_copy_row (P:=Tryz.prog) wd.drew 218 218 3 239 g7 1 7 7 ⟨g7,0,none⟩ 7 8 (u32f VK 8).toArray 263 (u32f VK 7) Tryz.underlying218 (by kernel_rfl) hd (by simp[u32f]) (fun j v hv=>by
    have hj:j<7:=by
     apply Classical.byContradiction
     intro hn;rw[List.getElem?_eq_none (by rw[u32f_len];omega)]at hv;cases hv
    rw[u32f_get _ hj]at hv;rw[show (⟨g7,0,none⟩:Addr).add j=⟨g7,j,none⟩ by unfold Addr.add;split <;> simp_all,hd.cell,u32f_get _ (by omega)];exact hv) (by simp[u32f]) (fun v hv=>by
    obtain⟨j,_,rfl⟩:=List.mem_map.1 hv;rfl)
   have e9:((u32f VK 8).toArray.toList.take 1++u32f VK 7++(u32f VK 8).toArray.toList.drop (1+(u32f VK 7).length)).toArray.toList=u32f (shf VK) 8:=shf_eq VK;rw[e9]at hi;clear e9;have h4:=setRow_below (cs:=((u32f VK 8).toArray.toList.take 1++u32f VK 7++(u32f VK 8).toArray.toList.drop (1+(u32f VK 7).length)).toArray) hb hr.out;generalize ((u32f VK 8).toArray.toList.take 1++u32f VK 7++(u32f VK 8).toArray.toList.drop (1+(u32f VK 7).length)).toArray=xs at h3 hi h4;generalize (u32f VK 7).length=nl at h3;have hF:=hd.lt;clear hd hb;have s0:=hi.cell 0;have s4:=hi.cell 4;have f0:=hi.free 0;have f4:=hi.free 4;have hF:=hi.lt;rw[u32f_get _ (by omega)]at s0 s4;have h8:shf VK 4=VK 3:=rfl;rw[h8]at s4;clear h8;generalize shf VK 0=z0 at s0;obtain⟨z3,hP⟩:∃y,y=VK 3:=⟨_,rfl⟩;rw[←hP]at s4;have Hy:=Kh hP;clear hP;go_wp2_with fail
   go_region;go_wp2;go_roundw
   case rel =>
    refine⟨k+1,by omega,by go_num,?_,(h4.setCell hr.out _).setCell hr.out _⟩;exact Blk.setv (Blk.setv hi (by rw[Hy.out]) rfl) rfl (Hx.out.trans (u32f_congr fun j hj=>(hu.out j hj).symm))
   case measure=>simp[intOf];omega
  ·obtain rfl:k=64:=by omega
   clear hlt hk hK hW;go_wp2;go_loopw [98] (fun i wr=>∃k:Nat,k≤8∧i=.int .i64 k∧Blk wr g7 263 (u32f (fP s S k) 8)∧Bw w5 wr) (fun i _=>8-(intOf i).toNat)
   case atStart=>exact⟨0,by omega,rfl,by rw[fP_zero];exact hV,hh⟩
   case round =>
    clear hV hh;obtain⟨k,hk,rfl,hV,hh⟩:=hrel;obtain⟨wp,hC⟩:∃wp,wp=wr:=⟨_,rfl⟩;subst hC;have h9:=hz.after hh;by_cases hlt:k<8
    ·have c1:=fP_at hV hlt;have c2:wp.cell? ⟨g2,k,none⟩=some (.int .u32 (S k)):=by rw[h9.cell,u32f_get _ hlt]
     have Hz:=Kh (fP_set s S k);have hQ:Hid (cmp S s k=(vv s S 64 k+S k)%4294967296):=rfl;generalize vv s S 64 k=x at c1 hQ;generalize S k=y at c2 hQ;have f1:=hV.free k;have l1:=hV.lt;have l2:=h9.lt;have k1:(0:Int)≤(k:Int):=by omega
     have k2:(k:Int)<8:=by omega
     go_wp2_with fail
     go_region;go_wp2;go_roundw
     case rel=>exact⟨k+1,by omega,by go_num,Blk.drewH (Blk.setv hV (by rw[hQ.out]) Hz.out),(hh.setCell hr.out _).drew⟩
     case measure=>simp[intOf];omega
    ·obtain rfl:k=8:=by omega
     have Ha:=hT.after hh;have HA:=bt hU hh;go_upto_region 18 with fail
     apply wp_region_lit
     refine wpList_load_row rfl 263 (.tmp 7) rfl g7 rfl 263 _ (0,0) _ hV Tryz.underlying263 rfl (size_s8 _) ?_;refine wpList_store_row rfl 263 (.tmp 4) (.tmp 110) rfl g4 _ rfl rfl 263 _ Ha (size_s8 _) (by simp[u32f]) (u32f_one _ _) ?_;apply wpList_nil
     go_wp2;refine bodyPost_ret (v:=.agg (u32f (fP s S 8) 8).toArray) ?_ rfl ⟨?_,setRow_below HA Hb.out⟩
     ·refine results_cell_row (p:=4) (ty:=263) rfl _ _ g4 263 _ (0,0) _ rfl (setRow_heap _ _ _ _ _ _ Ha) Tryz.underlying263 rfl (size_s8 _)
     ·rw[u32f_congr (f:=fP s S 8) (g:=cmp S s) fun j hj=>by rw[fP,if_pos hj]]
end
section
open Go.RowKit Go.Shelf
theorem own_capS {w:World} {base g n c size:Nat} {e:TypeId} {xs:List Value} (h:w.ownsRow base e size (.slice (some ⟨g,0,none⟩) n c) n xs):g<w.heap.size∧n≤c:=by
 rcases h.2 with⟨h1,h2⟩ | ⟨g',cap,cur,hv,h3,h4,h5,_⟩
 ·cases h1
 ·injection hv with e1 e2 e3
  injection e1 with e1
  injection e1 with e1
  subst e1 e3;exact⟨(Array.getElem?_eq_some_iff.1 h4).1,h5⟩
theorem run_mk2 {P:Program} {t e:TypeId} {k:IntKind} {bytes:Nat} (ht:P.underlying t=some (.slice e)) (hi:(P.info? e).map (fun i=>(i.zero,i.size,i.bytes))=some (some (.int k 0),1,bytes))
  (n c:Nat) (he:n≤c) (hb:bytes*c≤281474976710656) (hm:c≤4611686018427387904) (w:World) :
  (Instr.makeSlice t (.int .i64 (n:Int)) (.int .i64 (c:Int))).run P w=.ok (.slice (some ⟨w.heap.size,0,none⟩) n c) (w.alloc (.cells (List.replicate c (Value.int k 0)).toArray e)):=by
 obtain⟨i,hc,hz,hs,hd⟩:=info_parts hi;have h:=run_make (P:=P) w t e i (.int k 0) ht hc hz .i64 .i64 (n:Int) (c:Int) (by omega) (by omega) (by rw[hd];have h:((bytes*c:Nat):Int)≤((281474976710656:Nat):Int):=Int.ofNat_le.2 hb;rw[Int.natCast_mul]at h;exact h) (by omega);rw[hs,Nat.mul_one,Int.toNat_natCast,Int.toNat_natCast]at h
 have e1:madeCells (Value.int k 0).cells c=(List.replicate c (Value.int k 0)).toArray:=by
  have:=toList_madeCells_one (.int k 0) c;rw[←this];simp[Value.cells]
 rw[e1]at h;exact h
theorem agg_u32 (w:World):(isAgg 239).run Tryz.prog w=.ok false w:=by
 simp[isAgg,run_underlying Tryz.underlying239,go_sem]
theorem size_u32:(Tryz.prog.info? 239).map (fun i=>i.size)=some 1:=by kernel_rfl
theorem ixS (F:Nat→Int) (i:Nat) (hi:i<8) (w:World):(Instr.index 263 (.agg (u32f F 8).toArray) (.int .i64 (i:Int))).run Tryz.prog w=.ok (.int .u32 (F i)) w:=
 run_index_agg 263 239 8 _ .i64 i _ Tryz.underlying263 (by omega) (by omega) size_u32 (agg_u32 w) (by rw[Int.toNat_natCast,List.getElem?_toArray];exact u32f_get F hi)
theorem psum_v (s:ByteArray) (w:World) (hs:s.size≤1000) :
  Calls Tryz.prog 217 #[.string s] w fun e w'=>e=.returned (.string (sumV s))∧Bw w w':=by
 obtain⟨i0,Hf,hH,hI,hJ⟩:=info_parts info_u8;have hU:=Kh Hf;have hV:=Kh hH;have hW:=Kh hI;have hY:=Kh hJ;clear Hf hH hI hJ;obtain⟨n,hn⟩:∃n,n=s.size:=⟨_,rfl⟩;obtain⟨c,hc⟩:∃c,c=n+72:=⟨_,rfl⟩;have Hg:∀W:World,(Instr.makeSlice 137 (.int .i64 (n:Int)) (.int .i64 (c:Int))).run Tryz.prog W=.ok (.slice (some ⟨W.heap.size,0,none⟩) n c) (W.alloc (.cells (List.replicate c (Value.int .u8 0)).toArray 5)):=run_mk2 (P:=Tryz.prog) Tryz.underlying137 info_u8 n c (by omega) (by omega) (by omega);have HS:IntKind.i64.wrap ((n:Int)+72)=(c:Int):=by rw[IntWalk.i64_in _ (by omega)];omega
 have Hh:s.size=n:=hn.symm;obtain⟨Z,hZ⟩:∃Z:Array Value,Z=(List.replicate c (Value.int .u8 0)).toArray:=⟨_,rfl⟩;have hB:=Blk.new w Z 5;have Hi:=b1 w (.cells Z 5);rw[←hZ]at Hg;have HZ:=Kh hZ;have HN:=Kh hn;have HC:=Kh hc;clear hZ hn hc;go_enter Tryz.func217,Tryz.ntmps217
 go_upto_region 2 with fail
 have h5:=Lib.run_copy_row_string (P:=Tryz.prog) (w.alloc (.cells Z 5)) 137 9 3 5 w.heap.size 0 n c s Z 5 Tryz.underlying137 (by kernel_rfl) (heap_alloc_new w _) (by omega) (by rw[HZ.out];simp;have:=HC.out;omega)
 have hO:((w.alloc (.cells Z 5)).setRow w.heap.size (Z.toList.take 0++Lib.byteCells s.data.toList++Z.toList.drop (0+s.size)).toArray).ownsRow w.heap.size 5 1 (.slice (some ⟨w.heap.size,0,none⟩) n c) n (u8s s.data.toList):=by
  have hl:s.data.toList.length=n:=by rw[Array.length_toList];exact Hh
  refine⟨by rw[u8s,List.length_map,hl,Nat.mul_one],.inr ⟨w.heap.size,c,_,rfl,Nat.le_refl _,setRow_heap _ _ _ _ _ (0,0) (heap_alloc_new w _),by have:=HC.out;omega,by have:=HC.out;simp only[maxLen];omega,?_,?_⟩⟩
  ·rw[HZ.out];have Hu:s.data.size=s.size:=rfl;simp[Lib.byteCells,Hu];have:=HC.out;omega
  ·rw[List.take_zero,List.nil_append,Nat.mul_one];show List.take n (Lib.byteCells s.data.toList++_)=_;rw[List.take_append_of_le_length (by rw[Lib.byteCells,List.length_map,hl];exact Nat.le_refl _),List.take_of_length_le (by rw[Lib.byteCells,List.length_map,hl];exact Nat.le_refl _)];rfl
 have hK:=setRow_below (cs:=(Z.toList.take 0++Lib.byteCells s.data.toList++Z.toList.drop (0+s.size)).toArray) Hi (g:=w.heap.size) (Nat.le_refl _);generalize (Z.toList.take 0++Lib.byteCells s.data.toList++Z.toList.drop (0+s.size)).toArray=xs at h5 hO hK;have hw:s.data.toList.length=n:=by rw[Array.length_toList];exact Hh
 have hy:=Kh hw;generalize (w.alloc (.cells Z 5)).setRow w.heap.size xs=w2 at h5 hO hK;clear hw hB Hi;go_upto_region 3 with fail
 have h7:=hK.size;clear h5;go_wp2_with (at_builtin;refine wpList_append_lies _ rfl (.tmp 19) (.tmp 20) _ rfl w.heap.size 5 i0 _ 1 1 Tryz.underlying137 hU.out hV.out hW.out hY.out rfl (by omega) (.slice (some ⟨w.heap.size,0,none⟩) n c) n (u8s s.data.toList) rfl (own_after hO (b1 _ (.cells #[.int .u8 128] 5))) ⟨w2.heap.size,0,none⟩ 1 1 [.int .u8 128] rfl rfl (Blk.new w2 #[.int .u8 128] 5).cells (by simp[Value.oneCell']) (by omega) (by simp only[maxLen];omega) (by omega) (by rw[World.size_alloc];omega) (w2.heap.size+1) (by simp) ?_;intro ga ca wz hg hf hz hi)
 have hC:BOwn wz w.heap.size (.slice (some ⟨ga,0,none⟩) (n+1) ca) (s.data.toList++[128]):=by
  rw[BOwn,List.length_append,hy.out,u8s,List.map_append];exact hg
 have hM:=(ba hK (.cells #[.int .u8 128] 5)).grown hf (by rw[World.size_alloc];omega) (fun x hx=>(own_lt hO hx).2);clear hg hf hz hi hO hK h7;obtain⟨N2,HU,HV,HW⟩:∃T,T%64=56∧n<T∧T≤n+64:=⟨n+1+(120-(n+1)%64)%64,by omega,by omega,by omega⟩;go_loopw [3] (fun v wr=>∃(k:Nat) (l:List UInt8) (g2 cc:Nat),v=.slice (some ⟨g2,0,none⟩) (n+1+k) cc∧Hid (l=s.data.toList++[128]++List.replicate k 0)∧Hid (l.length=n+1+k)∧n+1+k≤N2∧BOwn wr w.heap.size v l∧Bw w wr) (fun v _=>N2-(match v with | .slice _ m _=>m | _=>0))
 case atStart=>exact⟨0,_,ga,ca,rfl,by simp[Hid],by rw[Hid,List.length_append,hy.out];rfl,by omega,hC,hM⟩
 case round =>
  obtain⟨k,l,g2,cc,rfl,hD,hp,HX,hO,hh⟩:=hrel;obtain⟨wp,hN⟩:∃wp,wp=wr:=⟨_,rfl⟩;subst hN;by_cases he:(n+1+k)%64=56
  ·have hd:(((n+1+k:Nat):Int)%64 != 56)=false:=by rw[bne_eq_false_iff_eq];omega
   have Hv:Hid (k=zc s.size):=by rw[Hid,zc];omega
   obtain⟨q,hq⟩:∃q,q=n*8:=⟨_,rfl⟩;have HQ:=Kh hq;have Hw:IntKind.u64.wrap (n:Int)=(n:Int):=by rw[IntKind.wrap_u64];omega
   have Hx:IntKind.u64.wrap ((n:Int)*8)=(q:Int):=by rw[IntKind.wrap_u64];omega
   have HY:q≤8000:=by omega
   clear hq he;go_wp2;clear hd Hw Hx;generalize (((n:Int)+1+(k:Int))%64 != 56)=bb25;go_loopw [3,5] (fun v i wr=>∃(j:Nat) (l:List UInt8) (g2 cc:Nat),j≤8∧i=.int .i64 (56-8*(j:Int))∧v=.slice (some ⟨g2,0,none⟩) (n+1+k+j) cc∧Hid (l=s.data.toList++[128]++List.replicate k 0++(be8L q).take j)∧Hid (l.length=n+1+k+j)∧BOwn wr w.heap.size v l∧Bw w wr) (fun _ i _=>(intOf i+8).toNat)
   case atStart=>exact⟨0,l,g2,cc,by omega,rfl,rfl,by rw[Hid,hD.out];simp,hp.out,hO,hh⟩
   case round =>
    clear hO hh hD hp;obtain⟨j,l,g2,cc,hj,rfl,rfl,hD,hp,hO,hh⟩:=hrel;obtain⟨wp,hN⟩:∃wp,wp=wr:=⟨_,rfl⟩;subst hN;by_cases hlt:j<8
    ·obtain⟨sh,h8⟩:∃sh:Nat,56-8*(j:Int)=(sh:Int):=⟨56-8*j,by omega⟩;obtain⟨qq,h9⟩:∃qq,qq=q / 256^(7-j):=⟨_,rfl⟩
     have H0:(q:Int) / 2^sh=(qq:Int):=by
      rw[h9,Int.natCast_ediv];congr 1
      rw[show sh=8*(7-j) by omega,show (256:Nat)^(7-j)=2^(8*(7-j)) by rw[Nat.pow_mul],Int.natCast_pow];rfl
     have Hy:Hid ((be8L q).take (j+1)=(be8L q).take j++[UInt8.ofNat (qq%256)]):=by
      rw[Hid,List.take_add_one,h9];congr 1
      rw[be8L,List.getElem?_map,List.getElem?_range hlt];rfl
     have Hz:Hid (Value.int .u8 ((qq:Int)%256)=u8v (UInt8.ofNat (qq%256))):=by
      rw[Hid,byteZ];congr 2
     have s0:(0:Int)≤(sh:Int):=by omega
     have s1:(sh:Int)≤64:=by omega
     have Hj:=Kh h8;rw[h8];clear h8 h9;have ho:wp.ownsRow w.heap.size 5 1 (.slice (some ⟨g2,0,none⟩) (n+1+k+j) cc) (n+1+k+j) (u8s l):=by have h:wp.ownsRow _ _ _ _ _ _:=hO;rw[hp.out]at h;exact h
     have Ha:=hh.size;go_wp2_with (at_builtin;refine wpList_append_lies _ rfl (.tmp 37) (.tmp 42) _ rfl w.heap.size 5 i0 _ 1 1 Tryz.underlying137 hU.out hV.out hW.out hY.out rfl (by omega) (.slice (some ⟨g2,0,none⟩) (n+1+k+j) cc) (n+1+k+j) (u8s l) rfl (own_after ho (b1 _ (.cells #[.int .u8 ((qq:Int)%256)] 5))) ⟨wp.heap.size,0,none⟩ 1 1 [.int .u8 ((qq:Int)%256)] rfl rfl (Blk.new wp #[.int .u8 ((qq:Int)%256)] 5).cells (by simp[Value.oneCell']) (by omega) (by simp only[maxLen];omega) (by omega) (by rw[World.size_alloc];omega) (wp.heap.size+1) (by simp) ?_;intro ga ca wz hg hf hz hi)
     have hC:BOwn wz w.heap.size (.slice (some ⟨ga,0,none⟩) (n+1+k+j+1) ca) (l++[UInt8.ofNat (qq%256)]):=by
      rw[BOwn,List.length_append,hp.out,u8s,List.map_append];rw[Hz.out]at hg;exact hg
     have hM:=(ba hh (.cells #[.int .u8 ((qq:Int)%256)] 5)).grown hf (by rw[World.size_alloc];omega) (fun x hx=>(own_lt ho hx).2);clear hg hf hz hi hO ho hh;have H1:IntKind.i64.wrap ((sh:Int)-8)=(sh:Int)-8:=by rw[IntWalk.i64_in _ (by omega)]
     go_wp2;go_roundw
     case rel=>exact⟨j+1,_,ga,ca,by omega,vi (by have:=Hj.out;omega),rfl,by rw[Hid,hD.out,Hy.out,List.append_assoc _ _ [UInt8.ofNat (qq%256)]],by rw[Hid,List.length_append,hp.out];rfl,hC,hM⟩
     case measure=>simp[intOf];have:=Hj.out;omega
    ·obtain rfl:j=8:=by omega
     have h0:Hid (l=(padV s).data.toList):=by
      rw[Hid,hD.out,Hv.out,HQ.out,←hy.out];show _=((s++(⟨#[128]⟩:ByteArray))++zb (zc s.size)++(⟨(be8L (s.size*8)).toArray⟩:ByteArray)).data.toList;rw[ByteArray.data_append,ByteArray.data_append,ByteArray.data_append];have HA:(be8L (s.data.toList.length*8)).take 8=be8L (s.data.toList.length*8):=List.take_of_length_le (by rw[be8_len];exact Nat.le_refl _);rw[HA];simp[zb]
     have Hb:Hid (l.length=(padV s).size):=by rw[h0.out,Array.length_toList];rfl
     obtain⟨t,hP⟩:∃t,t=padV s:=⟨_,rfl⟩;obtain⟨m,Hk⟩:∃m,m=t.size / 64:=⟨_,rfl⟩
     have ht:t.size=64*m:=by
      have h:=padV_size s;rw[←hP]at h;omega
     have hm:m≤100:=by
      have h:=padV_size s;rw[←hP]at h;split at h <;> omega
     have Hl:Hid (sumV s=⟨(wL (stHN t m) 8).toArray⟩):=by rw[Hid,Hk,hP];rfl
     rw[←hP]at h0 Hb;have hQ:n+1+k+8=64*m:=by rw[←ht,←Hb.out,hp.out]
     have ho:wp.ownsRow w.heap.size 5 1 (.slice (some ⟨g2,0,none⟩) (n+1+k+8) cc) (n+1+k+8) (u8s l):=by have h:wp.ownsRow _ _ _ _ _ _:=hO;rw[hp.out]at h;exact h
     rw[hQ]at ho ⊢
     have hA:BytA wp g2 0 t:=by
      refine⟨(own_capS ho).1,fun j hj=>?_⟩;rw[Nat.zero_add];refine own_cellS ho j _ ?_;rw[u8s,List.getElem?_map,h0.out,Array.getElem?_toList,Array.getElem?_eq_getElem hj,byt,Array.getD_eq_getD_getElem?,Array.getElem?_eq_getElem hj];rfl
     have H2:64*m≤cc:=(own_capS ho).2;have HT:=Kh ht;clear hP Hk hQ hO ho hD hp h0 Hb Hg;go_wp2_with fail
     refine (pfirst_v _).mono ?_;rintro e w4 ⟨rfl,hb4⟩;replace hA:=hA.after hb4;replace hh:=bt hh hb4;clear hb4;have h6:=(Blk.new w4 Z8 263).as z8;have Hm:=b1' w4 (.cells Z8 263);have Hc:=setRow_below (cs:=(u32f iC 8).toArray) Hm (Nat.le_refl _);have hX:=setRow_blk (cs:=(u32f iC 8).toArray) h6;go_upto_region 12 with (first | (refine wpList_store_rowTo rfl 263 (.tmp 6) (.tmp 44) rfl rfl w4.heap.size (u32f iC 8).toArray rfl rfl 263 _ h6 (size_s8 _) (by simp[u32f]) (u32f_one _ _) ?_))
     generalize (w4.alloc (.cells Z8 263)).setRow w4.heap.size (u32f iC 8).toArray=w6 at Hc hX ⊢;replace hX:Blk w6 w4.heap.size 263 (u32f iC 8):=hX;obtain⟨gx,Hn⟩:∃g,w4.heap.size=g:=⟨_,rfl⟩;rw[Hn]at hX ⊢;have HB:Hid (w4.heap.size≤gx):=by rw[Hid];omega
     clear Hn h6 Hm;go_loopw [3] (fun v wr=>∃(b o r c':Nat),b≤m∧Hid (b<m→o=64*b)∧Hid (r+64*b=64*m)∧Hid (c'+64*b=cc)∧v=.slice (some ⟨g2,o,none⟩) r c'∧Blk wr gx 263 (u32f (stHN t b) 8)∧Bw w4 wr) (fun v _=>match v with | .slice _ r _=>r | _=>0)
     case atStart=>exact⟨0,0,64*m,cc,by omega,fun _=>rfl,by simp[Hid],by simp[Hid],rfl,hX,Hc⟩
     case round =>
      clear hX Hc;obtain⟨b,o,r,c',H3,HO,HR,hR,rfl,hX,hu⟩:=hrel;obtain⟨wp,hN⟩:∃wp,wp=wr:=⟨_,rfl⟩;subst hN;by_cases hlt:b<m
      ·replace HO:Hid (o=64*b):=HO.out hlt;have HD:64≤r:=by have:=HR.out;omega
       have Hd:64≤c':=by have:=HR.out;have:=hR.out;omega
       have H4:r≤c':=by have:=HR.out;have:=hR.out;omega
       have hd:decide ((0:Int)<(r:Int))=true:=Dt (by omega);have Ho:=hA.after hu;have Hp:Hid ((t.extract (64*b) (64*b+64)).size=64):=by rw[Hid,ByteArray.size_extract];have:=HT.out;omega
       have HE:Hid (∀W,Bw wp W→BytA W g2 o (t.extract (64*b) (64*b+64))):=fun W hb=>by
        have h:=Ho.after hb;refine⟨h.1,fun j hj=>?_⟩;rw[Hp.out]at hj;have h2:=h.2 (64*b+j) (by have:=HT.out;omega);rw[Nat.zero_add]at h2;rw[HO.out,h2];congr 2
        rw[byt,byt,ByteArray.data_extract,Array.getD_eq_getD_getElem?,Array.getD_eq_getD_getElem?,Array.getElem?_extract,if_pos (by
         show j<min (64*b+64) t.data.size-64*b;have h3:t.data.size=t.size:=rfl;have:=HT.out;omega)]
       have HF:Hid (∀W,Bw wp W→Calls Tryz.prog 225 #[.agg #[.int .u32 (stHN t b 0),.int .u32 (stHN t b 1),.int .u32 (stHN t b 2),.int .u32 (stHN t b 3),.int .u32 (stHN t b 4),.int .u32 (stHN t b 5),.int .u32 (stHN t b 6),.int .u32 (stHN t b 7)],.slice (some ⟨g2,o,none⟩) 64 c'] W fun e w'=>e=.returned (.agg (u32f (stHN t (b+1)) 8).toArray)∧Bw W w'):=fun W hb=>after_v (stHN t b) (t.extract (64*b) (64*b+64)) g2 o c' W Hp.out (HE.out W hb) Hd
       clear hA hh;have gc0:=gclH (a:=⟨gx,0,none⟩) hX.lt ((hX.cell 0).trans (u32f_get (stHN t b) (by decide:0<8)));have gc1:=gclH (a:=⟨gx,1,none⟩) hX.lt ((hX.cell 1).trans (u32f_get (stHN t b) (by decide:1<8)));have gc2:=gclH (a:=⟨gx,2,none⟩) hX.lt ((hX.cell 2).trans (u32f_get (stHN t b) (by decide:2<8)));have gc3:=gclH (a:=⟨gx,3,none⟩) hX.lt ((hX.cell 3).trans (u32f_get (stHN t b) (by decide:3<8)));have gc4:=gclH (a:=⟨gx,4,none⟩) hX.lt ((hX.cell 4).trans (u32f_get (stHN t b) (by decide:4<8)));have gc5:=gclH (a:=⟨gx,5,none⟩) hX.lt ((hX.cell 5).trans (u32f_get (stHN t b) (by decide:5<8)));have gc6:=gclH (a:=⟨gx,6,none⟩) hX.lt ((hX.cell 6).trans (u32f_get (stHN t b) (by decide:6<8)));have gc7:=gclH (a:=⟨gx,7,none⟩) hX.lt ((hX.cell 7).trans (u32f_get (stHN t b) (by decide:7<8)));go_wp2;go_wp2_with fail
       refine wp_region_gw_tail 4 (by kernel_rfl) (by kernel_rfl) ?_;simp only[List.take_succ_cons,List.take_zero,List.drop_succ_cons,List.drop_zero];repeat (go_big_quiet_step (first | (go_at_call 225;exact gw_of (HF.out _ (gw_below _)))))
       refine wpQuiet_nil ?_;rintro w9 ⟨xw9,rfl⟩;have hb9:=gw_below xw9;generalize gw xw9=w9 at hb9;have He:=hX.after hb9;have hS:=bt hu hb9;clear gc0 gc1 gc2 gc3 gc4 gc5 gc6 gc7;clear hX hu hb9 Ho;refine wpList_store_rowTo rfl 263 (.tmp 6) (.tmp 53) rfl rfl gx (u32f (stHN t (b+1)) 8).toArray rfl rfl 263 _ He (size_s8 _) (by simp[u32f]) (u32f_one _ _) ?_;have Hq:Blk (w9.setRow gx (u32f (stHN t (b+1)) 8).toArray) gx 263 (u32f (stHN t (b+1)) 8):=setRow_blk (cs:=(u32f (stHN t (b+1)) 8).toArray) He;have hT:=setRow_below (cs:=(u32f (stHN t (b+1)) 8).toArray) hS HB.out;generalize w9.setRow gx (u32f (stHN t (b+1)) 8).toArray=wA at Hq hT ⊢;clear He hS;apply wpList_nil
       go_wp2_with fail
       go_roundw
       case rel =>
        refine⟨b+1,if c'=64 then o else o+64,r-64,c'-64,by omega,fun H5=>?_,by rw[Hid];have:=HR.out;omega,by rw[Hid];have:=hR.out;omega,?_,Hq,hT⟩
        ·rw[if_neg (by have:=HR.out;have:=hR.out;omega),HO.out];omega
        ·by_cases hq:c'=64
         ·rw[if_pos hq,if_pos hq]
         ·rw[if_neg hq,if_neg hq]
       case measure=>show r-64<r;omega
      ·obtain rfl:b=m:=by omega
       replace hh:=bt hh hu;clear hu HO hR hA;obtain⟨F,hF⟩:∃F,F=stHN t b:=⟨_,rfl⟩;rw[←hF]at hX Hl;clear hF;have HG:r=0:=by have:=HR.out;omega
       have hd:decide ((0:Int)<(r:Int))=false:=by rw[decide_eq_false_iff_not];omega
       go_upto_region 16 with fail
       clear hd HG HR hlt;apply wp_region_lit
       refine wpList_load_row rfl 263 (.tmp 6) rfl gx rfl 263 _ (0,0) _ hX Tryz.underlying263 rfl (size_s8 _) ?_;clear hX;have hE:∀(k:Nat) (W:World),k<8→(Instr.index 263 (.agg (u32f F 8).toArray) (.int .i64 (k:Int))).run Tryz.prog W=.ok (.int .u32 (F k)) W:=fun k W h=>ixS F k h W
       obtain⟨AG,Hr⟩:∃A,A=(u32f F 8).toArray:=⟨_,rfl⟩;rw[←Hr]at hE ⊢;clear Hr;have HH:=Kh hE;clear hE;go_wp2_with fail
       go_loopw [7,55] (fun v i wr=>∃(k':Nat) (l:List UInt8),k'≤8∧i=.int .i64 k'∧Hid (l=wL F k')∧Hid (l.length=4*k')∧BOwn wr w.heap.size v l∧Bw w wr) (fun _ i _=>8-(intOf i).toNat)
       case atStart=>exact⟨0,[],by omega,rfl,rfl,rfl,World.ownsRow_nil _ _ _ _,hh⟩
       case round =>
        clear hh;obtain⟨k',l,hk,rfl,Hs,HL,hO,hh⟩:=hrel;obtain⟨wq,HI⟩:∃wp,wp=wr:=⟨_,rfl⟩;subst HI;by_cases hlt:k'<8
        ·have hE:∀W:World,(Instr.index 263 (.agg AG) (.int .i64 (k':Int))).run Tryz.prog W=.ok (.int .u32 (F k')) W:=fun W=>HH.out k' W hlt
         have Ht:Hid (wL F (k'+1)=l++Go.Proofs.YtdgddpnjkinciaaGreatDoor.w4 (F k')):=by rw[Hid,Hs.out];rfl
         generalize F k'=x at hE Ht;have H6:(0:Int)≤(k':Int):=by omega
         have H7:(k':Int)<8:=by omega
         have hG:wq.ownsRow w.heap.size 5 1 u7 (4*k') (u8s l):=by have h:wq.ownsRow _ _ _ _ _ _:=hO;rw[HL.out]at h;exact h
         have HJ:Hid (u8s (l++[UInt8.ofNat (x / 16777216%256).toNat,UInt8.ofNat (x / 65536%256).toNat,UInt8.ofNat (x / 256%256).toNat,UInt8.ofNat (x%256).toNat])=u8s l++[.int .u8 (x / 16777216%256),.int .u8 (x / 65536%256),.int .u8 (x / 256%256),.int .u8 (x%256)]):=by
          rw[Hid,u8s,List.map_append,byteZ,byteZ,byteZ,byteZ];rfl
         have HK:=hh.size;go_wp2_with (at_builtin;refine wpList_append_lies _ rfl (.tmp 58) (.tmp 70) _ rfl w.heap.size 5 i0 _ 1 1 Tryz.underlying137 hU.out hV.out hW.out hY.out rfl (by omega) u7 (4*k') (u8s l) rfl (own_after hG (b1 _ (.cells #[.int .u8 (x / 16777216%256),.int .u8 (x / 65536%256),.int .u8 (x / 256%256),.int .u8 (x%256)] 5))) ⟨wq.heap.size,0,none⟩ 4 4 [.int .u8 (x / 16777216%256),.int .u8 (x / 65536%256),.int .u8 (x / 256%256),.int .u8 (x%256)] rfl rfl (Blk.new wq #[.int .u8 (x / 16777216%256),.int .u8 (x / 65536%256),.int .u8 (x / 256%256),.int .u8 (x%256)] 5).cells (by simp[Value.oneCell']) (by omega) (by simp only[maxLen];omega) (by omega) (by rw[World.size_alloc];omega) (wq.heap.size+1) (by simp) ?_;intro ga ca wz hg hf hz hi)
         have hC:BOwn wz w.heap.size (.slice (some ⟨ga,0,none⟩) (4*k'+4) ca) (l++[UInt8.ofNat (x / 16777216%256).toNat,UInt8.ofNat (x / 65536%256).toNat,UInt8.ofNat (x / 256%256).toNat,UInt8.ofNat (x%256).toNat]):=by
          rw[BOwn,HJ.out,List.length_append,HL.out];exact hg
         have HM:=(ba hh (.cells #[.int .u8 (x / 16777216%256),.int .u8 (x / 65536%256),.int .u8 (x / 256%256),.int .u8 (x%256)] 5)).grown hf (by rw[World.size_alloc];omega) (fun x hx=>(own_lt hG hx).2);clear hg hf hz hi hG hO hE;go_wp2;go_roundw
         case rel=>exact⟨k'+1,_,by omega,by go_num,by rw[Hid,Ht.out];rfl,by rw[Hid,List.length_append,HL.out];simp;omega,hC,HM⟩
         case measure=>simp[intOf];omega
        ·obtain rfl:k'=8:=by omega
         have hG:wq.ownsRow w.heap.size 5 1 u7 32 (u8s l):=by have h:wq.ownsRow _ _ _ _ _ _:=hO;rw[HL.out]at h;exact h
         rcases hG.2 with⟨hv,h2⟩ | ⟨g9,cap,cur,hv,h3,h4,_⟩
         ·omega
         ·subst hv
          have hr:Row wq g9 0 l:=fun j hj=>by
           have h:=own_cellS hG j (u8v l[j]) (by simp[u8s,hj]);rw[Nat.zero_add];exact h
          have HP:=row_str (c:=cap) hr;rw[HL.out]at HP;have hL:=HL.out;go_wp2;go_ret
          exact⟨by rw[Hl.out,←Hs.out];rfl,hh⟩
  ·have hd:(((n+1+k:Nat):Int)%64 != 56)=true:=by rw[bne_iff_ne];omega
   have H8:n+1+k<N2:=by omega
   have ho:wp.ownsRow w.heap.size 5 1 (.slice (some ⟨g2,0,none⟩) (n+1+k) cc) (n+1+k) (u8s l):=by have h:wp.ownsRow _ _ _ _ _ _:=hO;rw[hp.out]at h;exact h
   have Ha:=hh.size;go_wp2_with (at_builtin;refine wpList_append_lies _ rfl (.tmp 26) (.tmp 27) _ rfl w.heap.size 5 i0 _ 1 1 Tryz.underlying137 hU.out hV.out hW.out hY.out rfl (by omega) (.slice (some ⟨g2,0,none⟩) (n+1+k) cc) (n+1+k) (u8s l) rfl (own_after ho (b1 _ (.cells #[.int .u8 0] 5))) ⟨wp.heap.size,0,none⟩ 1 1 [.int .u8 0] rfl rfl (Blk.new wp #[.int .u8 0] 5).cells (by simp[Value.oneCell']) (by omega) (by simp only[maxLen];omega) (by omega) (by rw[World.size_alloc];omega) (wp.heap.size+1) (by simp) ?_;intro ga ca wz hg hf hz hi)
   have hC:BOwn wz w.heap.size (.slice (some ⟨ga,0,none⟩) (n+1+k+1) ca) (l++[0]):=by
    rw[BOwn,List.length_append,hp.out,u8s,List.map_append];exact hg
   have hM:=(ba hh (.cells #[.int .u8 0] 5)).grown hf (by rw[World.size_alloc];omega) (fun x hx=>(own_lt ho hx).2);clear hg hf hz hi hO ho hh;go_wp2;go_roundw
   case rel=>exact⟨k+1,_,ga,ca,rfl,by rw[Hid,hD.out,List.replicate_succ',List.append_assoc],by rw[Hid,List.length_append,hp.out];rfl,by omega,hC,hM⟩
   case measure=>show N2-(n+1+k+1)<N2-(n+1+k);omega
end
end Go.Proofs.YtdgddpnjkinciaaGreatDoor
