import Derived.Test.YtihjpddbjhcbmaaGreatDoorHp2
import Derived.Test.YtihjpddbjhcbmaaGreatDoorSat1
import Derived.Lib.ItoaNum
set_option linter.unusedVariables false
set_option linter.unusedSimpArgs false
set_option maxRecDepth 100000
set_option maxHeartbeats 16000000
namespace Go.Proofs.YtihjpddbjhcbmaaGreatDoor
section
open Go.RowKit Go.Shelf
theorem WdA.app {w:World} {g:Nat} {xs Z:Array Value} {n:Nat} {F:Nat→Int} (h:Blk w g 324 (xs++Z).toList) (hx:xs.toList=u32f F n):WdA w g n F:=by
 refine⟨h.lt,fun j hj=>?_⟩;rw[h.cell,Array.toList_append,List.getElem?_append_left (by rw[hx,u32f_len];exact hj),hx,u32f_get F hj]
theorem wda8 (w:World) (F:Nat→Int) (a0 a1 a2 a3 a4 a5 a6 a7:Int) (h0:a0=F 0) (h1:a1=F 1) (h2:a2=F 2) (h3:a3=F 3) (h4:a4=F 4) (h5:a5=F 5) (h6:a6=F 6) (h7:a7=F 7) :
  Blk (w.alloc (.cells #[.int .u32 a0,.int .u32 a1,.int .u32 a2,.int .u32 a3,.int .u32 a4,.int .u32 a5,.int .u32 a6,.int .u32 a7] 324)) w.heap.size 324 (u32f F 8):=by
 subst h0 h1 h2 h3 h4 h5 h6 h7;exact (Blk.new w _ _).as (by rfl)
theorem u32f_8 (F:Nat→Int):#[Value.int .u32 (F 0),.int .u32 (F 1),.int .u32 (F 2),.int .u32 (F 3),.int .u32 (F 4),.int .u32 (F 5),.int .u32 (F 6),.int .u32 (F 7)].toList=u32f F 8:=by rfl
theorem compress_v (S:Nat→Int) (s:ByteArray) (b c:Nat) (w:World) (hs:s.size=64) (hS:WdA w b 8 S) :
  Calls Tryz.prog 350 #[.slice (some ⟨b,0,none⟩) 8 c,.string s] w fun e w'=>∃g,e=.returned (.slice (some ⟨g,0,none⟩) 8 8)∧WdA w' g 8 (cmp S s)∧Bw w w':=by
 have Hb:Hid (∀x w,Calls Tryz.prog 358 #[.int .u32 x,.int .i64 6] w fun e w'=>e=.returned (.int .u32 (rr x 6))∧Bw w w'):=fun x w=>right_c x 6 6 w rfl (by decide) (by decide)
 have hw:Hid (∀x w,Calls Tryz.prog 358 #[.int .u32 x,.int .i64 11] w fun e w'=>e=.returned (.int .u32 (rr x 11))∧Bw w w'):=fun x w=>right_c x 11 11 w rfl (by decide) (by decide)
 have hx:Hid (∀x w,Calls Tryz.prog 358 #[.int .u32 x,.int .i64 25] w fun e w'=>e=.returned (.int .u32 (rr x 25))∧Bw w w'):=fun x w=>right_c x 25 25 w rfl (by decide) (by decide)
 have hy:Hid (∀x w,Calls Tryz.prog 358 #[.int .u32 x,.int .i64 2] w fun e w'=>e=.returned (.int .u32 (rr x 2))∧Bw w w'):=fun x w=>right_c x 2 2 w rfl (by decide) (by decide)
 have hg:Hid (∀x w,Calls Tryz.prog 358 #[.int .u32 x,.int .i64 13] w fun e w'=>e=.returned (.int .u32 (rr x 13))∧Bw w w'):=fun x w=>right_c x 13 13 w rfl (by decide) (by decide)
 have hh:Hid (∀x w,Calls Tryz.prog 358 #[.int .u32 x,.int .i64 22] w fun e w'=>e=.returned (.int .u32 (rr x 22))∧Bw w w'):=fun x w=>right_c x 22 22 w rfl (by decide) (by decide)
 go_enter Tryz.func350,Tryz.ntmps350
 go_wp2_with fail
 refine (schedule_v s _ hs).mono ?_;rintro e w2 ⟨gw_,rfl,hW,_,hz⟩;replace hS:=hS.after hz;go_wp2_with fail
 refine (constants_v _).mono ?_;rintro e w3 ⟨gk,rfl,hK,hu⟩;replace hS:=hS.after hu;replace hW:=(WdA.of hW).after hu;have hn:=bt hz hu;clear hz hu;have h0:=hS.2 0 (by omega);have h1:=hS.2 1 (by omega);have h2:=hS.2 2 (by omega);have h3:=hS.2 3 (by omega);have h4:=hS.2 4 (by omega);have h5:=hS.2 5 (by omega);have h6:=hS.2 6 (by omega);have h7:=hS.2 7 (by omega);have hl:=hS.1;go_wp2;generalize (Question.appendCap 8 0 324).cut (w3.tape w3.drawn (Question.appendCap 8 0 324))=cap;generalize Builtin.zeroCells #[Value.int IntKind.u32 0] (cap-8)=ZC;have hV:=WdA.drew (WdA.app (n:=8) (F:=S) (Blk.new (w3.alloc (.cells #[] 324)) (#[.int .u32 (S 0),.int .u32 (S 1),.int .u32 (S 2),.int .u32 (S 3),.int .u32 (S 4),.int .u32 (S 5),.int .u32 (S 6),.int .u32 (S 7)]++ZC) 324) (u32f_8 S));have hm:=(ba (b1 w3 (.cells #[] 324)) (.cells (#[.int .u32 (S 0),.int .u32 (S 1),.int .u32 (S 2),.int .u32 (S 3),.int .u32 (S 4),.int .u32 (S 5),.int .u32 (S 6),.int .u32 (S 7)]++ZC) 324)).drew;rw[World.size_alloc]at hV;generalize ((w3.alloc (.cells #[] 324)).alloc (.cells (#[.int .u32 (S 0),.int .u32 (S 1),.int .u32 (S 2),.int .u32 (S 3),.int .u32 (S 4),.int .u32 (S 5),.int .u32 (S 6),.int .u32 (S 7)]++ZC) 324)).drew=w4 at hV hm ⊢;replace hS:=hS.after hm;replace hW:=hW.after hm;replace hK:=hK.after hm;replace hn:=bt hn hm;generalize w3.heap.size+1=g0 at hV ⊢;clear h0 h1 h2 h3 h4 h5 h6 h7 hl hm;have Hc:=Kh hn.size;go_loopw [7,8] (fun v i wr=>∃(k g cc:Nat),k≤64∧i=.int .i64 k∧v=.slice (some ⟨g,0,none⟩) 8 cc∧WdA wr g 8 (vv s S k)∧Hid (0<k→cc=8∧Blk wr g 324 (u32f (vv s S k) 8)∧w4.heap.size≤g)∧Bw w4 wr) (fun _ i _=>64-(intOf i).toNat)
 case atStart=>exact⟨0,g0,cap,by omega,rfl,rfl,hV,fun h=>absurd h (Nat.lt_irrefl 0),Br⟩
 case round =>
  clear hV;obtain⟨k,g,cc,hk,rfl,rfl,hV,HL,hc⟩:=hrel;obtain⟨wp,hA⟩:∃wp,wp=wr:=⟨_,rfl⟩;subst hA;by_cases hlt:k<64
  ·have hB:=hK.after hc;have hC:=hW.after hc;clear HL;have c0:=hV.2 0 (by omega);have c1:=hV.2 1 (by omega);have c2:=hV.2 2 (by omega);have c3:=hV.2 3 (by omega);have c4:=hV.2 4 (by omega);have c5:=hV.2 5 (by omega);have c6:=hV.2 6 (by omega);have c7:=hV.2 7 (by omega);have ck:=hB.2 k hlt;have cw:=hC.2 k hlt;have hd:Hid (∀j,j<8→vv s S (k+1) j=rnd (vv s S k) (kC k) (sW s k) j):=fun j _=>rfl
   have ho:Hid (rT (vv s S k) (kC k) (sW s k)=tT (vv s S k 4) (vv s S k 5) (vv s S k 6) (vv s S k 7) (kC k) (sW s k)):=rfl;obtain⟨VK,hD⟩:∃F,F=vv s S k:=⟨_,rfl⟩;rw[←hD]at hV hd ho c0 c1 c2 c3 c4 c5 c6 c7;have Hr:=Kh hD;clear hD;generalize Hd:kC k=kk at ck hd ho;generalize He:sW s k=wk at cw hd ho;clear Hd He;obtain⟨y0,hy0⟩:∃y,y=VK 0:=⟨_,rfl⟩;rw[←hy0]at c0;have hP:=Kh hy0;clear hy0;obtain⟨y1,hy1⟩:∃y,y=VK 1:=⟨_,rfl⟩;rw[←hy1]at c1;have hQ:=Kh hy1;clear hy1;obtain⟨y2,hE⟩:∃y,y=VK 2:=⟨_,rfl⟩;rw[←hE]at c2;have hR:=Kh hE;clear hE;obtain⟨y3,hF⟩:∃y,y=VK 3:=⟨_,rfl⟩;rw[←hF]at c3;have Hs:=Kh hF;clear hF;obtain⟨y4,hG⟩:∃y,y=VK 4:=⟨_,rfl⟩;rw[←hG]at c4;have hT:=Kh hG;clear hG;obtain⟨y5,hH⟩:∃y,y=VK 5:=⟨_,rfl⟩;rw[←hH]at c5;have hU:=Kh hH;clear hH;obtain⟨y6,hI⟩:∃y,y=VK 6:=⟨_,rfl⟩;rw[←hI]at c6;have hX:=Kh hI;clear hI;obtain⟨y7,hJ⟩:∃y,y=VK 7:=⟨_,rfl⟩;rw[←hJ]at c7;have Hf:=Kh hJ;clear hJ;have hL:=hV.1;have hY:=hB.1;have hZ:=hC.1;have k1:(0:Int)≤(k:Int):=by omega
   have k2:(k:Int)<64:=by omega
   go_upto_region 6 with fail
   go_cut [9,10,11,12,13,14] (fun s9 s10 s11 s12 s13 s14 wc'=>s9=.int .u32 y0∧s10=.int .u32 y1∧s11=.int .u32 y2∧s12=.int .u32 y4∧s13=.int .u32 y5∧s14=.int .u32 y6∧wc'=wp.drew)
   case first =>
    go_wp2_with fail
    go_region;go_wp2_with fail
    go_meet
    exact⟨rfl,rfl,rfl,rfl,rfl,rfl,rfl⟩
   case rest =>
   obtain⟨rfl,rfl,rfl,rfl,rfl,rfl,rfl⟩:=hcut;have Hg:Hid (tT y4 y5 y6 y7 kk wk=rT VK kk wk):=by rw[Hid,hT.out,hU.out,hX.out,Hf.out];exact ho.out.symm
   have Hh:Hid (tU y0 y1 y2=tU (VK 0) (VK 1) (VK 2)):=by rw[Hid,hP.out,hQ.out,hR.out]
   clear ho;have hb:=hc.drew;have he:=hV.drew;have g7c:=gclH (w:=wp.drew) (a:=⟨g,7,none⟩) hL c7;have gkc:=gclH (w:=wp.drew) (a:=⟨gk,k,none⟩) hY ck;have gwc:=gclH (w:=wp.drew) (a:=⟨gw_,k,none⟩) hZ cw;clear c0 c1 c2 c4 c5 c6 c7 ck cw hB hC hV hL hY hZ c3;generalize wp.drew=wx at hb he g7c gkc gwc ⊢;clear hc;go_upto_region 7 with fail
   go_cut [15] (fun s15 wc'=>s15=.int .u32 (tT y4 y5 y6 y7 kk wk)∧Bw wx wc')
   case first =>
    clear hb he hS hW hK hn Hc hy hg hh;go_wp2_with fail
    refine wp_region_gw (by kernel_rfl) (by kernel_rfl) ?_;repeat (go_big_quiet_step (first | (go_at_call 358;exact gw_of (right_c _ _ 6 _ rfl (by decide) (by decide))) | (go_at_call 358;exact gw_of (right_c _ _ 11 _ rfl (by decide) (by decide))) | (go_at_call 358;exact gw_of (right_c _ _ 25 _ rfl (by decide) (by decide)))))
    refine wpQuiet_nil ?_;rintro w9 ⟨xw9,rfl⟩;have hb9:=gw_below xw9;generalize gw xw9=w9 at hb9;clear g7c gkc gwc;go_wp2_with fail
    go_meet
    exact⟨rfl,hb9⟩
   case rest =>
    obtain⟨rfl,hi⟩:=hcut;rw[Hg.out];obtain⟨wy,Hi⟩:∃wx,wx=wc:=⟨_,rfl⟩;subst Hi;replace hb:=bt hb hi;replace he:=he.after hi;clear hi g7c gkc gwc Hb hw hx;go_upto_region 8 with fail
    go_cut [16] (fun s16 wc'=>s16=.int .u32 (tU y0 y1 y2)∧Bw wy wc')
    case first =>
     as_aux_lemma =>
     clear hb he;go_wp2_with fail
     refine (hy.out _ _).mono ?_;rintro e wa ⟨rfl,Hj⟩;go_wp2_with fail
     refine (hg.out _ _).mono ?_;rintro e wb ⟨rfl,Hk⟩;go_wp2_with fail
     refine (hh.out _ _).mono ?_;rintro e wd ⟨rfl,hbd⟩;have Hl:=bt Hj (bt Hk hbd);generalize h8:rr y0 2=r2;generalize hp:rr y0 13=r13;generalize hq:rr y0 22=r22;have HR:=Kh (And.intro h8 (And.intro hp hq));clear h8 hp hq;go_wp2_with fail
     go_meet
     exact⟨(by unfold tU bS0 mj3;rw[HR.out.1,HR.out.2.1,HR.out.2.2];first | done | rfl | (congr 1;omega)),Hl⟩
    case rest =>
     obtain⟨rfl,hi⟩:=hcut;rw[Hh.out];obtain⟨u2,hM⟩:∃u,u=tU (VK 0) (VK 1) (VK 2):=⟨_,rfl⟩;obtain⟨t,ht⟩:∃t,t=rT VK kk wk:=⟨_,rfl⟩;rw[←hM,←ht];have Hm:=Kh hM;have h9:=Kh ht;clear hM ht;obtain⟨wd,Hn⟩:∃wx,wx=wc:=⟨_,rfl⟩;subst Hn;replace hb:=bt hb hi;replace he:=he.after hi;clear hi hy hg hh;have d3:=he.2 3 (by omega);obtain⟨z3,hN⟩:∃y,y=VK 3:=⟨_,rfl⟩;rw[←hN]at d3;have Ho:=Kh hN;clear hN;have hL:=he.1;go_wp2;go_roundw
     case rel =>
      have hr:=wda8 wd (vv s S (k+1)) ((t+u2)%4294967296) y0 y1 y2 ((z3+t)%4294967296) y4 y5 y6
       (by rw[hd.out 0 (by omega),Hm.out,h9.out];rfl) (by rw[hd.out 1 (by omega),hP.out];rfl) (by rw[hd.out 2 (by omega),hQ.out];rfl) (by rw[hd.out 3 (by omega),hR.out];rfl)
       (by rw[hd.out 4 (by omega),Ho.out,h9.out];rfl) (by rw[hd.out 5 (by omega),hT.out];rfl) (by rw[hd.out 6 (by omega),hU.out];rfl) (by rw[hd.out 7 (by omega),hX.out];rfl)
      refine⟨k+1,wd.heap.size,8,by omega,by go_num,rfl,?_,?_,?_⟩
      ·exact WdA.of hr
      ·exact fun _=>⟨rfl,hr,hb.size⟩
      ·exact ba hb _
     case measure=>simp[intOf];omega
  ·obtain rfl:k=64:=by omega
   obtain⟨rfl,hf,Ha⟩:=HL.out (by omega);have Hp:=Kh Ha;have hv:=hS.after hc;clear hV HL Ha hK hW;go_wp2;go_loopw [17] (fun i wr=>∃k:Nat,k≤8∧i=.int .i64 k∧Blk wr g 324 (u32f (fP s S k) 8)∧Bw w4 wr) (fun i _=>8-(intOf i).toNat)
   case atStart=>exact⟨0,by omega,rfl,by rw[fP_zero];exact hf,hc⟩
   case round =>
    clear hf hc hlt hk hv;obtain⟨k,hk,rfl,hf,hc⟩:=hrel;obtain⟨wp,hA⟩:∃wp,wp=wr:=⟨_,rfl⟩;subst hA;by_cases hlt:k<8
    ·have hv:=hS.after hc;have c1:=fP_at hf hlt;have c2:=hv.2 k hlt;have Hq:=Kh (fP_set s S k);have hO:Hid (cmp S s k=(vv s S 64 k+S k)%4294967296):=rfl;generalize vv s S 64 k=x at c1 hO;generalize S k=y at c2 hO;have f1:=hf.free k;have l1:=hf.lt;have l2:=hv.1;have k1:(0:Int)≤(k:Int):=by omega
     have k2:(k:Int)<8:=by omega
     go_wp2_with fail
     go_region;go_wp2;go_roundw
     case rel=>exact⟨k+1,by omega,by go_num,Blk.drewH (Blk.setv hf (by rw[hO.out]) Hq.out),(hc.setCell Hp.out _).drew⟩
     case measure=>simp[intOf];omega
    ·obtain rfl:k=8:=by omega
     go_wp2;go_ret
     exact⟨_,rfl,(WdA.of hf).congr (fun j hj=>by rw[fP,if_pos hj]),bt hn hc⟩
end
section
open Go.RowKit Go.Shelf
def zb (k:Nat):ByteArray:=⟨(List.replicate k 0).toArray⟩
def be8L (q:Nat):List UInt8:=(List.range 8).map fun j=>UInt8.ofNat (q / 256^(7-j)%256)
def zc (n:Nat):Nat:=(119-n%64)%64
def padV (s:ByteArray):ByteArray:=s++(⟨#[128]⟩:ByteArray)++zb (zc s.size)++(⟨(be8L (s.size*8)).toArray⟩:ByteArray)
theorem zb_succ (k:Nat):zb (k+1)=zb k++(⟨#[0]⟩:ByteArray):=by
 apply ByteArray.ext
 rw[ByteArray.data_append];apply Array.ext'
 simp[zb,List.replicate_succ']
theorem zb_size (k:Nat):(zb k).size=k:=by simp[zb,ByteArray.size]
theorem be8_len (q:Nat):(be8L q).length=8:=by simp[be8L]
theorem padV_size (s:ByteArray):(padV s).size=64*(s.size / 64+(if s.size%64≤55 then 1 else 2)):=by
 unfold padV;rw[ByteArray.size_append,ByteArray.size_append,ByteArray.size_append,zb_size];show s.size+1+zc s.size+(be8L (s.size*8)).toArray.size=_;rw[List.size_toArray,be8_len,zc];split <;> omega
theorem xor_u8v (a b:UInt8):Value.int .u8 (bits .xor .u8 (a.toNat:Int) (b.toNat:Int))=u8v (a ^^^ b):=by
 rw[u8_xor_nat _ _ a.toNat_lt b.toNat_lt,u8v,UInt8.toNat_xor]
theorem row_str {w:World} {b o c:Nat} {l:List UInt8} (h:Row w b o l) :
  (convert 177 9 (.slice (some ⟨b,o,none⟩) l.length c)).run Tryz.prog w=.ok (.string ⟨l.toArray⟩) w:=by
 have:=Lib.run_convert_whole (P:=Tryz.prog) w 177 5 9 Tryz.underlying177 Tryz.underlying5 Tryz.underlying9 b o ⟨l.toArray⟩ h.bytes c;simpa [ByteArray.size] using this
theorem padded_v (s:ByteArray) (w:World) (hk:s.size≤1000) :
  Calls Tryz.prog 349 #[.string s] w fun e w'=>e=.returned (.string (padV s))∧Bw w w':=by
 have hm:∀W:World,(Instr.makeSlice 177 (.int .i64 8) (.int .i64 8)).run Tryz.prog W=.ok (.slice (some ⟨W.heap.size,0,none⟩) 8 8) (W.alloc (.cells (List.replicate 8 (Value.int .u8 0)).toArray 5)):=run_mk (P:=Tryz.prog) Tryz.underlying177 info_u8 8 (by omega) (by omega);have hg:Blk (w.alloc (.cells (List.replicate 8 (Value.int .u8 0)).toArray 5)) w.heap.size 5 (u8s (List.replicate 8 0)):=by rw[←u8s_zeros];exact Blk.new _ _ _
 have hi:=b1 w (.cells (List.replicate 8 (Value.int .u8 0)).toArray 5);generalize hZ:(List.replicate 8 (Value.int .u8 0)).toArray=Z at hm hg hi;clear hZ;generalize hn:List.replicate 8 (0:UInt8)=Z2 at hg;have ho:Hid (Z2.length=8):=by rw[Hid,←hn];simp
 clear hn;go_enter Tryz.func349,Tryz.ntmps349
 go_wp2;obtain⟨T,hC,hD,hE⟩:∃T,T%64=56∧s.size<T∧T≤s.size+64:=⟨s.size+1+(120-(s.size+1)%64)%64,by omega,by omega,by omega⟩;go_loopw [0] (fun v wr=>∃(t:ByteArray) (k:Nat),v=.string t∧Hid (t=s++(⟨#[128]⟩:ByteArray)++zb k)∧Hid (t.size=s.size+1+k)∧t.size≤T∧wr=w) (fun v _=>match v with | .string t=>T-t.size | _=>0)
 case atStart=>exact⟨_,0,rfl,by rw[Hid];show _=_++(zb 0);apply ByteArray.ext;rw[ByteArray.data_append];simp[zb],by rw[Hid,ByteArray.size_append];rfl,by rw[ByteArray.size_append];show s.size+1≤T;omega,rfl⟩
 case round =>
  obtain⟨t,kz,rfl,hp,hu,ht,hw⟩:=hrel;subst hw;obtain⟨w0,hx⟩:∃w0,w0=wr:=⟨_,rfl⟩;subst hx;by_cases he:t.size%64=56
  ·have hd:((t.size:Int)%64 != 56)=false:=by rw[bne_eq_false_iff_eq];omega
   have HT:Hid (t.size%64=56∧t.size≤T):=⟨he,ht⟩;have hy:Hid (kz=zc s.size):=by rw[Hid,zc];have:=hu.out;omega
   go_wp2;clear he hd;go_loopw [5,6] (fun x i w2=>∃(k q:Nat) (l:List UInt8),k≤8∧i=.int .i64 (7-(k:Int))∧x=.int .u64 (q:Nat)∧Hid (q<18446744073709551616)∧Hid (q=s.size*8 / 256^k∧∀j,8-k≤j→j<8→l[j]?=some (UInt8.ofNat (s.size*8 / 256^(7-j)%256)))∧Hid (l.length=8)∧Blk w2 w0.heap.size 5 (u8s l)∧Bw w0 w2) (fun _ i _=>(intOf i+1).toNat)
   case atStart=>exact⟨0,s.size*8,Z2,by omega,rfl,vi (by omega),by rw[Hid];omega,⟨by simp,fun j h1 h2=>by omega⟩,ho,hg,hi⟩
   case round =>
    clear hg hi hm ho;obtain⟨k,q,l,hF,rfl,rfl,HQ,hh,HL,hb,hv⟩:=hrel;by_cases hlt:k<8
    ·have hl:=hb.lt;have hc:wr.cell? ⟨w0.heap.size,7-k,none⟩=some (u8v (l[7-k]'(by rw[HL.out];omega))):=by rw[hb.cell,u8s,List.getElem?_map,List.getElem?_eq_getElem (by rw[HL.out];omega)];rfl
     have hf:=hb.free (7-k);have hz:Hid (q / 256<18446744073709551616):=Nat.lt_of_le_of_lt (Nat.div_le_self _ _) HQ.out;have hq:=HQ.out;go_wp2;go_roundw
     case rel =>
      rw[byteI q _ rfl];refine⟨k+1,q / 256,l.set (7-k) (UInt8.ofNat (q%256)),by omega,vi (by omega),vi (by omega),hz,⟨by rw[hh.out.1,Nat.div_div_eq_div_mul,←Nat.pow_succ],fun j h1 h2=>?_⟩,by rw[Hid,List.length_set];exact HL.out,?_,hv.setCell (Nat.le_refl _) _⟩
      ·rw[List.getElem?_set];by_cases e:7-k=j
       ·rw[if_pos e,if_pos (by rw[HL.out];omega),hh.out.1,←e,show 7-(7-k)=k by omega]
       ·rw[if_neg e];exact hh.out.2 j (by omega) h2
      have h:=hb.set (7-k) (u8v (UInt8.ofNat (q%256)));rw[u8s_set]at h;exact h
     case measure=>simp[intOf];omega
    ·obtain rfl:k=8:=by omega
     have hr:Row wr w0.heap.size 0 l:=hb.row;have hA:=row_str (c:=8) hr;rw[HL.out]at hA;have hG:¬ 9223372036854775807<t.size+l.length:=by have:=HT.out.2;have:=HL.out;omega
     go_wp2;go_ret
     have hB:l=be8L (s.size*8):=List.ext_getElem? fun j=>by
      by_cases hj:j<8
      ·rw[hh.out.2 j (by omega) hj,be8L,List.getElem?_map,List.getElem?_range hj];rfl
      ·rw[List.getElem?_eq_none (by rw[HL.out];omega),List.getElem?_eq_none (by rw[be8_len];omega)]
     refine⟨?_,hv⟩;rw[hp.out,hy.out,hB];rfl
  ·have hd:((t.size:Int)%64 != 56)=true:=by rw[bne_iff_ne];omega
   have HT:Hid (t.size<T):=by rw[Hid];omega
   go_wp2;go_roundw
   case rel=>exact⟨_,kz+1,rfl,by rw[Hid,hp.out,zb_succ,ByteArray.append_assoc],by rw[Hid,ByteArray.size_append,hu.out];rfl,by rw[ByteArray.size_append];have:=HT.out;show t.size+1≤T;omega,trivial⟩
   case measure=>show T-(t++_:ByteArray).size<T-t.size;rw[ByteArray.size_append];have:=HT.out;show T-(t.size+1)<T-t.size;omega
end
section
open Go.RowKit Go.Shelf
theorem byteZ (z:Int):Value.int .u8 (z%256)=u8v (UInt8.ofNat (z%256).toNat):=by
 have h1:=Int.emod_nonneg z (show (256:Int)≠0 by decide);have h2:=Int.emod_lt_of_pos z (show (0:Int)<256 by decide);unfold u8v;rw[UInt8.toNat_ofNat',Nat.mod_eq_of_lt (by omega),Int.toNat_of_nonneg h1]
def BOwn (w:World) (base:Nat) (v:Value) (l:List UInt8):Prop:=w.ownsRow base 5 1 v l.length (u8s l)
def stN (m:ByteArray):Nat→Nat→Int
 | 0=>iC
 | k+1=>cmp (stN m k) (m.extract (64*k) (64*k+64))
def w4 (x:Int):List UInt8:=[UInt8.ofNat (x / 16777216%256).toNat,UInt8.ofNat (x / 65536%256).toNat,UInt8.ofNat (x / 256%256).toNat,UInt8.ofNat (x%256).toNat]
def wL (F:Nat→Int):Nat→List UInt8
 | 0=>[]
 | k+1=>wL F k++w4 (F k)
theorem wL_len (F:Nat→Int) (k:Nat):(wL F k).length=4*k:=by
 induction k with
 | zero=>rfl
 | succ k ih=>show (wL F k++w4 (F k)).length=_;rw[List.length_append,ih];show 4*k+4=_;omega
def sumV (s:ByteArray):ByteArray:=⟨(wL (stN (padV s) ((padV s).size / 64)) 8).toArray⟩
theorem sumV_size (s:ByteArray):(sumV s).size=32:=by
 show (wL _ 8).toArray.size=32;rw[List.size_toArray,wL_len]
theorem sum_v (s:ByteArray) (w:World) (hs:s.size≤1000) :
  Calls Tryz.prog 340 #[.string s] w fun e w'=>e=.returned (.string (sumV s))∧Bw w w':=by
 have hD:Hid (∀(S:Nat→Int) (s:ByteArray) (b c:Nat) (w:World) (hs:s.size=64) (hS:WdA w b 8 S),Calls Tryz.prog 350 #[.slice (some ⟨b,0,none⟩) 8 c,.string s] w fun e w'=>∃g,e=.returned (.slice (some ⟨g,0,none⟩) 8 8)∧WdA w' g 8 (cmp S s)∧Bw w w'):=fun S s b c w h1 h2=>compress_v S s b c w h1 h2
 obtain⟨i0,hq,hf,hg,hh⟩:=info_parts info_u8;have hE:=Kh hq;have hG:=Kh hf;have hH:=Kh hg;have hI:=Kh hh;clear hq hf hg hh;go_enter Tryz.func340,Tryz.ntmps340
 go_upto_region 2 with fail
 have hS:=WdA.of ((Blk.new w #[.int .u32 1779033703,.int .u32 3144134277,.int .u32 1013904242,.int .u32 2773480762,.int .u32 1359893119,.int .u32 2600822924,.int .u32 528734635,.int .u32 1541459225] 324).as (cs':=u32f iC 8) (by rfl));have hd:=b1 w (.cells #[.int .u32 1779033703,.int .u32 3144134277,.int .u32 1013904242,.int .u32 2773480762,.int .u32 1359893119,.int .u32 2600822924,.int .u32 528734635,.int .u32 1541459225] 324);generalize w.alloc (.cells #[.int .u32 1779033703,.int .u32 3144134277,.int .u32 1013904242,.int .u32 2773480762,.int .u32 1359893119,.int .u32 2600822924,.int .u32 528734635,.int .u32 1541459225] 324)=w1 at hS hd ⊢;obtain⟨g0,hu⟩:∃g,w.heap.size=g:=⟨_,rfl⟩;rw[hu]at hS ⊢;clear hu;go_wp2_with fail
 refine (padded_v s _ hs).mono ?_;rintro e w2 ⟨rfl,ho⟩;obtain⟨t,hi⟩:∃t,t=padV s:=⟨_,rfl⟩;obtain⟨m,hw⟩:∃m,m=t.size / 64:=⟨_,rfl⟩
 have ht:t.size=64*m:=by
  have h:=padV_size s;rw[←hi]at h;omega
 have hm:m≤100:=by
  have h:=padV_size s;rw[←hi]at h;split at h <;> omega
 have hy:Hid (sumV s=⟨(wL (stN t m) 8).toArray⟩):=by rw[Hid,hw,hi];rfl
 rw[←hi];clear hi hw;replace hS:=hS.after ho;have HT:=Kh ht;have HM:=Kh hm;replace hd:=bt hd ho;clear ho ht hm;go_wp2;go_loopw [3,5] (fun v i wr=>∃(k j g cc:Nat),k≤m∧Hid (j=64*k)∧i=.int .i64 j∧v=.slice (some ⟨g,0,none⟩) 8 cc∧WdA wr g 8 (stN t k)∧Bw w2 wr) (fun _ i _=>t.size-(intOf i).toNat)
 case atStart=>exact⟨0,0,g0,8,by omega,rfl,rfl,rfl,hS,Br⟩
 case round =>
  clear hS;obtain⟨k,j,g,cc,hk,HJ,rfl,rfl,hS,hb⟩:=hrel;obtain⟨wp,hJ⟩:∃wp,wp=wr:=⟨_,rfl⟩;subst hJ;have hY:t.size≤6400:=by have:=HT.out;have:=HM.out;omega
  by_cases hlt:j<t.size
  ·have hZ:k<m:=by have:=HT.out;have:=HJ.out;omega
   have hK:j+64≤t.size:=by have:=HT.out;have:=HJ.out;omega
   have b1':(0:Int)≤(j:Int):=by omega
   have b2':(j:Int)≤(j:Int)+64:=by omega
   have b3':(j:Int)+64≤(t.size:Int):=by omega
   have hM:Hid ((t.extract j (j+64)).size=64):=by rw[Hid,ByteArray.size_extract];omega
   go_wp2_with fail
   have hN:Hid (t.extract j (j+64)=t.extract (64*k) (64*k+64)):=by rw[Hid,HJ.out]
   refine (hD.out _ _ _ _ _ hM.out hS).mono ?_;rintro e w3 ⟨g',rfl,hz,hP⟩;go_wp2;go_roundw
   case rel=>exact⟨k+1,j+64,g',8,by omega,by rw[Hid,HJ.out];omega,by go_num,rfl,by (rw[hN.out]at hz;exact hz),bt hb hP⟩
   case measure=>simp[intOf];omega
  ·obtain rfl:k=m:=by have:=HT.out;have:=HJ.out;omega
   replace hd:=bt hd hb;clear hb HJ hk;obtain⟨F,hF⟩:∃F,F=stN t k:=⟨_,rfl⟩;rw[←hF]at hS hy;clear hF;go_wp2;clear hlt;go_loopw [6,7] (fun v i wr=>∃(k:Nat) (l:List UInt8),k≤8∧i=.int .i64 k∧Hid (l=wL F k)∧Hid (l.length=4*k)∧BOwn wr wp.heap.size v l∧Bw wp wr) (fun _ i _=>8-(intOf i).toNat)
   case atStart=>exact⟨0,[],by omega,rfl,rfl,rfl,World.ownsRow_nil _ _ _ _,Br⟩
   case round =>
    obtain⟨k,l,hk,rfl,hA,HL,hO,hb⟩:=hrel;obtain⟨wq,hQ⟩:∃wp,wp=wr:=⟨_,rfl⟩;subst hQ;by_cases hlt:k<8
    ·have hB:=hS.after hb;have hx:=hB.2 k hlt;have hC:Hid (wL F (k+1)=l++w4 (F k)):=by rw[Hid,hA.out];rfl
     generalize F k=x at hx hC;have hl:=hB.1;have h0:(0:Int)≤(k:Int):=by omega
     have h5:(k:Int)<8:=by omega
     have he:wq.ownsRow wp.heap.size 5 1 u6 (4*k) (u8s l):=by have h:wq.ownsRow _ _ _ _ _ _:=hO;rw[HL.out]at h;exact h
     have hR:Hid (u8s (l++[UInt8.ofNat (x / 16777216%256).toNat,UInt8.ofNat (x / 65536%256).toNat,UInt8.ofNat (x / 256%256).toNat,UInt8.ofNat (x%256).toNat])=u8s l++[.int .u8 (x / 16777216%256),.int .u8 (x / 65536%256),.int .u8 (x / 256%256),.int .u8 (x%256)]):=by
      rw[Hid,u8s,List.map_append,byteZ,byteZ,byteZ,byteZ];rfl
     have hT:=hb.size;go_wp2_with (at_builtin;refine wpList_append_lies _ rfl (.tmp 33) (.tmp 45) _ rfl wp.heap.size 5 i0 _ 1 1 Tryz.underlying177 hE.out hG.out hH.out hI.out rfl (by omega) u6 (4*k) (u8s l) rfl (own_after he (b1 _ (.cells #[.int .u8 (x / 16777216%256),.int .u8 (x / 65536%256),.int .u8 (x / 256%256),.int .u8 (x%256)] 5))) ⟨wq.heap.size,0,none⟩ 4 4 [.int .u8 (x / 16777216%256),.int .u8 (x / 65536%256),.int .u8 (x / 256%256),.int .u8 (x%256)] rfl rfl (Blk.new wq #[.int .u8 (x / 16777216%256),.int .u8 (x / 65536%256),.int .u8 (x / 256%256),.int .u8 (x%256)] 5).cells (by simp[Value.oneCell']) (by omega) (by simp only[maxLen];omega) (by omega) (by rw[World.size_alloc];omega) (wq.heap.size+1) (by simp) ?_;intro ga ca wz hn hc hU hp)
     have hV:BOwn wz wp.heap.size (.slice (some ⟨ga,0,none⟩) (4*k+4) ca) (l++[UInt8.ofNat (x / 16777216%256).toNat,UInt8.ofNat (x / 65536%256).toNat,UInt8.ofNat (x / 256%256).toNat,UInt8.ofNat (x%256).toNat]):=by
      rw[BOwn,hR.out,List.length_append,HL.out];exact hn
     have hW:=(ba hb (.cells #[.int .u8 (x / 16777216%256),.int .u8 (x / 65536%256),.int .u8 (x / 256%256),.int .u8 (x%256)] 5)).grown hc (by rw[World.size_alloc];omega) (fun x hx=>(own_lt he hx).2);clear hn hc hU hp he hO;go_wp2;go_roundw
     case rel=>exact⟨k+1,_,by omega,by go_num,by rw[Hid,hC.out];rfl,by rw[Hid,List.length_append,HL.out];simp;omega,hV,hW⟩
     case measure=>simp[intOf];omega
    ·obtain rfl:k=8:=by omega
     have he:wq.ownsRow wp.heap.size 5 1 u6 32 (u8s l):=by have h:wq.ownsRow _ _ _ _ _ _:=hO;rw[HL.out]at h;exact h
     rcases he.2 with⟨hv,h2⟩ | ⟨g9,cap,cur,hv,h3,h4,_⟩
     ·omega
     ·subst hv
      have hr:Row wq g9 0 l:=fun j hj=>by
       have h:=own_cellS he j (u8v l[j]) (by simp[u8s,hj]);rw[Nat.zero_add];exact h
      have hX:=row_str (c:=cap) hr;rw[HL.out]at hX;have hL:=HL.out;go_wp2;go_ret
      exact⟨by rw[hy.out,←hA.out];rfl,bt hd hb⟩
end
section
open Go.RowKit Go.Shelf
def xb (key:ByteArray) (x:UInt8) (j:Nat):UInt8:=(key.data.getD j 0) ^^^ x
def xorV (key:ByteArray) (x:UInt8):ByteArray:=⟨((List.range 64).map (xb key x)).toArray⟩
theorem xorV_size (key:ByteArray) (x:UInt8):(xorV key x).size=64:=by simp[xorV,ByteArray.size]
def mac1 (key s:ByteArray):ByteArray:=sumV (xorV key 92++sumV (xorV key 54++s))
def macV (key s:ByteArray):ByteArray:=mac1 (if 64<key.size then sumV key else key) s
theorem macV_size (key s:ByteArray):(macV key s).size=32:=sumV_size _
theorem xored_v (key:ByteArray) (x:UInt8) (w:World) (hk:key.size≤64) :
  Calls Tryz.prog 341 #[.string key,u8v x] w fun e w'=>e=.returned (.string (xorV key x))∧Bw w w':=by
 have hm:∀W:World,(Instr.makeSlice 177 (.int .i64 64) (.int .i64 64)).run Tryz.prog W=.ok (.slice (some ⟨W.heap.size,0,none⟩) 64 64) (W.alloc (.cells (List.replicate 64 (Value.int .u8 0)).toArray 5)):=run_mk (P:=Tryz.prog) Tryz.underlying177 info_u8 64 (by omega) (by omega);have hd:Blk (w.alloc (.cells (List.replicate 64 (Value.int .u8 0)).toArray 5)) w.heap.size 5 (u8s (List.replicate 64 0)):=by rw[←u8s_zeros];exact Blk.new _ _ _
 have he:=b1 w (.cells (List.replicate 64 (Value.int .u8 0)).toArray 5);generalize hZ:(List.replicate 64 (Value.int .u8 0)).toArray=Z at hm hd he;clear hZ;generalize hn:List.replicate 64 (0:UInt8)=Z2 at hd;have ho:Hid (Z2.length=64):=by rw[Hid,←hn];simp
 clear hn;have hq:Hid (∀a:UInt8,Value.int .u8 (bits .xor .u8 (a.toNat:Int) (x.toNat:Int))=u8v (a ^^^ x)):=fun a=>xor_u8v a x
 unfold u8v;go_enter Tryz.func341,Tryz.ntmps341
 go_wp2;go_loopw [6] (fun i wr=>∃(k:Nat) (l:List UInt8),k≤64∧i=.int .i64 k∧Hid (∀j,j<k→l[j]?=some (xb key x j))∧Hid (l.length=64)∧Blk wr w.heap.size 5 (u8s l)∧Bw w wr) (fun i _=>64-(intOf i).toNat)
 case atStart=>exact⟨0,Z2,by omega,rfl,fun j h=>absurd h (Nat.not_lt_zero _),ho,hd,he⟩
 case round =>
  clear hd he hm ho;obtain⟨k,l,hk,rfl,hg,HL,hb,hh⟩:=hrel;by_cases hlt:k<64
  ·have hp:Hid (∀(l:List UInt8) {y:UInt8},k<l.length→(∀j,j<k→l[j]?=some (xb key x j))→y=xb key x k→∀j,j<k+1→(l.set k y)[j]?=some (xb key x j)):=fun l y ht h hy j hj=>by
    rw[List.getElem?_set];by_cases e:k=j
    ·rw[if_pos e,if_pos ht,hy,e]
    ·rw[if_neg e];exact h j (by omega)
   have hl:=hb.lt;have hc:wr.cell? ⟨w.heap.size,k,none⟩=some (u8v (l[k]'(by rw[HL.out];exact hlt))):=by rw[hb.cell];simp[u8s,HL.out,hlt]
   have hf:=hb.free k;by_cases hu:k<key.size
   ·go_wp2;go_roundw
    case rel =>
     refine⟨k+1,(l.set k x).set k (key[k] ^^^ x),by omega,by go_num,hp.out _ (by rw[List.length_set,HL.out];omega) (fun i hi=>by rw[List.getElem?_set_ne (by omega)];exact hg.out i hi) (by rw[xb,Array.getD_eq_getD_getElem?,Array.getElem?_eq_getElem hu];rfl),by rw[Hid,List.length_set,List.length_set];exact HL.out,?_,(hh.setCell (Nat.le_refl _) _).setCell (Nat.le_refl _) _⟩;have h:=(hb.set k (u8v x)).set k (u8v (key[k] ^^^ x));rw[u8s_set,u8s_set]at h;rw[hq.out];exact h
    case measure=>simp[intOf];omega
   ·go_wp2;go_roundw
    case rel =>
     refine⟨k+1,l.set k x,by omega,by go_num,hp.out l (by rw[HL.out];omega) (fun i hi=>hg.out i hi) (by rw[xb,Array.getD_eq_getD_getElem?,Array.getElem?_eq_none (by show key.size≤k;omega)];simp),by rw[Hid,List.length_set];exact HL.out,?_,hh.setCell (Nat.le_refl _) _⟩;have h:=hb.set k (u8v x);rw[u8s_set]at h;exact h
    case measure=>simp[intOf];omega
  ·obtain rfl:k=64:=by omega
   have hr:Row wr w.heap.size 0 l:=hb.row;have hv:=row_str (c:=64) hr;rw[HL.out]at hv;go_wp2;go_ret
   have hw:l=(List.range 64).map (xb key x):=List.ext_getElem? fun j=>by
    by_cases hj:j<64
    ·rw[hg.out j hj,List.getElem?_map,List.getElem?_range hj];rfl
    ·rw[List.getElem?_eq_none (by rw[HL.out];omega),List.getElem?_eq_none (by simp;omega)]
   exact⟨by rw[xorV,←hw];rfl,hh⟩
theorem mac1_v (key s:ByteArray) (w:World) (hk:key.size≤64) (hs:s.size≤900) :
  Calls Tryz.prog 311 #[.string key,.string s] w fun e w'=>e=.returned (.string (mac1 key s))∧Bw w w':=by
 have hd:decide ((64:Int)<(key.size:Int))=false:=decide_eq_false (by omega);have HS:Hid (∀(s:ByteArray) (w:World),s.size≤1000→Calls Tryz.prog 340 #[.string s] w fun e w'=>e=.returned (.string (sumV s))∧Bw w w'):=fun s w h=>sum_v s w h
 have HM:Hid (mac1 key s=sumV (xorV key 92++sumV (xorV key 54++s))):=rfl;have ha:=xorV_size key 92;have hb:=xorV_size key 54;go_enter Tryz.func311,Tryz.ntmps311
 go_wp2_with fail
 refine (xored_v key 92 _ hk).mono ?_;rintro e w2 ⟨rfl,he⟩;go_wp2_with fail
 refine (xored_v key 54 _ hk).mono ?_;rintro e w3 ⟨rfl,hf⟩;generalize xorV key 92=a at ha HM ⊢;generalize xorV key 54=b at hb HM ⊢;have h1:¬ 9223372036854775807<b.size+s.size:=by omega
 have hg:(b++s).size≤1000:=by rw[ByteArray.size_append];omega
 go_wp2_with fail
 refine (HS.out _ _ hg).mono ?_;rintro e w4 ⟨rfl,hb4⟩;have hc:=sumV_size (b++s);generalize sumV (b++s)=c at hc HM ⊢;have h2:¬ 9223372036854775807<a.size+c.size:=by omega
 have hh:(a++c).size≤1000:=by rw[ByteArray.size_append];omega
 go_wp2_with fail
 refine (HS.out _ _ hh).mono ?_;rintro e w5 ⟨rfl,hi⟩;go_wp2;go_ret
 exact⟨by rw[HM.out];rfl,bt he (bt hf (bt hb4 hi))⟩
theorem mac_v (key s:ByteArray) (w:World) (hk:key.size≤1000) (hs:s.size≤900) :
  Calls Tryz.prog 311 #[.string key,.string s] w fun e w'=>e=.returned (.string (macV key s))∧Bw w w':=by
 by_cases hf:64<key.size
 rotate_left
 ·rw[macV,if_neg hf];exact mac1_v key s w (by omega) hs
 have hd:decide ((64:Int)<(key.size:Int))=true:=Dt (by omega);have HS:Hid (∀(s:ByteArray) (w:World),s.size≤1000→Calls Tryz.prog 340 #[.string s] w fun e w'=>e=.returned (.string (sumV s))∧Bw w w'):=fun s w h=>sum_v s w h
 have HM:Hid (macV key s=sumV (xorV (sumV key) 92++sumV (xorV (sumV key) 54++s))):=by rw[Hid,macV,if_pos hf];rfl
 have he:(sumV key).size≤64:=by rw[sumV_size];omega
 have ha:=xorV_size (sumV key) 92;have hb:=xorV_size (sumV key) 54;go_enter Tryz.func311,Tryz.ntmps311
 go_wp2_with fail
 refine (HS.out _ _ hk).mono ?_;rintro e w1 ⟨rfl,hg⟩;generalize sumV key=key' at he ha hb HM ⊢;go_wp2_with fail
 refine (xored_v key' 92 _ he).mono ?_;rintro e w2 ⟨rfl,hh⟩;go_wp2_with fail
 refine (xored_v key' 54 _ he).mono ?_;rintro e w3 ⟨rfl,hi⟩;generalize xorV key' 92=a at ha HM ⊢;generalize xorV key' 54=b at hb HM ⊢;have h1:¬ 9223372036854775807<b.size+s.size:=by omega
 have hj:(b++s).size≤1000:=by rw[ByteArray.size_append];omega
 go_wp2_with fail
 refine (HS.out _ _ hj).mono ?_;rintro e w4 ⟨rfl,hb4⟩;have hc:=sumV_size (b++s);generalize sumV (b++s)=c at hc HM ⊢;have h2:¬ 9223372036854775807<a.size+c.size:=by omega
 have hl:(a++c).size≤1000:=by rw[ByteArray.size_append];omega
 go_wp2_with fail
 refine (HS.out _ _ hl).mono ?_;rintro e w5 ⟨rfl,hm⟩;go_wp2;go_ret
 exact⟨by rw[HM.out];rfl,bt hg (bt hh (bt hi (bt hb4 hm)))⟩
end
section
open Go.RowKit Go.Shelf
def decV (n:Nat):ByteArray:=⟨(Lib.decDigits n).toArray⟩
theorem dig_at:∀k:Fin 10,ByteArray.extract { data:=#[48,49,50,51,52,53,54,55,56,57] } k.val (k.val+1)=⟨#[UInt8.ofNat (48+k.val)]⟩:=by decide
theorem dig_eq (k:Nat) (h:k<10):ByteArray.extract { data:=#[48,49,50,51,52,53,54,55,56,57] } k (k+1)=⟨#[UInt8.ofNat (48+k)]⟩:=dig_at ⟨k,h⟩
theorem dig_size (k:Nat) (h:k<10):(ByteArray.extract { data:=#[48,49,50,51,52,53,54,55,56,57] } k (k+1)).size=1:=by rw[dig_eq k h];rfl
theorem dec_small (n:Nat) (h:n<10):decV n=ByteArray.extract { data:=#[48,49,50,51,52,53,54,55,56,57] } n (n+1):=by
 rw[dig_eq n h,decV,Lib.decDigits,dif_pos h]
theorem dec_big (n:Nat) (h:¬ n<10):decV n=decV (n / 10)++ByteArray.extract { data:=#[48,49,50,51,52,53,54,55,56,57] } (n%10) (n%10+1):=by
 rw[dig_eq (n%10) (by omega),decV,Lib.decDigits,dif_neg h];apply ByteArray.ext
 rw[ByteArray.data_append];apply Array.ext'
 simp[decV]
theorem dec_size (n:Nat):∀d,n<10^(d+1)→(decV n).size≤d+1:=by
 induction n using Nat.strongRecOn with
 | ind n ih =>
  intro d hd;by_cases h:n<10
  ·rw[dec_small n h,dig_size n h];omega
  ·rw[dec_big n h,ByteArray.size_append,dig_size _ (by omega)];cases d with
   | zero=>omega
   | succ d =>
    have:=ih (n / 10) (by omega) d (by rw[Nat.pow_succ]at hd;omega);omega
theorem decimal_v (n:Nat):∀(w:World),n<10^12→Calls Tryz.prog 312 #[.int .i64 (n:Int)] w fun e w'=>e=.returned (.string (decV n))∧Bw w w':=by
 induction n using Nat.strongRecOn with
 | ind n ih =>
  intro w hn;by_cases hc:n<10
  ·have d1:decide ((n:Int)<0)=false:=decide_eq_false (by omega);have d2:decide ((n:Int)<10)=true:=Dt (by omega);have k1:(0:Int)≤(n:Int):=by omega
   have k2:(n:Int)≤(n:Int)+1:=by omega
   have k3:(n:Int)+1≤10:=by omega
   have HZ:=Kh (dec_small n hc);clear ih hc hn;go_enter Tryz.func312,Tryz.ntmps312
   go_wp2;go_ret
   exact⟨by rw[HZ.out];rfl,Br⟩
  ·have d1:decide ((n:Int)<0)=false:=decide_eq_false (by omega);have d2:decide ((n:Int)<10)=false:=decide_eq_false (by omega);obtain⟨q,hq⟩:∃q,q=n / 10:=⟨_,rfl⟩;obtain⟨r,hr⟩:∃r,r=n%10:=⟨_,rfl⟩;have hh:q<n:=by omega
   have HQ:Hid (q=n / 10):=hq;have hd:r<10:=by omega
   have HZ:=Kh (dig_size r hd);have he:Hid (decV n=decV q++ByteArray.extract { data:=#[48,49,50,51,52,53,54,55,56,57] } r (r+1)):=by rw[Hid,hq,hr];exact dec_big n hc
   have hi:=Kh (dec_size q 12);have hb:q<10^12:=by omega
   have e1:(n:Int) / 10=(q:Int):=by omega
   have e2:(n:Int)%10=(r:Int):=by omega
   have e3:(n:Int).tdiv 10=(q:Int):=by rw[Int.tdiv_eq_ediv_of_nonneg (by omega)];exact e1
   have e4:(n:Int).tmod 10=(r:Int):=by rw[Int.tmod_eq_emod_of_nonneg (by omega)];exact e2
   have k1:(0:Int)≤(r:Int):=by omega
   have k2:(r:Int)≤(r:Int)+1:=by omega
   have k3:(r:Int)+1≤10:=by omega
   have e5:IntKind.i64.wrap ((r:Int)+1)=(r:Int)+1:=IntWalk.i64_in _ (by omega);have e6:IntKind.i64.wrap (q:Int)=(q:Int):=IntWalk.i64_in _ (by omega);have HI:=Kh (fun w=>ih q hh w hb);have hg:(10:Nat)^12=1000000000000:=by decide
   have hf:Hid (q<10^(12+1)):=Nl hb (by decide);rw[hg]at hn hb;clear ih hq hr hg;go_enter Tryz.func312,Tryz.ntmps312
   go_wp2_with fail
   go_region_with (go_at_call 312;(with_reducible refine (HI.out _).mono ?_);rintro e w2 ⟨rfl,hj⟩;have hk:=hi.out hf.out;have hl:¬ 9223372036854775807<(decV q).size+(ByteArray.extract { data:=#[48,49,50,51,52,53,54,55,56,57] } r (r+1)).size:=(by have:=HZ.out;omega))
   all_goals
    go_wp2;go_ret
    exact⟨by rw[he.out];rfl,(Below.drew Br).trans hj⟩
def strLen:Value→Nat | .string t=>t.size | _=>0
def canonV (s:ByteArray):ByteArray:=⟨(s.data.toList.dropWhile (·==0)).toArray⟩
theorem toList_cons (s:ByteArray) (h:0<s.size):s.data.toList=s[0] :: (s.extract 1 s.size).data.toList:=by
 obtain⟨⟨l⟩⟩:=s;cases l with
 | nil=>exact absurd h (by simp[ByteArray.size])
 | cons a l =>
  rw[ByteArray.data_extract,Array.toList_extract];show a :: l=a :: List.extract (a :: l) 1 ((a :: l).length);rw[List.extract_eq_take_drop,List.drop_one,List.tail_cons,List.length_cons,Nat.add_sub_cancel,List.take_length]
theorem canon_zero (s:ByteArray) (h:0<s.size) (h0:s[0].toNat=0):canonV s=canonV (s.extract 1 s.size):=by
 have e:s[0]=0:=UInt8.toNat_inj.1 h0;unfold canonV;rw[toList_cons s h,List.dropWhile_cons,if_pos (by rw[e];rfl)]
theorem canon_stop (s:ByteArray) (h:0<s.size) (h0:s[0].toNat≠0):canonV s=s:=by
 unfold canonV;conv=>lhs;rw[toList_cons s h]
 rw[List.dropWhile_cons,if_neg (by intro e;exact h0 (by rw[eq_of_beq e];rfl)),←toList_cons s h]
theorem canonical_v (s:ByteArray) (w:World) (hs:s.size≤128) :
  Calls Tryz.prog 313 #[.string s] w fun e w'=>e=.returned (.string (canonV s))∧vldB (canonV s)=true∧(canonV s).size≤s.size∧w'=w:=by
 go_enter Tryz.func313,Tryz.ntmps313
 go_wp2;go_loop [0] (fun v=>∃t:ByteArray,v=.string t∧Hid (canonV t=canonV s)∧t.size≤s.size) (fun v=>strLen v)
 case atStart=>exact⟨s,rfl,rfl,Nat.le_refl _⟩
 case round =>
  obtain⟨t,rfl,hc,ht⟩:=hrel;by_cases h0:t.size=0
  ·obtain rfl:t=ByteArray.empty:=by apply ByteArray.ext;apply Array.eq_empty_of_size_eq_zero;exact h0
   go_wp2;go_ret
   exact⟨by rw[←hc.out];rfl,by rw[←hc.out];exact vldB_empty,by rw[←hc.out];exact ht,rfl⟩
  ·have hp:0<t.size:=by omega
   have HV:=Kh (vldB_pos hp (by omega));have hi:(0:Int)≤1:=by omega
   have hj:(1:Int)≤(t.size:Int):=by omega
   by_cases hx:(t[0].toNat:Int)=0
   ·have hb:((t[0].toNat:Int)==0)=true:=by simp[hx]
    have he:=Kh (canon_zero t hp (by omega));clear hx;go_wp2;go_round
    case rel=>exact⟨t.extract 1 t.size,rfl,by rw[Hid,←he.out];exact hc.out,by rw[ByteArray.size_extract];omega⟩
    case measure=>simp[strLen,ByteArray.size_extract];omega
   ·have hb:((t[0].toNat:Int)==0)=false:=by rw[beq_eq_false_iff_ne];exact hx
    have HX:=Kh hx;have hd:Hid (canonV s=t):=by rw[Hid,←hc.out];exact canon_stop t hp (by omega)
    clear hx;go_wp2;go_ret
    exact⟨by rw[hd.out];rfl,by rw[hd.out,HV.out,bne_iff_ne];exact HX.out,by rw[hd.out];exact ht,rfl⟩
end
section
open Go.RowKit Go.Shelf
def nmV (p a b:Nat):ByteArray:=decV p++(⟨#[46]⟩:ByteArray)++decV a++(⟨#[46]⟩:ByteArray)++decV b
def blV (seed:ByteArray) (p a:Nat):Nat→ByteArray
 | 0=>⟨#[]⟩
 | m+1=>blV seed p a m++macV seed (nmV p a m)
theorem blV_size (seed:ByteArray) (p a m:Nat):(blV seed p a m).size=32*m:=by
 induction m with
 | zero=>rfl
 | succ m ih=>show (blV seed p a m++macV seed (nmV p a m)).size=_;rw[ByteArray.size_append,ih,macV_size];omega
def attT (seed:ByteArray) (p a n:Nat):ByteArray:=
 canonV ((⟨#[UInt8.ofNat (byt (blV seed p a (((n+7) / 8+31) / 32)) 0%2^(8-(8*((n+7) / 8)-n)))]⟩:ByteArray)++(blV seed p a (((n+7) / 8+31) / 32)).extract 1 ((n+7) / 8))
theorem half_ge {x y q:Nat} (h0:0<q) (h:y=x%(2*q)) (hq:q≤y):y-q=x%q:=by
 have h1:x%q=y%q:=by rw[h,Nat.mod_mod_of_dvd _ (Nat.dvd_mul_left q 2)]
 have h2:=Nat.mod_lt x (show 0<2*q by omega);rw[h1,Nat.mod_eq_sub_mod hq,Nat.mod_eq_of_lt (by omega)]
theorem half_lt {x y q:Nat} (h0:0<q) (h:y=x%(2*q)) (hq:y<q):y=x%q:=by
 have h1:x%q=y%q:=by rw[h,Nat.mod_mod_of_dvd _ (Nat.dvd_mul_left q 2)]
 rw[h1,Nat.mod_eq_of_lt hq]
theorem rattempt_v (seed:ByteArray) (p a n:Nat) (w:World) (hk:seed.size≤1000) (h1:p≤2147483647) (h2:a<256) (h3:1≤n) (h4:n≤512) :
  Calls Tryz.prog 267 #[.string seed,.int .i64 (p:Int),.int .i64 (a:Int),.int .i64 (n:Int)] w fun e w'=>e=.returned (.string (attT seed p a n))∧Bw w w':=by
 have HM:Hid (∀(s:ByteArray) (w:World),s.size≤900→Calls Tryz.prog 311 #[.string seed,.string s] w fun e w'=>e=.returned (.string (macV seed s))∧Bw w w'):=fun s w h=>mac_v seed s w hk h
 have HD:Hid (∀(n:Nat) (w:World),n≤2147483647→Calls Tryz.prog 312 #[.int .i64 (n:Int)] w fun e w'=>e=.returned (.string (decV n))∧Bw w w'):=fun n w h=>decimal_v n w (by omega)
 have hg:Hid (∀n,n≤2147483647→(decV n).size≤10):=fun n h=>dec_size n 9 (by omega)
 have HC:Hid (∀(s:ByteArray) (w:World),s.size≤128→Calls Tryz.prog 313 #[.string s] w fun e w'=>e=.returned (.string (canonV s))∧vldB (canonV s)=true∧(canonV s).size≤s.size∧w'=w):=fun s w h=>canonical_v s w h
 obtain⟨z,hz⟩:∃z,z=(n+7) / 8:=⟨_,rfl⟩;have h5:1≤z:=by omega
 have h6:z≤64:=by omega
 have hI:n≤8*z:=by omega
 have h7:8*z<n+8:=by omega
 have e1:((n:Int)+7) / 8=(z:Int):=by omega
 have e2:((n:Int)+7).tdiv 8=(z:Int):=by rw[Int.tdiv_eq_ediv_of_nonneg (by omega)];exact e1
 have hJ:Hid (attT seed p a n=canonV ((⟨#[UInt8.ofNat (byt (blV seed p a ((z+31) / 32)) 0%2^(8-(8*z-n)))]⟩:ByteArray)++(blV seed p a ((z+31) / 32)).extract 1 z)):=by rw[Hid,hz];rfl
 have h8:n≤8*z:=hI;clear hz;go_enter Tryz.func267,Tryz.ntmps267
 go_wp2;go_loopw [10,11] (fun v i wr=>∃(t:ByteArray) (b:Nat),v=.string t∧i=.int .i64 (b:Int)∧Hid (t=blV seed p a b)∧Hid (b=0∨32*(b-1)<z)∧t.size=32*b∧b≤2∧Bw w wr) (fun v _ _=>z-strLen v)
 case atStart=>exact⟨_,0,rfl,rfl,rfl,.inl rfl,rfl,by omega,Br⟩
 case round =>
  obtain⟨t,b,rfl,rfl,ho,hK,ht,h9,hv⟩:=hrel;obtain⟨wp,hL⟩:∃wp,wp=wr:=⟨_,rfl⟩;subst hL;by_cases hlt:t.size<z
  ·have hd:decide ((t.size:Int)<(z:Int))=true:=Dt (by omega);have Ha:b≤1:=by omega
   go_wp2_with fail
   refine (HD.out p _ (by omega)).mono ?_;rintro e wa ⟨rfl,hM⟩;have hh:=hg.out p (by omega);obtain⟨d1,hb⟩:∃d,d=decV p:=⟨_,rfl⟩;rw[←hb]at hh ⊢;have hi:=Kh hb;clear hb;have q1:¬ 9223372036854775807<d1.size+1:=by omega
   go_wp2_with fail
   refine (HD.out a _ (by omega)).mono ?_;rintro e wb ⟨rfl,hN⟩;have hO:=hg.out a (by omega);obtain⟨d2,hc⟩:∃d,d=decV a:=⟨_,rfl⟩;rw[←hc]at hO ⊢;have hj:=Kh hc;clear hc;have q2:¬ 9223372036854775807<d1.size+1+d2.size:=by omega
   have q3:¬ 9223372036854775807<d1.size+1+d2.size+1:=by omega
   go_wp2_with fail
   refine (HD.out b _ (by omega)).mono ?_;rintro e wc ⟨rfl,hP⟩;have hQ:=hg.out b (by omega);obtain⟨d3,he⟩:∃d,d=decV b:=⟨_,rfl⟩;rw[←he]at hQ ⊢;have hl:=Kh he;clear he;have q4:¬ 9223372036854775807<d1.size+1+d2.size+1+d3.size:=by omega
   have hf:Hid ((d1++(⟨#[46]⟩:ByteArray)++d2++(⟨#[46]⟩:ByteArray)++d3).size≤900):=by
    rw[Hid,ByteArray.size_append,ByteArray.size_append,ByteArray.size_append,ByteArray.size_append];show d1.size+1+d2.size+1+d3.size≤900;omega
   go_wp2_with fail
   refine (HM.out _ _ hf.out).mono ?_;rintro e wd ⟨rfl,hbd⟩;have hu:=macV_size seed (d1++(⟨#[46]⟩:ByteArray)++d2++(⟨#[46]⟩:ByteArray)++d3);have hw:Hid (t++macV seed (d1++(⟨#[46]⟩:ByteArray)++d2++(⟨#[46]⟩:ByteArray)++d3)=blV seed p a (b+1)):=by rw[Hid,ho.out,hi.out,hj.out,hl.out];rfl
   generalize macV seed (d1++(⟨#[46]⟩:ByteArray)++d2++(⟨#[46]⟩:ByteArray)++d3)=u at hu hw ⊢;have q5:¬ 9223372036854775807<t.size+u.size:=by omega
   clear hf q1 q2 q3 q4;go_wp2;go_roundw
   case rel=>exact⟨t++u,b+1,rfl,by go_num,hw.out,.inr (by rw[Nat.add_sub_cancel,←ht];exact hlt),by rw[ByteArray.size_append];omega,by omega,bt hv (bt hM (bt hN (bt hP hbd)))⟩
   case measure=>simp[strLen,ByteArray.size_append];omega
  ·have hd:decide ((t.size:Int)<(z:Int))=false:=decide_eq_false (by omega);have hp:0<t.size:=by omega
   have hm:=wb t[0];have hn:=t[0].toNat_lt;have hR:Hid (b=(z+31) / 32):=by rw[Hid];rcases hK.out with h | h <;> omega
   have hA:Hid (byt t 0=t[0].toNat):=(byt_at t 0 hp).symm;generalize hx:t[0].toNat=x at hm hn hA;have HX:=Kh hx;clear hx;obtain⟨r,hr⟩:∃r,r=8*z-n:=⟨_,rfl⟩;have Hb:r≤7:=by omega
   have er:(8:Int)*(z:Int)-(n:Int)=(r:Int):=by omega
   have hS:Hid (8*z-n=r):=hr.symm;clear hr;go_wp2;go_loopw [12,13] (fun f i wr=>∃(y m:Nat),f=.int .i64 (y:Int)∧Hid (y=x%2^(m+1))∧y≤255∧i=.int .i64 (m:Int)∧7-r≤m∧m≤7∧wr=wp) (fun _ i _=>(intOf i).toNat)
   case atStart=>exact⟨x,7,by rw[HX.out,hm],by rw[Hid,Nat.mod_eq_of_lt (by omega)],by omega,rfl,by omega,by omega,rfl⟩
   case round =>
    obtain⟨y,m,rfl,HY,hy,rfl,hT,hB,hU⟩:=hrel;subst hU;obtain⟨wq,hV⟩:∃wq,wq=wr:=⟨_,rfl⟩;subst hV;by_cases Hc:8-r≤m
    ·have Hd:1≤m:=by omega
     have hh:decide (8-(r:Int)≤(m:Int))=true:=Dt (by omega)
     have hW:∃q:Nat,(2:Int)^m=(q:Int)∧(2:Nat)^m=q∧q≤128∧(1:Int)*2^m=(q:Int):=by
      refine⟨2^m,by simp,rfl,Nat.le_trans (Nat.pow_le_pow_right (by decide) hB) (by decide),by simp⟩
     obtain⟨q,eq1,eq2,hq,eq3⟩:=hW;have hC:Hid (y=x%(2*q)):=by rw[Hid,HY.out,Nat.pow_succ,eq2,Nat.mul_comm]
     have hD:Hid (2^(m-1+1)=q):=by rw[Hid,show m-1+1=m by omega];exact eq2
     have hE:0<q:=by rw[←eq2];exact Nat.two_pow_pos m
     have hF:=Kh hE;clear eq2 hE;by_cases hX:q≤y
     ·go_wp2;go_roundw
      case rel=>exact⟨y-q,m-1,vi (by omega),by rw[Hid,hD.out];exact half_ge hF.out hC.out hX,by omega,vi (by omega),by omega,by omega,trivial⟩
      case measure=>simp[intOf];omega
     ·go_wp2;go_roundw
      case rel=>exact⟨y,m-1,rfl,by rw[Hid,hD.out];exact half_lt hF.out hC.out (by omega),by omega,vi (by omega),by omega,by omega,trivial⟩
      case measure=>simp[intOf];omega
    ·have hh:decide (8-(r:Int)≤(m:Int))=false:=decide_eq_false (by omega);have He:IntKind.u8.wrap (y:Int)=(y:Int):=by show ((y:Int)%256)=y;omega
     have hG:Blk (wq.alloc (.cells #[.int .u8 (y:Int)] 5)).drew wq.heap.size 5 (u8s [UInt8.ofNat y]):=by
      have h:=(Blk.new wq #[.int .u8 (y:Int)] 5).drew
      have e:u8s [UInt8.ofNat y]=[.int .u8 (y:Int)]:=by
       show [Value.int .u8 ((UInt8.ofNat y).toNat:Int)]=_;rw[UInt8.toNat_ofNat',Nat.mod_eq_of_lt (by omega)]
      rw[e];exact h
     obtain⟨u,hu,hH,Hf⟩:∃u:ByteArray,u.size=1∧u=⟨#[UInt8.ofNat y]⟩∧(convert 177 9 (.slice (some ⟨wq.heap.size,0,none⟩) 1 1)).run Tryz.prog (wq.alloc (.cells #[.int .u8 (y:Int)] 5)).drew=.ok (.string u) (wq.alloc (.cells #[.int .u8 (y:Int)] 5)).drew:=⟨_,rfl,rfl,row_str (l:=[UInt8.ofNat y]) (c:=1) hG.row⟩;have hY:=(ba hv (.cells #[.int .u8 (y:Int)] 5)).drew
     have hZ:Hid (attT seed p a n=canonV (u++t.extract 1 z)):=by
      have h0:m+1=8-r:=by omega
      rw[Hid,hJ.out,←hR.out,←ho.out,hA.out,hS.out,hH,HY.out,h0]
     clear hH;have f1:(0:Int)≤1:=by omega
     have f2:(1:Int)≤(z:Int):=by omega
     have f3:(z:Int)≤(t.size:Int):=by omega
     have hf:Hid ((u++t.extract 1 z).size≤64):=by rw[Hid,ByteArray.size_append,ByteArray.size_extract];omega
     have q1:¬ 9223372036854775807<u.size+(t.extract 1 z).size:=by rw[ByteArray.size_extract];omega
     clear hG HM HD hT hB hm;go_wp2_with fail
     go_region_with (go_at_call 313;(with_reducible refine (HC.out _ _ (by have:=hf.out;omega)).mono ?_);rintro e wx ⟨rfl,Hg,Hh,rfl⟩)
     all_goals
      go_wp2;go_ret
      exact⟨by rw[hZ.out];rfl,hY⟩
end
end Go.Proofs.YtihjpddbjhcbmaaGreatDoor
