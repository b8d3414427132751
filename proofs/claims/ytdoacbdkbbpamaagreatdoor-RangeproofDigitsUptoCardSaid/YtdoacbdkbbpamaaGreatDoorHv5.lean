import Derived.Test.YtdoacbdkbbpamaaGreatDoorHp2
import Derived.Test.YtdoacbdkbbpamaaGreatDoorHol
set_option linter.unusedVariables false
set_option linter.unusedSimpArgs false
set_option maxRecDepth 100000
set_option maxHeartbeats 16000000
namespace Go.Proofs.YtdoacbdkbbpamaaGreatDoor
section
open Go.RowKit Go.Shelf
theorem WdA.app {w:World} {g:Nat} {xs Z:Array Value} {n:Nat} {F:Nat→Int} (h:Blk w g 181 (xs++Z).toList) (hx:xs.toList=u32f F n):WdA w g n F:=by
 refine ⟨h.lt,fun j hj=>?_⟩;rw [h.cell,Array.toList_append,List.getElem?_append_left (by rw [hx,u32f_len];exact hj),hx,u32f_get F hj]
theorem wda8 (w:World) (F:Nat→Int) (a0 a1 a2 a3 a4 a5 a6 a7:Int) (h0:a0=F 0) (h1:a1=F 1) (h2:a2=F 2) (h3:a3=F 3) (h4:a4=F 4) (h5:a5=F 5) (h6:a6=F 6) (h7:a7=F 7) :
  Blk (w.alloc (.cells #[.int .u32 a0,.int .u32 a1,.int .u32 a2,.int .u32 a3,.int .u32 a4,.int .u32 a5,.int .u32 a6,.int .u32 a7] 181)) w.heap.size 181 (u32f F 8):=by
 subst h0 h1 h2 h3 h4 h5 h6 h7;exact (Blk.new w _ _).as (by rfl)
theorem u32f_8 (F:Nat→Int):#[Value.int .u32 (F 0),.int .u32 (F 1),.int .u32 (F 2),.int .u32 (F 3),.int .u32 (F 4),.int .u32 (F 5),.int .u32 (F 6),.int .u32 (F 7)].toList=u32f F 8:=by rfl
theorem compress_v (S:Nat→Int) (s:ByteArray) (b c:Nat) (w:World) (hs:s.size=64) (hS:WdA w b 8 S) :
  Calls Tryz.prog 206 #[.slice (some ⟨b,0,none⟩) 8 c,.string s] w fun e w'=>∃g,e=.returned (.slice (some ⟨g,0,none⟩) 8 8)∧WdA w' g 8 (cmp S s)∧Below w.heap.size w w':=by
 have HR6:Hid (∀x w,Calls Tryz.prog 217 #[.int .u32 x,.int .i64 6] w fun e w'=>e=.returned (.int .u32 (rr x 6))∧Below w.heap.size w w'):=fun x w=>right_c x 6 6 w rfl (by decide) (by decide)
 have HR11:Hid (∀x w,Calls Tryz.prog 217 #[.int .u32 x,.int .i64 11] w fun e w'=>e=.returned (.int .u32 (rr x 11))∧Below w.heap.size w w'):=fun x w=>right_c x 11 11 w rfl (by decide) (by decide)
 have HR25:Hid (∀x w,Calls Tryz.prog 217 #[.int .u32 x,.int .i64 25] w fun e w'=>e=.returned (.int .u32 (rr x 25))∧Below w.heap.size w w'):=fun x w=>right_c x 25 25 w rfl (by decide) (by decide)
 have HR2:Hid (∀x w,Calls Tryz.prog 217 #[.int .u32 x,.int .i64 2] w fun e w'=>e=.returned (.int .u32 (rr x 2))∧Below w.heap.size w w'):=fun x w=>right_c x 2 2 w rfl (by decide) (by decide)
 have HR13:Hid (∀x w,Calls Tryz.prog 217 #[.int .u32 x,.int .i64 13] w fun e w'=>e=.returned (.int .u32 (rr x 13))∧Below w.heap.size w w'):=fun x w=>right_c x 13 13 w rfl (by decide) (by decide)
 have HR22:Hid (∀x w,Calls Tryz.prog 217 #[.int .u32 x,.int .i64 22] w fun e w'=>e=.returned (.int .u32 (rr x 22))∧Below w.heap.size w w'):=fun x w=>right_c x 22 22 w rfl (by decide) (by decide)
 go_enter Tryz.func206,Tryz.ntmps206
 go_wp2_with fail
 refine (schedule_v s _ hs).mono ?_;rintro e w2 ⟨gw_,rfl,hW,_,hb2⟩;replace hS:=hS.after hb2;go_wp2_with fail
 refine (constants_v _).mono ?_;rintro e w3 ⟨gk,rfl,hK,hb3⟩;replace hS:=hS.after hb3;replace hW:=(WdA.of hW).after hb3;have hBW:=bt hb2 hb3;clear hb2 hb3;have h0:=hS.2 0 (by omega);have h1:=hS.2 1 (by omega);have h2:=hS.2 2 (by omega);have h3:=hS.2 3 (by omega);have h4:=hS.2 4 (by omega);have h5:=hS.2 5 (by omega);have h6:=hS.2 6 (by omega);have h7:=hS.2 7 (by omega);have hl:=hS.1;go_wp2;generalize (Question.appendCap 8 0 181).cut (w3.tape w3.drawn (Question.appendCap 8 0 181))=cap;generalize Builtin.zeroCells #[Value.int IntKind.u32 0] (cap-8)=ZC;have hV:=WdA.drew (WdA.app (n:=8) (F:=S) (Blk.new (w3.alloc (.cells #[] 181)) (#[.int .u32 (S 0),.int .u32 (S 1),.int .u32 (S 2),.int .u32 (S 3),.int .u32 (S 4),.int .u32 (S 5),.int .u32 (S 6),.int .u32 (S 7)]++ZC) 181) (u32f_8 S));have hBV:=(ba (b1 w3 (.cells #[] 181)) (.cells (#[.int .u32 (S 0),.int .u32 (S 1),.int .u32 (S 2),.int .u32 (S 3),.int .u32 (S 4),.int .u32 (S 5),.int .u32 (S 6),.int .u32 (S 7)]++ZC) 181)).drew;rw [World.size_alloc] at hV;generalize ((w3.alloc (.cells #[] 181)).alloc (.cells (#[.int .u32 (S 0),.int .u32 (S 1),.int .u32 (S 2),.int .u32 (S 3),.int .u32 (S 4),.int .u32 (S 5),.int .u32 (S 6),.int .u32 (S 7)]++ZC) 181)).drew=w4 at hV hBV ⊢;replace hS:=hS.after hBV;replace hW:=hW.after hBV;replace hK:=hK.after hBV;replace hBW:=bt hBW hBV;generalize w3.heap.size+1=g0 at hV ⊢;clear h0 h1 h2 h3 h4 h5 h6 h7 hl hBV;have HS4:=Lib.hid hBW.size;go_loopw [7,8] (fun v i wr=>∃(k g cc:Nat),k≤64∧i=.int .i64 k∧v=.slice (some ⟨g,0,none⟩) 8 cc∧WdA wr g 8 (vv s S k)∧Hid (0<k→cc=8∧Blk wr g 181 (u32f (vv s S k) 8)∧w4.heap.size≤g)∧Below w4.heap.size w4 wr) (fun _ i _=>64-(intOf i).toNat)
 case atStart=>exact ⟨0,g0,cap,by omega,rfl,rfl,hV,fun h=>absurd h (Nat.lt_irrefl 0),Below.refl _ _⟩
 case round =>
  clear hV;obtain ⟨k,g,cc,hk,rfl,rfl,hV,HL,hbr⟩:=hrel;obtain ⟨wp,hwp⟩:∃wp,wp=wr:=⟨_,rfl⟩;subst hwp;by_cases hlt:k<64
  ·have hKr:=hK.after hbr;have hWr:=hW.after hbr;clear HL;have c0:=hV.2 0 (by omega);have c1:=hV.2 1 (by omega);have c2:=hV.2 2 (by omega);have c3:=hV.2 3 (by omega);have c4:=hV.2 4 (by omega);have c5:=hV.2 5 (by omega);have c6:=hV.2 6 (by omega);have c7:=hV.2 7 (by omega);have ck:=hKr.2 k hlt;have cw:=hWr.2 k hlt;have HV3:Hid (∀j,j<8→vv s S (k+1) j=rnd (vv s S k) (kC k) (sW s k) j):=fun j _=>rfl
   have HRT:Hid (rT (vv s S k) (kC k) (sW s k)=tT (vv s S k 4) (vv s S k 5) (vv s S k 6) (vv s S k 7) (kC k) (sW s k)):=rfl;obtain ⟨VK,hVK⟩:∃F,F=vv s S k:=⟨_,rfl⟩;rw [←hVK] at hV HV3 HRT c0 c1 c2 c3 c4 c5 c6 c7;have HVK:=Lib.hid hVK;clear hVK;generalize hkk:kC k=kk at ck HV3 HRT;generalize hwk:sW s k=wk at cw HV3 HRT;clear hkk hwk;obtain ⟨y0,hy0⟩:∃y,y=VK 0:=⟨_,rfl⟩;rw [←hy0] at c0;have HY0:=Lib.hid hy0;clear hy0;obtain ⟨y1,hy1⟩:∃y,y=VK 1:=⟨_,rfl⟩;rw [←hy1] at c1;have HY1:=Lib.hid hy1;clear hy1;obtain ⟨y2,hy2⟩:∃y,y=VK 2:=⟨_,rfl⟩;rw [←hy2] at c2;have HY2:=Lib.hid hy2;clear hy2;obtain ⟨y3,hy3⟩:∃y,y=VK 3:=⟨_,rfl⟩;rw [←hy3] at c3;have HY3:=Lib.hid hy3;clear hy3;obtain ⟨y4,hy4⟩:∃y,y=VK 4:=⟨_,rfl⟩;rw [←hy4] at c4;have HY4:=Lib.hid hy4;clear hy4;obtain ⟨y5,hy5⟩:∃y,y=VK 5:=⟨_,rfl⟩;rw [←hy5] at c5;have HY5:=Lib.hid hy5;clear hy5;obtain ⟨y6,hy6⟩:∃y,y=VK 6:=⟨_,rfl⟩;rw [←hy6] at c6;have HY6:=Lib.hid hy6;clear hy6;obtain ⟨y7,hy7⟩:∃y,y=VK 7:=⟨_,rfl⟩;rw [←hy7] at c7;have HY7:=Lib.hid hy7;clear hy7;have hVl:=hV.1;have hKl:=hKr.1;have hWl:=hWr.1;have k1:(0:Int)≤(k:Int):=by omega
   have k2:(k:Int)<64:=by omega
   go_upto_region 6 with fail
   go_cut [9,10,11,12,13,14] (fun s9 s10 s11 s12 s13 s14 wc'=>s9=.int .u32 y0∧s10=.int .u32 y1∧s11=.int .u32 y2∧s12=.int .u32 y4∧s13=.int .u32 y5∧s14=.int .u32 y6∧wc'=wp.drew)
   case first =>
    go_wp2_with fail
    go_region;go_wp2_with fail
    go_meet
    exact ⟨rfl,rfl,rfl,rfl,rfl,rfl,rfl⟩
   case rest =>
   obtain ⟨rfl,rfl,rfl,rfl,rfl,rfl,rfl⟩:=hcut;have HTT:Hid (tT y4 y5 y6 y7 kk wk=rT VK kk wk):=by rw [Hid,HY4.out,HY5.out,HY6.out,HY7.out];exact HRT.out.symm
   have HUU:Hid (tU y0 y1 y2=tU (VK 0) (VK 1) (VK 2)):=by rw [Hid,HY0.out,HY1.out,HY2.out]
   clear HRT;have hbr2:=hbr.drew;have hV2:=hV.drew;have g7c:=gclH (w:=wp.drew) (a:=⟨g,7,none⟩) hVl c7;have gkc:=gclH (w:=wp.drew) (a:=⟨gk,k,none⟩) hKl ck;have gwc:=gclH (w:=wp.drew) (a:=⟨gw_,k,none⟩) hWl cw;clear c0 c1 c2 c4 c5 c6 c7 ck cw hKr hWr hV hVl hKl hWl c3;generalize wp.drew=wx at hbr2 hV2 g7c gkc gwc ⊢;clear hbr;go_upto_region 7 with fail
   go_cut [15] (fun s15 wc'=>s15=.int .u32 (tT y4 y5 y6 y7 kk wk)∧Below wx.heap.size wx wc')
   case first =>
    clear hbr2 hV2 hS hW hK hBW HS4 HR2 HR13 HR22;go_wp2_with fail
    refine wp_region_gw (by kernel_rfl) (by kernel_rfl) ?_;repeat (go_big_quiet_step (first | (go_at_call 217;exact gw_of (right_c _ _ 6 _ rfl (by decide) (by decide))) | (go_at_call 217;exact gw_of (right_c _ _ 11 _ rfl (by decide) (by decide))) | (go_at_call 217;exact gw_of (right_c _ _ 25 _ rfl (by decide) (by decide)))))
    refine wpQuiet_nil ?_;rintro w9 ⟨xw9,rfl⟩;have hb9:=gw_below xw9;generalize gw xw9=w9 at hb9;clear g7c gkc gwc;go_wp2_with fail
    go_meet
    exact ⟨rfl,hb9⟩
   case rest =>
    obtain ⟨rfl,hbc⟩:=hcut;rw [HTT.out];obtain ⟨wy,hwy⟩:∃wx,wx=wc:=⟨_,rfl⟩;subst hwy;replace hbr2:=bt hbr2 hbc;replace hV2:=hV2.after hbc;clear hbc g7c gkc gwc HR6 HR11 HR25;go_upto_region 8 with fail
    go_cut [16] (fun s16 wc'=>s16=.int .u32 (tU y0 y1 y2)∧Below wy.heap.size wy wc')
    case first =>
     as_aux_lemma =>
     clear hbr2 hV2;go_wp2_with fail
     refine (HR2.out _ _).mono ?_;rintro e wa ⟨rfl,hba⟩;go_wp2_with fail
     refine (HR13.out _ _).mono ?_;rintro e wb ⟨rfl,hbb⟩;go_wp2_with fail
     refine (HR22.out _ _).mono ?_;rintro e wd ⟨rfl,hbd⟩;have hb6:=bt hba (bt hbb hbd);generalize hr2:rr y0 2=r2;generalize hr13:rr y0 13=r13;generalize hr22:rr y0 22=r22;have HR:=Lib.hid (And.intro hr2 (And.intro hr13 hr22));clear hr2 hr13 hr22;go_wp2_with fail
     go_meet
     exact ⟨(by unfold tU bS0 mj3;rw [HR.out.1,HR.out.2.1,HR.out.2.2];first | done | rfl | (congr 1;omega)),hb6⟩
    case rest =>
     obtain ⟨rfl,hbc⟩:=hcut;rw [HUU.out];obtain ⟨u2,hu2⟩:∃u,u=tU (VK 0) (VK 1) (VK 2):=⟨_,rfl⟩;obtain ⟨t,ht⟩:∃t,t=rT VK kk wk:=⟨_,rfl⟩;rw [←hu2,←ht];have HU2:=Lib.hid hu2;have HT2:=Lib.hid ht;clear hu2 ht;obtain ⟨wd,hwd⟩:∃wx,wx=wc:=⟨_,rfl⟩;subst hwd;replace hbr2:=bt hbr2 hbc;replace hV2:=hV2.after hbc;clear hbc HR2 HR13 HR22;have d3:=hV2.2 3 (by omega);obtain ⟨z3,hz3⟩:∃y,y=VK 3:=⟨_,rfl⟩;rw [←hz3] at d3;have HZ3:=Lib.hid hz3;clear hz3;have hVl:=hV2.1;go_wp2;go_roundw
     case rel =>
      have hnew:=wda8 wd (vv s S (k+1)) ((t+u2)%4294967296) y0 y1 y2 ((z3+t)%4294967296) y4 y5 y6
       (by rw [HV3.out 0 (by omega),HU2.out,HT2.out];rfl) (by rw [HV3.out 1 (by omega),HY0.out];rfl) (by rw [HV3.out 2 (by omega),HY1.out];rfl) (by rw [HV3.out 3 (by omega),HY2.out];rfl)
       (by rw [HV3.out 4 (by omega),HZ3.out,HT2.out];rfl) (by rw [HV3.out 5 (by omega),HY4.out];rfl) (by rw [HV3.out 6 (by omega),HY5.out];rfl) (by rw [HV3.out 7 (by omega),HY6.out];rfl)
      refine ⟨k+1,wd.heap.size,8,by omega,by go_num,rfl,?_,?_,?_⟩
      ·exact WdA.of hnew
      ·exact fun _=>⟨rfl,hnew,hbr2.size⟩
      ·exact ba hbr2 _
     case measure=>simp [intOf];omega
  ·obtain rfl:k=64:=by omega
   obtain ⟨rfl,hW8,hge⟩:=HL.out (by omega);have HGE:=Lib.hid hge;have hSr:=hS.after hbr;clear hV HL hge hK hW;go_wp2;go_loopw [17] (fun i wr=>∃k:Nat,k≤8∧i=.int .i64 k∧Blk wr g 181 (u32f (fP s S k) 8)∧Below w4.heap.size w4 wr) (fun i _=>8-(intOf i).toNat)
   case atStart=>exact ⟨0,by omega,rfl,by rw [fP_zero];exact hW8,hbr⟩
   case round =>
    clear hW8 hbr hlt hk hSr;obtain ⟨k,hk,rfl,hW8,hbr⟩:=hrel;obtain ⟨wp,hwp⟩:∃wp,wp=wr:=⟨_,rfl⟩;subst hwp;by_cases hlt:k<8
    ·have hSr:=hS.after hbr;have c1:=fP_at hW8 hlt;have c2:=hSr.2 k hlt;have HSS:=Lib.hid (fP_set s S k);have HCM:Hid (cmp S s k=(vv s S 64 k+S k)%4294967296):=rfl;generalize vv s S 64 k=x at c1 HCM;generalize S k=y at c2 HCM;have f1:=hW8.free k;have l1:=hW8.lt;have l2:=hSr.1;have k1:(0:Int)≤(k:Int):=by omega
     have k2:(k:Int)<8:=by omega
     go_wp2_with fail
     go_region;go_wp2;go_roundw
     case rel=>exact ⟨k+1,by omega,by go_num,Blk.drewH (Blk.setv hW8 (by rw [HCM.out]) HSS.out),(hbr.setCell HGE.out _).drew⟩
     case measure=>simp [intOf];omega
    ·obtain rfl:k=8:=by omega
     go_wp2;go_ret
     exact ⟨_,rfl,(WdA.of hW8).congr (fun j hj=>by rw [fP,if_pos hj]),bt hBW hbr⟩
end
section
open Go.RowKit Go.Shelf
def zb (k:Nat):ByteArray:=⟨(List.replicate k 0).toArray⟩
def be8L (q:Nat):List UInt8:=(List.range 8).map fun j=>UInt8.ofNat (q / 256^(7-j)%256)
def zc (n:Nat):Nat:=(119-n%64)%64
def padV (s:ByteArray):ByteArray:=s++(⟨#[128]⟩:ByteArray)++zb (zc s.size)++(⟨(be8L (s.size*8)).toArray⟩:ByteArray)
theorem zb_succ (k:Nat):zb (k+1)=zb k++(⟨#[0]⟩:ByteArray):=by
 apply ByteArray.ext
 rw [ByteArray.data_append];apply Array.ext'
 simp [zb,List.replicate_succ']
theorem zb_size (k:Nat):(zb k).size=k:=by simp [zb,ByteArray.size]
theorem be8_len (q:Nat):(be8L q).length=8:=by simp [be8L]
theorem padV_size (s:ByteArray):(padV s).size=64*(s.size / 64+(if s.size%64≤55 then 1 else 2)):=by
 unfold padV;rw [ByteArray.size_append,ByteArray.size_append,ByteArray.size_append,zb_size];show s.size+1+zc s.size+(be8L (s.size*8)).toArray.size=_;rw [List.size_toArray,be8_len,zc];split <;> omega
theorem xor_u8v (a b:UInt8):Value.int .u8 (bits .xor .u8 (a.toNat:Int) (b.toNat:Int))=u8v (a ^^^ b):=by
 rw [u8_xor_nat _ _ a.toNat_lt b.toNat_lt,u8v,UInt8.toNat_xor]
theorem row_str {w:World} {b o c:Nat} {l:List UInt8} (h:Row w b o l) :
  (convert 122 9 (.slice (some ⟨b,o,none⟩) l.length c)).run Tryz.prog w=.ok (.string ⟨l.toArray⟩) w:=by
 have:=Lib.run_convert_whole (P:=Tryz.prog) w 122 5 9 Tryz.underlying122 Tryz.underlying5 Tryz.underlying9 b o ⟨l.toArray⟩ h.bytes c;simpa [ByteArray.size] using this
theorem padded_v (s:ByteArray) (w:World) (hk:s.size≤1000) :
  Calls Tryz.prog 205 #[.string s] w fun e w'=>e=.returned (.string (padV s))∧Below w.heap.size w w':=by
 have hmk:∀W:World,(Instr.makeSlice 122 (.int .i64 8) (.int .i64 8)).run Tryz.prog W=.ok (.slice (some ⟨W.heap.size,0,none⟩) 8 8) (W.alloc (.cells (List.replicate 8 (Value.int .u8 0)).toArray 5)):=run_mk (P:=Tryz.prog) Tryz.underlying122 info_u8 8 (by omega) (by omega);have hB0:Blk (w.alloc (.cells (List.replicate 8 (Value.int .u8 0)).toArray 5)) w.heap.size 5 (u8s (List.replicate 8 0)):=by rw [←u8s_zeros];exact Blk.new _ _ _
 have hBW:=b1 w (.cells (List.replicate 8 (Value.int .u8 0)).toArray 5);generalize hZ:(List.replicate 8 (Value.int .u8 0)).toArray=Z at hmk hB0 hBW;clear hZ;generalize hZ2:List.replicate 8 (0:UInt8)=Z2 at hB0;have HZ2:Hid (Z2.length=8):=by rw [Hid,←hZ2];simp
 clear hZ2;go_enter Tryz.func205,Tryz.ntmps205
 go_wp2;obtain ⟨T,hT1,hT2,hT3⟩:∃T,T%64=56∧s.size<T∧T≤s.size+64:=⟨s.size+1+(120-(s.size+1)%64)%64,by omega,by omega,by omega⟩;go_loopw [0] (fun v wr=>∃(t:ByteArray) (k:Nat),v=.string t∧Hid (t=s++(⟨#[128]⟩:ByteArray)++zb k)∧Hid (t.size=s.size+1+k)∧t.size≤T∧wr=w) (fun v _=>match v with | .string t=>T-t.size | _=>0)
 case atStart=>exact ⟨_,0,rfl,by rw [Hid];show _=_++(zb 0);apply ByteArray.ext;rw [ByteArray.data_append];simp [zb],by rw [Hid,ByteArray.size_append];rfl,by rw [ByteArray.size_append];show s.size+1≤T;omega,rfl⟩
 case round =>
  obtain ⟨t,kz,rfl,HTV,HTS,ht,hwr⟩:=hrel;subst hwr;obtain ⟨w0,hw0⟩:∃w0,w0=wr:=⟨_,rfl⟩;subst hw0;by_cases he:t.size%64=56
  ·have hd:((t.size:Int)%64 != 56)=false:=by rw [bne_eq_false_iff_eq];omega
   have HT:Hid (t.size%64=56∧t.size≤T):=⟨he,ht⟩;have HKZ:Hid (kz=zc s.size):=by rw [Hid,zc];have:=HTS.out;omega
   go_wp2;clear he hd;go_loopw [5,6] (fun x i w2=>∃(k q:Nat) (l:List UInt8),k≤8∧i=.int .i64 (7-(k:Int))∧x=.int .u64 (q:Nat)∧Hid (q<18446744073709551616)∧Hid (q=s.size*8 / 256^k∧∀j,8-k≤j→j<8→l[j]?=some (UInt8.ofNat (s.size*8 / 256^(7-j)%256)))∧Hid (l.length=8)∧Blk w2 w0.heap.size 5 (u8s l)∧Below w0.heap.size w0 w2) (fun _ i _=>(intOf i+1).toNat)
   case atStart=>exact ⟨0,s.size*8,Z2,by omega,rfl,vi (by omega),by rw [Hid];omega,⟨by simp,fun j h1 h2=>by omega⟩,HZ2,hB0,hBW⟩
   case round =>
    clear hB0 hBW hmk HZ2;obtain ⟨k,q,l,hk8,rfl,rfl,HQ,HQV,HL,hb,hbr⟩:=hrel;by_cases hlt:k<8
    ·have hl:=hb.lt;have hc:wr.cell? ⟨w0.heap.size,7-k,none⟩=some (u8v (l[7-k]'(by rw [HL.out];omega))):=by rw [hb.cell,u8s,List.getElem?_map,List.getElem?_eq_getElem (by rw [HL.out];omega)];rfl
     have hf:=hb.free (7-k);have HQ2:Hid (q / 256<18446744073709551616):=Nat.lt_of_le_of_lt (Nat.div_le_self _ _) HQ.out;have hq:=HQ.out;go_wp2;go_roundw
     case rel =>
      rw [byteI q _ rfl];refine ⟨k+1,q / 256,l.set (7-k) (UInt8.ofNat (q%256)),by omega,vi (by omega),vi (by omega),HQ2,⟨by rw [HQV.out.1,Nat.div_div_eq_div_mul,←Nat.pow_succ],fun j h1 h2=>?_⟩,by rw [Hid,List.length_set];exact HL.out,?_,hbr.setCell (Nat.le_refl _) _⟩
      ·rw [List.getElem?_set];by_cases e:7-k=j
       ·rw [if_pos e,if_pos (by rw [HL.out];omega),HQV.out.1,←e,show 7-(7-k)=k by omega]
       ·rw [if_neg e];exact HQV.out.2 j (by omega) h2
      have h:=hb.set (7-k) (u8v (UInt8.ofNat (q%256)));rw [u8s_set] at h;exact h
     case measure=>simp [intOf];omega
    ·obtain rfl:k=8:=by omega
     have hr:Row wr w0.heap.size 0 l:=hb.row;have hcv:=row_str (c:=8) hr;rw [HL.out] at hcv;have hno:¬ 9223372036854775807<t.size+l.length:=by have:=HT.out.2;have:=HL.out;omega
     go_wp2;go_ret
     have hle:l=be8L (s.size*8):=List.ext_getElem? fun j=>by
      by_cases hj:j<8
      ·rw [HQV.out.2 j (by omega) hj,be8L,List.getElem?_map,List.getElem?_range hj];rfl
      ·rw [List.getElem?_eq_none (by rw [HL.out];omega),List.getElem?_eq_none (by rw [be8_len];omega)]
     refine ⟨?_,hbr⟩;rw [HTV.out,HKZ.out,hle];rfl
  ·have hd:((t.size:Int)%64 != 56)=true:=by rw [bne_iff_ne];omega
   have HT:Hid (t.size<T):=by rw [Hid];omega
   go_wp2;go_roundw
   case rel=>exact ⟨_,kz+1,rfl,by rw [Hid,HTV.out,zb_succ,ByteArray.append_assoc],by rw [Hid,ByteArray.size_append,HTS.out];rfl,by rw [ByteArray.size_append];have:=HT.out;show t.size+1≤T;omega,trivial⟩
   case measure=>show T-(t++_:ByteArray).size<T-t.size;rw [ByteArray.size_append];have:=HT.out;show T-(t.size+1)<T-t.size;omega
end
section
open Go.RowKit Go.Shelf
theorem byteZ (z:Int):Value.int .u8 (z%256)=u8v (UInt8.ofNat (z%256).toNat):=by
 have h1:=Int.emod_nonneg z (show (256:Int)≠0 by decide);have h2:=Int.emod_lt_of_pos z (show (0:Int)<256 by decide);unfold u8v;rw [UInt8.toNat_ofNat',Nat.mod_eq_of_lt (by omega),Int.toNat_of_nonneg h1]
def BOwn (w:World) (base:Nat) (v:Value) (l:List UInt8):Prop:=w.ownsRow base 5 1 v l.length (u8s l)
def stHN (m:ByteArray):Nat→Nat→Int
 | 0=>iC
 | k+1=>cmp (stHN m k) (m.extract (64*k) (64*k+64))
def w4 (x:Int):List UInt8:=[UInt8.ofNat (x / 16777216%256).toNat,UInt8.ofNat (x / 65536%256).toNat,UInt8.ofNat (x / 256%256).toNat,UInt8.ofNat (x%256).toNat]
def wL (F:Nat→Int):Nat→List UInt8
 | 0=>[]
 | k+1=>wL F k++w4 (F k)
theorem wL_len (F:Nat→Int) (k:Nat):(wL F k).length=4*k:=by
 induction k with
 | zero=>rfl
 | succ k ih=>show (wL F k++w4 (F k)).length=_;rw [List.length_append,ih];show 4*k+4=_;omega
def sumV (s:ByteArray):ByteArray:=⟨(wL (stHN (padV s) ((padV s).size / 64)) 8).toArray⟩
theorem sumV_size (s:ByteArray):(sumV s).size=32:=by
 show (wL _ 8).toArray.size=32;rw [List.size_toArray,wL_len]
theorem sum_v (s:ByteArray) (w:World) (hs:s.size≤1000) :
  Calls Tryz.prog 197 #[.string s] w fun e w'=>e=.returned (.string (sumV s))∧Below w.heap.size w w':=by
 have HCP:Hid (∀(S:Nat→Int) (s:ByteArray) (b c:Nat) (w:World) (hs:s.size=64) (hS:WdA w b 8 S),Calls Tryz.prog 206 #[.slice (some ⟨b,0,none⟩) 8 c,.string s] w fun e w'=>∃g,e=.returned (.slice (some ⟨g,0,none⟩) 8 8)∧WdA w' g 8 (cmp S s)∧Below w.heap.size w w'):=fun S s b c w h1 h2=>compress_v S s b c w h1 h2
 obtain ⟨i0,hi0,hz00,hz01,hz02⟩:=info_parts info_u8;have HI0:=Lib.hid hi0;have HA0:=Lib.hid hz00;have HB0:=Lib.hid hz01;have HC0:=Lib.hid hz02;clear hi0 hz00 hz01 hz02;go_enter Tryz.func197,Tryz.ntmps197
 go_upto_region 2 with fail
 have hS:=WdA.of ((Blk.new w #[.int .u32 1779033703,.int .u32 3144134277,.int .u32 1013904242,.int .u32 2773480762,.int .u32 1359893119,.int .u32 2600822924,.int .u32 528734635,.int .u32 1541459225] 181).as (cs':=u32f iC 8) (by rfl));have hBW:=b1 w (.cells #[.int .u32 1779033703,.int .u32 3144134277,.int .u32 1013904242,.int .u32 2773480762,.int .u32 1359893119,.int .u32 2600822924,.int .u32 528734635,.int .u32 1541459225] 181);generalize w.alloc (.cells #[.int .u32 1779033703,.int .u32 3144134277,.int .u32 1013904242,.int .u32 2773480762,.int .u32 1359893119,.int .u32 2600822924,.int .u32 528734635,.int .u32 1541459225] 181)=w1 at hS hBW ⊢;obtain ⟨g0,hg0⟩:∃g,w.heap.size=g:=⟨_,rfl⟩;rw [hg0] at hS ⊢;clear hg0;go_wp2_with fail
 refine (padded_v s _ hs).mono ?_;rintro e w2 ⟨rfl,hb2⟩;obtain ⟨t,htp⟩:∃t,t=padV s:=⟨_,rfl⟩;obtain ⟨m,hm0⟩:∃m,m=t.size / 64:=⟨_,rfl⟩
 have ht:t.size=64*m:=by
  have h:=padV_size s;rw [←htp] at h;omega
 have hm:m≤100:=by
  have h:=padV_size s;rw [←htp] at h;split at h <;> omega
 have HSV:Hid (sumV s=⟨(wL (stHN t m) 8).toArray⟩):=by rw [Hid,hm0,htp];rfl
 rw [←htp];clear htp hm0;replace hS:=hS.after hb2;have HT:=Lib.hid ht;have HM:=Lib.hid hm;replace hBW:=bt hBW hb2;clear hb2 ht hm;go_wp2;go_loopw [3,5] (fun v i wr=>∃(k j g cc:Nat),k≤m∧Hid (j=64*k)∧i=.int .i64 j∧v=.slice (some ⟨g,0,none⟩) 8 cc∧WdA wr g 8 (stHN t k)∧Below w2.heap.size w2 wr) (fun _ i _=>t.size-(intOf i).toNat)
 case atStart=>exact ⟨0,0,g0,8,by omega,rfl,rfl,rfl,hS,Below.refl _ _⟩
 case round =>
  clear hS;obtain ⟨k,j,g,cc,hk,HJ,rfl,rfl,hS,hbr⟩:=hrel;obtain ⟨wp,hwp⟩:∃wp,wp=wr:=⟨_,rfl⟩;subst hwp;have hts:t.size≤6400:=by have:=HT.out;have:=HM.out;omega
  by_cases hlt:j<t.size
  ·have hkm:k<m:=by have:=HT.out;have:=HJ.out;omega
   have hj64:j+64≤t.size:=by have:=HT.out;have:=HJ.out;omega
   have b1':(0:Int)≤(j:Int):=by omega
   have b2':(j:Int)≤(j:Int)+64:=by omega
   have b3':(j:Int)+64≤(t.size:Int):=by omega
   have HEX:Hid ((t.extract j (j+64)).size=64):=by rw [Hid,ByteArray.size_extract];omega
   go_wp2_with fail
   have HEJ:Hid (t.extract j (j+64)=t.extract (64*k) (64*k+64)):=by rw [Hid,HJ.out]
   refine (HCP.out _ _ _ _ _ HEX.out hS).mono ?_;rintro e w3 ⟨g',rfl,hS',hb3⟩;go_wp2;go_roundw
   case rel=>exact ⟨k+1,j+64,g',8,by omega,by rw [Hid,HJ.out];omega,by go_num,rfl,by (rw [HEJ.out] at hS';exact hS'),bt hbr hb3⟩
   case measure=>simp [intOf];omega
  ·obtain rfl:k=m:=by have:=HT.out;have:=HJ.out;omega
   replace hBW:=bt hBW hbr;clear hbr HJ hk;obtain ⟨F,hF⟩:∃F,F=stHN t k:=⟨_,rfl⟩;rw [←hF] at hS HSV;clear hF;go_wp2;clear hlt;go_loopw [6,7] (fun v i wr=>∃(k:Nat) (l:List UInt8),k≤8∧i=.int .i64 k∧Hid (l=wL F k)∧Hid (l.length=4*k)∧BOwn wr wp.heap.size v l∧Below wp.heap.size wp wr) (fun _ i _=>8-(intOf i).toNat)
   case atStart=>exact ⟨0,[],by omega,rfl,rfl,rfl,World.ownsRow_nil _ _ _ _,Below.refl _ _⟩
   case round =>
    obtain ⟨k,l,hk,rfl,HWL,HL,hO,hbr⟩:=hrel;obtain ⟨wq,hwq⟩:∃wp,wp=wr:=⟨_,rfl⟩;subst hwq;by_cases hlt:k<8
    ·have hSr:=hS.after hbr;have hx:=hSr.2 k hlt;have HWN:Hid (wL F (k+1)=l++w4 (F k)):=by rw [Hid,HWL.out];rfl
     generalize F k=x at hx HWN;have hl:=hSr.1;have h0k:(0:Int)≤(k:Int):=by omega
     have h1k:(k:Int)<8:=by omega
     have hO4:wq.ownsRow wp.heap.size 5 1 u6 (4*k) (u8s l):=by have h:wq.ownsRow _ _ _ _ _ _:=hO;rw [HL.out] at h;exact h
     have HB4:Hid (u8s (l++[UInt8.ofNat (x / 16777216%256).toNat,UInt8.ofNat (x / 65536%256).toNat,UInt8.ofNat (x / 256%256).toNat,UInt8.ofNat (x%256).toNat])=u8s l++[.int .u8 (x / 16777216%256),.int .u8 (x / 65536%256),.int .u8 (x / 256%256),.int .u8 (x%256)]):=by
      rw [Hid,u8s,List.map_append,byteZ,byteZ,byteZ,byteZ];rfl
     have hsz8:=hbr.size;go_wp2_with (at_builtin;refine wpList_append_lies _ rfl (.tmp 33) (.tmp 45) _ rfl wp.heap.size 5 i0 _ 1 1 Tryz.underlying122 HI0.out HA0.out HB0.out HC0.out rfl (by omega) u6 (4*k) (u8s l) rfl (own_after hO4 (b1 _ (.cells #[.int .u8 (x / 16777216%256),.int .u8 (x / 65536%256),.int .u8 (x / 256%256),.int .u8 (x%256)] 5))) ⟨wq.heap.size,0,none⟩ 4 4 [.int .u8 (x / 16777216%256),.int .u8 (x / 65536%256),.int .u8 (x / 256%256),.int .u8 (x%256)] rfl rfl (Blk.new wq #[.int .u8 (x / 16777216%256),.int .u8 (x / 65536%256),.int .u8 (x / 256%256),.int .u8 (x%256)] 5).cells (by simp [Value.oneCell']) (by omega) (by simp only [maxLen];omega) (by omega) (by rw [World.size_alloc];omega) (wq.heap.size+1) (by simp) ?_;intro ga ca wz hown hgrow hat hlt2)
     have hOA:BOwn wz wp.heap.size (.slice (some ⟨ga,0,none⟩) (4*k+4) ca) (l++[UInt8.ofNat (x / 16777216%256).toNat,UInt8.ofNat (x / 65536%256).toNat,UInt8.ofNat (x / 256%256).toNat,UInt8.ofNat (x%256).toNat]):=by
      rw [BOwn,HB4.out,List.length_append,HL.out];exact hown
     have hbA:=(ba hbr (.cells #[.int .u8 (x / 16777216%256),.int .u8 (x / 65536%256),.int .u8 (x / 256%256),.int .u8 (x%256)] 5)).grown hgrow (by rw [World.size_alloc];omega) (fun x hx=>(own_lt hO4 hx).2);clear hown hgrow hat hlt2 hO4 hO;go_wp2;go_roundw
     case rel=>exact ⟨k+1,_,by omega,by go_num,by rw [Hid,HWN.out];rfl,by rw [Hid,List.length_append,HL.out];simp;omega,hOA,hbA⟩
     case measure=>simp [intOf];omega
    ·obtain rfl:k=8:=by omega
     have hO4:wq.ownsRow wp.heap.size 5 1 u6 32 (u8s l):=by have h:wq.ownsRow _ _ _ _ _ _:=hO;rw [HL.out] at h;exact h
     rcases hO4.2 with ⟨hv,h2⟩ | ⟨g9,cap,cur,hv,h3,h4,_⟩
     ·omega
     ·subst hv
      have hr:Row wq g9 0 l:=fun j hj=>by
       have h:=own_cellS hO4 j (u8v l[j]) (by simp [u8s,hj]);rw [Nat.zero_add];exact h
      have hcv:=row_str (c:=cap) hr;rw [HL.out] at hcv;have hL:=HL.out;go_wp2;go_ret
      exact ⟨by rw [HSV.out,←HWL.out];rfl,bt hBW hbr⟩
end
end Go.Proofs.YtdoacbdkbbpamaaGreatDoor
