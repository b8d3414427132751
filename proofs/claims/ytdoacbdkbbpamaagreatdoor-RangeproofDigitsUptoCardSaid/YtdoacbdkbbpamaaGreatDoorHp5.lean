import Derived.Test.YtdoacbdkbbpamaaGreatDoorIsm
import Derived.Test.YtdoacbdkbbpamaaGreatDoorHv5
import Derived.Lib.BufferWrite
import Derived.Test.YtdoacbdkbbpamaaGreatDoorLck6
set_option linter.unusedVariables false
set_option linter.unusedSimpArgs false
set_option maxRecDepth 100000
set_option maxHeartbeats 16000000
namespace Go.Proofs.YtdoacbdkbbpamaaGreatDoor
open Go.RowKit Go.Shelf
theorem own_capS {w:World} {base g n c size:Nat} {e:TypeId} {xs:List Value} (h:w.ownsRow base e size (.slice (some ⟨g,0,none⟩) n c) n xs):g<w.heap.size∧n≤c:=by
 rcases h.2 with ⟨h1,h2⟩ | ⟨g',cap,cur,hv,h3,h4,h5,_⟩
 ·cases h1
 ·injection hv with e1 e2 e3
  injection e1 with e1
  injection e1 with e1
  subst e1 e3;exact ⟨(Array.getElem?_eq_some_iff.1 h4).1,h5⟩
theorem run_mk2 {P:Program} {t e:TypeId} {k:IntKind} {bytes:Nat} (ht:P.underlying t=some (.slice e)) (hi:(P.info? e).map (fun i=>(i.zero,i.size,i.bytes))=some (some (.int k 0),1,bytes))
  (n c:Nat) (hnc:n≤c) (hb:bytes*c≤281474976710656) (hm:c≤4611686018427387904) (w:World) :
  (Instr.makeSlice t (.int .i64 (n:Int)) (.int .i64 (c:Int))).run P w=.ok (.slice (some ⟨w.heap.size,0,none⟩) n c) (w.alloc (.cells (List.replicate c (Value.int k 0)).toArray e)):=by
 obtain ⟨i,hi0,hz,hs,hbt⟩:=info_parts hi;have h:=run_make (P:=P) w t e i (.int k 0) ht hi0 hz .i64 .i64 (n:Int) (c:Int) (by omega) (by omega) (by rw [hbt];have h:((bytes*c:Nat):Int)≤((281474976710656:Nat):Int):=Int.ofNat_le.2 hb;rw [Int.natCast_mul] at h;exact h) (by omega);rw [hs,Nat.mul_one,Int.toNat_natCast,Int.toNat_natCast] at h
 have e1:madeCells (Value.int k 0).cells c=(List.replicate c (Value.int k 0)).toArray:=by
  have:=toList_madeCells_one (.int k 0) c;rw [←this];simp [Value.cells]
 rw [e1] at h;exact h
theorem agg_u32 (w:World):(isAgg 181).run Tryz.prog w=.ok false w:=by
 simp [isAgg,run_underlying Tryz.underlying181,go_sem]
theorem size_u32:(Tryz.prog.info? 181).map (fun i=>i.size)=some 1:=by kernel_rfl
theorem ixS (F:Nat→Int) (i:Nat) (hi:i<8) (w:World):(Instr.index 206 (.agg (u32f F 8).toArray) (.int .i64 (i:Int))).run Tryz.prog w=.ok (.int .u32 (F i)) w:=
 run_index_agg 206 181 8 _ .i64 i _ Tryz.underlying206 (by omega) (by omega) size_u32 (agg_u32 w) (by rw [Int.toNat_natCast,List.getElem?_toArray];exact u32f_get F hi)
theorem psum_v (s:ByteArray) (w:World) (hs:s.size≤1000) :
  Calls Tryz.prog 194 #[.string s] w fun e w'=>e=.returned (.string (sumV s))∧Below w.heap.size w w':=by
 obtain ⟨i0,hi0,hz00,hz01,hz02⟩:=info_parts info_u8;have HI0:=Lib.hid hi0;have HA0:=Lib.hid hz00;have HB0:=Lib.hid hz01;have HC0:=Lib.hid hz02;clear hi0 hz00 hz01 hz02;obtain ⟨n,hn⟩:∃n,n=s.size:=⟨_,rfl⟩;obtain ⟨c,hc⟩:∃c,c=n+72:=⟨_,rfl⟩;have hmk:∀W:World,(Instr.makeSlice 122 (.int .i64 (n:Int)) (.int .i64 (c:Int))).run Tryz.prog W=.ok (.slice (some ⟨W.heap.size,0,none⟩) n c) (W.alloc (.cells (List.replicate c (Value.int .u8 0)).toArray 5)):=run_mk2 (P:=Tryz.prog) Tryz.underlying122 info_u8 n c (by omega) (by omega) (by omega);have hcz:IntKind.i64.wrap ((n:Int)+72)=(c:Int):=by rw [IntWalk.i64_in _ (by omega)];omega
 have hls:s.size=n:=hn.symm;obtain ⟨Z,hZ⟩:∃Z:Array Value,Z=(List.replicate c (Value.int .u8 0)).toArray:=⟨_,rfl⟩;have hB:=Blk.new w Z 5;have hBW:=b1 w (.cells Z 5);rw [←hZ] at hmk;have HZ:=Lib.hid hZ;have HN:=Lib.hid hn;have HC:=Lib.hid hc;clear hZ hn hc;go_enter Tryz.func194,Tryz.ntmps194
 go_upto_region 2 with fail
 have hcp:=Lib.run_copy_row_string (P:=Tryz.prog) (w.alloc (.cells Z 5)) 122 9 3 5 w.heap.size 0 n c s Z 5 Tryz.underlying122 (by kernel_rfl) (heap_alloc_new w _) (by omega) (by rw [HZ.out];simp;have:=HC.out;omega)
 have hO:((w.alloc (.cells Z 5)).setRow w.heap.size (Z.toList.take 0++Lib.byteCells s.data.toList++Z.toList.drop (0+s.size)).toArray).ownsRow w.heap.size 5 1 (.slice (some ⟨w.heap.size,0,none⟩) n c) n (u8s s.data.toList):=by
  have hl:s.data.toList.length=n:=by rw [Array.length_toList];exact hls
  refine ⟨by rw [u8s,List.length_map,hl,Nat.mul_one],.inr ⟨w.heap.size,c,_,rfl,Nat.le_refl _,setRow_heap _ _ _ _ _ (0,0) (heap_alloc_new w _),by have:=HC.out;omega,by have:=HC.out;simp only [maxLen];omega,?_,?_⟩⟩
  ·rw [HZ.out];have hsz:s.data.size=s.size:=rfl;simp [Lib.byteCells,hsz];have:=HC.out;omega
  ·rw [List.take_zero,List.nil_append,Nat.mul_one];show List.take n (Lib.byteCells s.data.toList++_)=_;rw [List.take_append_of_le_length (by rw [Lib.byteCells,List.length_map,hl];exact Nat.le_refl _),List.take_of_length_le (by rw [Lib.byteCells,List.length_map,hl];exact Nat.le_refl _)];rfl
 have hB1:=setRow_below (cs:=(Z.toList.take 0++Lib.byteCells s.data.toList++Z.toList.drop (0+s.size)).toArray) hBW (g:=w.heap.size) (Nat.le_refl _);generalize (Z.toList.take 0++Lib.byteCells s.data.toList++Z.toList.drop (0+s.size)).toArray=xs at hcp hO hB1;have hlen0:s.data.toList.length=n:=by rw [Array.length_toList];exact hls
 have HLEN:=Lib.hid hlen0;generalize (w.alloc (.cells Z 5)).setRow w.heap.size xs=w2 at hcp hO hB1;clear hlen0 hB hBW;go_upto_region 3 with fail
 have hsz2:=hB1.size;clear hcp;go_wp2_with (at_builtin;refine wpList_append_lies _ rfl (.tmp 19) (.tmp 20) _ rfl w.heap.size 5 i0 _ 1 1 Tryz.underlying122 HI0.out HA0.out HB0.out HC0.out rfl (by omega) (.slice (some ⟨w.heap.size,0,none⟩) n c) n (u8s s.data.toList) rfl (own_after hO (b1 _ (.cells #[.int .u8 128] 5))) ⟨w2.heap.size,0,none⟩ 1 1 [.int .u8 128] rfl rfl (Blk.new w2 #[.int .u8 128] 5).cells (by simp [Value.oneCell']) (by omega) (by simp only [maxLen];omega) (by omega) (by rw [World.size_alloc];omega) (w2.heap.size+1) (by simp) ?_;intro ga ca wz hown hgrow hat hlt2)
 have hOA:BOwn wz w.heap.size (.slice (some ⟨ga,0,none⟩) (n+1) ca) (s.data.toList++[128]):=by
  rw [BOwn,List.length_append,HLEN.out,u8s,List.map_append];exact hown
 have hBA:=(ba hB1 (.cells #[.int .u8 128] 5)).grown hgrow (by rw [World.size_alloc];omega) (fun x hx=>(own_lt hO hx).2);clear hown hgrow hat hlt2 hO hB1 hsz2;obtain ⟨N2,hT1,hT2,hT3⟩:∃T,T%64=56∧n<T∧T≤n+64:=⟨n+1+(120-(n+1)%64)%64,by omega,by omega,by omega⟩;go_loopw [3] (fun v wr=>∃(k:Nat) (l:List UInt8) (g2 cc:Nat),v=.slice (some ⟨g2,0,none⟩) (n+1+k) cc∧Hid (l=s.data.toList++[128]++List.replicate k 0)∧Hid (l.length=n+1+k)∧n+1+k≤N2∧BOwn wr w.heap.size v l∧Below w.heap.size w wr) (fun v _=>N2-(match v with | .slice _ m _=>m | _=>0))
 case atStart=>exact ⟨0,_,ga,ca,rfl,by simp [Hid],by rw [Hid,List.length_append,HLEN.out];rfl,by omega,hOA,hBA⟩
 case round =>
  obtain ⟨k,l,g2,cc,rfl,HLV,HLL,hkN,hO,hbr⟩:=hrel;obtain ⟨wp,hwp⟩:∃wp,wp=wr:=⟨_,rfl⟩;subst hwp;by_cases he:(n+1+k)%64=56
  ·have hd:(((n+1+k:Nat):Int)%64 != 56)=false:=by rw [bne_eq_false_iff_eq];omega
   have HKZ:Hid (k=zc s.size):=by rw [Hid,zc];omega
   obtain ⟨q,hq⟩:∃q,q=n*8:=⟨_,rfl⟩;have HQ:=Lib.hid hq;have hw1:IntKind.u64.wrap (n:Int)=(n:Int):=by rw [IntKind.wrap_u64];omega
   have hw2:IntKind.u64.wrap ((n:Int)*8)=(q:Int):=by rw [IntKind.wrap_u64];omega
   have hqb:q≤8000:=by omega
   clear hq he;go_wp2;clear hd hw1 hw2;generalize (((n:Int)+1+(k:Int))%64 != 56)=bb25;go_loopw [3,5] (fun v i wr=>∃(j:Nat) (l:List UInt8) (g2 cc:Nat),j≤8∧i=.int .i64 (56-8*(j:Int))∧v=.slice (some ⟨g2,0,none⟩) (n+1+k+j) cc∧Hid (l=s.data.toList++[128]++List.replicate k 0++(be8L q).take j)∧Hid (l.length=n+1+k+j)∧BOwn wr w.heap.size v l∧Below w.heap.size w wr) (fun _ i _=>(intOf i+8).toNat)
   case atStart=>exact ⟨0,l,g2,cc,by omega,rfl,rfl,by rw [Hid,HLV.out];simp,HLL.out,hO,hbr⟩
   case round =>
    clear hO hbr HLV HLL;obtain ⟨j,l,g2,cc,hj,rfl,rfl,HLV,HLL,hO,hbr⟩:=hrel;obtain ⟨wp,hwp⟩:∃wp,wp=wr:=⟨_,rfl⟩;subst hwp;by_cases hlt:j<8
    ·obtain ⟨sh,hsh⟩:∃sh:Nat,56-8*(j:Int)=(sh:Int):=⟨56-8*j,by omega⟩;obtain ⟨qq,hqq⟩:∃qq,qq=q / 256^(7-j):=⟨_,rfl⟩
     have hq2:(q:Int) / 2^sh=(qq:Int):=by
      rw [hqq,Int.natCast_ediv];congr 1
      rw [show sh=8*(7-j) by omega,show (256:Nat)^(7-j)=2^(8*(7-j)) by rw [Nat.pow_mul],Int.natCast_pow];rfl
     have HBE:Hid ((be8L q).take (j+1)=(be8L q).take j++[UInt8.ofNat (qq%256)]):=by
      rw [Hid,List.take_add_one,hqq];congr 1
      rw [be8L,List.getElem?_map,List.getElem?_range hlt];rfl
     have HBY:Hid (Value.int .u8 ((qq:Int)%256)=u8v (UInt8.ofNat (qq%256))):=by
      rw [Hid,byteZ];congr 2
     have s0:(0:Int)≤(sh:Int):=by omega
     have s1:(sh:Int)≤64:=by omega
     have HSH:=Lib.hid hsh;rw [hsh];clear hsh hqq;have hOl:wp.ownsRow w.heap.size 5 1 (.slice (some ⟨g2,0,none⟩) (n+1+k+j) cc) (n+1+k+j) (u8s l):=by have h:wp.ownsRow _ _ _ _ _ _:=hO;rw [HLL.out] at h;exact h
     have hsz3:=hbr.size;go_wp2_with (at_builtin;refine wpList_append_lies _ rfl (.tmp 37) (.tmp 42) _ rfl w.heap.size 5 i0 _ 1 1 Tryz.underlying122 HI0.out HA0.out HB0.out HC0.out rfl (by omega) (.slice (some ⟨g2,0,none⟩) (n+1+k+j) cc) (n+1+k+j) (u8s l) rfl (own_after hOl (b1 _ (.cells #[.int .u8 ((qq:Int)%256)] 5))) ⟨wp.heap.size,0,none⟩ 1 1 [.int .u8 ((qq:Int)%256)] rfl rfl (Blk.new wp #[.int .u8 ((qq:Int)%256)] 5).cells (by simp [Value.oneCell']) (by omega) (by simp only [maxLen];omega) (by omega) (by rw [World.size_alloc];omega) (wp.heap.size+1) (by simp) ?_;intro ga ca wz hown hgrow hat hlt2)
     have hOA:BOwn wz w.heap.size (.slice (some ⟨ga,0,none⟩) (n+1+k+j+1) ca) (l++[UInt8.ofNat (qq%256)]):=by
      rw [BOwn,List.length_append,HLL.out,u8s,List.map_append];rw [HBY.out] at hown;exact hown
     have hBA:=(ba hbr (.cells #[.int .u8 ((qq:Int)%256)] 5)).grown hgrow (by rw [World.size_alloc];omega) (fun x hx=>(own_lt hOl hx).2);clear hown hgrow hat hlt2 hO hOl hbr;have hs8:IntKind.i64.wrap ((sh:Int)-8)=(sh:Int)-8:=by rw [IntWalk.i64_in _ (by omega)]
     go_wp2;go_roundw
     case rel=>exact ⟨j+1,_,ga,ca,by omega,vi (by have:=HSH.out;omega),rfl,by rw [Hid,HLV.out,HBE.out,List.append_assoc _ _ [UInt8.ofNat (qq%256)]],by rw [Hid,List.length_append,HLL.out];rfl,hOA,hBA⟩
     case measure=>simp [intOf];have:=HSH.out;omega
    ·obtain rfl:j=8:=by omega
     have HPV:Hid (l=(padV s).data.toList):=by
      rw [Hid,HLV.out,HKZ.out,HQ.out,←HLEN.out];show _=((s++(⟨#[128]⟩:ByteArray))++zb (zc s.size)++(⟨(be8L (s.size*8)).toArray⟩:ByteArray)).data.toList;rw [ByteArray.data_append,ByteArray.data_append,ByteArray.data_append];have hb8:(be8L (s.data.toList.length*8)).take 8=be8L (s.data.toList.length*8):=List.take_of_length_le (by rw [be8_len];exact Nat.le_refl _);rw [hb8];simp [zb]
     have HLM:Hid (l.length=(padV s).size):=by rw [HPV.out,Array.length_toList];rfl
     obtain ⟨t,htp⟩:∃t,t=padV s:=⟨_,rfl⟩;obtain ⟨m,hm0⟩:∃m,m=t.size / 64:=⟨_,rfl⟩
     have ht:t.size=64*m:=by
      have h:=padV_size s;rw [←htp] at h;omega
     have hm:m≤100:=by
      have h:=padV_size s;rw [←htp] at h;split at h <;> omega
     have HSV:Hid (sumV s=⟨(wL (stHN t m) 8).toArray⟩):=by rw [Hid,hm0,htp];rfl
     rw [←htp] at HPV HLM;have hl64:n+1+k+8=64*m:=by rw [←ht,←HLM.out,HLL.out]
     have hOl:wp.ownsRow w.heap.size 5 1 (.slice (some ⟨g2,0,none⟩) (n+1+k+8) cc) (n+1+k+8) (u8s l):=by have h:wp.ownsRow _ _ _ _ _ _:=hO;rw [HLL.out] at h;exact h
     rw [hl64] at hOl ⊢
     have hA:BytA wp g2 0 t:=by
      refine ⟨(own_capS hOl).1,fun j hj=>?_⟩;rw [Nat.zero_add];refine own_cellS hOl j _ ?_;rw [u8s,List.getElem?_map,HPV.out,Array.getElem?_toList,Array.getElem?_eq_getElem hj,byt,Array.getD_eq_getD_getElem?,Array.getElem?_eq_getElem hj];rfl
     have hcc:64*m≤cc:=(own_capS hOl).2;have HT:=Lib.hid ht;clear htp hm0 hl64 hO hOl HLV HLL HPV HLM hmk;go_wp2_with fail
     refine (pfirst_v _).mono ?_;rintro e w4 ⟨rfl,hb4⟩;replace hA:=hA.after hb4;replace hbr:=bt hbr hb4;clear hb4;have h6:=(Blk.new w4 Z8 206).as z8;have hb6:=b1' w4 (.cells Z8 206);have hb7:=setRow_below (cs:=(u32f iC 8).toArray) hb6 (Nat.le_refl _);have hX:=setRow_blk (cs:=(u32f iC 8).toArray) h6;go_upto_region 12 with (first | (refine wpList_store_rowTo rfl 206 (.tmp 6) (.tmp 44) rfl rfl w4.heap.size (u32f iC 8).toArray rfl rfl 206 _ h6 (size_s8 _) (by simp [u32f]) (u32f_one _ _) ?_))
     generalize (w4.alloc (.cells Z8 206)).setRow w4.heap.size (u32f iC 8).toArray=w6 at hb7 hX ⊢;replace hX:Blk w6 w4.heap.size 206 (u32f iC 8):=hX;obtain ⟨gx,hgx⟩:∃g,w4.heap.size=g:=⟨_,rfl⟩;rw [hgx] at hX ⊢;have HGX:Hid (w4.heap.size≤gx):=by rw [Hid];omega
     clear hgx h6 hb6;go_loopw [3] (fun v wr=>∃(b o r c':Nat),b≤m∧Hid (b<m→o=64*b)∧Hid (r+64*b=64*m)∧Hid (c'+64*b=cc)∧v=.slice (some ⟨g2,o,none⟩) r c'∧Blk wr gx 206 (u32f (stHN t b) 8)∧Below w4.heap.size w4 wr) (fun v _=>match v with | .slice _ r _=>r | _=>0)
     case atStart=>exact ⟨0,0,64*m,cc,by omega,fun _=>rfl,by simp [Hid],by simp [Hid],rfl,hX,hb7⟩
     case round =>
      clear hX hb7;obtain ⟨b,o,r,c',hbm,HO,HR,HC',rfl,hX,hbr4⟩:=hrel;obtain ⟨wp,hwp⟩:∃wp,wp=wr:=⟨_,rfl⟩;subst hwp;by_cases hlt:b<m
      ·replace HO:Hid (o=64*b):=HO.out hlt;have hr64:64≤r:=by have:=HR.out;omega
       have hc64:64≤c':=by have:=HR.out;have:=HC'.out;omega
       have hrc:r≤c':=by have:=HR.out;have:=HC'.out;omega
       have hd:decide ((0:Int)<(r:Int))=true:=decide_eq_true (by omega);have hAr:=hA.after hbr4;have HBL:Hid ((t.extract (64*b) (64*b+64)).size=64):=by rw [Hid,ByteArray.size_extract];have:=HT.out;omega
       have HAB:Hid (∀W,Below wp.heap.size wp W→BytA W g2 o (t.extract (64*b) (64*b+64))):=fun W hb=>by
        have h:=hAr.after hb;refine ⟨h.1,fun j hj=>?_⟩;rw [HBL.out] at hj;have h2:=h.2 (64*b+j) (by have:=HT.out;omega);rw [Nat.zero_add] at h2;rw [HO.out,h2];congr 2
        rw [byt,byt,ByteArray.data_extract,Array.getD_eq_getD_getElem?,Array.getD_eq_getD_getElem?,Array.getElem?_extract,if_pos (by
         show j<min (64*b+64) t.data.size-64*b;have h3:t.data.size=t.size:=rfl;have:=HT.out;omega)]
       have HAF:Hid (∀W,Below wp.heap.size wp W→Calls Tryz.prog 203 #[.agg #[.int .u32 (stHN t b 0),.int .u32 (stHN t b 1),.int .u32 (stHN t b 2),.int .u32 (stHN t b 3),.int .u32 (stHN t b 4),.int .u32 (stHN t b 5),.int .u32 (stHN t b 6),.int .u32 (stHN t b 7)],.slice (some ⟨g2,o,none⟩) 64 c'] W fun e w'=>e=.returned (.agg (u32f (stHN t (b+1)) 8).toArray)∧Below W.heap.size W w'):=fun W hb=>after_v (stHN t b) (t.extract (64*b) (64*b+64)) g2 o c' W HBL.out (HAB.out W hb) hc64
       clear hA hbr;have gc0:=gclH (a:=⟨gx,0,none⟩) hX.lt ((hX.cell 0).trans (u32f_get (stHN t b) (by decide:0<8)));have gc1:=gclH (a:=⟨gx,1,none⟩) hX.lt ((hX.cell 1).trans (u32f_get (stHN t b) (by decide:1<8)));have gc2:=gclH (a:=⟨gx,2,none⟩) hX.lt ((hX.cell 2).trans (u32f_get (stHN t b) (by decide:2<8)));have gc3:=gclH (a:=⟨gx,3,none⟩) hX.lt ((hX.cell 3).trans (u32f_get (stHN t b) (by decide:3<8)));have gc4:=gclH (a:=⟨gx,4,none⟩) hX.lt ((hX.cell 4).trans (u32f_get (stHN t b) (by decide:4<8)));have gc5:=gclH (a:=⟨gx,5,none⟩) hX.lt ((hX.cell 5).trans (u32f_get (stHN t b) (by decide:5<8)));have gc6:=gclH (a:=⟨gx,6,none⟩) hX.lt ((hX.cell 6).trans (u32f_get (stHN t b) (by decide:6<8)));have gc7:=gclH (a:=⟨gx,7,none⟩) hX.lt ((hX.cell 7).trans (u32f_get (stHN t b) (by decide:7<8)));go_wp2;go_wp2_with fail
       refine wp_region_gw_tail 4 (by kernel_rfl) (by kernel_rfl) ?_;simp only [List.take_succ_cons,List.take_zero,List.drop_succ_cons,List.drop_zero];repeat (go_big_quiet_step (first | (go_at_call 203;exact gw_of (HAF.out _ (gw_below _)))))
       refine wpQuiet_nil ?_;rintro w9 ⟨xw9,rfl⟩;have hb9:=gw_below xw9;generalize gw xw9=w9 at hb9;have hX9:=hX.after hb9;have hbr9:=bt hbr4 hb9;clear gc0 gc1 gc2 gc3 gc4 gc5 gc6 gc7;clear hX hbr4 hb9 hAr;refine wpList_store_rowTo rfl 206 (.tmp 6) (.tmp 53) rfl rfl gx (u32f (stHN t (b+1)) 8).toArray rfl rfl 206 _ hX9 (size_s8 _) (by simp [u32f]) (u32f_one _ _) ?_;have hXA:Blk (w9.setRow gx (u32f (stHN t (b+1)) 8).toArray) gx 206 (u32f (stHN t (b+1)) 8):=setRow_blk (cs:=(u32f (stHN t (b+1)) 8).toArray) hX9;have hbrA:=setRow_below (cs:=(u32f (stHN t (b+1)) 8).toArray) hbr9 HGX.out;generalize w9.setRow gx (u32f (stHN t (b+1)) 8).toArray=wA at hXA hbrA ⊢;clear hX9 hbr9;apply wpList_nil
       go_wp2_with fail
       go_roundw
       case rel =>
        refine ⟨b+1,if c'=64 then o else o+64,r-64,c'-64,by omega,fun hb1=>?_,by rw [Hid];have:=HR.out;omega,by rw [Hid];have:=HC'.out;omega,?_,hXA,hbrA⟩
        ·rw [if_neg (by have:=HR.out;have:=HC'.out;omega),HO.out];omega
        ·by_cases hq:c'=64
         ·rw [if_pos hq,if_pos hq]
         ·rw [if_neg hq,if_neg hq]
       case measure=>show r-64<r;omega
      ·obtain rfl:b=m:=by omega
       replace hbr:=bt hbr hbr4;clear hbr4 HO HC' hA;obtain ⟨F,hF⟩:∃F,F=stHN t b:=⟨_,rfl⟩;rw [←hF] at hX HSV;clear hF;have hr0:r=0:=by have:=HR.out;omega
       have hd:decide ((0:Int)<(r:Int))=false:=by rw [decide_eq_false_iff_not];omega
       go_upto_region 16 with fail
       clear hd hr0 HR hlt;apply wp_region_lit
       refine wpList_load_row rfl 206 (.tmp 6) rfl gx rfl 206 _ (0,0) _ hX Tryz.underlying206 rfl (size_s8 _) ?_;clear hX;have hix:∀(k:Nat) (W:World),k<8→(Instr.index 206 (.agg (u32f F 8).toArray) (.int .i64 (k:Int))).run Tryz.prog W=.ok (.int .u32 (F k)) W:=fun k W h=>ixS F k h W
       obtain ⟨AG,hAG⟩:∃A,A=(u32f F 8).toArray:=⟨_,rfl⟩;rw [←hAG] at hix ⊢;clear hAG;have HIX:=Lib.hid hix;clear hix;go_wp2_with fail
       go_loopw [7,55] (fun v i wr=>∃(k':Nat) (l:List UInt8),k'≤8∧i=.int .i64 k'∧Hid (l=wL F k')∧Hid (l.length=4*k')∧BOwn wr w.heap.size v l∧Below w.heap.size w wr) (fun _ i _=>8-(intOf i).toNat)
       case atStart=>exact ⟨0,[],by omega,rfl,rfl,rfl,World.ownsRow_nil _ _ _ _,hbr⟩
       case round =>
        clear hbr;obtain ⟨k',l,hk,rfl,HWL,HL,hO,hbr⟩:=hrel;obtain ⟨wq,hwq⟩:∃wp,wp=wr:=⟨_,rfl⟩;subst hwq;by_cases hlt:k'<8
        ·have hix:∀W:World,(Instr.index 206 (.agg AG) (.int .i64 (k':Int))).run Tryz.prog W=.ok (.int .u32 (F k')) W:=fun W=>HIX.out k' W hlt
         have HWN:Hid (wL F (k'+1)=l++Go.Proofs.YtdoacbdkbbpamaaGreatDoor.w4 (F k')):=by rw [Hid,HWL.out];rfl
         generalize F k'=x at hix HWN;have h0k:(0:Int)≤(k':Int):=by omega
         have h1k:(k':Int)<8:=by omega
         have hO4:wq.ownsRow w.heap.size 5 1 u7 (4*k') (u8s l):=by have h:wq.ownsRow _ _ _ _ _ _:=hO;rw [HL.out] at h;exact h
         have HB4:Hid (u8s (l++[UInt8.ofNat (x / 16777216%256).toNat,UInt8.ofNat (x / 65536%256).toNat,UInt8.ofNat (x / 256%256).toNat,UInt8.ofNat (x%256).toNat])=u8s l++[.int .u8 (x / 16777216%256),.int .u8 (x / 65536%256),.int .u8 (x / 256%256),.int .u8 (x%256)]):=by
          rw [Hid,u8s,List.map_append,byteZ,byteZ,byteZ,byteZ];rfl
         have hsz8:=hbr.size;go_wp2_with (at_builtin;refine wpList_append_lies _ rfl (.tmp 58) (.tmp 70) _ rfl w.heap.size 5 i0 _ 1 1 Tryz.underlying122 HI0.out HA0.out HB0.out HC0.out rfl (by omega) u7 (4*k') (u8s l) rfl (own_after hO4 (b1 _ (.cells #[.int .u8 (x / 16777216%256),.int .u8 (x / 65536%256),.int .u8 (x / 256%256),.int .u8 (x%256)] 5))) ⟨wq.heap.size,0,none⟩ 4 4 [.int .u8 (x / 16777216%256),.int .u8 (x / 65536%256),.int .u8 (x / 256%256),.int .u8 (x%256)] rfl rfl (Blk.new wq #[.int .u8 (x / 16777216%256),.int .u8 (x / 65536%256),.int .u8 (x / 256%256),.int .u8 (x%256)] 5).cells (by simp [Value.oneCell']) (by omega) (by simp only [maxLen];omega) (by omega) (by rw [World.size_alloc];omega) (wq.heap.size+1) (by simp) ?_;intro ga ca wz hown hgrow hat hlt2)
         have hOA:BOwn wz w.heap.size (.slice (some ⟨ga,0,none⟩) (4*k'+4) ca) (l++[UInt8.ofNat (x / 16777216%256).toNat,UInt8.ofNat (x / 65536%256).toNat,UInt8.ofNat (x / 256%256).toNat,UInt8.ofNat (x%256).toNat]):=by
          rw [BOwn,HB4.out,List.length_append,HL.out];exact hown
         have hbA:=(ba hbr (.cells #[.int .u8 (x / 16777216%256),.int .u8 (x / 65536%256),.int .u8 (x / 256%256),.int .u8 (x%256)] 5)).grown hgrow (by rw [World.size_alloc];omega) (fun x hx=>(own_lt hO4 hx).2);clear hown hgrow hat hlt2 hO4 hO hix;go_wp2;go_roundw
         case rel=>exact ⟨k'+1,_,by omega,by go_num,by rw [Hid,HWN.out];rfl,by rw [Hid,List.length_append,HL.out];simp;omega,hOA,hbA⟩
         case measure=>simp [intOf];omega
        ·obtain rfl:k'=8:=by omega
         have hO4:wq.ownsRow w.heap.size 5 1 u7 32 (u8s l):=by have h:wq.ownsRow _ _ _ _ _ _:=hO;rw [HL.out] at h;exact h
         rcases hO4.2 with ⟨hv,h2⟩ | ⟨g9,cap,cur,hv,h3,h4,_⟩
         ·omega
         ·subst hv
          have hr:Row wq g9 0 l:=fun j hj=>by
           have h:=own_cellS hO4 j (u8v l[j]) (by simp [u8s,hj]);rw [Nat.zero_add];exact h
          have hcv:=row_str (c:=cap) hr;rw [HL.out] at hcv;have hL:=HL.out;go_wp2;go_ret
          exact ⟨by rw [HSV.out,←HWL.out];rfl,hbr⟩
  ·have hd:(((n+1+k:Nat):Int)%64 != 56)=true:=by rw [bne_iff_ne];omega
   have hkT:n+1+k<N2:=by omega
   have hOl:wp.ownsRow w.heap.size 5 1 (.slice (some ⟨g2,0,none⟩) (n+1+k) cc) (n+1+k) (u8s l):=by have h:wp.ownsRow _ _ _ _ _ _:=hO;rw [HLL.out] at h;exact h
   have hsz3:=hbr.size;go_wp2_with (at_builtin;refine wpList_append_lies _ rfl (.tmp 26) (.tmp 27) _ rfl w.heap.size 5 i0 _ 1 1 Tryz.underlying122 HI0.out HA0.out HB0.out HC0.out rfl (by omega) (.slice (some ⟨g2,0,none⟩) (n+1+k) cc) (n+1+k) (u8s l) rfl (own_after hOl (b1 _ (.cells #[.int .u8 0] 5))) ⟨wp.heap.size,0,none⟩ 1 1 [.int .u8 0] rfl rfl (Blk.new wp #[.int .u8 0] 5).cells (by simp [Value.oneCell']) (by omega) (by simp only [maxLen];omega) (by omega) (by rw [World.size_alloc];omega) (wp.heap.size+1) (by simp) ?_;intro ga ca wz hown hgrow hat hlt2)
   have hOA:BOwn wz w.heap.size (.slice (some ⟨ga,0,none⟩) (n+1+k+1) ca) (l++[0]):=by
    rw [BOwn,List.length_append,HLL.out,u8s,List.map_append];exact hown
   have hBA:=(ba hbr (.cells #[.int .u8 0] 5)).grown hgrow (by rw [World.size_alloc];omega) (fun x hx=>(own_lt hOl hx).2);clear hown hgrow hat hlt2 hO hOl hbr;go_wp2;go_roundw
   case rel=>exact ⟨k+1,_,ga,ca,rfl,by rw [Hid,HLV.out,List.replicate_succ',List.append_assoc],by rw [Hid,List.length_append,HLL.out];rfl,by omega,hOA,hBA⟩
   case measure=>show N2-(n+1+k+1)<N2-(n+1+k);omega
end Go.Proofs.YtdoacbdkbbpamaaGreatDoor
