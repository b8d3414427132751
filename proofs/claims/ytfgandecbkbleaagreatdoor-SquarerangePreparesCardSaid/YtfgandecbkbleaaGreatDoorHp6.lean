import Derived.Test.YtfgandecbkbleaaGreatDoorHp5
import Derived.Test.YtfgandecbkbleaaGreatDoorHv8
set_option linter.unusedVariables false
set_option linter.unusedSimpArgs false
set_option maxRecDepth 100000
set_option maxHeartbeats 16000000
namespace Go.Proofs.YtfgandecbkbleaaGreatDoor
open Go.RowKit Go.Shelf
def mL (key:ByteArray) (x:UInt8) (k:Nat):List UInt8:=(List.range 64).map fun j=>if j<k then xb key x j else key.data.getD j 0
theorem mL_len (key:ByteArray) (x:UInt8) (k:Nat):(mL key x k).length=64:=by simp [mL]
theorem mL_get (key:ByteArray) (x:UInt8) {k j:Nat} (h:j<64):(mL key x k)[j]?=some (if j<k then xb key x j else key.data.getD j 0):=by
 rw [mL,List.getElem?_map,List.getElem?_range h];rfl
theorem mL_none (key:ByteArray) (x:UInt8) {k j:Nat} (h:¬ j<64):(mL key x k)[j]?=none:=List.getElem?_eq_none (by rw [mL_len];omega)
theorem mL_set (key:ByteArray) (x:UInt8) {k:Nat} (h:k<64):(mL key x k).set k (xb key x k)=mL key x (k+1):=by
 refine List.ext_getElem? fun j=>?_
 by_cases hj:j<64
 ·rw [mL_get key x hj];by_cases e:k=j
  ·subst e;rw [List.getElem?_set_self (by rw [mL_len];exact h),if_pos (by omega)]
  ·rw [List.getElem?_set_ne e,mL_get key x hj];by_cases h2:j<k
   ·rw [if_pos h2,if_pos (by omega)]
   ·rw [if_neg h2,if_neg (by omega)]
 ·rw [mL_none key x hj,List.getElem?_eq_none (by rw [List.length_set,mL_len];omega)]
theorem mL_end (key:ByteArray) (x:UInt8):(⟨(mL key x 64).toArray⟩:ByteArray)=xorV key x:=by
 rw [xorV];refine congrArg (fun l:List UInt8=>(⟨l.toArray⟩:ByteArray)) (List.ext_getElem? fun j=>?_);by_cases hj:j<64
 ·rw [mL_get key x hj,List.getElem?_map,List.getElem?_range hj,if_pos hj];rfl
 ·rw [mL_none key x hj,List.getElem?_eq_none (by simp;omega)]
theorem mL_copy (key:ByteArray) (x:UInt8) (hk:key.size≤64) (Z:List Value) (hZ:Z=List.replicate 64 (.int .u8 0)):Z.take 0++Lib.byteCells key.data.toList++Z.drop (0+key.size)=u8s (mL key x 0):=by
 rw [List.take_zero,List.nil_append,Nat.zero_add,hZ,List.drop_replicate];have hl:(Lib.byteCells key.data.toList).length=key.size:=by rw [Lib.byteCells,List.length_map,Array.length_toList];rfl
 refine List.ext_getElem? fun j=>?_
 have hR:(u8s (mL key x 0))[j]?=((mL key x 0)[j]?).map u8v:=by rw [u8s,List.getElem?_map]
 by_cases hj:j<64
 ·rw [hR,mL_get key x hj,if_neg (Nat.not_lt_zero _)];by_cases h1:j<key.size
  ·rw [List.getElem?_append_left (by rw [hl];exact h1),Lib.byteCells,List.getElem?_map,Array.getElem?_toList,Array.getD_eq_getD_getElem?,Array.getElem?_eq_getElem h1];rfl
  ·rw [List.getElem?_append_right (by rw [hl];omega),hl,List.getElem?_replicate,if_pos (by omega),Array.getD_eq_getD_getElem?,Array.getElem?_eq_none (by show key.size≤j;omega)];rfl
 ·rw [hR,mL_none key x hj,List.getElem?_eq_none (by rw [List.length_append,hl,List.length_replicate];omega)];try rfl
theorem zb64:#[.int .u8 0,.int .u8 0,.int .u8 0,.int .u8 0,.int .u8 0,.int .u8 0,.int .u8 0,.int .u8 0,.int .u8 0,.int .u8 0,.int .u8 0,.int .u8 0,.int .u8 0,.int .u8 0,.int .u8 0,.int .u8 0,.int .u8 0,.int .u8 0,.int .u8 0,.int .u8 0,.int .u8 0,.int .u8 0,.int .u8 0,.int .u8 0,.int .u8 0,.int .u8 0,.int .u8 0,.int .u8 0,.int .u8 0,.int .u8 0,.int .u8 0,.int .u8 0,.int .u8 0,.int .u8 0,.int .u8 0,.int .u8 0,.int .u8 0,.int .u8 0,.int .u8 0,.int .u8 0,.int .u8 0,.int .u8 0,.int .u8 0,.int .u8 0,.int .u8 0,.int .u8 0,.int .u8 0,.int .u8 0,.int .u8 0,.int .u8 0,.int .u8 0,.int .u8 0,.int .u8 0,.int .u8 0,.int .u8 0,.int .u8 0,.int .u8 0,.int .u8 0,.int .u8 0,.int .u8 0,.int .u8 0,.int .u8 0,.int .u8 0,.int .u8 0].toList=List.replicate 64 (Value.int .u8 0):=by rfl
theorem pmac1_v (key s:ByteArray) (w:World) (hk9:key.size≤64) (hs:s.size≤900) :
  Calls Tryz.prog 191 #[.string key,.string s] w fun e w'=>e=.returned (.string (mac1 key s))∧Below w.heap.size w w':=by
 have hd:decide ((64:Int)<(key.size:Int))=false:=decide_eq_false (by omega);have HM:Hid (mac1 key s=sumV (xorV key 92++sumV (xorV key 54++s))):=rfl;go_enter Tryz.func191,Tryz.ntmps191
 have ha:=xorV_size key 92;have hb:=xorV_size key 54;have hn64:(0:Int)≤64:=by omega
 obtain ⟨Z,hZ⟩:∃Z:Array Value,Z=#[.int .u8 0,.int .u8 0,.int .u8 0,.int .u8 0,.int .u8 0,.int .u8 0,.int .u8 0,.int .u8 0,.int .u8 0,.int .u8 0,.int .u8 0,.int .u8 0,.int .u8 0,.int .u8 0,.int .u8 0,.int .u8 0,.int .u8 0,.int .u8 0,.int .u8 0,.int .u8 0,.int .u8 0,.int .u8 0,.int .u8 0,.int .u8 0,.int .u8 0,.int .u8 0,.int .u8 0,.int .u8 0,.int .u8 0,.int .u8 0,.int .u8 0,.int .u8 0,.int .u8 0,.int .u8 0,.int .u8 0,.int .u8 0,.int .u8 0,.int .u8 0,.int .u8 0,.int .u8 0,.int .u8 0,.int .u8 0,.int .u8 0,.int .u8 0,.int .u8 0,.int .u8 0,.int .u8 0,.int .u8 0,.int .u8 0,.int .u8 0,.int .u8 0,.int .u8 0,.int .u8 0,.int .u8 0,.int .u8 0,.int .u8 0,.int .u8 0,.int .u8 0,.int .u8 0,.int .u8 0,.int .u8 0,.int .u8 0,.int .u8 0,.int .u8 0]:=⟨_,rfl⟩;go_upto_region 4 with fail
 rw [←hZ];have hz:Z.toList=List.replicate 64 (Value.int .u8 0):=by rw [hZ];exact zb64
 clear hZ;have h5:=(Blk.new w Z 234).alloc (.cells Z 234);have h6:=Blk.new (w.alloc (.cells Z 234)) Z 234;rw [World.size_alloc] at h6;have hBW:=ba (b1' w (.cells Z 234)) (.cells Z 234);obtain ⟨g5,hg5⟩:∃g,g=w.heap.size:=⟨_,rfl⟩;obtain ⟨g6,hg6⟩:∃g,g=w.heap.size+1:=⟨_,rfl⟩;have HG:Hid (w.heap.size≤g5∧w.heap.size≤g6∧g5≠g6):=⟨by omega,by omega,by omega⟩;rw [←hg6] at h6;rw [←hg5] at h5;try rw [World.size_alloc]
 rw [←hg6,←hg5];clear hg5 hg6;generalize (w.alloc (.cells Z 234)).alloc (.cells Z 234)=wa at h5 h6 hBW ⊢;have hcp:=Lib.run_copy_row_string (P:=Tryz.prog) wa 160 9 3 5 g5 0 64 64 key Z 234 Tryz.underlying160 (by kernel_rfl) h5 hk9 (by rw [←Array.length_toList,hz,List.length_replicate];omega);rw [mL_copy key 54 hk9 Z.toList hz] at hcp;have h5':Blk (wa.setRow g5 (u8s (mL key 54 0)).toArray) g5 234 (u8s (mL key 54 0)):=setRow_blk (cs:=(u8s (mL key 54 0)).toArray) h5
 have h6':Blk (wa.setRow g5 (u8s (mL key 54 0)).toArray) g6 234 Z.toList:=by
  show ((_:World).setRow _ _).heap[_]?=_;rw [setRow_other _ _ _ _ (Ne.symm HG.out.2.2)];exact h6
 have hBW':=setRow_below (cs:=(u8s (mL key 54 0)).toArray) hBW HG.out.1;clear h5 h6 hBW;go_upto_region 5 with fail
 clear hcp;generalize wa.setRow g5 (u8s (mL key 54 0)).toArray=wb at h5' h6' hBW' ⊢;have hcp:=Lib.run_copy_row_string (P:=Tryz.prog) wb 160 9 3 5 g6 0 64 64 key Z 234 Tryz.underlying160 (by kernel_rfl) h6' hk9 (by rw [←Array.length_toList,hz,List.length_replicate];omega);rw [mL_copy key 92 hk9 Z.toList hz] at hcp;have h6:Blk (wb.setRow g6 (u8s (mL key 92 0)).toArray) g6 234 (u8s (mL key 92 0)):=setRow_blk (cs:=(u8s (mL key 92 0)).toArray) h6'
 have h5:Blk (wb.setRow g6 (u8s (mL key 92 0)).toArray) g5 234 (u8s (mL key 54 0)):=by
  show ((_:World).setRow _ _).heap[_]?=_;rw [setRow_other _ _ _ _ HG.out.2.2];exact h5'
 have hBW:=setRow_below (cs:=(u8s (mL key 92 0)).toArray) hBW' HG.out.2.1;clear h5' h6' hBW' hz;go_upto_region 6 with fail
 clear hcp;generalize wb.setRow g6 (u8s (mL key 92 0)).toArray=wc at h5 h6 hBW ⊢;have HX5:Hid (∀y:UInt8,Value.int .u8 (bits .xor .u8 (y.toNat:Int) 54)=u8v (y ^^^ 54)):=fun y=>xor_u8v y 54
 have HX6:Hid (∀y:UInt8,Value.int .u8 (bits .xor .u8 (y.toNat:Int) 92)=u8v (y ^^^ 92)):=fun y=>xor_u8v y 92
 have HME:Hid ((⟨(mL key 54 64).toArray⟩:ByteArray)=xorV key 54∧(⟨(mL key 92 64).toArray⟩:ByteArray)=xorV key 92):=⟨mL_end _ _,mL_end _ _⟩;go_wp2;go_loopw [19] (fun i wr=>∃k:Nat,k≤64∧i=.int .i64 k∧Blk wr g5 234 (u8s (mL key 54 k))∧Blk wr g6 234 (u8s (mL key 92 k))∧Below w.heap.size w wr) (fun i _=>64-(intOf i).toNat)
 case atStart=>exact ⟨0,by omega,rfl,h5,h6,hBW⟩
 case round =>
  clear h5 h6 hBW;obtain ⟨k,hk,rfl,h5,h6,hbr⟩:=hrel;by_cases hlt:k<64
  ·have c5:wr.cell? ⟨g5,k,none⟩=some (u8v (key.data.getD k 0)):=by rw [h5.cell,u8s,List.getElem?_map,mL_get _ _ hlt,if_neg (by omega)];rfl
   have c6:wr.cell? ⟨g6,k,none⟩=some (u8v (key.data.getD k 0)):=by rw [h6.cell,u8s,List.getElem?_map,mL_get _ _ hlt,if_neg (by omega)];rfl
   have HS5:Hid (∀y,y=xb key 54 k→(mL key 54 k).set k y=mL key 54 (k+1)):=fun y e=>by rw [e];exact mL_set key 54 hlt
   have HS6:Hid (∀y,y=xb key 92 k→(mL key 92 k).set k y=mL key 92 (k+1)):=fun y e=>by rw [e];exact mL_set key 92 hlt
   have HXB:Hid (key.data.getD k 0 ^^^ 54=xb key 54 k∧key.data.getD k 0 ^^^ 92=xb key 92 k):=⟨rfl,rfl⟩;generalize key.data.getD k 0=y at c5 c6 HXB;unfold u8v at c5 c6;have hne:g5≠g6:=HG.out.2.2;have f5:=h5.free k;have f6:=h6.free k;have l5:=h5.lt;have l6:=h6.lt;have k1:(0:Int)≤(k:Int):=by omega
   have k2:(k:Int)<64:=by omega
   go_wp2;go_roundw
   case rel =>
    refine ⟨k+1,by omega,by go_num,?_,?_,(hbr.setCell HG.out.1 _).setCell HG.out.2.1 _⟩
    ·rw [HX5.out,←HS5.out _ HXB.out.1,←u8s_set];exact (h5.set k _).other _ _ HG.out.2.2
    ·rw [HX6.out,←HS6.out _ HXB.out.2,←u8s_set];exact (h6.other _ _ (Ne.symm HG.out.2.2)).set k _
   case measure=>simp [intOf];omega
  ·obtain rfl:k=64:=by omega
   have L54:=mL_len key 54 64;have L92:=mL_len key 92 64
   have hr5:∀x:GW wr,(convert 160 9 (.slice (some ⟨g5,0,none⟩) 64 64)).run Tryz.prog (gw x)=.ok (.string (xorV key 54)) (gw x):=fun x=>by
    have h:=row_str (c:=64) (h5.after (gw_below x)).row;rw [L54,HME.out.1] at h;exact h
   have hr6:∀x:GW wr,(convert 160 9 (.slice (some ⟨g6,0,none⟩) 64 64)).run Tryz.prog (gw x)=.ok (.string (xorV key 92)) (gw x):=fun x=>by
    have h:=row_str (c:=64) (h6.after (gw_below x)).row;rw [L92,HME.out.2] at h;exact h
   clear h5 h6 L54 L92;generalize xorV key 92=a at ha HM hr6 ⊢;generalize xorV key 54=b at hb HM hr5 ⊢;have HS:Hid (∀(x:ByteArray) (w:World),x.size≤1000→Calls Tryz.prog 208 #[.string x] w fun e w'=>e=.returned (.string (sumV x))∧Below w.heap.size w w'):=fun x w h=>psum_v x w h
   have hc:=sumV_size (b++s);generalize sumV=sm at hc HM HS ⊢;have h1:¬ 9223372036854775807<b.size+s.size:=by omega
   have hbs:(b++s).size≤1000:=by rw [ByteArray.size_append];omega
   have h2:¬ 9223372036854775807<a.size+(sm (b++s)).size:=by omega
   have hac:(a++sm (b++s)).size≤1000:=by rw [ByteArray.size_append];omega
   go_wp2_with fail
   refine wp_region_gw (by kernel_rfl) (by kernel_rfl) ?_;repeat (go_big_quiet_step (first | (go_at_call 208;exact gw_of (HS.out _ _ hbs)) | (go_at_call 208;exact gw_of (HS.out _ _ hac))))
   refine wpQuiet_nil ?_;rintro w9 ⟨xw9,rfl⟩;have hb9:=gw_below xw9;generalize gw xw9=w9 at hb9;go_wp2;go_ret
   exact ⟨by rw [HM.out];try rfl,bt hbr hb9⟩
theorem pmac_v (key s:ByteArray) (w:World) (hk:key.size≤1000) (hs:s.size≤900) :
  Calls Tryz.prog 191 #[.string key,.string s] w fun e w'=>e=.returned (.string (macV key s))∧Below w.heap.size w w':=by
 by_cases h64:64<key.size
 rotate_left
 ·rw [macV,if_neg h64];exact pmac1_v key s w (by omega) hs
 have hd:decide ((64:Int)<(key.size:Int))=true:=decide_eq_true (by omega);have HM:Hid (macV key s=sumV (xorV (sumV key) 92++sumV (xorV (sumV key) 54++s))):=by rw [Hid,macV,if_pos h64];rfl
 have hk9:(sumV key).size≤64:=by rw [sumV_size];omega
 go_enter Tryz.func191,Tryz.ntmps191
 go_wp2_with fail
 refine (psum_v _ _ hk).mono ?_;rintro e w1 ⟨rfl,hb1⟩;generalize sumV key=key' at hk9 HM ⊢;clear hd;have ha:=xorV_size key' 92;have hb:=xorV_size key' 54;have hn64:(0:Int)≤64:=by omega
 obtain ⟨Z,hZ⟩:∃Z:Array Value,Z=#[.int .u8 0,.int .u8 0,.int .u8 0,.int .u8 0,.int .u8 0,.int .u8 0,.int .u8 0,.int .u8 0,.int .u8 0,.int .u8 0,.int .u8 0,.int .u8 0,.int .u8 0,.int .u8 0,.int .u8 0,.int .u8 0,.int .u8 0,.int .u8 0,.int .u8 0,.int .u8 0,.int .u8 0,.int .u8 0,.int .u8 0,.int .u8 0,.int .u8 0,.int .u8 0,.int .u8 0,.int .u8 0,.int .u8 0,.int .u8 0,.int .u8 0,.int .u8 0,.int .u8 0,.int .u8 0,.int .u8 0,.int .u8 0,.int .u8 0,.int .u8 0,.int .u8 0,.int .u8 0,.int .u8 0,.int .u8 0,.int .u8 0,.int .u8 0,.int .u8 0,.int .u8 0,.int .u8 0,.int .u8 0,.int .u8 0,.int .u8 0,.int .u8 0,.int .u8 0,.int .u8 0,.int .u8 0,.int .u8 0,.int .u8 0,.int .u8 0,.int .u8 0,.int .u8 0,.int .u8 0,.int .u8 0,.int .u8 0,.int .u8 0,.int .u8 0]:=⟨_,rfl⟩;go_upto_region 4 with fail
 rw [←hZ];have hz:Z.toList=List.replicate 64 (Value.int .u8 0):=by rw [hZ];exact zb64
 clear hZ;have h5:=(Blk.new w1 Z 234).alloc (.cells Z 234);have h6:=Blk.new (w1.alloc (.cells Z 234)) Z 234;rw [World.size_alloc] at h6;have hBW:=ba (b1' w1 (.cells Z 234)) (.cells Z 234);obtain ⟨g5,hg5⟩:∃g,g=w1.heap.size:=⟨_,rfl⟩;obtain ⟨g6,hg6⟩:∃g,g=w1.heap.size+1:=⟨_,rfl⟩;have HG:Hid (w1.heap.size≤g5∧w1.heap.size≤g6∧g5≠g6):=⟨by omega,by omega,by omega⟩;rw [←hg6] at h6;rw [←hg5] at h5;try rw [World.size_alloc]
 rw [←hg6,←hg5];clear hg5 hg6;generalize (w1.alloc (.cells Z 234)).alloc (.cells Z 234)=wa at h5 h6 hBW ⊢;have hcp:=Lib.run_copy_row_string (P:=Tryz.prog) wa 160 9 3 5 g5 0 64 64 key' Z 234 Tryz.underlying160 (by kernel_rfl) h5 hk9 (by rw [←Array.length_toList,hz,List.length_replicate];omega);rw [mL_copy key' 54 hk9 Z.toList hz] at hcp;have h5':Blk (wa.setRow g5 (u8s (mL key' 54 0)).toArray) g5 234 (u8s (mL key' 54 0)):=setRow_blk (cs:=(u8s (mL key' 54 0)).toArray) h5
 have h6':Blk (wa.setRow g5 (u8s (mL key' 54 0)).toArray) g6 234 Z.toList:=by
  show ((_:World).setRow _ _).heap[_]?=_;rw [setRow_other _ _ _ _ (Ne.symm HG.out.2.2)];exact h6
 have hBW':=setRow_below (cs:=(u8s (mL key' 54 0)).toArray) hBW HG.out.1;clear h5 h6 hBW;go_upto_region 5 with fail
 clear hcp;generalize wa.setRow g5 (u8s (mL key' 54 0)).toArray=wb at h5' h6' hBW' ⊢;have hcp:=Lib.run_copy_row_string (P:=Tryz.prog) wb 160 9 3 5 g6 0 64 64 key' Z 234 Tryz.underlying160 (by kernel_rfl) h6' hk9 (by rw [←Array.length_toList,hz,List.length_replicate];omega);rw [mL_copy key' 92 hk9 Z.toList hz] at hcp;have h6:Blk (wb.setRow g6 (u8s (mL key' 92 0)).toArray) g6 234 (u8s (mL key' 92 0)):=setRow_blk (cs:=(u8s (mL key' 92 0)).toArray) h6'
 have h5:Blk (wb.setRow g6 (u8s (mL key' 92 0)).toArray) g5 234 (u8s (mL key' 54 0)):=by
  show ((_:World).setRow _ _).heap[_]?=_;rw [setRow_other _ _ _ _ HG.out.2.2];exact h5'
 have hBW:=setRow_below (cs:=(u8s (mL key' 92 0)).toArray) hBW' HG.out.2.1;clear h5' h6' hBW' hz;go_upto_region 6 with fail
 clear hcp;generalize wb.setRow g6 (u8s (mL key' 92 0)).toArray=wc at h5 h6 hBW ⊢;have HX5:Hid (∀y:UInt8,Value.int .u8 (bits .xor .u8 (y.toNat:Int) 54)=u8v (y ^^^ 54)):=fun y=>xor_u8v y 54
 have HX6:Hid (∀y:UInt8,Value.int .u8 (bits .xor .u8 (y.toNat:Int) 92)=u8v (y ^^^ 92)):=fun y=>xor_u8v y 92
 have HME:Hid ((⟨(mL key' 54 64).toArray⟩:ByteArray)=xorV key' 54∧(⟨(mL key' 92 64).toArray⟩:ByteArray)=xorV key' 92):=⟨mL_end _ _,mL_end _ _⟩;go_wp2;go_loopw [19] (fun i wr=>∃k:Nat,k≤64∧i=.int .i64 k∧Blk wr g5 234 (u8s (mL key' 54 k))∧Blk wr g6 234 (u8s (mL key' 92 k))∧Below w1.heap.size w1 wr) (fun i _=>64-(intOf i).toNat)
 case atStart=>exact ⟨0,by omega,rfl,h5,h6,hBW⟩
 case round =>
  clear h5 h6 hBW;obtain ⟨k,hk,rfl,h5,h6,hbr⟩:=hrel;by_cases hlt:k<64
  ·have c5:wr.cell? ⟨g5,k,none⟩=some (u8v (key'.data.getD k 0)):=by rw [h5.cell,u8s,List.getElem?_map,mL_get _ _ hlt,if_neg (by omega)];rfl
   have c6:wr.cell? ⟨g6,k,none⟩=some (u8v (key'.data.getD k 0)):=by rw [h6.cell,u8s,List.getElem?_map,mL_get _ _ hlt,if_neg (by omega)];rfl
   have HS5:Hid (∀y,y=xb key' 54 k→(mL key' 54 k).set k y=mL key' 54 (k+1)):=fun y e=>by rw [e];exact mL_set key' 54 hlt
   have HS6:Hid (∀y,y=xb key' 92 k→(mL key' 92 k).set k y=mL key' 92 (k+1)):=fun y e=>by rw [e];exact mL_set key' 92 hlt
   have HXB:Hid (key'.data.getD k 0 ^^^ 54=xb key' 54 k∧key'.data.getD k 0 ^^^ 92=xb key' 92 k):=⟨rfl,rfl⟩;generalize key'.data.getD k 0=y at c5 c6 HXB;unfold u8v at c5 c6;have hne:g5≠g6:=HG.out.2.2;have f5:=h5.free k;have f6:=h6.free k;have l5:=h5.lt;have l6:=h6.lt;have k1:(0:Int)≤(k:Int):=by omega
   have k2:(k:Int)<64:=by omega
   go_wp2;go_roundw
   case rel =>
    refine ⟨k+1,by omega,by go_num,?_,?_,(hbr.setCell HG.out.1 _).setCell HG.out.2.1 _⟩
    ·rw [HX5.out,←HS5.out _ HXB.out.1,←u8s_set];exact (h5.set k _).other _ _ HG.out.2.2
    ·rw [HX6.out,←HS6.out _ HXB.out.2,←u8s_set];exact (h6.other _ _ (Ne.symm HG.out.2.2)).set k _
   case measure=>simp [intOf];omega
  ·obtain rfl:k=64:=by omega
   have L54:=mL_len key' 54 64;have L92:=mL_len key' 92 64
   have hr5:∀x:GW wr,(convert 160 9 (.slice (some ⟨g5,0,none⟩) 64 64)).run Tryz.prog (gw x)=.ok (.string (xorV key' 54)) (gw x):=fun x=>by
    have h:=row_str (c:=64) (h5.after (gw_below x)).row;rw [L54,HME.out.1] at h;exact h
   have hr6:∀x:GW wr,(convert 160 9 (.slice (some ⟨g6,0,none⟩) 64 64)).run Tryz.prog (gw x)=.ok (.string (xorV key' 92)) (gw x):=fun x=>by
    have h:=row_str (c:=64) (h6.after (gw_below x)).row;rw [L92,HME.out.2] at h;exact h
   clear h5 h6 L54 L92;generalize xorV key' 92=a at ha HM hr6 ⊢;generalize xorV key' 54=b at hb HM hr5 ⊢;have HS:Hid (∀(x:ByteArray) (w:World),x.size≤1000→Calls Tryz.prog 208 #[.string x] w fun e w'=>e=.returned (.string (sumV x))∧Below w.heap.size w w'):=fun x w h=>psum_v x w h
   have hc:=sumV_size (b++s);generalize sumV=sm at hc HM HS ⊢;have h1:¬ 9223372036854775807<b.size+s.size:=by omega
   have hbs:(b++s).size≤1000:=by rw [ByteArray.size_append];omega
   have h2:¬ 9223372036854775807<a.size+(sm (b++s)).size:=by omega
   have hac:(a++sm (b++s)).size≤1000:=by rw [ByteArray.size_append];omega
   go_wp2_with fail
   refine wp_region_gw (by kernel_rfl) (by kernel_rfl) ?_;repeat (go_big_quiet_step (first | (go_at_call 208;exact gw_of (HS.out _ _ hbs)) | (go_at_call 208;exact gw_of (HS.out _ _ hac))))
   refine wpQuiet_nil ?_;rintro w9 ⟨xw9,rfl⟩;have hb9:=gw_below xw9;generalize gw xw9=w9 at hb9;go_wp2;go_ret
   exact ⟨by rw [HM.out];try rfl,bt hb1 (bt hbr hb9)⟩
end Go.Proofs.YtfgandecbkbleaaGreatDoor
