import Derived.Test.YtdoacbdkbbpamaaGreatDoorHp5
import Derived.Test.YtdoacbdkbbpamaaGreatDoorSmT
import Derived.Shelf.LaysM
import Derived.Shelf.Strconv.Itoa3
import Derived.Lib.LaidTab
import Derived.RangeFuncNested
import Derived.RangeFuncBound
import Derived.RangeFuncCalls
import Derived.RangeFuncLeaves
import Derived.RangeFuncBox
import Derived.Test.YtdoacbdkbbpamaaGreatDoorExp
set_option linter.unusedVariables false
set_option linter.unusedSimpArgs false
set_option maxRecDepth 100000
set_option maxHeartbeats 16000000
namespace Go.Proofs.YtdoacbdkbbpamaaGreatDoor
section
open Go.RowKit Go.Shelf
def mL (key:ByteArray) (x:UInt8) (k:Nat):List UInt8:=(List.range 64).map fun j=>if j<k then xb key x j else key.data.getD j 0
theorem mL_len (key:ByteArray) (x:UInt8) (k:Nat):(mL key x k).length=64:=by simp [mL]
theorem mL_get (key:ByteArray) (x:UInt8) {k j:Nat} (h:j<64):(mL key x k)[j]?=some (if j<k then xb key x j else key.data.getD j 0):=by
 rw [mL,List.getElem?_map,List.getElem?_range h];rfl
theorem mL_none (key:ByteArray) (x:UInt8) {k j:Nat} (h:¬ j<64):(mL key x k)[j]?=none:=List.getElem?_eq_none (by rw [mL_len];omega)
theorem mL_set (key:ByteArray) (x:UInt8) {k:Nat} (h:k<64):(mL key x k).set k (xb key x k)=mL key x (k+1):=by
 refine List.ext_getElem? fun j=>?_
 by_cases hj:j<64
 ·rw [mL_get key x hj];by_cases e:k=j
  ·subst e;rw [List.getElem?_set_self (by rw [mL_len];exact h),if_pos (by omega)]
  ·rw [List.getElem?_set_ne e,mL_get key x hj];by_cases h2:j<k
   ·rw [if_pos h2,if_pos (by omega)]
   ·rw [if_neg h2,if_neg (by omega)]
 ·rw [mL_none key x hj,List.getElem?_eq_none (by rw [List.length_set,mL_len];omega)]
theorem mL_end (key:ByteArray) (x:UInt8):(⟨(mL key x 64).toArray⟩:ByteArray)=xorV key x:=by
 rw [xorV];refine congrArg (fun l:List UInt8=>(⟨l.toArray⟩:ByteArray)) (List.ext_getElem? fun j=>?_);by_cases hj:j<64
 ·rw [mL_get key x hj,List.getElem?_map,List.getElem?_range hj,if_pos hj];rfl
 ·rw [mL_none key x hj,List.getElem?_eq_none (by simp;omega)]
theorem mL_copy (key:ByteArray) (x:UInt8) (hk:key.size≤64) (Z:List Value) (hZ:Z=List.replicate 64 (.int .u8 0)):Z.take 0++Lib.byteCells key.data.toList++Z.drop (0+key.size)=u8s (mL key x 0):=by
 rw [List.take_zero,List.nil_append,Nat.zero_add,hZ,List.drop_replicate];have hl:(Lib.byteCells key.data.toList).length=key.size:=by rw [Lib.byteCells,List.length_map,Array.length_toList];rfl
 refine List.ext_getElem? fun j=>?_
 have hR:(u8s (mL key x 0))[j]?=((mL key x 0)[j]?).map u8v:=by rw [u8s,List.getElem?_map]
 by_cases hj:j<64
 ·rw [hR,mL_get key x hj,if_neg (Nat.not_lt_zero _)];by_cases h1:j<key.size
  ·rw [List.getElem?_append_left (by rw [hl];exact h1),Lib.byteCells,List.getElem?_map,Array.getElem?_toList,Array.getD_eq_getD_getElem?,Array.getElem?_eq_getElem h1];rfl
  ·rw [List.getElem?_append_right (by rw [hl];omega),hl,List.getElem?_replicate,if_pos (by omega),Array.getD_eq_getD_getElem?,Array.getElem?_eq_none (by show key.size≤j;omega)];rfl
 ·rw [hR,mL_none key x hj,List.getElem?_eq_none (by rw [List.length_append,hl,List.length_replicate];omega)];try rfl
theorem zb64:#[.int .u8 0,.int .u8 0,.int .u8 0,.int .u8 0,.int .u8 0,.int .u8 0,.int .u8 0,.int .u8 0,.int .u8 0,.int .u8 0,.int .u8 0,.int .u8 0,.int .u8 0,.int .u8 0,.int .u8 0,.int .u8 0,.int .u8 0,.int .u8 0,.int .u8 0,.int .u8 0,.int .u8 0,.int .u8 0,.int .u8 0,.int .u8 0,.int .u8 0,.int .u8 0,.int .u8 0,.int .u8 0,.int .u8 0,.int .u8 0,.int .u8 0,.int .u8 0,.int .u8 0,.int .u8 0,.int .u8 0,.int .u8 0,.int .u8 0,.int .u8 0,.int .u8 0,.int .u8 0,.int .u8 0,.int .u8 0,.int .u8 0,.int .u8 0,.int .u8 0,.int .u8 0,.int .u8 0,.int .u8 0,.int .u8 0,.int .u8 0,.int .u8 0,.int .u8 0,.int .u8 0,.int .u8 0,.int .u8 0,.int .u8 0,.int .u8 0,.int .u8 0,.int .u8 0,.int .u8 0,.int .u8 0,.int .u8 0,.int .u8 0,.int .u8 0].toList=List.replicate 64 (Value.int .u8 0):=by rfl
theorem pmac1_v (key s:ByteArray) (w:World) (hk9:key.size≤64) (hs:s.size≤900) :
  Calls Tryz.prog 180 #[.string key,.string s] w fun e w'=>e=.returned (.string (mac1 key s))∧Below w.heap.size w w':=by
 have hd:decide ((64:Int)<(key.size:Int))=false:=decide_eq_false (by omega);have HM:Hid (mac1 key s=sumV (xorV key 92++sumV (xorV key 54++s))):=rfl;go_enter Tryz.func180,Tryz.ntmps180
 have ha:=xorV_size key 92;have hb:=xorV_size key 54;have hn64:(0:Int)≤64:=by omega
 obtain ⟨Z,hZ⟩:∃Z:Array Value,Z=#[.int .u8 0,.int .u8 0,.int .u8 0,.int .u8 0,.int .u8 0,.int .u8 0,.int .u8 0,.int .u8 0,.int .u8 0,.int .u8 0,.int .u8 0,.int .u8 0,.int .u8 0,.int .u8 0,.int .u8 0,.int .u8 0,.int .u8 0,.int .u8 0,.int .u8 0,.int .u8 0,.int .u8 0,.int .u8 0,.int .u8 0,.int .u8 0,.int .u8 0,.int .u8 0,.int .u8 0,.int .u8 0,.int .u8 0,.int .u8 0,.int .u8 0,.int .u8 0,.int .u8 0,.int .u8 0,.int .u8 0,.int .u8 0,.int .u8 0,.int .u8 0,.int .u8 0,.int .u8 0,.int .u8 0,.int .u8 0,.int .u8 0,.int .u8 0,.int .u8 0,.int .u8 0,.int .u8 0,.int .u8 0,.int .u8 0,.int .u8 0,.int .u8 0,.int .u8 0,.int .u8 0,.int .u8 0,.int .u8 0,.int .u8 0,.int .u8 0,.int .u8 0,.int .u8 0,.int .u8 0,.int .u8 0,.int .u8 0,.int .u8 0,.int .u8 0]:=⟨_,rfl⟩;go_upto_region 4 with fail
 rw [←hZ];have hz:Z.toList=List.replicate 64 (Value.int .u8 0):=by rw [hZ];exact zb64
 clear hZ;have h5:=(Blk.new w Z 198).alloc (.cells Z 198);have h6:=Blk.new (w.alloc (.cells Z 198)) Z 198;rw [World.size_alloc] at h6;have hBW:=ba (b1' w (.cells Z 198)) (.cells Z 198);obtain ⟨g5,hg5⟩:∃g,g=w.heap.size:=⟨_,rfl⟩;obtain ⟨g6,hg6⟩:∃g,g=w.heap.size+1:=⟨_,rfl⟩;have HG:Hid (w.heap.size≤g5∧w.heap.size≤g6∧g5≠g6):=⟨by omega,by omega,by omega⟩;rw [←hg6] at h6;rw [←hg5] at h5;try rw [World.size_alloc]
 rw [←hg6,←hg5];clear hg5 hg6;generalize (w.alloc (.cells Z 198)).alloc (.cells Z 198)=wa at h5 h6 hBW ⊢;have hcp:=Lib.run_copy_row_string (P:=Tryz.prog) wa 122 9 3 5 g5 0 64 64 key Z 198 Tryz.underlying122 (by kernel_rfl) h5 hk9 (by rw [←Array.length_toList,hz,List.length_replicate];omega);rw [mL_copy key 54 hk9 Z.toList hz] at hcp;have h5':Blk (wa.setRow g5 (u8s (mL key 54 0)).toArray) g5 198 (u8s (mL key 54 0)):=setRow_blk (cs:=(u8s (mL key 54 0)).toArray) h5
 have h6':Blk (wa.setRow g5 (u8s (mL key 54 0)).toArray) g6 198 Z.toList:=by
  show ((_:World).setRow _ _).heap[_]?=_;rw [setRow_other _ _ _ _ (Ne.symm HG.out.2.2)];exact h6
 have hBW':=setRow_below (cs:=(u8s (mL key 54 0)).toArray) hBW HG.out.1;clear h5 h6 hBW;go_upto_region 5 with fail
 clear hcp;generalize wa.setRow g5 (u8s (mL key 54 0)).toArray=wb at h5' h6' hBW' ⊢;have hcp:=Lib.run_copy_row_string (P:=Tryz.prog) wb 122 9 3 5 g6 0 64 64 key Z 198 Tryz.underlying122 (by kernel_rfl) h6' hk9 (by rw [←Array.length_toList,hz,List.length_replicate];omega);rw [mL_copy key 92 hk9 Z.toList hz] at hcp;have h6:Blk (wb.setRow g6 (u8s (mL key 92 0)).toArray) g6 198 (u8s (mL key 92 0)):=setRow_blk (cs:=(u8s (mL key 92 0)).toArray) h6'
 have h5:Blk (wb.setRow g6 (u8s (mL key 92 0)).toArray) g5 198 (u8s (mL key 54 0)):=by
  show ((_:World).setRow _ _).heap[_]?=_;rw [setRow_other _ _ _ _ HG.out.2.2];exact h5'
 have hBW:=setRow_below (cs:=(u8s (mL key 92 0)).toArray) hBW' HG.out.2.1;clear h5' h6' hBW' hz;go_upto_region 6 with fail
 clear hcp;generalize wb.setRow g6 (u8s (mL key 92 0)).toArray=wc at h5 h6 hBW ⊢;have HX5:Hid (∀y:UInt8,Value.int .u8 (bits .xor .u8 (y.toNat:Int) 54)=u8v (y ^^^ 54)):=fun y=>xor_u8v y 54
 have HX6:Hid (∀y:UInt8,Value.int .u8 (bits .xor .u8 (y.toNat:Int) 92)=u8v (y ^^^ 92)):=fun y=>xor_u8v y 92
 have HME:Hid ((⟨(mL key 54 64).toArray⟩:ByteArray)=xorV key 54∧(⟨(mL key 92 64).toArray⟩:ByteArray)=xorV key 92):=⟨mL_end _ _,mL_end _ _⟩;go_wp2;go_loopw [19] (fun i wr=>∃k:Nat,k≤64∧i=.int .i64 k∧Blk wr g5 198 (u8s (mL key 54 k))∧Blk wr g6 198 (u8s (mL key 92 k))∧Below w.heap.size w wr) (fun i _=>64-(intOf i).toNat)
 case atStart=>exact ⟨0,by omega,rfl,h5,h6,hBW⟩
 case round =>
  clear h5 h6 hBW;obtain ⟨k,hk,rfl,h5,h6,hbr⟩:=hrel;by_cases hlt:k<64
  ·have c5:wr.cell? ⟨g5,k,none⟩=some (u8v (key.data.getD k 0)):=by rw [h5.cell,u8s,List.getElem?_map,mL_get _ _ hlt,if_neg (by omega)];rfl
   have c6:wr.cell? ⟨g6,k,none⟩=some (u8v (key.data.getD k 0)):=by rw [h6.cell,u8s,List.getElem?_map,mL_get _ _ hlt,if_neg (by omega)];rfl
   have HS5:Hid (∀y,y=xb key 54 k→(mL key 54 k).set k y=mL key 54 (k+1)):=fun y e=>by rw [e];exact mL_set key 54 hlt
   have HS6:Hid (∀y,y=xb key 92 k→(mL key 92 k).set k y=mL key 92 (k+1)):=fun y e=>by rw [e];exact mL_set key 92 hlt
   have HXB:Hid (key.data.getD k 0 ^^^ 54=xb key 54 k∧key.data.getD k 0 ^^^ 92=xb key 92 k):=⟨rfl,rfl⟩;generalize key.data.getD k 0=y at c5 c6 HXB;unfold u8v at c5 c6;have hne:g5≠g6:=HG.out.2.2;have f5:=h5.free k;have f6:=h6.free k;have l5:=h5.lt;have l6:=h6.lt;have k1:(0:Int)≤(k:Int):=by omega
   have k2:(k:Int)<64:=by omega
   go_wp2;go_roundw
   case rel =>
    refine ⟨k+1,by omega,by go_num,?_,?_,(hbr.setCell HG.out.1 _).setCell HG.out.2.1 _⟩
    ·rw [HX5.out,←HS5.out _ HXB.out.1,←u8s_set];exact (h5.set k _).other _ _ HG.out.2.2
    ·rw [HX6.out,←HS6.out _ HXB.out.2,←u8s_set];exact (h6.other _ _ (Ne.symm HG.out.2.2)).set k _
   case measure=>simp [intOf];omega
  ·obtain rfl:k=64:=by omega
   have L54:=mL_len key 54 64;have L92:=mL_len key 92 64
   have hr5:∀x:GW wr,(convert 122 9 (.slice (some ⟨g5,0,none⟩) 64 64)).run Tryz.prog (gw x)=.ok (.string (xorV key 54)) (gw x):=fun x=>by
    have h:=row_str (c:=64) (h5.after (gw_below x)).row;rw [L54,HME.out.1] at h;exact h
   have hr6:∀x:GW wr,(convert 122 9 (.slice (some ⟨g6,0,none⟩) 64 64)).run Tryz.prog (gw x)=.ok (.string (xorV key 92)) (gw x):=fun x=>by
    have h:=row_str (c:=64) (h6.after (gw_below x)).row;rw [L92,HME.out.2] at h;exact h
   clear h5 h6 L54 L92;generalize xorV key 92=a at ha HM hr6 ⊢;generalize xorV key 54=b at hb HM hr5 ⊢;have HS:Hid (∀(x:ByteArray) (w:World),x.size≤1000→Calls Tryz.prog 194 #[.string x] w fun e w'=>e=.returned (.string (sumV x))∧Below w.heap.size w w'):=fun x w h=>psum_v x w h
   have hc:=sumV_size (b++s);generalize sumV=sm at hc HM HS ⊢;have h1:¬ 9223372036854775807<b.size+s.size:=by omega
   have hbs:(b++s).size≤1000:=by rw [ByteArray.size_append];omega
   have h2:¬ 9223372036854775807<a.size+(sm (b++s)).size:=by omega
   have hac:(a++sm (b++s)).size≤1000:=by rw [ByteArray.size_append];omega
   go_wp2_with fail
   refine wp_region_gw (by kernel_rfl) (by kernel_rfl) ?_;repeat (go_big_quiet_step (first | (go_at_call 194;exact gw_of (HS.out _ _ hbs)) | (go_at_call 194;exact gw_of (HS.out _ _ hac))))
   refine wpQuiet_nil ?_;rintro w9 ⟨xw9,rfl⟩;have hb9:=gw_below xw9;generalize gw xw9=w9 at hb9;go_wp2;go_ret
   exact ⟨by rw [HM.out];try rfl,bt hbr hb9⟩
theorem pmac_v (key s:ByteArray) (w:World) (hk:key.size≤1000) (hs:s.size≤900) :
  Calls Tryz.prog 180 #[.string key,.string s] w fun e w'=>e=.returned (.string (macV key s))∧Below w.heap.size w w':=by
 by_cases h64:64<key.size
 rotate_left
 ·rw [macV,if_neg h64];exact pmac1_v key s w (by omega) hs
 have hd:decide ((64:Int)<(key.size:Int))=true:=decide_eq_true (by omega);have HM:Hid (macV key s=sumV (xorV (sumV key) 92++sumV (xorV (sumV key) 54++s))):=by rw [Hid,macV,if_pos h64];rfl
 have hk9:(sumV key).size≤64:=by rw [sumV_size];omega
 go_enter Tryz.func180,Tryz.ntmps180
 go_wp2_with fail
 refine (psum_v _ _ hk).mono ?_;rintro e w1 ⟨rfl,hb1⟩;generalize sumV key=key' at hk9 HM ⊢;clear hd;have ha:=xorV_size key' 92;have hb:=xorV_size key' 54;have hn64:(0:Int)≤64:=by omega
 obtain ⟨Z,hZ⟩:∃Z:Array Value,Z=#[.int .u8 0,.int .u8 0,.int .u8 0,.int .u8 0,.int .u8 0,.int .u8 0,.int .u8 0,.int .u8 0,.int .u8 0,.int .u8 0,.int .u8 0,.int .u8 0,.int .u8 0,.int .u8 0,.int .u8 0,.int .u8 0,.int .u8 0,.int .u8 0,.int .u8 0,.int .u8 0,.int .u8 0,.int .u8 0,.int .u8 0,.int .u8 0,.int .u8 0,.int .u8 0,.int .u8 0,.int .u8 0,.int .u8 0,.int .u8 0,.int .u8 0,.int .u8 0,.int .u8 0,.int .u8 0,.int .u8 0,.int .u8 0,.int .u8 0,.int .u8 0,.int .u8 0,.int .u8 0,.int .u8 0,.int .u8 0,.int .u8 0,.int .u8 0,.int .u8 0,.int .u8 0,.int .u8 0,.int .u8 0,.int .u8 0,.int .u8 0,.int .u8 0,.int .u8 0,.int .u8 0,.int .u8 0,.int .u8 0,.int .u8 0,.int .u8 0,.int .u8 0,.int .u8 0,.int .u8 0,.int .u8 0,.int .u8 0,.int .u8 0,.int .u8 0]:=⟨_,rfl⟩;go_upto_region 4 with fail
 rw [←hZ];have hz:Z.toList=List.replicate 64 (Value.int .u8 0):=by rw [hZ];exact zb64
 clear hZ;have h5:=(Blk.new w1 Z 198).alloc (.cells Z 198);have h6:=Blk.new (w1.alloc (.cells Z 198)) Z 198;rw [World.size_alloc] at h6;have hBW:=ba (b1' w1 (.cells Z 198)) (.cells Z 198);obtain ⟨g5,hg5⟩:∃g,g=w1.heap.size:=⟨_,rfl⟩;obtain ⟨g6,hg6⟩:∃g,g=w1.heap.size+1:=⟨_,rfl⟩;have HG:Hid (w1.heap.size≤g5∧w1.heap.size≤g6∧g5≠g6):=⟨by omega,by omega,by omega⟩;rw [←hg6] at h6;rw [←hg5] at h5;try rw [World.size_alloc]
 rw [←hg6,←hg5];clear hg5 hg6;generalize (w1.alloc (.cells Z 198)).alloc (.cells Z 198)=wa at h5 h6 hBW ⊢;have hcp:=Lib.run_copy_row_string (P:=Tryz.prog) wa 122 9 3 5 g5 0 64 64 key' Z 198 Tryz.underlying122 (by kernel_rfl) h5 hk9 (by rw [←Array.length_toList,hz,List.length_replicate];omega);rw [mL_copy key' 54 hk9 Z.toList hz] at hcp;have h5':Blk (wa.setRow g5 (u8s (mL key' 54 0)).toArray) g5 198 (u8s (mL key' 54 0)):=setRow_blk (cs:=(u8s (mL key' 54 0)).toArray) h5
 have h6':Blk (wa.setRow g5 (u8s (mL key' 54 0)).toArray) g6 198 Z.toList:=by
  show ((_:World).setRow _ _).heap[_]?=_;rw [setRow_other _ _ _ _ (Ne.symm HG.out.2.2)];exact h6
 have hBW':=setRow_below (cs:=(u8s (mL key' 54 0)).toArray) hBW HG.out.1;clear h5 h6 hBW;go_upto_region 5 with fail
 clear hcp;generalize wa.setRow g5 (u8s (mL key' 54 0)).toArray=wb at h5' h6' hBW' ⊢;have hcp:=Lib.run_copy_row_string (P:=Tryz.prog) wb 122 9 3 5 g6 0 64 64 key' Z 198 Tryz.underlying122 (by kernel_rfl) h6' hk9 (by rw [←Array.length_toList,hz,List.length_replicate];omega);rw [mL_copy key' 92 hk9 Z.toList hz] at hcp;have h6:Blk (wb.setRow g6 (u8s (mL key' 92 0)).toArray) g6 198 (u8s (mL key' 92 0)):=setRow_blk (cs:=(u8s (mL key' 92 0)).toArray) h6'
 have h5:Blk (wb.setRow g6 (u8s (mL key' 92 0)).toArray) g5 198 (u8s (mL key' 54 0)):=by
  show ((_:World).setRow _ _).heap[_]?=_;rw [setRow_other _ _ _ _ HG.out.2.2];exact h5'
 have hBW:=setRow_below (cs:=(u8s (mL key' 92 0)).toArray) hBW' HG.out.2.1;clear h5' h6' hBW' hz;go_upto_region 6 with fail
 clear hcp;generalize wb.setRow g6 (u8s (mL key' 92 0)).toArray=wc at h5 h6 hBW ⊢;have HX5:Hid (∀y:UInt8,Value.int .u8 (bits .xor .u8 (y.toNat:Int) 54)=u8v (y ^^^ 54)):=fun y=>xor_u8v y 54
 have HX6:Hid (∀y:UInt8,Value.int .u8 (bits .xor .u8 (y.toNat:Int) 92)=u8v (y ^^^ 92)):=fun y=>xor_u8v y 92
 have HME:Hid ((⟨(mL key' 54 64).toArray⟩:ByteArray)=xorV key' 54∧(⟨(mL key' 92 64).toArray⟩:ByteArray)=xorV key' 92):=⟨mL_end _ _,mL_end _ _⟩;go_wp2;go_loopw [19] (fun i wr=>∃k:Nat,k≤64∧i=.int .i64 k∧Blk wr g5 198 (u8s (mL key' 54 k))∧Blk wr g6 198 (u8s (mL key' 92 k))∧Below w1.heap.size w1 wr) (fun i _=>64-(intOf i).toNat)
 case atStart=>exact ⟨0,by omega,rfl,h5,h6,hBW⟩
 case round =>
  clear h5 h6 hBW;obtain ⟨k,hk,rfl,h5,h6,hbr⟩:=hrel;by_cases hlt:k<64
  ·have c5:wr.cell? ⟨g5,k,none⟩=some (u8v (key'.data.getD k 0)):=by rw [h5.cell,u8s,List.getElem?_map,mL_get _ _ hlt,if_neg (by omega)];rfl
   have c6:wr.cell? ⟨g6,k,none⟩=some (u8v (key'.data.getD k 0)):=by rw [h6.cell,u8s,List.getElem?_map,mL_get _ _ hlt,if_neg (by omega)];rfl
   have HS5:Hid (∀y,y=xb key' 54 k→(mL key' 54 k).set k y=mL key' 54 (k+1)):=fun y e=>by rw [e];exact mL_set key' 54 hlt
   have HS6:Hid (∀y,y=xb key' 92 k→(mL key' 92 k).set k y=mL key' 92 (k+1)):=fun y e=>by rw [e];exact mL_set key' 92 hlt
   have HXB:Hid (key'.data.getD k 0 ^^^ 54=xb key' 54 k∧key'.data.getD k 0 ^^^ 92=xb key' 92 k):=⟨rfl,rfl⟩;generalize key'.data.getD k 0=y at c5 c6 HXB;unfold u8v at c5 c6;have hne:g5≠g6:=HG.out.2.2;have f5:=h5.free k;have f6:=h6.free k;have l5:=h5.lt;have l6:=h6.lt;have k1:(0:Int)≤(k:Int):=by omega
   have k2:(k:Int)<64:=by omega
   go_wp2;go_roundw
   case rel =>
    refine ⟨k+1,by omega,by go_num,?_,?_,(hbr.setCell HG.out.1 _).setCell HG.out.2.1 _⟩
    ·rw [HX5.out,←HS5.out _ HXB.out.1,←u8s_set];exact (h5.set k _).other _ _ HG.out.2.2
    ·rw [HX6.out,←HS6.out _ HXB.out.2,←u8s_set];exact (h6.other _ _ (Ne.symm HG.out.2.2)).set k _
   case measure=>simp [intOf];omega
  ·obtain rfl:k=64:=by omega
   have L54:=mL_len key' 54 64;have L92:=mL_len key' 92 64
   have hr5:∀x:GW wr,(convert 122 9 (.slice (some ⟨g5,0,none⟩) 64 64)).run Tryz.prog (gw x)=.ok (.string (xorV key' 54)) (gw x):=fun x=>by
    have h:=row_str (c:=64) (h5.after (gw_below x)).row;rw [L54,HME.out.1] at h;exact h
   have hr6:∀x:GW wr,(convert 122 9 (.slice (some ⟨g6,0,none⟩) 64 64)).run Tryz.prog (gw x)=.ok (.string (xorV key' 92)) (gw x):=fun x=>by
    have h:=row_str (c:=64) (h6.after (gw_below x)).row;rw [L92,HME.out.2] at h;exact h
   clear h5 h6 L54 L92;generalize xorV key' 92=a at ha HM hr6 ⊢;generalize xorV key' 54=b at hb HM hr5 ⊢;have HS:Hid (∀(x:ByteArray) (w:World),x.size≤1000→Calls Tryz.prog 194 #[.string x] w fun e w'=>e=.returned (.string (sumV x))∧Below w.heap.size w w'):=fun x w h=>psum_v x w h
   have hc:=sumV_size (b++s);generalize sumV=sm at hc HM HS ⊢;have h1:¬ 9223372036854775807<b.size+s.size:=by omega
   have hbs:(b++s).size≤1000:=by rw [ByteArray.size_append];omega
   have h2:¬ 9223372036854775807<a.size+(sm (b++s)).size:=by omega
   have hac:(a++sm (b++s)).size≤1000:=by rw [ByteArray.size_append];omega
   go_wp2_with fail
   refine wp_region_gw (by kernel_rfl) (by kernel_rfl) ?_;repeat (go_big_quiet_step (first | (go_at_call 194;exact gw_of (HS.out _ _ hbs)) | (go_at_call 194;exact gw_of (HS.out _ _ hac))))
   refine wpQuiet_nil ?_;rintro w9 ⟨xw9,rfl⟩;have hb9:=gw_below xw9;generalize gw xw9=w9 at hb9;go_wp2;go_ret
   exact ⟨by rw [HM.out];try rfl,bt hb1 (bt hbr hb9)⟩
end
section
open Go.RowKit Go.Shelf
def TabW (w:World):Prop:=Lib.TabIs Tryz.prog w "internal/strconv.uint64pow10" .u64 Lib.pow10Tab
theorem TabW.after {w w':World} (h:TabW w) (hb:Below w.heap.size w w'):TabW w':=by
 have h1:w.var? Tryz.prog "internal/strconv.uint64pow10"=some _:=h;show w'.var? Tryz.prog "internal/strconv.uint64pow10"=some _;unfold World.var? at h1 ⊢;cases hg:Tryz.prog.globalNamed "internal/strconv.uint64pow10" with
 | none=>rw [hg] at h1;cases h1
 | some g =>
  rw [hg] at h1;simp only [Option.bind_some] at h1 ⊢;cases hx:w.heap[g]? with
  | none=>rw [hx] at h1;cases h1
  | some o =>
   rw [hb.block g (Array.getElem?_eq_some_iff.1 hx).1];exact h1
theorem grow_below (w:World) (k:Nat) (os:Array Obj):Below w.heap.size w (Go.Sort.grow (w.drewN k) os):=
 ⟨rfl,rfl,rfl,by show w.heap.size≤(w.heap++os).size;rw [Array.size_append];omega,fun j hj=>by show (w.heap++os)[j]?=_;rw [Array.getElem?_append_left hj]⟩
theorem itoa_v (n:Nat) (w:World) (hn:n≤2147483647) (ht:TabW w) :
  Calls Tryz.prog 179 #[.int .i64 (n:Int)] w fun e w'=>e=.returned (.string (decV n))∧Below w.heap.size w w':=by
 refine (Tryz.strconv_Itoa (n:Int) (by omega) (by omega) w ht).mono ?_;rintro e w' ⟨rfl,k,os,rfl⟩;refine ⟨?_,grow_below _ _ _⟩;rw [Lib.itoa_nonneg];rfl
end
section
open Go.RowKit Go.Shelf
def untilPost {T:Type} (isOut:Code→Prop) (I Ix:Nat→World→Prop) (k:Nat) (W:World):Exit→T→World→Prop
 | .normal,_,W'=>KeepsOthers W W'∧I (k+1) W'
 | .exit j,_,W'=>isOut (.exit j)∧KeepsOthers W W'∧Ix (k+1) W'
 | _,_,_=>False
theorem wpIn_range_until {F:Fence} {n:Nat} {P:Program} {g:Operand} {ps:Array Tmp} {assign body out:Code} {Q:Exit→Act→World→Prop} {a:Act} {w:World}
  (hro:F.round=none) (h1:1≤n) {gf:Nat} {lb:Array Value} (hg:a.eval g=.func (.func gf) #[] lb) (hFg:F.fn gf) (eg:∀args w,(callFunc gf args).run P w=.ok (.enter gf args) w)
  {enc:Nat→Array Value} (hps:∀k,(enc k).size=ps.size) (I Ix:Nat→World→Prop) (hI:OwnFrom w.heap.size I) (hIx:OwnFrom w.heap.size Ix)
  (hIb:∀k A B,I k A→Below A.heap.size A B→I k B) (h0:I 0 w)
  (hit:∀(l:Nat) (J Jx:Nat→World→Prop) (W:World),(∀k A,J k A→I k A)→(∀k A B,J k A→Below A.heap.size A B→J k B) →
   (∀k A,J k A→YieldAt F (n-1-1) P l (enc k) A fun e A'=>(e=.returned (.bool true)∧J (k+1) A')∨(e=.returned (.bool false)∧Jx (k+1) A'))→J 0 W →
   CallsIn F (n-1) P gf (#[.func (.yield l) #[] #[]]++lb) W fun e W'=>(∃v,e=.returned v)∧∃k,Jx k W')
  (a₁:Nat→Act)
  (hassign:∀(l k:Nat) (W:World) (K:Act→World→Prop),K (a₁ k) W →
   assign.wpIn (F.inRound l) (n-1-1) P (Exit.then K (fun _ _ _=>False)) { tmps:=(ps.zip (enc k)).foldl (fun t (p,v)=>t.setIfInBounds p v) a.tmps,defers:=[] } W)
  (hbody:∀(l k:Nat) (W:World),I k W→body.wpIn (F.inRound l) (n-1-1) P (untilPost (·=out) I Ix k W) (a₁ k) W)
  (hstop:∀(D k:Nat) (W:World),w.heap.size≤D→Ix k W→W.heap[D]?=some (.deferred (some []))→out.wpIn F n P Q { a with defers:={ target:=.collected D,args:=#[] } :: a.defers } W) :
  (Code.rangeFunc g ps assign body).wpIn F n P Q a w:=by
 refine wpIn_rangeFunc fun fn hfn=>?_
 rw [hro];-- the record of the loop,by its state and pending jump;the world that holds it,ready
 let R:LoopState→Option Code→Loop:=fun st pe=>{ state:=st,pending:=pe,fn,tmps:=a.tmps,params:=ps,assign,body,defers:=w.heap.size }
 have eL:(w.alloc (.deferred (some []))).heap.size=w.heap.size+1:=by simp
 have hRec:((w.alloc (.deferred (some []))).alloc (.loop (R .ready none))).heap[w.heap.size+1]?=some (.loop (R .ready none)):=by
  have h:=World.alloc_heap_new (w.alloc (.deferred (some []))) (.loop (R .ready none));rwa [eL] at h
 have hDef:((w.alloc (.deferred (some []))).alloc (.loop (R .ready none))).heap[w.heap.size]?=some (.deferred (some [])):=
  (Below.heap_alloc _ _ _ (by omega)).trans (World.alloc_heap_new w _)
 refine ⟨w.heap.size+1,[{ target:=.collected w.heap.size,args:=#[] }],((w.alloc (.deferred (some []))).alloc (.loop (R .ready none))),{ target:=.fn (.func gf) lb,args:=#[.func (.yield (w.heap.size+1)) #[] #[]] },((w.alloc (.deferred (some []))).alloc (.loop (R .ready none))),gf,
  #[.func (.yield (w.heap.size+1)) #[] #[]]++lb,((w.alloc (.deferred (some []))).alloc (.loop (R .ready none))),run_enterLoop_outer _ _ _ _ _,?_,?_,?_,fun _=>h1,?_⟩
 ·simp only [resolve,hg];simp [go_sem]
 ·intro f' hf';simp [Target.leads] at hf';subst hf';exact hFg
 ·simp [invoke,go_sem,eg]
 refine (hit (w.heap.size+1)
  (fun k W=>I k W∧W.heap[w.heap.size+1]?=some (.loop (R .ready none))∧W.heap[w.heap.size]?=some (.deferred (some [])))
  (fun k W=>Ix k W∧W.heap[w.heap.size+1]?=some (.loop (R .done (some out)))∧W.heap[w.heap.size]?=some (.deferred (some [])))
  _ (fun _ _ h=>h.1) (fun k A B h hb=>⟨hIb k A B h.1 hb,(hb.block _ (Array.getElem?_eq_some_iff.1 h.2.1).1).trans h.2.1,(hb.block _ (Array.getElem?_eq_some_iff.1 h.2.2).1).trans h.2.2⟩) ?_
  ⟨hI.alloc _ (hI.alloc _ h0),hRec,hDef⟩).mono ?_
 ·-- one round
  rintro k W ⟨hi,hl,hk⟩;have hlt:w.heap.size+1<W.heap.size:=(Array.getElem?_eq_some_iff.1 hl).1;refine ⟨fn,_,assign,body,run_yield hl (hps k),roundIn_of_wpIn hfn (hassign _ k W _ ⟨_,run_beginRound hl rfl,?_⟩)⟩;have hl2:(W.putObj (w.heap.size+1) (.loop (R .busy none))).heap[w.heap.size+1]?=some (.loop (R .busy none)):=World.putObj_heap_same hlt;have hk2:(W.putObj (w.heap.size+1) (.loop (R .busy none))).heap[w.heap.size]?=some (.deferred (some [])):=(World.putObj_heap_other (by omega)).trans hk;refine wpIn_mono (hbody _ k _ (hI.putObj _ hi (by omega) hl rfl)) ?_;-- the record behind the round
  have fin:∀(jump:Option Code) (W3:World),KeepsOthers (W.putObj (w.heap.size+1) (.loop (R .busy none))) W3 →
    W3.heap[w.heap.size+1]?=some (.loop (R .busy none)) ∧
    (W3.putObj (w.heap.size+1) (.loop (R (if jump.isNone then .ready else .done) jump))).heap[w.heap.size+1]?=some (.loop (R (if jump.isNone then .ready else .done) jump)) ∧
    (W3.putObj (w.heap.size+1) (.loop (R (if jump.isNone then .ready else .done) jump))).heap[w.heap.size]?=some (.deferred (some [])):=fun jump W3 hk3=>by
   have hl3:=hk3.same _ _ hl2 rfl;exact ⟨hl3,World.putObj_heap_same (Array.getElem?_eq_some_iff.1 hl3).1,(World.putObj_heap_other (by omega)).trans (hk3.same _ _ hk2 rfl)⟩
  rintro e a3 W3 hp;cases e with
  | normal =>
   obtain ⟨hk3,hi3⟩:=hp;obtain ⟨hl3,hl4,hk4⟩:=fin none W3 hk3;exact ⟨_,_,run_endRound none hl3,.inl ⟨rfl,hI.putObj _ hi3 (by omega) hl3 rfl,hl4,hk4⟩⟩
  | exit j =>
   obtain ⟨hj,hk3,hi3⟩:=hp;obtain ⟨hl3,hl4,hk4⟩:=fin (some (.exit j)) W3 hk3;replace hj:Code.exit j=out:=hj;refine ⟨_,_,run_endRound (some (.exit j)) hl3,.inr ⟨rfl,hIx.putObj _ hi3 (by omega) hl3 rfl,?_,hk4⟩⟩;rw [←hj];exact hl4
  | ret=>exact hp.elim
  | goto t=>exact hp.elim
  | panic ch=>exact hp.elim
  | outgrown=>exact hp.elim
 ·-- behind the iterator
  rintro e W2 ⟨⟨v,rfl⟩,k,hi,hl,hk⟩;exact ⟨some out,_,run_endLoop hl (by simp [R]),hstop _ k _ (Nat.le_refl _) (hIx.putObj _ hi (by omega) hl rfl) ((World.putObj_heap_other (by omega)).trans hk)⟩
end
section
open Go.RowKit Go.Shelf
theorem itoaV_v (n:Nat) (v:Value) (d:ByteArray) (w:World) (hv:v=.int .i64 (n:Int)) (hd:d=decV n) (hn:n≤2147483647) (ht:TabW w) :
  Calls Tryz.prog 179 #[v] w fun e w'=>e=.returned (.string d)∧Below w.heap.size w w':=by
 subst hv hd;exact itoa_v n w hn ht
theorem pblocks_c (ao:Option Addr) (m c:Nat) (seed:ByteArray) (p a:Nat) (w:World) :
  Calls Tryz.prog 158 #[.agg #[.slice ao m c,.string seed,.int .i64 (p:Int)],.int .i64 (a:Int)] w fun e w'=>e=.returned (.func (.func 178) #[] #[.pointer (some ⟨w.heap.size,0,none⟩),.pointer (some ⟨w.heap.size+1,0,none⟩)]) ∧
   w'=(w.alloc (.cells #[.slice ao m c,.string seed,.int .i64 (p:Int)] 42)).alloc (.cells #[.int .i64 (a:Int)] 3):=by
 go_enter Tryz.func158,Tryz.ntmps158
 go_wp2;go_ret
 exact ⟨by simp,rfl⟩
def ItW (gt ga:Nat) (seed:ByteArray) (p a:Nat) (W:World):Prop:=
 W.cell? ⟨gt,1,none⟩=some (.string seed)∧W.cell? ⟨gt,2,none⟩=some (.int .i64 (p:Int))∧W.cell? ⟨ga,0,none⟩=some (.int .i64 (a:Int))∧gt<W.heap.size∧ga<W.heap.size∧TabW W
theorem blocks1_in (n l gt ga:Nat) (seed:ByteArray) (p a N:Nat) (hk:seed.size≤1000) (hp:p≤2147483647) (ha:a<256) (hN:N≤1000) (J Jx:Nat→World→Prop)
  (hJI:∀k A,J k A→k<N∧ItW gt ga seed p a A) (hJb:∀k A B,J k A→Below A.heap.size A B→J k B)
  (hY:∀k A,J k A→YieldAt Fence.wide (n-1) Tryz.prog l #[.string (macV seed (nmV p a k))] A fun e A'=>(e=.returned (.bool true)∧J (k+1) A')∨(e=.returned (.bool false)∧Jx (k+1) A'))
  (W:World) (h0:J 0 W) :
  CallsIn Fence.wide n Tryz.prog 178 #[.func (.yield l) #[] #[],.pointer (some ⟨gt,0,none⟩),.pointer (some ⟨ga,0,none⟩)] W fun e W'=>(∃v,e=.returned v)∧∃k,Jx k W':=by
 have HY:=Lib.hid hY;have HJI:=Lib.hid hJI;have HJB:=Lib.hid hJb;have HDS:Hid (∀n,n≤2147483647→(decV n).size≤10):=fun n h=>dec_size n 9 (by omega)
 have HM:Hid (∀(s:ByteArray) (w:World),s.size≤900→Calls Tryz.prog 180 #[.string seed,.string s] w fun e w'=>e=.returned (.string (macV seed s))∧Below w.heap.size w w'):=fun s w h=>pmac_v seed s w hk h
 clear hY hJI hJb;refine callsIn_of_wp Tryz.func178 rfl trivial ?_ rfl;simp only [Tryz.ntmps178,List.size_toArray,List.length_cons,List.length_nil,Nat.reduceAdd,Nat.reduceSub,Array.replicate_succ,Array.replicate_zero,List.push_toArray,List.append_toArray,List.nil_append,List.cons_append];gi_wp2
 gi_loopw [4] (fun i wr=>∃k:Nat,i=.int .i64 (k:Int)∧J k wr) (fun i _=>N-(intOf i).toNat)
 case atStart=>exact ⟨0,rfl,h0⟩
 case round =>
  obtain ⟨k,rfl,hJ⟩:=hrel;obtain ⟨wp,hwp⟩:∃wp,wp=wr:=⟨_,rfl⟩;subst hwp;obtain ⟨hkN,c1,c2,ca,l1,l2,ht⟩:=HJI.out k wp hJ;have g1:=gclH (a:=⟨gt,1,none⟩) l1 c1;have g2:=gclH (a:=⟨gt,2,none⟩) l1 c2;have g3:=gclH (a:=⟨ga,0,none⟩) l2 ca;have HT:Hid (∀W,Below wp.heap.size wp W→TabW W):=fun W h=>ht.after h
  have hd1:=HDS.out p hp;have hd2:=HDS.out a (by omega);have hd3:=HDS.out k (by omega);obtain ⟨d1,hdd1⟩:∃d,d=decV p:=⟨_,rfl⟩;obtain ⟨d2,hdd2⟩:∃d,d=decV a:=⟨_,rfl⟩;obtain ⟨d3,hdd3⟩:∃d,d=decV k:=⟨_,rfl⟩;have HI1:Hid (∀(v:Value) (W:World),v=.int .i64 (p:Int)→Below wp.heap.size wp W→Calls Tryz.prog 179 #[v] W fun e w'=>e=.returned (.string d1)∧Below W.heap.size W w'):=fun v W hv hb=>itoaV_v p v d1 W hv hdd1 hp (HT.out W hb)
  have HI2:Hid (∀(v:Value) (W:World),v=.int .i64 (a:Int)→Below wp.heap.size wp W→Calls Tryz.prog 179 #[v] W fun e w'=>e=.returned (.string d2)∧Below W.heap.size W w'):=fun v W hv hb=>itoaV_v a v d2 W hv hdd2 (by omega) (HT.out W hb)
  have HI3:Hid (∀(v:Value) (W:World),v=.int .i64 (k:Int)→Below wp.heap.size wp W→Calls Tryz.prog 179 #[v] W fun e w'=>e=.returned (.string d3)∧Below W.heap.size W w'):=fun v W hv hb=>itoaV_v k v d3 W hv hdd3 (by omega) (HT.out W hb)
  have HNM:Hid (nmV p a k=d1++(⟨#[46]⟩:ByteArray)++d2++(⟨#[46]⟩:ByteArray)++d3):=by rw [Hid,hdd1,hdd2,hdd3];rfl
  rw [←hdd1] at hd1;rw [←hdd2] at hd2;rw [←hdd3] at hd3;have HJ:=Lib.hid hJ;clear hdd1 hdd2 hdd3 hJ c1 c2 ca ht;have q1:¬ 9223372036854775807<d1.size+1:=by omega
  have q2:¬ 9223372036854775807<d1.size+1+d2.size:=by omega
  have q3:¬ 9223372036854775807<d1.size+1+d2.size+1:=by omega
  have q4:¬ 9223372036854775807<d1.size+1+d2.size+1+d3.size:=by omega
  have HSZ:Hid ((d1++(⟨#[46]⟩:ByteArray)++d2++(⟨#[46]⟩:ByteArray)++d3).size≤900):=by
   rw [Hid,ByteArray.size_append,ByteArray.size_append,ByteArray.size_append,ByteArray.size_append];show d1.size+1+d2.size+1+d3.size≤900;omega
  clear hd1 hd2 hd3;gi_wp2_with fail
  refine wpIn_wide.2 ?_;go_wp2_with fail
  refine wp_region_gw (by kernel_rfl) (by kernel_rfl) ?_;repeat (go_big_quiet_step (first | (go_at_call 179;exact gw_of (HI1.out _ _ rfl (gw_below _))) | (go_at_call 179;exact gw_of (HI2.out _ _ rfl (gw_below _))) | (go_at_call 179;exact gw_of (HI3.out _ _ rfl (gw_below _)))))
  refine wpQuiet_nil ?_;rintro w9 ⟨xw9,rfl⟩;have hb9:=gw_below xw9;generalize gw xw9=w9 at hb9;clear g1 g2 g3;have c1:w9.cell? ⟨gt,1,none⟩=some (.string seed):=(hb9.cell (p:=⟨gt,1,none⟩) l1).trans (HJI.out k wp HJ.out).2.1;have HJ9:=Lib.hid (HJB.out k wp w9 HJ.out hb9);clear HJ HI1 HI2 HI3 HT hb9;rw [←HNM.out] at HSZ ⊢;clear HNM q1 q2 q3 q4;have HMk:=Lib.hid (fun w=>HM.out (nmV p a k) w HSZ.out);have HYk:=Lib.hid (HY.out k);generalize macV seed (nmV p a k)=mv at HMk HYk;generalize nmV p a k=nm at HMk ⊢;clear HM;gi_wp2_with fail
  refine ⟨trivial,wide_depth,?_⟩;refine (callsIn_wide.2 (HMk.out _)).mono ?_;rintro e w4 ⟨rfl,hb4⟩;have HJ4:=Lib.hid (HJB.out k w9 w4 HJ9.out hb4);obtain ⟨fn,tmps,assign,body,hy,hR⟩:=HYk.out w4 HJ4.out;gi_wp2
  refine ⟨wide_depth,hR.mono ?_⟩;rintro r W3 (⟨rfl,hJ3⟩ | ⟨rfl,hJx3⟩)
  ·gi_wp2
   go_roundw
   case rel=>exact ⟨k+1,by go_num,hJ3⟩
   case measure=>simp [intOf] <;> omega
  ·gi_wp2
   refine bodyPost_ret (results_none rfl _ _ _) rfl ?_;exact ⟨⟨_,rfl⟩,_,hJx3⟩
end
end Go.Proofs.YtdoacbdkbbpamaaGreatDoor
