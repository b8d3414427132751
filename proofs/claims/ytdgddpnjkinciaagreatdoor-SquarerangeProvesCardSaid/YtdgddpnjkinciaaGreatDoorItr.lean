import Derived.Test.YtdgddpnjkinciaaGreatDoorHp5
import Derived.Shelf.LaysM
import Derived.Shelf.Strconv.Itoa3
import Derived.Lib.LaidTab
import Derived.RangeFuncNested
import Derived.RangeFuncBound
import Derived.RangeFuncCalls
import Derived.RangeFuncLeaves
import Derived.RangeFuncBox
set_option linter.all false
set_option maxRecDepth 100000
set_option maxHeartbeats 16000000
namespace Go.Proofs.YtdgddpnjkinciaaGreatDoor
section
open Go.RowKit Go.Shelf
def mL (key:ByteArray) (x:UInt8) (k:Nat):List UInt8:=(List.range 64).map fun j=>if j<k then xb key x j else key.data.getD j 0
theorem mL_len (key:ByteArray) (x:UInt8) (k:Nat):(mL key x k).length=64:=by simp[mL]
theorem mL_get (key:ByteArray) (x:UInt8) {k j:Nat} (h:j<64):(mL key x k)[j]?=some (if j<k then xb key x j else key.data.getD j 0):=by
 rw[mL,List.getElem?_map,List.getElem?_range h];rfl
theorem mL_none (key:ByteArray) (x:UInt8) {k j:Nat} (h:¬ j<64):(mL key x k)[j]?=none:=List.getElem?_eq_none (by rw[mL_len];omega)
theorem mL_set (key:ByteArray) (x:UInt8) {k:Nat} (h:k<64):(mL key x k).set k (xb key x k)=mL key x (k+1):=by
 refine List.ext_getElem? fun j=>?_
 by_cases hj:j<64
 ·rw[mL_get key x hj];by_cases e:k=j
  ·subst e;rw[List.getElem?_set_self (by rw[mL_len];exact h),if_pos (by omega)]
  ·rw[List.getElem?_set_ne e,mL_get key x hj];by_cases h2:j<k
   ·rw[if_pos h2,if_pos (by omega)]
   ·rw[if_neg h2,if_neg (by omega)]
 ·rw[mL_none key x hj,List.getElem?_eq_none (by rw[List.length_set,mL_len];omega)]
theorem mL_end (key:ByteArray) (x:UInt8):(⟨(mL key x 64).toArray⟩:ByteArray)=xorV key x:=by
 rw[xorV];refine congrArg (fun l:List UInt8=>(⟨l.toArray⟩:ByteArray)) (List.ext_getElem? fun j=>?_);by_cases hj:j<64
 ·rw[mL_get key x hj,List.getElem?_map,List.getElem?_range hj,if_pos hj];rfl
 ·rw[mL_none key x hj,List.getElem?_eq_none (by simp;omega)]
theorem mL_copy (key:ByteArray) (x:UInt8) (hk:key.size≤64) (Z:List Value) (hZ:Z=List.replicate 64 (.int .u8 0)):Z.take 0++Lib.byteCells key.data.toList++Z.drop (0+key.size)=u8s (mL key x 0):=by
 rw[List.take_zero,List.nil_append,Nat.zero_add,hZ,List.drop_replicate];have hl:(Lib.byteCells key.data.toList).length=key.size:=by rw[Lib.byteCells,List.length_map,Array.length_toList];rfl
 refine List.ext_getElem? fun j=>?_
 have hR:(u8s (mL key x 0))[j]?=((mL key x 0)[j]?).map u8v:=by rw[u8s,List.getElem?_map]
 by_cases hj:j<64
 ·rw[hR,mL_get key x hj,if_neg (Nat.not_lt_zero _)];by_cases h1:j<key.size
  ·rw[List.getElem?_append_left (by rw[hl];exact h1),Lib.byteCells,List.getElem?_map,Array.getElem?_toList,Array.getD_eq_getD_getElem?,Array.getElem?_eq_getElem h1];rfl
  ·rw[List.getElem?_append_right (by rw[hl];omega),hl,List.getElem?_replicate,if_pos (by omega),Array.getD_eq_getD_getElem?,Array.getElem?_eq_none (by show key.size≤j;omega)];rfl
 ·rw[hR,mL_none key x hj,List.getElem?_eq_none (by rw[List.length_append,hl,List.length_replicate];omega)];try rfl
theorem zb64:#[.int .u8 0,.int .u8 0,.int .u8 0,.int .u8 0,.int .u8 0,.int .u8 0,.int .u8 0,.int .u8 0,.int .u8 0,.int .u8 0,.int .u8 0,.int .u8 0,.int .u8 0,.int .u8 0,.int .u8 0,.int .u8 0,.int .u8 0,.int .u8 0,.int .u8 0,.int .u8 0,.int .u8 0,.int .u8 0,.int .u8 0,.int .u8 0,.int .u8 0,.int .u8 0,.int .u8 0,.int .u8 0,.int .u8 0,.int .u8 0,.int .u8 0,.int .u8 0,.int .u8 0,.int .u8 0,.int .u8 0,.int .u8 0,.int .u8 0,.int .u8 0,.int .u8 0,.int .u8 0,.int .u8 0,.int .u8 0,.int .u8 0,.int .u8 0,.int .u8 0,.int .u8 0,.int .u8 0,.int .u8 0,.int .u8 0,.int .u8 0,.int .u8 0,.int .u8 0,.int .u8 0,.int .u8 0,.int .u8 0,.int .u8 0,.int .u8 0,.int .u8 0,.int .u8 0,.int .u8 0,.int .u8 0,.int .u8 0,.int .u8 0,.int .u8 0].toList=List.replicate 64 (Value.int .u8 0):=by rfl
theorem pmac1_v (key s:ByteArray) (w:World) (hh:key.size≤64) (hs:s.size≤900) :
  Calls Tryz.prog 207 #[.string key,.string s] w fun e w'=>e=.returned (.string (mac1 key s))∧Bw w w':=by
 have hd:decide ((64:Int)<(key.size:Int))=false:=decide_eq_false (by omega);have HM:Hid (mac1 key s=sumV (xorV key 92++sumV (xorV key 54++s))):=rfl;go_enter Tryz.func207,Tryz.ntmps207
 have ha:=xorV_size key 92;have hb:=xorV_size key 54;have hq:(0:Int)≤64:=by omega
 obtain⟨Z,hZ⟩:∃Z:Array Value,Z=#[.int .u8 0,.int .u8 0,.int .u8 0,.int .u8 0,.int .u8 0,.int .u8 0,.int .u8 0,.int .u8 0,.int .u8 0,.int .u8 0,.int .u8 0,.int .u8 0,.int .u8 0,.int .u8 0,.int .u8 0,.int .u8 0,.int .u8 0,.int .u8 0,.int .u8 0,.int .u8 0,.int .u8 0,.int .u8 0,.int .u8 0,.int .u8 0,.int .u8 0,.int .u8 0,.int .u8 0,.int .u8 0,.int .u8 0,.int .u8 0,.int .u8 0,.int .u8 0,.int .u8 0,.int .u8 0,.int .u8 0,.int .u8 0,.int .u8 0,.int .u8 0,.int .u8 0,.int .u8 0,.int .u8 0,.int .u8 0,.int .u8 0,.int .u8 0,.int .u8 0,.int .u8 0,.int .u8 0,.int .u8 0,.int .u8 0,.int .u8 0,.int .u8 0,.int .u8 0,.int .u8 0,.int .u8 0,.int .u8 0,.int .u8 0,.int .u8 0,.int .u8 0,.int .u8 0,.int .u8 0,.int .u8 0,.int .u8 0,.int .u8 0,.int .u8 0]:=⟨_,rfl⟩;go_upto_region 4 with fail
 rw[←hZ];have hz:Z.toList=List.replicate 64 (Value.int .u8 0):=by rw[hZ];exact zb64
 clear hZ;have h5:=(Blk.new w Z 256).alloc (.cells Z 256);have h6:=Blk.new (w.alloc (.cells Z 256)) Z 256;rw[World.size_alloc]at h6;have he:=ba (b1' w (.cells Z 256)) (.cells Z 256);obtain⟨g5,hj⟩:∃g,g=w.heap.size:=⟨_,rfl⟩;obtain⟨g6,hl⟩:∃g,g=w.heap.size+1:=⟨_,rfl⟩;have HG:Hid (w.heap.size≤g5∧w.heap.size≤g6∧g5≠g6):=⟨by omega,by omega,by omega⟩;rw[←hl]at h6;rw[←hj]at h5;try rw[World.size_alloc]
 rw[←hl,←hj];clear hj hl;generalize (w.alloc (.cells Z 256)).alloc (.cells Z 256)=wa at h5 h6 he ⊢;have hg:=Lib.run_copy_row_string (P:=Tryz.prog) wa 137 9 3 5 g5 0 64 64 key Z 256 Tryz.underlying137 (by kernel_rfl) h5 hh (by rw[←Array.length_toList,hz,List.length_replicate];omega);rw[mL_copy key 54 hh Z.toList hz]at hg;have hm:Blk (wa.setRow g5 (u8s (mL key 54 0)).toArray) g5 256 (u8s (mL key 54 0)):=setRow_blk (cs:=(u8s (mL key 54 0)).toArray) h5
 have hi:Blk (wa.setRow g5 (u8s (mL key 54 0)).toArray) g6 256 Z.toList:=by
  show ((_:World).setRow _ _).heap[_]?=_;rw[setRow_other _ _ _ _ (Ne.symm HG.out.2.2)];exact h6
 have hf:=setRow_below (cs:=(u8s (mL key 54 0)).toArray) he HG.out.1;clear h5 h6 he;go_upto_region 5 with fail
 clear hg;generalize wa.setRow g5 (u8s (mL key 54 0)).toArray=wb at hm hi hf ⊢;have hg:=Lib.run_copy_row_string (P:=Tryz.prog) wb 137 9 3 5 g6 0 64 64 key Z 256 Tryz.underlying137 (by kernel_rfl) hi hh (by rw[←Array.length_toList,hz,List.length_replicate];omega);rw[mL_copy key 92 hh Z.toList hz]at hg;have h6:Blk (wb.setRow g6 (u8s (mL key 92 0)).toArray) g6 256 (u8s (mL key 92 0)):=setRow_blk (cs:=(u8s (mL key 92 0)).toArray) hi
 have h5:Blk (wb.setRow g6 (u8s (mL key 92 0)).toArray) g5 256 (u8s (mL key 54 0)):=by
  show ((_:World).setRow _ _).heap[_]?=_;rw[setRow_other _ _ _ _ HG.out.2.2];exact hm
 have he:=setRow_below (cs:=(u8s (mL key 92 0)).toArray) hf HG.out.2.1;clear hm hi hf hz;go_upto_region 6 with fail
 clear hg;generalize wb.setRow g6 (u8s (mL key 92 0)).toArray=wc at h5 h6 he ⊢;have hr:Hid (∀y:UInt8,Value.int .u8 (bits .xor .u8 (y.toNat:Int) 54)=u8v (y ^^^ 54)):=fun y=>xor_u8v y 54
 have ht:Hid (∀y:UInt8,Value.int .u8 (bits .xor .u8 (y.toNat:Int) 92)=u8v (y ^^^ 92)):=fun y=>xor_u8v y 92
 have ho:Hid ((⟨(mL key 54 64).toArray⟩:ByteArray)=xorV key 54∧(⟨(mL key 92 64).toArray⟩:ByteArray)=xorV key 92):=⟨mL_end _ _,mL_end _ _⟩;go_wp2;go_loopw [19] (fun i wr=>∃k:Nat,k≤64∧i=.int .i64 k∧Blk wr g5 256 (u8s (mL key 54 k))∧Blk wr g6 256 (u8s (mL key 92 k))∧Bw w wr) (fun i _=>64-(intOf i).toNat)
 case atStart=>exact⟨0,by omega,rfl,h5,h6,he⟩
 case round =>
  clear h5 h6 he;obtain⟨k,hk,rfl,h5,h6,hp⟩:=hrel;by_cases hlt:k<64
  ·have c5:wr.cell? ⟨g5,k,none⟩=some (u8v (key.data.getD k 0)):=by rw[h5.cell,u8s,List.getElem?_map,mL_get _ _ hlt,if_neg (by omega)];rfl
   have c6:wr.cell? ⟨g6,k,none⟩=some (u8v (key.data.getD k 0)):=by rw[h6.cell,u8s,List.getElem?_map,mL_get _ _ hlt,if_neg (by omega)];rfl
   have hu:Hid (∀y,y=xb key 54 k→(mL key 54 k).set k y=mL key 54 (k+1)):=fun y e=>by rw[e];exact mL_set key 54 hlt
   have hv:Hid (∀y,y=xb key 92 k→(mL key 92 k).set k y=mL key 92 (k+1)):=fun y e=>by rw[e];exact mL_set key 92 hlt
   have hn:Hid (key.data.getD k 0 ^^^ 54=xb key 54 k∧key.data.getD k 0 ^^^ 92=xb key 92 k):=⟨rfl,rfl⟩;generalize key.data.getD k 0=y at c5 c6 hn;unfold u8v at c5 c6;have hB:g5≠g6:=HG.out.2.2;have f5:=h5.free k;have f6:=h6.free k;have l5:=h5.lt;have l6:=h6.lt;have k1:(0:Int)≤(k:Int):=by omega
   have k2:(k:Int)<64:=by omega
   go_wp2;go_roundw
   case rel =>
    refine⟨k+1,by omega,by go_num,?_,?_,(hp.setCell HG.out.1 _).setCell HG.out.2.1 _⟩
    ·rw[hr.out,←hu.out _ hn.out.1,←u8s_set];exact (h5.set k _).other _ _ HG.out.2.2
    ·rw[ht.out,←hv.out _ hn.out.2,←u8s_set];exact (h6.other _ _ (Ne.symm HG.out.2.2)).set k _
   case measure=>simp[intOf];omega
  ·obtain rfl:k=64:=by omega
   have L54:=mL_len key 54 64;have L92:=mL_len key 92 64
   have hw:∀x:GW wr,(convert 137 9 (.slice (some ⟨g5,0,none⟩) 64 64)).run Tryz.prog (gw x)=.ok (.string (xorV key 54)) (gw x):=fun x=>by
    have h:=row_str (c:=64) (h5.after (gw_below x)).row;rw[L54,ho.out.1]at h;exact h
   have hx:∀x:GW wr,(convert 137 9 (.slice (some ⟨g6,0,none⟩) 64 64)).run Tryz.prog (gw x)=.ok (.string (xorV key 92)) (gw x):=fun x=>by
    have h:=row_str (c:=64) (h6.after (gw_below x)).row;rw[L92,ho.out.2]at h;exact h
   clear h5 h6 L54 L92;generalize xorV key 92=a at ha HM hx ⊢;generalize xorV key 54=b at hb HM hw ⊢;have HS:Hid (∀(x:ByteArray) (w:World),x.size≤1000→Calls Tryz.prog 217 #[.string x] w fun e w'=>e=.returned (.string (sumV x))∧Bw w w'):=fun x w h=>psum_v x w h
   have hc:=sumV_size (b++s);generalize sumV=sm at hc HM HS ⊢;have h1:¬ 9223372036854775807<b.size+s.size:=by omega
   have hy:(b++s).size≤1000:=by rw[ByteArray.size_append];omega
   have h2:¬ 9223372036854775807<a.size+(sm (b++s)).size:=by omega
   have hA:(a++sm (b++s)).size≤1000:=by rw[ByteArray.size_append];omega
   go_wp2_with fail
   refine wp_region_gw (by kernel_rfl) (by kernel_rfl) ?_;repeat (go_big_quiet_step (first | (go_at_call 217;exact gw_of (HS.out _ _ hy)) | (go_at_call 217;exact gw_of (HS.out _ _ hA))))
   refine wpQuiet_nil ?_;rintro w9 ⟨xw9,rfl⟩;have hb9:=gw_below xw9;generalize gw xw9=w9 at hb9;go_wp2;go_ret
   exact⟨by rw[HM.out];try rfl,bt hp hb9⟩
theorem pmac_v (key s:ByteArray) (w:World) (hk:key.size≤1000) (hs:s.size≤900) :
  Calls Tryz.prog 207 #[.string key,.string s] w fun e w'=>e=.returned (.string (macV key s))∧Bw w w':=by
 by_cases ho:64<key.size
 rotate_left
 ·rw[macV,if_neg ho];exact pmac1_v key s w (by omega) hs
 have hd:decide ((64:Int)<(key.size:Int))=true:=Dt (by omega);have HM:Hid (macV key s=sumV (xorV (sumV key) 92++sumV (xorV (sumV key) 54++s))):=by rw[Hid,macV,if_pos ho];rfl
 have hg:(sumV key).size≤64:=by rw[sumV_size];omega
 go_enter Tryz.func207,Tryz.ntmps207
 go_wp2_with fail
 refine (psum_v _ _ hk).mono ?_;rintro e w1 ⟨rfl,hr⟩;generalize sumV key=key' at hg HM ⊢;clear hd;have ha:=xorV_size key' 92;have hb:=xorV_size key' 54;have ht:(0:Int)≤64:=by omega
 obtain⟨Z,hZ⟩:∃Z:Array Value,Z=#[.int .u8 0,.int .u8 0,.int .u8 0,.int .u8 0,.int .u8 0,.int .u8 0,.int .u8 0,.int .u8 0,.int .u8 0,.int .u8 0,.int .u8 0,.int .u8 0,.int .u8 0,.int .u8 0,.int .u8 0,.int .u8 0,.int .u8 0,.int .u8 0,.int .u8 0,.int .u8 0,.int .u8 0,.int .u8 0,.int .u8 0,.int .u8 0,.int .u8 0,.int .u8 0,.int .u8 0,.int .u8 0,.int .u8 0,.int .u8 0,.int .u8 0,.int .u8 0,.int .u8 0,.int .u8 0,.int .u8 0,.int .u8 0,.int .u8 0,.int .u8 0,.int .u8 0,.int .u8 0,.int .u8 0,.int .u8 0,.int .u8 0,.int .u8 0,.int .u8 0,.int .u8 0,.int .u8 0,.int .u8 0,.int .u8 0,.int .u8 0,.int .u8 0,.int .u8 0,.int .u8 0,.int .u8 0,.int .u8 0,.int .u8 0,.int .u8 0,.int .u8 0,.int .u8 0,.int .u8 0,.int .u8 0,.int .u8 0,.int .u8 0,.int .u8 0]:=⟨_,rfl⟩;go_upto_region 4 with fail
 rw[←hZ];have hz:Z.toList=List.replicate 64 (Value.int .u8 0):=by rw[hZ];exact zb64
 clear hZ;have h5:=(Blk.new w1 Z 256).alloc (.cells Z 256);have h6:=Blk.new (w1.alloc (.cells Z 256)) Z 256;rw[World.size_alloc]at h6;have he:=ba (b1' w1 (.cells Z 256)) (.cells Z 256);obtain⟨g5,hj⟩:∃g,g=w1.heap.size:=⟨_,rfl⟩;obtain⟨g6,hl⟩:∃g,g=w1.heap.size+1:=⟨_,rfl⟩;have HG:Hid (w1.heap.size≤g5∧w1.heap.size≤g6∧g5≠g6):=⟨by omega,by omega,by omega⟩;rw[←hl]at h6;rw[←hj]at h5;try rw[World.size_alloc]
 rw[←hl,←hj];clear hj hl;generalize (w1.alloc (.cells Z 256)).alloc (.cells Z 256)=wa at h5 h6 he ⊢;have hh:=Lib.run_copy_row_string (P:=Tryz.prog) wa 137 9 3 5 g5 0 64 64 key' Z 256 Tryz.underlying137 (by kernel_rfl) h5 hg (by rw[←Array.length_toList,hz,List.length_replicate];omega);rw[mL_copy key' 54 hg Z.toList hz]at hh;have hm:Blk (wa.setRow g5 (u8s (mL key' 54 0)).toArray) g5 256 (u8s (mL key' 54 0)):=setRow_blk (cs:=(u8s (mL key' 54 0)).toArray) h5
 have hi:Blk (wa.setRow g5 (u8s (mL key' 54 0)).toArray) g6 256 Z.toList:=by
  show ((_:World).setRow _ _).heap[_]?=_;rw[setRow_other _ _ _ _ (Ne.symm HG.out.2.2)];exact h6
 have hf:=setRow_below (cs:=(u8s (mL key' 54 0)).toArray) he HG.out.1;clear h5 h6 he;go_upto_region 5 with fail
 clear hh;generalize wa.setRow g5 (u8s (mL key' 54 0)).toArray=wb at hm hi hf ⊢;have hh:=Lib.run_copy_row_string (P:=Tryz.prog) wb 137 9 3 5 g6 0 64 64 key' Z 256 Tryz.underlying137 (by kernel_rfl) hi hg (by rw[←Array.length_toList,hz,List.length_replicate];omega);rw[mL_copy key' 92 hg Z.toList hz]at hh;have h6:Blk (wb.setRow g6 (u8s (mL key' 92 0)).toArray) g6 256 (u8s (mL key' 92 0)):=setRow_blk (cs:=(u8s (mL key' 92 0)).toArray) hi
 have h5:Blk (wb.setRow g6 (u8s (mL key' 92 0)).toArray) g5 256 (u8s (mL key' 54 0)):=by
  show ((_:World).setRow _ _).heap[_]?=_;rw[setRow_other _ _ _ _ HG.out.2.2];exact hm
 have he:=setRow_below (cs:=(u8s (mL key' 92 0)).toArray) hf HG.out.2.1;clear hm hi hf hz;go_upto_region 6 with fail
 clear hh;generalize wb.setRow g6 (u8s (mL key' 92 0)).toArray=wc at h5 h6 he ⊢;have hu:Hid (∀y:UInt8,Value.int .u8 (bits .xor .u8 (y.toNat:Int) 54)=u8v (y ^^^ 54)):=fun y=>xor_u8v y 54
 have hv:Hid (∀y:UInt8,Value.int .u8 (bits .xor .u8 (y.toNat:Int) 92)=u8v (y ^^^ 92)):=fun y=>xor_u8v y 92
 have hp:Hid ((⟨(mL key' 54 64).toArray⟩:ByteArray)=xorV key' 54∧(⟨(mL key' 92 64).toArray⟩:ByteArray)=xorV key' 92):=⟨mL_end _ _,mL_end _ _⟩;go_wp2;go_loopw [19] (fun i wr=>∃k:Nat,k≤64∧i=.int .i64 k∧Blk wr g5 256 (u8s (mL key' 54 k))∧Blk wr g6 256 (u8s (mL key' 92 k))∧Bw w1 wr) (fun i _=>64-(intOf i).toNat)
 case atStart=>exact⟨0,by omega,rfl,h5,h6,he⟩
 case round =>
  clear h5 h6 he;obtain⟨k,hk,rfl,h5,h6,hq⟩:=hrel;by_cases hlt:k<64
  ·have c5:wr.cell? ⟨g5,k,none⟩=some (u8v (key'.data.getD k 0)):=by rw[h5.cell,u8s,List.getElem?_map,mL_get _ _ hlt,if_neg (by omega)];rfl
   have c6:wr.cell? ⟨g6,k,none⟩=some (u8v (key'.data.getD k 0)):=by rw[h6.cell,u8s,List.getElem?_map,mL_get _ _ hlt,if_neg (by omega)];rfl
   have hw:Hid (∀y,y=xb key' 54 k→(mL key' 54 k).set k y=mL key' 54 (k+1)):=fun y e=>by rw[e];exact mL_set key' 54 hlt
   have hx:Hid (∀y,y=xb key' 92 k→(mL key' 92 k).set k y=mL key' 92 (k+1)):=fun y e=>by rw[e];exact mL_set key' 92 hlt
   have hn:Hid (key'.data.getD k 0 ^^^ 54=xb key' 54 k∧key'.data.getD k 0 ^^^ 92=xb key' 92 k):=⟨rfl,rfl⟩;generalize key'.data.getD k 0=y at c5 c6 hn;unfold u8v at c5 c6;have hD:g5≠g6:=HG.out.2.2;have f5:=h5.free k;have f6:=h6.free k;have l5:=h5.lt;have l6:=h6.lt;have k1:(0:Int)≤(k:Int):=by omega
   have k2:(k:Int)<64:=by omega
   go_wp2;go_roundw
   case rel =>
    refine⟨k+1,by omega,by go_num,?_,?_,(hq.setCell HG.out.1 _).setCell HG.out.2.1 _⟩
    ·rw[hu.out,←hw.out _ hn.out.1,←u8s_set];exact (h5.set k _).other _ _ HG.out.2.2
    ·rw[hv.out,←hx.out _ hn.out.2,←u8s_set];exact (h6.other _ _ (Ne.symm HG.out.2.2)).set k _
   case measure=>simp[intOf];omega
  ·obtain rfl:k=64:=by omega
   have L54:=mL_len key' 54 64;have L92:=mL_len key' 92 64
   have hy:∀x:GW wr,(convert 137 9 (.slice (some ⟨g5,0,none⟩) 64 64)).run Tryz.prog (gw x)=.ok (.string (xorV key' 54)) (gw x):=fun x=>by
    have h:=row_str (c:=64) (h5.after (gw_below x)).row;rw[L54,hp.out.1]at h;exact h
   have hA:∀x:GW wr,(convert 137 9 (.slice (some ⟨g6,0,none⟩) 64 64)).run Tryz.prog (gw x)=.ok (.string (xorV key' 92)) (gw x):=fun x=>by
    have h:=row_str (c:=64) (h6.after (gw_below x)).row;rw[L92,hp.out.2]at h;exact h
   clear h5 h6 L54 L92;generalize xorV key' 92=a at ha HM hA ⊢;generalize xorV key' 54=b at hb HM hy ⊢;have HS:Hid (∀(x:ByteArray) (w:World),x.size≤1000→Calls Tryz.prog 217 #[.string x] w fun e w'=>e=.returned (.string (sumV x))∧Bw w w'):=fun x w h=>psum_v x w h
   have hc:=sumV_size (b++s);generalize sumV=sm at hc HM HS ⊢;have h1:¬ 9223372036854775807<b.size+s.size:=by omega
   have hB:(b++s).size≤1000:=by rw[ByteArray.size_append];omega
   have h2:¬ 9223372036854775807<a.size+(sm (b++s)).size:=by omega
   have hC:(a++sm (b++s)).size≤1000:=by rw[ByteArray.size_append];omega
   go_wp2_with fail
   refine wp_region_gw (by kernel_rfl) (by kernel_rfl) ?_;repeat (go_big_quiet_step (first | (go_at_call 217;exact gw_of (HS.out _ _ hB)) | (go_at_call 217;exact gw_of (HS.out _ _ hC))))
   refine wpQuiet_nil ?_;rintro w9 ⟨xw9,rfl⟩;have hb9:=gw_below xw9;generalize gw xw9=w9 at hb9;go_wp2;go_ret
   exact⟨by rw[HM.out];try rfl,bt hr (bt hq hb9)⟩
end
section
open Go.RowKit Go.Shelf
def TabW (w:World):Prop:=Lib.TabIs Tryz.prog w "internal/strconv.uint64pow10" .u64 Lib.pow10Tab
theorem TabW.after {w w':World} (h:TabW w) (hb:Bw w w'):TabW w':=by
 have h1:w.var? Tryz.prog "internal/strconv.uint64pow10"=some _:=h;show w'.var? Tryz.prog "internal/strconv.uint64pow10"=some _;unfold World.var? at h1 ⊢;cases hg:Tryz.prog.globalNamed "internal/strconv.uint64pow10" with
 | none=>rw[hg]at h1;cases h1
 | some g =>
  rw[hg]at h1;simp only[Option.bind_some]at h1 ⊢;cases hx:w.heap[g]? with
  | none=>rw[hx]at h1;cases h1
  | some o =>
   rw[hb.block g (Array.getElem?_eq_some_iff.1 hx).1];exact h1
theorem grow_below (w:World) (k:Nat) (os:Array Obj):Bw w (Go.Sort.grow (w.drewN k) os):=
 ⟨rfl,rfl,rfl,by show w.heap.size≤(w.heap++os).size;rw[Array.size_append];omega,fun j hj=>by show (w.heap++os)[j]?=_;rw[Array.getElem?_append_left hj]⟩
theorem itoa_v (n:Nat) (w:World) (hn:n≤2147483647) (ht:TabW w) :
  Calls Tryz.prog 206 #[.int .i64 (n:Int)] w fun e w'=>e=.returned (.string (decV n))∧Bw w w':=by
 refine (Tryz.strconv_Itoa (n:Int) (by omega) (by omega) w ht).mono ?_;rintro e w' ⟨rfl,k,os,rfl⟩;refine⟨?_,grow_below _ _ _⟩;rw[Lib.itoa_nonneg];rfl
end
section
open Go.RowKit Go.Shelf
def untilPost {T:Type} (isOut:Code→Prop) (I Ix:Nat→World→Prop) (k:Nat) (W:World):Exit→T→World→Prop
 | .normal,_,W'=>KeepsOthers W W'∧I (k+1) W'
 | .exit j,_,W'=>isOut (.exit j)∧KeepsOthers W W'∧Ix (k+1) W'
 | _,_,_=>False
theorem wpIn_range_until {F:Fence} {n:Nat} {P:Program} {g:Operand} {ps:Array Tmp} {assign body out:Code} {Q:Exit→Act→World→Prop} {a:Act} {w:World}
  (hv:F.round=none) (h1:1≤n) {gf:Nat} {lb:Array Value} (hg:a.eval g=.func (.func gf) #[] lb) (hw:F.fn gf) (eg:∀args w,(callFunc gf args).run P w=.ok (.enter gf args) w)
  {enc:Nat→Array Value} (hx:∀k,(enc k).size=ps.size) (I Ix:Nat→World→Prop) (hI:OwnFrom w.heap.size I) (ht:OwnFrom w.heap.size Ix)
  (hy:∀k A B,I k A→Bw A B→I k B) (h0:I 0 w)
  (hz:∀(l:Nat) (J Jx:Nat→World→Prop) (W:World),(∀k A,J k A→I k A)→(∀k A B,J k A→Bw A B→J k B) →
   (∀k A,J k A→YieldAt F (n-1-1) P l (enc k) A fun e A'=>(e=.returned (.bool true)∧J (k+1) A')∨(e=.returned (.bool false)∧Jx (k+1) A'))→J 0 W →
   CallsIn F (n-1) P gf (#[.func (.yield l) #[] #[]]++lb) W fun e W'=>(∃v,e=.returned v)∧∃k,Jx k W')
  (a₁:Nat→Act)
  (hc:∀(l k:Nat) (W:World) (K:Act→World→Prop),K (a₁ k) W →
   assign.wpIn (F.inRound l) (n-1-1) P (Exit.then K (fun _ _ _=>False)) { tmps:=(ps.zip (enc k)).foldl (fun t (p,v)=>t.setIfInBounds p v) a.tmps,defers:=[] } W)
  (hf:∀(l k:Nat) (W:World),I k W→body.wpIn (F.inRound l) (n-1-1) P (untilPost (·=out) I Ix k W) (a₁ k) W)
  (hh:∀(D k:Nat) (W:World),w.heap.size≤D→Ix k W→W.heap[D]?=some (.deferred (some []))→out.wpIn F n P Q { a with defers:={ target:=.collected D,args:=#[] } :: a.defers } W) :
  (Code.rangeFunc g ps assign body).wpIn F n P Q a w:=by
 refine wpIn_rangeFunc fun fn hA=>?_
 rw[hv];-- the record of the loop,by its state and pending jump;the world that holds it,ready
 let R:LoopState→Option Code→Loop:=fun st pe=>{ state:=st,pending:=pe,fn,tmps:=a.tmps,params:=ps,assign,body,defers:=w.heap.size }
 have eL:(w.alloc (.deferred (some []))).heap.size=w.heap.size+1:=by simp
 have hm:((w.alloc (.deferred (some []))).alloc (.loop (R .ready none))).heap[w.heap.size+1]?=some (.loop (R .ready none)):=by
  have h:=World.alloc_heap_new (w.alloc (.deferred (some []))) (.loop (R .ready none));rwa [eL]at h
 have hn:((w.alloc (.deferred (some []))).alloc (.loop (R .ready none))).heap[w.heap.size]?=some (.deferred (some [])):=
  (Below.heap_alloc _ _ _ (by omega)).trans (World.alloc_heap_new w _)
 refine⟨w.heap.size+1,[{ target:=.collected w.heap.size,args:=#[] }],((w.alloc (.deferred (some []))).alloc (.loop (R .ready none))),{ target:=.fn (.func gf) lb,args:=#[.func (.yield (w.heap.size+1)) #[] #[]] },((w.alloc (.deferred (some []))).alloc (.loop (R .ready none))),gf,
  #[.func (.yield (w.heap.size+1)) #[] #[]]++lb,((w.alloc (.deferred (some []))).alloc (.loop (R .ready none))),run_enterLoop_outer _ _ _ _ _,?_,?_,?_,fun _=>h1,?_⟩
 ·simp only[resolve,hg];simp[go_sem]
 ·intro f' hu;simp[Target.leads]at hu;subst hu;exact hw
 ·simp[invoke,go_sem,eg]
 refine (hz (w.heap.size+1)
  (fun k W=>I k W∧W.heap[w.heap.size+1]?=some (.loop (R .ready none))∧W.heap[w.heap.size]?=some (.deferred (some [])))
  (fun k W=>Ix k W∧W.heap[w.heap.size+1]?=some (.loop (R .done (some out)))∧W.heap[w.heap.size]?=some (.deferred (some [])))
  _ (fun _ _ h=>h.1) (fun k A B h hb=>⟨hy k A B h.1 hb,(hb.block _ (Array.getElem?_eq_some_iff.1 h.2.1).1).trans h.2.1,(hb.block _ (Array.getElem?_eq_some_iff.1 h.2.2).1).trans h.2.2⟩) ?_
  ⟨hI.alloc _ (hI.alloc _ h0),hm,hn⟩).mono ?_
 ·-- one round
  rintro k W ⟨hi,hl,hk⟩;have hlt:w.heap.size+1<W.heap.size:=(Array.getElem?_eq_some_iff.1 hl).1;refine⟨fn,_,assign,body,run_yield hl (hx k),roundIn_of_wpIn hA (hc _ k W _ ⟨_,run_beginRound hl rfl,?_⟩)⟩;have hB:(W.putObj (w.heap.size+1) (.loop (R .busy none))).heap[w.heap.size+1]?=some (.loop (R .busy none)):=World.putObj_heap_same hlt;have hC:(W.putObj (w.heap.size+1) (.loop (R .busy none))).heap[w.heap.size]?=some (.deferred (some [])):=(World.putObj_heap_other (by omega)).trans hk;refine wpIn_mono (hf _ k _ (hI.putObj _ hi (by omega) hl rfl)) ?_;-- the record behind the round
  have fin:∀(jump:Option Code) (W3:World),KeepsOthers (W.putObj (w.heap.size+1) (.loop (R .busy none))) W3 →
    W3.heap[w.heap.size+1]?=some (.loop (R .busy none)) ∧
    (W3.putObj (w.heap.size+1) (.loop (R (if jump.isNone then .ready else .done) jump))).heap[w.heap.size+1]?=some (.loop (R (if jump.isNone then .ready else .done) jump)) ∧
    (W3.putObj (w.heap.size+1) (.loop (R (if jump.isNone then .ready else .done) jump))).heap[w.heap.size]?=some (.deferred (some [])):=fun jump W3 he=>by
   have hd:=he.same _ _ hB rfl;exact⟨hd,World.putObj_heap_same (Array.getElem?_eq_some_iff.1 hd).1,(World.putObj_heap_other (by omega)).trans (he.same _ _ hC rfl)⟩
  rintro e a3 W3 hp;cases e with
  | normal =>
   obtain⟨he,ho⟩:=hp;obtain⟨hd,hq,hr⟩:=fin none W3 he;exact⟨_,_,run_endRound none hd,.inl ⟨rfl,hI.putObj _ ho (by omega) hd rfl,hq,hr⟩⟩
  | exit j =>
   obtain⟨hj,he,ho⟩:=hp;obtain⟨hd,hq,hr⟩:=fin (some (.exit j)) W3 he;replace hj:Code.exit j=out:=hj;refine⟨_,_,run_endRound (some (.exit j)) hd,.inr ⟨rfl,ht.putObj _ ho (by omega) hd rfl,?_,hr⟩⟩;rw[←hj];exact hq
  | ret=>exact hp.elim
  | goto t=>exact hp.elim
  | panic ch=>exact hp.elim
  | outgrown=>exact hp.elim
 ·-- behind the iterator
  rintro e W2 ⟨⟨v,rfl⟩,k,hi,hl,hk⟩;exact⟨some out,_,run_endLoop hl (by simp[R]),hh _ k _ (Nat.le_refl _) (ht.putObj _ hi (by omega) hl rfl) ((World.putObj_heap_other (by omega)).trans hk)⟩
end
section
open Go.RowKit Go.Shelf
theorem itoaV_v (n:Nat) (v:Value) (d:ByteArray) (w:World) (hv:v=.int .i64 (n:Int)) (hd:d=decV n) (hn:n≤2147483647) (ht:TabW w) :
  Calls Tryz.prog 206 #[v] w fun e w'=>e=.returned (.string d)∧Bw w w':=by
 subst hv hd;exact itoa_v n w hn ht
theorem pblocks_c (ao:Option Addr) (m c:Nat) (seed:ByteArray) (p a:Nat) (w:World) :
  Calls Tryz.prog 182 #[.agg #[.slice ao m c,.string seed,.int .i64 (p:Int)],.int .i64 (a:Int)] w fun e w'=>e=.returned (.func (.func 205) #[] #[.pointer (some ⟨w.heap.size,0,none⟩),.pointer (some ⟨w.heap.size+1,0,none⟩)]) ∧
   w'=(w.alloc (.cells #[.slice ao m c,.string seed,.int .i64 (p:Int)] 35)).alloc (.cells #[.int .i64 (a:Int)] 3):=by
 go_enter Tryz.func182,Tryz.ntmps182
 go_wp2;go_ret
 exact⟨by simp,rfl⟩
def ItW (gt ga:Nat) (seed:ByteArray) (p a:Nat) (W:World):Prop:=
 W.cell? ⟨gt,1,none⟩=some (.string seed)∧W.cell? ⟨gt,2,none⟩=some (.int .i64 (p:Int))∧W.cell? ⟨ga,0,none⟩=some (.int .i64 (a:Int))∧gt<W.heap.size∧ga<W.heap.size∧TabW W
theorem blocks1_in (n l gt ga:Nat) (seed:ByteArray) (p a N:Nat) (hk:seed.size≤1000) (hp:p≤2147483647) (ha:a<256) (hN:N≤1000) (J Jx:Nat→World→Prop)
  (hi:∀k A,J k A→k<N∧ItW gt ga seed p a A) (hj:∀k A B,J k A→Bw A B→J k B)
  (hY:∀k A,J k A→YieldAt Fence.wide (n-1) Tryz.prog l #[.string (macV seed (nmV p a k))] A fun e A'=>(e=.returned (.bool true)∧J (k+1) A')∨(e=.returned (.bool false)∧Jx (k+1) A'))
  (W:World) (h0:J 0 W) :
  CallsIn Fence.wide n Tryz.prog 205 #[.func (.yield l) #[] #[],.pointer (some ⟨gt,0,none⟩),.pointer (some ⟨ga,0,none⟩)] W fun e W'=>(∃v,e=.returned v)∧∃k,Jx k W':=by
 have HY:=Kh hY;have hl:=Kh hi;have hm:=Kh hj;have hf:Hid (∀n,n≤2147483647→(decV n).size≤10):=fun n h=>dec_size n 9 (by omega)
 have HM:Hid (∀(s:ByteArray) (w:World),s.size≤900→Calls Tryz.prog 207 #[.string seed,.string s] w fun e w'=>e=.returned (.string (macV seed s))∧Bw w w'):=fun s w h=>pmac_v seed s w hk h
 clear hY hi hj;refine callsIn_of_wp Tryz.func205 rfl trivial ?_ rfl;simp only[Tryz.ntmps205,List.size_toArray,List.length_cons,List.length_nil,Nat.reduceAdd,Nat.reduceSub,Array.replicate_succ,Array.replicate_zero,List.push_toArray,List.append_toArray,List.nil_append,List.cons_append];gi_wp2
 gi_loopw [4] (fun i wr=>∃k:Nat,i=.int .i64 (k:Int)∧J k wr) (fun i _=>N-(intOf i).toNat)
 case atStart=>exact⟨0,rfl,h0⟩
 case round =>
  obtain⟨k,rfl,hJ⟩:=hrel;obtain⟨wp,hB⟩:∃wp,wp=wr:=⟨_,rfl⟩;subst hB;obtain⟨hF,c1,c2,ca,l1,l2,ht⟩:=hl.out k wp hJ;have g1:=gclH (a:=⟨gt,1,none⟩) l1 c1;have g2:=gclH (a:=⟨gt,2,none⟩) l1 c2;have g3:=gclH (a:=⟨ga,0,none⟩) l2 ca;have HT:Hid (∀W,Bw wp W→TabW W):=fun W h=>ht.after h
  have hn:=hf.out p hp;have ho:=hf.out a (by omega);have hq:=hf.out k (by omega);obtain⟨d1,hc⟩:∃d,d=decV p:=⟨_,rfl⟩;obtain⟨d2,hd⟩:∃d,d=decV a:=⟨_,rfl⟩;obtain⟨d3,he⟩:∃d,d=decV k:=⟨_,rfl⟩;have hr:Hid (∀(v:Value) (W:World),v=.int .i64 (p:Int)→Bw wp W→Calls Tryz.prog 206 #[v] W fun e w'=>e=.returned (.string d1)∧Bw W w'):=fun v W hv hb=>itoaV_v p v d1 W hv hc hp (HT.out W hb)
  have hu:Hid (∀(v:Value) (W:World),v=.int .i64 (a:Int)→Bw wp W→Calls Tryz.prog 206 #[v] W fun e w'=>e=.returned (.string d2)∧Bw W w'):=fun v W hv hb=>itoaV_v a v d2 W hv hd (by omega) (HT.out W hb)
  have hw:Hid (∀(v:Value) (W:World),v=.int .i64 (k:Int)→Bw wp W→Calls Tryz.prog 206 #[v] W fun e w'=>e=.returned (.string d3)∧Bw W w'):=fun v W hv hb=>itoaV_v k v d3 W hv he (by omega) (HT.out W hb)
  have hx:Hid (nmV p a k=d1++(⟨#[46]⟩:ByteArray)++d2++(⟨#[46]⟩:ByteArray)++d3):=by rw[Hid,hc,hd,he];rfl
  rw[←hc]at hn;rw[←hd]at ho;rw[←he]at hq;have HJ:=Kh hJ;clear hc hd he hJ c1 c2 ca ht;have q1:¬ 9223372036854775807<d1.size+1:=by omega
  have q2:¬ 9223372036854775807<d1.size+1+d2.size:=by omega
  have q3:¬ 9223372036854775807<d1.size+1+d2.size+1:=by omega
  have q4:¬ 9223372036854775807<d1.size+1+d2.size+1+d3.size:=by omega
  have hz:Hid ((d1++(⟨#[46]⟩:ByteArray)++d2++(⟨#[46]⟩:ByteArray)++d3).size≤900):=by
   rw[Hid,ByteArray.size_append,ByteArray.size_append,ByteArray.size_append,ByteArray.size_append];show d1.size+1+d2.size+1+d3.size≤900;omega
  clear hn ho hq;gi_wp2_with fail
  refine wpIn_wide.2 ?_;go_wp2_with fail
  refine wp_region_gw (by kernel_rfl) (by kernel_rfl) ?_;repeat (go_big_quiet_step (first | (go_at_call 206;exact gw_of (hr.out _ _ rfl (gw_below _))) | (go_at_call 206;exact gw_of (hu.out _ _ rfl (gw_below _))) | (go_at_call 206;exact gw_of (hw.out _ _ rfl (gw_below _)))))
  refine wpQuiet_nil ?_;rintro w9 ⟨xw9,rfl⟩;have hb9:=gw_below xw9;generalize gw xw9=w9 at hb9;clear g1 g2 g3;have c1:w9.cell? ⟨gt,1,none⟩=some (.string seed):=(hb9.cell (p:=⟨gt,1,none⟩) l1).trans (hl.out k wp HJ.out).2.1;have hC:=Kh (hm.out k wp w9 HJ.out hb9);clear HJ hr hu hw HT hb9;rw[←hx.out]at hz ⊢;clear hx q1 q2 q3 q4;have hg:=Kh (fun w=>HM.out (nmV p a k) w hz.out);have hA:=Kh (HY.out k);generalize macV seed (nmV p a k)=mv at hg hA;generalize nmV p a k=nm at hg ⊢;clear HM;gi_wp2_with fail
  refine⟨trivial,wide_depth,?_⟩;refine (callsIn_wide.2 (hg.out _)).mono ?_;rintro e w4 ⟨rfl,hb4⟩;have hD:=Kh (hm.out k w9 w4 hC.out hb4);obtain⟨fn,tmps,assign,body,hy,hR⟩:=hA.out w4 hD.out;gi_wp2
  refine⟨wide_depth,hR.mono ?_⟩;rintro r W3 (⟨rfl,hE⟩ | ⟨rfl,hh⟩)
  ·gi_wp2
   go_roundw
   case rel=>exact⟨k+1,by go_num,hE⟩
   case measure=>simp[intOf] <;> omega
  ·gi_wp2
   refine bodyPost_ret (results_none rfl _ _ _) rfl ?_;exact⟨⟨_,rfl⟩,_,hh⟩
end
end Go.Proofs.YtdgddpnjkinciaaGreatDoor
