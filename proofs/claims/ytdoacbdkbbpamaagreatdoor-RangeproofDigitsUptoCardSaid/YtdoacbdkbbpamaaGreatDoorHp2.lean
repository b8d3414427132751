import Derived.Test.YtdoacbdkbbpamaaGreatDoorInt2
import Derived.Test.YtdoacbdkbbpamaaGreatDoorRef7
import Derived.Deep.DrawnRows
import Derived.Test.YtdoacbdkbbpamaaGreatDoorDivN
import Derived.Deep.RegionLaw
import Derived.Laws.OwnMore
import Derived.Deep.RegionHeld3
import Derived.Deep.CutBlock
import Derived.Deep.DeepCutAuto
import Derived.Deep.WholeRow
set_option linter.unusedVariables false
set_option linter.unusedSimpArgs false
set_option maxRecDepth 100000
set_option maxHeartbeats 16000000
namespace Go.Proofs.YtdoacbdkbbpamaaGreatDoor
section
open Go.RowKit Go.Shelf
def rr (x:Int) (n:Nat):Int:=bits .or .u32 (x / 2^n) (x*2^(32-n)%4294967296)
theorem right_c (x z:Int) (n:Nat) (w:World) (hz:z=(n:Int)) (hn:0<n) (hn2:n<32) :
  Calls Tryz.prog 217 #[.int .u32 x,.int .i64 z] w fun e w'=>e=.returned (.int .u32 (rr x n))∧Below w.heap.size w w':=by
 subst hz;go_enter Tryz.func217,Tryz.ntmps217
 go_wp2_with fail
 refine wp_region_gw (by kernel_rfl) (by kernel_rfl) ?_;repeat (go_big_quiet_step (first | (fail)))
 refine wpQuiet_nil ?_;rintro w9 ⟨xw9,rfl⟩;have hb9:=gw_below xw9;generalize gw xw9=w9 at hb9;go_wp2;go_ret
 exact ⟨rfl,hb9⟩
theorem right_v (x z:Int) (n:Nat) (w:World) (hz:z=(n:Int)) (hn:0<n) (hn2:n<32) :
  Calls Tryz.prog 217 #[.int .u32 x,.int .i64 z] w fun e w'=>∃y,e=.returned (.int .u32 y)∧Hid (y=rr x n)∧Below w.heap.size w w':=
 (right_c x z n w hz hn hn2).mono fun e w' h=>⟨_,h.1,rfl,h.2⟩
def u32f (f:Nat→Int) (n:Nat):List Value:=(List.range n).map fun j=>.int .u32 (f j)
theorem u32f_len (f:Nat→Int) (n:Nat):(u32f f n).length=n:=by simp [u32f]
theorem u32f_get (f:Nat→Int) {n j:Nat} (h:j<n):(u32f f n)[j]?=some (.int .u32 (f j)):=by simp [u32f,h]
theorem u32f_set (f:Nat→Int) {n i:Nat} (v:Int):(u32f f n).set i (.int .u32 v)=u32f (fun j=>if j=i then v else f j) n:=by
 refine List.ext_getElem? fun j=>?_
 rw [List.getElem?_set];by_cases e:i=j
 ·subst e;by_cases h:i<n
  ·rw [if_pos rfl,if_pos (by rw [u32f_len];exact h),u32f_get _ h,if_pos rfl]
  ·rw [if_pos rfl,if_neg (by rw [u32f_len];exact h),List.getElem?_eq_none (by rw [u32f_len];omega)]
 ·rw [if_neg e];by_cases h:j<n
  ·rw [u32f_get _ h,u32f_get _ h,if_neg (fun e'=>e e'.symm)]
  ·rw [List.getElem?_eq_none (by rw [u32f_len];omega),List.getElem?_eq_none (by rw [u32f_len];omega)]
theorem u32f_zero (n:Nat):(List.replicate n (Value.int .u32 0)).toArray.toList=u32f (fun _=>0) n:=by
 simp only [u32f];exact (List.map_const' ..).symm ▸ by simp
def byt (s:ByteArray) (j:Nat):Nat:=(s.data.getD j 0).toNat
theorem byt_at (s:ByteArray) (j:Nat) (h:j<s.size):s[j].toNat=byt s j:=by
 unfold byt;rw [Array.getD_eq_getD_getElem?,Array.getElem?_eq_getElem h];rfl
theorem byt_lt (s:ByteArray) (j:Nat):byt s j<256:=UInt8.toNat_lt _
def bigN (s:ByteArray) (o:Nat):Nat→Nat
 | 0=>0
 | m+1=>bigN s o m*256+byt s (o+m)
theorem bigN_lt (s:ByteArray) (o m:Nat):bigN s o m<256^m:=by
 induction m with
 | zero=>exact Nat.one_pos
 | succ m ih =>
  have:=byt_lt s (o+m);show bigN s o m*256+byt s (o+m)<256^(m+1);rw [Nat.pow_succ];omega
def sg0 (x:Int):Int:=bits .xor .u32 (bits .xor .u32 (rr x 7) (rr x 18)) (x / 8)
def sg1 (y:Int):Int:=bits .xor .u32 (bits .xor .u32 (rr y 17) (rr y 19)) (y / 1024)
def sW (s:ByteArray) (j:Nat):Int:=if j<16 then (bigN s (4*j) 4:Nat) else (sW s (j-16)+sg0 (sW s (j-15))+sW s (j-7)+sg1 (sW s (j-2)))%4294967296
termination_by j
theorem sW_lo (s:ByteArray) (j:Nat) (h:j<16):sW s j=(bigN s (4*j) 4:Nat):=by rw [sW,if_pos h]
theorem sW_hi (s:ByteArray) (j:Nat) (h:16≤j):sW s j=(sW s (j-16)+sg0 (sW s (j-15))+sW s (j-7)+sg1 (sW s (j-2)))%4294967296:=by rw [sW,if_neg (by omega)]
theorem sW_u (s:ByteArray) (j:Nat):0≤sW s j∧sW s j<4294967296:=by
 by_cases h:j<16
 ·rw [sW_lo s j h];have:=bigN_lt s (4*j) 4;omega
 ·rw [sW_hi s j (by omega)];omega
theorem Blk.drewH {w:World} {g:Nat} {T:TypeId} {cs:List Value} (h:Blk w g T cs):Blk w.drew g T cs:=h
theorem Blk.setv {w:World} {g k:Nat} {T:TypeId} {cs cs':List Value} {v v':Value} (h:Blk w g T cs) (e:v=v') (hc:cs.set k v'=cs'):Blk (w.setCell ⟨g,k,none⟩ v) g T cs':=by
 subst e hc;exact h.set k v
theorem info_u32:(Tryz.prog.info? 181).map (fun i=>(i.zero,i.size,i.bytes))=some (some (.int .u32 0),1,4):=by kernel_rfl
def sP (s:ByteArray) (k j:Nat):Int:=if j<k then sW s j else 0
def sQ (s:ByteArray) (k m j:Nat):Int:=if j<k then sW s j else if j=k then (bigN s (4*k) m:Nat) else 0
theorem u32f_congr {f g:Nat→Int} {n:Nat} (h:∀j,j<n→f j=g j):u32f f n=u32f g n:=by
 unfold u32f;refine List.map_congr_left fun j hj=>?_
 rw [h j (List.mem_range.1 hj)]
theorem sP_zero (s:ByteArray):u32f (fun _=>0) 64=u32f (sP s 0) 64:=u32f_congr fun j _=>by rw [sP,if_neg (by omega)]
theorem sQ_zero (s:ByteArray) (k:Nat):u32f (sP s k) 64=u32f (sQ s k 0) 64:=u32f_congr fun j _=>by
 rw [sP,sQ];split
 ·rfl
 ·split <;> rfl
theorem sQ_four (s:ByteArray) (k:Nat) (h:k<16):u32f (sQ s k 4) 64=u32f (sP s (k+1)) 64:=u32f_congr fun j _=>by
 rw [sP,sQ];by_cases h1:j<k
 ·rw [if_pos h1,if_pos (by omega)]
 ·rw [if_neg h1];by_cases h2:j=k
  ·subst h2;rw [if_pos rfl,if_pos (by omega),sW_lo s j h]
  ·rw [if_neg h2,if_neg (by omega)]
theorem sQ_set (s:ByteArray) (k m:Nat):(u32f (sQ s k m) 64).set k (.int .u32 (bigN s (4*k) (m+1):Nat))=u32f (sQ s k (m+1)) 64:=by
 rw [u32f_set];refine u32f_congr fun j _=>?_
 unfold sQ;by_cases h2:j=k
 ·subst h2;rw [if_pos rfl,if_neg (by omega),if_pos rfl]
 ·rw [if_neg h2,if_neg h2,if_neg h2]
theorem sP_set (s:ByteArray) (k:Nat):(u32f (sP s k) 64).set k (.int .u32 (sW s k))=u32f (sP s (k+1)) 64:=by
 rw [u32f_set];refine u32f_congr fun j _=>?_
 unfold sP;by_cases h2:j=k
 ·subst h2;rw [if_pos rfl,if_pos (by omega)]
 ·rw [if_neg h2];by_cases h1:j<k
  ·rw [if_pos h1,if_pos (by omega)]
  ·rw [if_neg h1,if_neg (by omega)]
theorem sP_end (s:ByteArray):u32f (sP s 64) 64=u32f (sW s) 64:=u32f_congr fun j h=>by rw [sP,if_pos h]
theorem sP_at {w:World} {g:Nat} {T:TypeId} {s:ByteArray} {k j:Nat} (h:Blk w g T (u32f (sP s k) 64)) (hj:j<k) (hk:k≤64):w.cell? ⟨g,j,none⟩=some (.int .u32 (sW s j)):=by
 rw [h.cell,u32f_get _ (by omega),sP,if_pos hj]
theorem schedule_v (s:ByteArray) (w:World) (hs:s.size=64) :
  Calls Tryz.prog 215 #[.string s] w fun e w'=>∃g,e=.returned (.slice (some ⟨g,0,none⟩) 64 64)∧Blk w' g 181 (u32f (sW s) 64)∧w.heap.size≤g∧Below w.heap.size w w':=by
 have hmk:∀W:World,(Instr.makeSlice 164 (.int .i64 64) (.int .i64 64)).run Tryz.prog W=.ok (.slice (some ⟨W.heap.size,0,none⟩) 64 64) (W.alloc (.cells (List.replicate 64 (Value.int .u32 0)).toArray 181)):=run_mk (P:=Tryz.prog) Tryz.underlying164 info_u32 64 (by omega) (by omega);have hB0:Blk (w.alloc (.cells (List.replicate 64 (Value.int .u32 0)).toArray 181)) w.heap.size 181 (u32f (sP s 0) 64):=by rw [←sP_zero,←u32f_zero];exact Blk.new _ _ _
 have hBW:=b1 w (.cells (List.replicate 64 (Value.int .u32 0)).toArray 181);generalize hZ:(List.replicate 64 (Value.int .u32 0)).toArray=Z at hmk hB0 hBW;clear hZ;go_enter Tryz.func215,Tryz.ntmps215
 go_wp2;go_loopw [4] (fun i wr=>∃k:Nat,k≤16∧i=.int .i64 k∧Blk wr w.heap.size 181 (u32f (sP s k) 64)∧Below w.heap.size w wr) (fun i _=>16-(intOf i).toNat)
 case atStart=>exact ⟨0,by omega,rfl,hB0,hBW⟩
 case round =>
  obtain ⟨k,hk,rfl,hb,hbr⟩:=hrel;clear hB0 hBW hmk;by_cases hlt:k<16
  ·go_wp2;go_loopw [5] (fun i wr=>∃m:Nat,m≤4∧i=.int .i64 m∧Blk wr w.heap.size 181 (u32f (sQ s k m) 64)∧Below w.heap.size w wr) (fun i _=>4-(intOf i).toNat)
   case atStart=>exact ⟨0,by omega,rfl,by rw [←sQ_zero];exact hb,hbr⟩
   case round =>
    clear hb hbr;obtain ⟨m,hm,rfl,hb,hbr⟩:=hrel;by_cases hlm:m<4
    ·have hl:=hb.lt;have hc:wr.cell? ⟨w.heap.size,k,none⟩=some (.int .u32 (bigN s (4*k) m:Nat)):=by rw [hb.cell,u32f_get _ (by omega),sQ,if_neg (by omega),if_pos rfl]
     have HX:=Lib.hid (bigN_lt s (4*k) m);have HS:=Lib.hid (sQ_set s k m);have HN:Hid (bigN s (4*k) (m+1)=bigN s (4*k) m*256+byt s (4*k+m)):=rfl;generalize hx:bigN s (4*k) m=x at hc HX HN;generalize bigN s (4*k) (m+1)=x' at HS HN;have HM:Hid ((256:Nat)^m≤16777216):=Nat.le_trans (Nat.pow_le_pow_right (by decide) (show m≤3 by omega)) (by decide);clear hx;have hf:=hb.free k;obtain ⟨j,hj⟩:∃j,j=4*k+m:=⟨_,rfl⟩;have hjs:j<s.size:=by omega
     have HJ:Hid (s[j].toNat=byt s (4*k+m)):=by rw [Hid,byt_at s j hjs,hj]
     have e1:IntKind.i64.wrap (4*(k:Int))=4*(k:Int):=by rw [IntWalk.i64_in _ (by omega)]
     have e2:IntKind.i64.wrap (4*(k:Int)+(m:Int))=(j:Int):=by rw [IntWalk.i64_in _ (by omega)];omega
     have k1:(0:Int)≤(k:Int):=by omega
     have k2:(k:Int)<64:=by omega
     have j1:(0:Int)≤(j:Int):=by omega
     have j2:(j:Int)<64:=by omega
     clear hj;go_wp2_with fail
     go_region;go_wp2;go_roundw
     case rel=>exact ⟨m+1,by omega,by go_num,Blk.drewH (Blk.setv hb (by
      have h1:=HX.out;have h2:=HM.out;have h3:=HN.out;have h4:=HJ.out;have h5:=byt_lt s (4*k+m);have e:((x':Nat):Int)=(x:Int)*256+(byt s (4*k+m):Nat):=by omega
      rw [e,←h4];first | done | rfl | (congr 1;omega)) HS.out),(hbr.setCell (Nat.le_refl _) _).drew⟩
     case measure=>simp [intOf];omega
    ·obtain rfl:m=4:=by omega
     go_wp2;go_roundw
     case rel=>exact ⟨k+1,by omega,by go_num,by rw [←sQ_four s k hlt];exact hb,hbr⟩
     case measure=>simp [intOf];omega
  ·obtain rfl:k=16:=by omega
   go_wp2;go_loopw [6] (fun i wr=>∃k:Nat,16≤k∧k≤64∧i=.int .i64 k∧Blk wr w.heap.size 181 (u32f (sP s k) 64)∧Below w.heap.size w wr) (fun i _=>64-(intOf i).toNat)
   case atStart=>exact ⟨16,by omega,by omega,rfl,hb,hbr⟩
   case round =>
    clear hb hbr hlt hk;obtain ⟨k,hk,hk2,rfl,hb,hbr⟩:=hrel;by_cases hlt:k<64
    ·obtain ⟨a15,h15⟩:∃a,a=k-15:=⟨_,rfl⟩;obtain ⟨a2,h2⟩:∃a,a=k-2:=⟨_,rfl⟩;obtain ⟨a16,h16⟩:∃a,a=k-16:=⟨_,rfl⟩;obtain ⟨a7,h7⟩:∃a,a=k-7:=⟨_,rfl⟩;have c15:=sP_at hb (show a15<k by omega) hk2;have c2:=sP_at hb (show a2<k by omega) hk2;have HSW:Hid (sW s k=(sW s a16+sg0 (sW s a15)+sW s a7+sg1 (sW s a2))%4294967296):=by rw [Hid,sW_hi s k hk,h15,h2,h16,h7]
     have HSS:=Lib.hid (sP_set s k);have m16:a16<k:=by omega
     have m7:a7<k:=by omega
     generalize hx:sW s a15=x at c15 HSW;generalize hy:sW s a2=y at c2 HSW;clear hx hy;have e15:IntKind.i64.wrap ((k:Int)-15)=(a15:Int):=by rw [IntWalk.i64_in _ (by omega)];omega
     have e2:IntKind.i64.wrap ((k:Int)-2)=(a2:Int):=by rw [IntWalk.i64_in _ (by omega)];omega
     have b15:(a15:Int)<64:=by omega
     have b2:(a2:Int)<64:=by omega
     have d15:(0:Int)≤(a15:Int):=by omega
     have d2:(0:Int)≤(a2:Int):=by omega
     have e16:IntKind.i64.wrap ((k:Int)-16)=(a16:Int):=by rw [IntWalk.i64_in _ (by omega)];omega
     have e7:IntKind.i64.wrap ((k:Int)-7)=(a7:Int):=by rw [IntWalk.i64_in _ (by omega)];omega
     have b16:(a16:Int)<64:=by omega
     have b7:(a7:Int)<64:=by omega
     have d16:(0:Int)≤(a16:Int):=by omega
     have d7:(0:Int)≤(a7:Int):=by omega
     have bk:(k:Int)<64:=by omega
     have dk:(0:Int)≤(k:Int):=by omega
     have n16:a16<64:=by omega
     have n7:a7<64:=by omega
     clear h15 h2 h16 h7;have hl:=hb.lt;go_wp2_with fail
     go_region;have hbA:=Blk.drewH hb;have hbrA:=hbr.drew;clear c15 c2 hb hbr hl;generalize wr.drew=wa at hbA hbrA ⊢;go_wp2_with fail
     refine (right_v x 7 7 _ rfl (by decide) (by decide)).mono ?_;rintro e w2 ⟨y1,rfl,HY1,hb2⟩;go_wp2_with fail
     refine (right_v x 18 18 _ rfl (by decide) (by decide)).mono ?_;rintro e w3 ⟨y2,rfl,HY2,hb3⟩;go_wp2_with fail
     refine (right_v y 17 17 _ rfl (by decide) (by decide)).mono ?_;rintro e w4 ⟨y3,rfl,HY3,hb4⟩;go_wp2_with fail
     refine (right_v y 19 19 _ rfl (by decide) (by decide)).mono ?_;rintro e w5 ⟨y4,rfl,HY4,hb5⟩;have hb6:=bt hb2 (bt hb3 (bt hb4 hb5));have hbB:=hbA.after hb6;have hbrB:=bt hbrA hb6;clear hbA hbrA hb2 hb3 hb4 hb5 hb6;have c16:=sP_at hbB m16 hk2;have c7:=sP_at hbB m7 hk2;have ck:w5.cell? ⟨w.heap.size,k,none⟩=some (.int .u32 0):=by rw [hbB.cell,u32f_get _ hlt,sP,if_neg (by omega)]
     generalize hz1:sW s a16=z1 at c16 HSW;generalize hz2:sW s a7=z2 at c7 HSW;clear hz1 hz2 m16 m7;have fk:=hbB.free k;have hl:=hbB.lt;go_wp2_with fail
     go_region;go_wp2;go_roundw
     case rel =>
      refine ⟨_,_,_,_,_,_,_,_,_,_,_,_,_,_,_,_,_,_,_,_,_,_,_,_,_,_,_,_,_,_,_,_,_,_,_,_,_,_,_,_,_,_,_,_,_,_,_,_,_,_,_,_,_,⟨k+1,?_,?_,?_,?_,?_⟩,rfl⟩
      ·omega
      ·omega
      ·go_num
      ·exact Blk.drewH (Blk.setv hbB (by
        have h1:=HSW.out;unfold sg0 sg1 at h1;rw [←HY1.out,←HY2.out,←HY3.out,←HY4.out] at h1;rw [h1];first | done | rfl | (congr 1;omega)) HSS.out)
      ·exact (hbrB.setCell (Nat.le_refl _) _).drew
     case measure=>simp [intOf];omega
    ·obtain rfl:k=64:=by omega
     go_wp2;go_ret
     exact ⟨_,rfl,by rw [←sP_end];exact hb,Nat.le_refl _,hbr⟩
end
section
open Go.RowKit Go.Shelf
def kL:List Int:=[1116352408,1899447441,3049323471,3921009573,961987163,1508970993,2453635748,2870763221,3624381080,310598401,607225278,1426881987,1925078388,2162078206,2614888103,3248222580,3835390401,4022224774,264347078,604807628,770255983,1249150122,1555081692,1996064986,2554220882,2821834349,2952996808,3210313671,3336571891,3584528711,113926993,338241895,666307205,773529912,1294757372,1396182291,1695183700,1986661051,2177026350,2456956037,2730485921,2820302411,3259730800,3345764771,3516065817,3600352804,4094571909,275423344,430227734,506948616,659060556,883997877,958139571,1322822218,1537002063,1747873779,1955562222,2024104815,2227730452,2361852424,2428436474,2756734187,3204031479,3329325298]
def kC (j:Nat):Int:=kL.getD j 0
def iL:List Int:=[1779033703,3144134277,1013904242,2773480762,1359893119,2600822924,528734635,1541459225]
def iC (j:Nat):Int:=iL.getD j 0
def ch3 (e f g:Int):Int:=bits .xor .u32 (bits .and .u32 e f) (bits .and .u32 (bits .xor .u32 4294967295 e) g)
def mj3 (a b c:Int):Int:=bits .xor .u32 (bits .xor .u32 (bits .and .u32 a b) (bits .and .u32 a c)) (bits .and .u32 b c)
def bS1 (e:Int):Int:=bits .xor .u32 (bits .xor .u32 (rr e 6) (rr e 11)) (rr e 25)
def bS0 (a:Int):Int:=bits .xor .u32 (bits .xor .u32 (rr a 2) (rr a 13)) (rr a 22)
def tT (e f g h kk ww:Int):Int:=(h+bS1 e+ch3 e f g+kk+ww)%4294967296
def tU (a b c:Int):Int:=(bS0 a+mj3 a b c)%4294967296
def rT (v:Nat→Int) (kk ww:Int):Int:=tT (v 4) (v 5) (v 6) (v 7) kk ww
def rnd (v:Nat→Int) (kk ww:Int) (j:Nat):Int:=
 if j=0 then (rT v kk ww+tU (v 0) (v 1) (v 2))%4294967296 else if j=4 then (v 3+rT v kk ww)%4294967296 else v (j-1)
def vv (s:ByteArray) (S:Nat→Int):Nat→Nat→Int
 | 0=>S
 | k+1=>rnd (vv s S k) (kC k) (sW s k)
def cmp (S:Nat→Int) (s:ByteArray) (j:Nat):Int:=(vv s S 64 j+S j)%4294967296
def fP (s:ByteArray) (S:Nat→Int) (k j:Nat):Int:=if j<k then cmp S s j else vv s S 64 j
theorem fP_zero (s:ByteArray) (S:Nat→Int):u32f (fP s S 0) 8=u32f (vv s S 64) 8:=u32f_congr fun j _=>by rw [fP,if_neg (by omega)]
theorem fP_set (s:ByteArray) (S:Nat→Int) (k:Nat):(u32f (fP s S k) 8).set k (.int .u32 (cmp S s k))=u32f (fP s S (k+1)) 8:=by
 rw [u32f_set];refine u32f_congr fun j _=>?_
 unfold fP;by_cases h2:j=k
 ·subst h2;rw [if_pos rfl,if_pos (by omega)]
 ·rw [if_neg h2];by_cases h1:j<k
  ·rw [if_pos h1,if_pos (by omega)]
  ·rw [if_neg h1,if_neg (by omega)]
theorem fP_at {w:World} {g:Nat} {T:TypeId} {s:ByteArray} {S:Nat→Int} {k:Nat} (h:Blk w g T (u32f (fP s S k) 8)) (hk:k<8):w.cell? ⟨g,k,none⟩=some (.int .u32 (vv s S 64 k)):=by
 rw [h.cell,u32f_get _ hk,fP,if_neg (by omega)]
def WdA (w:World) (g n:Nat) (F:Nat→Int):Prop:=g<w.heap.size∧∀j,j<n→w.cell? ⟨g,j,none⟩=some (.int .u32 (F j))
theorem WdA.after {w w':World} {g n:Nat} {F:Nat→Int} (h:WdA w g n F) (hb:Below w.heap.size w w'):WdA w' g n F:=
 ⟨Nat.lt_of_lt_of_le h.1 hb.size,fun j hj=>(hb.cell (p:=⟨g,j,none⟩) h.1).trans (h.2 j hj)⟩
theorem WdA.drew {w:World} {g n:Nat} {F:Nat→Int} (h:WdA w g n F):WdA w.drew g n F:=h
theorem WdA.of {w:World} {g n:Nat} {F:Nat→Int} (h:Blk w g 181 (u32f F n)):WdA w g n F:=⟨h.lt,fun j hj=>by rw [h.cell,u32f_get F hj]⟩
theorem WdA.congr {w:World} {g n:Nat} {F G:Nat→Int} (h:WdA w g n F) (e:∀j,j<n→F j=G j):WdA w g n G:=⟨h.1,fun j hj=>by rw [←e j hj];exact h.2 j hj⟩
theorem Blk.as {w:World} {g:Nat} {T:TypeId} {cs cs':List Value} (h:Blk w g T cs) (e:cs=cs'):Blk w g T cs':=e ▸ h
theorem constants_v (w:World) :
  Calls Tryz.prog 216 #[] w fun e w'=>∃g,e=.returned (.slice (some ⟨g,0,none⟩) 64 64)∧WdA w' g 64 kC∧Below w.heap.size w w':=by
 go_enter Tryz.func216,Tryz.ntmps216
 go_wp2;go_ret
 exact ⟨_,rfl,WdA.of ((Blk.new w _ _).as (by rfl)),b1 w _⟩
end
section
open Go.RowKit Go.Shelf
theorem bits_or_comm (k:IntKind) (x y:Int):bits .or k x y=bits .or k y x:=by
 unfold bits;simp only [BitVec.or_comm]
theorem rot_and:∀n:Fin 32,0<n.val→bits .and .u64 (IntKind.u64.wrap (-(n.val:Int))) 31=32-(n.val:Int):=by decide +kernel
theorem rotl_c (x:Int) (n:Nat) (w:World) (hn:0<n) (hn2:n<32) :
  Calls Tryz.prog 223 #[.int .u32 x,.int .i64 (-(n:Int))] w fun e w'=>e=.returned (.int .u32 (rr x n))∧Below w.heap.size w w':=by
 obtain ⟨r,hr⟩:∃r,r=32-n:=⟨_,rfl⟩;have HE:Hid (bits .or .u32 (x*2^r%4294967296) (x / 2^n)=rr x n):=by rw [Hid,bits_or_comm,rr,hr]
 have h1:=rot_and ⟨n,hn2⟩ hn;simp only at h1;obtain ⟨q,hq⟩:∃q,q=IntKind.u64.wrap (-(n:Int)):=⟨_,rfl⟩;have e0:=hq.symm;rw [e0] at h1;have e1:bits .and .u64 q 31=(r:Int):=by rw [h1];omega
 have e2:IntKind.u64.wrap (32-(r:Int))=(n:Int):=by rw [IntKind.wrap_u64];omega
 have r0:(0:Int)≤(r:Int):=by omega
 have r1:(r:Int)≤32:=by omega
 have n0:(0:Int)≤(n:Int):=by omega
 have n1:(n:Int)≤32:=by omega
 clear h1 hq hr;go_enter Tryz.func223,Tryz.ntmps223
 go_wp2;go_ret
 refine ⟨?_,Below.refl _ _⟩;rw [←HE.out];rfl
theorem turn_c (x z:Int) (n:Nat) (w:World) (hz:z=(n:Int)) (hn:0<n) (hn2:n<32) :
  Calls Tryz.prog 214 #[.int .u32 x,.int .i64 z] w fun e w'=>e=.returned (.int .u32 (rr x n))∧Below w.heap.size w w':=by
 subst hz;have HR:=Lib.hid (fun w=>rotl_c x n w hn hn2);have e0:IntKind.i64.wrap (-(n:Int))=-(n:Int):=IntWalk.i64_in _ (by omega);have e1:IntKind.i64.wrap (0-(n:Int))=-(n:Int):=by rw [IntWalk.i64_in _ (by omega)];omega
 go_enter Tryz.func214,Tryz.ntmps214
 go_wp2_with fail
 refine (HR.out _).mono ?_;rintro e w2 ⟨rfl,hb2⟩;go_wp2;go_ret
 exact ⟨rfl,hb2⟩
end
section
open Go.RowKit Go.Shelf
theorem or4 (a b c d:Nat) (ha:a<256) (hb:b<256) (hc:c<256) (hd:d<256) :
  bits .or .u32 (bits .or .u32 (bits .or .u32 ((a:Int)*16777216%4294967296) ((b:Int)*65536%4294967296)) ((c:Int)*256%4294967296)) (d:Int)=((((a*256+b)*256+c)*256+d:Nat):Int):=by
 have s1:a*16777216 ||| b*65536=(a*256+b)*65536:=by
  have h:=Nat.shiftLeft_add_eq_or_of_lt (b:=b*65536) (i:=24) (by omega) a;rw [Nat.shiftLeft_eq,show (2:Nat)^24=16777216 from rfl] at h;rw [←h];omega
 have s2:(a*256+b)*65536 ||| c*256=((a*256+b)*256+c)*256:=by
  have h:=Nat.shiftLeft_add_eq_or_of_lt (b:=c*256) (i:=16) (by omega) (a*256+b);rw [Nat.shiftLeft_eq,show (2:Nat)^16=65536 from rfl] at h;rw [←h];omega
 have s3:((a*256+b)*256+c)*256 ||| d=((a*256+b)*256+c)*256+d:=by
  have h:=Nat.shiftLeft_add_eq_or_of_lt (b:=d) (i:=8) (by omega) ((a*256+b)*256+c);rw [Nat.shiftLeft_eq,show (2:Nat)^8=256 from rfl] at h;rw [←h]
 rw [show (a:Int)*16777216%4294967296=((a*16777216:Nat):Int) by omega,show (b:Int)*65536%4294967296=((b*65536:Nat):Int) by omega,show (c:Int)*256%4294967296=((c*256:Nat):Int) by omega,
  u32_or_nat _ _ (by omega) (by omega),s1,u32_or_nat _ _ (by omega) (by omega),s2,u32_or_nat _ _ (by omega) (by omega),s3]
theorem bigN4 (s:ByteArray) (o:Nat):bigN s o 4=((byt s o*256+byt s (o+1))*256+byt s (o+2))*256+byt s (o+3):=by
 show (((0*256+byt s (o+0))*256+byt s (o+1))*256+byt s (o+2))*256+byt s (o+3)=_;rw [Nat.add_zero,Nat.zero_mul,Nat.zero_add]
def BytA (w:World) (b o:Nat) (s:ByteArray):Prop:=b<w.heap.size∧∀j,j<s.size→w.cell? ⟨b,o+j,none⟩=some (.int .u8 (byt s j:Nat))
theorem BytA.after {w w':World} {b o:Nat} {s:ByteArray} (h:BytA w b o s) (hb:Below w.heap.size w w'):BytA w' b o s:=
 ⟨Nat.lt_of_lt_of_le h.1 hb.size,fun j hj=>(hb.cell (p:=⟨b,o+j,none⟩) h.1).trans (h.2 j hj)⟩
theorem BytA.set {w:World} {b o:Nat} {s:ByteArray} (h:BytA w b o s) (g i:Nat) (v:Value) (hne:b≠g):BytA (w.setCell ⟨g,i,none⟩ v).drew b o s:=
 ⟨by show b<(w.setCell _ _).heap.size;rw [World.size_setCell];exact h.1,fun j hj=>by show (w.setCell _ _).cell? _=_;rw [World.cell?_setCell_other _ _ _ _ (fun e=>hne (congrArg Addr.block e).symm)];exact h.2 j hj⟩
theorem gclH {w:World} {a:Addr} {v:Value} (hb:a.block<w.heap.size) (h:w.cell? a=some v):∀x:GW w,(Proofs.YtdoacbdkbbpamaaGreatDoor.gw x).cell? a=some v:=fun x=>((gw_below x).cell hb).trans h
theorem size_w64 (F:Nat→Int):(Tryz.prog.info? 216).map (·.size)=some (u32f F 64).toArray.size:=by
 rw [show (u32f F 64).toArray.size=64 by simp [u32f]];kernel_rfl
theorem u32f_one (F:Nat→Int) (n:Nat):(u32f F n).toArray.all (·.oneCell')=true:=by
 rw [Array.all_eq_true];intro i hi;simp [u32f,Value.oneCell']
theorem setRow_below {B:Nat} {w0 w:World} {g:Nat} {cs:Array Value} (h:Below B w0 w) (hg:B≤g):Below B w0 (w.setRow g cs):=
 h.trans ⟨rfl,rfl,rfl,by simp,fun k hk=>setRow_other _ _ _ _ (by omega)⟩
theorem setRow_blk {w:World} {g:Nat} {T:TypeId} {cs:Array Value} {old:List Value} (h:Blk w g T old):Blk (w.setRow g cs) g T cs.toList:=by
 have h1:=setRow_heap w g _ cs T (0,0) h;exact h1
abbrev Z64:Array Value:=#[.int .u32 0,.int .u32 0,.int .u32 0,.int .u32 0,.int .u32 0,.int .u32 0,.int .u32 0,.int .u32 0,.int .u32 0,.int .u32 0,.int .u32 0,.int .u32 0,.int .u32 0,.int .u32 0,.int .u32 0,.int .u32 0,.int .u32 0,.int .u32 0,.int .u32 0,.int .u32 0,.int .u32 0,.int .u32 0,.int .u32 0,.int .u32 0,.int .u32 0,.int .u32 0,.int .u32 0,.int .u32 0,.int .u32 0,.int .u32 0,.int .u32 0,.int .u32 0,.int .u32 0,.int .u32 0,.int .u32 0,.int .u32 0,.int .u32 0,.int .u32 0,.int .u32 0,.int .u32 0,.int .u32 0,.int .u32 0,.int .u32 0,.int .u32 0,.int .u32 0,.int .u32 0,.int .u32 0,.int .u32 0,.int .u32 0,.int .u32 0,.int .u32 0,.int .u32 0,.int .u32 0,.int .u32 0,.int .u32 0,.int .u32 0,.int .u32 0,.int .u32 0,.int .u32 0,.int .u32 0,.int .u32 0,.int .u32 0,.int .u32 0,.int .u32 0]
abbrev Z8:Array Value:=#[.int .u32 0,.int .u32 0,.int .u32 0,.int .u32 0,.int .u32 0,.int .u32 0,.int .u32 0,.int .u32 0]
theorem z64:#[.int .u32 0,.int .u32 0,.int .u32 0,.int .u32 0,.int .u32 0,.int .u32 0,.int .u32 0,.int .u32 0,.int .u32 0,.int .u32 0,.int .u32 0,.int .u32 0,.int .u32 0,.int .u32 0,.int .u32 0,.int .u32 0,.int .u32 0,.int .u32 0,.int .u32 0,.int .u32 0,.int .u32 0,.int .u32 0,.int .u32 0,.int .u32 0,.int .u32 0,.int .u32 0,.int .u32 0,.int .u32 0,.int .u32 0,.int .u32 0,.int .u32 0,.int .u32 0,.int .u32 0,.int .u32 0,.int .u32 0,.int .u32 0,.int .u32 0,.int .u32 0,.int .u32 0,.int .u32 0,.int .u32 0,.int .u32 0,.int .u32 0,.int .u32 0,.int .u32 0,.int .u32 0,.int .u32 0,.int .u32 0,.int .u32 0,.int .u32 0,.int .u32 0,.int .u32 0,.int .u32 0,.int .u32 0,.int .u32 0,.int .u32 0,.int .u32 0,.int .u32 0,.int .u32 0,.int .u32 0,.int .u32 0,.int .u32 0,.int .u32 0,.int .u32 0].toList=u32f (fun _=>0) 64:=by rfl
theorem pschedule_v (s:ByteArray) (b o c:Nat) (w:World) (hs:s.size=64) (hA:BytA w b o s) (hc:64≤c) :
  Calls Tryz.prog 213 #[.slice (some ⟨b,o,none⟩) 64 c] w fun e w'=>e=.returned (.agg (u32f (sW s) 64).toArray)∧Below w.heap.size w w':=by
 go_enter Tryz.func213,Tryz.ntmps213
 go_upto_region 2 with fail
 obtain ⟨Z,hZ⟩:∃Z:Array Value,Z=#[.int .u32 0,.int .u32 0,.int .u32 0,.int .u32 0,.int .u32 0,.int .u32 0,.int .u32 0,.int .u32 0,.int .u32 0,.int .u32 0,.int .u32 0,.int .u32 0,.int .u32 0,.int .u32 0,.int .u32 0,.int .u32 0,.int .u32 0,.int .u32 0,.int .u32 0,.int .u32 0,.int .u32 0,.int .u32 0,.int .u32 0,.int .u32 0,.int .u32 0,.int .u32 0,.int .u32 0,.int .u32 0,.int .u32 0,.int .u32 0,.int .u32 0,.int .u32 0,.int .u32 0,.int .u32 0,.int .u32 0,.int .u32 0,.int .u32 0,.int .u32 0,.int .u32 0,.int .u32 0,.int .u32 0,.int .u32 0,.int .u32 0,.int .u32 0,.int .u32 0,.int .u32 0,.int .u32 0,.int .u32 0,.int .u32 0,.int .u32 0,.int .u32 0,.int .u32 0,.int .u32 0,.int .u32 0,.int .u32 0,.int .u32 0,.int .u32 0,.int .u32 0,.int .u32 0,.int .u32 0,.int .u32 0,.int .u32 0,.int .u32 0,.int .u32 0]:=⟨_,rfl⟩;rw [←hZ];have HZ:Hid (Z.toList=u32f (fun _=>0) 64):=by rw [Hid,hZ];exact z64
 clear hZ;have hR:Blk ((w.alloc (.cells Z 216)).alloc (.cells Z 216)) w.heap.size 216 (u32f (fun _=>0) 64):=((Blk.new w Z 216).as HZ.out).alloc _
 have hB:Blk ((w.alloc (.cells Z 216)).alloc (.cells Z 216)) (w.heap.size+1) 216 (u32f (sP s 0) 64):=by
  have h:=(Blk.new (w.alloc (.cells Z 216)) Z 216).as (HZ.out.trans (sP_zero s));rw [World.size_alloc] at h;exact h
 have hBW:=ba (b1 w (.cells Z 216)) (.cells Z 216);generalize (w.alloc (.cells Z 216)).alloc (.cells Z 216)=w1 at hR hB hBW ⊢;clear HZ;have hA1:=hA.after hBW;obtain ⟨g,hg⟩:∃g,w.heap.size+1=g:=⟨_,rfl⟩;obtain ⟨gr,hgr⟩:∃g,w.heap.size=g:=⟨_,rfl⟩;have HGE:Hid (w.heap.size≤g):=by rw [Hid];omega
 have HGR:Hid (w.heap.size≤gr∧gr≠g):=by rw [Hid];omega
 have HBL:Hid (b≠g):=by have:=hA.1;rw [Hid];omega
 rw [hg] at hB ⊢;rw [hgr] at hR ⊢;clear hg hgr hA;go_wp2;go_loopw [9] (fun i wr=>∃k:Nat,k≤16∧i=.int .i64 k∧Blk wr g 216 (u32f (sP s k) 64)∧Blk wr gr 216 (u32f (fun _=>0) 64)∧BytA wr b o s∧Below w.heap.size w wr) (fun i _=>16-(intOf i).toNat)
 case atStart=>exact ⟨0,by omega,rfl,hB,hR,hA1,hBW⟩
 case round =>
  clear hB hR hA1 hBW;obtain ⟨k,hk,rfl,hb,hr,hA,hbr⟩:=hrel;by_cases hlt:k<16
  ·have hbl:=hA.1;have l0:=hA.2 (4*k) (by omega);have l1:=hA.2 (4*k+1) (by omega);have l2:=hA.2 (4*k+2) (by omega);have l3:=hA.2 (4*k+3) (by omega);have e0:IntKind.i64.wrap (4*(k:Int))=4*(k:Int):=by rw [IntWalk.i64_in _ (by omega)]
   have e1:IntKind.i64.wrap (4*(k:Int)+4)=4*(k:Int)+4:=by rw [IntWalk.i64_in _ (by omega)]
   have hf:=hb.free k;have hbg:=hb.lt;have hck:wr.cell? ⟨g,k,none⟩=some (.int .u32 0):=by rw [hb.cell,u32f_get _ (by omega),sP,if_neg (by omega)]
   have HSS:=Lib.hid (sP_set s k);have HSW:Hid (sW s k=((((byt s (4*k)*256+byt s (4*k+1))*256+byt s (4*k+2))*256+byt s (4*k+3):Nat):Int)):=by rw [Hid,sW_lo s k hlt,bigN4]
   have HB0:=Lib.hid (byt_lt s (4*k));have HB1:=Lib.hid (byt_lt s (4*k+1));have HB2:=Lib.hid (byt_lt s (4*k+2));have HB3:=Lib.hid (byt_lt s (4*k+3));generalize byt s (4*k)=y0 at l0 HSW HB0;generalize byt s (4*k+1)=y1 at l1 HSW HB1;generalize byt s (4*k+2)=y2 at l2 HSW HB2;generalize byt s (4*k+3)=y3 at l3 HSW HB3;rw [←Nat.add_assoc] at l1 l2 l3;have f0:(0:Int)≤4*(k:Int):=by omega
   have f1:4*(k:Int)≤4*(k:Int)+4:=by omega
   have f2:4*(k:Int)+4≤(c:Int):=by omega
   have k0:(0:Int)≤(k:Int):=by omega
   have k1:(k:Int)<64:=by omega
   go_upto_region 6 with fail
   rw [show 4*k+4-4*k=4 by omega];go_region;go_wp2;go_roundw
   case rel =>
    have hv:bits BinOp.or IntKind.u32 (bits BinOp.or IntKind.u32 (bits BinOp.or IntKind.u32 ((y0:Int)%4294967296*16777216%4294967296) ((y1:Int)%4294967296*65536%4294967296)) ((y2:Int)%4294967296*256%4294967296)) ((y3:Int)%4294967296)=sW s k:=by
     have h0:=HB0.out;have h1:=HB1.out;have h2:=HB2.out;have h3:=HB3.out;rw [HSW.out,show (y0:Int)%4294967296=y0 by omega,show (y1:Int)%4294967296=y1 by omega,show (y2:Int)%4294967296=y2 by omega,show (y3:Int)%4294967296=y3 by omega];exact or4 _ _ _ _ h0 h1 h2 h3
    rw [hv];exact ⟨k+1,by omega,rfl,Blk.drewH (Blk.setv hb rfl HSS.out),Blk.drewH (hr.other _ _ HGR.out.2),hA.set _ _ _ HBL.out,(hbr.setCell HGE.out _).drew⟩
   case measure=>simp [intOf];omega
  ·obtain rfl:k=16:=by omega
   clear hA;go_wp2;go_loopw [6,7,8] (fun i _ _ wr=>∃k:Nat,16≤k∧k≤64∧i=.int .i64 k∧Blk wr g 216 (u32f (sP s k) 64)∧Blk wr gr 216 (u32f (fun _=>0) 64)∧Below w.heap.size w wr) (fun i _ _ _=>64-(intOf i).toNat)
   case atStart=>exact ⟨16,by omega,by omega,rfl,hb,hr,hbr⟩
   case round =>
    clear hb hr hbr hlt hk;obtain ⟨k,hk,hk2,rfl,hb,hr,hbr⟩:=hrel;by_cases hlt:k<64
    ·obtain ⟨a15,h15⟩:∃a,a=k-15:=⟨_,rfl⟩;obtain ⟨a2,h2⟩:∃a,a=k-2:=⟨_,rfl⟩;obtain ⟨a16,h16⟩:∃a,a=k-16:=⟨_,rfl⟩;obtain ⟨a7,h7⟩:∃a,a=k-7:=⟨_,rfl⟩;have c15:=sP_at hb (show a15<k by omega) hk2;have c2:=sP_at hb (show a2<k by omega) hk2;have HSW:Hid (sW s k=(sW s a16+sg0 (sW s a15)+sW s a7+sg1 (sW s a2))%4294967296):=by rw [Hid,sW_hi s k hk,h15,h2,h16,h7]
     have HSS:=Lib.hid (sP_set s k);have c16:=sP_at hb (show a16<k by omega) hk2;have c7:=sP_at hb (show a7<k by omega) hk2;have ck:wr.cell? ⟨g,k,none⟩=some (.int .u32 0):=by rw [hb.cell,u32f_get _ hlt,sP,if_neg (by omega)]
     generalize hx:sW s a15=x at c15 HSW;generalize hy:sW s a2=y at c2 HSW;generalize hz1:sW s a16=z1 at c16 HSW;generalize hz2:sW s a7=z2 at c7 HSW;clear hx hy hz1 hz2;have e15:IntKind.i64.wrap ((k:Int)-15)=(a15:Int):=by rw [IntWalk.i64_in _ (by omega)];omega
     have e2:IntKind.i64.wrap ((k:Int)-2)=(a2:Int):=by rw [IntWalk.i64_in _ (by omega)];omega
     have b15:(a15:Int)<64:=by omega
     have b2:(a2:Int)<64:=by omega
     have d15:(0:Int)≤(a15:Int):=by omega
     have d2:(0:Int)≤(a2:Int):=by omega
     have e16:IntKind.i64.wrap ((k:Int)-16)=(a16:Int):=by rw [IntWalk.i64_in _ (by omega)];omega
     have e7:IntKind.i64.wrap ((k:Int)-7)=(a7:Int):=by rw [IntWalk.i64_in _ (by omega)];omega
     have b16:(a16:Int)<64:=by omega
     have b7:(a7:Int)<64:=by omega
     have d16:(0:Int)≤(a16:Int):=by omega
     have d7:(0:Int)≤(a7:Int):=by omega
     have bk:(k:Int)<64:=by omega
     have dk:(0:Int)≤(k:Int):=by omega
     clear h15 h2 h16 h7;have hl:=hb.lt;go_wp2_with fail
     go_region;have hbA:=Blk.drewH hb;have hrA:=Blk.drewH hr;have hbrA:=hbr.drew;replace c16:wr.drew.cell? ⟨g,a16,none⟩=some (.int .u32 z1):=c16;replace c7:wr.drew.cell? ⟨g,a7,none⟩=some (.int .u32 z2):=c7;clear c15 c2 hb hr hbr hl ck;generalize wr.drew=wa at hbA hrA hbrA c16 c7 ⊢;have hlA:=hbA.lt;have g16:=gclH (a:=⟨g,a16,none⟩) hlA c16;have g7:=gclH (a:=⟨g,a7,none⟩) hlA c7;go_wp2_with fail
     refine wp_region_gw_tail 29 (by kernel_rfl) (by kernel_rfl) ?_;simp only [List.take_succ_cons,List.take_zero,List.drop_succ_cons,List.drop_zero];repeat (go_big_quiet_step (first | (go_at_call 214;exact gw_of (turn_c _ _ 7 _ rfl (by decide) (by decide))) | (go_at_call 214;exact gw_of (turn_c _ _ 18 _ rfl (by decide) (by decide))) | (go_at_call 214;exact gw_of (turn_c _ _ 17 _ rfl (by decide) (by decide))) | (go_at_call 214;exact gw_of (turn_c _ _ 19 _ rfl (by decide) (by decide)))))
     refine wpQuiet_nil ?_;rintro w9 ⟨xw9,rfl⟩;have hb9:=gw_below xw9;generalize gw xw9=w9 at hb9;have hbC:=hbA.after hb9;have hrC:=hrA.after hb9;have hbrC:=bt hbrA hb9;have fk:=hbC.free k;have hlC:=hbC.lt;have ck:w9.cell? ⟨g,k,none⟩=some (.int .u32 0):=by rw [hbC.cell,u32f_get _ hlt,sP,if_neg (by omega)]
     clear g16 g7 c16 c7 hbA hrA hbrA hb9;go_wp2;go_roundw
     case rel =>
      have h1:=HSW.out;unfold sg0 sg1 at h1;refine ⟨k+1,by omega,by omega,by go_num,Blk.setv hbC (by rw [h1]) HSS.out,hrC.other _ _ HGR.out.2,hbrC.setCell HGE.out _⟩
     case measure=>simp [intOf];omega
    ·obtain rfl:k=64:=by omega
     go_upto_region 13 with fail
     apply wp_region_lit
     refine wpList_load_row rfl 216 (.tmp 3) rfl g rfl 216 _ (0,0) _ hb Tryz.underlying216 rfl (size_w64 _) ?_;refine wpList_store_row rfl 216 (.tmp 2) (.tmp 85) rfl gr _ rfl rfl 216 _ hr (size_w64 _) (by simp [u32f]) (u32f_one _ _) ?_;apply wpList_nil
     go_wp2;refine bodyPost_ret (v:=.agg (u32f (sP s 64) 64).toArray) ?_ rfl ⟨?_,setRow_below hbr HGR.out.1⟩
     ·refine results_cell_row (p:=2) (ty:=216) rfl _ _ gr 216 _ (0,0) _ rfl (setRow_heap _ _ _ _ _ _ hr) Tryz.underlying216 rfl (size_w64 _)
     ·rw [sP_end]
end
end Go.Proofs.YtdoacbdkbbpamaaGreatDoor
