/- dominoref06.Same at equal tapes. -/
import Derived.Test.YtdoacbdkbbpamaaGreatDoorHv5
import Derived.Lib.ItoaNum
import Derived.Test.YtdoacbdkbbpamaaGreatDoorTp24
import Derived.Test.YtdoacbdkbbpamaaGreatDoorLck6
import Derived.Test.YtdoacbdkbbpamaaGreatDoorCo1
set_option linter.unusedVariables false
set_option linter.unusedSimpArgs false
set_option maxRecDepth 100000
set_option maxHeartbeats 16000000
namespace Go.Proofs.YtdoacbdkbbpamaaGreatDoor
section
open Go.RowKit Go.Shelf
def xb (key:ByteArray) (x:UInt8) (j:Nat):UInt8:=(key.data.getD j 0) ^^^ x
def xorV (key:ByteArray) (x:UInt8):ByteArray:=⟨((List.range 64).map (xb key x)).toArray⟩
theorem xorV_size (key:ByteArray) (x:UInt8):(xorV key x).size=64:=by simp [xorV,ByteArray.size]
def mac1 (key s:ByteArray):ByteArray:=sumV (xorV key 92++sumV (xorV key 54++s))
def macV (key s:ByteArray):ByteArray:=mac1 (if 64<key.size then sumV key else key) s
theorem macV_size (key s:ByteArray):(macV key s).size=32:=sumV_size _
theorem xored_v (key:ByteArray) (x:UInt8) (w:World) (hk:key.size≤64) :
  Calls Tryz.prog 198 #[.string key,u8v x] w fun e w'=>e=.returned (.string (xorV key x))∧Below w.heap.size w w':=by
 have hmk:∀W:World,(Instr.makeSlice 122 (.int .i64 64) (.int .i64 64)).run Tryz.prog W=.ok (.slice (some ⟨W.heap.size,0,none⟩) 64 64) (W.alloc (.cells (List.replicate 64 (Value.int .u8 0)).toArray 5)):=run_mk (P:=Tryz.prog) Tryz.underlying122 info_u8 64 (by omega) (by omega);have hB0:Blk (w.alloc (.cells (List.replicate 64 (Value.int .u8 0)).toArray 5)) w.heap.size 5 (u8s (List.replicate 64 0)):=by rw [←u8s_zeros];exact Blk.new _ _ _
 have hBW:=b1 w (.cells (List.replicate 64 (Value.int .u8 0)).toArray 5);generalize hZ:(List.replicate 64 (Value.int .u8 0)).toArray=Z at hmk hB0 hBW;clear hZ;generalize hZ2:List.replicate 64 (0:UInt8)=Z2 at hB0;have HZ2:Hid (Z2.length=64):=by rw [Hid,←hZ2];simp
 clear hZ2;have HXV:Hid (∀a:UInt8,Value.int .u8 (bits .xor .u8 (a.toNat:Int) (x.toNat:Int))=u8v (a ^^^ x)):=fun a=>xor_u8v a x
 unfold u8v;go_enter Tryz.func198,Tryz.ntmps198
 go_wp2;go_loopw [6] (fun i wr=>∃(k:Nat) (l:List UInt8),k≤64∧i=.int .i64 k∧Hid (∀j,j<k→l[j]?=some (xb key x j))∧Hid (l.length=64)∧Blk wr w.heap.size 5 (u8s l)∧Below w.heap.size w wr) (fun i _=>64-(intOf i).toNat)
 case atStart=>exact ⟨0,Z2,by omega,rfl,fun j h=>absurd h (Nat.not_lt_zero _),HZ2,hB0,hBW⟩
 case round =>
  clear hB0 hBW hmk HZ2;obtain ⟨k,l,hk,rfl,HXB,HL,hb,hbr⟩:=hrel;by_cases hlt:k<64
  ·have HXS:Hid (∀(l:List UInt8) {y:UInt8},k<l.length→(∀j,j<k→l[j]?=some (xb key x j))→y=xb key x k→∀j,j<k+1→(l.set k y)[j]?=some (xb key x j)):=fun l y hk2 h hy j hj=>by
    rw [List.getElem?_set];by_cases e:k=j
    ·rw [if_pos e,if_pos hk2,hy,e]
    ·rw [if_neg e];exact h j (by omega)
   have hl:=hb.lt;have hc:wr.cell? ⟨w.heap.size,k,none⟩=some (u8v (l[k]'(by rw [HL.out];exact hlt))):=by rw [hb.cell];simp [u8s,HL.out,hlt]
   have hf:=hb.free k;by_cases hks:k<key.size
   ·go_wp2;go_roundw
    case rel =>
     refine ⟨k+1,(l.set k x).set k (key[k] ^^^ x),by omega,by go_num,HXS.out _ (by rw [List.length_set,HL.out];omega) (fun i hi=>by rw [List.getElem?_set_ne (by omega)];exact HXB.out i hi) (by rw [xb,Array.getD_eq_getD_getElem?,Array.getElem?_eq_getElem hks];rfl),by rw [Hid,List.length_set,List.length_set];exact HL.out,?_,(hbr.setCell (Nat.le_refl _) _).setCell (Nat.le_refl _) _⟩;have h:=(hb.set k (u8v x)).set k (u8v (key[k] ^^^ x));rw [u8s_set,u8s_set] at h;rw [HXV.out];exact h
    case measure=>simp [intOf];omega
   ·go_wp2;go_roundw
    case rel =>
     refine ⟨k+1,l.set k x,by omega,by go_num,HXS.out l (by rw [HL.out];omega) (fun i hi=>HXB.out i hi) (by rw [xb,Array.getD_eq_getD_getElem?,Array.getElem?_eq_none (by show key.size≤k;omega)];simp),by rw [Hid,List.length_set];exact HL.out,?_,hbr.setCell (Nat.le_refl _) _⟩;have h:=hb.set k (u8v x);rw [u8s_set] at h;exact h
    case measure=>simp [intOf];omega
  ·obtain rfl:k=64:=by omega
   have hr:Row wr w.heap.size 0 l:=hb.row;have hcv:=row_str (c:=64) hr;rw [HL.out] at hcv;go_wp2;go_ret
   have hle:l=(List.range 64).map (xb key x):=List.ext_getElem? fun j=>by
    by_cases hj:j<64
    ·rw [HXB.out j hj,List.getElem?_map,List.getElem?_range hj];rfl
    ·rw [List.getElem?_eq_none (by rw [HL.out];omega),List.getElem?_eq_none (by simp;omega)]
   exact ⟨by rw [xorV,←hle];rfl,hbr⟩
theorem mac1_v (key s:ByteArray) (w:World) (hk:key.size≤64) (hs:s.size≤900) :
  Calls Tryz.prog 185 #[.string key,.string s] w fun e w'=>e=.returned (.string (mac1 key s))∧Below w.heap.size w w':=by
 have hd:decide ((64:Int)<(key.size:Int))=false:=decide_eq_false (by omega);have HS:Hid (∀(s:ByteArray) (w:World),s.size≤1000→Calls Tryz.prog 197 #[.string s] w fun e w'=>e=.returned (.string (sumV s))∧Below w.heap.size w w'):=fun s w h=>sum_v s w h
 have HM:Hid (mac1 key s=sumV (xorV key 92++sumV (xorV key 54++s))):=rfl;have ha:=xorV_size key 92;have hb:=xorV_size key 54;go_enter Tryz.func185,Tryz.ntmps185
 go_wp2_with fail
 refine (xored_v key 92 _ hk).mono ?_;rintro e w2 ⟨rfl,hb2⟩;go_wp2_with fail
 refine (xored_v key 54 _ hk).mono ?_;rintro e w3 ⟨rfl,hb3⟩;generalize xorV key 92=a at ha HM ⊢;generalize xorV key 54=b at hb HM ⊢;have h1:¬ 9223372036854775807<b.size+s.size:=by omega
 have hbs:(b++s).size≤1000:=by rw [ByteArray.size_append];omega
 go_wp2_with fail
 refine (HS.out _ _ hbs).mono ?_;rintro e w4 ⟨rfl,hb4⟩;have hc:=sumV_size (b++s);generalize sumV (b++s)=c at hc HM ⊢;have h2:¬ 9223372036854775807<a.size+c.size:=by omega
 have hac:(a++c).size≤1000:=by rw [ByteArray.size_append];omega
 go_wp2_with fail
 refine (HS.out _ _ hac).mono ?_;rintro e w5 ⟨rfl,hb5⟩;go_wp2;go_ret
 exact ⟨by rw [HM.out];rfl,bt hb2 (bt hb3 (bt hb4 hb5))⟩
theorem mac_v (key s:ByteArray) (w:World) (hk:key.size≤1000) (hs:s.size≤900) :
  Calls Tryz.prog 185 #[.string key,.string s] w fun e w'=>e=.returned (.string (macV key s))∧Below w.heap.size w w':=by
 by_cases h64:64<key.size
 rotate_left
 ·rw [macV,if_neg h64];exact mac1_v key s w (by omega) hs
 have hd:decide ((64:Int)<(key.size:Int))=true:=decide_eq_true (by omega);have HS:Hid (∀(s:ByteArray) (w:World),s.size≤1000→Calls Tryz.prog 197 #[.string s] w fun e w'=>e=.returned (.string (sumV s))∧Below w.heap.size w w'):=fun s w h=>sum_v s w h
 have HM:Hid (macV key s=sumV (xorV (sumV key) 92++sumV (xorV (sumV key) 54++s))):=by rw [Hid,macV,if_pos h64];rfl
 have hk9:(sumV key).size≤64:=by rw [sumV_size];omega
 have ha:=xorV_size (sumV key) 92;have hb:=xorV_size (sumV key) 54;go_enter Tryz.func185,Tryz.ntmps185
 go_wp2_with fail
 refine (HS.out _ _ hk).mono ?_;rintro e w1 ⟨rfl,hb1⟩;generalize sumV key=key' at hk9 ha hb HM ⊢;go_wp2_with fail
 refine (xored_v key' 92 _ hk9).mono ?_;rintro e w2 ⟨rfl,hb2⟩;go_wp2_with fail
 refine (xored_v key' 54 _ hk9).mono ?_;rintro e w3 ⟨rfl,hb3⟩;generalize xorV key' 92=a at ha HM ⊢;generalize xorV key' 54=b at hb HM ⊢;have h1:¬ 9223372036854775807<b.size+s.size:=by omega
 have hbs:(b++s).size≤1000:=by rw [ByteArray.size_append];omega
 go_wp2_with fail
 refine (HS.out _ _ hbs).mono ?_;rintro e w4 ⟨rfl,hb4⟩;have hc:=sumV_size (b++s);generalize sumV (b++s)=c at hc HM ⊢;have h2:¬ 9223372036854775807<a.size+c.size:=by omega
 have hac:(a++c).size≤1000:=by rw [ByteArray.size_append];omega
 go_wp2_with fail
 refine (HS.out _ _ hac).mono ?_;rintro e w5 ⟨rfl,hb5⟩;go_wp2;go_ret
 exact ⟨by rw [HM.out];rfl,bt hb1 (bt hb2 (bt hb3 (bt hb4 hb5)))⟩
end
section
open Go.RowKit Go.Shelf
def decV (n:Nat):ByteArray:=⟨(Lib.decDigits n).toArray⟩
theorem dig_at:∀k:Fin 10,ByteArray.extract { data:=#[48,49,50,51,52,53,54,55,56,57] } k.val (k.val+1)=⟨#[UInt8.ofNat (48+k.val)]⟩:=by decide
theorem dig_eq (k:Nat) (h:k<10):ByteArray.extract { data:=#[48,49,50,51,52,53,54,55,56,57] } k (k+1)=⟨#[UInt8.ofNat (48+k)]⟩:=dig_at ⟨k,h⟩
theorem dig_size (k:Nat) (h:k<10):(ByteArray.extract { data:=#[48,49,50,51,52,53,54,55,56,57] } k (k+1)).size=1:=by rw [dig_eq k h];rfl
theorem dec_small (n:Nat) (h:n<10):decV n=ByteArray.extract { data:=#[48,49,50,51,52,53,54,55,56,57] } n (n+1):=by
 rw [dig_eq n h,decV,Lib.decDigits,dif_pos h]
theorem dec_big (n:Nat) (h:¬ n<10):decV n=decV (n / 10)++ByteArray.extract { data:=#[48,49,50,51,52,53,54,55,56,57] } (n%10) (n%10+1):=by
 rw [dig_eq (n%10) (by omega),decV,Lib.decDigits,dif_neg h];apply ByteArray.ext
 rw [ByteArray.data_append];apply Array.ext'
 simp [decV]
theorem dec_size (n:Nat):∀d,n<10^(d+1)→(decV n).size≤d+1:=by
 induction n using Nat.strongRecOn with
 | ind n ih =>
  intro d hd;by_cases h:n<10
  ·rw [dec_small n h,dig_size n h];omega
  ·rw [dec_big n h,ByteArray.size_append,dig_size _ (by omega)];cases d with
   | zero=>omega
   | succ d =>
    have:=ih (n / 10) (by omega) d (by rw [Nat.pow_succ] at hd;omega);omega
theorem decimal_v (n:Nat):∀(w:World),n<10^12→Calls Tryz.prog 186 #[.int .i64 (n:Int)] w fun e w'=>e=.returned (.string (decV n))∧Below w.heap.size w w':=by
 induction n using Nat.strongRecOn with
 | ind n ih =>
  intro w hn;by_cases h10:n<10
  ·have d1:decide ((n:Int)<0)=false:=decide_eq_false (by omega);have d2:decide ((n:Int)<10)=true:=decide_eq_true (by omega);have k1:(0:Int)≤(n:Int):=by omega
   have k2:(n:Int)≤(n:Int)+1:=by omega
   have k3:(n:Int)+1≤10:=by omega
   have HZ:=Lib.hid (dec_small n h10);clear ih h10 hn;go_enter Tryz.func186,Tryz.ntmps186
   go_wp2;go_ret
   exact ⟨by rw [HZ.out];rfl,Below.refl _ _⟩
  ·have d1:decide ((n:Int)<0)=false:=decide_eq_false (by omega);have d2:decide ((n:Int)<10)=false:=decide_eq_false (by omega);obtain ⟨q,hq⟩:∃q,q=n / 10:=⟨_,rfl⟩;obtain ⟨r,hr⟩:∃r,r=n%10:=⟨_,rfl⟩;have hqn:q<n:=by omega
   have HQ:Hid (q=n / 10):=hq;have hr10:r<10:=by omega
   have HZ:=Lib.hid (dig_size r hr10);have HBIG:Hid (decV n=decV q++ByteArray.extract { data:=#[48,49,50,51,52,53,54,55,56,57] } r (r+1)):=by rw [Hid,hq,hr];exact dec_big n h10
   have HSQ:=Lib.hid (dec_size q 12);have hq12:q<10^12:=by omega
   have e1:(n:Int) / 10=(q:Int):=by omega
   have e2:(n:Int)%10=(r:Int):=by omega
   have e3:(n:Int).tdiv 10=(q:Int):=by rw [Int.tdiv_eq_ediv_of_nonneg (by omega)];exact e1
   have e4:(n:Int).tmod 10=(r:Int):=by rw [Int.tmod_eq_emod_of_nonneg (by omega)];exact e2
   have k1:(0:Int)≤(r:Int):=by omega
   have k2:(r:Int)≤(r:Int)+1:=by omega
   have k3:(r:Int)+1≤10:=by omega
   have e5:IntKind.i64.wrap ((r:Int)+1)=(r:Int)+1:=IntWalk.i64_in _ (by omega);have e6:IntKind.i64.wrap (q:Int)=(q:Int):=IntWalk.i64_in _ (by omega);have HI:=Lib.hid (fun w=>ih q hqn w hq12);have h12:(10:Nat)^12=1000000000000:=by decide
   have HQ13:Hid (q<10^(12+1)):=Nat.lt_of_lt_of_le hq12 (by decide);rw [h12] at hn hq12;clear ih hq hr h12;go_enter Tryz.func186,Tryz.ntmps186
   go_wp2_with fail
   go_region_with (go_at_call 186;(with_reducible refine (HI.out _).mono ?_);rintro e w2 ⟨rfl,hb2⟩;have ht3:=HSQ.out HQ13.out;have hno:¬ 9223372036854775807<(decV q).size+(ByteArray.extract { data:=#[48,49,50,51,52,53,54,55,56,57] } r (r+1)).size:=(by have:=HZ.out;omega))
   all_goals
    go_wp2;go_ret
    exact ⟨by rw [HBIG.out];rfl,(Below.drew (Below.refl _ _)).trans hb2⟩
def strLen:Value→Nat | .string t=>t.size | _=>0
def canonV (s:ByteArray):ByteArray:=⟨(s.data.toList.dropWhile (·==0)).toArray⟩
theorem toList_cons (s:ByteArray) (h:0<s.size):s.data.toList=s[0] :: (s.extract 1 s.size).data.toList:=by
 obtain ⟨⟨l⟩⟩:=s;cases l with
 | nil=>exact absurd h (by simp [ByteArray.size])
 | cons a l =>
  rw [ByteArray.data_extract,Array.toList_extract];show a :: l=a :: List.extract (a :: l) 1 ((a :: l).length);rw [List.extract_eq_take_drop,List.drop_one,List.tail_cons,List.length_cons,Nat.add_sub_cancel,List.take_length]
theorem canon_zero (s:ByteArray) (h:0<s.size) (h0:s[0].toNat=0):canonV s=canonV (s.extract 1 s.size):=by
 have e:s[0]=0:=UInt8.toNat_inj.1 h0;unfold canonV;rw [toList_cons s h,List.dropWhile_cons,if_pos (by rw [e];rfl)]
theorem canon_stop (s:ByteArray) (h:0<s.size) (h0:s[0].toNat≠0):canonV s=s:=by
 unfold canonV;conv=>lhs;rw [toList_cons s h]
 rw [List.dropWhile_cons,if_neg (by intro e;exact h0 (by rw [eq_of_beq e];rfl)),←toList_cons s h]
theorem canonical_v (s:ByteArray) (w:World) (hs:s.size≤128) :
  Calls Tryz.prog 187 #[.string s] w fun e w'=>e=.returned (.string (canonV s))∧vldB (canonV s)=true∧(canonV s).size≤s.size∧w'=w:=by
 go_enter Tryz.func187,Tryz.ntmps187
 go_wp2;go_loop [0] (fun v=>∃t:ByteArray,v=.string t∧Hid (canonV t=canonV s)∧t.size≤s.size) (fun v=>strLen v)
 case atStart=>exact ⟨s,rfl,rfl,Nat.le_refl _⟩
 case round =>
  obtain ⟨t,rfl,HCV,ht⟩:=hrel;by_cases h0:t.size=0
  ·obtain rfl:t=ByteArray.empty:=by apply ByteArray.ext;apply Array.eq_empty_of_size_eq_zero;exact h0
   go_wp2;go_ret
   exact ⟨by rw [←HCV.out];rfl,by rw [←HCV.out];exact vldB_empty,by rw [←HCV.out];exact ht,rfl⟩
  ·have hp:0<t.size:=by omega
   have HV:=Lib.hid (vldB_pos hp (by omega));have hi:(0:Int)≤1:=by omega
   have hj:(1:Int)≤(t.size:Int):=by omega
   by_cases hx:(t[0].toNat:Int)=0
   ·have hb:((t[0].toNat:Int)==0)=true:=by simp [hx]
    have HCZ:=Lib.hid (canon_zero t hp (by omega));clear hx;go_wp2;go_round
    case rel=>exact ⟨t.extract 1 t.size,rfl,by rw [Hid,←HCZ.out];exact HCV.out,by rw [ByteArray.size_extract];omega⟩
    case measure=>simp [strLen,ByteArray.size_extract];omega
   ·have hb:((t[0].toNat:Int)==0)=false:=by rw [beq_eq_false_iff_ne];exact hx
    have HX:=Lib.hid hx;have HCS:Hid (canonV s=t):=by rw [Hid,←HCV.out];exact canon_stop t hp (by omega)
    clear hx;go_wp2;go_ret
    exact ⟨by rw [HCS.out];rfl,by rw [HCS.out,HV.out,bne_iff_ne];exact HX.out,by rw [HCS.out];exact ht,rfl⟩
end
section
open Go.RowKit Go.Shelf
def nmV (p a b:Nat):ByteArray:=decV p++(⟨#[46]⟩:ByteArray)++decV a++(⟨#[46]⟩:ByteArray)++decV b
def blV (seed:ByteArray) (p a:Nat):Nat→ByteArray
 | 0=>⟨#[]⟩
 | m+1=>blV seed p a m++macV seed (nmV p a m)
theorem blV_size (seed:ByteArray) (p a m:Nat):(blV seed p a m).size=32*m:=by
 induction m with
 | zero=>rfl
 | succ m ih=>show (blV seed p a m++macV seed (nmV p a m)).size=_;rw [ByteArray.size_append,ih,macV_size];omega
def attT (seed:ByteArray) (p a n:Nat):ByteArray:=
 canonV ((⟨#[UInt8.ofNat (byt (blV seed p a (((n+7) / 8+31) / 32)) 0%2^(8-(8*((n+7) / 8)-n)))]⟩:ByteArray)++(blV seed p a (((n+7) / 8+31) / 32)).extract 1 ((n+7) / 8))
theorem half_ge {x y q:Nat} (h0:0<q) (h:y=x%(2*q)) (hq:q≤y):y-q=x%q:=by
 have h1:x%q=y%q:=by rw [h,Nat.mod_mod_of_dvd _ (Nat.dvd_mul_left q 2)]
 have h2:=Nat.mod_lt x (show 0<2*q by omega);rw [h1,Nat.mod_eq_sub_mod hq,Nat.mod_eq_of_lt (by omega)]
theorem half_lt {x y q:Nat} (h0:0<q) (h:y=x%(2*q)) (hq:y<q):y=x%q:=by
 have h1:x%q=y%q:=by rw [h,Nat.mod_mod_of_dvd _ (Nat.dvd_mul_left q 2)]
 rw [h1,Nat.mod_eq_of_lt hq]
theorem rattempt_v (seed:ByteArray) (p a n:Nat) (w:World) (hk:seed.size≤1000) (h1:p≤2147483647) (h2:a<256) (h3:1≤n) (h4:n≤512) :
  Calls Tryz.prog 165 #[.string seed,.int .i64 (p:Int),.int .i64 (a:Int),.int .i64 (n:Int)] w fun e w'=>e=.returned (.string (attT seed p a n))∧Below w.heap.size w w':=by
 have HM:Hid (∀(s:ByteArray) (w:World),s.size≤900→Calls Tryz.prog 185 #[.string seed,.string s] w fun e w'=>e=.returned (.string (macV seed s))∧Below w.heap.size w w'):=fun s w h=>mac_v seed s w hk h
 have HD:Hid (∀(n:Nat) (w:World),n≤2147483647→Calls Tryz.prog 186 #[.int .i64 (n:Int)] w fun e w'=>e=.returned (.string (decV n))∧Below w.heap.size w w'):=fun n w h=>decimal_v n w (by omega)
 have HDS:Hid (∀n,n≤2147483647→(decV n).size≤10):=fun n h=>dec_size n 9 (by omega)
 have HC:Hid (∀(s:ByteArray) (w:World),s.size≤128→Calls Tryz.prog 187 #[.string s] w fun e w'=>e=.returned (.string (canonV s))∧vldB (canonV s)=true∧(canonV s).size≤s.size∧w'=w):=fun s w h=>canonical_v s w h
 obtain ⟨z,hz⟩:∃z,z=(n+7) / 8:=⟨_,rfl⟩;have hz1:1≤z:=by omega
 have hz2:z≤64:=by omega
 have hz3:n≤8*z:=by omega
 have hz4:8*z<n+8:=by omega
 have e1:((n:Int)+7) / 8=(z:Int):=by omega
 have e2:((n:Int)+7).tdiv 8=(z:Int):=by rw [Int.tdiv_eq_ediv_of_nonneg (by omega)];exact e1
 have HAT:Hid (attT seed p a n=canonV ((⟨#[UInt8.ofNat (byt (blV seed p a ((z+31) / 32)) 0%2^(8-(8*z-n)))]⟩:ByteArray)++(blV seed p a ((z+31) / 32)).extract 1 z)):=by rw [Hid,hz];rfl
 have hn8:n≤8*z:=hz3;clear hz;go_enter Tryz.func165,Tryz.ntmps165
 go_wp2;go_loopw [10,11] (fun v i wr=>∃(t:ByteArray) (b:Nat),v=.string t∧i=.int .i64 (b:Int)∧Hid (t=blV seed p a b)∧Hid (b=0∨32*(b-1)<z)∧t.size=32*b∧b≤2∧Below w.heap.size w wr) (fun v _ _=>z-strLen v)
 case atStart=>exact ⟨_,0,rfl,rfl,rfl,.inl rfl,rfl,by omega,Below.refl _ _⟩
 case round =>
  obtain ⟨t,b,rfl,rfl,HTV,HBM,ht,hb2,hbr⟩:=hrel;obtain ⟨wp,hwp⟩:∃wp,wp=wr:=⟨_,rfl⟩;subst hwp;by_cases hlt:t.size<z
  ·have hd:decide ((t.size:Int)<(z:Int))=true:=decide_eq_true (by omega);have hb1:b≤1:=by omega
   go_wp2_with fail
   refine (HD.out p _ (by omega)).mono ?_;rintro e wa ⟨rfl,hba⟩;have hd1:=HDS.out p (by omega);obtain ⟨d1,hdd1⟩:∃d,d=decV p:=⟨_,rfl⟩;rw [←hdd1] at hd1 ⊢;have HDD1:=Lib.hid hdd1;clear hdd1;have q1:¬ 9223372036854775807<d1.size+1:=by omega
   go_wp2_with fail
   refine (HD.out a _ (by omega)).mono ?_;rintro e wb ⟨rfl,hbb⟩;have hd2:=HDS.out a (by omega);obtain ⟨d2,hdd2⟩:∃d,d=decV a:=⟨_,rfl⟩;rw [←hdd2] at hd2 ⊢;have HDD2:=Lib.hid hdd2;clear hdd2;have q2:¬ 9223372036854775807<d1.size+1+d2.size:=by omega
   have q3:¬ 9223372036854775807<d1.size+1+d2.size+1:=by omega
   go_wp2_with fail
   refine (HD.out b _ (by omega)).mono ?_;rintro e wc ⟨rfl,hbc⟩;have hd3:=HDS.out b (by omega);obtain ⟨d3,hdd3⟩:∃d,d=decV b:=⟨_,rfl⟩;rw [←hdd3] at hd3 ⊢;have HDD3:=Lib.hid hdd3;clear hdd3;have q4:¬ 9223372036854775807<d1.size+1+d2.size+1+d3.size:=by omega
   have HSZ:Hid ((d1++(⟨#[46]⟩:ByteArray)++d2++(⟨#[46]⟩:ByteArray)++d3).size≤900):=by
    rw [Hid,ByteArray.size_append,ByteArray.size_append,ByteArray.size_append,ByteArray.size_append];show d1.size+1+d2.size+1+d3.size≤900;omega
   go_wp2_with fail
   refine (HM.out _ _ HSZ.out).mono ?_;rintro e wd ⟨rfl,hbd⟩;have hu:=macV_size seed (d1++(⟨#[46]⟩:ByteArray)++d2++(⟨#[46]⟩:ByteArray)++d3);have HTN:Hid (t++macV seed (d1++(⟨#[46]⟩:ByteArray)++d2++(⟨#[46]⟩:ByteArray)++d3)=blV seed p a (b+1)):=by rw [Hid,HTV.out,HDD1.out,HDD2.out,HDD3.out];rfl
   generalize macV seed (d1++(⟨#[46]⟩:ByteArray)++d2++(⟨#[46]⟩:ByteArray)++d3)=u at hu HTN ⊢;have q5:¬ 9223372036854775807<t.size+u.size:=by omega
   clear HSZ q1 q2 q3 q4;go_wp2;go_roundw
   case rel=>exact ⟨t++u,b+1,rfl,by go_num,HTN.out,.inr (by rw [Nat.add_sub_cancel,←ht];exact hlt),by rw [ByteArray.size_append];omega,by omega,bt hbr (bt hba (bt hbb (bt hbc hbd)))⟩
   case measure=>simp [strLen,ByteArray.size_append];omega
  ·have hd:decide ((t.size:Int)<(z:Int))=false:=decide_eq_false (by omega);have hp:0<t.size:=by omega
   have hwb:=wb t[0];have hlt0:=t[0].toNat_lt;have HTE:Hid (b=(z+31) / 32):=by rw [Hid];rcases HBM.out with h | h <;> omega
   have HT0:Hid (byt t 0=t[0].toNat):=(byt_at t 0 hp).symm;generalize hx:t[0].toNat=x at hwb hlt0 HT0;have HX:=Lib.hid hx;clear hx;obtain ⟨r,hr⟩:∃r,r=8*z-n:=⟨_,rfl⟩;have hr7:r≤7:=by omega
   have er:(8:Int)*(z:Int)-(n:Int)=(r:Int):=by omega
   have HR8:Hid (8*z-n=r):=hr.symm;clear hr;go_wp2;go_loopw [12,13] (fun f i wr=>∃(y m:Nat),f=.int .i64 (y:Int)∧Hid (y=x%2^(m+1))∧y≤255∧i=.int .i64 (m:Int)∧7-r≤m∧m≤7∧wr=wp) (fun _ i _=>(intOf i).toNat)
   case atStart=>exact ⟨x,7,by rw [HX.out,hwb],by rw [Hid,Nat.mod_eq_of_lt (by omega)],by omega,rfl,by omega,by omega,rfl⟩
   case round =>
    obtain ⟨y,m,rfl,HY,hy,rfl,hm1,hm2,hwr⟩:=hrel;subst hwr;obtain ⟨wq,hwq⟩:∃wq,wq=wr:=⟨_,rfl⟩;subst hwq;by_cases hj0:8-r≤m
    ·have hm0:1≤m:=by omega
     have hd1:decide (8-(r:Int)≤(m:Int))=true:=decide_eq_true (by omega)
     have hsh:∃q:Nat,(2:Int)^m=(q:Int)∧(2:Nat)^m=q∧q≤128∧(1:Int)*2^m=(q:Int):=by
      refine ⟨2^m,by simp,rfl,Nat.le_trans (Nat.pow_le_pow_right (by decide) hm2) (by decide),by simp⟩
     obtain ⟨q,eq1,eq2,hq,eq3⟩:=hsh;have HYQ:Hid (y=x%(2*q)):=by rw [Hid,HY.out,Nat.pow_succ,eq2,Nat.mul_comm]
     have HQM:Hid (2^(m-1+1)=q):=by rw [Hid,show m-1+1=m by omega];exact eq2
     have hq0:0<q:=by rw [←eq2];exact Nat.two_pow_pos m
     have HQ0:=Lib.hid hq0;clear eq2 hq0;by_cases hyq:q≤y
     ·go_wp2;go_roundw
      case rel=>exact ⟨y-q,m-1,vi (by omega),by rw [Hid,HQM.out];exact half_ge HQ0.out HYQ.out hyq,by omega,vi (by omega),by omega,by omega,trivial⟩
      case measure=>simp [intOf];omega
     ·go_wp2;go_roundw
      case rel=>exact ⟨y,m-1,rfl,by rw [Hid,HQM.out];exact half_lt HQ0.out HYQ.out (by omega),by omega,vi (by omega),by omega,by omega,trivial⟩
      case measure=>simp [intOf];omega
    ·have hd1:decide (8-(r:Int)≤(m:Int))=false:=decide_eq_false (by omega);have hw8:IntKind.u8.wrap (y:Int)=(y:Int):=by show ((y:Int)%256)=y;omega
     have hB1:Blk (wq.alloc (.cells #[.int .u8 (y:Int)] 5)).drew wq.heap.size 5 (u8s [UInt8.ofNat y]):=by
      have h:=(Blk.new wq #[.int .u8 (y:Int)] 5).drew
      have e:u8s [UInt8.ofNat y]=[.int .u8 (y:Int)]:=by
       show [Value.int .u8 ((UInt8.ofNat y).toNat:Int)]=_;rw [UInt8.toNat_ofNat',Nat.mod_eq_of_lt (by omega)]
      rw [e];exact h
     obtain ⟨u,hu,hue,hcv⟩:∃u:ByteArray,u.size=1∧u=⟨#[UInt8.ofNat y]⟩∧(convert 122 9 (.slice (some ⟨wq.heap.size,0,none⟩) 1 1)).run Tryz.prog (wq.alloc (.cells #[.int .u8 (y:Int)] 5)).drew=.ok (.string u) (wq.alloc (.cells #[.int .u8 (y:Int)] 5)).drew:=⟨_,rfl,rfl,row_str (l:=[UInt8.ofNat y]) (c:=1) hB1.row⟩;have hbW:=(ba hbr (.cells #[.int .u8 (y:Int)] 5)).drew
     have HUE:Hid (attT seed p a n=canonV (u++t.extract 1 z)):=by
      have hm7:m+1=8-r:=by omega
      rw [Hid,HAT.out,←HTE.out,←HTV.out,HT0.out,HR8.out,hue,HY.out,hm7]
     clear hue;have f1:(0:Int)≤1:=by omega
     have f2:(1:Int)≤(z:Int):=by omega
     have f3:(z:Int)≤(t.size:Int):=by omega
     have HSZ:Hid ((u++t.extract 1 z).size≤64):=by rw [Hid,ByteArray.size_append,ByteArray.size_extract];omega
     have q1:¬ 9223372036854775807<u.size+(t.extract 1 z).size:=by rw [ByteArray.size_extract];omega
     clear hB1 HM HD hm1 hm2 hwb;go_wp2_with fail
     go_region_with (go_at_call 187;(with_reducible refine (HC.out _ _ (by have:=HSZ.out;omega)).mono ?_);rintro e wx ⟨rfl,hv1,hv2,rfl⟩)
     all_goals
      go_wp2;go_ret
      exact ⟨by rw [HUE.out];rfl,hbW⟩
end
section
/- squarerange.Prepare. -/
open Go.RowKit Go.Shelf
end
section
/- coins.Values;the key of law 27. -/
open Go.RowKit Go.Shelf
end
section
open Go.RowKit Go.Shelf
theorem sameTp_c (T:Tp) (u v:Value) (w:World) (hn:T.vals.length≤1000) (hA:SsAt w u T.vals) (hB:SsAt w v T.vals) :
  Calls Tryz.prog 22 #[.agg #[u,.string T.seed,.int .i64 T.pos],.agg #[v,.string T.seed,.int .i64 T.pos]] w fun e w'=>e=.returned (.bool true)∧Below w.heap.size w w':=by
 obtain ⟨ao,c,rfl⟩:=RAt.form hA;obtain ⟨bo,d,rfl⟩:=RAt.form hB;obtain ⟨V,sd,ti⟩:=T;simp only [] at hn hA hB ⊢;obtain ⟨n,hLn⟩:∃n,V.length=n:=⟨_,rfl⟩;have HLN:=Lib.hid hLn;rw [hLn] at hA hB hn ⊢;clear hLn;have hP:=blk2a w #[.slice ao n c,.string sd,.int .i64 ti] #[.slice bo n d,.string sd,.int .i64 ti] 42 42;have hQ:=blk2b w #[.slice ao n c,.string sd,.int .i64 ti] #[.slice bo n d,.string sd,.int .i64 ti] 42 42;have hBW:=b2 w (.cells #[.slice ao n c,.string sd,.int .i64 ti] 42) (.cells #[.slice bo n d,.string sd,.int .i64 ti] 42);replace hA:=SsAt.after hA hBW;replace hB:=SsAt.after hB hBW;have e0:(ti != ti)=false:=by simp
 have e2:((n:Int) != (n:Int))=false:=by simp
 have e3:(sd.toList != sd.toList)=false:=by simp
 obtain ⟨hPc0,hPf0,hPc1,hPf1,hPc2,hPf2⟩:=hP.x3;obtain ⟨hQc0,hQf0,hQc1,hQf1,hQc2,hQf2⟩:=hQ.x3;go_enter Tryz.func22,Tryz.ntmps22
 go_wp2;clear hPc0 hPf0 hPc1 hPf1 hPc2 hPf2;clear hQc0 hQf0 hQc1 hQf1 hQc2 hQf2;generalize (w.alloc (.cells #[.slice ao n c,.string sd,.int .i64 ti] 42)).alloc (.cells #[.slice bo n d,.string sd,.int .i64 ti] 42)=w1 at hP hQ hA hB hBW ⊢;obtain ⟨gP,hgP⟩:∃g,w.heap.size=g:=⟨_,rfl⟩;obtain ⟨gQ,hgQ⟩:∃g,w.heap.size+1=g:=⟨_,rfl⟩;rw [hgQ,hgP];rw [hgP] at hP;rw [hgQ] at hQ;clear hgP hgQ e0 e2 e3;replace hP:Blk w1 gP 42 [.slice ao n c,.string sd,.int .i64 ti]:=hP;replace hQ:Blk w1 gQ 42 [.slice bo n d,.string sd,.int .i64 ti]:=hQ;go_loopw [5] (fun i wr=>∃k:Nat,k≤n∧i=.int .i64 k∧Below w1.heap.size w1 wr) (fun i _=>n-(intOf i).toNat)
 case atStart=>exact ⟨0,by omega,rfl,Below.refl _ _⟩
 case round =>
  obtain ⟨k,hk,rfl,hbr⟩:=hrel;obtain ⟨wp,hwp⟩:∃wp,wp=wr:=⟨_,rfl⟩;subst hwp;replace hA:=SsAt.after hA hbr;replace hB:=SsAt.after hB hbr;replace hP:=hP.after hbr;replace hQ:=hQ.after hbr;by_cases hlt:k<n
  ·have hkl:k<V.length:=by rw [HLN.out];exact hlt
   obtain ⟨b,o,rfl,l1,x1⟩:=SsAt.at_ hA hkl;obtain ⟨b',o',rfl,l2,y1⟩:=SsAt.at_ hB hkl;generalize V[k]'hkl=z at x1 y1;have h0k:(0:Int)≤(k:Int):=by omega
   have h1k:(k:Int)<(n:Int):=by omega
   have g1:=gcl (a:=⟨b,o+k,none⟩) l1 x1;have g2:=gcl (a:=⟨b',o'+k,none⟩) l2 y1;have z1:(z.toList != z.toList)=false:=by simp
   clear x1 y1 hA hB;obtain ⟨hPc0,hPf0,hPc1,hPf1,hPc2,hPf2⟩:=hP.x3;obtain ⟨hQc0,hQf0,hQc1,hQf1,hQc2,hQf2⟩:=hQ.x3;have hPg0:=hP.gcell 0;have hPg1:=hP.gcell 1;have hPg2:=hP.gcell 2;have hQg0:=hQ.gcell 0;have hQg1:=hQ.gcell 1;have hQg2:=hQ.gcell 2;go_upto_region 6 with fail
   go_wp2_with fail
   refine wp_region_gw (by kernel_rfl) (by kernel_rfl) ?_;repeat (go_big_quiet_step (first | (fail)))
   refine wpQuiet_nil ?_;rintro w2 ⟨xw2,rfl⟩;have hb2:=gw_below xw2;generalize gw xw2=w2 at hb2;go_wp2;go_roundw
   case rel=>exact ⟨k+1,by omega,by go_num,bt hbr hb2⟩
   case measure=>simp [intOf];omega
  ·obtain rfl:k=n:=by omega
   obtain ⟨hPc0,hPf0,hPc1,hPf1,hPc2,hPf2⟩:=hP.x3;go_wp2;go_ret
   exact ⟨rfl,bt hBW hbr⟩
end
end Go.Proofs.YtdoacbdkbbpamaaGreatDoor
