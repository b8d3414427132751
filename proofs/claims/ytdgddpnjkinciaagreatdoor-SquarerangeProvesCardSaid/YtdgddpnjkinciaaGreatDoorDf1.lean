import Derived.Test.YtdgddpnjkinciaaGreatDoorTap
import Derived.Lib.ItoaNum
set_option linter.all false
set_option maxRecDepth 100000
set_option maxHeartbeats 16000000
namespace Go.Proofs.YtdgddpnjkinciaaGreatDoor
section
open Go.RowKit Go.Shelf
end
section
open Go.RowKit Go.Shelf
def zb (k:Nat):ByteArray:=⟨(List.replicate k 0).toArray⟩
def be8L (q:Nat):List UInt8:=(List.range 8).map fun j=>UInt8.ofNat (q / 256^(7-j)%256)
def zc (n:Nat):Nat:=(119-n%64)%64
def padV (s:ByteArray):ByteArray:=s++(⟨#[128]⟩:ByteArray)++zb (zc s.size)++(⟨(be8L (s.size*8)).toArray⟩:ByteArray)
theorem zb_size (k:Nat):(zb k).size=k:=by simp[zb,ByteArray.size]
theorem be8_len (q:Nat):(be8L q).length=8:=by simp[be8L]
theorem padV_size (s:ByteArray):(padV s).size=64*(s.size / 64+(if s.size%64≤55 then 1 else 2)):=by
 unfold padV;rw[ByteArray.size_append,ByteArray.size_append,ByteArray.size_append,zb_size];show s.size+1+zc s.size+(be8L (s.size*8)).toArray.size=_;rw[List.size_toArray,be8_len,zc];split <;> omega
theorem xor_u8v (a b:UInt8):Value.int .u8 (bits .xor .u8 (a.toNat:Int) (b.toNat:Int))=u8v (a ^^^ b):=by
 rw[u8_xor_nat _ _ a.toNat_lt b.toNat_lt,u8v,UInt8.toNat_xor]
theorem row_str {w:World} {b o c:Nat} {l:List UInt8} (h:Row w b o l) :
  (convert 137 9 (.slice (some ⟨b,o,none⟩) l.length c)).run Tryz.prog w=.ok (.string ⟨l.toArray⟩) w:=by
 have:=Lib.run_convert_whole (P:=Tryz.prog) w 137 5 9 Tryz.underlying137 Tryz.underlying5 Tryz.underlying9 b o ⟨l.toArray⟩ h.bytes c;simpa [ByteArray.size] using this
end
section
open Go.RowKit Go.Shelf
theorem byteZ (z:Int):Value.int .u8 (z%256)=u8v (UInt8.ofNat (z%256).toNat):=by
 have h1:=Int.emod_nonneg z (show (256:Int)≠0 by decide);have h2:=Int.emod_lt_of_pos z (show (0:Int)<256 by decide);unfold u8v;rw[UInt8.toNat_ofNat',Nat.mod_eq_of_lt (by omega),Int.toNat_of_nonneg h1]
def BOwn (w:World) (base:Nat) (v:Value) (l:List UInt8):Prop:=w.ownsRow base 5 1 v l.length (u8s l)
def stHN (m:ByteArray):Nat→Nat→Int
 | 0=>iC
 | k+1=>cmp (stHN m k) (m.extract (64*k) (64*k+64))
def w4 (x:Int):List UInt8:=[UInt8.ofNat (x / 16777216%256).toNat,UInt8.ofNat (x / 65536%256).toNat,UInt8.ofNat (x / 256%256).toNat,UInt8.ofNat (x%256).toNat]
def wL (F:Nat→Int):Nat→List UInt8
 | 0=>[]
 | k+1=>wL F k++w4 (F k)
theorem wL_len (F:Nat→Int) (k:Nat):(wL F k).length=4*k:=by
 induction k with
 | zero=>rfl
 | succ k ih=>show (wL F k++w4 (F k)).length=_;rw[List.length_append,ih];show 4*k+4=_;omega
def sumV (s:ByteArray):ByteArray:=⟨(wL (stHN (padV s) ((padV s).size / 64)) 8).toArray⟩
theorem sumV_size (s:ByteArray):(sumV s).size=32:=by
 show (wL _ 8).toArray.size=32;rw[List.size_toArray,wL_len]
end
section
open Go.RowKit Go.Shelf
def xb (key:ByteArray) (x:UInt8) (j:Nat):UInt8:=(key.data.getD j 0) ^^^ x
def xorV (key:ByteArray) (x:UInt8):ByteArray:=⟨((List.range 64).map (xb key x)).toArray⟩
theorem xorV_size (key:ByteArray) (x:UInt8):(xorV key x).size=64:=by simp[xorV,ByteArray.size]
def mac1 (key s:ByteArray):ByteArray:=sumV (xorV key 92++sumV (xorV key 54++s))
def macV (key s:ByteArray):ByteArray:=mac1 (if 64<key.size then sumV key else key) s
theorem macV_size (key s:ByteArray):(macV key s).size=32:=sumV_size _
end
section
open Go.RowKit Go.Shelf
def decV (n:Nat):ByteArray:=⟨(Lib.decDigits n).toArray⟩
theorem dig_at:∀k:Fin 10,ByteArray.extract { data:=#[48,49,50,51,52,53,54,55,56,57] } k.val (k.val+1)=⟨#[UInt8.ofNat (48+k.val)]⟩:=by decide
theorem dig_eq (k:Nat) (h:k<10):ByteArray.extract { data:=#[48,49,50,51,52,53,54,55,56,57] } k (k+1)=⟨#[UInt8.ofNat (48+k)]⟩:=dig_at ⟨k,h⟩
theorem dig_size (k:Nat) (h:k<10):(ByteArray.extract { data:=#[48,49,50,51,52,53,54,55,56,57] } k (k+1)).size=1:=by rw[dig_eq k h];rfl
theorem dec_small (n:Nat) (h:n<10):decV n=ByteArray.extract { data:=#[48,49,50,51,52,53,54,55,56,57] } n (n+1):=by
 rw[dig_eq n h,decV,Lib.decDigits,dif_pos h]
theorem dec_big (n:Nat) (h:¬ n<10):decV n=decV (n / 10)++ByteArray.extract { data:=#[48,49,50,51,52,53,54,55,56,57] } (n%10) (n%10+1):=by
 rw[dig_eq (n%10) (by omega),decV,Lib.decDigits,dif_neg h];apply ByteArray.ext
 rw[ByteArray.data_append];apply Array.ext'
 simp[decV]
theorem dec_size (n:Nat):∀d,n<10^(d+1)→(decV n).size≤d+1:=by
 induction n using Nat.strongRecOn with
 | ind n ih =>
  intro d hd;by_cases h:n<10
  ·rw[dec_small n h,dig_size n h];omega
  ·rw[dec_big n h,ByteArray.size_append,dig_size _ (by omega)];cases d with
   | zero=>omega
   | succ d =>
    have:=ih (n / 10) (by omega) d (by rw[Nat.pow_succ]at hd;omega);omega
def canonV (s:ByteArray):ByteArray:=⟨(s.data.toList.dropWhile (·==0)).toArray⟩
theorem toList_cons (s:ByteArray) (h:0<s.size):s.data.toList=s[0] :: (s.extract 1 s.size).data.toList:=by
 obtain⟨⟨l⟩⟩:=s;cases l with
 | nil=>exact absurd h (by simp[ByteArray.size])
 | cons a l =>
  rw[ByteArray.data_extract,Array.toList_extract];show a :: l=a :: List.extract (a :: l) 1 ((a :: l).length);rw[List.extract_eq_take_drop,List.drop_one,List.tail_cons,List.length_cons,Nat.add_sub_cancel,List.take_length]
theorem canon_zero (s:ByteArray) (h:0<s.size) (h0:s[0].toNat=0):canonV s=canonV (s.extract 1 s.size):=by
 have e:s[0]=0:=UInt8.toNat_inj.1 h0;unfold canonV;rw[toList_cons s h,List.dropWhile_cons,if_pos (by rw[e];rfl)]
theorem canon_stop (s:ByteArray) (h:0<s.size) (h0:s[0].toNat≠0):canonV s=s:=by
 unfold canonV;conv=>lhs;rw[toList_cons s h]
 rw[List.dropWhile_cons,if_neg (by intro e;exact h0 (by rw[eq_of_beq e];rfl)),←toList_cons s h]
end
section
open Go.RowKit Go.Shelf
theorem sameNats_c (A B:List Nat) (u v:Value) (w:World) (ha:A.length≤1000) (hb:B.length≤1000) (hA:SsAt w u (A.map E)) (hB:SsAt w v (B.map E)) :
  Calls Tryz.prog 19 #[u,v] w fun e w'=>e=.returned (.bool (decide (A=B)))∧Bw w w':=by
 obtain⟨r,hr⟩:∃r:Bool,r=decide (A=B):=⟨_,rfl⟩;have hc:=Kh hr;rw[←hr];clear hr;obtain⟨a1,c1,e1⟩:=RAt.form hA;obtain⟨a2,c2,e2⟩:=RAt.form hB;rw[List.length_map]at e1 e2;obtain⟨n,hn⟩:∃n,n=A.length:=⟨_,rfl⟩;obtain⟨m,hm⟩:∃n,n=B.length:=⟨_,rfl⟩;have HN:=Kh hn;have HM:=Kh hm;rw[←hn]at e1 ha;rw[←hm]at e2 hb;subst e1 e2;clear hn hm;by_cases hh:n=m
 ·subst hh;have hx1:((n:Int) != (n:Int))=false:=by simp
  go_enter Tryz.func19,Tryz.ntmps19
  go_wp2;go_loopw [5] (fun i wr=>∃k:Nat,k≤n∧i=.int .i64 k∧Hid (∀j,j<k→A[j]?=B[j]?)∧Bw w wr) (fun i _=>n-(intOf i).toNat)
  case atStart=>exact⟨0,by omega,rfl,fun j h=>absurd h (Nat.not_lt_zero _),Br⟩
  case round =>
   obtain⟨k,hk,rfl,HA,hd⟩:=hrel;obtain⟨wp,hp⟩:∃wp,wp=wr:=⟨_,rfl⟩;subst hp;replace hA:=SsAt.after hA hd;replace hB:=SsAt.after hB hd;by_cases hlt:k<n
   ·have hf:k<A.length:=by rw[←HN.out];exact hlt
    have hg:k<B.length:=by rw[←HM.out];exact hlt
    obtain⟨b,o,rfl,hq,x1⟩:=SsAt.at_ hA (show k<(A.map E).length by simpa using hf);obtain⟨b',o',rfl,hi,y1⟩:=SsAt.at_ hB (show k<(B.map E).length by simpa using hg);simp only[List.getElem_map]at x1 y1;have hl:Hid (A[k]?=some (A[k]'hf)):=List.getElem?_eq_getElem hf;have ho:Hid (B[k]?=some (B[k]'hg)):=List.getElem?_eq_getElem hg;generalize (A[k]'hf)=xa at x1 hl;generalize (B[k]'hg)=xb at y1 ho;have ht:(0:Int)≤(k:Int):=by omega
    have hu:(k:Int)<(n:Int):=by omega
    have g1:=gcl (a:=⟨b,o+k,none⟩) hq x1;have g2:=gcl (a:=⟨b',o'+k,none⟩) hi y1;by_cases hx:xa=xb
    ·have h1:=eqT hx;have h2:=eqE hx
     have HX:Hid (∀j,j<k+1→A[j]?=B[j]?):=fun j hj=>by
      by_cases e:j=k
      ·rw[e,hl.out,ho.out,hx]
      ·exact HA.out j (by omega)
     clear hx;go_wp2_with fail
     refine wp_region_gw (by kernel_rfl) (by kernel_rfl) ?_;repeat (go_big_quiet_step (first | (fail)))
     refine wpQuiet_nil ?_;rintro w5 ⟨xw5,rfl⟩;have he:=gw_below xw5;generalize gw xw5=w5 at he;go_wp2;go_roundw
     case rel=>exact⟨k+1,by omega,by go_num,HX,bt hd he⟩
     case measure=>simp[intOf];omega
    ·have h1:=eqF hx;have h2:=neE hx
     have HF:Hid (r=false):=by
      rw[Hid,hc.out];exact decide_eq_false (fun e=>hx (by have h3:=hl.out;rw[e,ho.out]at h3;exact (Option.some.inj h3).symm))
     clear hx;go_wp2_with fail
     refine wp_region_gw (by kernel_rfl) (by kernel_rfl) ?_;repeat (go_big_quiet_step (first | (fail)))
     refine wpQuiet_nil ?_;rintro w5 ⟨xw5,rfl⟩;have he:=gw_below xw5;generalize gw xw5=w5 at he;go_wp2;go_ret
     exact⟨by rw[HF.out];rfl,bt hd he⟩
   ·have HF:Hid (r=true):=by
     rw[Hid,hc.out];refine Dt (List.ext_getElem? fun j=>?_);by_cases hj:j<k
     ·exact HA.out j hj
     ·rw[List.getElem?_eq_none (by rw[←HN.out];omega),List.getElem?_eq_none (by rw[←HM.out];omega)]
    go_wp2;go_ret
    exact⟨by rw[HF.out];rfl,hd⟩
 ·have hx1:((n:Int) != (m:Int))=true:=by rw[bne_iff_ne];omega
  have hv:((n:Int)==(m:Int))=false:=by rw[beq_eq_false_iff_ne];omega
  have HF:Hid (r=false):=by rw[Hid,hc.out];exact decide_eq_false (fun e=>hh (by rw[HN.out,HM.out,e]))
  clear hh;go_enter Tryz.func19,Tryz.ntmps19
  go_wp2;go_ret
  exact⟨by rw[HF.out];rfl,Br⟩
theorem sameNats_cV (A B:List Nat) (u v:Value) (r:Bool) (w:World) (ha:A.length≤1000) (hb:B.length≤1000) (hA:SsAt w u (A.map E)) (hB:SsAt w v (B.map E)) (h:decide (A=B)=r) :
  Calls Tryz.prog 19 #[u,v] w fun e w'=>e=.returned (.bool r)∧Bw w w':=by rw[←h];exact sameNats_c A B u v w ha hb hA hB
theorem sameInts_c (Z:List Int) (u v:Value) (w:World) (ha:Z.length≤1000) (hA:ZsAt w u Z) (hB:ZsAt w v Z) :
  Calls Tryz.prog 21 #[u,v] w fun e w'=>e=.returned (.bool true)∧Bw w w':=by
 obtain⟨a1,c1,rfl⟩:=hA.form;obtain⟨a2,c2,rfl⟩:=hB.form;obtain⟨n,hn⟩:∃n,n=Z.length:=⟨_,rfl⟩;have HN:=Kh hn;rw[←hn]at hA hB ha ⊢;clear hn;have hx1:((n:Int) != (n:Int))=false:=by simp
 go_enter Tryz.func21,Tryz.ntmps21
 go_wp2;go_loopw [5] (fun i wr=>∃k:Nat,k≤n∧i=.int .i64 k∧Bw w wr) (fun i _=>n-(intOf i).toNat)
 case atStart=>exact⟨0,by omega,rfl,Br⟩
 case round =>
  obtain⟨k,hk,rfl,hc⟩:=hrel;obtain⟨wp,hg⟩:∃wp,wp=wr:=⟨_,rfl⟩;subst hg;replace hA:=hA.after hc;replace hB:=hB.after hc;by_cases hlt:k<n
  ·have hd:k<Z.length:=by rw[←HN.out];exact hlt
   obtain⟨b,o,rfl,he,x1,x2⟩:=hA.at_ hd;obtain⟨b',o',rfl,hb,y1,y2⟩:=hB.at_ hd;generalize (Z[k]'hd)=z at x1 x2 y1 y2;have hh:(0:Int)≤(k:Int):=by omega
   have hi:(k:Int)<(n:Int):=by omega
   have g1:=gcl (a:=⟨b,o+k*2,none⟩) he x1;have g2:=gcl (a:=⟨b,o+k*2+1,none⟩) he x2;have g3:=gcl (a:=⟨b',o'+k*2,none⟩) hb y1;have g4:=gcl (a:=⟨b',o'+k*2+1,none⟩) hb y2;go_wp2_with fail
   refine wp_region_gw (by kernel_rfl) (by kernel_rfl) ?_;repeat (go_big_quiet_step (first | (fail)))
   refine wpQuiet_nil ?_;rintro w5 ⟨xw5,rfl⟩;have hf:=gw_below xw5;generalize gw xw5=w5 at hf;go_wp2;go_roundw
   case rel=>exact⟨k+1,by omega,by go_num,bt hc hf⟩
   case measure=>simp[intOf];omega
  ·go_wp2;go_ret
   exact⟨rfl,hc⟩
end
end Go.Proofs.YtdgddpnjkinciaaGreatDoor
