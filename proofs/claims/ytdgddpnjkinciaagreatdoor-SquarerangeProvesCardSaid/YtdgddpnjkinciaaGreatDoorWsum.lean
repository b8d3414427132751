import Derived.Test.YtdgddpnjkinciaaGreatDoorNat4
import Derived.Lib.BitFns
set_option linter.all false
set_option maxRecDepth 100000
set_option maxHeartbeats 16000000
namespace Go.Proofs.YtdgddpnjkinciaaGreatDoor
section
open Go.RowKit
def sg (z:Int):Bool:=decide (z<0)
theorem sg_nat (n:Nat):sg (n:Int)=false:=by unfold sg;rw[decide_eq_false_iff_not];omega
theorem sg_zero:sg 0=false:=rfl
theorem sg_neg (n:Nat):sg (-(n:Int))=!(E n).toList.isEmpty:=by
 unfold sg;rcases Nat.eq_zero_or_pos n with h | h
 ·subst h;rw[zE rfl];rfl
 ·rw[nzE h,Dt (by omega)];rfl
theorem sg_of_neg {z:Int} (h:z<0):sg z=true:=Dt h
theorem sg_of_nonneg {z:Int} (h:0≤z):sg z=false:=decide_eq_false (by omega)
theorem b1 (w:World) (o:Obj):Bw w (w.alloc o):=Br.alloc (Nat.le_refl _) o
theorem ba {a w:World} (h:Bw a w) (o:Obj):Bw a (w.alloc o):=h.alloc h.size o
theorem b2 (w:World) (o p:Obj):Bw w ((w.alloc o).alloc p):=(b1 w o).alloc (by simp) p
theorem b3 (w:World) (o p q:Obj):Bw w (((w.alloc o).alloc p).alloc q):=(b2 w o p).alloc (by simp;omega) q
theorem made_val (b:Bool) (n:Nat):Value.agg #[.bool (b&&!(E n).toList.isEmpty),.string (E n)]=.agg #[.bool (sg (if b then -(n:Int) else (n:Int))),.string (E (if b then -(n:Int) else (n:Int)).natAbs)]:=by
 cases b
 ·simp[sg_nat]
 ·simp[sg_neg]
theorem made_c (b:Bool) (n:Nat) (z:Int) (w:World) (hm:(E n).size≤4611686018427387904) (hz:z=if b then -(n:Int) else (n:Int)) :
  Calls Tryz.prog 86 #[.bool b,.string (E n)] w fun e w'=>e=.returned (.agg #[.bool (sg (z)),.string (E (z).natAbs)])∧Bw w w':=by
 have H:=made_val b n;rw[←hz]at H;have HM:=Kh H;clear H hz;cases b
 all_goals
  go_enter Tryz.func86,Tryz.ntmps86
  go_wp2;refine bodyPost_ret (v:=.agg #[.bool (sg (z)),.string (E (z).natAbs)]) (by rw[←HM.out];simp[results,Tryz.results86,go_sem]) rfl ⟨rfl,b1 _ _⟩
def ivB (b:Bool) (s:ByteArray):Bool:=vldB s&&!(b&&s.toList.isEmpty)
theorem ivalid_c (b:Bool) (s:ByteArray) (w:World) (hm:s.size≤4611686018427387904) :
  Calls Tryz.prog 75 #[.agg #[.bool b,.string s]] w fun e w'=>e=.returned (.bool (ivB b s))∧Bw w w':=by
 have HI:=Kh (show ivB b s=(vldB s&&!(b&&s.toList.isEmpty)) from rfl);generalize ivB b s=r at HI;cases hv:vldB s
 ·rw[hv]at HI;go_enter Tryz.func75,Tryz.ntmps75
  go_wp2_with fail
  refine (valid_c s _ (by omega)).mono ?_;rintro e w' ⟨rfl,rfl⟩;rw[hv];go_wp2;go_ret
  exact⟨rb (by rw[HI.out];rfl),b1 _ _⟩
 ·rw[hv]at HI;cases b
  ·go_enter Tryz.func75,Tryz.ntmps75
   go_wp2_with fail
   refine (valid_c s _ (by omega)).mono ?_;rintro e w' ⟨rfl,rfl⟩;rw[hv];go_wp2;go_ret
   exact⟨rb (by rw[HI.out];rfl),b1 _ _⟩
  ·cases he:s.toList.isEmpty
   all_goals
    rw[he]at HI;go_enter Tryz.func75,Tryz.ntmps75
    go_wp2_with fail
    refine (valid_c s _ (by omega)).mono ?_;rintro e w' ⟨rfl,rfl⟩;rw[hv];go_wp2;go_ret
    exact⟨rb (by rw[HI.out];rfl),b1 _ _⟩
theorem ivB_I (z:Int) (h:z.natAbs<256^128):ivB (sg z) (E z.natAbs)=true:=by
 unfold ivB;rw[vldB_E _ h];rcases Int.lt_or_le z 0 with h1 | h1
 ·rw[nzE (show 0<z.natAbs by omega)];simp
 ·rw[sg_of_nonneg h1];simp
theorem of_ivB {b:Bool} {s:ByteArray} (h:ivB b s=true):∃z:Int,z.natAbs<256^128∧b=sg z∧s=E z.natAbs:=by
 unfold ivB at h;rw[Bool.and_eq_true]at h;obtain⟨n,hn,rfl⟩:=of_vldB h.1;have h2:=h.2;cases b
 ·exact⟨(n:Int),by simpa using hn,(sg_nat n).symm,by simp⟩
 ·have:0<n:=by
   rcases Nat.eq_zero_or_pos n with h0 | h0
   ·rw[zE h0]at h2;simp at h2
   ·exact h0
  exact⟨-(n:Int),by simpa using hn,(sg_of_neg (by omega)).symm,by simp⟩
theorem ivalidI_c (z:Int) (w:World) (h:z.natAbs<256^128) :
  Calls Tryz.prog 75 #[.agg #[.bool (sg (z)),.string (E (z).natAbs)]] w fun e w'=>e=.returned (.bool true)∧Bw w w':=by
 have:=ivalid_c (sg z) (E z.natAbs) w (by have:=sz z.natAbs h;omega);rw[ivB_I z h]at this;exact this
theorem wrap_neg (z:Int) (h1:-9223372036854775808≤z) (h:z<0):IntKind.u64.wrap (-IntKind.u64.wrap z)=(z.natAbs:Int):=by
 simp[IntKind.wrap,IntKind.signed,IntKind.bits];omega
theorem iof_c (z:Int) (w:World) (h1:-9223372036854775808≤z) (h2:z≤9223372036854775807) :
  Calls Tryz.prog 49 #[.int .i64 z] w fun e w'=>e=.returned (.agg #[.bool (sg (z)),.string (E (z).natAbs)])∧Bw w w':=by
 have HN:Hid (z.natAbs<256^8):=by unfold Hid;rw[←u64_as_pow];omega
 have hs:=(E_size_le z.natAbs 8).2 HN.out;by_cases h:z<0
 ·have HW:=Kh (wrap_neg z h1 h);have HZ:Hid (z=if true then -(z.natAbs:Int) else (z.natAbs:Int)):=by unfold Hid;simp;omega
  go_enter Tryz.func49,Tryz.ntmps49
  go_wp2_with fail
  rw[HW.out];have hB:=Blk.new w #[Value.bool false,Value.string { data:=#[] }] 28;refine (of_c z.natAbs _ HN.out).mono ?_;rintro e w1 ⟨rfl,hc⟩;have he:=hB.after hc;go_wp2_with fail
  refine (made_c true z.natAbs z _ (by omega) HZ.out).mono ?_;rintro e w2 ⟨rfl,hd⟩;have hb:=he.after hd;have c0:=hb.cell 0;have c1:=hb.cell 1;have f0:=hb.free 0;have f1:=hb.free 1;go_wp2;refine bodyPost_ret (v:=.agg #[.bool (sg (z)),.string (E (z).natAbs)]) ?_ rfl ⟨rfl,?_⟩
  ·simp[results,Tryz.results49,go_sem,c0,c1]
  ·exact ((bt (bt (b1 _ _) hc) hd).setCell (Nat.le_refl _) _).setCell (Nat.le_refl _) _
 ·have HZ:Hid (z=if false then -(z.natAbs:Int) else (z.natAbs:Int)):=by unfold Hid;simp;omega
  have hf:Hid (z=(z.natAbs:Int)):=by unfold Hid;omega
  have h0:0≤z:=by omega
  go_enter Tryz.func49,Tryz.ntmps49
  go_wp2_with fail
  have hof:=of_c z.natAbs (w.alloc (Obj.cells #[Value.bool false,Value.string { data:=#[] }] 28)) HN.out;rw[←hf.out]at hof;have hB:=Blk.new w #[Value.bool false,Value.string { data:=#[] }] 28;refine hof.mono ?_;clear hof;rintro e w1 ⟨rfl,hc⟩;have he:=hB.after hc;go_wp2_with fail
  refine (made_c false z.natAbs z _ (by omega) HZ.out).mono ?_;rintro e w2 ⟨rfl,hd⟩;have hb:=he.after hd;have c0:=hb.cell 0;have c1:=hb.cell 1;have f0:=hb.free 0;have f1:=hb.free 1;go_wp2;refine bodyPost_ret (v:=.agg #[.bool (sg (z)),.string (E (z).natAbs)]) ?_ rfl ⟨rfl,?_⟩
  ·simp[results,Tryz.results49,go_sem,c0,c1]
  ·exact ((bt (bt (b1 _ _) hc) hd).setCell (Nat.le_refl _) _).setCell (Nat.le_refl _) _
end
section
/- Binary digits of numbers: hg many there are,and which are 1. Plain Lean. -/
def nb (n:Nat):Nat:=if n=0 then 0 else n.log2+1
def bitB (n i:Nat):Bool:=n / 2^i%2==1
theorem lt_nb (n:Nat):n<2^nb n:=by
 unfold nb;by_cases h:n=0
 ·simp[h]
 ·rw[if_neg h];exact Nat.lt_log2_self
theorem nb_low (n:Nat) (h:n≠0):2^(nb n-1)≤n:=by
 unfold nb;rw[if_neg h,Nat.add_sub_cancel];exact Nat.log2_self_le h
theorem nb_zero:nb 0=0:=rfl
theorem nb_pos (n:Nat) (h:0<n):0<nb n:=by unfold nb;rw[if_neg (by omega)];omega
theorem nb_of (n m:Nat) (h0:0<m) (h1:2^(m-1)≤n) (h2:n<2^m):nb n=m:=by
 have hp:0<2^(m-1):=Nat.pow_pos (by decide);have hn:n≠0:=by omega
 have a:=lt_nb n;have b:=nb_low n hn;have hb:=nb_pos n (by omega);have c1:2^(nb n-1)<2^m:=Nat.lt_of_le_of_lt b h2;have c2:2^(m-1)<2^nb n:=Nat.lt_of_le_of_lt h1 a;rw[Nat.pow_lt_pow_iff_right (by decide)]at c1 c2;omega
theorem nb_half (n:Nat) (h:0<n):nb n=1+nb (n / 2):=by
 by_cases h1:n=1
 ·subst h1;decide
 ·have hp:=nb_pos (n / 2) (by omega);have a:=lt_nb (n / 2);have b:=nb_low (n / 2) (by omega);refine nb_of n _ (by omega) ?_ ?_
  ·rw[show 1+nb (n / 2)-1=(nb (n / 2)-1)+1 by omega,Nat.pow_succ];omega
  ·rw[Nat.add_comm,Nat.pow_succ];omega
theorem nb_shift (n k:Nat) (h:2^k≤n):nb n=k+nb (n / 2^k):=by
 have hk:0<2^k:=Nat.pow_pos (by decide);have hq:0<n / 2^k:=Nat.div_pos h hk;have hp:=nb_pos (n / 2^k) hq;have a:=lt_nb (n / 2^k);have b:=nb_low (n / 2^k) (by omega);refine nb_of n _ (by omega) ?_ ?_
 ·rw[show k+nb (n / 2^k)-1=(nb (n / 2^k)-1)+k by omega,Nat.pow_add];exact (Nat.le_div_iff_mul_le hk).1 b
 ·rw[Nat.add_comm,Nat.pow_add];exact (Nat.div_lt_iff_lt_mul hk).1 a
theorem nb_byte:∀x:Fin 256,Lib.bitLen x.val=nb x.val:=by decide +kernel
theorem pow256 (k:Nat):256^k=2^(8*k):=by rw[Nat.pow_mul]
theorem nb_first (n:Nat) (h:0<n):nb n=8*((enc n).length-1)+nb (n / 256^((enc n).length-1)):=by
 have hl:¬ (enc n).length≤(enc n).length-1:=by
  have:0<(enc n).length:=by
   rcases Nat.eq_zero_or_pos (enc n).length with h0 | h0
   ·have:=(enc_length_le n 0).1 (by omega);simp at this;omega
   ·exact h0
  omega
 rw[enc_length_le]at hl;rw[pow256]at hl ⊢;exact nb_shift n _ (by omega)
theorem first_byte (n:Nat) (h:0<n):0<n / 256^((enc n).length-1)∧n / 256^((enc n).length-1)<256:=by
 have hp:0<(enc n).length:=by
  rcases Nat.eq_zero_or_pos (enc n).length with h0 | h0
  ·have:=(enc_length_le n 0).1 (by omega);simp at this;omega
  ·exact h0
 have hl:¬ (enc n).length≤(enc n).length-1:=by omega
 rw[enc_length_le]at hl;have hu:=(enc_length_le n (enc n).length).1 (Nat.le_refl _);have hk:0<256^((enc n).length-1):=Nat.pow_pos (by decide);refine⟨Nat.div_pos (by omega) hk,?_⟩;rw[Nat.div_lt_iff_lt_mul hk,Nat.mul_comm,←Nat.pow_succ];rwa [show ((enc n).length-1).succ=(enc n).length by omega]
theorem bit_byte (n i:Nat):n / 256^(i / 8)%256 / 2^(i%8)%2=n / 2^i%2:=by
 have hr:i%8<8:=Nat.mod_lt _ (by decide)
 have e:n / 2^i=n / 256^(i / 8) / 2^(i%8):=by
  rw[pow256,Nat.div_div_eq_div_mul,←Nat.pow_add,Nat.div_add_mod]
 rw[e];generalize n / 256^(i / 8)=m;generalize i%8=r at hr;have:r=0∨r=1∨r=2∨r=3∨r=4∨r=5∨r=6∨r=7:=by omega
 rcases this with rfl | rfl | rfl | rfl | rfl | rfl | rfl | rfl <;> simp only[Nat.pow_zero,Nat.reducePow] <;> omega
theorem bit_split (n i:Nat):n / 2^i=2*(n / 2^(i+1))+n / 2^i%2:=by
 rw[Nat.pow_succ,←Nat.div_div_eq_div_mul];omega
theorem bit_one {n i:Nat} (h:bitB n i=true):n / 2^i=2*(n / 2^(i+1))+1:=by
 have:=bit_split n i;unfold bitB at h;rw[beq_iff_eq]at h;omega
theorem bit_nil {n i:Nat} (h:bitB n i=false):n / 2^i=2*(n / 2^(i+1)):=by
 have:=bit_split n i;unfold bitB at h;rw[beq_eq_false_iff_ne]at h;omega
end
section
open Go.RowKit
theorem divmod_c (a b:Nat) (w:World) (ha:a<256^8) (hb:b<256^128) (h0:0<b) :
  Calls Tryz.prog 126 #[.string (E a),.string (E b)] w fun e w'=>e=.returned (.tuple #[.string (E (a / b)),.string (E (a%b)),.int .i64 0])∧Bw w w':=by
 have HA:=Kh ha;have HB:=Kh hb;have H0:=Kh h0;have hz:=nzE h0;clear ha hb h0;go_enter Tryz.func126,Tryz.ntmps126
 go_wp2_with fail
 refine (validE_c a _ (lt128 HA.out)).mono ?_;rintro e w' ⟨rfl,rfl⟩;go_wp2_with fail
 refine (validE_c b _ HB.out).mono ?_;rintro e w' ⟨rfl,rfl⟩;go_wp2_with fail
 refine (divided_c a b _ HA.out HB.out H0.out).mono ?_;rintro e w1 ⟨rfl,hc⟩;go_wp2;go_ret3
 exact⟨rfl,hc⟩
def strVal:Value→Nat | .string s=>val s.data.toList | _=>0
theorem strVal_E (n:Nat):strVal (.string (E n))=n:=val_E n
theorem gcd_c (a b:Nat) (w:World) (ha:a<256^8) (hb:b<256^8) :
  Calls Tryz.prog 169 #[.string (E a),.string (E b)] w fun e w'=>e=.returned (.tuple #[.string (E (Nat.gcd a b)),.int .i64 0])∧Bw w w':=by
 have HA:=Kh ha;have HB:=Kh hb;clear ha hb;go_enter Tryz.func169,Tryz.ntmps169
 go_wp2_with fail
 refine (validE_c a _ (lt128 HA.out)).mono ?_;rintro e w' ⟨rfl,rfl⟩;go_wp2_with fail
 refine (validE_c b _ (lt128 HB.out)).mono ?_;rintro e w' ⟨rfl,rfl⟩;go_wp2;go_loopw [0,1] (fun x y wr=>∃p q:Nat,p<256^8∧q<256^8∧x=.string (E p)∧y=.string (E q)∧Nat.gcd p q=Nat.gcd a b∧Bw w wr) (fun _ y _=>strVal y)
 case atStart=>exact⟨a,b,HA.out,HB.out,rfl,rfl,rfl,Br⟩
 case round =>
  obtain⟨p,q,hp,hq,rfl,rfl,hg,hc⟩:=hrel;have HP:=Kh hp;clear hp;have HQ:=Kh hq;clear hq;have HG:=Kh hg;clear hg;by_cases h0:0<q
  ·have hz:=nzE h0;have H0:=Kh h0;clear h0;go_wp2_with fail
   refine (divided_c p q _ HP.out (lt128 HQ.out) H0.out).mono ?_;rintro e w1 ⟨rfl,hd⟩;go_wp2;go_roundw
   case rel =>
    refine⟨q,p%q,HQ.out,Nat.lt_trans (Nat.mod_lt _ H0.out) HQ.out,rfl,rfl,?_,bt hc hd⟩;rw[←HG.out,Nat.gcd_comm p q,Nat.gcd_rec q p,Nat.gcd_comm]
   case measure =>
    rw[strVal_E,strVal_E];exact Nat.mod_lt _ H0.out
  ·obtain rfl:q=0:=by omega
   have hz:=zE (n:=0) rfl;have HE:Hid (p=Nat.gcd a b):=by rw[Hid,←HG.out,Nat.gcd_zero_right]
   go_wp2;go_ret2
   exact⟨r2 (vE HE.out) rfl,hc⟩
theorem firstb (n:Nat) (h:0<(E n).size):(E n)[0].toNat=n / 256^((E n).size-1):=by
 have h1:=dgt_at (E n) ((E n).size-1) 0 (by omega) (by omega);rw[h1,dgt_E];have:=(first_byte n ((E_size_pos n).1 h)).2;rw[←E_size]at this;exact Nat.mod_eq_of_lt this
theorem len8_c (x:Int) (w:World) (h0:0≤x) (h1:x≤255) :
  Calls Tryz.prog 173 #[.int .u8 x] w fun e w'=>e=.returned (.int .i64 (nb x.toNat))∧w=w':=
 (Tryz.bits_Len8 x w h0 h1).mono fun _ _ h=>⟨by rw[h.1];have:=nb_byte ⟨x.toNat,by omega⟩;simp only at this;rw[this],h.2.symm⟩
theorem bits_c (n:Nat) (w:World) (hn:n<256^128) :
  Calls Tryz.prog 131 #[.string (E n)] w fun e w'=>e=.returned (.int .i64 (nb n))∧w=w':=by
 have HN:=Kh hn;have hs:=sz n hn;clear hn;by_cases h0:n=0
 ·subst h0;have hz:=zE (n:=0) rfl;go_enter Tryz.func131,Tryz.ntmps131
  go_wp2_with fail
  refine (validE_c 0 _ HN.out).mono ?_;rintro e w' ⟨rfl,rfl⟩;go_wp2;go_ret
  exact⟨rfl,rfl⟩
 ·have hz:=nzE (n:=n) (by omega);have hp:=(E_size_pos n).2 (by omega);have HF:=Kh (firstb n hp);have hb:=Kh (nb_first n (by omega));have hlt:=(E n)[0].toNat_lt
  have hc:Hid (nb (E n)[0].toNat≤8):=by
   have h1:=nb_byte ⟨(E n)[0].toNat,by omega⟩;have h2:=Lib.bitLen_le8 ⟨(E n)[0].toNat,by omega⟩;simp only at h1 h2;unfold Hid;omega
  clear h0;go_enter Tryz.func131,Tryz.ntmps131
  go_wp2_with fail
  refine (validE_c n _ HN.out).mono ?_;rintro e w' ⟨rfl,rfl⟩;go_wp2_with fail
  refine (len8_c _ _ (by omega) (by omega)).mono ?_;rintro e w' ⟨rfl,rfl⟩;rw[Int.toNat_natCast];have hd:=hc.out
  have HE:Hid (((8*((E n).size-1)+nb (E n)[0].toNat:Nat):Int)=(nb n:Int)):=by
   rw[Hid,HF.out,E_size,←hb.out]
  generalize nb (E n)[0].toNat=q at hd HE;go_wp2;go_ret
  exact⟨ri (by rw[←HE.out];omega),rfl⟩
theorem i64_and1 (n:Int):bits .and .i64 n 1=n%2:=by
 have h1:(BitVec.ofInt 64 1).toNat=2^1-1:=by decide
 have key:(BitVec.ofInt 64 n &&& BitVec.ofInt 64 1).toNat=(n%((2^64:Nat):Int)).toNat%2^1:=by
  rw[BitVec.toNat_and,BitVec.toNat_ofInt,h1,Nat.and_two_pow_sub_one_eq_mod]
 show IntKind.i64.wrap ((BitVec.ofInt 64 n &&& BitVec.ofInt 64 1).toNat:Nat)=n%2;rw[key,IntKind.wrap_i64];omega
theorem bitB_of_dgt (n i:Nat):(bits .and .i64 ((dgt (E n) (i / 8):Int) / 2^(i%8)) 1==1)=bitB n i:=by
 rw[i64_and1,dgt_E];have h:=bit_byte n i
 have e:((n / 256^(i / 8)%256:Nat):Int) / 2^(i%8)=((n / 256^(i / 8)%256 / 2^(i%8):Nat):Int):=by
  rw[Int.natCast_ediv];simp
 rw[e];unfold bitB;rw[Bool.eq_iff_iff,beq_iff_eq,beq_iff_eq];omega
theorem bitB_out (n i:Nat) (h:(E n).size≤i / 8):bitB n i=false:=by
 have h1:=E_lt n
 have h2:256^(E n).size≤2^i:=by
  rw[pow256];exact Nat.pow_le_pow_right (by decide) (by omega)
 unfold bitB;rw[Nat.div_eq_of_lt (by omega)];rfl
theorem bit_c (n:Nat) (i:Nat) (w:World) (hn:n<256^128) (hi:i≤1000000) :
  Calls Tryz.prog 127 #[.string (E n),.int .i64 (i:Int)] w fun e w'=>e=.returned (.bool (bitB n i))∧w=w':=by
 have HN:=Kh hn;have hs:=sz n hn;clear hn;by_cases h0:i / 8<(E n).size
 ·have hd:=dgt_lt (E n) (i / 8);have HQ:Hid (((i:Int) / 8).toNat=i / 8):=by unfold Hid;omega
  have HB:=Kh (bitB_of_dgt n i);go_enter Tryz.func127,Tryz.ntmps127
  go_wp2_with fail
  refine (validE_c n _ HN.out).mono ?_;rintro e w' ⟨rfl,rfl⟩;go_wp2_with fail
  refine (digit_c (E n) _ _ (by omega) (by omega) (by omega)).mono ?_;rintro e w' ⟨rfl,rfl⟩;rw[HQ.out];go_wp2;go_ret
  exact⟨rb HB.out,rfl⟩
 ·have HB:=Kh (bitB_out n i (by omega));have hd:decide ((i:Int) / 8<((E n).size:Int))=false:=by rw[decide_eq_false_iff_not];omega
  go_enter Tryz.func127,Tryz.ntmps127
  go_wp2_with fail
  refine (validE_c n _ HN.out).mono ?_;rintro e w' ⟨rfl,rfl⟩;go_wp2;go_ret
  exact⟨rb HB.out.symm,rfl⟩
theorem mul64_c (x y:Nat) (w:World) (hx:x<256^8) (hy:y<256^8) (h:x*y<256^8) :
  Calls Tryz.prog 139 #[.int .u64 x,.int .u64 y] w fun e w'=>e=.returned (.tuple #[.int .u64 0,.int .u64 ((x*y:Nat):Int)])∧w=w':=by
 rw[←u64_as_pow]at hx hy h;refine (Tryz.bits_Mul64 x y hx hy w).mono fun _ _ h2=>⟨?_,h2.2.symm⟩
 rw[h2.1,Nat.div_eq_of_lt h,Nat.mod_eq_of_lt h];rfl
theorem mul_small (a b:Nat) (w:World) (ha:a<256^8) (hb:b<256^8) (h:a*b<256^8) :
  Calls Tryz.prog 102 #[.string (E a),.string (E b)] w fun e w'=>e=.returned (.tuple #[.string (E (a*b)),.int .i64 0])∧Bw w w':=by
 have h1:=(E_size_le a 8).2 ha;have h2:=(E_size_le b 8).2 hb;have HA:=Kh ha;have HB:=Kh hb;have hc:=Kh h;clear ha hb h;go_enter Tryz.func102,Tryz.ntmps102
 go_wp2_with fail
 refine (validE_c a _ (lt128 HA.out)).mono ?_;rintro e w' ⟨rfl,rfl⟩;go_wp2_with fail
 refine (validE_c b _ (lt128 HB.out)).mono ?_;rintro e w' ⟨rfl,rfl⟩;go_wp2_with fail
 refine (small_c a _ HA.out).mono ?_;rintro e w' ⟨rfl,rfl⟩;go_wp2_with fail
 refine (small_c b _ HB.out).mono ?_;rintro e w' ⟨rfl,rfl⟩;go_wp2_with fail
 refine (mul64_c a b _ HA.out HB.out hc.out).mono ?_;rintro e w' ⟨rfl,rfl⟩;go_wp2_with fail
 refine (of_c (a*b) _ hc.out).mono ?_;rintro e w1 ⟨rfl,hd⟩;go_wp2;go_ret2
 exact⟨rfl,hd⟩
end
section
/- Sums of columns: the value of a list of column sums,the least weight first. Plain Lean. -/
def wsum:List Nat→Nat
 | []=>0
 | d :: t=>d+256*wsum t
theorem wsum_zeros (n:Nat):wsum (List.replicate n 0)=0:=by
 induction n with
 | zero=>rfl
 | succ n ih=>rw[List.replicate_succ,wsum,ih]
theorem wsum_set (l:List Nat) (j x:Nat) (h:j<l.length):wsum (l.set j (l[j]+x))=wsum l+x*256^j:=by
 induction l generalizing j with
 | nil=>simp at h
 | cons d t ih =>
  cases j with
  | zero=>simp[wsum];omega
  | succ j =>
   simp only[List.length_cons,Nat.add_lt_add_iff_right]at h;simp only[List.set_cons_succ,wsum,List.getElem_cons_succ];rw[ih j h,Nat.pow_succ,Nat.mul_add,←Nat.mul_assoc x,Nat.mul_comm (x*256^j) 256];omega
theorem wsum_append (l:List Nat) (x:Nat):wsum (l++[x])=wsum l+x*256^l.length:=by
 induction l with
 | nil=>simp[wsum]
 | cons d t ih =>
  rw[List.cons_append,wsum,wsum,ih,List.length_cons,Nat.pow_succ,Nat.mul_add,←Nat.mul_assoc x,Nat.mul_comm (x*256^t.length) 256];omega
theorem wsum_take (l:List Nat) (k:Nat) (h:k<l.length):wsum (l.take (k+1))=wsum (l.take k)+l[k]*256^k:=by
 rw[List.take_succ_eq_append_getElem h,wsum_append,List.length_take_of_le (by omega)]
theorem wsum_fit (l:List Nat) (n v:Nat) (hl:n≤l.length) (hv:wsum l=v) (hf:v<256^n):wsum (l.take n)=v:=by
 induction h:l.length-n generalizing l with
 | zero=>rw[List.take_of_length_le (by omega)];exact hv
 | succ m ih =>
  have hb:l.length≠0:=by omega
  have e:=wsum_take l (l.length-1) (by omega);rw[show l.length-1+1=l.length by omega,List.take_of_length_le (Nat.le_refl _),hv]at e
  have hz:l[l.length-1]=0:=by
   rcases Nat.eq_zero_or_pos l[l.length-1] with h0 | h0
   ·exact h0
   ·have h1:1*256^(l.length-1)≤l[l.length-1]*256^(l.length-1):=Nat.mul_le_mul_right _ h0;have h2:256^n≤256^(l.length-1):=Nat.pow_le_pow_right (by decide) (by omega);omega
  rw[hz,Nat.zero_mul,Nat.add_zero]at e;have:=ih (l.take (l.length-1)) (by simp;omega) e.symm (by simp;omega);rwa [List.take_take,Nat.min_eq_left (by omega)]at this
theorem col_step (S:List Nat) (k c x:Nat) (t:List UInt8) (hk:k<S.length) (hl:t.length=k) (hv:val t+c*256^k=wsum (S.take k)) (hx:x=S[k]+c) :
  val (UInt8.ofNat (x%256) :: t)+x / 256*256^(k+1)=wsum (S.take (k+1)):=by
 rw[wsum_take S k hk,val_cons,UInt8.toNat_ofNat',hl,Nat.mod_eq_of_lt (by have:=Nat.mod_lt x (show 0<256 by decide);omega),Nat.pow_succ];have h:=Nat.div_add_mod x 256
 have h2:x%256*256^k+x / 256*(256^k*256)=x*256^k:=by
  have:(256*(x / 256)+x%256)*256^k=x*256^k:=by rw[h]
  rw[Nat.add_mul]at this;rw[Nat.mul_comm (256^k) 256,←Nat.mul_assoc,Nat.mul_comm (x / 256) 256];omega
 have h3:x*256^k=S[k]*256^k+c*256^k:=by rw[hx,Nat.add_mul]
 omega
theorem col_end (n c v:Nat) (S:List Nat) (t:List UInt8) (hl:t.length=n) (hn:n≤S.length) (hv:val t+c*256^n=wsum (S.take n)) (hs:wsum S=v) (hf:v<256^n):val t=v:=by
 rw[wsum_fit S n v hn hs hf]at hv;rcases Nat.eq_zero_or_pos c with h0 | h0
 ·subst h0;omega
 ·have h1:1*256^n≤c*256^n:=Nat.mul_le_mul_right _ h0;omega
def ColB (M:Nat) (S:List Nat) (i m:Nat):Prop:=∀j x,S[j]?=some x→x≤M*i+if j<m then M else 0
theorem ColB.zeros (M n:Nat):ColB M (List.replicate n 0) 0 0:=by
 intro j x h;rw[List.getElem?_replicate]at h;split at h
 ·simp only[Option.some.injEq]at h;omega
 ·simp at h
theorem ColB.start {M:Nat} {S:List Nat} {i:Nat} (h:ColB M S i 0):ColB M S i i:=by
 intro j x hj;have:=h j x hj;simp only[Nat.not_lt_zero,if_false]at this;split <;> omega
theorem ColB.next {M:Nat} {S:List Nat} {i m:Nat} (h:ColB M S i m):ColB M S (i+1) 0:=by
 intro j x hj;have:=h j x hj;rw[if_neg (Nat.not_lt_zero _),Nat.mul_add,Nat.mul_one];split at this <;> omega
theorem ColB.step {M:Nat} {S:List Nat} {i m p:Nat} (h:ColB M S i m) (hm:m<S.length) (hp:p≤M):ColB M (S.set m (S[m]+p)) i (m+1):=by
 intro j x hj;rw[List.getElem?_set]at hj;split at hj
 ·rename_i hb;subst hb;simp only[hm,if_true,Option.some.injEq]at hj;have:=h m S[m] (List.getElem?_eq_getElem hm);rw[if_neg (Nat.lt_irrefl _)]at this;rw[if_pos (Nat.lt_succ_self _)];omega
 ·have:=h j x hj;split at this
  ·rw[if_pos (by omega)];omega
  ·split <;> omega
theorem ColB.at {M:Nat} {S:List Nat} {i m j:Nat} (h:ColB M S i m) (hj:j<S.length):S[j]≤M*i+M:=by
 have:=h j S[j] (List.getElem?_eq_getElem hj);split at this <;> omega
theorem prod_step (S:List Nat) (A b i k da:Nat) (h:i+k<S.length) (hs:wsum S=A*b+da*256^i*(b%256^k)) :
  wsum (S.set (i+k) (S[i+k]+da*(b / 256^k%256)))=A*b+da*256^i*(b%256^(k+1)):=by
 rw[wsum_set S (i+k) _ h,hs,mod_succ,Nat.mul_add,Nat.pow_add]
 have:da*(b / 256^k%256)*(256^i*256^k)=da*256^i*(b / 256^k%256*256^k):=by
  rw[Nat.mul_assoc,Nat.mul_assoc,Nat.mul_left_comm (b / 256^k%256)]
 omega
theorem prod_row (a b i m:Nat) (hb:b<256^m):a%256^i*b+a / 256^i%256*256^i*(b%256^m)=a%256^(i+1)*b:=by
 rw[mod_succ,Nat.mod_eq_of_lt hb,Nat.add_mul];omega
end
end Go.Proofs.YtdgddpnjkinciaaGreatDoor
