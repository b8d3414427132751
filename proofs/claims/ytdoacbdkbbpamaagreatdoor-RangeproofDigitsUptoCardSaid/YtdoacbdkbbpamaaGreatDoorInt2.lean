import Derived.Test.YtdoacbdkbbpamaaGreatDoorRef1
import Derived.Test.YtdoacbdkbbpamaaGreatDoorDivN
import Derived.Deep.RegionWith
set_option linter.unusedVariables false
set_option linter.unusedSimpArgs false
set_option maxRecDepth 100000
set_option maxHeartbeats 16000000
namespace Go.Proofs.YtdoacbdkbbpamaaGreatDoor
section
open Go.RowKit
def sg (z:Int):Bool:=decide (z<0)
theorem sg_nat (n:Nat):sg (n:Int)=false:=by unfold sg;rw [decide_eq_false_iff_not];omega
theorem sg_neg (n:Nat):sg (-(n:Int))=!(E n).toList.isEmpty:=by
 unfold sg;rcases Nat.eq_zero_or_pos n with h | h
 ·subst h;rw [zE rfl];rfl
 ·rw [nzE h,decide_eq_true (by omega)];rfl
theorem sg_of_neg {z:Int} (h:z<0):sg z=true:=decide_eq_true h
theorem sg_of_nonneg {z:Int} (h:0≤z):sg z=false:=decide_eq_false (by omega)
theorem b1 (w:World) (o:Obj):Below w.heap.size w (w.alloc o):=(Below.refl _ _).alloc (Nat.le_refl _) o
theorem ba {a w:World} (h:Below a.heap.size a w) (o:Obj):Below a.heap.size a (w.alloc o):=h.alloc h.size o
theorem b2 (w:World) (o p:Obj):Below w.heap.size w ((w.alloc o).alloc p):=(b1 w o).alloc (by simp) p
theorem b3 (w:World) (o p q:Obj):Below w.heap.size w (((w.alloc o).alloc p).alloc q):=(b2 w o p).alloc (by simp;omega) q
theorem vI {x y:Int} (h:x=y):Value.agg #[.bool (sg x),.string (E x.natAbs)]=.agg #[.bool (sg y),.string (E y.natAbs)]:=by rw [h]
theorem made_val (b:Bool) (n:Nat):Value.agg #[.bool (b&&!(E n).toList.isEmpty),.string (E n)]=.agg #[.bool (sg (if b then -(n:Int) else (n:Int))),.string (E (if b then -(n:Int) else (n:Int)).natAbs)]:=by
 cases b
 ·simp [sg_nat]
 ·simp [sg_neg]
theorem made_c (b:Bool) (n:Nat) (z:Int) (w:World) (hm:(E n).size≤4611686018427387904) (hz:z=if b then -(n:Int) else (n:Int)) :
  Calls Tryz.prog 88 #[.bool b,.string (E n)] w fun e w'=>e=.returned (.agg #[.bool (sg (z)),.string (E (z).natAbs)])∧Below w.heap.size w w':=by
 have H:=made_val b n;rw [←hz] at H;have HM:=Lib.hid H;clear H hz;cases b
 all_goals
  go_enter Tryz.func88,Tryz.ntmps88
  go_wp2;refine bodyPost_ret (v:=.agg #[.bool (sg (z)),.string (E (z).natAbs)]) (by rw [←HM.out];simp [results,Tryz.results88,go_sem]) rfl ⟨rfl,b1 _ _⟩
def ivB (b:Bool) (s:ByteArray):Bool:=vldB s&&!(b&&s.toList.isEmpty)
theorem ivalid_c (b:Bool) (s:ByteArray) (w:World) (hm:s.size≤4611686018427387904) :
  Calls Tryz.prog 58 #[.agg #[.bool b,.string s]] w fun e w'=>e=.returned (.bool (ivB b s))∧Below w.heap.size w w':=by
 have HI:=Lib.hid (show ivB b s=(vldB s&&!(b&&s.toList.isEmpty)) from rfl);generalize ivB b s=r at HI;cases hv:vldB s
 ·rw [hv] at HI;go_enter Tryz.func58,Tryz.ntmps58
  go_wp2_with fail
  refine (valid_c s _ (by omega)).mono ?_;rintro e w' ⟨rfl,rfl⟩;rw [hv];go_wp2;go_ret
  exact ⟨rb (by rw [HI.out];rfl),b1 _ _⟩
 ·rw [hv] at HI;cases b
  ·go_enter Tryz.func58,Tryz.ntmps58
   go_wp2_with fail
   refine (valid_c s _ (by omega)).mono ?_;rintro e w' ⟨rfl,rfl⟩;rw [hv];go_wp2;go_ret
   exact ⟨rb (by rw [HI.out];rfl),b1 _ _⟩
  ·cases he:s.toList.isEmpty
   all_goals
    rw [he] at HI;go_enter Tryz.func58,Tryz.ntmps58
    go_wp2_with fail
    refine (valid_c s _ (by omega)).mono ?_;rintro e w' ⟨rfl,rfl⟩;rw [hv];go_wp2;go_ret
    exact ⟨rb (by rw [HI.out];rfl),b1 _ _⟩
theorem ivB_I (z:Int) (h:z.natAbs<256^128):ivB (sg z) (E z.natAbs)=true:=by
 unfold ivB;rw [vldB_E _ h];rcases Int.lt_or_le z 0 with h1 | h1
 ·rw [nzE (show 0<z.natAbs by omega)];simp
 ·rw [sg_of_nonneg h1];simp
theorem of_ivB {b:Bool} {s:ByteArray} (h:ivB b s=true):∃z:Int,z.natAbs<256^128∧b=sg z∧s=E z.natAbs:=by
 unfold ivB at h;rw [Bool.and_eq_true] at h;obtain ⟨n,hn,rfl⟩:=of_vldB h.1;have h2:=h.2;cases b
 ·exact ⟨(n:Int),by simpa using hn,(sg_nat n).symm,by simp⟩
 ·have:0<n:=by
   rcases Nat.eq_zero_or_pos n with h0 | h0
   ·rw [zE h0] at h2;simp at h2
   ·exact h0
  exact ⟨-(n:Int),by simpa using hn,(sg_of_neg (by omega)).symm,by simp⟩
theorem ivalidI_c (z:Int) (w:World) (h:z.natAbs<256^128) :
  Calls Tryz.prog 58 #[.agg #[.bool (sg (z)),.string (E (z).natAbs)]] w fun e w'=>e=.returned (.bool true)∧Below w.heap.size w w':=by
 have:=ivalid_c (sg z) (E z.natAbs) w (by have:=sz z.natAbs h;omega);rw [ivB_I z h] at this;exact this
theorem wrap_neg (z:Int) (h1:-9223372036854775808≤z) (h:z<0):IntKind.u64.wrap (-IntKind.u64.wrap z)=(z.natAbs:Int):=by
 simp [IntKind.wrap,IntKind.signed,IntKind.bits];omega
theorem iof_c (z:Int) (w:World) (h1:-9223372036854775808≤z) (h2:z≤9223372036854775807) :
  Calls Tryz.prog 63 #[.int .i64 z] w fun e w'=>e=.returned (.agg #[.bool (sg (z)),.string (E (z).natAbs)])∧Below w.heap.size w w':=by
 have HN:Hid (z.natAbs<256^8):=by unfold Hid;rw [←u64_as_pow];omega
 have hs:=(E_size_le z.natAbs 8).2 HN.out;by_cases h:z<0
 ·have HW:=Lib.hid (wrap_neg z h1 h);have HZ:Hid (z=if true then -(z.natAbs:Int) else (z.natAbs:Int)):=by unfold Hid;simp;omega
  go_enter Tryz.func63,Tryz.ntmps63
  go_wp2_with fail
  rw [HW.out];have hB:=Blk.new w #[Value.bool false,Value.string { data:=#[] }] 37;refine (of_c z.natAbs _ HN.out).mono ?_;rintro e w1 ⟨rfl,hb1⟩;have hB1:=hB.after hb1;go_wp2_with fail
  refine (made_c true z.natAbs z _ (by omega) HZ.out).mono ?_;rintro e w2 ⟨rfl,hb2⟩;have hB2:=hB1.after hb2;have c0:=hB2.cell 0;have c1:=hB2.cell 1;have f0:=hB2.free 0;have f1:=hB2.free 1;go_wp2;refine bodyPost_ret (v:=.agg #[.bool (sg (z)),.string (E (z).natAbs)]) ?_ rfl ⟨rfl,?_⟩
  ·simp [results,Tryz.results63,go_sem,c0,c1]
  ·exact ((bt (bt (b1 _ _) hb1) hb2).setCell (Nat.le_refl _) _).setCell (Nat.le_refl _) _
 ·have HZ:Hid (z=if false then -(z.natAbs:Int) else (z.natAbs:Int)):=by unfold Hid;simp;omega
  have HZ2:Hid (z=(z.natAbs:Int)):=by unfold Hid;omega
  have h0:0≤z:=by omega
  go_enter Tryz.func63,Tryz.ntmps63
  go_wp2_with fail
  have hof:=of_c z.natAbs (w.alloc (Obj.cells #[Value.bool false,Value.string { data:=#[] }] 37)) HN.out;rw [←HZ2.out] at hof;have hB:=Blk.new w #[Value.bool false,Value.string { data:=#[] }] 37;refine hof.mono ?_;clear hof;rintro e w1 ⟨rfl,hb1⟩;have hB1:=hB.after hb1;go_wp2_with fail
  refine (made_c false z.natAbs z _ (by omega) HZ.out).mono ?_;rintro e w2 ⟨rfl,hb2⟩;have hB2:=hB1.after hb2;have c0:=hB2.cell 0;have c1:=hB2.cell 1;have f0:=hB2.free 0;have f1:=hB2.free 1;go_wp2;refine bodyPost_ret (v:=.agg #[.bool (sg (z)),.string (E (z).natAbs)]) ?_ rfl ⟨rfl,?_⟩
  ·simp [results,Tryz.results63,go_sem,c0,c1]
  ·exact ((bt (bt (b1 _ _) hb1) hb2).setCell (Nat.le_refl _) _).setCell (Nat.le_refl _) _
end
section
open Go.RowKit
theorem divmod_c (a b:Nat) (w:World) (ha:a<256^8) (hb:b<256^128) (h0:0<b) :
  Calls Tryz.prog 98 #[.string (E a),.string (E b)] w fun e w'=>e=.returned (.tuple #[.string (E (a / b)),.string (E (a%b)),.int .i64 0])∧Below w.heap.size w w':=by
 have HA:=Lib.hid ha;have HB:=Lib.hid hb;have H0:=Lib.hid h0;have hz:=nzE h0;clear ha hb h0;go_enter Tryz.func98,Tryz.ntmps98
 go_wp2_with fail
 refine (validE_c a _ (lt128 HA.out)).mono ?_;rintro e w' ⟨rfl,rfl⟩;go_wp2_with fail
 refine (validE_c b _ HB.out).mono ?_;rintro e w' ⟨rfl,rfl⟩;go_wp2_with fail
 refine (divided_c a b _ HA.out HB.out H0.out).mono ?_;rintro e w1 ⟨rfl,hb1⟩;go_wp2;go_ret3
 exact ⟨rfl,hb1⟩
def strVal:Value→Nat | .string s=>val s.data.toList | _=>0
theorem strVal_E (n:Nat):strVal (.string (E n))=n:=val_E n
theorem gcd_c (a b:Nat) (w:World) (ha:a<256^8) (hb:b<256^8) :
  Calls Tryz.prog 176 #[.string (E a),.string (E b)] w fun e w'=>e=.returned (.tuple #[.string (E (Nat.gcd a b)),.int .i64 0])∧Below w.heap.size w w':=by
 have HA:=Lib.hid ha;have HB:=Lib.hid hb;clear ha hb;go_enter Tryz.func176,Tryz.ntmps176
 go_wp2_with fail
 refine (validE_c a _ (lt128 HA.out)).mono ?_;rintro e w' ⟨rfl,rfl⟩;go_wp2_with fail
 refine (validE_c b _ (lt128 HB.out)).mono ?_;rintro e w' ⟨rfl,rfl⟩;go_wp2;go_loopw [0,1] (fun x y wr=>∃p q:Nat,p<256^8∧q<256^8∧x=.string (E p)∧y=.string (E q)∧Nat.gcd p q=Nat.gcd a b∧Below w.heap.size w wr) (fun _ y _=>strVal y)
 case atStart=>exact ⟨a,b,HA.out,HB.out,rfl,rfl,rfl,Below.refl _ _⟩
 case round =>
  obtain ⟨p,q,hp,hq,rfl,rfl,hg,hbel⟩:=hrel;have HP:=Lib.hid hp;clear hp;have HQ:=Lib.hid hq;clear hq;have HG:=Lib.hid hg;clear hg;by_cases h0:0<q
  ·have hz:=nzE h0;have H0:=Lib.hid h0;clear h0;go_wp2_with fail
   refine (divided_c p q _ HP.out (lt128 HQ.out) H0.out).mono ?_;rintro e w1 ⟨rfl,hb1⟩;go_wp2;go_roundw
   case rel =>
    refine ⟨q,p%q,HQ.out,Nat.lt_trans (Nat.mod_lt _ H0.out) HQ.out,rfl,rfl,?_,bt hbel hb1⟩;rw [←HG.out,Nat.gcd_comm p q,Nat.gcd_rec q p,Nat.gcd_comm]
   case measure =>
    rw [strVal_E,strVal_E];exact Nat.mod_lt _ H0.out
  ·obtain rfl:q=0:=by omega
   have hz:=zE (n:=0) rfl;have HE:Hid (p=Nat.gcd a b):=by rw [Hid,←HG.out,Nat.gcd_zero_right]
   go_wp2;go_ret2
   exact ⟨r2 (vE HE.out) rfl,hbel⟩
theorem firstb (n:Nat) (h:0<(E n).size):(E n)[0].toNat=n / 256^((E n).size-1):=by
 have h1:=dgt_at (E n) ((E n).size-1) 0 (by omega) (by omega);rw [h1,dgt_E];have:=(first_byte n ((E_size_pos n).1 h)).2;rw [←E_size] at this;exact Nat.mod_eq_of_lt this
theorem len8_c (x:Int) (w:World) (h0:0≤x) (h1:x≤255) :
  Calls Tryz.prog 136 #[.int .u8 x] w fun e w'=>e=.returned (.int .i64 (nb x.toNat))∧w=w':=
 (Tryz.bits_Len8 x w h0 h1).mono fun _ _ h=>⟨by rw [h.1];have:=nb_byte ⟨x.toNat,by omega⟩;simp only at this;rw [this],h.2.symm⟩
theorem bits_c (n:Nat) (w:World) (hn:n<256^128) :
  Calls Tryz.prog 110 #[.string (E n)] w fun e w'=>e=.returned (.int .i64 (nb n))∧w=w':=by
 have HN:=Lib.hid hn;have hs:=sz n hn;clear hn;by_cases h0:n=0
 ·subst h0;have hz:=zE (n:=0) rfl;go_enter Tryz.func110,Tryz.ntmps110
  go_wp2_with fail
  refine (validE_c 0 _ HN.out).mono ?_;rintro e w' ⟨rfl,rfl⟩;go_wp2;go_ret
  exact ⟨rfl,rfl⟩
 ·have hz:=nzE (n:=n) (by omega);have hp:=(E_size_pos n).2 (by omega);have HF:=Lib.hid (firstb n hp);have HNB:=Lib.hid (nb_first n (by omega));have hlt:=(E n)[0].toNat_lt
  have HB8:Hid (nb (E n)[0].toNat≤8):=by
   have h1:=nb_byte ⟨(E n)[0].toNat,by omega⟩;have h2:=Lib.bitLen_le8 ⟨(E n)[0].toNat,by omega⟩;simp only at h1 h2;unfold Hid;omega
  clear h0;go_enter Tryz.func110,Tryz.ntmps110
  go_wp2_with fail
  refine (validE_c n _ HN.out).mono ?_;rintro e w' ⟨rfl,rfl⟩;go_wp2_with fail
  refine (len8_c _ _ (by omega) (by omega)).mono ?_;rintro e w' ⟨rfl,rfl⟩;rw [Int.toNat_natCast];have hb8:=HB8.out
  have HE:Hid (((8*((E n).size-1)+nb (E n)[0].toNat:Nat):Int)=(nb n:Int)):=by
   rw [Hid,HF.out,E_size,←HNB.out]
  generalize nb (E n)[0].toNat=q at hb8 HE;go_wp2;go_ret
  exact ⟨ri (by rw [←HE.out];omega),rfl⟩
theorem i64_and1 (n:Int):bits .and .i64 n 1=n%2:=by
 have h1:(BitVec.ofInt 64 1).toNat=2^1-1:=by decide
 have key:(BitVec.ofInt 64 n &&& BitVec.ofInt 64 1).toNat=(n%((2^64:Nat):Int)).toNat%2^1:=by
  rw [BitVec.toNat_and,BitVec.toNat_ofInt,h1,Nat.and_two_pow_sub_one_eq_mod]
 show IntKind.i64.wrap ((BitVec.ofInt 64 n &&& BitVec.ofInt 64 1).toNat:Nat)=n%2;rw [key,IntKind.wrap_i64];omega
theorem bitB_of_dgt (n i:Nat):(bits .and .i64 ((dgt (E n) (i / 8):Int) / 2^(i%8)) 1==1)=bitB n i:=by
 rw [i64_and1,dgt_E];have h:=bit_byte n i
 have e:((n / 256^(i / 8)%256:Nat):Int) / 2^(i%8)=((n / 256^(i / 8)%256 / 2^(i%8):Nat):Int):=by
  rw [Int.natCast_ediv];simp
 rw [e];unfold bitB;rw [Bool.eq_iff_iff,beq_iff_eq,beq_iff_eq];omega
theorem bitB_out (n i:Nat) (h:(E n).size≤i / 8):bitB n i=false:=by
 have h1:=E_lt n
 have h2:256^(E n).size≤2^i:=by
  rw [pow256];exact Nat.pow_le_pow_right (by decide) (by omega)
 unfold bitB;rw [Nat.div_eq_of_lt (by omega)];rfl
theorem bit_c (n:Nat) (i:Nat) (w:World) (hn:n<256^128) (hi:i≤1000000) :
  Calls Tryz.prog 112 #[.string (E n),.int .i64 (i:Int)] w fun e w'=>e=.returned (.bool (bitB n i))∧w=w':=by
 have HN:=Lib.hid hn;have hs:=sz n hn;clear hn;by_cases h0:i / 8<(E n).size
 ·have hd:=dgt_lt (E n) (i / 8);have HQ:Hid (((i:Int) / 8).toNat=i / 8):=by unfold Hid;omega
  have HB:=Lib.hid (bitB_of_dgt n i);go_enter Tryz.func112,Tryz.ntmps112
  go_wp2_with fail
  refine (validE_c n _ HN.out).mono ?_;rintro e w' ⟨rfl,rfl⟩;go_wp2_with fail
  refine (digit_c (E n) _ _ (by omega) (by omega) (by omega)).mono ?_;rintro e w' ⟨rfl,rfl⟩;rw [HQ.out];go_wp2;go_ret
  exact ⟨rb HB.out,rfl⟩
 ·have HB:=Lib.hid (bitB_out n i (by omega));have hd:decide ((i:Int) / 8<((E n).size:Int))=false:=by rw [decide_eq_false_iff_not];omega
  go_enter Tryz.func112,Tryz.ntmps112
  go_wp2_with fail
  refine (validE_c n _ HN.out).mono ?_;rintro e w' ⟨rfl,rfl⟩;go_wp2;go_ret
  exact ⟨rb HB.out.symm,rfl⟩
theorem mul64_c (x y:Nat) (w:World) (hx:x<256^8) (hy:y<256^8) (h:x*y<256^8) :
  Calls Tryz.prog 145 #[.int .u64 x,.int .u64 y] w fun e w'=>e=.returned (.tuple #[.int .u64 0,.int .u64 ((x*y:Nat):Int)])∧w=w':=by
 rw [←u64_as_pow] at hx hy h;refine (Tryz.bits_Mul64 x y hx hy w).mono fun _ _ h2=>⟨?_,h2.2.symm⟩
 rw [h2.1,Nat.div_eq_of_lt h,Nat.mod_eq_of_lt h];rfl
theorem mul_small (a b:Nat) (w:World) (ha:a<256^8) (hb:b<256^8) (h:a*b<256^8) :
  Calls Tryz.prog 182 #[.string (E a),.string (E b)] w fun e w'=>e=.returned (.tuple #[.string (E (a*b)),.int .i64 0])∧Below w.heap.size w w':=by
 have h1:=(E_size_le a 8).2 ha;have h2:=(E_size_le b 8).2 hb;have HA:=Lib.hid ha;have HB:=Lib.hid hb;have HAB:=Lib.hid h;clear ha hb h;go_enter Tryz.func182,Tryz.ntmps182
 go_wp2_with fail
 refine (validE_c a _ (lt128 HA.out)).mono ?_;rintro e w' ⟨rfl,rfl⟩;go_wp2_with fail
 refine (validE_c b _ (lt128 HB.out)).mono ?_;rintro e w' ⟨rfl,rfl⟩;go_wp2_with fail
 refine (small_c a _ HA.out).mono ?_;rintro e w' ⟨rfl,rfl⟩;go_wp2_with fail
 refine (small_c b _ HB.out).mono ?_;rintro e w' ⟨rfl,rfl⟩;go_wp2_with fail
 refine (mul64_c a b _ HA.out HB.out HAB.out).mono ?_;rintro e w' ⟨rfl,rfl⟩;go_wp2_with fail
 refine (of_c (a*b) _ HAB.out).mono ?_;rintro e w1 ⟨rfl,hb1⟩;go_wp2;go_ret2
 exact ⟨rfl,hb1⟩
end
section
open Go.RowKit
theorem szI (z:Int) (h:z.natAbs<256^128):(E z.natAbs).size≤128:=sz _ h
theorem blk2a (w:World) (X Y:Array Value) (T U:TypeId):Blk ((w.alloc (.cells X T)).alloc (.cells Y U)) w.heap.size T X.toList:=(Blk.new w X T).alloc _
theorem blk2b (w:World) (X Y:Array Value) (T U:TypeId):Blk ((w.alloc (.cells X T)).alloc (.cells Y U)) (w.heap.size+1) U Y.toList:=by
 have:=Blk.new (w.alloc (.cells X T)) Y U;simpa using this
theorem blk3a (w:World) (X Y Z:Array Value) (T U V:TypeId):Blk (((w.alloc (.cells X T)).alloc (.cells Y U)).alloc (.cells Z V)) w.heap.size T X.toList:=(blk2a w X Y T U).alloc _
theorem blk3b (w:World) (X Y Z:Array Value) (T U V:TypeId):Blk (((w.alloc (.cells X T)).alloc (.cells Y U)).alloc (.cells Z V)) (w.heap.size+1) U Y.toList:=(blk2b w X Y T U).alloc _
theorem blk3c (w:World) (X Y Z:Array Value) (T U V:TypeId):Blk (((w.alloc (.cells X T)).alloc (.cells Y U)).alloc (.cells Z V)) (w.heap.size+2) V Z.toList:=by
 have:=Blk.new ((w.alloc (.cells X T)).alloc (.cells Y U)) Z V;simpa using this
theorem ifrom_c (n:Nat) (w:World) (hn:n<256^128) :
  Calls Tryz.prog 87 #[.string (E n)] w fun e w'=>e=.returned (.agg #[.bool (sg ((n:Int))),.string (E ((n:Int)).natAbs)])∧Below w.heap.size w w':=by
 have hs:=sz n hn;have HN:=Lib.hid hn;clear hn;have HZ:Hid ((n:Int)=if false then -(n:Int) else (n:Int)):=by simp [Hid]
 have hB:=Blk.new w #[Value.bool false,Value.string { data:=#[] }] 37;go_enter Tryz.func87,Tryz.ntmps87
 go_wp2_with fail
 refine (validE_c n _ HN.out).mono ?_;rintro e w' ⟨rfl,rfl⟩;go_wp2_with fail
 refine (made_c false n (n:Int) _ (by omega) HZ.out).mono ?_;rintro e w1 ⟨rfl,hb1⟩;replace hB:=hB.after hb1;obtain ⟨hBc0,hBf0,hBc1,hBf1⟩:=hB.x2;go_wp2;refine bodyPost_ret (v:=.agg #[.bool (sg ((n:Int))),.string (E ((n:Int)).natAbs)]) ?_ rfl ⟨rfl,?_⟩
 ·simp [results,Tryz.results87,go_sem,hBc0,hBc1]
 ·exact ((bt (b1 _ _) hb1).setCell (Nat.le_refl _) _).setCell (Nat.le_refl _) _
theorem iboth_c (x y:Int) (w:World) (hx:x.natAbs<256^128) (hy:y.natAbs<256^128) :
  Calls Tryz.prog 181 #[.agg #[.bool (sg (x)),.string (E (x).natAbs)],.agg #[.bool (sg (y)),.string (E (y).natAbs)]] w fun e w'=>e=.returned (.bool true)∧Below w.heap.size w w':=by
 have HX:=Lib.hid hx;have HY:=Lib.hid hy;clear hx hy;have hB:=blk2b w #[Value.bool (sg x),Value.string (E x.natAbs)] #[Value.bool (sg y),Value.string (E y.natAbs)] 37 37;go_enter Tryz.func181,Tryz.ntmps181
 go_wp2_with fail
 refine (ivalidI_c x _ HX.out).mono ?_;rintro e w1 ⟨rfl,hb1⟩;replace hB:=hB.after hb1;obtain ⟨hBc0,hBf0,hBc1,hBf1⟩:=hB.x2;go_wp2_with fail
 refine (ivalidI_c y _ HY.out).mono ?_;rintro e w2 ⟨rfl,hb2⟩;go_wp2;go_ret
 exact ⟨rfl,bt (bt (b2 _ _ _) hb1) hb2⟩
theorem neg_made (z:Int):-z=if (!sg z) then -(z.natAbs:Int) else (z.natAbs:Int):=by
 unfold sg;by_cases h:z<0
 ·rw [decide_eq_true h];simp;omega
 ·rw [decide_eq_false h];simp;omega
theorem ineg_c (z:Int) (w:World) (hz:z.natAbs<256^128) :
  Calls Tryz.prog 53 #[.agg #[.bool (sg (z)),.string (E (z).natAbs)]] w fun e w'=>e=.returned (.agg #[.bool (sg (-z)),.string (E (-z).natAbs)])∧Below w.heap.size w w':=by
 have HZ:=Lib.hid hz;have hs:=szI z hz;clear hz;have hA:=blk2a w #[Value.bool (sg z),Value.string (E z.natAbs)] #[Value.bool false,Value.string { data:=#[] }] 37 37;have hB:=blk2b w #[Value.bool (sg z),Value.string (E z.natAbs)] #[Value.bool false,Value.string { data:=#[] }] 37 37;have HM:=Lib.hid (neg_made z);go_enter Tryz.func53,Tryz.ntmps53
 go_wp2_with fail
 refine (ivalidI_c z _ HZ.out).mono ?_;rintro e w1 ⟨rfl,hb1⟩;replace hA:=hA.after hb1;replace hB:=hB.after hb1;obtain ⟨hAc0,hAf0,hAc1,hAf1⟩:=hA.x2;go_wp2_with fail
 refine (made_c (!sg z) z.natAbs (-z) _ (by omega) HM.out).mono ?_;rintro e w2 ⟨rfl,hb2⟩;replace hB:=hB.after hb2;obtain ⟨hBc0,hBf0,hBc1,hBf1⟩:=hB.x2;go_wp2;refine bodyPost_ret (v:=.agg #[.bool (sg (-z)),.string (E (-z).natAbs)]) ?_ rfl ⟨rfl,?_⟩
 ·simp [results,Tryz.results53,go_sem,hBc0,hBc1]
 ·exact ((bt (bt (b2 _ _ _) hb1) hb2).setCell (by simp) _).setCell (by simp) _
theorem mul_made (x y:Int):x*y=if (sg x != sg y) then -((x.natAbs*y.natAbs:Nat):Int) else ((x.natAbs*y.natAbs:Nat):Int):=by
 unfold sg;rw [Int.natCast_mul];by_cases h:x<0 <;> by_cases h2:y<0
 ·rw [decide_eq_true h,decide_eq_true h2];have e1:(x.natAbs:Int)=-x:=by omega
  have e2:(y.natAbs:Int)=-y:=by omega
  rw [e1,e2,Int.neg_mul_neg];simp
 ·rw [decide_eq_true h,decide_eq_false h2];have e1:(x.natAbs:Int)=-x:=by omega
  have e2:(y.natAbs:Int)=y:=by omega
  rw [e1,e2,Int.neg_mul];simp
 ·rw [decide_eq_false h,decide_eq_true h2];have e1:(x.natAbs:Int)=x:=by omega
  have e2:(y.natAbs:Int)=-y:=by omega
  rw [e1,e2,Int.mul_neg];simp
 ·rw [decide_eq_false h,decide_eq_false h2];have e1:(x.natAbs:Int)=x:=by omega
  have e2:(y.natAbs:Int)=y:=by omega
  rw [e1,e2];simp
theorem imul_small (x y:Int) (w:World) (hx:x.natAbs<256^8) (hy:y.natAbs<256^8) (hxy:x.natAbs*y.natAbs<256^8) :
  Calls Tryz.prog 160 #[.agg #[.bool (sg (x)),.string (E (x).natAbs)],.agg #[.bool (sg (y)),.string (E (y).natAbs)]] w fun e w'=>e=.returned (.tuple #[.agg #[.bool (sg (x*y)),.string (E (x*y).natAbs)],.int .i64 0])∧Below w.heap.size w w':=by
 have HX:=Lib.hid hx;have HY:=Lib.hid hy;have HXY:=Lib.hid hxy;have hs:=(E_size_le _ 8).2 hxy;clear hx hy hxy;have HM:=Lib.hid (mul_made x y);have hA:=blk3a w #[Value.bool (sg x),Value.string (E x.natAbs)] #[Value.bool (sg y),Value.string (E y.natAbs)] #[Value.bool false,Value.string { data:=#[] }] 37 37 37;have hB:=blk3b w #[Value.bool (sg x),Value.string (E x.natAbs)] #[Value.bool (sg y),Value.string (E y.natAbs)] #[Value.bool false,Value.string { data:=#[] }] 37 37 37;have hC:=blk3c w #[Value.bool (sg x),Value.string (E x.natAbs)] #[Value.bool (sg y),Value.string (E y.natAbs)] #[Value.bool false,Value.string { data:=#[] }] 37 37 37;go_enter Tryz.func160,Tryz.ntmps160
 go_wp2_with fail
 refine (iboth_c x y _ (lt128 HX.out) (lt128 HY.out)).mono ?_;rintro e w1 ⟨rfl,hb1⟩;replace hA:=hA.after hb1;replace hB:=hB.after hb1;replace hC:=hC.after hb1;obtain ⟨hAc0,hAf0,hAc1,hAf1⟩:=hA.x2;obtain ⟨hBc0,hBf0,hBc1,hBf1⟩:=hB.x2;go_wp2_with fail
 refine (mul_small x.natAbs y.natAbs _ HX.out HY.out HXY.out).mono ?_;rintro e w2 ⟨rfl,hb2⟩;clear hAc0 hAf0 hAc1 hAf1;clear hBc0 hBf0 hBc1 hBf1;replace hA:=hA.after hb2;replace hB:=hB.after hb2;replace hC:=hC.after hb2;obtain ⟨hAc0,hAf0,hAc1,hAf1⟩:=hA.x2;obtain ⟨hBc0,hBf0,hBc1,hBf1⟩:=hB.x2;go_wp2_with fail
 refine (made_c (sg x != sg y) (x.natAbs*y.natAbs) (x*y) _ (by omega) HM.out).mono ?_;rintro e w3 ⟨rfl,hb3⟩;clear hAc0 hAf0 hAc1 hAf1;clear hBc0 hBf0 hBc1 hBf1;replace hC:=hC.after hb3;obtain ⟨hCc0,hCf0,hCc1,hCf1⟩:=hC.x2;go_wp2;refine bodyPost_ret (v:=.tuple #[.agg #[.bool (sg (x*y)),.string (E (x*y).natAbs)],.int .i64 0]) ?_ rfl ⟨rfl,?_⟩
 ·simp [results,Tryz.results160,go_sem,hCc0,hCc1]
 ·exact ((bt (bt (bt (b3 _ _ _ _) hb1) hb2) hb3).setCell (by simp;omega) _).setCell (by simp;omega) _
end
end Go.Proofs.YtdoacbdkbbpamaaGreatDoor
