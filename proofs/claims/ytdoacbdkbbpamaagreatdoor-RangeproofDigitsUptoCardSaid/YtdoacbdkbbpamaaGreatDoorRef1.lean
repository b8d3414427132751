import Derived.Test.YtdoacbdkbbpamaaGreatDoorNat2
set_option linter.unusedVariables false
set_option linter.unusedSimpArgs false
set_option maxRecDepth 100000
set_option maxHeartbeats 16000000
namespace Go.Proofs.YtdoacbdkbbpamaaGreatDoor
section
open Go.RowKit
theorem sz (n:Nat) (h:n<256^128):(E n).size≤128:=(E_size_le n 128).2 h
theorem validE_c (n:Nat) (w:World) (h:n<256^128) :
  Calls Tryz.prog 59 #[.string (E n)] w fun e w'=>e=.returned (.bool true)∧w=w':=by
 have:=valid_c (E n) w (by have:=sz n h;omega);rw [vldB_E n h] at this;exact this
theorem cmp_c (a b:Nat) (w:World) (ha:a<256^128) (hb:b<256^128) :
  Calls Tryz.prog 32 #[.string (E a),.string (E b)] w fun e w'=>e=.returned (.int .i64 (cmpN a b))∧w=w':=by
 have h1:=sz a ha;have h2:=sz b hb;have HA:=Lib.hid ha;have HB:=Lib.hid hb;clear ha hb;go_enter Tryz.func32,Tryz.ntmps32
 go_wp2_with fail
 refine (validE_c a _ HA.out).mono ?_;rintro e w' ⟨rfl,rfl⟩;go_wp2_with fail
 refine (validE_c b _ HB.out).mono ?_;rintro e w' ⟨rfl,rfl⟩;go_wp2_with fail
 refine (compare_c a b _ (by omega) (by omega)).mono ?_;rintro e w' ⟨rfl,rfl⟩;go_wp2;go_ret
 exact ⟨rfl,rfl⟩
theorem digit_split (x P:Nat):x%256*P+x / 256*(P*256)=x*P:=by
 have h:=Nat.div_add_mod x 256
 calc
  x%256*P+x / 256*(P*256)=(256*(x / 256)+x%256)*P:=by
    rw [Nat.add_mul,Nat.add_comm,Nat.mul_comm P 256,←Nat.mul_assoc,Nat.mul_comm (x / 256) 256]
  _=x*P:=by rw [h]
theorem byteI (x:Nat) (z:Int) (h:z=x):Value.int .u8 (z%256)=u8v (UInt8.ofNat (x%256)):=by
 subst h;unfold u8v;rw [UInt8.toNat_ofNat',Nat.mod_eq_of_lt (by have:=Nat.mod_lt x (show 0<256 by decide);omega)];congr 1
theorem val_byte_cons (x k:Nat) (t:List UInt8) (hl:t.length=k):val (UInt8.ofNat (x%256) :: t)=x%256*256^k+val t:=by
 rw [val_cons,UInt8.toNat_ofNat',hl,Nat.mod_eq_of_lt (by have:=Nat.mod_lt x (show 0<256 by decide);omega)]
theorem add_step (a b k c x:Nat) (t:List UInt8) (hl:t.length=k) (hv:val t+c*256^k=a%256^k+b%256^k) (hx:x=c+(a / 256^k%256+b / 256^k%256)) :
  val (UInt8.ofNat (x%256) :: t)+x / 256*256^(k+1)=a%256^(k+1)+b%256^(k+1):=by
 rw [val_byte_cons x k t hl,mod_succ,mod_succ,Nat.pow_succ];have h:=digit_split x (256^k)
 have hx':x*256^k=c*256^k+a / 256^k%256*256^k+b / 256^k%256*256^k:=by
  rw [hx,Nat.add_mul,Nat.add_mul];omega
 omega
theorem add_end (a b n c:Nat) (t:List UInt8) (hl:t.length=n) (hv:val t+c*256^n=a%256^n+b%256^n) (hs:a+b<256^n):val t=a+b:=by
 have h1:=val_lt t;rw [hl] at h1;rw [Nat.mod_eq_of_lt (show a<256^n by omega),Nat.mod_eq_of_lt (show b<256^n by omega)] at hv;rcases Nat.eq_zero_or_pos c with h | h
 ·subst h;omega
 ·have:1*256^n≤c*256^n:=Nat.mul_le_mul_right _ h;omega
theorem E_lt (n:Nat):n<256^(E n).size:=(E_size_le n _).1 (Nat.le_refl _)
theorem add_room (a b m:Nat) (h1:(E a).size≤m) (h2:(E b).size≤m):a+b<256^(m+1):=by
 have ha:=Nat.lt_of_lt_of_le (E_lt a) (Nat.pow_le_pow_right (show 0<256 by decide) h1);have hb:=Nat.lt_of_lt_of_le (E_lt b) (Nat.pow_le_pow_right (show 0<256 by decide) h2);rw [Nat.pow_succ];omega
theorem front_cell {wr:World} {g:Nat} {T:TypeId} {n k j:Nat} {t:List UInt8} (hb:Blk wr g T (u8s (List.replicate (n-k) 0++t))) (hk:k<n) (hj:j=n-1-k):wr.cell? ⟨g,j,none⟩=some (.int .u8 0):=by
 subst hj;rw [hb.cell];simp [u8s,u8v,List.getElem?_append,show n-1-k<n-k by omega]
theorem front_set {wr:World} {g:Nat} {T:TypeId} {n k j:Nat} {t:List UInt8} (hb:Blk wr g T (u8s (List.replicate (n-k) 0++t))) (hk:k<n) (hj:j=n-1-k) (d:UInt8) :
  Blk (wr.setCell ⟨g,j,none⟩ (u8v d)) g T (u8s (List.replicate (n-(k+1)) 0++d :: t)):=by
 subst hj;have:=hb.set (n-1-k) (u8v d);rw [u8s_set,show n-k=(n-1-k)+1 by omega,set_zeros _ _ _ _ rfl] at this;rw [show n-(k+1)=n-1-k by omega];exact this
theorem add_c (a b:Nat) (w:World) (ha:a<256^128) (hb:b<256^128) (hs:a+b<256^128) :
  Calls Tryz.prog 131 #[.string (E a),.string (E b)] w fun e w'=>e=.returned (.tuple #[.string (E (a+b)),.int .i64 0])∧Below w.heap.size w w':=by
 have h1:=sz a ha;have h2:=sz b hb;have HA:=Lib.hid ha;have HB:=Lib.hid hb;clear ha hb;have HS:=Lib.hid hs;clear hs;obtain ⟨n,hn⟩:∃n:Nat,n=max (E a).size (E b).size+1:=⟨_,rfl⟩;have HN:Hid (max ((E a).size:Int) ((E b).size:Int)+1=(n:Int)):=by unfold Hid;omega
 have HR:Hid (a+b<256^n):=by rw [hn];exact add_room a b _ (by omega) (by omega)
 have hnb:n≤129:=by omega
 have hmk:=run_mk (P:=Tryz.prog) Tryz.underlying122 info_u8 n (by omega) (by omega);rw [←HN.out] at hmk;clear hn;go_enter Tryz.func131,Tryz.ntmps131
 go_wp2_with fail
 refine (validE_c a _ HA.out).mono ?_;rintro e w' ⟨rfl,rfl⟩;go_wp2_with fail
 refine (validE_c b _ HB.out).mono ?_;rintro e w' ⟨rfl,rfl⟩;go_wp2;clear hmk;rw [HN.out];go_loopw [8,27] (fun x i wr=>∃(k c:Nat) (t:List UInt8),k≤n∧c≤1∧i=.int .i64 k∧x=.int .i64 c∧t.length=k∧val t+c*256^k=a%256^k+b%256^k∧Blk wr w.heap.size 5 (u8s (List.replicate (n-k) 0++t))∧Below w.heap.size w wr) (fun _ i _=>n-(intOf i).toNat)
 case atStart =>
  refine ⟨0,0,[],by omega,by omega,rfl,rfl,rfl,by simp [val,Nat.mod_one],?_,(Below.refl _ _).alloc (Nat.le_refl _) _⟩;have:=Blk.new w (List.replicate n (Value.int .u8 0)).toArray 5;simpa [u8s,u8v] using this
 case round =>
  obtain ⟨k,c,t,hk,hc,rfl,rfl,htl,hv,hb,hbel⟩:=hrel;have HV:=Lib.hid hv;clear hv;have HL:=Lib.hid htl;clear htl;by_cases hlt:k<n
  ·have hcell:=front_cell hb hlt rfl;have hfr:=hb.free (n-1-k);have hd1:=dgt_lt (E a) k;have hd2:=dgt_lt (E b) k;go_wp2_with fail
   refine (digit_c (E a) k _ (by omega) (by omega) (by omega)).mono ?_;rintro e w' ⟨rfl,rfl⟩;rw [Int.toNat_natCast];go_wp2_with fail
   refine (digit_c (E b) k _ (by omega) (by omega) (by omega)).mono ?_;rintro e w' ⟨rfl,rfl⟩;rw [Int.toNat_natCast];go_wp2;go_roundw
   case rel =>
    obtain ⟨x,hx⟩:∃x,x=c+(dgt (E a) k+dgt (E b) k):=⟨_,rfl⟩;rw [byteI x _ (by omega)];refine ⟨k+1,x / 256,UInt8.ofNat (x%256) :: t,by omega,by omega,by go_num,vi (by omega),by simp [HL.out],add_step a b k c x t HL.out HV.out (by rw [hx,dgt_E,dgt_E]),front_set hb hlt rfl _,hbel.setCell (Nat.le_refl _) _⟩
   case measure=>simp [intOf];omega
  ·obtain rfl:k=n:=by omega
   have hr:Row wr w.heap.size 0 t:=by
    have:=hb.row;simpa using this
   have HE:=Lib.hid (add_end a b k c t HL.out HV.out HR.out);go_wp2_with fail
   have:=(trimmed_c w.heap.size 0 k t wr (by rw [HL.out];omega) (by omega) hr);rw [HL.out,HE.out] at this;refine this.mono ?_;rintro e w' ⟨rfl,rfl⟩;go_wp2_with fail
   refine (fitting_c _ _ HS.out).mono ?_;rintro e w' ⟨rfl,rfl⟩;go_wp2;go_ret2
   exact ⟨rfl,hbel⟩
theorem sub_step (a b k c y:Nat) (x:Int) (t:List UInt8) (hl:t.length=k) (hv:val t+b%256^k=a%256^k+c*256^k) (hx:x=(a / 256^k%256:Nat)-(b / 256^k%256:Nat)-(c:Int)) (c':Nat) (hy:(y:Int)=x+256*c') (hy2:y<256) :
  val (UInt8.ofNat (y%256) :: t)+b%256^(k+1)=a%256^(k+1)+c'*256^(k+1):=by
 rw [val_byte_cons y k t hl,mod_succ,mod_succ,Nat.pow_succ,Nat.mod_eq_of_lt hy2];have h1:y+b / 256^k%256+c=a / 256^k%256+256*c':=by omega
 have h2:=congrArg (·*256^k) h1;simp only [Nat.add_mul] at h2
 have h3:256*c'*256^k=c'*(256^k*256):=by
  rw [Nat.mul_comm (256^k) 256,←Nat.mul_assoc,Nat.mul_comm c' 256]
 omega
theorem sub_end (a b n c:Nat) (t:List UInt8) (hl:t.length=n) (hv:val t+b%256^n=a%256^n+c*256^n) (ha:a<256^n) (hb:b≤a):val t=a-b:=by
 have h1:=val_lt t;rw [hl] at h1;rw [Nat.mod_eq_of_lt ha,Nat.mod_eq_of_lt (show b<256^n by omega)] at hv;rcases Nat.eq_zero_or_pos c with h | h
 ·subst h;omega
 ·have:1*256^n≤c*256^n:=Nat.mul_le_mul_right _ h;omega
theorem byteJ (y:Nat) (z:Int) (h:z=y) (hy:y<256):Value.int .u8 z=u8v (UInt8.ofNat (y%256)):=by
 rw [←byteI y z h];congr 1;omega
theorem less_c (a b:Nat) (w:World) (ha:(E a).size≤1000000) (hb:b≤a) :
  Calls Tryz.prog 130 #[.string (E a),.string (E b)] w fun e w'=>e=.returned (.string (E (a-b)))∧Below w.heap.size w w':=by
 have h2:(E b).size≤(E a).size:=(E_size_le b _).2 (Nat.lt_of_le_of_lt hb (E_lt a));have HAl:=Lib.hid (E_lt a);have HB:=Lib.hid hb;clear hb;obtain ⟨n,hn⟩:∃n:Nat,(E a).size=n:=⟨_,rfl⟩;have hmk:=run_mk (P:=Tryz.prog) Tryz.underlying122 info_u8 n (by omega) (by omega);have HN:Hid (((E a).size:Int)=(n:Int)):=by unfold Hid;omega
 have HN2:=Lib.hid hn;rw [←HN.out] at hmk;have hnb:n≤1000000:=by omega
 have h2b:(E b).size≤1000000:=by omega
 rw [hn] at HAl;clear hn;go_enter Tryz.func130,Tryz.ntmps130
 go_wp2;clear hmk;rw [HN.out];go_loopw [7,15] (fun x i wr=>∃(k c:Nat) (t:List UInt8),k≤n∧c≤1∧i=.int .i64 k∧x=.int .i64 c∧t.length=k∧val t+b%256^k=a%256^k+c*256^k∧Blk wr w.heap.size 5 (u8s (List.replicate (n-k) 0++t))∧Below w.heap.size w wr) (fun _ i _=>n-(intOf i).toNat)
 case atStart =>
  refine ⟨0,0,[],by omega,by omega,rfl,rfl,rfl,by simp [val,Nat.mod_one],?_,(Below.refl _ _).alloc (Nat.le_refl _) _⟩;have:=Blk.new w (List.replicate n (Value.int .u8 0)).toArray 5;simpa [u8s,u8v] using this
 case round =>
  obtain ⟨k,c,t,hk,hc,rfl,rfl,htl,hv,hb,hbel⟩:=hrel;have HV:=Lib.hid hv;clear hv;have HL:=Lib.hid htl;clear htl;by_cases hlt:k<n
  ·have hcell:=front_cell hb hlt rfl;have hfr:=hb.free (n-1-k);have hd1:=dgt_lt (E a) k;have hd2:=dgt_lt (E b) k;go_wp2_with fail
   refine (digit_c (E a) k _ (by omega) (by omega) (by omega)).mono ?_;rintro e w' ⟨rfl,rfl⟩;rw [Int.toNat_natCast];go_wp2_with fail
   refine (digit_c (E b) k _ (by omega) (by omega) (by omega)).mono ?_;rintro e w' ⟨rfl,rfl⟩;rw [Int.toNat_natCast];by_cases hneg:(dgt (E a) k:Int)-(dgt (E b) k:Int)-(c:Int)<0
   ·go_wp2;go_roundw
    case rel =>
     obtain ⟨y,hy⟩:∃y:Nat,(y:Int)=(dgt (E a) k:Int)-(dgt (E b) k:Int)-(c:Int)+256:=⟨((dgt (E a) k:Int)-(dgt (E b) k:Int)-(c:Int)+256).toNat,by omega⟩;rw [byteJ y ((dgt (E a) k:Int)-(dgt (E b) k:Int)-(c:Int)+256) (by omega) (by omega)];refine ⟨k+1,1,UInt8.ofNat (y%256) :: t,by omega,by omega,by go_num,vi (by omega),by simp [HL.out],sub_step a b k c y _ t HL.out HV.out (by rw [←dgt_E,←dgt_E]) 1 (by omega) (by omega),front_set hb hlt rfl _,hbel.setCell (Nat.le_refl _) _⟩
    case measure=>simp [intOf];omega
   ·go_wp2;go_roundw
    case rel =>
     obtain ⟨y,hy⟩:∃y:Nat,(y:Int)=(dgt (E a) k:Int)-(dgt (E b) k:Int)-(c:Int):=⟨((dgt (E a) k:Int)-(dgt (E b) k:Int)-(c:Int)).toNat,by omega⟩;rw [byteJ y ((dgt (E a) k:Int)-(dgt (E b) k:Int)-(c:Int)) (by omega) (by omega)];refine ⟨k+1,0,UInt8.ofNat (y%256) :: t,by omega,by omega,by go_num,vi (by omega),by simp [HL.out],sub_step a b k c y _ t HL.out HV.out (by rw [←dgt_E,←dgt_E]) 0 (by omega) (by omega),front_set hb hlt rfl _,hbel.setCell (Nat.le_refl _) _⟩
    case measure=>simp [intOf];omega
  ·obtain rfl:k=n:=by omega
   have hr:Row wr w.heap.size 0 t:=by
    have:=hb.row;simpa using this
   have HE:=Lib.hid (sub_end a b k c t HL.out HV.out HAl.out HB.out);go_wp2_with fail
   have:=(trimmed_c w.heap.size 0 k t wr (by rw [HL.out];omega) (by omega) hr);rw [HL.out,HE.out] at this;refine this.mono ?_;rintro e w' ⟨rfl,rfl⟩;go_wp2;go_ret
   exact ⟨rfl,hbel⟩
end
section
open Go.RowKit
theorem bt {a b c:World} (h:Below a.heap.size a b) (k:Below b.heap.size b c):Below a.heap.size a c:=h.trans (k.mono h.size)
theorem lt128 {n:Nat} (h:n<256^8):n<256^128:=Nat.lt_of_lt_of_le h (Nat.pow_le_pow_right (by decide) (by decide))
theorem wrapU (n:Nat) (h:n<256^8):IntKind.u64.wrap (n:Int)=(n:Int):=by
 rw [←u64_as_pow] at h;simp [IntKind.wrap,IntKind.signed,IntKind.bits];omega
theorem wrapU_div (a b:Nat) (h:a / b<256^8):IntKind.u64.wrap ((a:Int) / (b:Int))=(a:Int) / (b:Int):=by
 have:=wrapU _ h;rwa [Int.natCast_ediv] at this
theorem wrapU_mod (a b:Nat) (h:a%b<256^8):IntKind.u64.wrap ((a:Int)%(b:Int))=(a:Int)%(b:Int):=by
 have:=wrapU _ h;rwa [Int.natCast_emod] at this
theorem ofDiv_c (a b:Nat) (w:World) (h:a / b<256^8) :
  Calls Tryz.prog 67 #[.int .u64 ((a:Int) / (b:Int))] w fun e w'=>e=.returned (.string (E (a / b)))∧Below w.heap.size w w':=by
 rw [←Int.natCast_ediv];exact of_c _ w h
theorem ofMod_c (a b:Nat) (w:World) (h:a%b<256^8) :
  Calls Tryz.prog 67 #[.int .u64 ((a:Int)%(b:Int))] w fun e w'=>e=.returned (.string (E (a%b)))∧Below w.heap.size w w':=by
 rw [←Int.natCast_emod];exact of_c _ w h
theorem cmp_neg (a b:Nat) (h:a<b):cmpN a b<0:=by unfold cmpN;rw [if_pos h];decide
theorem cmp_nneg (a b:Nat) (h:b≤a):¬ cmpN a b<0:=by unfold cmpN;rw [if_neg (by omega)];split <;> decide
theorem sub_c (a b:Nat) (w:World) (ha:a<256^128) (hb:b≤a) :
  Calls Tryz.prog 99 #[.string (E a),.string (E b)] w fun e w'=>e=.returned (.tuple #[.string (E (a-b)),.int .i64 0])∧Below w.heap.size w w':=by
 have HA:=Lib.hid ha;have HB:=Lib.hid (show b<256^128 by omega);have h1:=sz a ha;have h2:=sz b HB.out;have HL:=Lib.hid hb;have hc:=cmp_nneg a b hb;clear ha hb;go_enter Tryz.func99,Tryz.ntmps99
 go_wp2_with fail
 refine (validE_c a _ HA.out).mono ?_;rintro e w' ⟨rfl,rfl⟩;go_wp2_with fail
 refine (validE_c b _ HB.out).mono ?_;rintro e w' ⟨rfl,rfl⟩;go_wp2_with fail
 refine (compare_c a b _ (by omega) (by omega)).mono ?_;rintro e w' ⟨rfl,rfl⟩;go_wp2_with fail
 refine (less_c a b _ (by omega) HL.out).mono ?_;rintro e w1 ⟨rfl,hb1⟩;go_wp2;go_ret2
 exact ⟨rfl,hb1⟩
theorem sub_neg (a b:Nat) (w:World) (hb2:b<256^128) (hb:a<b) :
  Calls Tryz.prog 99 #[.string (E a),.string (E b)] w fun e w'=>e=.returned (.tuple #[.string (E 0),.int .i64 2])∧w=w':=by
 have HB:=Lib.hid hb2;have HA:=Lib.hid (show a<256^128 by omega);have h1:=sz a HA.out;have h2:=sz b hb2;have hc:=cmp_neg a b hb;clear hb2 hb;go_enter Tryz.func99,Tryz.ntmps99
 go_wp2_with fail
 refine (validE_c a _ HA.out).mono ?_;rintro e w' ⟨rfl,rfl⟩;go_wp2_with fail
 refine (validE_c b _ HB.out).mono ?_;rintro e w' ⟨rfl,rfl⟩;go_wp2_with fail
 refine (compare_c a b _ (by omega) (by omega)).mono ?_;rintro e w' ⟨rfl,rfl⟩;go_wp2;go_ret2
 exact ⟨rfl,rfl⟩
theorem divided_c (a b:Nat) (w:World) (ha:a<256^8) (hb:b<256^128) (h0:0<b) :
  Calls Tryz.prog 129 #[.string (E a),.string (E b)] w fun e w'=>e=.returned (.tuple #[.string (E (a / b)),.string (E (a%b))])∧Below w.heap.size w w':=by
 have h1:(E a).size≤8:=(E_size_le a 8).2 ha;have h2:=sz b hb;by_cases hlt:a<b
 ·have hc:=cmp_neg a b hlt;have H1:=Lib.hid (Nat.div_eq_of_lt hlt);have H2:=Lib.hid (Nat.mod_eq_of_lt hlt);clear ha hb h0 hlt;go_enter Tryz.func129,Tryz.ntmps129
  go_wp2_with fail
  refine (compare_c a b _ (by omega) (by omega)).mono ?_;rintro e w' ⟨rfl,rfl⟩;go_wp2;go_ret2
  exact ⟨r2 (vE H1.out.symm) (vE H2.out.symm),Below.refl _ _⟩
 ·have hc:=cmp_nneg a b (by omega);have HA:=Lib.hid ha;have HB:=Lib.hid (show b<256^8 by omega);have HQ:=Lib.hid (Nat.lt_of_le_of_lt (Nat.div_le_self a b) ha);have HR:=Lib.hid (Nat.lt_of_le_of_lt (Nat.mod_le a b) ha);have hz:((b:Int)==0)=false:=by rw [beq_eq_false_iff_ne];omega
  have hau:a<18446744073709551616:=by rw [u64_as_pow];exact ha
  have hbu:b<18446744073709551616:=by rw [u64_as_pow];exact HB.out
  clear ha hb hlt;go_enter Tryz.func129,Tryz.ntmps129
  go_wp2_with fail
  refine (compare_c a b _ (by omega) (by omega)).mono ?_;rintro e w' ⟨rfl,rfl⟩;go_wp2_with fail
  refine (small_c a _ HA.out).mono ?_;rintro e w' ⟨rfl,rfl⟩;go_wp2_with fail
  refine (small_c b _ HB.out).mono ?_;rintro e w' ⟨rfl,rfl⟩;go_wp2_with fail
  have hw1:=wrapU_div a b HQ.out;have hw2:=wrapU_mod a b HR.out;refine wp_region_grew (by kernel_rfl) (by kernel_rfl) ?_;repeat (go_big_quiet_step ((intro hC;first | (go_at_call_of 67 (Value.int .u64 ((a:Int) / (b:Int)));exact grew_of hC (ofDiv_c a b _ HQ.out)) | (go_at_call_of 67 (Value.int .u64 ((a:Int)%(b:Int)));exact grew_of hC (ofMod_c a b _ HR.out)))))
  refine wpQuiet_nil ?_;intro w1 hb1;go_wp2;go_ret2
  exact ⟨rfl,hb1.out⟩
end
section
open Go.RowKit
theorem bdrew {B:Nat} {a w:World} (h:Below B a w) (n:Nat):Below B a (w.drewN n):=below_drewN h n
theorem rvalid_c (s:ByteArray) (w:World) (hs:s.size≤4611686018427387904) :
  Calls Tryz.prog 42 #[.string s] w fun e w'=>e=.returned (.bool (vldB s))∧w=w':=by
 by_cases h1:128<s.size
 ·have HV:=Lib.hid (vldB_long h1);go_enter Tryz.func42,Tryz.ntmps42
  go_wp2;go_ret
  exact ⟨rb HV.out.symm,rfl⟩
 ·by_cases h2:s.size=0
  ·obtain rfl:s=ByteArray.empty:=by
    apply ByteArray.ext;apply Array.eq_empty_of_size_eq_zero;exact h2
   go_enter Tryz.func42,Tryz.ntmps42
   go_wp2;go_ret
   exact ⟨rb vldB_empty.symm,rfl⟩
  ·have h3:0<s.size:=by omega
   have h4:s.size≤128:=by omega
   have HV:=Lib.hid (vldB_pos h3 h4);have hz:((s.size:Int)==0)=false:=by rw [beq_eq_false_iff_ne];omega
   have hne:=nz_str h3;go_enter Tryz.func42,Tryz.ntmps42
   go_wp2;go_ret
   exact ⟨rb HV.out.symm,rfl⟩
theorem rvalidE_c (n:Nat) (w:World) (h:n<256^128) :
  Calls Tryz.prog 42 #[.string (E n)] w fun e w'=>e=.returned (.bool true)∧w=w':=by
 have:=rvalid_c (E n) w (by have:=sz n h;omega);rw [vldB_E n h] at this;exact this
theorem rat_c (s:ByteArray) (i:Int) (w:World) (hs:s.size≤4611686018427387904) (h0:0≤i) (h1:i≤4611686018427387904) :
  Calls Tryz.prog 138 #[.string s,.int .i64 i] w fun e w'=>e=.returned (.int .i64 (dgt s i.toNat))∧w=w':=by
 by_cases h2:(s.size:Int)≤i
 ·have HV:=Lib.hid (dgt_out s i.toNat (by omega));go_enter Tryz.func138,Tryz.ntmps138
  go_wp2;go_ret
  exact ⟨ri (by rw [HV.out];rfl),rfl⟩
 ·obtain ⟨k,rfl⟩:=Int.eq_ofNat_of_zero_le h0;have HV:=Lib.hid (dgt_at s k (s.size-1-k) (by omega) rfl);go_enter Tryz.func138,Tryz.ntmps138
  go_wp2;go_ret
  exact ⟨ri (by rw [wb,HV.out,Int.toNat_natCast]),rfl⟩
theorem rtrim_c (b o c:Nat) (l:List UInt8) (w:World) (hc:l.length≤c) (hm:c≤4611686018427387904) (hrow:Row w b o l) :
  Calls Tryz.prog 79 #[.slice (some ⟨b,o,none⟩) l.length c] w fun e w'=>e=.returned (.string (E (val l)))∧w=w':=by
 go_enter Tryz.func79,Tryz.ntmps79
 go_wp2;go_loop [3] (fun v=>∃k:Nat,k≤l.length∧v=.int .i64 k∧val (l.drop k)=val l) (fun v=>l.length-(intOf v).toNat)
 case atStart=>exact ⟨0,Nat.zero_le _,rfl,rfl⟩
 case round =>
  obtain ⟨k,hk,rfl,hv⟩:=hrel;have HV:=Lib.hid hv;clear hv;by_cases hlt:k<l.length
  ·have hcell:=hrow k hlt;have hcv:=(hrow.drop k).string (c:=c-k);rw [List.length_drop] at hcv;have HR:=Lib.hid hrow;clear hrow;have hz:0≤(l[k].toNat:Int)∧(l[k].toNat:Int)≤255:=by have:=l[k].toNat_lt;omega
   generalize hzz:(l[k].toNat:Int)=z at hcell hz;have HZ:=Lib.hid hzz;clear hzz;obtain ⟨hz1,hz2⟩:=hz;by_cases hz0:z=0
   ·have hzb:(z==0)=true:=by simp [hz0]
    have HZ0:=Lib.hid hz0;clear hz0;go_wp2;go_round
    case rel=>exact ⟨k+1,by omega,by go_num,trim_step l k hlt (HZ.out.trans HZ0.out) HV.out⟩
    case measure=>simp [intOf];omega
   ·have hzb:(z==0)=false:=by simp [hz0]
    have HZ0:=Lib.hid hz0;clear hz0;have hck:(k==c)=false:=by rw [beq_eq_false_iff_ne];omega
    have hck2:¬ c=k:=by omega
    have hck3:¬ k=c:=by omega
    go_wp2;go_ret
    exact ⟨rs (trim_end l k (canon_drop l k hlt (by rw [HZ.out];exact HZ0.out)) HV.out),rfl⟩
  ·obtain rfl:k=l.length:=by omega
   have hcv:∀o' cp,(convert 122 31 (.slice (some ⟨b,o',none⟩) 0 cp)).run Tryz.prog w=.ok (.string ⟨#[]⟩) w:=fun o' cp=>Row.string (l:=[]) (fun j h=>by simp at h)
   have HE:Hid (E (val l)=⟨#[]⟩):=by rw [←HV.out];simp [Hid,val,E,enc_zero]
   by_cases hcl:c=l.length
   all_goals
    go_wp2;go_ret
    exact ⟨rs HE.out.symm,rfl⟩
theorem rof_c (n:Nat) (w:World) (h:n<256^8) :
  Calls Tryz.prog 46 #[.int .u64 (n:Int)] w fun e w'=>e=.returned (.string (E n))∧Below w.heap.size w w':=by
 have H:=Lib.hid h;rw [←u64_as_pow] at h;have hmk:∀W:World,(Instr.makeSlice 122 (.int .i64 8) (.int .i64 8)).run Tryz.prog W=.ok (.slice (some ⟨W.heap.size,0,none⟩) 8 8) (W.alloc (.cells (List.replicate 8 (Value.int .u8 0)).toArray 5)):=run_mk (P:=Tryz.prog) Tryz.underlying122 info_u8 8 (by omega) (by omega);go_enter Tryz.func46,Tryz.ntmps46
 go_wp2;go_loopw [0,4] (fun x i wr=>∃(k:Nat) (t:List UInt8),k≤8∧i=.int .i64 (7-(k:Int))∧x=.int .u64 (n / 256^k:Nat)∧t.length=k∧val t=n%256^k∧Blk wr w.heap.size 5 (u8s (List.replicate (8-k) 0++t))∧Below w.heap.size w wr) (fun _ i _=>(intOf i+1).toNat)
 case atStart =>
  refine ⟨0,[],by omega,rfl,by simp,rfl,by simp [val,Nat.mod_one],Blk.new _ _ _,(Below.refl _ _).alloc (Nat.le_refl _) _⟩
 case round =>
  obtain ⟨k,t,hk,rfl,rfl,htl,hv,hb,hbel⟩:=hrel;have HV:=Lib.hid hv;clear hv;have HL:=Lib.hid htl;clear htl;have hq:n / 256^k<18446744073709551616:=Nat.lt_of_le_of_lt (Nat.div_le_self _ _) h;have HD:Hid (n / 256^(k+1)=n / 256^k / 256):=by unfold Hid;rw [Nat.pow_succ,Nat.div_div_eq_div_mul]
  generalize hqq:n / 256^k=q at hq;have HQ:=Lib.hid hqq;clear hqq;by_cases hlt:k<8
  ·have hcell:=front_cell (j:=7-k) hb hlt (by omega);have hfr:=hb.free (7-k);go_wp2;go_roundw
   case rel =>
    rw [byteI q _ rfl];refine ⟨k+1,UInt8.ofNat (q%256) :: t,by omega,vi (by omega),vi (by rw [HD.out,HQ.out];omega),by simp [HL.out],?_,?_,hbel.setCell (Nat.le_refl _) _⟩
    ·rw [←HQ.out];exact val_digit_cons n k t HL.out HV.out
    ·exact front_set hb hlt (by omega) _
   case measure=>simp [intOf];omega
  ·obtain rfl:k=8:=by omega
   have hr:Row wr w.heap.size 0 t:=hb.row;have HE:Hid (val t=n):=by rw [Hid,HV.out,Nat.mod_eq_of_lt H.out]
   go_wp2_with fail
   have:=(rtrim_c w.heap.size 0 8 t wr (by rw [HL.out];omega) (by omega) hr);rw [HL.out] at this;refine this.mono ?_;rintro e w' ⟨rfl,rfl⟩;go_wp2;go_ret
   exact ⟨rs (by rw [HE.out]),hbel⟩
theorem wrap_add_byte (a:Nat) (b:UInt8) (h:a*256+b.toNat<18446744073709551616) :
  IntKind.u64.wrap (IntKind.u64.wrap ((a:Int)*256)+IntKind.u64.wrap (b.toNat:Int))=((a*256+b.toNat:Nat):Int):=by
 simp [IntKind.wrap,IntKind.signed,IntKind.bits];omega
theorem ru64_c (n:Nat) (w:World) (h:n<256^8) :
  Calls Tryz.prog 77 #[.string (E n)] w fun e w'=>e=.returned (.int .u64 n)∧w=w':=by
 have h1:=(E_size_le n 8).2 h;have H:=Lib.hid h;clear h;go_enter Tryz.func77,Tryz.ntmps77
 go_wp2;go_loop [3,4] (fun x i=>∃k:Nat,k≤(E n).size∧i=.int .i64 k∧x=.int .u64 (val ((E n).data.toList.take k):Nat)) (fun _ i=>8-(intOf i).toNat)
 case atStart=>exact ⟨0,by omega,rfl,rfl⟩
 case round =>
  obtain ⟨k,hk,rfl,rfl⟩:=hrel;by_cases hlt:k<(E n).size
  ·have HS:Hid (val ((E n).data.toList.take (k+1))=val ((E n).data.toList.take k)*256+(E n)[k].toNat∧val ((E n).data.toList.take (k+1))<18446744073709551616):=
    ⟨val_take_succ (E n) k hlt,val_take_le (E n) (k+1) (by omega)⟩
   go_wp2;go_round
   case rel=>exact ⟨k+1,by omega,by go_num,by rw [wrap_add_byte _ _ (by rw [←HS.out.1];exact HS.out.2),HS.out.1]⟩
   case measure=>simp [intOf];omega
  ·obtain rfl:k=(E n).size:=by omega
   have HE:Hid (val ((E n).data.toList.take (E n).size)=n):=by
    rw [List.take_of_length_le (by simp)];exact val_E n
   go_wp2;go_ret
   exact ⟨ri (congrArg (fun x:Nat=>(x:Int)) HE.out),rfl⟩
theorem rsmall_c (n:Nat) (w:World) (h:n<256^8) :
  Calls Tryz.prog 40 #[.string (E n)] w fun e w'=>e=.returned (.tuple #[.int .u64 n,.bool true])∧w=w':=by
 have h1:=(E_size_le n 8).2 h;have h2:=Lib.hid (lt128 h);have H:=Lib.hid h;clear h;go_enter Tryz.func40,Tryz.ntmps40
 go_wp2_with fail
 refine (rvalidE_c n _ h2.out).mono ?_;rintro e w' ⟨rfl,rfl⟩;go_wp2_with fail
 refine (ru64_c n _ H.out).mono ?_;rintro e w' ⟨rfl,rfl⟩;go_wp2;go_ret2
 exact ⟨rfl,rfl⟩
theorem rsmall_no (n:Nat) (w:World) (h:256^8≤n) (hm:(E n).size≤4611686018427387904) :
  Calls Tryz.prog 40 #[.string (E n)] w fun e w'=>e=.returned (.tuple #[.int .u64 0,.bool false])∧w=w':=by
 have h1:8<(E n).size:=by
  rcases Nat.lt_or_ge 8 (E n).size with h2 | h2
  ·exact h2
  ·have:=(E_size_le n 8).1 h2;omega
 clear h;cases hv:vldB (E n)
 ·go_enter Tryz.func40,Tryz.ntmps40
  go_wp2_with fail
  refine (rvalid_c (E n) _ (by omega)).mono ?_;rintro e w' ⟨rfl,rfl⟩;rw [hv];go_wp2;go_ret2
  exact ⟨rfl,rfl⟩
 ·go_enter Tryz.func40,Tryz.ntmps40
  go_wp2_with fail
  refine (rvalid_c (E n) _ (by omega)).mono ?_;rintro e w' ⟨rfl,rfl⟩;rw [hv];go_wp2;go_ret2
  exact ⟨rfl,rfl⟩
end
end Go.Proofs.YtdoacbdkbbpamaaGreatDoor
