import Derived.Test.YtcfjcenmcpankaaGreatDoorNat2
set_option linter.unusedVariables false
set_option linter.unusedSimpArgs false
set_option maxRecDepth 100000
set_option maxHeartbeats 16000000
namespace Go.Proofs.YtcfjcenmcpankaaGreatDoor
open Go.RowKit
theorem sz (n:Nat) (h:n<256^128):(E n).size≤128:=(E_size_le n 128).2 h
theorem validE_c (n:Nat) (w:World) (h:n<256^128) :
  Calls Tryz.prog 49 #[.string (E n)] w fun e w'=>e=.returned (.bool true)∧w=w':=by
 have:=valid_c (E n) w (by have:=sz n h;omega);rw [vldB_E n h] at this;exact this
theorem cmp_c (a b:Nat) (w:World) (ha:a<256^128) (hb:b<256^128) :
  Calls Tryz.prog 50 #[.string (E a),.string (E b)] w fun e w'=>e=.returned (.int .i64 (cmpN a b))∧w=w':=by
 have h1:=sz a ha;have h2:=sz b hb;have HA:=Lib.hid ha;have HB:=Lib.hid hb;clear ha hb;go_enter Tryz.func50,Tryz.ntmps50
 go_wp2_with fail
 refine (validE_c a _ HA.out).mono ?_;rintro e w' ⟨rfl,rfl⟩;go_wp2_with fail
 refine (validE_c b _ HB.out).mono ?_;rintro e w' ⟨rfl,rfl⟩;go_wp2_with fail
 refine (compare_c a b _ (by omega) (by omega)).mono ?_;rintro e w' ⟨rfl,rfl⟩;go_wp2;go_ret
 exact ⟨rfl,rfl⟩
theorem digit_split (x P:Nat):x%256*P+x / 256*(P*256)=x*P:=by
 have h:=Nat.div_add_mod x 256
 calc
  x%256*P+x / 256*(P*256)=(256*(x / 256)+x%256)*P:=by
    rw [Nat.add_mul,Nat.add_comm,Nat.mul_comm P 256,←Nat.mul_assoc,Nat.mul_comm (x / 256) 256]
  _=x*P:=by rw [h]
theorem byteI (x:Nat) (z:Int) (h:z=x):Value.int .u8 (z%256)=u8v (UInt8.ofNat (x%256)):=by
 subst h;unfold u8v;rw [UInt8.toNat_ofNat',Nat.mod_eq_of_lt (by have:=Nat.mod_lt x (show 0<256 by decide);omega)];congr 1
theorem val_byte_cons (x k:Nat) (t:List UInt8) (hl:t.length=k):val (UInt8.ofNat (x%256) :: t)=x%256*256^k+val t:=by
 rw [val_cons,UInt8.toNat_ofNat',hl,Nat.mod_eq_of_lt (by have:=Nat.mod_lt x (show 0<256 by decide);omega)]
theorem add_step (a b k c x:Nat) (t:List UInt8) (hl:t.length=k) (hv:val t+c*256^k=a%256^k+b%256^k) (hx:x=c+(a / 256^k%256+b / 256^k%256)) :
  val (UInt8.ofNat (x%256) :: t)+x / 256*256^(k+1)=a%256^(k+1)+b%256^(k+1):=by
 rw [val_byte_cons x k t hl,mod_succ,mod_succ,Nat.pow_succ];have h:=digit_split x (256^k)
 have hx':x*256^k=c*256^k+a / 256^k%256*256^k+b / 256^k%256*256^k:=by
  rw [hx,Nat.add_mul,Nat.add_mul];omega
 omega
theorem add_end (a b n c:Nat) (t:List UInt8) (hl:t.length=n) (hv:val t+c*256^n=a%256^n+b%256^n) (hs:a+b<256^n):val t=a+b:=by
 have h1:=val_lt t;rw [hl] at h1;rw [Nat.mod_eq_of_lt (show a<256^n by omega),Nat.mod_eq_of_lt (show b<256^n by omega)] at hv;rcases Nat.eq_zero_or_pos c with h | h
 ·subst h;omega
 ·have:1*256^n≤c*256^n:=Nat.mul_le_mul_right _ h;omega
theorem E_lt (n:Nat):n<256^(E n).size:=(E_size_le n _).1 (Nat.le_refl _)
theorem add_room (a b m:Nat) (h1:(E a).size≤m) (h2:(E b).size≤m):a+b<256^(m+1):=by
 have ha:=Nat.lt_of_lt_of_le (E_lt a) (Nat.pow_le_pow_right (show 0<256 by decide) h1);have hb:=Nat.lt_of_lt_of_le (E_lt b) (Nat.pow_le_pow_right (show 0<256 by decide) h2);rw [Nat.pow_succ];omega
theorem front_cell {wr:World} {g:Nat} {T:TypeId} {n k j:Nat} {t:List UInt8} (hb:Blk wr g T (u8s (List.replicate (n-k) 0++t))) (hk:k<n) (hj:j=n-1-k):wr.cell? ⟨g,j,none⟩=some (.int .u8 0):=by
 subst hj;rw [hb.cell];simp [u8s,u8v,List.getElem?_append,show n-1-k<n-k by omega]
theorem front_set {wr:World} {g:Nat} {T:TypeId} {n k j:Nat} {t:List UInt8} (hb:Blk wr g T (u8s (List.replicate (n-k) 0++t))) (hk:k<n) (hj:j=n-1-k) (d:UInt8) :
  Blk (wr.setCell ⟨g,j,none⟩ (u8v d)) g T (u8s (List.replicate (n-(k+1)) 0++d :: t)):=by
 subst hj;have:=hb.set (n-1-k) (u8v d);rw [u8s_set,show n-k=(n-1-k)+1 by omega,set_zeros _ _ _ _ rfl] at this;rw [show n-(k+1)=n-1-k by omega];exact this
theorem add_c (a b:Nat) (w:World) (ha:a<256^128) (hb:b<256^128) (hs:a+b<256^128) :
  Calls Tryz.prog 152 #[.string (E a),.string (E b)] w fun e w'=>e=.returned (.tuple #[.string (E (a+b)),.int .i64 0])∧Below w.heap.size w w':=by
 have h1:=sz a ha;have h2:=sz b hb;have HA:=Lib.hid ha;have HB:=Lib.hid hb;clear ha hb;have HS:=Lib.hid hs;clear hs;obtain ⟨n,hn⟩:∃n:Nat,n=max (E a).size (E b).size+1:=⟨_,rfl⟩;have HN:Hid (max ((E a).size:Int) ((E b).size:Int)+1=(n:Int)):=by unfold Hid;omega
 have HR:Hid (a+b<256^n):=by rw [hn];exact add_room a b _ (by omega) (by omega)
 have hnb:n≤129:=by omega
 have hmk:=run_mk (P:=Tryz.prog) Tryz.underlying134 info_u8 n (by omega) (by omega);rw [←HN.out] at hmk;clear hn;go_enter Tryz.func152,Tryz.ntmps152
 go_wp2_with fail
 refine (validE_c a _ HA.out).mono ?_;rintro e w' ⟨rfl,rfl⟩;go_wp2_with fail
 refine (validE_c b _ HB.out).mono ?_;rintro e w' ⟨rfl,rfl⟩;go_wp2;clear hmk;rw [HN.out];go_loopw [8,27] (fun x i wr=>∃(k c:Nat) (t:List UInt8),k≤n∧c≤1∧i=.int .i64 k∧x=.int .i64 c∧t.length=k∧val t+c*256^k=a%256^k+b%256^k∧Blk wr w.heap.size 5 (u8s (List.replicate (n-k) 0++t))∧Below w.heap.size w wr) (fun _ i _=>n-(intOf i).toNat)
 case atStart =>
  refine ⟨0,0,[],by omega,by omega,rfl,rfl,rfl,by simp [val,Nat.mod_one],?_,(Below.refl _ _).alloc (Nat.le_refl _) _⟩;have:=Blk.new w (List.replicate n (Value.int .u8 0)).toArray 5;simpa [u8s,u8v] using this
 case round =>
  obtain ⟨k,c,t,hk,hc,rfl,rfl,htl,hv,hb,hbel⟩:=hrel;have HV:=Lib.hid hv;clear hv;have HL:=Lib.hid htl;clear htl;by_cases hlt:k<n
  ·have hcell:=front_cell hb hlt rfl;have hfr:=hb.free (n-1-k);have hd1:=dgt_lt (E a) k;have hd2:=dgt_lt (E b) k;go_wp2_with fail
   refine (digit_c (E a) k _ (by omega) (by omega) (by omega)).mono ?_;rintro e w' ⟨rfl,rfl⟩;rw [Int.toNat_natCast];go_wp2_with fail
   refine (digit_c (E b) k _ (by omega) (by omega) (by omega)).mono ?_;rintro e w' ⟨rfl,rfl⟩;rw [Int.toNat_natCast];go_wp2;go_roundw
   case rel =>
    obtain ⟨x,hx⟩:∃x,x=c+(dgt (E a) k+dgt (E b) k):=⟨_,rfl⟩;rw [byteI x _ (by omega)];refine ⟨k+1,x / 256,UInt8.ofNat (x%256) :: t,by omega,by omega,by go_num,vi (by omega),by simp [HL.out],add_step a b k c x t HL.out HV.out (by rw [hx,dgt_E,dgt_E]),front_set hb hlt rfl _,hbel.setCell (Nat.le_refl _) _⟩
   case measure=>simp [intOf];omega
  ·obtain rfl:k=n:=by omega
   have hr:Row wr w.heap.size 0 t:=by
    have:=hb.row;simpa using this
   have HE:=Lib.hid (add_end a b k c t HL.out HV.out HR.out);go_wp2_with fail
   have:=(trimmed_c w.heap.size 0 k t wr (by rw [HL.out];omega) (by omega) hr);rw [HL.out,HE.out] at this;refine this.mono ?_;rintro e w' ⟨rfl,rfl⟩;go_wp2_with fail
   refine (fitting_c _ _ HS.out).mono ?_;rintro e w' ⟨rfl,rfl⟩;go_wp2;go_ret2
   exact ⟨rfl,hbel⟩
theorem sub_step (a b k c y:Nat) (x:Int) (t:List UInt8) (hl:t.length=k) (hv:val t+b%256^k=a%256^k+c*256^k) (hx:x=(a / 256^k%256:Nat)-(b / 256^k%256:Nat)-(c:Int)) (c':Nat) (hy:(y:Int)=x+256*c') (hy2:y<256) :
  val (UInt8.ofNat (y%256) :: t)+b%256^(k+1)=a%256^(k+1)+c'*256^(k+1):=by
 rw [val_byte_cons y k t hl,mod_succ,mod_succ,Nat.pow_succ,Nat.mod_eq_of_lt hy2];have h1:y+b / 256^k%256+c=a / 256^k%256+256*c':=by omega
 have h2:=congrArg (·*256^k) h1;simp only [Nat.add_mul] at h2
 have h3:256*c'*256^k=c'*(256^k*256):=by
  rw [Nat.mul_comm (256^k) 256,←Nat.mul_assoc,Nat.mul_comm c' 256]
 omega
theorem sub_end (a b n c:Nat) (t:List UInt8) (hl:t.length=n) (hv:val t+b%256^n=a%256^n+c*256^n) (ha:a<256^n) (hb:b≤a):val t=a-b:=by
 have h1:=val_lt t;rw [hl] at h1;rw [Nat.mod_eq_of_lt ha,Nat.mod_eq_of_lt (show b<256^n by omega)] at hv;rcases Nat.eq_zero_or_pos c with h | h
 ·subst h;omega
 ·have:1*256^n≤c*256^n:=Nat.mul_le_mul_right _ h;omega
theorem byteJ (y:Nat) (z:Int) (h:z=y) (hy:y<256):Value.int .u8 z=u8v (UInt8.ofNat (y%256)):=by
 rw [←byteI y z h];congr 1;omega
theorem less_c (a b:Nat) (w:World) (ha:(E a).size≤1000000) (hb:b≤a) :
  Calls Tryz.prog 192 #[.string (E a),.string (E b)] w fun e w'=>e=.returned (.string (E (a-b)))∧Below w.heap.size w w':=by
 have h2:(E b).size≤(E a).size:=(E_size_le b _).2 (Nat.lt_of_le_of_lt hb (E_lt a));have HAl:=Lib.hid (E_lt a);have HB:=Lib.hid hb;clear hb;obtain ⟨n,hn⟩:∃n:Nat,(E a).size=n:=⟨_,rfl⟩;have hmk:=run_mk (P:=Tryz.prog) Tryz.underlying134 info_u8 n (by omega) (by omega);have HN:Hid (((E a).size:Int)=(n:Int)):=by unfold Hid;omega
 have HN2:=Lib.hid hn;rw [←HN.out] at hmk;have hnb:n≤1000000:=by omega
 have h2b:(E b).size≤1000000:=by omega
 rw [hn] at HAl;clear hn;go_enter Tryz.func192,Tryz.ntmps192
 go_wp2;clear hmk;rw [HN.out];go_loopw [7,15] (fun x i wr=>∃(k c:Nat) (t:List UInt8),k≤n∧c≤1∧i=.int .i64 k∧x=.int .i64 c∧t.length=k∧val t+b%256^k=a%256^k+c*256^k∧Blk wr w.heap.size 5 (u8s (List.replicate (n-k) 0++t))∧Below w.heap.size w wr) (fun _ i _=>n-(intOf i).toNat)
 case atStart =>
  refine ⟨0,0,[],by omega,by omega,rfl,rfl,rfl,by simp [val,Nat.mod_one],?_,(Below.refl _ _).alloc (Nat.le_refl _) _⟩;have:=Blk.new w (List.replicate n (Value.int .u8 0)).toArray 5;simpa [u8s,u8v] using this
 case round =>
  obtain ⟨k,c,t,hk,hc,rfl,rfl,htl,hv,hb,hbel⟩:=hrel;have HV:=Lib.hid hv;clear hv;have HL:=Lib.hid htl;clear htl;by_cases hlt:k<n
  ·have hcell:=front_cell hb hlt rfl;have hfr:=hb.free (n-1-k);have hd1:=dgt_lt (E a) k;have hd2:=dgt_lt (E b) k;go_wp2_with fail
   refine (digit_c (E a) k _ (by omega) (by omega) (by omega)).mono ?_;rintro e w' ⟨rfl,rfl⟩;rw [Int.toNat_natCast];go_wp2_with fail
   refine (digit_c (E b) k _ (by omega) (by omega) (by omega)).mono ?_;rintro e w' ⟨rfl,rfl⟩;rw [Int.toNat_natCast];by_cases hneg:(dgt (E a) k:Int)-(dgt (E b) k:Int)-(c:Int)<0
   ·go_wp2;go_roundw
    case rel =>
     obtain ⟨y,hy⟩:∃y:Nat,(y:Int)=(dgt (E a) k:Int)-(dgt (E b) k:Int)-(c:Int)+256:=⟨((dgt (E a) k:Int)-(dgt (E b) k:Int)-(c:Int)+256).toNat,by omega⟩;rw [byteJ y ((dgt (E a) k:Int)-(dgt (E b) k:Int)-(c:Int)+256) (by omega) (by omega)];refine ⟨k+1,1,UInt8.ofNat (y%256) :: t,by omega,by omega,by go_num,vi (by omega),by simp [HL.out],sub_step a b k c y _ t HL.out HV.out (by rw [←dgt_E,←dgt_E]) 1 (by omega) (by omega),front_set hb hlt rfl _,hbel.setCell (Nat.le_refl _) _⟩
    case measure=>simp [intOf];omega
   ·go_wp2;go_roundw
    case rel =>
     obtain ⟨y,hy⟩:∃y:Nat,(y:Int)=(dgt (E a) k:Int)-(dgt (E b) k:Int)-(c:Int):=⟨((dgt (E a) k:Int)-(dgt (E b) k:Int)-(c:Int)).toNat,by omega⟩;rw [byteJ y ((dgt (E a) k:Int)-(dgt (E b) k:Int)-(c:Int)) (by omega) (by omega)];refine ⟨k+1,0,UInt8.ofNat (y%256) :: t,by omega,by omega,by go_num,vi (by omega),by simp [HL.out],sub_step a b k c y _ t HL.out HV.out (by rw [←dgt_E,←dgt_E]) 0 (by omega) (by omega),front_set hb hlt rfl _,hbel.setCell (Nat.le_refl _) _⟩
    case measure=>simp [intOf];omega
  ·obtain rfl:k=n:=by omega
   have hr:Row wr w.heap.size 0 t:=by
    have:=hb.row;simpa using this
   have HE:=Lib.hid (sub_end a b k c t HL.out HV.out HAl.out HB.out);go_wp2_with fail
   have:=(trimmed_c w.heap.size 0 k t wr (by rw [HL.out];omega) (by omega) hr);rw [HL.out,HE.out] at this;refine this.mono ?_;rintro e w' ⟨rfl,rfl⟩;go_wp2;go_ret
   exact ⟨rfl,hbel⟩
end Go.Proofs.YtcfjcenmcpankaaGreatDoor
