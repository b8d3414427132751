import Derived.Test.YtdoacbdkbbpamaaGreatDoorRef5
import Derived.Test.YtdoacbdkbbpamaaGreatDoorInt2
set_option linter.unusedVariables false
set_option linter.unusedSimpArgs false
set_option maxRecDepth 100000
set_option maxHeartbeats 16000000
namespace Go.Proofs.YtdoacbdkbbpamaaGreatDoor
section
open Go.RowKit
theorem rofDiv_c (a b:Nat) (w:World) (h:a / b<256^8) :
  Calls Tryz.prog 46 #[.int .u64 ((a:Int) / (b:Int))] w fun e w'=>e=.returned (.string (E (a / b)))∧Below w.heap.size w w':=by
 rw [←Int.natCast_ediv];exact rof_c _ w h
theorem rofMod_c (a b:Nat) (w:World) (h:a%b<256^8) :
  Calls Tryz.prog 46 #[.int .u64 ((a:Int)%(b:Int))] w fun e w'=>e=.returned (.string (E (a%b)))∧Below w.heap.size w w':=by
 rw [←Int.natCast_emod];exact rof_c _ w h
theorem rover_short (a b:Nat) (w:World) (h0:0<b) (h1:(E a).size≤8) (h2:(E b).size≤8) :
  Calls Tryz.prog 116 #[.string (E a),.string (E b)] w fun e w'=>e=.returned (.tuple #[.string (E (a / b)),.string (E (a%b))])∧Below w.heap.size w w':=by
 have HA:=Lib.hid ((E_size_le a 8).1 h1);have HB:=Lib.hid ((E_size_le b 8).1 h2);have HQ:=Lib.hid (Nat.lt_of_le_of_lt (Nat.div_le_self a b) HA.out);have HR:=Lib.hid (Nat.lt_of_le_of_lt (Nat.mod_le a b) HA.out);have hz:((b:Int)==0)=false:=by rw [beq_eq_false_iff_ne];omega
 have hau:a<18446744073709551616:=by rw [u64_as_pow];exact HA.out
 have hbu:b<18446744073709551616:=by rw [u64_as_pow];exact HB.out
 go_enter Tryz.func116,Tryz.ntmps116
 go_wp2_with fail
 refine (ru64_c a _ HA.out).mono ?_;rintro e w' ⟨rfl,rfl⟩;go_wp2_with fail
 refine (ru64_c b _ HB.out).mono ?_;rintro e w' ⟨rfl,rfl⟩;go_wp2_with fail
 have hw1:=wrapU_div a b HQ.out;have hw2:=wrapU_mod a b HR.out;refine wp_region_grew (by kernel_rfl) (by kernel_rfl) ?_;repeat (go_big_quiet_step ((intro hC;first | (go_at_call_of 46 (Value.int .u64 ((a:Int) / (b:Int)));exact grew_of hC (rofDiv_c a b _ HQ.out)) | (go_at_call_of 46 (Value.int .u64 ((a:Int)%(b:Int)));exact grew_of hC (rofMod_c a b _ HR.out)))))
 refine wpQuiet_nil ?_;intro w1 hb1;go_wp2;go_ret2
 exact ⟨rfl,hb1.out⟩
theorem div_step_ge (A b r:Nat) (hb:0<b) (hr:r=2*(A%b)) (X bit:Nat) (hX:X=2*A+bit) (hbit:bit≤1) (h:b≤r+bit):X%b=r+bit-b∧X / b=2*(A / b)+1:=by
 have hd:=Nat.div_add_mod A b;have hlt:=Nat.mod_lt A hb
 have e:X=b*(2*(A / b)+1)+(r+bit-b):=by
  rw [Nat.mul_add,Nat.mul_one,Nat.mul_left_comm];omega
 have hlt2:r+bit-b<b:=by omega
 constructor
 ·rw [e,Nat.mul_add_mod,Nat.mod_eq_of_lt hlt2]
 ·rw [e,Nat.mul_add_div hb,Nat.div_eq_of_lt hlt2]
theorem div_step_lt (A b r:Nat) (hb:0<b) (hr:r=2*(A%b)) (X bit:Nat) (hX:X=2*A+bit) (hbit:bit≤1) (h:r+bit<b):X%b=r+bit∧X / b=2*(A / b):=by
 have hd:=Nat.div_add_mod A b
 have e:X=b*(2*(A / b))+(r+bit):=by
  rw [Nat.mul_left_comm];omega
 constructor
 ·rw [e,Nat.mul_add_mod,Nat.mod_eq_of_lt h]
 ·rw [e,Nat.mul_add_div hb,Nat.div_eq_of_lt h,Nat.add_zero]
theorem val_set (L:List UInt8) (j i:Nat) (hj:j<L.length) (hi:i=L.length-1-j) (d:UInt8):val (L.set i d)+(L[i]'(by omega)).toNat*256^j=val L+d.toNat*256^j:=by
 have hi2:i<L.length:=by omega
 have e1:L=L.take i++L[i] :: L.drop (i+1):=by
  rw [←List.drop_eq_getElem_cons hi2,List.take_append_drop]
 have e2:L.set i d=L.take i++d :: L.drop (i+1):=by
  rw [List.set_eq_take_append_cons_drop,if_pos hi2]
 have hl:(L.drop (i+1)).length=j:=by simp;omega
 have v1:val L=val (L.take i)*256^(j+1)+(L[i].toNat*256^j+val (L.drop (i+1))):=by
  conv=>lhs;rw [e1]
  rw [val_append,val_cons,List.length_cons,hl]
 have v2:val (L.set i d)=val (L.take i)*256^(j+1)+(d.toNat*256^j+val (L.drop (i+1))):=by
  rw [e2,val_append,val_cons,List.length_cons,hl]
 omega
theorem bit_room (Q i:Nat):Q*2^(i+1) / 256^(i / 8)%256+2^(i%8)<256:=by
 have hr:i%8<8:=Nat.mod_lt _ (by decide)
 have e:Q*2^(i+1) / 256^(i / 8)=Q*2^(i%8+1):=by
  have:2^(i+1)=2^(i%8+1)*256^(i / 8):=by
   rw [pow256,←Nat.pow_add];congr 1;omega
  rw [this,←Nat.mul_assoc,Nat.mul_div_cancel _ (Nat.pow_pos (by decide))]
 rw [e];generalize i%8=r at hr;have:r=0∨r=1∨r=2∨r=3∨r=4∨r=5∨r=6∨r=7:=by omega
 rcases this with rfl | rfl | rfl | rfl | rfl | rfl | rfl | rfl <;> simp only [Nat.zero_add,Nat.reduceAdd,Nat.pow_zero,Nat.reducePow] <;> omega
theorem pow_byte (i:Nat):2^(i%8)*256^(i / 8)=2^i:=by
 rw [pow256,←Nat.pow_add];congr 1;omega
theorem pow_small (r:Nat) (h:r<8):2^r≤128:=by
 have:=Nat.pow_le_pow_right (show 0<2 by decide) (show r≤7 by omega);simpa using this
theorem quo_set (L:List UInt8) (i A b X:Nat) (hlen:i / 8<L.length) (hv:val L=A / b*2^(i+1)) (hX:X / b=2*(A / b)+1) (j:Nat) (hj:j=L.length-1-i / 8) (d:UInt8) (hd:d.toNat=(L[j]'(by omega)).toNat+2^(i%8)) :
  val (L.set j d)=X / b*2^i:=by
 have h:=val_set L (i / 8) j hlen hj d;rw [hd,Nat.add_mul,pow_byte,hv] at h
 have e:(2*(A / b)+1)*2^i=A / b*2^(i+1)+2^i:=by
  rw [Nat.pow_succ,Nat.add_mul,Nat.one_mul,Nat.mul_comm 2 (A / b),Nat.mul_assoc,Nat.mul_comm 2 (2^i)]
 rw [hX,e];omega
theorem quo_shift (q i:Nat):q*2^(i+1)=2*q*2^i:=by
 rw [Nat.pow_succ,Nat.mul_comm 2 q,Nat.mul_assoc,Nat.mul_comm 2 (2^i)]
theorem nb_len (n i:Nat) (h:i<nb n):i / 8<(E n).size:=by
 have h1:=E_lt n;rcases Nat.lt_or_ge (i / 8) (E n).size with h2 | h2
 ·exact h2
 ·exfalso;have h3:2^(nb n-1)≤n:=nb_low n (by intro e;subst e;simp [nb_zero] at h)
  have h4:256^(E n).size≤2^i:=by
   rw [pow256];exact Nat.pow_le_pow_right (by decide) (by omega)
  have h5:2^i≤2^(nb n-1):=Nat.pow_le_pow_right (by decide) (by omega);omega
theorem nb_le (n k:Nat) (h:(E n).size≤k):nb n≤8*k:=by
 rcases Nat.lt_or_ge (8*k) (nb n) with h1 | h1
 ·have:=nb_len n (8*k) h1;omega
 ·exact h1
theorem E_one:E 1=⟨#[1]⟩:=rfl
theorem size_le_of (a b m:Nat) (hab:a≤b) (h:(E b).size≤m):(E a).size≤m:=
 (E_size_le _ _).2 (Nat.lt_of_le_of_lt hab ((E_size_le _ _).1 h))
theorem size_double (r b m:Nat) (hr:r<b) (h:(E b).size≤m):(E (r+r+1)).size≤m+1:=by
 have:=(E_size_le b m).1 h;refine (E_size_le _ _).2 ?_;rw [Nat.pow_succ];omega
theorem u8_cell {w:World} {g:Nat} {T:TypeId} {L:List UInt8} (h:Blk w g T (u8s L)) (j:Nat) (hj:j<L.length):w.cell? ⟨g,j,none⟩=some (.int .u8 (L[j].toNat:Int)):=by
 rw [h.cell];simp [u8s,u8v,hj]
theorem rover_long (a b:Nat) (w:World) (h0:0<b) (h1:(E a).size≤1000) (h2:(E b).size≤1000) (h8:¬ ((E a).size≤8∧(E b).size≤8)) :
  Calls Tryz.prog 116 #[.string (E a),.string (E b)] w fun e w'=>e=.returned (.tuple #[.string (E (a / b)),.string (E (a%b))])∧Below w.heap.size w w':=by
 obtain ⟨n,hn⟩:∃n:Nat,(E a).size=n:=⟨_,rfl⟩;have hmk:=run_mk (P:=Tryz.prog) Tryz.underlying122 info_u8 n (by omega) (by omega);have HN:Hid (((E a).size:Int)=(n:Int)):=by unfold Hid;omega
 have HN2:=Lib.hid hn;rw [←HN.out] at hmk;have hnb:n≤1000:=by omega
 have hna1:(E a).size≤n:=by omega
 have hna2:n≤(E a).size:=by omega
 have hnbit:=nb_le a 1000 h1;have H0:=Lib.hid h0;clear hn
 have main:∀(hs8:decide (((E a).size:Int)≤8)=true∧decide (((E b).size:Int)≤8)=false∨decide (((E a).size:Int)≤8)=false),Calls Tryz.prog 116 #[.string (E a),.string (E b)] w fun e w'=>e=.returned (.tuple #[.string (E (a / b)),.string (E (a%b))])∧Below w.heap.size w w':=by
  intro hs8;rcases hs8 with ⟨ha8,hb8⟩ | ha8
  all_goals
   go_enter Tryz.func116,Tryz.ntmps116
   go_wp2_with fail
   refine (rbits_c a _ (by omega)).mono ?_;rintro e w' ⟨rfl,rfl⟩;clear hmk;rw [HN.out];go_wp2;go_loopw [9,10] (fun x y wr=>∃(m:Nat) (L:List UInt8),m≤nb a∧y=.int .i64 ((m:Int)-1)∧x=.string (E (a / 2^m%b))∧L.length=n∧val L=a / 2^m / b*2^m∧Blk wr w.heap.size 5 (u8s L)∧Below w.heap.size w wr) (fun _ y _=>(intOf y+1).toNat)
   case atStart =>
    have e0:a / 2^nb a=0:=Nat.div_eq_of_lt (lt_nb a);refine ⟨nb a,List.replicate n 0,by omega,rfl,by rw [e0];simp [E_zero];rfl,by simp,by rw [e0,val_zeros];simp,?_,(Below.refl _ _).alloc (Nat.le_refl _) _⟩;have:=Blk.new w (List.replicate n (Value.int .u8 0)).toArray 5;simpa [u8s,u8v] using this
   case round =>
    obtain ⟨m,L,hm,rfl,rfl,hLl,hv,hblk,hbel⟩:=hrel;have HL:=Lib.hid hLl;clear hLl;have HV:=Lib.hid hv;clear hv;by_cases hlt:0<m
    ·obtain ⟨i,rfl⟩:∃i,m=i+1:=⟨m-1,by omega⟩;have HI:Hid (((i+1:Nat):Int)-1=(i:Int)):=by unfold Hid;omega
     rw [HI.out];have hrlt:=Nat.mod_lt (a / 2^(i+1)) H0.out;have HR0:=Lib.hid (show a / 2^(i+1)%b=a / 2^(i+1)%b from rfl);generalize hr0:a / 2^(i+1)%b=r at hrlt;have HR:=Lib.hid hr0;clear hr0 HR0;have hsr:=size_double r b 1000 hrlt h2;have hsr1:=size_le_of r (r+r+1) 1001 (by omega) hsr;have hsr2:=size_le_of (r+r) (r+r+1) 1001 (by omega) hsr;have hs1:(E 1).size≤1001:=size_le_of 1 (r+r+1) 1001 (by omega) hsr;have hi8:i / 8<n:=by have:=nb_len a i (by omega);have:=HN2.out;omega
     go_wp2_with fail
     refine (rplus_c r r _ (by omega) (by omega)).mono ?_;rintro e w1 ⟨rfl,hb1⟩;go_wp2_with fail
     refine (rone_c a i _ (by omega) (by omega)).mono ?_;rintro e w' ⟨rfl,rfl⟩;cases hbit:bitB a i
     ·have HX:=Lib.hid (show a / 2^i=2*(a / 2^(i+1))+0 from bit_nil hbit);clear hbit;have hcmp:=Nat.lt_or_ge (r+r) b;go_wp2_with fail
      refine (rorder_c (r+r) b _ (by omega) (by omega)).mono ?_;rintro e wo ⟨rfl,ho⟩;rcases hcmp with hlt2 | hge2
      ·have hneg:=cmp_neg (r+r) b hlt2;have HDS:=Lib.hid (div_step_lt (a / 2^(i+1)) b (r+r) H0.out (by rw [HR.out];omega) (a / 2^i) 0 HX.out (by omega) (by omega));go_wp2;go_roundw
       case rel =>
        refine ⟨i,L,by omega,rfl,?_,HL.out,?_,(hblk.after hb1).after ho,bt (bt hbel hb1) ho⟩
        ·exact vE (by rw [HDS.out.1] <;> try omega)
        ·rw [HV.out,HDS.out.2];exact quo_shift _ _
       case measure=>simp [intOf] <;> omega
      ·have hneg:=cmp_nneg (r+r) b hge2;have HDS:=Lib.hid (div_step_ge (a / 2^(i+1)) b (r+r) H0.out (by rw [HR.out];omega) (a / 2^i) 0 HX.out (by omega) (by omega));have hblk3:=(hblk.after hb1).after ho;go_wp2_with fail
       refine (rminus_c (r+r) b _ (by omega) hge2).mono ?_;rintro e wm ⟨rfl,hm2⟩;have hblk4:=hblk3.after hm2;have hL8:n-1-i / 8<L.length:=by rw [HL.out];omega
       have hcell:=u8_cell hblk4 (n-1-i / 8) hL8;have hfr:=hblk4.free (n-1-i / 8);have HDV:Hid (L[n-1-i / 8].toNat=val L / 256^(i / 8)%256):=digit_val_aux L.length L (i / 8) (n-1-i / 8) rfl (by rw [HL.out];omega) (by rw [HL.out]);have hroom:=bit_room (a / 2^(i+1) / b) i;rw [←HV.out,←HDV.out] at hroom;have hp8:=pow_small (i%8) (Nat.mod_lt _ (by decide));generalize hdd:L[n-1-i / 8].toNat=dd at hcell hroom;rw [←HN2.out] at hcell hfr;have HDD:=Lib.hid hdd;clear hdd;go_wp2;go_loop [11,12] (fun x y=>∃j:Nat,j≤i%8∧y=.int .i64 j∧x=.int .u8 ((2^j:Nat):Int)) (fun _ y=>8-(intOf y).toNat)
       case atStart=>exact ⟨0,by omega,rfl,rfl⟩
       case round =>
        obtain ⟨j,hj,rfl,rfl⟩:=hrel;by_cases hlj:j<i%8
        ·have hpj:=pow_small (j+1) (by omega);have HPS:=Lib.hid (Nat.pow_succ 2 j);rw [Nat.pow_succ] at hpj;generalize hpp:2^j=pp at hpj HPS;have HPP:=Lib.hid hpp;clear hpp;go_wp2;go_round
         case rel=>exact ⟨j+1,by omega,by go_num,by rw [show 2^(j+1)=pp*2 from HPS.out];go_num⟩
         case measure=>simp [intOf] <;> omega
        ·obtain rfl:j=i%8:=by omega
         generalize hpp:2^(i%8)=pp at hroom hp8;have HPP:=Lib.hid hpp;clear hpp;go_wp2;go_roundw
         case rel =>
          have hdn:(UInt8.ofNat (dd+pp)).toNat=dd+pp:=by rw [UInt8.toNat_ofNat'];omega
          refine ⟨i,L.set (n-1-i / 8) (UInt8.ofNat (dd+pp)),by omega,rfl,?_,by simpa using HL.out,?_,?_,?_⟩
          ·exact vE (by rw [HDS.out.1] <;> try omega)
          ·exact quo_set L i (a / 2^(i+1)) b (a / 2^i) (by rw [HL.out];exact hi8) HV.out HDS.out.2 _ (by rw [HL.out]) _ (by rw [hdn,HDD.out,HPP.out])
          ·have:=hblk4.set (n-1-i / 8) (u8v (UInt8.ofNat (dd+pp)));rw [u8s_set] at this;unfold u8v at this;rw [hdn,Int.natCast_add] at this;rw [HN2.out];exact this
          ·exact (bt (bt (bt hbel hb1) ho) hm2).setCell (Nat.le_refl _) _
         case measure=>simp [intOf] <;> omega
     ·have HX:=Lib.hid (bit_one hbit);clear hbit;have hpl:=rplus_c (r+r) 1 w1 (by omega) (by omega);rw [E_one] at hpl;have HPL:=Lib.hid hpl;clear hpl;go_wp2_with fail
      refine (HPL.out).mono ?_;rintro e w2 ⟨rfl,hb2⟩;have hcmp:=Nat.lt_or_ge (r+r+1) b;go_wp2_with fail
      refine (rorder_c (r+r+1) b _ (by omega) (by omega)).mono ?_;rintro e wo ⟨rfl,ho⟩;rcases hcmp with hlt2 | hge2
      ·have hneg:=cmp_neg (r+r+1) b hlt2;have HDS:=Lib.hid (div_step_lt (a / 2^(i+1)) b (r+r) H0.out (by rw [HR.out];omega) (a / 2^i) 1 HX.out (by omega) (by omega));go_wp2;go_roundw
       case rel =>
        refine ⟨i,L,by omega,rfl,?_,HL.out,?_,((hblk.after hb1).after hb2).after ho,bt (bt (bt hbel hb1) hb2) ho⟩
        ·exact vE (by rw [HDS.out.1] <;> try omega)
        ·rw [HV.out,HDS.out.2];exact quo_shift _ _
       case measure=>simp [intOf] <;> omega
      ·have hneg:=cmp_nneg (r+r+1) b hge2;have HDS:=Lib.hid (div_step_ge (a / 2^(i+1)) b (r+r) H0.out (by rw [HR.out];omega) (a / 2^i) 1 HX.out (by omega) (by omega));have hblk3:=((hblk.after hb1).after hb2).after ho;go_wp2_with fail
       refine (rminus_c (r+r+1) b _ (by omega) hge2).mono ?_;rintro e wm ⟨rfl,hm2⟩;have hblk4:=hblk3.after hm2;have hL8:n-1-i / 8<L.length:=by rw [HL.out];omega
       have hcell:=u8_cell hblk4 (n-1-i / 8) hL8;have hfr:=hblk4.free (n-1-i / 8);have HDV:Hid (L[n-1-i / 8].toNat=val L / 256^(i / 8)%256):=digit_val_aux L.length L (i / 8) (n-1-i / 8) rfl (by rw [HL.out];omega) (by rw [HL.out]);have hroom:=bit_room (a / 2^(i+1) / b) i;rw [←HV.out,←HDV.out] at hroom;have hp8:=pow_small (i%8) (Nat.mod_lt _ (by decide));generalize hdd:L[n-1-i / 8].toNat=dd at hcell hroom;rw [←HN2.out] at hcell hfr;have HDD:=Lib.hid hdd;clear hdd;go_wp2;go_loop [11,12] (fun x y=>∃j:Nat,j≤i%8∧y=.int .i64 j∧x=.int .u8 ((2^j:Nat):Int)) (fun _ y=>8-(intOf y).toNat)
       case atStart=>exact ⟨0,by omega,rfl,rfl⟩
       case round =>
        obtain ⟨j,hj,rfl,rfl⟩:=hrel;by_cases hlj:j<i%8
        ·have hpj:=pow_small (j+1) (by omega);have HPS:=Lib.hid (Nat.pow_succ 2 j);rw [Nat.pow_succ] at hpj;generalize hpp:2^j=pp at hpj HPS;have HPP:=Lib.hid hpp;clear hpp;go_wp2;go_round
         case rel=>exact ⟨j+1,by omega,by go_num,by rw [show 2^(j+1)=pp*2 from HPS.out];go_num⟩
         case measure=>simp [intOf] <;> omega
        ·obtain rfl:j=i%8:=by omega
         generalize hpp:2^(i%8)=pp at hroom hp8;have HPP:=Lib.hid hpp;clear hpp;go_wp2;go_roundw
         case rel =>
          have hdn:(UInt8.ofNat (dd+pp)).toNat=dd+pp:=by rw [UInt8.toNat_ofNat'];omega
          refine ⟨i,L.set (n-1-i / 8) (UInt8.ofNat (dd+pp)),by omega,rfl,?_,by simpa using HL.out,?_,?_,?_⟩
          ·exact vE (by rw [HDS.out.1] <;> try omega)
          ·exact quo_set L i (a / 2^(i+1)) b (a / 2^i) (by rw [HL.out];exact hi8) HV.out HDS.out.2 _ (by rw [HL.out]) _ (by rw [hdn,HDD.out,HPP.out])
          ·have:=hblk4.set (n-1-i / 8) (u8v (UInt8.ofNat (dd+pp)));rw [u8s_set] at this;unfold u8v at this;rw [hdn,Int.natCast_add] at this;rw [HN2.out];exact this
          ·exact (bt (bt (bt (bt hbel hb1) hb2) ho) hm2).setCell (Nat.le_refl _) _
         case measure=>simp [intOf] <;> omega
    ·obtain rfl:m=0:=by omega
     have hr:Row wr w.heap.size 0 L:=hblk.row;have HE:Hid (val L=a / b):=by rw [Hid,HV.out];simp
     go_wp2_with fail
     have:=(rtrim_c w.heap.size 0 n L wr (by rw [HL.out];omega) (by omega) hr);rw [HL.out,HE.out] at this;refine this.mono ?_;rintro e w' ⟨rfl,rfl⟩;go_wp2;go_ret2
     exact ⟨r2 rfl rfl,hbel⟩
 apply main
 by_cases h3:(E a).size≤8
 ·left
  exact ⟨by rw [decide_eq_true_iff];omega,by rw [decide_eq_false_iff_not];omega⟩
 ·right
  rw [decide_eq_false_iff_not];omega
theorem rover_c (a b:Nat) (w:World) (h0:0<b) (h1:(E a).size≤1000) (h2:(E b).size≤1000) :
  Calls Tryz.prog 116 #[.string (E a),.string (E b)] w fun e w'=>e=.returned (.tuple #[.string (E (a / b)),.string (E (a%b))])∧Below w.heap.size w w':=by
 by_cases h:(E a).size≤8∧(E b).size≤8
 ·exact rover_short a b w h0 h.1 h.2
 ·exact rover_long a b w h0 h1 h2 h
end
section
open Go.RowKit
theorem rfit_c (n:Nat) (w:World) (h:n<256^128) :
  Calls Tryz.prog 113 #[.string (E n)] w fun e w'=>e=.returned (.tuple #[.string (E n),.int .i64 0])∧w=w':=by
 have h1:=sz n h;have H:=Lib.hid h;clear h;go_enter Tryz.func113,Tryz.ntmps113
 go_wp2;go_ret2
 exact ⟨rfl,rfl⟩
theorem rcmp_c (a b:Nat) (w:World) (ha:a<256^128) (hb:b<256^128) :
  Calls Tryz.prog 123 #[.string (E a),.string (E b)] w fun e w'=>e=.returned (.int .i64 (cmpN a b))∧Below w.heap.size w w':=by
 have h1:=sz a ha;have h2:=sz b hb;have HA:=Lib.hid ha;have HB:=Lib.hid hb;clear ha hb;go_enter Tryz.func123,Tryz.ntmps123
 go_wp2_with fail
 refine (rvalidE_c a _ HA.out).mono ?_;rintro e w' ⟨rfl,rfl⟩;go_wp2_with fail
 refine (rvalidE_c b _ HB.out).mono ?_;rintro e w' ⟨rfl,rfl⟩;go_wp2_with fail
 refine (rorder_c a b _ (by omega) (by omega)).mono ?_;rintro e w1 ⟨rfl,hb1⟩;go_wp2;go_ret
 exact ⟨rfl,hb1⟩
theorem radd_c (a b:Nat) (w:World) (ha:a<256^128) (hb:b<256^128) (hs:a+b<256^128) :
  Calls Tryz.prog 74 #[.string (E a),.string (E b)] w fun e w'=>e=.returned (.tuple #[.string (E (a+b)),.int .i64 0])∧Below w.heap.size w w':=by
 have h1:=sz a ha;have h2:=sz b hb;have HA:=Lib.hid ha;have HB:=Lib.hid hb;have HS:=Lib.hid hs;clear ha hb hs;go_enter Tryz.func74,Tryz.ntmps74
 go_wp2_with fail
 refine (rvalidE_c a _ HA.out).mono ?_;rintro e w' ⟨rfl,rfl⟩;go_wp2_with fail
 refine (rvalidE_c b _ HB.out).mono ?_;rintro e w' ⟨rfl,rfl⟩;go_wp2_with fail
 refine (rplus_c a b _ (by omega) (by omega)).mono ?_;rintro e w1 ⟨rfl,hb1⟩;go_wp2_with fail
 refine (rfit_c (a+b) _ HS.out).mono ?_;rintro e w' ⟨rfl,rfl⟩;go_wp2;go_ret2
 exact ⟨rfl,hb1⟩
theorem rsub_c (a b:Nat) (w:World) (ha:a<256^128) (hb:b≤a) :
  Calls Tryz.prog 76 #[.string (E a),.string (E b)] w fun e w'=>e=.returned (.tuple #[.string (E (a-b)),.int .i64 0])∧Below w.heap.size w w':=by
 have HB:=Lib.hid (show b<256^128 by omega);have h1:=sz a ha;have h2:=sz b HB.out;have HA:=Lib.hid ha;have HL:=Lib.hid hb;have hc:=cmp_nneg a b hb;clear ha hb;go_enter Tryz.func76,Tryz.ntmps76
 go_wp2_with fail
 refine (rvalidE_c a _ HA.out).mono ?_;rintro e w' ⟨rfl,rfl⟩;go_wp2_with fail
 refine (rvalidE_c b _ HB.out).mono ?_;rintro e w' ⟨rfl,rfl⟩;go_wp2_with fail
 refine (rorder_c a b _ (by omega) (by omega)).mono ?_;rintro e w1 ⟨rfl,hb1⟩;go_wp2_with fail
 refine (rminus_c a b _ (by omega) HL.out).mono ?_;rintro e w2 ⟨rfl,hb2⟩;go_wp2;go_ret2
 exact ⟨rfl,bt hb1 hb2⟩
theorem rmul_c (a b:Nat) (w:World) (ha:a<256^128) (hb:b<256^128) (hs:a*b<256^128) :
  Calls Tryz.prog 124 #[.string (E a),.string (E b)] w fun e w'=>e=.returned (.tuple #[.string (E (a*b)),.int .i64 0])∧Below w.heap.size w w':=by
 have h1:=sz a ha;have h2:=sz b hb;have HA:=Lib.hid ha;have HB:=Lib.hid hb;have HS:=Lib.hid hs;clear ha hb hs;go_enter Tryz.func124,Tryz.ntmps124
 go_wp2_with fail
 refine (rvalidE_c a _ HA.out).mono ?_;rintro e w' ⟨rfl,rfl⟩;go_wp2_with fail
 refine (rvalidE_c b _ HB.out).mono ?_;rintro e w' ⟨rfl,rfl⟩;go_wp2_with fail
 refine (rtimes_c a b _ (by omega) (by omega)).mono ?_;rintro e w1 ⟨rfl,hb1⟩;go_wp2_with fail
 refine (rfit_c (a*b) _ HS.out).mono ?_;rintro e w' ⟨rfl,rfl⟩;go_wp2;go_ret2
 exact ⟨rfl,hb1⟩
theorem rdivmod_c (a b:Nat) (w:World) (ha:a<256^128) (hb:b<256^128) (h0:0<b) :
  Calls Tryz.prog 78 #[.string (E a),.string (E b)] w fun e w'=>e=.returned (.tuple #[.string (E (a / b)),.string (E (a%b)),.int .i64 0])∧Below w.heap.size w w':=by
 have h1:=sz a ha;have h2:=sz b hb;have HA:=Lib.hid ha;have HB:=Lib.hid hb;have H0:=Lib.hid h0;have hz:=nzE h0;clear ha hb h0;go_enter Tryz.func78,Tryz.ntmps78
 go_wp2_with fail
 refine (rvalidE_c a _ HA.out).mono ?_;rintro e w' ⟨rfl,rfl⟩;go_wp2_with fail
 refine (rvalidE_c b _ HB.out).mono ?_;rintro e w' ⟨rfl,rfl⟩;go_wp2_with fail
 refine (rover_c a b _ H0.out (by omega) (by omega)).mono ?_;rintro e w1 ⟨rfl,hb1⟩;go_wp2;go_ret3
 exact ⟨rfl,hb1⟩
theorem rcommon_c (a b:Nat) (w:World) (ha:a<256^128) (hb:b<256^128) :
  Calls Tryz.prog 164 #[.string (E a),.string (E b)] w fun e w'=>e=.returned (.string (E (Nat.gcd a b)))∧Below w.heap.size w w':=by
 have HA:=Lib.hid ha;have HB:=Lib.hid hb;clear ha hb;go_enter Tryz.func164,Tryz.ntmps164
 go_wp2;go_loopw [0,1] (fun x y wr=>∃p q:Nat,p<256^128∧q<256^128∧x=.string (E p)∧y=.string (E q)∧Nat.gcd p q=Nat.gcd a b∧Below w.heap.size w wr) (fun _ y _=>strVal y)
 case atStart=>exact ⟨a,b,HA.out,HB.out,rfl,rfl,rfl,Below.refl _ _⟩
 case round =>
  obtain ⟨p,q,hp,hq,rfl,rfl,hg,hbel⟩:=hrel;have hs1:=sz p hp;have hs2:=sz q hq;have HP:=Lib.hid hp;clear hp;have HQ:=Lib.hid hq;clear hq;have HG:=Lib.hid hg;clear hg;by_cases h0:0<q
  ·have hz:=nzE h0;have H0:=Lib.hid h0;clear h0;go_wp2_with fail
   refine (rover_c p q _ H0.out (by omega) (by omega)).mono ?_;rintro e w1 ⟨rfl,hb1⟩;go_wp2;go_roundw
   case rel =>
    refine ⟨q,p%q,HQ.out,Nat.lt_trans (Nat.mod_lt _ H0.out) HQ.out,rfl,rfl,?_,bt hbel hb1⟩;rw [←HG.out,Nat.gcd_comm p q,Nat.gcd_rec q p,Nat.gcd_comm]
   case measure =>
    rw [strVal_E,strVal_E];exact Nat.mod_lt _ H0.out
  ·obtain rfl:q=0:=by omega
   have hz:=zE (n:=0) rfl;have HE:Hid (p=Nat.gcd a b):=by rw [Hid,←HG.out,Nat.gcd_zero_right]
   go_wp2;go_ret
   exact ⟨rE HE.out,hbel⟩
theorem rBits_c (n:Nat) (w:World) (hn:n<256^128) :
  Calls Tryz.prog 166 #[.string (E n)] w fun e w'=>e=.returned (.int .i64 (nb n))∧w=w':=by
 have HN:=Lib.hid hn;have hs:=sz n hn;clear hn;go_enter Tryz.func166,Tryz.ntmps166
 go_wp2_with fail
 refine (rvalidE_c n _ HN.out).mono ?_;rintro e w' ⟨rfl,rfl⟩;go_wp2_with fail
 refine (rbits_c n _ (by omega)).mono ?_;rintro e w' ⟨rfl,rfl⟩;go_wp2;go_ret
 exact ⟨rfl,rfl⟩
theorem bitB_high (n i:Nat) (h:nb n≤i):bitB n i=false:=by
 have h1:=lt_nb n;have h2:2^nb n≤2^i:=Nat.pow_le_pow_right (by decide) h;unfold bitB;rw [Nat.div_eq_of_lt (by omega)];rfl
theorem rBit_c (n:Nat) (i:Nat) (w:World) (hn:n<256^128) (hi:i≤1000000) :
  Calls Tryz.prog 204 #[.string (E n),.int .i64 (i:Int)] w fun e w'=>e=.returned (.bool (bitB n i))∧w=w':=by
 have HN:=Lib.hid hn;have hs:=sz n hn;have hnb:=nb_le n 128 hs;clear hn;by_cases h0:i<nb n
 ·have hd:decide ((i:Int)<(nb n:Int))=true:=by rw [decide_eq_true_iff];omega
  go_enter Tryz.func204,Tryz.ntmps204
  go_wp2_with fail
  refine (rvalidE_c n _ HN.out).mono ?_;rintro e w' ⟨rfl,rfl⟩;go_wp2_with fail
  refine (rbits_c n _ (by omega)).mono ?_;rintro e w' ⟨rfl,rfl⟩;go_wp2_with fail
  refine (rone_c n i _ (by omega) (by omega)).mono ?_;rintro e w' ⟨rfl,rfl⟩;go_wp2;go_ret
  exact ⟨rfl,rfl⟩
 ·have HB:=Lib.hid (bitB_high n i (by omega));have hd:decide ((i:Int)<(nb n:Int))=false:=by rw [decide_eq_false_iff_not];omega
  go_enter Tryz.func204,Tryz.ntmps204
  go_wp2_with fail
  refine (rvalidE_c n _ HN.out).mono ?_;rintro e w' ⟨rfl,rfl⟩;go_wp2_with fail
  refine (rbits_c n _ (by omega)).mono ?_;rintro e w' ⟨rfl,rfl⟩;go_wp2;go_ret
  exact ⟨rb HB.out.symm,rfl⟩
end
end Go.Proofs.YtdoacbdkbbpamaaGreatDoor
