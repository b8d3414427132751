import Derived.Test.YtihjpddbjhcbmaaGreatDoorRef5
set_option linter.unusedVariables false
set_option linter.unusedSimpArgs false
set_option maxRecDepth 100000
set_option maxHeartbeats 16000000
namespace Go.Proofs.YtihjpddbjhcbmaaGreatDoor
section
open Go.RowKit
theorem rofDiv_c (a b:Nat) (w:World) (h:a / b<256^8) :
  Calls Tryz.prog 153 #[.int .u64 ((a:Int) / (b:Int))] w fun e w'=>e=.returned (.string (E (a / b)))∧Bw w w':=by
 rw[←Int.natCast_ediv];exact rof_c _ w h
theorem rofMod_c (a b:Nat) (w:World) (h:a%b<256^8) :
  Calls Tryz.prog 153 #[.int .u64 ((a:Int)%(b:Int))] w fun e w'=>e=.returned (.string (E (a%b)))∧Bw w w':=by
 rw[←Int.natCast_emod];exact rof_c _ w h
theorem rover_short (a b:Nat) (w:World) (h0:0<b) (h1:(E a).size≤8) (h2:(E b).size≤8) :
  Calls Tryz.prog 245 #[.string (E a),.string (E b)] w fun e w'=>e=.returned (.tuple #[.string (E (a / b)),.string (E (a%b))])∧Bw w w':=by
 have HA:=Kh ((E_size_le a 8).1 h1);have HB:=Kh ((E_size_le b 8).1 h2);have HQ:=Kh (Nat.lt_of_le_of_lt (Nat.div_le_self a b) HA.out);have HR:=Kh (Nat.lt_of_le_of_lt (Nat.mod_le a b) HA.out);have hz:((b:Int)==0)=false:=by rw[beq_eq_false_iff_ne];omega
 have hc:a<18446744073709551616:=by rw[u64_as_pow];exact HA.out
 have hd:b<18446744073709551616:=by rw[u64_as_pow];exact HB.out
 go_enter Tryz.func245,Tryz.ntmps245
 go_wp2_with fail
 refine (ru64_c a _ HA.out).mono ?_;rintro e w' ⟨rfl,rfl⟩;go_wp2_with fail
 refine (ru64_c b _ HB.out).mono ?_;rintro e w' ⟨rfl,rfl⟩;go_wp2_with fail
 have he:=wrapU_div a b HQ.out;have hf:=wrapU_mod a b HR.out;refine wp_region_grew (by kernel_rfl) (by kernel_rfl) ?_;repeat (go_big_quiet_step ((intro hC;first | (go_at_call_of 153 (Value.int .u64 ((a:Int) / (b:Int)));exact grew_of hC (rofDiv_c a b _ HQ.out)) | (go_at_call_of 153 (Value.int .u64 ((a:Int)%(b:Int)));exact grew_of hC (rofMod_c a b _ HR.out)))))
 refine wpQuiet_nil ?_;intro w1 hb;go_wp2;go_ret2
 exact⟨rfl,hb.out⟩
theorem div_step_ge (A b r:Nat) (hb:0<b) (hr:r=2*(A%b)) (X bit:Nat) (hX:X=2*A+bit) (he:bit≤1) (h:b≤r+bit):X%b=r+bit-b∧X / b=2*(A / b)+1:=by
 have hd:=Nat.div_add_mod A b;have hlt:=Nat.mod_lt A hb
 have e:X=b*(2*(A / b)+1)+(r+bit-b):=by
  rw[Nat.mul_add,Nat.mul_one,Nat.mul_left_comm];omega
 have hc:r+bit-b<b:=by omega
 constructor
 ·rw[e,Nat.mul_add_mod,Nat.mod_eq_of_lt hc]
 ·rw[e,Nat.mul_add_div hb,Nat.div_eq_of_lt hc]
theorem div_step_lt (A b r:Nat) (hb:0<b) (hr:r=2*(A%b)) (X bit:Nat) (hX:X=2*A+bit) (hc:bit≤1) (h:r+bit<b):X%b=r+bit∧X / b=2*(A / b):=by
 have hd:=Nat.div_add_mod A b
 have e:X=b*(2*(A / b))+(r+bit):=by
  rw[Nat.mul_left_comm];omega
 constructor
 ·rw[e,Nat.mul_add_mod,Nat.mod_eq_of_lt h]
 ·rw[e,Nat.mul_add_div hb,Nat.div_eq_of_lt h,Nat.add_zero]
theorem val_set (L:List UInt8) (j i:Nat) (hj:j<L.length) (hi:i=L.length-1-j) (d:UInt8):val (L.set i d)+(L[i]'(by omega)).toNat*256^j=val L+d.toNat*256^j:=by
 have hb:i<L.length:=by omega
 have e1:L=L.take i++L[i] :: L.drop (i+1):=by
  rw[←List.drop_eq_getElem_cons hb,List.take_append_drop]
 have e2:L.set i d=L.take i++d :: L.drop (i+1):=by
  rw[List.set_eq_take_append_cons_drop,if_pos hb]
 have hl:(L.drop (i+1)).length=j:=by simp;omega
 have v1:val L=val (L.take i)*256^(j+1)+(L[i].toNat*256^j+val (L.drop (i+1))):=by
  conv=>lhs;rw[e1]
  rw[val_append,val_cons,List.length_cons,hl]
 have v2:val (L.set i d)=val (L.take i)*256^(j+1)+(d.toNat*256^j+val (L.drop (i+1))):=by
  rw[e2,val_append,val_cons,List.length_cons,hl]
 omega
theorem bit_room (Q i:Nat):Q*2^(i+1) / 256^(i / 8)%256+2^(i%8)<256:=by
 have hr:i%8<8:=Nat.mod_lt _ (by decide)
 have e:Q*2^(i+1) / 256^(i / 8)=Q*2^(i%8+1):=by
  have:2^(i+1)=2^(i%8+1)*256^(i / 8):=by
   rw[pow256,←Nat.pow_add];congr 1;omega
  rw[this,←Nat.mul_assoc,Nat.mul_div_cancel _ (Nat.pow_pos (by decide))]
 rw[e];generalize i%8=r at hr;have:r=0∨r=1∨r=2∨r=3∨r=4∨r=5∨r=6∨r=7:=by omega
 rcases this with rfl | rfl | rfl | rfl | rfl | rfl | rfl | rfl <;> simp only[Nat.zero_add,Nat.reduceAdd,Nat.pow_zero,Nat.reducePow] <;> omega
theorem pow_byte (i:Nat):2^(i%8)*256^(i / 8)=2^i:=by
 rw[pow256,←Nat.pow_add];congr 1;omega
theorem pow_small (r:Nat) (h:r<8):2^r≤128:=by
 have:=Nat.pow_le_pow_right (show 0<2 by decide) (show r≤7 by omega);simpa using this
theorem quo_set (L:List UInt8) (i A b X:Nat) (hb:i / 8<L.length) (hv:val L=A / b*2^(i+1)) (hX:X / b=2*(A / b)+1) (j:Nat) (hj:j=L.length-1-i / 8) (d:UInt8) (hd:d.toNat=(L[j]'(by omega)).toNat+2^(i%8)) :
  val (L.set j d)=X / b*2^i:=by
 have h:=val_set L (i / 8) j hb hj d;rw[hd,Nat.add_mul,pow_byte,hv]at h
 have e:(2*(A / b)+1)*2^i=A / b*2^(i+1)+2^i:=by
  rw[Nat.pow_succ,Nat.add_mul,Nat.one_mul,Nat.mul_comm 2 (A / b),Nat.mul_assoc,Nat.mul_comm 2 (2^i)]
 rw[hX,e];omega
theorem quo_shift (q i:Nat):q*2^(i+1)=2*q*2^i:=by
 rw[Nat.pow_succ,Nat.mul_comm 2 q,Nat.mul_assoc,Nat.mul_comm 2 (2^i)]
theorem nb_len (n i:Nat) (h:i<nb n):i / 8<(E n).size:=by
 have h1:=E_lt n;rcases Nat.lt_or_ge (i / 8) (E n).size with h2 | h2
 ·exact h2
 ·exfalso;have h3:2^(nb n-1)≤n:=nb_low n (by intro e;subst e;simp[nb_zero]at h)
  have h4:256^(E n).size≤2^i:=by
   rw[pow256];exact Nat.pow_le_pow_right (by decide) (by omega)
  have h5:2^i≤2^(nb n-1):=Nat.pow_le_pow_right (by decide) (by omega);omega
theorem nb_le (n k:Nat) (h:(E n).size≤k):nb n≤8*k:=by
 rcases Nat.lt_or_ge (8*k) (nb n) with h1 | h1
 ·have:=nb_len n (8*k) h1;omega
 ·exact h1
theorem E_one:E 1=⟨#[1]⟩:=rfl
theorem size_le_of (a b m:Nat) (hb:a≤b) (h:(E b).size≤m):(E a).size≤m:=
 (E_size_le _ _).2 (Nat.lt_of_le_of_lt hb ((E_size_le _ _).1 h))
theorem size_double (r b m:Nat) (hr:r<b) (h:(E b).size≤m):(E (r+r+1)).size≤m+1:=by
 have:=(E_size_le b m).1 h;refine (E_size_le _ _).2 ?_;rw[Nat.pow_succ];omega
theorem u8_cell {w:World} {g:Nat} {T:TypeId} {L:List UInt8} (h:Blk w g T (u8s L)) (j:Nat) (hj:j<L.length):w.cell? ⟨g,j,none⟩=some (.int .u8 (L[j].toNat:Int)):=by
 rw[h.cell];simp[u8s,u8v,hj]
theorem rover_long (a b:Nat) (w:World) (h0:0<b) (h1:(E a).size≤1000) (h2:(E b).size≤1000) (h8:¬ ((E a).size≤8∧(E b).size≤8)) :
  Calls Tryz.prog 245 #[.string (E a),.string (E b)] w fun e w'=>e=.returned (.tuple #[.string (E (a / b)),.string (E (a%b))])∧Bw w w':=by
 obtain⟨n,hn⟩:∃n:Nat,(E a).size=n:=⟨_,rfl⟩;have hM:=run_mk (P:=Tryz.prog) Tryz.underlying177 info_u8 n (by omega) (by omega);have HN:Hid (((E a).size:Int)=(n:Int)):=by unfold Hid;omega
 have hw:=Kh hn;rw[←HN.out]at hM;have h4:n≤1000:=by omega
 have hS:(E a).size≤n:=by omega
 have hT:n≤(E a).size:=by omega
 have hN:=nb_le a 1000 h1;have H0:=Kh h0;clear hn
 have main:∀(hO:decide (((E a).size:Int)≤8)=true∧decide (((E b).size:Int)≤8)=false∨decide (((E a).size:Int)≤8)=false),Calls Tryz.prog 245 #[.string (E a),.string (E b)] w fun e w'=>e=.returned (.tuple #[.string (E (a / b)),.string (E (a%b))])∧Bw w w':=by
  intro hO;rcases hO with⟨hU,h5⟩ | hU
  all_goals
   go_enter Tryz.func245,Tryz.ntmps245
   go_wp2_with fail
   refine (rbits_c a _ (by omega)).mono ?_;rintro e w' ⟨rfl,rfl⟩;clear hM;rw[HN.out];go_wp2;go_loopw [9,10] (fun x y wr=>∃(m:Nat) (L:List UInt8),m≤nb a∧y=.int .i64 ((m:Int)-1)∧x=.string (E (a / 2^m%b))∧L.length=n∧val L=a / 2^m / b*2^m∧Blk wr w.heap.size 5 (u8s L)∧Bw w wr) (fun _ y _=>(intOf y+1).toNat)
   case atStart =>
    have e0:a / 2^nb a=0:=Nat.div_eq_of_lt (lt_nb a);refine⟨nb a,List.replicate n 0,by omega,rfl,by rw[e0];simp[E_zero];rfl,by simp,by rw[e0,val_zeros];simp,?_,Br.alloc (Nat.le_refl _) _⟩;have:=Blk.new w (List.replicate n (Value.int .u8 0)).toArray 5;simpa [u8s,u8v] using this
   case round =>
    obtain⟨m,L,hm,rfl,rfl,hP,hv,he,hf⟩:=hrel;have HL:=Kh hP;clear hP;have HV:=Kh hv;clear hv;by_cases hlt:0<m
    ·obtain⟨i,rfl⟩:∃i,m=i+1:=⟨m-1,by omega⟩;have HI:Hid (((i+1:Nat):Int)-1=(i:Int)):=by unfold Hid;omega
     rw[HI.out];have hx:=Nat.mod_lt (a / 2^(i+1)) H0.out;have hV:=Kh (show a / 2^(i+1)%b=a / 2^(i+1)%b from rfl);generalize hQ:a / 2^(i+1)%b=r at hx;have HR:=Kh hQ;clear hQ hV;have hF:=size_double r b 1000 hx h2;have hW:=size_le_of r (r+r+1) 1001 (by omega) hF;have hX:=size_le_of (r+r) (r+r+1) 1001 (by omega) hF;have h6:(E 1).size≤1001:=size_le_of 1 (r+r+1) 1001 (by omega) hF;have hR:i / 8<n:=by have:=nb_len a i (by omega);have:=hw.out;omega
     go_wp2_with fail
     refine (rplus_c r r _ (by omega) (by omega)).mono ?_;rintro e w1 ⟨rfl,hp⟩;go_wp2_with fail
     refine (rone_c a i _ (by omega) (by omega)).mono ?_;rintro e w' ⟨rfl,rfl⟩;cases hl:bitB a i
     ·have HX:=Kh (show a / 2^i=2*(a / 2^(i+1))+0 from bit_nil hl);clear hl;have hq:=Nat.lt_or_ge (r+r) b;go_wp2_with fail
      refine (rorder_c (r+r) b _ (by omega) (by omega)).mono ?_;rintro e wo ⟨rfl,ho⟩;rcases hq with ht | hg
      ·have hu:=cmp_neg (r+r) b ht;have hh:=Kh (div_step_lt (a / 2^(i+1)) b (r+r) H0.out (by rw[HR.out];omega) (a / 2^i) 0 HX.out (by omega) (by omega));go_wp2;go_roundw
       case rel =>
        refine⟨i,L,by omega,rfl,?_,HL.out,?_,(he.after hp).after ho,bt (bt hf hp) ho⟩
        ·exact vE (by rw[hh.out.1] <;> try omega)
        ·rw[HV.out,hh.out.2];exact quo_shift _ _
       case measure=>simp[intOf] <;> omega
      ·have hu:=cmp_nneg (r+r) b hg;have hh:=Kh (div_step_ge (a / 2^(i+1)) b (r+r) H0.out (by rw[HR.out];omega) (a / 2^i) 0 HX.out (by omega) (by omega));have hi:=(he.after hp).after ho;go_wp2_with fail
       refine (rminus_c (r+r) b _ (by omega) hg).mono ?_;rintro e wm ⟨rfl,hy⟩;have hb:=hi.after hy;have hG:n-1-i / 8<L.length:=by rw[HL.out];omega
       have hd:=u8_cell hb (n-1-i / 8) hG;have hH:=hb.free (n-1-i / 8);have hI:Hid (L[n-1-i / 8].toNat=val L / 256^(i / 8)%256):=digit_val_aux L.length L (i / 8) (n-1-i / 8) rfl (by rw[HL.out];omega) (by rw[HL.out]);have hc:=bit_room (a / 2^(i+1) / b) i;rw[←HV.out,←hI.out]at hc;have hJ:=pow_small (i%8) (Nat.mod_lt _ (by decide));generalize hz:L[n-1-i / 8].toNat=dd at hd hc;rw[←hw.out]at hd hH;have hK:=Kh hz;clear hz;go_wp2;go_loop [11,12] (fun x y=>∃j:Nat,j≤i%8∧y=.int .i64 j∧x=.int .u8 ((2^j:Nat):Int)) (fun _ y=>8-(intOf y).toNat)
       case atStart=>exact⟨0,by omega,rfl,rfl⟩
       case round =>
        obtain⟨j,hj,rfl,rfl⟩:=hrel;by_cases hY:j<i%8
        ·have hA:=pow_small (j+1) (by omega);have hB:=Kh (Nat.pow_succ 2 j);rw[Nat.pow_succ]at hA;generalize hk:2^j=pp at hA hB;have hC:=Kh hk;clear hk;go_wp2;go_round
         case rel=>exact⟨j+1,by omega,by go_num,by rw[show 2^(j+1)=pp*2 from hB.out];go_num⟩
         case measure=>simp[intOf] <;> omega
        ·obtain rfl:j=i%8:=by omega
         generalize hk:2^(i%8)=pp at hc hJ;have hC:=Kh hk;clear hk;go_wp2;go_roundw
         case rel =>
          have hD:(UInt8.ofNat (dd+pp)).toNat=dd+pp:=by rw[UInt8.toNat_ofNat'];omega
          refine⟨i,L.set (n-1-i / 8) (UInt8.ofNat (dd+pp)),by omega,rfl,?_,by simpa using HL.out,?_,?_,?_⟩
          ·exact vE (by rw[hh.out.1] <;> try omega)
          ·exact quo_set L i (a / 2^(i+1)) b (a / 2^i) (by rw[HL.out];exact hR) HV.out hh.out.2 _ (by rw[HL.out]) _ (by rw[hD,hK.out,hC.out])
          ·have:=hb.set (n-1-i / 8) (u8v (UInt8.ofNat (dd+pp)));rw[u8s_set]at this;unfold u8v at this;rw[hD,Int.natCast_add]at this;rw[hw.out];exact this
          ·exact (bt (bt (bt hf hp) ho) hy).setCell (Nat.le_refl _) _
         case measure=>simp[intOf] <;> omega
     ·have HX:=Kh (bit_one hl);clear hl;have hL:=rplus_c (r+r) 1 w1 (by omega) (by omega);rw[E_one]at hL;have hZ:=Kh hL;clear hL;go_wp2_with fail
      refine (hZ.out).mono ?_;rintro e w2 ⟨rfl,hE⟩;have hq:=Nat.lt_or_ge (r+r+1) b;go_wp2_with fail
      refine (rorder_c (r+r+1) b _ (by omega) (by omega)).mono ?_;rintro e wo ⟨rfl,ho⟩;rcases hq with ht | hg
      ·have hu:=cmp_neg (r+r+1) b ht;have hh:=Kh (div_step_lt (a / 2^(i+1)) b (r+r) H0.out (by rw[HR.out];omega) (a / 2^i) 1 HX.out (by omega) (by omega));go_wp2;go_roundw
       case rel =>
        refine⟨i,L,by omega,rfl,?_,HL.out,?_,((he.after hp).after hE).after ho,bt (bt (bt hf hp) hE) ho⟩
        ·exact vE (by rw[hh.out.1] <;> try omega)
        ·rw[HV.out,hh.out.2];exact quo_shift _ _
       case measure=>simp[intOf] <;> omega
      ·have hu:=cmp_nneg (r+r+1) b hg;have hh:=Kh (div_step_ge (a / 2^(i+1)) b (r+r) H0.out (by rw[HR.out];omega) (a / 2^i) 1 HX.out (by omega) (by omega));have hi:=((he.after hp).after hE).after ho;go_wp2_with fail
       refine (rminus_c (r+r+1) b _ (by omega) hg).mono ?_;rintro e wm ⟨rfl,hy⟩;have hb:=hi.after hy;have hG:n-1-i / 8<L.length:=by rw[HL.out];omega
       have hd:=u8_cell hb (n-1-i / 8) hG;have hH:=hb.free (n-1-i / 8);have hI:Hid (L[n-1-i / 8].toNat=val L / 256^(i / 8)%256):=digit_val_aux L.length L (i / 8) (n-1-i / 8) rfl (by rw[HL.out];omega) (by rw[HL.out]);have hc:=bit_room (a / 2^(i+1) / b) i;rw[←HV.out,←hI.out]at hc;have hJ:=pow_small (i%8) (Nat.mod_lt _ (by decide));generalize hz:L[n-1-i / 8].toNat=dd at hd hc;rw[←hw.out]at hd hH;have hK:=Kh hz;clear hz;go_wp2;go_loop [11,12] (fun x y=>∃j:Nat,j≤i%8∧y=.int .i64 j∧x=.int .u8 ((2^j:Nat):Int)) (fun _ y=>8-(intOf y).toNat)
       case atStart=>exact⟨0,by omega,rfl,rfl⟩
       case round =>
        obtain⟨j,hj,rfl,rfl⟩:=hrel;by_cases hY:j<i%8
        ·have hA:=pow_small (j+1) (by omega);have hB:=Kh (Nat.pow_succ 2 j);rw[Nat.pow_succ]at hA;generalize hk:2^j=pp at hA hB;have hC:=Kh hk;clear hk;go_wp2;go_round
         case rel=>exact⟨j+1,by omega,by go_num,by rw[show 2^(j+1)=pp*2 from hB.out];go_num⟩
         case measure=>simp[intOf] <;> omega
        ·obtain rfl:j=i%8:=by omega
         generalize hk:2^(i%8)=pp at hc hJ;have hC:=Kh hk;clear hk;go_wp2;go_roundw
         case rel =>
          have hD:(UInt8.ofNat (dd+pp)).toNat=dd+pp:=by rw[UInt8.toNat_ofNat'];omega
          refine⟨i,L.set (n-1-i / 8) (UInt8.ofNat (dd+pp)),by omega,rfl,?_,by simpa using HL.out,?_,?_,?_⟩
          ·exact vE (by rw[hh.out.1] <;> try omega)
          ·exact quo_set L i (a / 2^(i+1)) b (a / 2^i) (by rw[HL.out];exact hR) HV.out hh.out.2 _ (by rw[HL.out]) _ (by rw[hD,hK.out,hC.out])
          ·have:=hb.set (n-1-i / 8) (u8v (UInt8.ofNat (dd+pp)));rw[u8s_set]at this;unfold u8v at this;rw[hD,Int.natCast_add]at this;rw[hw.out];exact this
          ·exact (bt (bt (bt (bt hf hp) hE) ho) hy).setCell (Nat.le_refl _) _
         case measure=>simp[intOf] <;> omega
    ·obtain rfl:m=0:=by omega
     have hr:Row wr w.heap.size 0 L:=he.row;have HE:Hid (val L=a / b):=by rw[Hid,HV.out];simp
     go_wp2_with fail
     have:=(rtrim_c w.heap.size 0 n L wr (by rw[HL.out];omega) (by omega) hr);rw[HL.out,HE.out]at this;refine this.mono ?_;rintro e w' ⟨rfl,rfl⟩;go_wp2;go_ret2
     exact⟨r2 rfl rfl,hf⟩
 apply main
 by_cases h3:(E a).size≤8
 ·left
  exact⟨by rw[decide_eq_true_iff];omega,by rw[decide_eq_false_iff_not];omega⟩
 ·right
  rw[decide_eq_false_iff_not];omega
theorem rover_c (a b:Nat) (w:World) (h0:0<b) (h1:(E a).size≤1000) (h2:(E b).size≤1000) :
  Calls Tryz.prog 245 #[.string (E a),.string (E b)] w fun e w'=>e=.returned (.tuple #[.string (E (a / b)),.string (E (a%b))])∧Bw w w':=by
 by_cases h:(E a).size≤8∧(E b).size≤8
 ·exact rover_short a b w h0 h.1 h.2
 ·exact rover_long a b w h0 h1 h2 h
end
section
open Go.RowKit
theorem rfit_c (n:Nat) (w:World) (h:n<256^128) :
  Calls Tryz.prog 239 #[.string (E n)] w fun e w'=>e=.returned (.tuple #[.string (E n),.int .i64 0])∧w=w':=by
 have h1:=sz n h;have H:=Kh h;clear h;go_enter Tryz.func239,Tryz.ntmps239
 go_wp2;go_ret2
 exact⟨rfl,rfl⟩
theorem rcmp_c (a b:Nat) (w:World) (ha:a<256^128) (hb:b<256^128) :
  Calls Tryz.prog 65 #[.string (E a),.string (E b)] w fun e w'=>e=.returned (.int .i64 (cmpN a b))∧Bw w w':=by
 have h1:=sz a ha;have h2:=sz b hb;have HA:=Kh ha;have HB:=Kh hb;clear ha hb;go_enter Tryz.func65,Tryz.ntmps65
 go_wp2_with fail
 refine (rvalidE_c a _ HA.out).mono ?_;rintro e w' ⟨rfl,rfl⟩;go_wp2_with fail
 refine (rvalidE_c b _ HB.out).mono ?_;rintro e w' ⟨rfl,rfl⟩;go_wp2_with fail
 refine (rorder_c a b _ (by omega) (by omega)).mono ?_;rintro e w1 ⟨rfl,hc⟩;go_wp2;go_ret
 exact⟨rfl,hc⟩
theorem radd_c (a b:Nat) (w:World) (ha:a<256^128) (hb:b<256^128) (hs:a+b<256^128) :
  Calls Tryz.prog 154 #[.string (E a),.string (E b)] w fun e w'=>e=.returned (.tuple #[.string (E (a+b)),.int .i64 0])∧Bw w w':=by
 have h1:=sz a ha;have h2:=sz b hb;have HA:=Kh ha;have HB:=Kh hb;have HS:=Kh hs;clear ha hb hs;go_enter Tryz.func154,Tryz.ntmps154
 go_wp2_with fail
 refine (rvalidE_c a _ HA.out).mono ?_;rintro e w' ⟨rfl,rfl⟩;go_wp2_with fail
 refine (rvalidE_c b _ HB.out).mono ?_;rintro e w' ⟨rfl,rfl⟩;go_wp2_with fail
 refine (rplus_c a b _ (by omega) (by omega)).mono ?_;rintro e w1 ⟨rfl,hc⟩;go_wp2_with fail
 refine (rfit_c (a+b) _ HS.out).mono ?_;rintro e w' ⟨rfl,rfl⟩;go_wp2;go_ret2
 exact⟨rfl,hc⟩
theorem rsub_c (a b:Nat) (w:World) (ha:a<256^128) (hb:b≤a) :
  Calls Tryz.prog 171 #[.string (E a),.string (E b)] w fun e w'=>e=.returned (.tuple #[.string (E (a-b)),.int .i64 0])∧Bw w w':=by
 have HB:=Kh (show b<256^128 by omega);have h1:=sz a ha;have h2:=sz b HB.out;have HA:=Kh ha;have HL:=Kh hb;have hc:=cmp_nneg a b hb;clear ha hb;go_enter Tryz.func171,Tryz.ntmps171
 go_wp2_with fail
 refine (rvalidE_c a _ HA.out).mono ?_;rintro e w' ⟨rfl,rfl⟩;go_wp2_with fail
 refine (rvalidE_c b _ HB.out).mono ?_;rintro e w' ⟨rfl,rfl⟩;go_wp2_with fail
 refine (rorder_c a b _ (by omega) (by omega)).mono ?_;rintro e w1 ⟨rfl,hd⟩;go_wp2_with fail
 refine (rminus_c a b _ (by omega) HL.out).mono ?_;rintro e w2 ⟨rfl,he⟩;go_wp2;go_ret2
 exact⟨rfl,bt hd he⟩
theorem rmul_c (a b:Nat) (w:World) (ha:a<256^128) (hb:b<256^128) (hs:a*b<256^128) :
  Calls Tryz.prog 152 #[.string (E a),.string (E b)] w fun e w'=>e=.returned (.tuple #[.string (E (a*b)),.int .i64 0])∧Bw w w':=by
 have h1:=sz a ha;have h2:=sz b hb;have HA:=Kh ha;have HB:=Kh hb;have HS:=Kh hs;clear ha hb hs;go_enter Tryz.func152,Tryz.ntmps152
 go_wp2_with fail
 refine (rvalidE_c a _ HA.out).mono ?_;rintro e w' ⟨rfl,rfl⟩;go_wp2_with fail
 refine (rvalidE_c b _ HB.out).mono ?_;rintro e w' ⟨rfl,rfl⟩;go_wp2_with fail
 refine (rtimes_c a b _ (by omega) (by omega)).mono ?_;rintro e w1 ⟨rfl,hc⟩;go_wp2_with fail
 refine (rfit_c (a*b) _ HS.out).mono ?_;rintro e w' ⟨rfl,rfl⟩;go_wp2;go_ret2
 exact⟨rfl,hc⟩
theorem rdivmod_c (a b:Nat) (w:World) (ha:a<256^128) (hb:b<256^128) (h0:0<b) :
  Calls Tryz.prog 307 #[.string (E a),.string (E b)] w fun e w'=>e=.returned (.tuple #[.string (E (a / b)),.string (E (a%b)),.int .i64 0])∧Bw w w':=by
 have h1:=sz a ha;have h2:=sz b hb;have HA:=Kh ha;have HB:=Kh hb;have H0:=Kh h0;have hz:=nzE h0;clear ha hb h0;go_enter Tryz.func307,Tryz.ntmps307
 go_wp2_with fail
 refine (rvalidE_c a _ HA.out).mono ?_;rintro e w' ⟨rfl,rfl⟩;go_wp2_with fail
 refine (rvalidE_c b _ HB.out).mono ?_;rintro e w' ⟨rfl,rfl⟩;go_wp2_with fail
 refine (rover_c a b _ H0.out (by omega) (by omega)).mono ?_;rintro e w1 ⟨rfl,hc⟩;go_wp2;go_ret3
 exact⟨rfl,hc⟩
theorem rcommon_c (a b:Nat) (w:World) (ha:a<256^128) (hb:b<256^128) :
  Calls Tryz.prog 247 #[.string (E a),.string (E b)] w fun e w'=>e=.returned (.string (E (Nat.gcd a b)))∧Bw w w':=by
 have HA:=Kh ha;have HB:=Kh hb;clear ha hb;go_enter Tryz.func247,Tryz.ntmps247
 go_wp2;go_loopw [0,1] (fun x y wr=>∃p q:Nat,p<256^128∧q<256^128∧x=.string (E p)∧y=.string (E q)∧Nat.gcd p q=Nat.gcd a b∧Bw w wr) (fun _ y _=>strVal y)
 case atStart=>exact⟨a,b,HA.out,HB.out,rfl,rfl,rfl,Br⟩
 case round =>
  obtain⟨p,q,hp,hq,rfl,rfl,hg,hc⟩:=hrel;have he:=sz p hp;have hf:=sz q hq;have HP:=Kh hp;clear hp;have HQ:=Kh hq;clear hq;have HG:=Kh hg;clear hg;by_cases h0:0<q
  ·have hz:=nzE h0;have H0:=Kh h0;clear h0;go_wp2_with fail
   refine (rover_c p q _ H0.out (by omega) (by omega)).mono ?_;rintro e w1 ⟨rfl,hd⟩;go_wp2;go_roundw
   case rel =>
    refine⟨q,p%q,HQ.out,Nat.lt_trans (Nat.mod_lt _ H0.out) HQ.out,rfl,rfl,?_,bt hc hd⟩;rw[←HG.out,Nat.gcd_comm p q,Nat.gcd_rec q p,Nat.gcd_comm]
   case measure =>
    rw[strVal_E,strVal_E];exact Nat.mod_lt _ H0.out
  ·obtain rfl:q=0:=by omega
   have hz:=zE (n:=0) rfl;have HE:Hid (p=Nat.gcd a b):=by rw[Hid,←HG.out,Nat.gcd_zero_right]
   go_wp2;go_ret
   exact⟨rE HE.out,hc⟩
theorem rBits_c (n:Nat) (w:World) (hn:n<256^128) :
  Calls Tryz.prog 268 #[.string (E n)] w fun e w'=>e=.returned (.int .i64 (nb n))∧w=w':=by
 have HN:=Kh hn;have hs:=sz n hn;clear hn;go_enter Tryz.func268,Tryz.ntmps268
 go_wp2_with fail
 refine (rvalidE_c n _ HN.out).mono ?_;rintro e w' ⟨rfl,rfl⟩;go_wp2_with fail
 refine (rbits_c n _ (by omega)).mono ?_;rintro e w' ⟨rfl,rfl⟩;go_wp2;go_ret
 exact⟨rfl,rfl⟩
theorem bitB_high (n i:Nat) (h:nb n≤i):bitB n i=false:=by
 have h1:=lt_nb n;have h2:2^nb n≤2^i:=Nat.pow_le_pow_right (by decide) h;unfold bitB;rw[Nat.div_eq_of_lt (by omega)];rfl
theorem rBit_c (n:Nat) (i:Nat) (w:World) (hn:n<256^128) (hi:i≤1000000) :
  Calls Tryz.prog 331 #[.string (E n),.int .i64 (i:Int)] w fun e w'=>e=.returned (.bool (bitB n i))∧w=w':=by
 have HN:=Kh hn;have hs:=sz n hn;have hb:=nb_le n 128 hs;clear hn;by_cases h0:i<nb n
 ·have hd:decide ((i:Int)<(nb n:Int))=true:=by rw[decide_eq_true_iff];omega
  go_enter Tryz.func331,Tryz.ntmps331
  go_wp2_with fail
  refine (rvalidE_c n _ HN.out).mono ?_;rintro e w' ⟨rfl,rfl⟩;go_wp2_with fail
  refine (rbits_c n _ (by omega)).mono ?_;rintro e w' ⟨rfl,rfl⟩;go_wp2_with fail
  refine (rone_c n i _ (by omega) (by omega)).mono ?_;rintro e w' ⟨rfl,rfl⟩;go_wp2;go_ret
  exact⟨rfl,rfl⟩
 ·have HB:=Kh (bitB_high n i (by omega));have hd:decide ((i:Int)<(nb n:Int))=false:=by rw[decide_eq_false_iff_not];omega
  go_enter Tryz.func331,Tryz.ntmps331
  go_wp2_with fail
  refine (rvalidE_c n _ HN.out).mono ?_;rintro e w' ⟨rfl,rfl⟩;go_wp2_with fail
  refine (rbits_c n _ (by omega)).mono ?_;rintro e w' ⟨rfl,rfl⟩;go_wp2;go_ret
  exact⟨rb HB.out.symm,rfl⟩
end
end Go.Proofs.YtihjpddbjhcbmaaGreatDoor
