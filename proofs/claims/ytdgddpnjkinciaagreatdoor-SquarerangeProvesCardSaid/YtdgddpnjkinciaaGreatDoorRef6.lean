import Derived.Test.YtdgddpnjkinciaaGreatDoorRef3
import Derived.Test.YtdgddpnjkinciaaGreatDoorWsum
import Derived.StillTailTactics
set_option linter.all false
set_option maxRecDepth 100000
set_option maxHeartbeats 16000000
namespace Go.Proofs.YtdgddpnjkinciaaGreatDoor
section
open Go.RowKit
def i64s (l:List Nat):List Value:=l.map (fun x:Nat=>Value.int .i64 (x:Int))
theorem i64_cell {w:World} {g:Nat} {T:TypeId} {S:List Nat} (h:Blk w g T (i64s S)) (j:Nat) (hj:j<S.length):w.cell? ⟨g,j,none⟩=some (.int .i64 (S[j]:Int)):=by
 rw[h.cell];simp[i64s,hj]
theorem i64_set {w:World} {g:Nat} {T:TypeId} {S:List Nat} (h:Blk w g T (i64s S)) (j x:Nat):Blk (w.setCell ⟨g,j,none⟩ (.int .i64 (x:Int))) g T (i64s (S.set j x)):=by
 have:=h.set j (.int .i64 (x:Int));simpa [i64s] using this
theorem atw_c (s:ByteArray) (i:Nat) (w:World) (hs:s.size≤1000000) (h1:i≤1000000) :
  Calls Tryz.prog 186 #[.string s,.int .i64 (i:Int)] w fun e w'=>e=.returned (.int .i64 (dgt s i))∧w'=w:=
 (rat_c s i w (by omega) (by omega) (by omega)).mono fun _ _ h=>⟨by rw[h.1,Int.toNat_natCast],h.2.symm⟩
theorem mul_lt_pow (a b m n:Nat) (ha:a<256^m) (hb:b<256^n):a*b<256^(m+n):=by
 rw[Nat.pow_add];exact Nat.mul_lt_mul'' ha hb
theorem rtimes_long (a b:Nat) (w:World) (h1:(E a).size≤1000) (h2:(E b).size≤1000) (h8:8<(E a).size+(E b).size) :
  Calls Tryz.prog 151 #[.string (E a),.string (E b)] w fun e w'=>e=.returned (.string (E (a*b)))∧Bw w w':=by
 obtain⟨n,hn⟩:∃n:Nat,n=(E a).size+(E b).size:=⟨_,rfl⟩;have HN:Hid (((E a).size:Int)+((E b).size:Int)=(n:Int)):=by unfold Hid;omega
 have hT:=Kh hn;have HR:Hid (a*b<256^n):=by rw[hn];exact mul_lt_pow a b _ _ (E_lt a) (E_lt b)
 have hU:n≤2000:=by omega
 have hV:(E a).size≤n:=by omega
 have hN:(E a).size+(E b).size≤n:=by omega
 have ht:=run_mk (P:=Tryz.prog) Tryz.underlying226 info_int (n+1) (by omega) (by omega);have hO:Hid (((E a).size:Int)+((E b).size:Int)+1=((n+1:Nat):Int)):=by unfold Hid;omega
 rw[←hO.out]at ht;clear hn;go_enter Tryz.func151,Tryz.ntmps151
 go_wp2;clear ht;rw[HN.out];go_loopw [7] (fun x wr=>∃(i:Nat) (S:List Nat),i≤(E a).size∧x=.int .i64 i∧S.length=n+1∧wsum S=a%256^i*b∧ColB 65025 S i 0∧Blk wr w.heap.size 3 (i64s S)∧Bw w wr) (fun x _=>(E a).size-(intOf x).toNat)
 case atStart =>
  refine⟨0,List.replicate (n+1) 0,by omega,rfl,by simp,by simp[wsum_zeros,Nat.mod_one],ColB.zeros _ _,?_,Br.alloc (Nat.le_refl _) _⟩;have:=Blk.new w (List.replicate (n+1) (Value.int .i64 0)).toArray 3;simpa [i64s] using this
 case round =>
  obtain⟨wo,rfl⟩:∃wo:World,wo=wr:=⟨_,rfl⟩;obtain⟨i,S,hi,rfl,hF,hS,hh,he,hm⟩:=hrel;have hz:=Kh hF;clear hF;have HS:=Kh hS;clear hS;by_cases hlt:i<(E a).size
  ·go_wp2;go_loopw [8] (fun x wr=>∃(k:Nat) (S:List Nat),k≤(E b).size∧x=.int .i64 k∧S.length=n+1∧wsum S=a%256^i*b+dgt (E a) i*256^i*(b%256^k)∧ColB 65025 S i (i+k)∧Blk wr w.heap.size 3 (i64s S)∧Bw w wr) (fun x _=>(E b).size-(intOf x).toNat)
   case atStart =>
    exact⟨0,S,by omega,rfl,hz.out,by rw[HS.out];simp[Nat.mod_one],by simpa using hh.start,he,hm⟩
   case round =>
    obtain⟨k,S',hk,rfl,ho,hG,hd,hb,hf⟩:=hrel;clear he hh;have hp:=Kh ho;have hH:=Kh hG;clear hG;by_cases hA:k<(E b).size
    ·have hu:i+k<S'.length:=by omega
     have hc:=i64_cell hb (i+k) hu;have hP:=hb.free (i+k);have hbd:=hd.at hu;have hW:=dgt_lt (E a) i;have hX:=dgt_lt (E b) k;have hQ:i+k<n+1:=by omega
     clear ho;generalize hq:S'[i+k]=s0 at hc hbd;have hw:=Kh hq;clear hq;have hB:dgt (E a) i*dgt (E b) k≤65025:=Nat.le_trans (Nat.mul_le_mul (show _≤255 by omega) (show _≤255 by omega)) (by decide);have hI:(dgt (E a) i:Int)*(dgt (E b) k:Int)≤65025:=by rw[←Int.natCast_mul];omega
     have hJ:0≤(dgt (E a) i:Int)*(dgt (E b) k:Int):=by rw[←Int.natCast_mul];omega
     go_wp2;have q1:IntKind.i64.wrap ((i:Int)+(k:Int))=(i:Int)+(k:Int):=IntWalk.i64_in _ (by omega);have q2:((i:Int)+(k:Int)).toNat=i+k:=by omega
     have q3:0≤(i:Int)+(k:Int):=by omega
     have q4:(i:Int)+(k:Int)<(n:Int)+1:=by omega
     have q5:IntKind.i64.wrap ((dgt (E a) i:Int)*(dgt (E b) k:Int))=(dgt (E a) i:Int)*(dgt (E b) k:Int):=IntWalk.i64_in _ (by omega);have q6:IntKind.i64.wrap ((s0:Int)+(dgt (E a) i:Int)*(dgt (E b) k:Int))=(s0:Int)+(dgt (E a) i:Int)*(dgt (E b) k:Int):=IntWalk.i64_in _ (by omega);refine wp_region_still_tail 15 (by kernel_rfl) (by kernel_rfl) ?_;simp only[List.take_succ_cons,List.take_zero,List.drop_succ_cons,List.drop_zero];repeat (first | still_step | (still_call (atw_c _ _ _ (by omega) (by omega))))
     refine wpStill_nil ?_;change wpList _ _ _ _ _ wr.drew
     clear q1 q2 q3 q4 q5 q6;go_wp2;go_roundw
     case rel =>
      refine⟨k+1,S'.set (i+k) (S'[i+k]+dgt (E a) i*dgt (E b) k),by omega,by go_num,by simpa using hp.out,?_,?_,?_,?_⟩
      ·rw[dgt_E b k];exact prod_step S' _ b i k _ hu hH.out
      ·exact hd.step hu hB
      ·have:=i64_set hb (i+k) (S'[i+k]+dgt (E a) i*dgt (E b) k);rw[hw.out,Int.natCast_add,Int.natCast_mul]at this;rw[hw.out];exact this
      ·exact (hf.setCell (Nat.le_refl _) _).drew
     case measure=>simp[intOf];omega
    ·obtain rfl:k=(E b).size:=by omega
     go_wp2;go_roundw
     case rel =>
      refine⟨i+1,S',by omega,by go_num,hp.out,?_,hd.next,hb,hf⟩;rw[hH.out,dgt_E];exact prod_row a b i _ (E_lt b)
     case measure=>simp[intOf];omega
  ·obtain rfl:i=(E a).size:=by omega
   have ht:=run_mk (P:=Tryz.prog) Tryz.underlying137 info_u8 n (by omega) (by omega);have hR:Hid (wsum S=a*b):=by rw[Hid,HS.out,Nat.mod_eq_of_lt (E_lt a)]
   obtain⟨Bo,hC⟩:∃Bo,Bo=wo.heap.size:=⟨_,rfl⟩;have hD:=Kh hC;have hY:w.heap.size<Bo:=by rw[hC];exact he.lt
   have hj:w.heap.size≤Bo:=by omega
   clear hC;go_wp2;clear ht;rw[←hD.out];go_loopw [10,11] (fun x i wr=>∃(k c:Nat) (t:List UInt8),k≤n∧c≤600000∧i=.int .i64 k∧x=.int .i64 c∧t.length=k∧val t+c*256^k=wsum (S.take k)∧Blk wr w.heap.size 3 (i64s S)∧Blk wr Bo 5 (u8s (List.replicate (n-k) 0++t))∧Bw w wr) (fun _ i _=>n-(intOf i).toNat)
   case atStart =>
    refine⟨0,0,[],by omega,by omega,rfl,rfl,rfl,by simp[val,wsum],he.alloc _,?_,hm.alloc (by rw[hD.out]at hj;exact hj) _⟩;have:=Blk.new wo (List.replicate n (Value.int .u8 0)).toArray 5;rw[←hD.out]at this;simpa [u8s,u8v] using this
   case round =>
    obtain⟨k,c,t,hk,hc,rfl,rfl,hK,hv,hL,hy,hg⟩:=hrel;have HV:=Kh hv;clear hv;have HL:=Kh hK;clear hK;by_cases hA:k<n
    ·have hE:k<S.length:=by rw[hz.out];omega
     have hl:=i64_cell hL k hE;have hbd:=hh.at hE;generalize hq:S[k]=s0 at hl hbd;have hw:=Kh hq;clear hq;have hM:=front_cell hy hA rfl;have hP:=hy.free (n-1-k);go_wp2;go_roundw
     case rel =>
      obtain⟨x,hx⟩:∃x,x=s0+c:=⟨_,rfl⟩;rw[byteI x _ (by omega)];refine⟨k+1,x / 256,UInt8.ofNat (x%256) :: t,by omega,by omega,by go_num,vi (by omega),by simp[HL.out],col_step S k c x t hE HL.out HV.out (by rw[hw.out];exact hx),hL.other _ _ (by simp;omega),front_set hy hA rfl _,hg.setCell hj _⟩
     case measure=>simp[intOf];omega
    ·obtain rfl:k=n:=by omega
     have hr:Row wr Bo 0 t:=by
      have:=hy.row;simpa using this
     have HE:=Kh (col_end k c (a*b) S t HL.out (by rw[hz.out];omega) HV.out hR.out HR.out);go_wp2_with fail
     have:=(rtrim_c Bo 0 k t wr (by rw[HL.out];omega) (by omega) hr);rw[HL.out,HE.out]at this;refine this.mono ?_;rintro e w' ⟨rfl,rfl⟩;go_wp2;go_ret
     exact⟨rfl,hg⟩
end
section
open Go.RowKit
theorem first_at (n:Nat) (h:0<(E n).size):(E n)[0].toNat=n / 256^((E n).size-1):=by
 have h1:=dgt_at (E n) ((E n).size-1) 0 (by omega) (by omega);rw[h1,dgt_E];have:=(first_byte n ((E_size_pos n).1 h)).2;rw[←E_size]at this;exact Nat.mod_eq_of_lt this
theorem rbits_c (n:Nat) (w:World) (hm:(E n).size≤1000000) :
  Calls Tryz.prog 183 #[.string (E n)] w fun e w'=>e=.returned (.int .i64 (nb n))∧w=w':=by
 by_cases h0:n=0
 ·subst h0;have hz:=zE (n:=0) rfl;go_enter Tryz.func183,Tryz.ntmps183
  go_wp2;go_ret
  exact⟨rfl,rfl⟩
 ·have hz:=nzE (n:=n) (by omega);have hp:=(E_size_pos n).2 (by omega);have HF:=Kh (first_at n hp);have HB:=Kh (first_byte n (by omega));have HN:=Kh (nb_first n (by omega));have hb:=wb (E n)[0];have hlt:=(E n)[0].toNat_lt;generalize hx:(E n)[0].toNat=x at hb hlt;have HX:=Kh hx;go_enter Tryz.func183,Tryz.ntmps183
  go_wp2;clear hx hb;go_loop [3,4] (fun c y=>∃(m z:Nat),z<256∧y=.int .i64 z∧m≤8∧m+nb z=nb x∧c=.int .i64 (8*((E n).size-1)+m:Nat)) (fun _ y=>(intOf y).toNat)
  case atStart=>exact⟨0,x,by omega,rfl,by omega,by omega,vi (by omega)⟩
  case round =>
   obtain⟨m,z,he,rfl,hf,hv,rfl⟩:=hrel;have HV:=Kh hv;clear hv
   have hc:Hid (nb x≤8):=by
    have:=nb_byte ⟨x,by omega⟩;have h2:=Lib.bitLen_le8 ⟨x,by omega⟩;simp only at this h2;unfold Hid;omega
   by_cases hd:0<z
   ·have HH:=Kh (nb_half z hd);go_wp2;go_round
    case rel =>
     have h1:=HH.out;have h2:=HV.out;have h3:=hc.out;exact⟨m+1,z / 2,by omega,by go_num,by omega,by omega,vi (by omega)⟩
    case measure=>simp[intOf];omega
   ·obtain rfl:z=0:=by omega
    have HE:Hid (8*((E n).size-1)+m=nb n):=by
     have h2:=HV.out;rw[nb_zero]at h2;have h3:=HN.out;rw[←E_size,←HF.out,HX.out]at h3;unfold Hid;omega
    go_wp2;go_ret
    exact⟨ri (congrArg (fun x:Nat=>(x:Int)) HE.out),rfl⟩
theorem half_pow (x k:Nat):x / 2^k / 2=x / 2^(k+1):=by rw[Nat.pow_succ,Nat.div_div_eq_div_mul]
theorem rone_c (n i:Nat) (w:World) (hm:(E n).size≤1000000) (hi:i≤1000000) :
  Calls Tryz.prog 185 #[.string (E n),.int .i64 (i:Int)] w fun e w'=>e=.returned (.bool (bitB n i))∧w=w':=by
 have HB:=Kh (bit_byte n i);have hd:=dgt_lt (E n) (i / 8);have HQ:Hid (((i:Int) / 8).toNat=i / 8):=by unfold Hid;omega
 have HD:=Kh (dgt_E n (i / 8));go_enter Tryz.func185,Tryz.ntmps185
 go_wp2_with fail
 refine (rat_c (E n) _ _ (by omega) (by omega) (by omega)).mono ?_;rintro e w' ⟨rfl,rfl⟩;rw[HQ.out];generalize dgt (E n) (i / 8)=d at hd HD;go_wp2;go_loop [5,6] (fun x j=>∃k:Nat,k≤i%8∧j=.int .i64 k∧x=.int .i64 (d / 2^k:Nat)) (fun _ j=>8-(intOf j).toNat)
 case atStart=>exact⟨0,by omega,rfl,by simp⟩
 case round =>
  obtain⟨k,hk,rfl,rfl⟩:=hrel;have HH:=Kh (half_pow d k);have hb:d / 2^k≤d:=Nat.div_le_self _ _;by_cases hlt:k<i%8
  ·generalize hq:d / 2^k=q at hb HH;have hc:=Kh hq;clear hq;go_wp2;go_round
   case rel=>exact⟨k+1,by omega,by go_num,by rw[←HH.out];go_num⟩
   case measure=>simp[intOf];omega
  ·obtain rfl:k=i%8:=by omega
   have HE:Hid (((d / 2^(i%8):Nat):Int)%2=((n / 2^i%2:Nat):Int)):=by
    have:=HB.out;rw[←HD.out]at this;unfold Hid;omega
   generalize hq:d / 2^(i%8)=q at hb HE;have hc:=Kh hq;clear hq;go_wp2;go_ret
   refine⟨rb ?_,rfl⟩;rw[HE.out];unfold bitB;rw[Bool.eq_iff_iff,beq_iff_eq,beq_iff_eq];omega
theorem rofMul_c (a b:Nat) (w:World) (h:a*b<256^8) :
  Calls Tryz.prog 28 #[.int .u64 (IntKind.u64.wrap ((a:Int)*(b:Int)))] w fun e w'=>e=.returned (.string (E (a*b)))∧Bw w w':=by
 rw[←Int.natCast_mul,wrapU _ h];exact rof_c _ w h
theorem rtimes_short (a b:Nat) (w:World) (h8:(E a).size+(E b).size≤8) :
  Calls Tryz.prog 151 #[.string (E a),.string (E b)] w fun e w'=>e=.returned (.string (E (a*b)))∧Bw w w':=by
 have HA:=Kh ((E_size_le a 8).1 (by omega));have HB:=Kh ((E_size_le b 8).1 (by omega));have hb:a*b<256^8:=Nl (mul_lt_pow a b _ _ (E_lt a) (E_lt b)) (Nat.pow_le_pow_right (by decide) h8);have hc:=Kh hb;clear hb;go_enter Tryz.func151,Tryz.ntmps151
 go_wp2_with fail
 refine (ru64_c a _ HA.out).mono ?_;rintro e w' ⟨rfl,rfl⟩;go_wp2_with fail
 refine (ru64_c b _ HB.out).mono ?_;rintro e w' ⟨rfl,rfl⟩;go_wp2_with fail
 refine (rofMul_c a b _ hc.out).mono ?_;rintro e w1 ⟨rfl,hd⟩;go_wp2;go_ret
 exact⟨rfl,hd⟩
theorem rtimes_c (a b:Nat) (w:World) (h1:(E a).size≤1000) (h2:(E b).size≤1000) :
  Calls Tryz.prog 151 #[.string (E a),.string (E b)] w fun e w'=>e=.returned (.string (E (a*b)))∧Bw w w':=by
 rcases Nat.lt_or_ge 8 ((E a).size+(E b).size) with h | h
 ·exact rtimes_long a b w h1 h2 h
 ·exact rtimes_short a b w h
end
section
open Go.RowKit
theorem rofDiv_c (a b:Nat) (w:World) (h:a / b<256^8) :
  Calls Tryz.prog 28 #[.int .u64 ((a:Int) / (b:Int))] w fun e w'=>e=.returned (.string (E (a / b)))∧Bw w w':=by
 rw[←Int.natCast_ediv];exact rof_c _ w h
theorem rofMod_c (a b:Nat) (w:World) (h:a%b<256^8) :
  Calls Tryz.prog 28 #[.int .u64 ((a:Int)%(b:Int))] w fun e w'=>e=.returned (.string (E (a%b)))∧Bw w w':=by
 rw[←Int.natCast_emod];exact rof_c _ w h
theorem rover_short (a b:Nat) (w:World) (h0:0<b) (h1:(E a).size≤8) (h2:(E b).size≤8) :
  Calls Tryz.prog 142 #[.string (E a),.string (E b)] w fun e w'=>e=.returned (.tuple #[.string (E (a / b)),.string (E (a%b))])∧Bw w w':=by
 have HA:=Kh ((E_size_le a 8).1 h1);have HB:=Kh ((E_size_le b 8).1 h2);have HQ:=Kh (Nat.lt_of_le_of_lt (Nat.div_le_self a b) HA.out);have HR:=Kh (Nat.lt_of_le_of_lt (Nat.mod_le a b) HA.out);have hz:((b:Int)==0)=false:=by rw[beq_eq_false_iff_ne];omega
 have hc:a<18446744073709551616:=by rw[u64_as_pow];exact HA.out
 have hd:b<18446744073709551616:=by rw[u64_as_pow];exact HB.out
 go_enter Tryz.func142,Tryz.ntmps142
 go_wp2_with fail
 refine (ru64_c a _ HA.out).mono ?_;rintro e w' ⟨rfl,rfl⟩;go_wp2_with fail
 refine (ru64_c b _ HB.out).mono ?_;rintro e w' ⟨rfl,rfl⟩;go_wp2_with fail
 have he:=wrapU_div a b HQ.out;have hf:=wrapU_mod a b HR.out;refine wp_region_grew (by kernel_rfl) (by kernel_rfl) ?_;repeat (go_big_quiet_step ((intro hC;first | (go_at_call_of 28 (Value.int .u64 ((a:Int) / (b:Int)));exact grew_of hC (rofDiv_c a b _ HQ.out)) | (go_at_call_of 28 (Value.int .u64 ((a:Int)%(b:Int)));exact grew_of hC (rofMod_c a b _ HR.out)))))
 refine wpQuiet_nil ?_;intro w1 hb;go_wp2;go_ret2
 exact⟨rfl,hb.out⟩
theorem div_step_ge (A b r:Nat) (hb:0<b) (hr:r=2*(A%b)) (X bit:Nat) (hX:X=2*A+bit) (he:bit≤1) (h:b≤r+bit):X%b=r+bit-b∧X / b=2*(A / b)+1:=by
 have hd:=Nat.div_add_mod A b;have hlt:=Nat.mod_lt A hb
 have e:X=b*(2*(A / b)+1)+(r+bit-b):=by
  rw[Nat.mul_add,Nat.mul_one,Nat.mul_left_comm];omega
 have hc:r+bit-b<b:=by omega
 constructor
 ·rw[e,Nat.mul_add_mod,Nat.mod_eq_of_lt hc]
 ·rw[e,Nat.mul_add_div hb,Nat.div_eq_of_lt hc]
theorem div_step_lt (A b r:Nat) (hb:0<b) (hr:r=2*(A%b)) (X bit:Nat) (hX:X=2*A+bit) (hc:bit≤1) (h:r+bit<b):X%b=r+bit∧X / b=2*(A / b):=by
 have hd:=Nat.div_add_mod A b
 have e:X=b*(2*(A / b))+(r+bit):=by
  rw[Nat.mul_left_comm];omega
 constructor
 ·rw[e,Nat.mul_add_mod,Nat.mod_eq_of_lt h]
 ·rw[e,Nat.mul_add_div hb,Nat.div_eq_of_lt h,Nat.add_zero]
theorem val_set (L:List UInt8) (j i:Nat) (hj:j<L.length) (hi:i=L.length-1-j) (d:UInt8):val (L.set i d)+(L[i]'(by omega)).toNat*256^j=val L+d.toNat*256^j:=by
 have hb:i<L.length:=by omega
 have e1:L=L.take i++L[i] :: L.drop (i+1):=by
  rw[←List.drop_eq_getElem_cons hb,List.take_append_drop]
 have e2:L.set i d=L.take i++d :: L.drop (i+1):=by
  rw[List.set_eq_take_append_cons_drop,if_pos hb]
 have hl:(L.drop (i+1)).length=j:=by simp;omega
 have v1:val L=val (L.take i)*256^(j+1)+(L[i].toNat*256^j+val (L.drop (i+1))):=by
  conv=>lhs;rw[e1]
  rw[val_append,val_cons,List.length_cons,hl]
 have v2:val (L.set i d)=val (L.take i)*256^(j+1)+(d.toNat*256^j+val (L.drop (i+1))):=by
  rw[e2,val_append,val_cons,List.length_cons,hl]
 omega
theorem bit_room (Q i:Nat):Q*2^(i+1) / 256^(i / 8)%256+2^(i%8)<256:=by
 have hr:i%8<8:=Nat.mod_lt _ (by decide)
 have e:Q*2^(i+1) / 256^(i / 8)=Q*2^(i%8+1):=by
  have:2^(i+1)=2^(i%8+1)*256^(i / 8):=by
   rw[pow256,←Nat.pow_add];congr 1;omega
  rw[this,←Nat.mul_assoc,Nat.mul_div_cancel _ (Nat.pow_pos (by decide))]
 rw[e];generalize i%8=r at hr;have:r=0∨r=1∨r=2∨r=3∨r=4∨r=5∨r=6∨r=7:=by omega
 rcases this with rfl | rfl | rfl | rfl | rfl | rfl | rfl | rfl <;> simp only[Nat.zero_add,Nat.reduceAdd,Nat.pow_zero,Nat.reducePow] <;> omega
theorem pow_byte (i:Nat):2^(i%8)*256^(i / 8)=2^i:=by
 rw[pow256,←Nat.pow_add];congr 1;omega
theorem pow_small (r:Nat) (h:r<8):2^r≤128:=by
 have:=Nat.pow_le_pow_right (show 0<2 by decide) (show r≤7 by omega);simpa using this
theorem quo_set (L:List UInt8) (i A b X:Nat) (hb:i / 8<L.length) (hv:val L=A / b*2^(i+1)) (hX:X / b=2*(A / b)+1) (j:Nat) (hj:j=L.length-1-i / 8) (d:UInt8) (hd:d.toNat=(L[j]'(by omega)).toNat+2^(i%8)) :
  val (L.set j d)=X / b*2^i:=by
 have h:=val_set L (i / 8) j hb hj d;rw[hd,Nat.add_mul,pow_byte,hv]at h
 have e:(2*(A / b)+1)*2^i=A / b*2^(i+1)+2^i:=by
  rw[Nat.pow_succ,Nat.add_mul,Nat.one_mul,Nat.mul_comm 2 (A / b),Nat.mul_assoc,Nat.mul_comm 2 (2^i)]
 rw[hX,e];omega
theorem quo_shift (q i:Nat):q*2^(i+1)=2*q*2^i:=by
 rw[Nat.pow_succ,Nat.mul_comm 2 q,Nat.mul_assoc,Nat.mul_comm 2 (2^i)]
theorem nb_len (n i:Nat) (h:i<nb n):i / 8<(E n).size:=by
 have h1:=E_lt n;rcases Nat.lt_or_ge (i / 8) (E n).size with h2 | h2
 ·exact h2
 ·exfalso;have h3:2^(nb n-1)≤n:=nb_low n (by intro e;subst e;simp[nb_zero]at h)
  have h4:256^(E n).size≤2^i:=by
   rw[pow256];exact Nat.pow_le_pow_right (by decide) (by omega)
  have h5:2^i≤2^(nb n-1):=Nat.pow_le_pow_right (by decide) (by omega);omega
theorem nb_le (n k:Nat) (h:(E n).size≤k):nb n≤8*k:=by
 rcases Nat.lt_or_ge (8*k) (nb n) with h1 | h1
 ·have:=nb_len n (8*k) h1;omega
 ·exact h1
theorem E_one:E 1=⟨#[1]⟩:=rfl
theorem size_le_of (a b m:Nat) (hb:a≤b) (h:(E b).size≤m):(E a).size≤m:=
 (E_size_le _ _).2 (Nat.lt_of_le_of_lt hb ((E_size_le _ _).1 h))
theorem size_double (r b m:Nat) (hr:r<b) (h:(E b).size≤m):(E (r+r+1)).size≤m+1:=by
 have:=(E_size_le b m).1 h;refine (E_size_le _ _).2 ?_;rw[Nat.pow_succ];omega
theorem u8_cell {w:World} {g:Nat} {T:TypeId} {L:List UInt8} (h:Blk w g T (u8s L)) (j:Nat) (hj:j<L.length):w.cell? ⟨g,j,none⟩=some (.int .u8 (L[j].toNat:Int)):=by
 rw[h.cell];simp[u8s,u8v,hj]
theorem rover_long (a b:Nat) (w:World) (h0:0<b) (h1:(E a).size≤1000) (h2:(E b).size≤1000) (h8:¬ ((E a).size≤8∧(E b).size≤8)) :
  Calls Tryz.prog 142 #[.string (E a),.string (E b)] w fun e w'=>e=.returned (.tuple #[.string (E (a / b)),.string (E (a%b))])∧Bw w w':=by
 obtain⟨n,hn⟩:∃n:Nat,(E a).size=n:=⟨_,rfl⟩;have hM:=run_mk (P:=Tryz.prog) Tryz.underlying137 info_u8 n (by omega) (by omega);have HN:Hid (((E a).size:Int)=(n:Int)):=by unfold Hid;omega
 have hw:=Kh hn;rw[←HN.out]at hM;have h4:n≤1000:=by omega
 have hS:(E a).size≤n:=by omega
 have hT:n≤(E a).size:=by omega
 have hN:=nb_le a 1000 h1;have H0:=Kh h0;clear hn
 have main:∀(hO:decide (((E a).size:Int)≤8)=true∧decide (((E b).size:Int)≤8)=false∨decide (((E a).size:Int)≤8)=false),Calls Tryz.prog 142 #[.string (E a),.string (E b)] w fun e w'=>e=.returned (.tuple #[.string (E (a / b)),.string (E (a%b))])∧Bw w w':=by
  intro hO;rcases hO with⟨hU,h5⟩ | hU
  all_goals
   go_enter Tryz.func142,Tryz.ntmps142
   go_wp2_with fail
   refine (rbits_c a _ (by omega)).mono ?_;rintro e w' ⟨rfl,rfl⟩;clear hM;rw[HN.out];go_wp2;go_loopw [9,10] (fun x y wr=>∃(m:Nat) (L:List UInt8),m≤nb a∧y=.int .i64 ((m:Int)-1)∧x=.string (E (a / 2^m%b))∧L.length=n∧val L=a / 2^m / b*2^m∧Blk wr w.heap.size 5 (u8s L)∧Bw w wr) (fun _ y _=>(intOf y+1).toNat)
   case atStart =>
    have e0:a / 2^nb a=0:=Nat.div_eq_of_lt (lt_nb a);refine⟨nb a,List.replicate n 0,by omega,rfl,by rw[e0];simp[E_zero];rfl,by simp,by rw[e0,val_zeros];simp,?_,Br.alloc (Nat.le_refl _) _⟩;have:=Blk.new w (List.replicate n (Value.int .u8 0)).toArray 5;simpa [u8s,u8v] using this
   case round =>
    obtain⟨m,L,hm,rfl,rfl,hP,hv,he,hf⟩:=hrel;have HL:=Kh hP;clear hP;have HV:=Kh hv;clear hv;by_cases hlt:0<m
    ·obtain⟨i,rfl⟩:∃i,m=i+1:=⟨m-1,by omega⟩;have HI:Hid (((i+1:Nat):Int)-1=(i:Int)):=by unfold Hid;omega
     rw[HI.out];have hx:=Nat.mod_lt (a / 2^(i+1)) H0.out;have hV:=Kh (show a / 2^(i+1)%b=a / 2^(i+1)%b from rfl);generalize hQ:a / 2^(i+1)%b=r at hx;have HR:=Kh hQ;clear hQ hV;have hF:=size_double r b 1000 hx h2;have hW:=size_le_of r (r+r+1) 1001 (by omega) hF;have hX:=size_le_of (r+r) (r+r+1) 1001 (by omega) hF;have h6:(E 1).size≤1001:=size_le_of 1 (r+r+1) 1001 (by omega) hF;have hR:i / 8<n:=by have:=nb_len a i (by omega);have:=hw.out;omega
     go_wp2_with fail
     refine (rplus_c r r _ (by omega) (by omega)).mono ?_;rintro e w1 ⟨rfl,hp⟩;go_wp2_with fail
     refine (rone_c a i _ (by omega) (by omega)).mono ?_;rintro e w' ⟨rfl,rfl⟩;cases hl:bitB a i
     ·have HX:=Kh (show a / 2^i=2*(a / 2^(i+1))+0 from bit_nil hl);clear hl;have hq:=Nat.lt_or_ge (r+r) b;go_wp2_with fail
      refine (rorder_c (r+r) b _ (by omega) (by omega)).mono ?_;rintro e wo ⟨rfl,ho⟩;rcases hq with ht | hg
      ·have hu:=cmp_neg (r+r) b ht;have hh:=Kh (div_step_lt (a / 2^(i+1)) b (r+r) H0.out (by rw[HR.out];omega) (a / 2^i) 0 HX.out (by omega) (by omega));go_wp2;go_roundw
       case rel =>
        refine⟨i,L,by omega,rfl,?_,HL.out,?_,(he.after hp).after ho,bt (bt hf hp) ho⟩
        ·exact vE (by rw[hh.out.1] <;> try omega)
        ·rw[HV.out,hh.out.2];exact quo_shift _ _
       case measure=>simp[intOf] <;> omega
      ·have hu:=cmp_nneg (r+r) b hg;have hh:=Kh (div_step_ge (a / 2^(i+1)) b (r+r) H0.out (by rw[HR.out];omega) (a / 2^i) 0 HX.out (by omega) (by omega));have hi:=(he.after hp).after ho;go_wp2_with fail
       refine (rminus_c (r+r) b _ (by omega) hg).mono ?_;rintro e wm ⟨rfl,hy⟩;have hb:=hi.after hy;have hG:n-1-i / 8<L.length:=by rw[HL.out];omega
       have hd:=u8_cell hb (n-1-i / 8) hG;have hH:=hb.free (n-1-i / 8);have hI:Hid (L[n-1-i / 8].toNat=val L / 256^(i / 8)%256):=digit_val_aux L.length L (i / 8) (n-1-i / 8) rfl (by rw[HL.out];omega) (by rw[HL.out]);have hc:=bit_room (a / 2^(i+1) / b) i;rw[←HV.out,←hI.out]at hc;have hJ:=pow_small (i%8) (Nat.mod_lt _ (by decide));generalize hz:L[n-1-i / 8].toNat=dd at hd hc;rw[←hw.out]at hd hH;have hK:=Kh hz;clear hz;go_wp2;go_loop [11,12] (fun x y=>∃j:Nat,j≤i%8∧y=.int .i64 j∧x=.int .u8 ((2^j:Nat):Int)) (fun _ y=>8-(intOf y).toNat)
       case atStart=>exact⟨0,by omega,rfl,rfl⟩
       case round =>
        obtain⟨j,hj,rfl,rfl⟩:=hrel;by_cases hY:j<i%8
        ·have hA:=pow_small (j+1) (by omega);have hB:=Kh (Nat.pow_succ 2 j);rw[Nat.pow_succ]at hA;generalize hk:2^j=pp at hA hB;have hC:=Kh hk;clear hk;go_wp2;go_round
         case rel=>exact⟨j+1,by omega,by go_num,by rw[show 2^(j+1)=pp*2 from hB.out];go_num⟩
         case measure=>simp[intOf] <;> omega
        ·obtain rfl:j=i%8:=by omega
         generalize hk:2^(i%8)=pp at hc hJ;have hC:=Kh hk;clear hk;go_wp2;go_roundw
         case rel =>
          have hD:(UInt8.ofNat (dd+pp)).toNat=dd+pp:=by rw[UInt8.toNat_ofNat'];omega
          refine⟨i,L.set (n-1-i / 8) (UInt8.ofNat (dd+pp)),by omega,rfl,?_,by simpa using HL.out,?_,?_,?_⟩
          ·exact vE (by rw[hh.out.1] <;> try omega)
          ·exact quo_set L i (a / 2^(i+1)) b (a / 2^i) (by rw[HL.out];exact hR) HV.out hh.out.2 _ (by rw[HL.out]) _ (by rw[hD,hK.out,hC.out])
          ·have:=hb.set (n-1-i / 8) (u8v (UInt8.ofNat (dd+pp)));rw[u8s_set]at this;unfold u8v at this;rw[hD,Int.natCast_add]at this;rw[hw.out];exact this
          ·exact (bt (bt (bt hf hp) ho) hy).setCell (Nat.le_refl _) _
         case measure=>simp[intOf] <;> omega
     ·have HX:=Kh (bit_one hl);clear hl;have hL:=rplus_c (r+r) 1 w1 (by omega) (by omega);rw[E_one]at hL;have hZ:=Kh hL;clear hL;go_wp2_with fail
      refine (hZ.out).mono ?_;rintro e w2 ⟨rfl,hE⟩;have hq:=Nat.lt_or_ge (r+r+1) b;go_wp2_with fail
      refine (rorder_c (r+r+1) b _ (by omega) (by omega)).mono ?_;rintro e wo ⟨rfl,ho⟩;rcases hq with ht | hg
      ·have hu:=cmp_neg (r+r+1) b ht;have hh:=Kh (div_step_lt (a / 2^(i+1)) b (r+r) H0.out (by rw[HR.out];omega) (a / 2^i) 1 HX.out (by omega) (by omega));go_wp2;go_roundw
       case rel =>
        refine⟨i,L,by omega,rfl,?_,HL.out,?_,((he.after hp).after hE).after ho,bt (bt (bt hf hp) hE) ho⟩
        ·exact vE (by rw[hh.out.1] <;> try omega)
        ·rw[HV.out,hh.out.2];exact quo_shift _ _
       case measure=>simp[intOf] <;> omega
      ·have hu:=cmp_nneg (r+r+1) b hg;have hh:=Kh (div_step_ge (a / 2^(i+1)) b (r+r) H0.out (by rw[HR.out];omega) (a / 2^i) 1 HX.out (by omega) (by omega));have hi:=((he.after hp).after hE).after ho;go_wp2_with fail
       refine (rminus_c (r+r+1) b _ (by omega) hg).mono ?_;rintro e wm ⟨rfl,hy⟩;have hb:=hi.after hy;have hG:n-1-i / 8<L.length:=by rw[HL.out];omega
       have hd:=u8_cell hb (n-1-i / 8) hG;have hH:=hb.free (n-1-i / 8);have hI:Hid (L[n-1-i / 8].toNat=val L / 256^(i / 8)%256):=digit_val_aux L.length L (i / 8) (n-1-i / 8) rfl (by rw[HL.out];omega) (by rw[HL.out]);have hc:=bit_room (a / 2^(i+1) / b) i;rw[←HV.out,←hI.out]at hc;have hJ:=pow_small (i%8) (Nat.mod_lt _ (by decide));generalize hz:L[n-1-i / 8].toNat=dd at hd hc;rw[←hw.out]at hd hH;have hK:=Kh hz;clear hz;go_wp2;go_loop [11,12] (fun x y=>∃j:Nat,j≤i%8∧y=.int .i64 j∧x=.int .u8 ((2^j:Nat):Int)) (fun _ y=>8-(intOf y).toNat)
       case atStart=>exact⟨0,by omega,rfl,rfl⟩
       case round =>
        obtain⟨j,hj,rfl,rfl⟩:=hrel;by_cases hY:j<i%8
        ·have hA:=pow_small (j+1) (by omega);have hB:=Kh (Nat.pow_succ 2 j);rw[Nat.pow_succ]at hA;generalize hk:2^j=pp at hA hB;have hC:=Kh hk;clear hk;go_wp2;go_round
         case rel=>exact⟨j+1,by omega,by go_num,by rw[show 2^(j+1)=pp*2 from hB.out];go_num⟩
         case measure=>simp[intOf] <;> omega
        ·obtain rfl:j=i%8:=by omega
         generalize hk:2^(i%8)=pp at hc hJ;have hC:=Kh hk;clear hk;go_wp2;go_roundw
         case rel =>
          have hD:(UInt8.ofNat (dd+pp)).toNat=dd+pp:=by rw[UInt8.toNat_ofNat'];omega
          refine⟨i,L.set (n-1-i / 8) (UInt8.ofNat (dd+pp)),by omega,rfl,?_,by simpa using HL.out,?_,?_,?_⟩
          ·exact vE (by rw[hh.out.1] <;> try omega)
          ·exact quo_set L i (a / 2^(i+1)) b (a / 2^i) (by rw[HL.out];exact hR) HV.out hh.out.2 _ (by rw[HL.out]) _ (by rw[hD,hK.out,hC.out])
          ·have:=hb.set (n-1-i / 8) (u8v (UInt8.ofNat (dd+pp)));rw[u8s_set]at this;unfold u8v at this;rw[hD,Int.natCast_add]at this;rw[hw.out];exact this
          ·exact (bt (bt (bt (bt hf hp) hE) ho) hy).setCell (Nat.le_refl _) _
         case measure=>simp[intOf] <;> omega
    ·obtain rfl:m=0:=by omega
     have hr:Row wr w.heap.size 0 L:=he.row;have HE:Hid (val L=a / b):=by rw[Hid,HV.out];simp
     go_wp2_with fail
     have:=(rtrim_c w.heap.size 0 n L wr (by rw[HL.out];omega) (by omega) hr);rw[HL.out,HE.out]at this;refine this.mono ?_;rintro e w' ⟨rfl,rfl⟩;go_wp2;go_ret2
     exact⟨r2 rfl rfl,hf⟩
 apply main
 by_cases h3:(E a).size≤8
 ·left
  exact⟨by rw[decide_eq_true_iff];omega,by rw[decide_eq_false_iff_not];omega⟩
 ·right
  rw[decide_eq_false_iff_not];omega
theorem rover_c (a b:Nat) (w:World) (h0:0<b) (h1:(E a).size≤1000) (h2:(E b).size≤1000) :
  Calls Tryz.prog 142 #[.string (E a),.string (E b)] w fun e w'=>e=.returned (.tuple #[.string (E (a / b)),.string (E (a%b))])∧Bw w w':=by
 by_cases h:(E a).size≤8∧(E b).size≤8
 ·exact rover_short a b w h0 h.1 h.2
 ·exact rover_long a b w h0 h1 h2 h
end
end Go.Proofs.YtdgddpnjkinciaaGreatDoor
