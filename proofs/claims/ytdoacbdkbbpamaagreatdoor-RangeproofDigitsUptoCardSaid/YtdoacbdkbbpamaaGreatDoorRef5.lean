import Derived.Test.YtdoacbdkbbpamaaGreatDoorRef1
import Derived.Test.YtdoacbdkbbpamaaGreatDoorDivN
import Derived.StillTailTactics
set_option linter.unusedVariables false
set_option linter.unusedSimpArgs false
set_option maxRecDepth 100000
set_option maxHeartbeats 16000000
namespace Go.Proofs.YtdoacbdkbbpamaaGreatDoor
section
open Go.RowKit
theorem rplus_c (a b:Nat) (w:World) (h1:(E a).size≤1000000) (h2:(E b).size≤1000000) :
  Calls Tryz.prog 114 #[.string (E a),.string (E b)] w fun e w'=>e=.returned (.string (E (a+b)))∧Below w.heap.size w w':=by
 obtain ⟨n,hn⟩:∃n:Nat,n=max (E a).size (E b).size+1:=⟨_,rfl⟩;have HN:Hid (max ((E a).size:Int) ((E b).size:Int)+1=(n:Int)):=by unfold Hid;omega
 have HR:Hid (a+b<256^n):=by rw [hn];exact add_room a b _ (by omega) (by omega)
 have hnb:n≤1000001:=by omega
 have hmk:=run_mk (P:=Tryz.prog) Tryz.underlying122 info_u8 n (by omega) (by omega);rw [←HN.out] at hmk;clear hn;go_enter Tryz.func114,Tryz.ntmps114
 go_wp2;clear hmk;rw [HN.out];go_loopw [7,8] (fun x i wr=>∃(k c:Nat) (t:List UInt8),k≤n∧c≤1∧i=.int .i64 k∧x=.int .i64 c∧t.length=k∧val t+c*256^k=a%256^k+b%256^k∧Blk wr w.heap.size 5 (u8s (List.replicate (n-k) 0++t))∧Below w.heap.size w wr) (fun _ i _=>n-(intOf i).toNat)
 case atStart =>
  refine ⟨0,0,[],by omega,by omega,rfl,rfl,rfl,by simp [val,Nat.mod_one],?_,(Below.refl _ _).alloc (Nat.le_refl _) _⟩;have:=Blk.new w (List.replicate n (Value.int .u8 0)).toArray 5;simpa [u8s,u8v] using this
 case round =>
  obtain ⟨k,c,t,hk,hc,rfl,rfl,htl,hv,hb,hbel⟩:=hrel;have HV:=Lib.hid hv;clear hv;have HL:=Lib.hid htl;clear htl;by_cases hlt:k<n
  ·have hcell:=front_cell hb hlt rfl;have hfr:=hb.free (n-1-k);have hd1:=dgt_lt (E a) k;have hd2:=dgt_lt (E b) k;go_wp2_with fail
   refine (rat_c (E a) k _ (by omega) (by omega) (by omega)).mono ?_;rintro e w' ⟨rfl,rfl⟩;rw [Int.toNat_natCast];go_wp2_with fail
   refine (rat_c (E b) k _ (by omega) (by omega) (by omega)).mono ?_;rintro e w' ⟨rfl,rfl⟩;rw [Int.toNat_natCast];go_wp2;go_roundw
   case rel =>
    obtain ⟨x,hx⟩:∃x,x=dgt (E a) k+dgt (E b) k+c:=⟨_,rfl⟩;rw [byteI x _ (by omega)];refine ⟨k+1,x / 256,UInt8.ofNat (x%256) :: t,by omega,by omega,by go_num,vi (by omega),by simp [HL.out],add_step a b k c x t HL.out HV.out (by rw [hx,dgt_E,dgt_E];omega),front_set hb hlt rfl _,hbel.setCell (Nat.le_refl _) _⟩
   case measure=>simp [intOf];omega
  ·obtain rfl:k=n:=by omega
   have hr:Row wr w.heap.size 0 t:=by
    have:=hb.row;simpa using this
   have HE:=Lib.hid (add_end a b k c t HL.out HV.out HR.out);go_wp2_with fail
   have:=(rtrim_c w.heap.size 0 k t wr (by rw [HL.out];omega) (by omega) hr);rw [HL.out,HE.out] at this;refine this.mono ?_;rintro e w' ⟨rfl,rfl⟩;go_wp2;go_ret
   exact ⟨rfl,hbel⟩
theorem rminus_c (a b:Nat) (w:World) (ha:(E a).size≤1000000) (hb:b≤a) :
  Calls Tryz.prog 115 #[.string (E a),.string (E b)] w fun e w'=>e=.returned (.string (E (a-b)))∧Below w.heap.size w w':=by
 have h2:(E b).size≤(E a).size:=(E_size_le b _).2 (Nat.lt_of_le_of_lt hb (E_lt a));have HAl:=Lib.hid (E_lt a);have HB:=Lib.hid hb;clear hb;obtain ⟨n,hn⟩:∃n:Nat,(E a).size=n:=⟨_,rfl⟩;have hmk:=run_mk (P:=Tryz.prog) Tryz.underlying122 info_u8 n (by omega) (by omega);have HN:Hid (((E a).size:Int)=(n:Int)):=by unfold Hid;omega
 have HN2:=Lib.hid hn;rw [←HN.out] at hmk;have hnb:n≤1000000:=by omega
 have h2b:(E b).size≤1000000:=by omega
 rw [hn] at HAl;clear hn;go_enter Tryz.func115,Tryz.ntmps115
 go_wp2;clear hmk;rw [HN.out];go_loopw [7,8] (fun x i wr=>∃(k c:Nat) (t:List UInt8),k≤n∧c≤1∧i=.int .i64 k∧x=.int .i64 c∧t.length=k∧val t+b%256^k=a%256^k+c*256^k∧Blk wr w.heap.size 5 (u8s (List.replicate (n-k) 0++t))∧Below w.heap.size w wr) (fun _ i _=>n-(intOf i).toNat)
 case atStart =>
  refine ⟨0,0,[],by omega,by omega,rfl,rfl,rfl,by simp [val,Nat.mod_one],?_,(Below.refl _ _).alloc (Nat.le_refl _) _⟩;have:=Blk.new w (List.replicate n (Value.int .u8 0)).toArray 5;simpa [u8s,u8v] using this
 case round =>
  obtain ⟨k,c,t,hk,hc,rfl,rfl,htl,hv,hb,hbel⟩:=hrel;have HV:=Lib.hid hv;clear hv;have HL:=Lib.hid htl;clear htl;by_cases hlt:k<n
  ·have hcell:=front_cell hb hlt rfl;have hfr:=hb.free (n-1-k);have hd1:=dgt_lt (E a) k;have hd2:=dgt_lt (E b) k;go_wp2_with fail
   refine (rat_c (E a) k _ (by omega) (by omega) (by omega)).mono ?_;rintro e w' ⟨rfl,rfl⟩;rw [Int.toNat_natCast];go_wp2_with fail
   refine (rat_c (E b) k _ (by omega) (by omega) (by omega)).mono ?_;rintro e w' ⟨rfl,rfl⟩;rw [Int.toNat_natCast];by_cases hneg:(dgt (E a) k:Int)-(dgt (E b) k:Int)-(c:Int)<0
   ·go_wp2;go_roundw
    case rel =>
     obtain ⟨y,hy⟩:∃y:Nat,(y:Int)=(dgt (E a) k:Int)-(dgt (E b) k:Int)-(c:Int)+256:=⟨((dgt (E a) k:Int)-(dgt (E b) k:Int)-(c:Int)+256).toNat,by omega⟩;rw [byteJ y ((dgt (E a) k:Int)-(dgt (E b) k:Int)-(c:Int)+256) (by omega) (by omega)];refine ⟨k+1,1,UInt8.ofNat (y%256) :: t,by omega,by omega,by go_num,vi (by omega),by simp [HL.out],sub_step a b k c y _ t HL.out HV.out (by rw [←dgt_E,←dgt_E]) 1 (by omega) (by omega),front_set hb hlt rfl _,hbel.setCell (Nat.le_refl _) _⟩
    case measure=>simp [intOf];omega
   ·go_wp2;go_roundw
    case rel =>
     obtain ⟨y,hy⟩:∃y:Nat,(y:Int)=(dgt (E a) k:Int)-(dgt (E b) k:Int)-(c:Int):=⟨((dgt (E a) k:Int)-(dgt (E b) k:Int)-(c:Int)).toNat,by omega⟩;rw [byteJ y ((dgt (E a) k:Int)-(dgt (E b) k:Int)-(c:Int)) (by omega) (by omega)];refine ⟨k+1,0,UInt8.ofNat (y%256) :: t,by omega,by omega,by go_num,vi (by omega),by simp [HL.out],sub_step a b k c y _ t HL.out HV.out (by rw [←dgt_E,←dgt_E]) 0 (by omega) (by omega),front_set hb hlt rfl _,hbel.setCell (Nat.le_refl _) _⟩
    case measure=>simp [intOf];omega
  ·obtain rfl:k=n:=by omega
   have hr:Row wr w.heap.size 0 t:=by
    have:=hb.row;simpa using this
   have HE:=Lib.hid (sub_end a b k c t HL.out HV.out HAl.out HB.out);go_wp2_with fail
   have:=(rtrim_c w.heap.size 0 k t wr (by rw [HL.out];omega) (by omega) hr);rw [HL.out,HE.out] at this;refine this.mono ?_;rintro e w' ⟨rfl,rfl⟩;go_wp2;go_ret
   exact ⟨rfl,hbel⟩
end
section
open Go.RowKit
theorem cmp_lt {a b:Nat} (h:a<b):cmpN a b=-1:=by unfold cmpN;rw [if_pos h]
theorem cmp_gt {a b:Nat} (h:b<a):cmpN a b=1:=by unfold cmpN;rw [if_neg (by omega),if_pos h]
theorem cmp_eq {a b:Nat} (h:a=b):cmpN a b=0:=by unfold cmpN;rw [if_neg (by omega),if_neg (by omega)]
theorem len_lt {a b:Nat} (h:(E a).size<(E b).size):a<b:=by
 rw [E_size,E_size] at h;have:=val_lt_of_length (canon_enc b) h;rwa [val_enc,val_enc] at this
theorem split_at (s:ByteArray) (k:Nat) (h:k<s.size):s.data.toList=s.data.toList.take k++s[k] :: s.data.toList.drop (k+1):=by
 have h2:k<s.data.toList.length:=by simpa using h
 have e:s[k]=s.data.toList[k]:=by simp [ByteArray.getElem_eq_getElem_data]
 rw [e,←List.drop_eq_getElem_cons h2,List.take_append_drop]
theorem at_lt (a b k:Nat) (hl:(E a).size=(E b).size) (hk:k<(E a).size) (hk2:k<(E b).size) (hp:(E a).data.toList.take k=(E b).data.toList.take k) (hx:(E a)[k].toNat<(E b)[k].toNat):a<b:=by
 have h1:=split_at (E a) k hk;have h2:=split_at (E b) k hk2;have:=val_lt_of_lex ((E a).data.toList.take k) ((E a).data.toList.drop (k+1)) ((E b).data.toList.drop (k+1)) (E a)[k] (E b)[k] (UInt8.lt_iff_toNat_lt.2 hx) (by simp [hl]);rw [←h1,hp,←h2,val_E,val_E] at this;exact this
theorem at_eq (a b k:Nat) (hk:k<(E a).size) (hk2:k<(E b).size) (hp:(E a).data.toList.take k=(E b).data.toList.take k) (hx:(E a)[k].toNat=(E b)[k].toNat):(E a).data.toList.take (k+1)=(E b).data.toList.take (k+1):=by
 rw [List.take_succ_eq_append_getElem (by simpa using hk),List.take_succ_eq_append_getElem (by simpa using hk2),hp];have:=UInt8.toNat_inj.1 hx;simp only [ByteArray.getElem_eq_getElem_data] at this;simp [this]
theorem all_eq (a b:Nat) (hl:(E a).size=(E b).size) (hp:(E a).data.toList.take (E a).size=(E b).data.toList.take (E a).size):a=b:=by
 rw [List.take_of_length_le (by simp),List.take_of_length_le (by simp [hl])] at hp;rw [←val_E a,hp,val_E]
theorem rorder_c (a b:Nat) (w:World) (h1:(E a).size≤1000000) (h2:(E b).size≤1000000) :
  Calls Tryz.prog 81 #[.string (E a),.string (E b)] w fun e w'=>e=.returned (.int .i64 (cmpN a b))∧Below w.heap.size w w':=by
 by_cases hl:(E a).size=(E b).size
 ·have HL:=Lib.hid hl;have hne:(((E a).size:Int) != ((E b).size:Int))=false:=by simp [hl]
  have hle:(E a).size≤(E b).size:=by omega
  have hge:(E b).size≤(E a).size:=by omega
  clear hl;go_enter Tryz.func81,Tryz.ntmps81
  go_wp2;go_loopw [5] (fun i wr=>∃k:Nat,k≤(E a).size∧i=.int .i64 k∧(E a).data.toList.take k=(E b).data.toList.take k∧Below w.heap.size w wr) (fun i _=>(E a).size-(intOf i).toNat)
  case atStart=>exact ⟨0,by omega,rfl,rfl,Below.refl _ _⟩
  case round =>
   obtain ⟨k,hk,rfl,hp,hbel⟩:=hrel;have HP:=Lib.hid hp;clear hp;by_cases hlt:k<(E a).size
   ·have hlt2:k<(E b).size:=by omega
    have i1:(0:Int)≤(k:Int):=by omega
    have i2:(k:Int)<((E a).size:Int):=by omega
    have i3:(k:Int)<((E b).size:Int):=by omega
    have HLT:=Lib.hid (at_lt a b k HL.out hlt hlt2 HP.out);have HGT:=Lib.hid (at_lt b a k HL.out.symm hlt2 hlt HP.out.symm);have HEQ:=Lib.hid (at_eq a b k hlt hlt2 HP.out);by_cases hx:(E a)[k].toNat=(E b)[k].toNat
    ·have hxb:(((E a)[k].toNat:Int) != ((E b)[k].toNat:Int))=false:=by simp [hx]
     have HX:=Lib.hid hx;clear hx;go_wp2;go_quiet (fail)
     go_wp2;go_roundw
     case rel=>exact ⟨k+1,by omega,by go_num,HEQ.out HX.out,bdrew hbel _⟩
     case measure=>simp [intOf];omega
    ·have hxb:(((E a)[k].toNat:Int) != ((E b)[k].toNat:Int))=true:=by rw [bne_iff_ne];omega
     by_cases hy:(E a)[k].toNat<(E b)[k].toNat
     ·have HC:=Lib.hid (cmp_lt (HLT.out hy));have hyb:decide (((E a)[k].toNat:Int)<((E b)[k].toNat:Int))=true:=by rw [decide_eq_true_iff];omega
      clear hx;go_wp2;go_quiet (fail)
      go_wp2;go_quiet (fail)
      go_wp2;go_ret
      exact ⟨ri HC.out.symm,bdrew (bdrew hbel _) _⟩
     ·have HC:=Lib.hid (cmp_gt (HGT.out (by omega)));have hyb:decide (((E a)[k].toNat:Int)<((E b)[k].toNat:Int))=false:=by rw [decide_eq_false_iff_not];omega
      clear hx;go_wp2;go_quiet (fail)
      go_wp2;go_quiet (fail)
      go_wp2;go_ret
      exact ⟨ri HC.out.symm,bdrew (bdrew hbel _) _⟩
   ·obtain rfl:k=(E a).size:=by omega
    have HC:=Lib.hid (cmp_eq (all_eq a b HL.out HP.out));go_wp2;go_ret
    exact ⟨ri HC.out.symm,hbel⟩
 ·have hne:(((E a).size:Int) != ((E b).size:Int))=true:=by rw [bne_iff_ne];omega
  by_cases hlt:(E a).size<(E b).size
  ·have HC:=Lib.hid (cmp_lt (len_lt hlt));go_enter Tryz.func81,Tryz.ntmps81
   go_wp2;go_ret
   exact ⟨ri HC.out.symm,Below.refl _ _⟩
  ·have HC:=Lib.hid (cmp_gt (len_lt (show (E b).size<(E a).size by omega)));go_enter Tryz.func81,Tryz.ntmps81
   go_wp2;go_ret
   exact ⟨ri HC.out.symm,Below.refl _ _⟩
end
section
open Go.RowKit
def i64s (l:List Nat):List Value:=l.map (fun x:Nat=>Value.int .i64 (x:Int))
theorem i64_cell {w:World} {g:Nat} {T:TypeId} {S:List Nat} (h:Blk w g T (i64s S)) (j:Nat) (hj:j<S.length):w.cell? ⟨g,j,none⟩=some (.int .i64 (S[j]:Int)):=by
 rw [h.cell];simp [i64s,hj]
theorem i64_set {w:World} {g:Nat} {T:TypeId} {S:List Nat} (h:Blk w g T (i64s S)) (j x:Nat):Blk (w.setCell ⟨g,j,none⟩ (.int .i64 (x:Int))) g T (i64s (S.set j x)):=by
 have:=h.set j (.int .i64 (x:Int));simpa [i64s] using this
theorem atw_c (s:ByteArray) (i:Nat) (w:World) (hs:s.size≤1000000) (h1:i≤1000000) :
  Calls Tryz.prog 138 #[.string s,.int .i64 (i:Int)] w fun e w'=>e=.returned (.int .i64 (dgt s i))∧w'=w:=
 (rat_c s i w (by omega) (by omega) (by omega)).mono fun _ _ h=>⟨by rw [h.1,Int.toNat_natCast],h.2.symm⟩
theorem mul_lt_pow (a b m n:Nat) (ha:a<256^m) (hb:b<256^n):a*b<256^(m+n):=by
 rw [Nat.pow_add];exact Nat.mul_lt_mul'' ha hb
theorem rtimes_long (a b:Nat) (w:World) (h1:(E a).size≤1000) (h2:(E b).size≤1000) (h8:8<(E a).size+(E b).size) :
  Calls Tryz.prog 151 #[.string (E a),.string (E b)] w fun e w'=>e=.returned (.string (E (a*b)))∧Below w.heap.size w w':=by
 obtain ⟨n,hn⟩:∃n:Nat,n=(E a).size+(E b).size:=⟨_,rfl⟩;have HN:Hid (((E a).size:Int)+((E b).size:Int)=(n:Int)):=by unfold Hid;omega
 have HN2:=Lib.hid hn;have HR:Hid (a*b<256^n):=by rw [hn];exact mul_lt_pow a b _ _ (E_lt a) (E_lt b)
 have hnb:n≤2000:=by omega
 have hna:(E a).size≤n:=by omega
 have hnab:(E a).size+(E b).size≤n:=by omega
 have hmk:=run_mk (P:=Tryz.prog) Tryz.underlying167 info_int (n+1) (by omega) (by omega);have HN1:Hid (((E a).size:Int)+((E b).size:Int)+1=((n+1:Nat):Int)):=by unfold Hid;omega
 rw [←HN1.out] at hmk;clear hn;go_enter Tryz.func151,Tryz.ntmps151
 go_wp2;clear hmk;rw [HN.out];go_loopw [7] (fun x wr=>∃(i:Nat) (S:List Nat),i≤(E a).size∧x=.int .i64 i∧S.length=n+1∧wsum S=a%256^i*b∧ColB 65025 S i 0∧Blk wr w.heap.size 3 (i64s S)∧Below w.heap.size w wr) (fun x _=>(E a).size-(intOf x).toNat)
 case atStart =>
  refine ⟨0,List.replicate (n+1) 0,by omega,rfl,by simp,by simp [wsum_zeros,Nat.mod_one],ColB.zeros _ _,?_,(Below.refl _ _).alloc (Nat.le_refl _) _⟩;have:=Blk.new w (List.replicate (n+1) (Value.int .i64 0)).toArray 3;simpa [i64s] using this
 case round =>
  obtain ⟨wo,rfl⟩:∃wo:World,wo=wr:=⟨_,rfl⟩;obtain ⟨i,S,hi,rfl,hSl,hS,hcol,hblk,hbel⟩:=hrel;have HSL:=Lib.hid hSl;clear hSl;have HS:=Lib.hid hS;clear hS;by_cases hlt:i<(E a).size
  ·go_wp2;go_loopw [8] (fun x wr=>∃(k:Nat) (S:List Nat),k≤(E b).size∧x=.int .i64 k∧S.length=n+1∧wsum S=a%256^i*b+dgt (E a) i*256^i*(b%256^k)∧ColB 65025 S i (i+k)∧Blk wr w.heap.size 3 (i64s S)∧Below w.heap.size w wr) (fun x _=>(E b).size-(intOf x).toNat)
   case atStart =>
    exact ⟨0,S,by omega,rfl,HSL.out,by rw [HS.out];simp [Nat.mod_one],by simpa using hcol.start,hblk,hbel⟩
   case round =>
    obtain ⟨k,S',hk,rfl,hSl',hS',hcol',hblk',hbel'⟩:=hrel;clear hblk hcol;have HSL':=Lib.hid hSl';have HS':=Lib.hid hS';clear hS';by_cases hlk:k<(E b).size
    ·have hik:i+k<S'.length:=by omega
     have hc:=i64_cell hblk' (i+k) hik;have hfr:=hblk'.free (i+k);have hbd:=hcol'.at hik;have hd1:=dgt_lt (E a) i;have hd2:=dgt_lt (E b) k;have hik2:i+k<n+1:=by omega
     clear hSl';generalize hs0:S'[i+k]=s0 at hc hbd;have HS0:=Lib.hid hs0;clear hs0;have hmul:dgt (E a) i*dgt (E b) k≤65025:=Nat.le_trans (Nat.mul_le_mul (show _≤255 by omega) (show _≤255 by omega)) (by decide);have hmulI:(dgt (E a) i:Int)*(dgt (E b) k:Int)≤65025:=by rw [←Int.natCast_mul];omega
     have hmul0:0≤(dgt (E a) i:Int)*(dgt (E b) k:Int):=by rw [←Int.natCast_mul];omega
     go_wp2;have q1:IntKind.i64.wrap ((i:Int)+(k:Int))=(i:Int)+(k:Int):=IntWalk.i64_in _ (by omega);have q2:((i:Int)+(k:Int)).toNat=i+k:=by omega
     have q3:0≤(i:Int)+(k:Int):=by omega
     have q4:(i:Int)+(k:Int)<(n:Int)+1:=by omega
     have q5:IntKind.i64.wrap ((dgt (E a) i:Int)*(dgt (E b) k:Int))=(dgt (E a) i:Int)*(dgt (E b) k:Int):=IntWalk.i64_in _ (by omega);have q6:IntKind.i64.wrap ((s0:Int)+(dgt (E a) i:Int)*(dgt (E b) k:Int))=(s0:Int)+(dgt (E a) i:Int)*(dgt (E b) k:Int):=IntWalk.i64_in _ (by omega);refine wp_region_still_tail 15 (by kernel_rfl) (by kernel_rfl) ?_;simp only [List.take_succ_cons,List.take_zero,List.drop_succ_cons,List.drop_zero];repeat (first | still_step | (still_call (atw_c _ _ _ (by omega) (by omega))))
     refine wpStill_nil ?_;change wpList _ _ _ _ _ wr.drew
     clear q1 q2 q3 q4 q5 q6;go_wp2;go_roundw
     case rel =>
      refine ⟨k+1,S'.set (i+k) (S'[i+k]+dgt (E a) i*dgt (E b) k),by omega,by go_num,by simpa using HSL'.out,?_,?_,?_,?_⟩
      ·rw [dgt_E b k];exact prod_step S' _ b i k _ hik HS'.out
      ·exact hcol'.step hik hmul
      ·have:=i64_set hblk' (i+k) (S'[i+k]+dgt (E a) i*dgt (E b) k);rw [HS0.out,Int.natCast_add,Int.natCast_mul] at this;rw [HS0.out];exact this
      ·exact (hbel'.setCell (Nat.le_refl _) _).drew
     case measure=>simp [intOf];omega
    ·obtain rfl:k=(E b).size:=by omega
     go_wp2;go_roundw
     case rel =>
      refine ⟨i+1,S',by omega,by go_num,HSL'.out,?_,hcol'.next,hblk',hbel'⟩;rw [HS'.out,dgt_E];exact prod_row a b i _ (E_lt b)
     case measure=>simp [intOf];omega
  ·obtain rfl:i=(E a).size:=by omega
   have hmk:=run_mk (P:=Tryz.prog) Tryz.underlying122 info_u8 n (by omega) (by omega);have HS2:Hid (wsum S=a*b):=by rw [Hid,HS.out,Nat.mod_eq_of_lt (E_lt a)]
   obtain ⟨Bo,hBo⟩:∃Bo,Bo=wo.heap.size:=⟨_,rfl⟩;have HBo:=Lib.hid hBo;have hBs:w.heap.size<Bo:=by rw [hBo];exact hblk.lt
   have hBs2:w.heap.size≤Bo:=by omega
   clear hBo;go_wp2;clear hmk;rw [←HBo.out];go_loopw [10,11] (fun x i wr=>∃(k c:Nat) (t:List UInt8),k≤n∧c≤600000∧i=.int .i64 k∧x=.int .i64 c∧t.length=k∧val t+c*256^k=wsum (S.take k)∧Blk wr w.heap.size 3 (i64s S)∧Blk wr Bo 5 (u8s (List.replicate (n-k) 0++t))∧Below w.heap.size w wr) (fun _ i _=>n-(intOf i).toNat)
   case atStart =>
    refine ⟨0,0,[],by omega,by omega,rfl,rfl,rfl,by simp [val,wsum],hblk.alloc _,?_,hbel.alloc (by rw [HBo.out] at hBs2;exact hBs2) _⟩;have:=Blk.new wo (List.replicate n (Value.int .u8 0)).toArray 5;rw [←HBo.out] at this;simpa [u8s,u8v] using this
   case round =>
    obtain ⟨k,c,t,hk,hc,rfl,rfl,htl,hv,hb1,hb2,hbel2⟩:=hrel;have HV:=Lib.hid hv;clear hv;have HL:=Lib.hid htl;clear htl;by_cases hlk:k<n
    ·have hkl:k<S.length:=by rw [HSL.out];omega
     have hcell0:=i64_cell hb1 k hkl;have hbd:=hcol.at hkl;generalize hs0:S[k]=s0 at hcell0 hbd;have HS0:=Lib.hid hs0;clear hs0;have hcell:=front_cell hb2 hlk rfl;have hfr:=hb2.free (n-1-k);go_wp2;go_roundw
     case rel =>
      obtain ⟨x,hx⟩:∃x,x=s0+c:=⟨_,rfl⟩;rw [byteI x _ (by omega)];refine ⟨k+1,x / 256,UInt8.ofNat (x%256) :: t,by omega,by omega,by go_num,vi (by omega),by simp [HL.out],col_step S k c x t hkl HL.out HV.out (by rw [HS0.out];exact hx),hb1.other _ _ (by simp;omega),front_set hb2 hlk rfl _,hbel2.setCell hBs2 _⟩
     case measure=>simp [intOf];omega
    ·obtain rfl:k=n:=by omega
     have hr:Row wr Bo 0 t:=by
      have:=hb2.row;simpa using this
     have HE:=Lib.hid (col_end k c (a*b) S t HL.out (by rw [HSL.out];omega) HV.out HS2.out HR.out);go_wp2_with fail
     have:=(rtrim_c Bo 0 k t wr (by rw [HL.out];omega) (by omega) hr);rw [HL.out,HE.out] at this;refine this.mono ?_;rintro e w' ⟨rfl,rfl⟩;go_wp2;go_ret
     exact ⟨rfl,hbel2⟩
end
section
open Go.RowKit
theorem first_at (n:Nat) (h:0<(E n).size):(E n)[0].toNat=n / 256^((E n).size-1):=by
 have h1:=dgt_at (E n) ((E n).size-1) 0 (by omega) (by omega);rw [h1,dgt_E];have:=(first_byte n ((E_size_pos n).1 h)).2;rw [←E_size] at this;exact Nat.mod_eq_of_lt this
theorem rbits_c (n:Nat) (w:World) (hm:(E n).size≤1000000) :
  Calls Tryz.prog 139 #[.string (E n)] w fun e w'=>e=.returned (.int .i64 (nb n))∧w=w':=by
 by_cases h0:n=0
 ·subst h0;have hz:=zE (n:=0) rfl;go_enter Tryz.func139,Tryz.ntmps139
  go_wp2;go_ret
  exact ⟨rfl,rfl⟩
 ·have hz:=nzE (n:=n) (by omega);have hp:=(E_size_pos n).2 (by omega);have HF:=Lib.hid (first_at n hp);have HB:=Lib.hid (first_byte n (by omega));have HN:=Lib.hid (nb_first n (by omega));have hwb:=wb (E n)[0];have hlt:=(E n)[0].toNat_lt;generalize hx:(E n)[0].toNat=x at hwb hlt;have HX:=Lib.hid hx;go_enter Tryz.func139,Tryz.ntmps139
  go_wp2;clear hx hwb;go_loop [3,4] (fun c y=>∃(m z:Nat),z<256∧y=.int .i64 z∧m≤8∧m+nb z=nb x∧c=.int .i64 (8*((E n).size-1)+m:Nat)) (fun _ y=>(intOf y).toNat)
  case atStart=>exact ⟨0,x,by omega,rfl,by omega,by omega,vi (by omega)⟩
  case round =>
   obtain ⟨m,z,hz1,rfl,hm8,hv,rfl⟩:=hrel;have HV:=Lib.hid hv;clear hv
   have HB8:Hid (nb x≤8):=by
    have:=nb_byte ⟨x,by omega⟩;have h2:=Lib.bitLen_le8 ⟨x,by omega⟩;simp only at this h2;unfold Hid;omega
   by_cases hzp:0<z
   ·have HH:=Lib.hid (nb_half z hzp);go_wp2;go_round
    case rel =>
     have h1:=HH.out;have h2:=HV.out;have h3:=HB8.out;exact ⟨m+1,z / 2,by omega,by go_num,by omega,by omega,vi (by omega)⟩
    case measure=>simp [intOf];omega
   ·obtain rfl:z=0:=by omega
    have HE:Hid (8*((E n).size-1)+m=nb n):=by
     have h2:=HV.out;rw [nb_zero] at h2;have h3:=HN.out;rw [←E_size,←HF.out,HX.out] at h3;unfold Hid;omega
    go_wp2;go_ret
    exact ⟨ri (congrArg (fun x:Nat=>(x:Int)) HE.out),rfl⟩
theorem half_pow (x k:Nat):x / 2^k / 2=x / 2^(k+1):=by rw [Nat.pow_succ,Nat.div_div_eq_div_mul]
theorem rone_c (n i:Nat) (w:World) (hm:(E n).size≤1000000) (hi:i≤1000000) :
  Calls Tryz.prog 140 #[.string (E n),.int .i64 (i:Int)] w fun e w'=>e=.returned (.bool (bitB n i))∧w=w':=by
 have HB:=Lib.hid (bit_byte n i);have hd:=dgt_lt (E n) (i / 8);have HQ:Hid (((i:Int) / 8).toNat=i / 8):=by unfold Hid;omega
 have HD:=Lib.hid (dgt_E n (i / 8));go_enter Tryz.func140,Tryz.ntmps140
 go_wp2_with fail
 refine (rat_c (E n) _ _ (by omega) (by omega) (by omega)).mono ?_;rintro e w' ⟨rfl,rfl⟩;rw [HQ.out];generalize dgt (E n) (i / 8)=d at hd HD;go_wp2;go_loop [5,6] (fun x j=>∃k:Nat,k≤i%8∧j=.int .i64 k∧x=.int .i64 (d / 2^k:Nat)) (fun _ j=>8-(intOf j).toNat)
 case atStart=>exact ⟨0,by omega,rfl,by simp⟩
 case round =>
  obtain ⟨k,hk,rfl,rfl⟩:=hrel;have HH:=Lib.hid (half_pow d k);have hdk:d / 2^k≤d:=Nat.div_le_self _ _;by_cases hlt:k<i%8
  ·generalize hq:d / 2^k=q at hdk HH;have HQ2:=Lib.hid hq;clear hq;go_wp2;go_round
   case rel=>exact ⟨k+1,by omega,by go_num,by rw [←HH.out];go_num⟩
   case measure=>simp [intOf];omega
  ·obtain rfl:k=i%8:=by omega
   have HE:Hid (((d / 2^(i%8):Nat):Int)%2=((n / 2^i%2:Nat):Int)):=by
    have:=HB.out;rw [←HD.out] at this;unfold Hid;omega
   generalize hq:d / 2^(i%8)=q at hdk HE;have HQ2:=Lib.hid hq;clear hq;go_wp2;go_ret
   refine ⟨rb ?_,rfl⟩;rw [HE.out];unfold bitB;rw [Bool.eq_iff_iff,beq_iff_eq,beq_iff_eq];omega
theorem rofMul_c (a b:Nat) (w:World) (h:a*b<256^8) :
  Calls Tryz.prog 46 #[.int .u64 (IntKind.u64.wrap ((a:Int)*(b:Int)))] w fun e w'=>e=.returned (.string (E (a*b)))∧Below w.heap.size w w':=by
 rw [←Int.natCast_mul,wrapU _ h];exact rof_c _ w h
theorem rtimes_short (a b:Nat) (w:World) (h8:(E a).size+(E b).size≤8) :
  Calls Tryz.prog 151 #[.string (E a),.string (E b)] w fun e w'=>e=.returned (.string (E (a*b)))∧Below w.heap.size w w':=by
 have HA:=Lib.hid ((E_size_le a 8).1 (by omega));have HB:=Lib.hid ((E_size_le b 8).1 (by omega));have hab:a*b<256^8:=Nat.lt_of_lt_of_le (mul_lt_pow a b _ _ (E_lt a) (E_lt b)) (Nat.pow_le_pow_right (by decide) h8);have HAB:=Lib.hid hab;clear hab;go_enter Tryz.func151,Tryz.ntmps151
 go_wp2_with fail
 refine (ru64_c a _ HA.out).mono ?_;rintro e w' ⟨rfl,rfl⟩;go_wp2_with fail
 refine (ru64_c b _ HB.out).mono ?_;rintro e w' ⟨rfl,rfl⟩;go_wp2_with fail
 refine (rofMul_c a b _ HAB.out).mono ?_;rintro e w1 ⟨rfl,hb1⟩;go_wp2;go_ret
 exact ⟨rfl,hb1⟩
theorem rtimes_c (a b:Nat) (w:World) (h1:(E a).size≤1000) (h2:(E b).size≤1000) :
  Calls Tryz.prog 151 #[.string (E a),.string (E b)] w fun e w'=>e=.returned (.string (E (a*b)))∧Below w.heap.size w w':=by
 rcases Nat.lt_or_ge 8 ((E a).size+(E b).size) with h | h
 ·exact rtimes_long a b w h1 h2 h
 ·exact rtimes_short a b w h
end
end Go.Proofs.YtdoacbdkbbpamaaGreatDoor
