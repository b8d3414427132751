import Derived.Test.YtcfjcenmcpankaaGreatDoorRef3
import Derived.Test.YtcfjcenmcpankaaGreatDoorWsum
import Derived.StillTailTactics
set_option linter.unusedVariables false
set_option linter.unusedSimpArgs false
set_option maxRecDepth 100000
set_option maxHeartbeats 16000000
namespace Go.Proofs.YtcfjcenmcpankaaGreatDoor
open Go.RowKit
def i64s (l:List Nat):List Value:=l.map (fun x:Nat=>Value.int .i64 (x:Int))
theorem i64_cell {w:World} {g:Nat} {T:TypeId} {S:List Nat} (h:Blk w g T (i64s S)) (j:Nat) (hj:j<S.length):w.cell? ⟨g,j,none⟩=some (.int .i64 (S[j]:Int)):=by
 rw [h.cell];simp [i64s,hj]
theorem i64_set {w:World} {g:Nat} {T:TypeId} {S:List Nat} (h:Blk w g T (i64s S)) (j x:Nat):Blk (w.setCell ⟨g,j,none⟩ (.int .i64 (x:Int))) g T (i64s (S.set j x)):=by
 have:=h.set j (.int .i64 (x:Int));simpa [i64s] using this
theorem atw_c (s:ByteArray) (i:Nat) (w:World) (hs:s.size≤1000000) (h1:i≤1000000) :
  Calls Tryz.prog 100 #[.string s,.int .i64 (i:Int)] w fun e w'=>e=.returned (.int .i64 (dgt s i))∧w'=w:=
 (rat_c s i w (by omega) (by omega) (by omega)).mono fun _ _ h=>⟨by rw [h.1,Int.toNat_natCast],h.2.symm⟩
theorem mul_lt_pow (a b m n:Nat) (ha:a<256^m) (hb:b<256^n):a*b<256^(m+n):=by
 rw [Nat.pow_add];exact Nat.mul_lt_mul'' ha hb
theorem rtimes_long (a b:Nat) (w:World) (h1:(E a).size≤1000) (h2:(E b).size≤1000) (h8:8<(E a).size+(E b).size) :
  Calls Tryz.prog 46 #[.string (E a),.string (E b)] w fun e w'=>e=.returned (.string (E (a*b)))∧Below w.heap.size w w':=by
 obtain ⟨n,hn⟩:∃n:Nat,n=(E a).size+(E b).size:=⟨_,rfl⟩;have HN:Hid (((E a).size:Int)+((E b).size:Int)=(n:Int)):=by unfold Hid;omega
 have HN2:=Lib.hid hn;have HR:Hid (a*b<256^n):=by rw [hn];exact mul_lt_pow a b _ _ (E_lt a) (E_lt b)
 have hnb:n≤2000:=by omega
 have hna:(E a).size≤n:=by omega
 have hnab:(E a).size+(E b).size≤n:=by omega
 have hmk:=run_mk (P:=Tryz.prog) Tryz.underlying70 info_int (n+1) (by omega) (by omega);have HN1:Hid (((E a).size:Int)+((E b).size:Int)+1=((n+1:Nat):Int)):=by unfold Hid;omega
 rw [←HN1.out] at hmk;clear hn;go_enter Tryz.func46,Tryz.ntmps46
 go_wp2;clear hmk;rw [HN.out];go_loopw [7] (fun x wr=>∃(i:Nat) (S:List Nat),i≤(E a).size∧x=.int .i64 i∧S.length=n+1∧wsum S=a%256^i*b∧ColB 65025 S i 0∧Blk wr w.heap.size 3 (i64s S)∧Below w.heap.size w wr) (fun x _=>(E a).size-(intOf x).toNat)
 case atStart =>
  refine ⟨0,List.replicate (n+1) 0,by omega,rfl,by simp,by simp [wsum_zeros,Nat.mod_one],ColB.zeros _ _,?_,(Below.refl _ _).alloc (Nat.le_refl _) _⟩;have:=Blk.new w (List.replicate (n+1) (Value.int .i64 0)).toArray 3;simpa [i64s] using this
 case round =>
  obtain ⟨wo,rfl⟩:∃wo:World,wo=wr:=⟨_,rfl⟩;obtain ⟨i,S,hi,rfl,hSl,hS,hcol,hblk,hbel⟩:=hrel;have HSL:=Lib.hid hSl;clear hSl;have HS:=Lib.hid hS;clear hS;by_cases hlt:i<(E a).size
  ·go_wp2;go_loopw [8] (fun x wr=>∃(k:Nat) (S:List Nat),k≤(E b).size∧x=.int .i64 k∧S.length=n+1∧wsum S=a%256^i*b+dgt (E a) i*256^i*(b%256^k)∧ColB 65025 S i (i+k)∧Blk wr w.heap.size 3 (i64s S)∧Below w.heap.size w wr) (fun x _=>(E b).size-(intOf x).toNat)
   case atStart =>
    exact ⟨0,S,by omega,rfl,HSL.out,by rw [HS.out];simp [Nat.mod_one],by simpa using hcol.start,hblk,hbel⟩
   case round =>
    obtain ⟨k,S',hk,rfl,hSl',hS',hcol',hblk',hbel'⟩:=hrel;clear hblk hcol;have HSL':=Lib.hid hSl';have HS':=Lib.hid hS';clear hS';by_cases hlk:k<(E b).size
    ·have hik:i+k<S'.length:=by omega
     have hc:=i64_cell hblk' (i+k) hik;have hfr:=hblk'.free (i+k);have hbd:=hcol'.at hik;have hd1:=dgt_lt (E a) i;have hd2:=dgt_lt (E b) k;have hik2:i+k<n+1:=by omega
     clear hSl';generalize hs0:S'[i+k]=s0 at hc hbd;have HS0:=Lib.hid hs0;clear hs0;have hmul:dgt (E a) i*dgt (E b) k≤65025:=Nat.le_trans (Nat.mul_le_mul (show _≤255 by omega) (show _≤255 by omega)) (by decide);have hmulI:(dgt (E a) i:Int)*(dgt (E b) k:Int)≤65025:=by rw [←Int.natCast_mul];omega
     have hmul0:0≤(dgt (E a) i:Int)*(dgt (E b) k:Int):=by rw [←Int.natCast_mul];omega
     go_wp2;have q1:IntKind.i64.wrap ((i:Int)+(k:Int))=(i:Int)+(k:Int):=IntWalk.i64_in _ (by omega);have q2:((i:Int)+(k:Int)).toNat=i+k:=by omega
     have q3:0≤(i:Int)+(k:Int):=by omega
     have q4:(i:Int)+(k:Int)<(n:Int)+1:=by omega
     have q5:IntKind.i64.wrap ((dgt (E a) i:Int)*(dgt (E b) k:Int))=(dgt (E a) i:Int)*(dgt (E b) k:Int):=IntWalk.i64_in _ (by omega);have q6:IntKind.i64.wrap ((s0:Int)+(dgt (E a) i:Int)*(dgt (E b) k:Int))=(s0:Int)+(dgt (E a) i:Int)*(dgt (E b) k:Int):=IntWalk.i64_in _ (by omega);refine wp_region_still_tail 15 (by kernel_rfl) (by kernel_rfl) ?_;simp only [List.take_succ_cons,List.take_zero,List.drop_succ_cons,List.drop_zero];repeat (first | still_step | (still_call (atw_c _ _ _ (by omega) (by omega))))
     refine wpStill_nil ?_;change wpList _ _ _ _ _ wr.drew
     clear q1 q2 q3 q4 q5 q6;go_wp2;go_roundw
     case rel =>
      refine ⟨k+1,S'.set (i+k) (S'[i+k]+dgt (E a) i*dgt (E b) k),by omega,by go_num,by simpa using HSL'.out,?_,?_,?_,?_⟩
      ·rw [dgt_E b k];exact prod_step S' _ b i k _ hik HS'.out
      ·exact hcol'.step hik hmul
      ·have:=i64_set hblk' (i+k) (S'[i+k]+dgt (E a) i*dgt (E b) k);rw [HS0.out,Int.natCast_add,Int.natCast_mul] at this;rw [HS0.out];exact this
      ·exact (hbel'.setCell (Nat.le_refl _) _).drew
     case measure=>simp [intOf];omega
    ·obtain rfl:k=(E b).size:=by omega
     go_wp2;go_roundw
     case rel =>
      refine ⟨i+1,S',by omega,by go_num,HSL'.out,?_,hcol'.next,hblk',hbel'⟩;rw [HS'.out,dgt_E];exact prod_row a b i _ (E_lt b)
     case measure=>simp [intOf];omega
  ·obtain rfl:i=(E a).size:=by omega
   have hmk:=run_mk (P:=Tryz.prog) Tryz.underlying134 info_u8 n (by omega) (by omega);have HS2:Hid (wsum S=a*b):=by rw [Hid,HS.out,Nat.mod_eq_of_lt (E_lt a)]
   obtain ⟨Bo,hBo⟩:∃Bo,Bo=wo.heap.size:=⟨_,rfl⟩;have HBo:=Lib.hid hBo;have hBs:w.heap.size<Bo:=by rw [hBo];exact hblk.lt
   have hBs2:w.heap.size≤Bo:=by omega
   clear hBo;go_wp2;clear hmk;rw [←HBo.out];go_loopw [10,11] (fun x i wr=>∃(k c:Nat) (t:List UInt8),k≤n∧c≤600000∧i=.int .i64 k∧x=.int .i64 c∧t.length=k∧val t+c*256^k=wsum (S.take k)∧Blk wr w.heap.size 3 (i64s S)∧Blk wr Bo 5 (u8s (List.replicate (n-k) 0++t))∧Below w.heap.size w wr) (fun _ i _=>n-(intOf i).toNat)
   case atStart =>
    refine ⟨0,0,[],by omega,by omega,rfl,rfl,rfl,by simp [val,wsum],hblk.alloc _,?_,hbel.alloc (by rw [HBo.out] at hBs2;exact hBs2) _⟩;have:=Blk.new wo (List.replicate n (Value.int .u8 0)).toArray 5;rw [←HBo.out] at this;simpa [u8s,u8v] using this
   case round =>
    obtain ⟨k,c,t,hk,hc,rfl,rfl,htl,hv,hb1,hb2,hbel2⟩:=hrel;have HV:=Lib.hid hv;clear hv;have HL:=Lib.hid htl;clear htl;by_cases hlk:k<n
    ·have hkl:k<S.length:=by rw [HSL.out];omega
     have hcell0:=i64_cell hb1 k hkl;have hbd:=hcol.at hkl;generalize hs0:S[k]=s0 at hcell0 hbd;have HS0:=Lib.hid hs0;clear hs0;have hcell:=front_cell hb2 hlk rfl;have hfr:=hb2.free (n-1-k);go_wp2;go_roundw
     case rel =>
      obtain ⟨x,hx⟩:∃x,x=s0+c:=⟨_,rfl⟩;rw [byteI x _ (by omega)];refine ⟨k+1,x / 256,UInt8.ofNat (x%256) :: t,by omega,by omega,by go_num,vi (by omega),by simp [HL.out],col_step S k c x t hkl HL.out HV.out (by rw [HS0.out];exact hx),hb1.other _ _ (by simp;omega),front_set hb2 hlk rfl _,hbel2.setCell hBs2 _⟩
     case measure=>simp [intOf];omega
    ·obtain rfl:k=n:=by omega
     have hr:Row wr Bo 0 t:=by
      have:=hb2.row;simpa using this
     have HE:=Lib.hid (col_end k c (a*b) S t HL.out (by rw [HSL.out];omega) HV.out HS2.out HR.out);go_wp2_with fail
     have:=(rtrim_c Bo 0 k t wr (by rw [HL.out];omega) (by omega) hr);rw [HL.out,HE.out] at this;refine this.mono ?_;rintro e w' ⟨rfl,rfl⟩;go_wp2;go_ret
     exact ⟨rfl,hbel2⟩
end Go.Proofs.YtcfjcenmcpankaaGreatDoor
