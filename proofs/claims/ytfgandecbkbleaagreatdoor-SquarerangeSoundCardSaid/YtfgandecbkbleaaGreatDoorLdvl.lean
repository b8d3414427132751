import Derived.Test.YtfgandecbkbleaaGreatDoorRef6
import Derived.Test.YtfgandecbkbleaaGreatDoorInt4
import Derived.Lib.SliceRun
import Derived.Lib.SlBuf
import Derived.Test.YtfgandecbkbleaaGreatDoorDiv
import Derived.Deep.QuietTactic
import Derived.Test.YtfgandecbkbleaaGreatDoorBase
import Derived.Below
import Derived.ChangeSame
import Derived.ChangeMaps5
import Derived.JoinedOf
import Derived.JoinedAt
import Derived.RowKit3
import Derived.Deep.Strs
import Derived.Lib.SmallJoins
import Derived.OpenShut
import Derived.ProofKit
import Derived.Test.YtfgandecbkbleaaGreatDoorLdv1
set_option linter.unusedVariables false
set_option linter.unusedSimpArgs false
set_option maxRecDepth 100000
set_option maxHeartbeats 16000000
namespace Go.Proofs.YtfgandecbkbleaaGreatDoor
section
open Go.RowKit
theorem Blk.setCells {g:Nat} {T:TypeId}:∀(vs:List Value) (o:Nat) (w:World) (cs:List Value),Blk w g T cs→o+vs.length≤cs.length→Blk (w.setCells g o vs) g T (cs.take o++vs++cs.drop (o+vs.length))
 | [],o,w,cs,h,_=>by simpa [World.setCells] using h
 | v :: r,o,w,cs,h,hl=>by
  have h1:=h.set o v;simp only [List.length_cons] at hl;have h2:=Blk.setCells r (o+1) _ _ h1 (by simp;omega)
  have e1:(cs.set o v).take (o+1)=cs.take o++[v]:=by
   rw [List.take_succ_eq_append_getElem (by simp;omega),List.take_set_of_le (by omega),List.getElem_set_self]
  have e2:(cs.set o v).drop (o+1+r.length)=cs.drop (o+(v :: r).length):=by
   rw [List.drop_set_of_lt (by omega),List.length_cons,show o+1+r.length=o+(r.length+1) by omega]
  rw [e1,e2,List.append_assoc (cs.take o)] at h2;exact h2
theorem Blk.cleared {g:Nat} {T:TypeId} {w:World} {cs vs:List Value} (h:Blk w g T cs) (hl:vs.length=cs.length):Blk (w.setCells g 0 vs) g T vs:=by
 have:=Blk.setCells vs 0 w cs h (by omega);rw [Nat.zero_add,hl,List.drop_length] at this;simpa using this
theorem digw_c (s:ByteArray) (i:Nat) (w:World) (hs:s.size≤1000000) (h1:i≤1000000) :
  Calls Tryz.prog 150 #[.string s,.int .i64 (i:Int)] w fun e w'=>e=.returned (.int .i64 (dgt s i))∧w'=w:=
 (digit_c s i w (by omega) (by omega) (by omega)).mono fun _ _ h=>⟨by rw [h.1,Int.toNat_natCast],h.2.symm⟩
theorem product_nat (a b cb B:Nat) (w:World) (S0:List Nat) (h1:(E a).size≤128) (h2:(E b).size≤128) (hB:B≤cb) (hl0:S0.length=256) (hb0:Blk w cb 173 (i64s S0)) :
  Calls Tryz.prog 131 #[.string (E a),.string (E b),.pointer (some ⟨cb,0,none⟩)] w fun e w'=>e=.returned (.string (E (a*b)))∧Below B w w':=by
 obtain ⟨n,hn⟩:∃n:Nat,n=(E a).size+(E b).size:=⟨_,rfl⟩;have HN:Hid (((E a).size:Int)+((E b).size:Int)=(n:Int)):=by unfold Hid;omega
 have HN2:=Lib.hid hn;have HR:Hid (a*b<256^n):=by rw [hn];exact mul_lt_pow a b _ _ (E_lt a) (E_lt b)
 have hnb:n≤256:=by omega
 have hnab:(E a).size+(E b).size≤n:=by omega
 have hcbl:=hb0.lt;obtain ⟨zs,hzs⟩:∃zs,zs=List.replicate 256 (Value.int .i64 0):=⟨_,rfl⟩
 have hcl:∀ty,(Builtin.clear_ #[153] ty #[.slice (some ⟨cb,0,none⟩) 256 256]).run Tryz.prog w=.ok (.tuple #[]) (w.setCells cb 0 zs):=by
  rw [hzs]
  exact
   fun ty=>Lib.run_clear_slice w _ _ ty _ Tryz.underlying153 Tryz.zeroValue3 rfl rfl cb 0 256 256 (by omega) (fun j hj=>by rw [Nat.zero_add,i64_cell hb0 j (by omega)];rfl) (fun j hj=>hb0.free _)
 obtain ⟨Z,hZ⟩:∃Z:List Nat,Z=List.replicate 256 0:=⟨_,rfl⟩
 have hb1:Blk (w.setCells cb 0 zs) cb 173 (i64s Z):=by
  have:=hb0.cleared (vs:=zs) (by rw [hzs,List.length_replicate,i64s,List.length_map,hl0]);have e:zs=i64s Z:=by rw [hzs,hZ,i64s,List.map_replicate];rfl
  rw [←e];exact this
 have hB1:Below B w (w.setCells cb 0 zs):=Lib.below_setCells cb hB _ _ (Below.refl _ _);have HZ:=Lib.hid hZ;clear hn hl0 hzs hZ;go_enter Tryz.func131,Tryz.ntmps131
 go_wp2;clear hcl;generalize w.setCells cb 0 zs=w1 at hb1 hB1;have hcbl1:=hb1.lt;go_loopw [19] (fun x wr=>∃(i:Nat) (S:List Nat),i≤(E a).size∧x=.int .i64 i∧S.length=256∧wsum S=a%256^i*b∧ColB 65025 S i 0∧Blk wr cb 173 (i64s S)∧Below B w wr) (fun x _=>(E a).size-(intOf x).toNat)
 case atStart=>exact ⟨0,Z,by omega,rfl,by rw [HZ.out,List.length_replicate],by rw [HZ.out,wsum_zeros,Nat.pow_zero,Nat.mod_one,Nat.zero_mul],by rw [HZ.out];exact ColB.zeros _ _,hb1,hB1⟩
 case round =>
  obtain ⟨wo,rfl⟩:∃wo:World,wo=wr:=⟨_,rfl⟩;obtain ⟨i,S,hi,rfl,hSl,hS,hcol,hblk,hbel⟩:=hrel;have HSL:=Lib.hid hSl;clear hSl;have HS:=Lib.hid hS;clear hS;by_cases hlt:i<(E a).size
  ·go_wp2_with fail
   refine (digw_c (E a) i _ (by omega) (by omega)).mono ?_;rintro e w' ⟨rfl,hw'⟩;subst w';go_wp2;go_loopw [27] (fun x wr=>∃(k:Nat) (S:List Nat),k≤(E b).size∧x=.int .i64 k∧S.length=256∧wsum S=a%256^i*b+dgt (E a) i*256^i*(b%256^k)∧ColB 65025 S i (i+k)∧Blk wr cb 173 (i64s S)∧Below B w wr) (fun x _=>(E b).size-(intOf x).toNat)
   case atStart =>
    exact ⟨0,S,by omega,rfl,HSL.out,by rw [HS.out];simp [Nat.mod_one],by simpa using hcol.start,hblk,hbel⟩
   case round =>
    obtain ⟨k,S',hk,rfl,hSl',hS',hcol',hblk',hbel'⟩:=hrel;clear hblk hcol;have HSL':=Lib.hid hSl';have HS':=Lib.hid hS';clear hS';by_cases hlk:k<(E b).size
    ·have hik:i+k<S'.length:=by omega
     have hc:=i64_cell hblk' (i+k) hik;have hfr:=hblk'.free (i+k);have hbd:=hcol'.at hik;have hd1:=dgt_lt (E a) i;have hd2:=dgt_lt (E b) k;have hik2:i+k<256:=by omega
     clear hSl';generalize hs0:S'[i+k]=s0 at hc hbd;have HS0:=Lib.hid hs0;clear hs0;have hmul:dgt (E a) i*dgt (E b) k≤65025:=Nat.le_trans (Nat.mul_le_mul (show _≤255 by omega) (show _≤255 by omega)) (by decide);have hmulI:(dgt (E a) i:Int)*(dgt (E b) k:Int)≤65025:=by rw [←Int.natCast_mul];omega
     have hmul0:0≤(dgt (E a) i:Int)*(dgt (E b) k:Int):=by rw [←Int.natCast_mul];omega
     go_wp2;have q1:IntKind.i64.wrap ((i:Int)+(k:Int))=(i:Int)+(k:Int):=IntWalk.i64_in _ (by omega);have q2:((i:Int)+(k:Int)).toNat=i+k:=by omega
     have q3:0≤(i:Int)+(k:Int):=by omega
     have q4:(i:Int)+(k:Int)<256:=by omega
     have q5:IntKind.i64.wrap ((dgt (E a) i:Int)*(dgt (E b) k:Int))=(dgt (E a) i:Int)*(dgt (E b) k:Int):=IntWalk.i64_in _ (by omega);have q6:IntKind.i64.wrap ((s0:Int)+(dgt (E a) i:Int)*(dgt (E b) k:Int))=(s0:Int)+(dgt (E a) i:Int)*(dgt (E b) k:Int):=IntWalk.i64_in _ (by omega);refine wp_region_still_tail 15 (by kernel_rfl) (by kernel_rfl) ?_;simp only [List.take_succ_cons,List.take_zero,List.drop_succ_cons,List.drop_zero];repeat (first | still_step | (still_call (digw_c _ _ _ (by omega) (by omega))))
     refine wpStill_nil ?_;change wpList _ _ _ _ _ wr.drew
     clear q1 q2 q3 q4 q5 q6;go_wp2;go_roundw
     case rel =>
      refine ⟨k+1,S'.set (i+k) (S'[i+k]+dgt (E a) i*dgt (E b) k),by omega,by go_num,by simpa using HSL'.out,?_,?_,?_,?_⟩
      ·rw [dgt_E b k];exact prod_step S' _ b i k _ hik HS'.out
      ·exact hcol'.step hik hmul
      ·have:=i64_set hblk' (i+k) (S'[i+k]+dgt (E a) i*dgt (E b) k);rw [HS0.out,Int.natCast_add,Int.natCast_mul] at this;rw [HS0.out];exact this
      ·exact (hbel'.setCell hB _).drew
     case measure=>simp [intOf];omega
    ·obtain rfl:k=(E b).size:=by omega
     go_wp2;go_roundw
     case rel =>
      refine ⟨i+1,S',by omega,by go_num,HSL'.out,?_,hcol'.next,hblk',hbel'⟩;rw [HS'.out,dgt_E];exact prod_row a b i _ (E_lt b)
     case measure=>simp [intOf];omega
  ·obtain rfl:i=(E a).size:=by omega
   have hmk:=run_mk (P:=Tryz.prog) Tryz.underlying160 info_u8 n (by omega) (by omega);rw [←HN.out] at hmk;have HS2:Hid (wsum S=a*b):=by rw [Hid,HS.out,Nat.mod_eq_of_lt (E_lt a)]
   obtain ⟨Bo,hBo⟩:∃Bo,Bo=wo.heap.size:=⟨_,rfl⟩;have HBo:=Lib.hid hBo;have hBs:cb<Bo:=by rw [hBo];exact hblk.lt
   have hBs2:B≤Bo:=by omega
   clear hBo;go_wp2;clear hmk;rw [HN.out];rw [←HBo.out];go_loopw [12,55] (fun x i wr=>∃(k c:Nat) (t:List UInt8),k≤n∧c≤600000∧i=.int .i64 k∧x=.int .i64 c∧t.length=k∧val t+c*256^k=wsum (S.take k)∧Blk wr cb 173 (i64s S)∧Blk wr Bo 5 (u8s (List.replicate (n-k) 0++t))∧Below B w wr) (fun _ i _=>n-(intOf i).toNat)
   case atStart =>
    refine ⟨0,0,[],by omega,by omega,rfl,rfl,rfl,by simp [val,wsum],hblk.alloc _,?_,hbel.alloc (by rw [HBo.out] at hBs2;exact hBs2) _⟩;have:=Blk.new wo (List.replicate n (Value.int .u8 0)).toArray 5;rw [←HBo.out] at this;simpa [u8s,u8v] using this
   case round =>
    obtain ⟨k,c,t,hk,hc,rfl,rfl,htl,hv,hb1,hb2,hbel2⟩:=hrel;have HV:=Lib.hid hv;clear hv;have HL:=Lib.hid htl;clear htl;by_cases hlk:k<n
    ·have hkl:k<S.length:=by rw [HSL.out];omega
     have hcell0:=i64_cell hb1 k hkl;have hbd:=hcol.at hkl;generalize hs0:S[k]=s0 at hcell0 hbd;have HS0:=Lib.hid hs0;clear hs0;have hcell:=front_cell hb2 hlk rfl;have hfr:=hb2.free (n-1-k);have hk256:(k:Int)<256:=by omega
     have h0k:(0:Int)≤(k:Int):=by omega
     go_wp2;go_roundw
     case rel =>
      obtain ⟨x,hx⟩:∃x,x=s0+c:=⟨_,rfl⟩;rw [byteI x _ (by omega)];refine ⟨k+1,x / 256,UInt8.ofNat (x%256) :: t,by omega,by omega,by go_num,vi (by omega),by simp [HL.out],col_step S k c x t hkl HL.out HV.out (by rw [HS0.out];exact hx),hb1.other _ _ (by simp;omega),front_set hb2 hlk rfl _,hbel2.setCell hBs2 _⟩
     case measure=>simp [intOf];omega
    ·obtain rfl:k=n:=by omega
     have hr:Row wr Bo 0 t:=by
      have:=hb2.row;simpa using this
     have HE:=Lib.hid (col_end k c (a*b) S t HL.out (by rw [HSL.out];omega) HV.out HS2.out HR.out);go_wp2_with fail
     have:=(trimmed_c Bo 0 k t wr (by rw [HL.out];omega) (by omega) hr);rw [HL.out,HE.out] at this;refine this.mono ?_;rintro e w' ⟨rfl,rfl⟩;go_wp2;go_ret
     exact ⟨rfl,hbel2⟩
theorem small_big (a:Nat) (w:World) (ha:a<256^128) (h8:8<(E a).size) :
  Calls Tryz.prog 128 #[.string (E a)] w fun e w'=>e=.returned (.tuple #[.int .u64 0,.bool false])∧w=w':=by
 have HA:=Lib.hid ha;have hs:=sz a ha;clear ha;go_enter Tryz.func128,Tryz.ntmps128
 go_wp2_with fail
 refine (validE_c a _ HA.out).mono ?_;rintro e w' ⟨rfl,rfl⟩;go_wp2;go_ret2
 exact ⟨rfl,rfl⟩
def smN (a:Nat):Nat:=if (E a).size≤8 then a else 0
theorem smN_lt (a:Nat):smN a<256^8:=by
 unfold smN;split
 ·exact (E_size_le a 8).1 (by assumption)
 ·decide
theorem smallN_c (a:Nat) (w:World) (ha:a<256^128) :
  Calls Tryz.prog 128 #[.string (E a)] w fun e w'=>∃b,e=.returned (.tuple #[.int .u64 (smN a:Nat),.bool b])∧w'=w:=by
 by_cases h8:(E a).size≤8
 ·refine (small_c a w ((E_size_le a 8).1 h8)).mono fun _ _ h=>⟨true,?_,h.2.symm⟩
  rw [h.1,smN,if_pos h8]
 ·refine (small_big a w ha (by omega)).mono fun _ _ h=>⟨false,?_,h.2.symm⟩
  rw [h.1,smN,if_neg h8];rfl
theorem zero_cells:Tryz.zeroCells173=(i64s (List.replicate 256 0)).toArray:=by kernel_rfl
theorem zero_blk (w:World):Blk (w.alloc (.cells Tryz.zeroCells173 173)) w.heap.size 173 (i64s (List.replicate 256 0)):=by
 have:=Blk.new w Tryz.zeroCells173 173;rw [zero_cells] at this ⊢;exact this
theorem b1' (w:World) (o:Obj):Below w.heap.size w (w.alloc o):=(Below.refl _ _).alloc (Nat.le_refl _) o
theorem mul64G_c (x y:Nat) (w:World) (hx:x<256^8) (hy:y<256^8) :
  Calls Tryz.prog 129 #[.int .u64 x,.int .u64 y] w fun e w'=>e=.returned (.tuple #[.int .u64 ((x*y / 256^8:Nat):Int),.int .u64 ((x*y%256^8:Nat):Int)])∧w'=w:=by
 have e:(256^8:Nat)=18446744073709551616:=by decide
 rw [e] at hx hy ⊢;exact Tryz.bits_Mul64 x y hx hy w
theorem mul_c (a b:Nat) (w:World) (ha:a<256^128) (hb:b<256^128) (h:a*b<256^128) :
  Calls Tryz.prog 91 #[.string (E a),.string (E b)] w fun e w'=>e=.returned (.tuple #[.string (E (a*b)),.int .i64 0])∧Below w.heap.size w w':=by
 by_cases hs:(a<256^8∧b<256^8)∧a*b<256^8
 ·exact mul_small a b w hs.1.1 hs.1.2 hs.2
 ·have h1:=sz a ha;have h2:=sz b hb;have HA:=Lib.hid ha;have HB:=Lib.hid hb;have HAB:=Lib.hid h;have HM:=Lib.hid (fun w=>mul64G_c (smN a) (smN b) w (smN_lt a) (smN_lt b))
  have hcond:((E a).size≤8∧(E b).size≤8)→¬ smN a*smN b / 256^8=0:=by
   intro hc h0;rw [smN,smN,if_pos hc.1,if_pos hc.2] at h0
   have hlt:a*b<256^8:=by
    rcases Nat.lt_or_ge (a*b) (256^8) with h | h
    ·exact h
    ·have:=Nat.div_pos h (by decide);omega
   exact hs ⟨⟨(E_size_le a 8).1 hc.1,(E_size_le b 8).1 hc.2⟩,hlt⟩
  have hcases:(∃z:Int,decide (((E a).size:Int)≤8)=false)∨(decide (((E a).size:Int)≤8)=true∧decide (((E b).size:Int)≤8)=false)∨(decide (((E a).size:Int)≤8)=true∧decide (((E b).size:Int)≤8)=true∧(((smN a*smN b / 256^8:Nat):Int)==0)=false):=by
   by_cases c1:(E a).size≤8
   ·by_cases c2:(E b).size≤8
    ·refine .inr (.inr ⟨decide_eq_true (by omega),decide_eq_true (by omega),?_⟩);rw [beq_eq_false_iff_ne];have:=hcond ⟨c1,c2⟩;omega
    ·exact .inr (.inl ⟨decide_eq_true (by omega),decide_eq_false (by omega)⟩)
   ·exact .inl ⟨0,decide_eq_false (by omega)⟩
  generalize (smN a*smN b / 256^8:Nat)=hi at HM hcases;generalize (smN a*smN b%256^8:Nat)=lo at HM;clear hs hcond ha hb h;go_enter Tryz.func91,Tryz.ntmps91
  go_wp2_with fail
  refine (validE_c a _ HA.out).mono ?_;rintro e w' ⟨rfl,rfl⟩;go_wp2_with fail
  refine (validE_c b _ HB.out).mono ?_;rintro e w' ⟨rfl,rfl⟩;go_wp2_with fail
  refine (smallN_c a _ HA.out).mono ?_;rintro e w' ⟨b1,rfl,hw'⟩;subst w';go_wp2_with fail
  refine (smallN_c b _ HB.out).mono ?_;rintro e w' ⟨b2,rfl,hw'⟩;subst w';go_wp2_with fail
  refine (HM.out _).mono ?_;rintro e w' ⟨rfl,hw'⟩;subst w';rcases hcases with ⟨_,k1⟩ | ⟨k1,k2⟩ | ⟨k1,k2,k3⟩
  all_goals
   go_wp2_with fail
   refine (product_nat a b w.heap.size w.heap.size (w.alloc (.cells Tryz.zeroCells173 173)) (List.replicate 256 0) (by omega) (by omega) (Nat.le_refl _) (List.length_replicate ..) (zero_blk w)).mono ?_;rintro e w2 ⟨rfl,hb2⟩;go_wp2_with fail
   refine (fitting_c (a*b) _ HAB.out).mono ?_;rintro e w' ⟨rfl,rfl⟩;go_wp2;go_ret2
   exact ⟨rfl,(b1' w _).trans hb2⟩
end
section
open Go.RowKit
theorem bdrewN (w:World) (n:Nat):Below w.heap.size w (w.drewN n):=⟨rfl,rfl,rfl,Nat.le_refl _,fun _ _=>rfl⟩
theorem div64_zero (lo y:Nat) (w:World) (h1:0<y) (hy:y<256^8) (hl:lo<256^8) :
  Calls Tryz.prog 209 #[.int .u64 0,.int .u64 lo,.int .u64 y] w fun e w'=>e=.returned (.tuple #[.int .u64 ((lo / y:Nat):Int),.int .u64 ((lo%y:Nat):Int)])∧Below w.heap.size w w':=by
 have hy0:¬ (y:Int)=0:=by omega
 have hy1:¬ (y:Int)≤0:=by omega
 have hw1:=wrapU_div lo y (Nat.lt_of_le_of_lt (Nat.div_le_self _ _) hl);have hw2:=wrapU_mod lo y (Nat.lt_of_le_of_lt (Nat.mod_le _ _) hl);clear h1 hy hl;go_enter Tryz.func209,Tryz.ntmps209
 go_wp2;go_quiet (fail)
 all_goals (go_wp2;go_ret2;exact ⟨r2 (by simp) (by simp),bdrewN w _⟩)
theorem div64_all (hi lo y:Nat) (w:World) (h1:hi<y) (hy:y<256^8) (hl:lo<256^8) :
  Calls Tryz.prog 209 #[.int .u64 hi,.int .u64 lo,.int .u64 y] w fun e w'=>e=.returned (.tuple #[.int .u64 (((hi*256^8+lo) / y:Nat):Int),.int .u64 (((hi*256^8+lo)%y:Nat):Int)])∧Below w.heap.size w w':=by
 rcases Nat.eq_zero_or_pos hi with rfl | h0
 ·rw [Nat.zero_mul,Nat.zero_add];exact div64_zero lo y w h1 hy hl
 ·exact (div64_c hi lo y w h0 h1 hy hl).mono fun _ _ ⟨h,hw⟩=>⟨h,hw ▸ Below.refl _ _⟩
theorem rem64_c (hi lo y:Nat) (w:World) (h1:hi<y) (hy:y<256^8) (hl:lo<256^8) :
  Calls Tryz.prog 194 #[.int .u64 hi,.int .u64 lo,.int .u64 y] w fun e w'=>e=.returned (.int .u64 (((hi*256^8+lo)%y:Nat):Int))∧Below w.heap.size w w':=by
 have hy0:¬ y=0:=by omega
 have HC:=Lib.hid (div64_all hi lo y w h1 hy hl);have hm:(hi:Int)%(y:Int)=(hi:Int):=by rw [←Int.natCast_emod,Nat.mod_eq_of_lt h1]
 generalize (hi*256^8+lo) / y=q at HC;generalize (hi*256^8+lo)%y=r at HC;clear h1 hy hl;go_enter Tryz.func194,Tryz.ntmps194
 go_wp2_with fail
 refine HC.out.mono ?_;rintro e w1 ⟨rfl,hb1⟩;go_wp2;go_ret
 exact ⟨rfl,hb1⟩
end
section
/- A row's last step. -/
open Go.RowKit Go.WideShapes Go.ChangeShapes Go.ChangeAt Go.Joins Go.Deep
open Go.ChangeMaps (open_string shut_string)
section
variable {H:Type} {enc:TypeId × Value→H} {P:Program}
theorem post_of_below {f:Func} {s:ChangeSpec} {apart fresh handsOn again:Bool} {W W':World} {args:Array Value} {v:Value} {ds gs:List (DataW H)} {before pa pv:List MemPlace}
  (hW:DataW.Whole enc P f.params.toList s.vars apart W args.toList ds gs before)
  (hres:∀(b:Nat) (sp:Nat→Bool) (hd:Bool),DataW.TrodAll enc P W' b sp hd f.resultTypes.toList (v.resultList f.resultTypes.size) (s.fn H (ds++gs)).results [])
  (hargs:∀sp:Nat→Bool,(∀p∈before,sp p.block=true)→DataW.TrodAll enc P W' 0 sp true f.params.toList args.toList (s.fn H (ds++gs)).args pa)
  (hvars:∀sp:Nat→Bool,(∀p∈before,sp p.block=true)→DataW.TrodVars enc P W' sp s.vars (s.fn H (ds++gs)).vars pv)
  (hps:before=pa++pv) (hb:Below W.heap.size W W')
  (hok:∀(j:Nat) (t:TypeId) (r:Value),f.resultTypes[j]?=some t→(v.resultList f.resultTypes.size)[j]?=some r→Value.okWide P W' .any 0 t r) :
  s.post enc P f apart fresh handsOn again W args v W':=by
 have hlt:∀p∈before,p.block<W.heap.size:=fun p hp=>hW.lt p hp
 have hold:∀p∈before,(fun b=>decide (b<W.heap.size)) p.block=true:=fun p hp=>by simpa using hlt p hp
 refine ⟨ds,gs,before,[],pa,pv,hW,hres _ _ _,hargs _ hold,hvars _ hold,World.keptBut_mono (fun p hp=>⟨hp,?_⟩) (hb.frame (·∈before)),fun _=>?_⟩
 ·rw [hps,List.mem_append] at hp;exact Or.inr hp
 ·obtain ⟨_,_,_,_,_,hz,hn⟩:=hW;refine ⟨hok,_,_,([]++pa)++pv,⟨[]++pa,pv,trodAll_append (hargs _ (fun _ _=>rfl)) (hres _ _ _),hvars _ (fun _ _=>rfl),rfl,?_,?_⟩,?_⟩
  ·intro b off hp;have hin:MemPlace.cell b off∈before:=by rw [hps];simpa using hp
   rw [hb.frozen (hlt _ hin)];exact hz b off hin
  ·intro ha;have:=hn ha;rw [hps] at this;simpa using this
  ·intro p hp _;rw [hps];simpa using hp
end
theorem own_knob:ownKnob Tryz.prog.godebug=none:=by kernel_rfl
end
section
open Go.RowKit
theorem lz8_spec:∀x:Fin 256,x.1≠0→∃s:Fin 8,(8-(Lib.bitLen x.1:Int))=(s.1:Int)∧128≤x.1*2^s.1∧(x.1+1)*2^s.1≤256:=by decide +kernel
theorem lz8_c (x:Nat) (w:World) (h:x<256):Calls Tryz.prog 201 #[.int .u8 (x:Int)] w fun e w'=>e=.returned (.int .i64 (8-(Lib.bitLen x:Int)))∧w=w':=
 (Tryz.bits_LeadingZeros8 (x:Int) w (by omega) (by omega)).mono fun _ _ h=>⟨by rw [h.1,Int.toNat_natCast],h.2.symm⟩
theorem scale_spec (b s n:Nat) (hn:n=(E b).size) (h0:0<b) (h1:128≤b / 256^(n-1)*2^s) (h2:(b / 256^(n-1)+1)*2^s≤256):0<n∧b*2^s<256^n∧128≤b*2^s / 256^(n-1):=by
 have hn0:0<n:=by rw [hn];exact (E_size_pos b).2 h0
 refine ⟨hn0,?_,?_⟩
 ·have h3:b<(b / 256^(n-1)+1)*256^(n-1):=by
   have:=Nat.div_add_mod b (256^(n-1));have h4:=Nat.mod_lt b (p256 (n-1));rw [Nat.add_mul,Nat.one_mul,Nat.mul_comm (b / _)];omega
  have h5:b*2^s<(b / 256^(n-1)+1)*256^(n-1)*2^s:=Nat.mul_lt_mul_of_pos_right h3 (Nat.pow_pos (by decide));have h6:(b / 256^(n-1)+1)*2^s*256^(n-1)≤256*256^(n-1):=Nat.mul_le_mul_right _ h2
  have h7:256*256^(n-1)=256^n:=by
   conv=>rhs;rw [show n=n-1+1 by omega,Nat.pow_succ,Nat.mul_comm]
  rw [Nat.mul_assoc,Nat.mul_comm (256^(n-1)),←Nat.mul_assoc] at h5;omega
 ·refine Nat.le_trans h1 ?_;rw [Nat.le_div_iff_mul_le (p256 _),Nat.mul_right_comm];exact Nat.mul_le_mul_right _ (Nat.div_mul_le_self _ _)
theorem i64_and255 (n:Int):bits .and .i64 n 255=n%256:=by
 have h1:(BitVec.ofInt 64 255).toNat=2^8-1:=by decide
 have key:(BitVec.ofInt 64 n &&& BitVec.ofInt 64 255).toNat=(n%((2^64:Nat):Int)).toNat%2^8:=by
  rw [BitVec.toNat_and,BitVec.toNat_ofInt,h1,Nat.and_two_pow_sub_one_eq_mod]
 show IntKind.i64.wrap ((BitVec.ofInt 64 n &&& BitVec.ofInt 64 255).toNat:Nat)=n%256;rw [key,IntKind.wrap_i64];omega
theorem i64_or (a b:Nat) (ha:a<65536) (hb:b<65536):bits .or .i64 (a:Int) (b:Int)=((a ||| b:Nat):Int):=by
 have h:(a ||| b)<2^16:=Nat.or_lt_two_pow ha hb
 have key:(BitVec.ofInt 64 (a:Int) ||| BitVec.ofInt 64 (b:Int)).toNat=a ||| b:=by
  rw [BitVec.toNat_or,BitVec.toNat_ofInt,BitVec.toNat_ofInt];rw [show ((a:Int)%((2^64:Nat):Int)).toNat=a by omega,show ((b:Int)%((2^64:Nat):Int)).toNat=b by omega]
 show IntKind.i64.wrap ((BitVec.ofInt 64 (a:Int) ||| BitVec.ofInt 64 (b:Int)).toNat:Nat)=_;rw [key,IntKind.wrap_i64];omega
theorem setd_setd (X p v u:Nat) (hv:v<256):setd (setd X p v) p u=setd X p u:=by
 have h1:=setd_div X p v (p+1) hv (by omega)
 have h2:setd X p v%256^p=X%256^p:=by
  have e1:∀A P:Nat,A*(P*256)=P*(256*A):=fun A P=>by rw [Nat.mul_comm A,Nat.mul_assoc]
  unfold setd;rw [Nat.pow_succ,e1,Nat.mul_comm v,←Nat.mul_add,Nat.add_comm,Nat.add_mul_mod_self_left,Nat.mod_mod]
 show setd X p v / 256^(p+1)*256^(p+1)+u*256^p+setd X p v%256^p=_;rw [h1,h2];rfl
theorem or_val (x s k v0:Nat) (hs:s<8) (hk:0<k) (hv:v0=dgt (E x) k*2^s%256):bits BinOp.or IntKind.i64 (v0:Int) ((dgt (E x) (k-1):Int) / 2^(8-s))=((x*2^s / 256^k%256:Nat):Int):=by
 obtain ⟨j,rfl⟩:∃j,k=j+1:=⟨k-1,by omega⟩;have h1:=dgt_lt (E x) (j+1-1);rw [dgt_E] at h1;have e:(dgt (E x) (j+1-1):Int) / 2^(8-s)=((dgt (E x) (j+1-1) / 2^(8-s):Nat):Int):=by rw [Int.natCast_ediv];simp
 rw [e,dgt_E,hv,dgt_E,Nat.add_sub_cancel,shl_dig x s j (by omega),←shl_or _ _ s (by omega)];have h2:x / 256^j%256 / 2^(8-s)≤x / 256^j%256:=Nat.div_le_self _ _;rw [Nat.add_sub_cancel] at h1;exact i64_or _ _ (by omega) (by omega)
theorem digz_c (s:ByteArray) (z:Int) (w:World) (hs:s.size≤1000000) (h0:0≤z) (h1:z≤1000000) :
  Calls Tryz.prog 150 #[.string s,.int .i64 z] w fun e w'=>e=.returned (.int .i64 (dgt s z.toNat))∧w'=w:=
 (digit_c s z w (by omega) h0 (by omega)).mono fun _ _ h=>⟨h.1,h.2.symm⟩
theorem shl_val (d s:Nat) (hd:d<256) (hs:s<8):bits BinOp.and IntKind.i64 (wrap64 ((d:Int)*2^s)) 255=((d*2^s%256:Nat):Int):=by
 have h1:d*2^s≤255*128:=Nat.mul_le_mul (by omega) (Nat.pow_le_pow_right (by decide) (show s≤7 by omega));have e:(d:Int)*2^s=((d*2^s:Nat):Int):=by simp
 rw [e,i64_and255,IntWalk.wrap64_in _ (by omega)];omega
theorem guess_val (u v t:Nat) (hu:u<256) (hv:v<256) (ht:128≤t) (ht8:t<256):min (IntKind.i64.wrap ((bits BinOp.or IntKind.i64 (IntKind.i64.wrap ((u:Int)*256)) (v:Int)).tdiv (t:Int))) 255=((min ((u*256+v) / t) 255:Nat):Int):=by
 have e1:IntKind.i64.wrap ((u:Int)*256)=((u*256:Nat):Int):=by rw [IntWalk.i64_in _ (by omega)];omega
 rw [e1,i64_or _ _ (by omega) (by omega),or8 u v hv,←Int.ofNat_tdiv];have h2:(u*256+v) / t≤u*256+v:=Nat.div_le_self _ _;generalize (u*256+v) / t=q at h2 ⊢;rw [IntWalk.i64_in _ (by omega)];omega
theorem blk_digs (w:World) (m:Nat):Blk (w.alloc (.cells (Array.replicate m (Value.int .i64 0)) 3)) w.heap.size 3 (i64s (digs 0 m)):=by
 have:=Blk.new w (Array.replicate m (Value.int .i64 0)) 3;rw [digs_zero,i64s,List.map_replicate];simpa using this
theorem digs_cell {w:World} {g X M:Nat} {T:TypeId} (h:Blk w g T (i64s (digs X M))) (i:Nat) (hi:i<M):w.cell? ⟨g,i,none⟩=some (.int .i64 ((X / 256^i%256:Nat):Int)):=by
 have hl:i<(digs X M).length:=by rw [digs_len];exact hi
 rw [i64_cell h i hl,digs_get]
theorem digs_put {w:World} {g X M:Nat} {T:TypeId} (h:Blk w g T (i64s (digs X M))) (i v:Nat) (hv:v<256):Blk (w.setCell ⟨g,i,none⟩ (.int .i64 (v:Int))) g T (i64s (digs (setd X i v) M)):=by
 have:=i64_set h i v;rw [digs_set X i v M hv] at this;exact this
end
end Go.Proofs.YtfgandecbkbleaaGreatDoor
