/- Lagrange's theorem: each number is a sum of four squares. Plain Lean. -/
import Derived.Test.YtdoacbdkbbpamaaGreatDoorRef5
import Derived.Test.YtdoacbdkbbpamaaGreatDoorInt2
import Derived.Lib.SliceRun
import Derived.Lib.SlBuf
import Derived.Test.YtdoacbdkbbpamaaGreatDoorRef7
import Derived.Test.YtdoacbdkbbpamaaGreatDoorFs5
section
set_option linter.unusedVariables false
set_option linter.unusedSimpArgs false
set_option maxRecDepth 100000
namespace Go.Proofs.YtdoacbdkbbpamaaGreatDoor
open Go.RowKit

theorem Blk.setCells {g:Nat} {T:TypeId}:∀(vs:List Value) (o:Nat) (w:World) (cs:List Value),Blk w g T cs→o+vs.length≤cs.length→Blk (w.setCells g o vs) g T (cs.take o++vs++cs.drop (o+vs.length))
 | [],o,w,cs,h,_=>by simpa [World.setCells] using h
 | v :: r,o,w,cs,h,hl=>by
  have h1:=h.set o v;simp only [List.length_cons] at hl;have h2:=Blk.setCells r (o+1) _ _ h1 (by simp;omega)
  have e1:(cs.set o v).take (o+1)=cs.take o++[v]:=by
   rw [List.take_succ_eq_append_getElem (by simp;omega),List.take_set_of_le (by omega),List.getElem_set_self]
  have e2:(cs.set o v).drop (o+1+r.length)=cs.drop (o+(v :: r).length):=by
   rw [List.drop_set_of_lt (by omega),List.length_cons,show o+1+r.length=o+(r.length+1) by omega]
  rw [e1,e2,List.append_assoc (cs.take o)] at h2;exact h2

theorem Blk.cleared {g:Nat} {T:TypeId} {w:World} {cs vs:List Value} (h:Blk w g T cs) (hl:vs.length=cs.length):Blk (w.setCells g 0 vs) g T vs:=by
 have:=Blk.setCells vs 0 w cs h (by omega);rw [Nat.zero_add,hl,List.drop_length] at this;simpa using this

theorem digw_c (s:ByteArray) (i:Nat) (w:World) (hs:s.size≤1000000) (h1:i≤1000000) :
  Calls Tryz.prog 137 #[.string s,.int .i64 (i:Int)] w fun e w'=>e=.returned (.int .i64 (dgt s i))∧w'=w:=
 (digit_c s i w (by omega) (by omega) (by omega)).mono fun _ _ h=>⟨by rw [h.1,Int.toNat_natCast],h.2.symm⟩

set_option maxHeartbeats 2000000 in
theorem product_nat (a b cb B:Nat) (w:World) (S0:List Nat) (h1:(E a).size≤128) (h2:(E b).size≤128) (hB:B≤cb) (hl0:S0.length=256) (hb0:Blk w cb 199 (i64s S0)) :
  Calls Tryz.prog 195 #[.string (E a),.string (E b),.pointer (some ⟨cb,0,none⟩)] w fun e w'=>e=.returned (.string (E (a*b)))∧Below B w w':=by
 obtain ⟨n,hn⟩:∃n:Nat,n=(E a).size+(E b).size:=⟨_,rfl⟩;have HN:Hid (((E a).size:Int)+((E b).size:Int)=(n:Int)):=by unfold Hid;omega
 have HN2:=Lib.hid hn;have HR:Hid (a*b<256^n):=by rw [hn];exact mul_lt_pow a b _ _ (E_lt a) (E_lt b)
 have hnb:n≤256:=by omega
 have hnab:(E a).size+(E b).size≤n:=by omega
 have hcbl:=hb0.lt;obtain ⟨zs,hzs⟩:∃zs,zs=List.replicate 256 (Value.int .i64 0):=⟨_,rfl⟩
 have hcl:∀ty,(Builtin.clear_ #[167] ty #[.slice (some ⟨cb,0,none⟩) 256 256]).run Tryz.prog w=.ok (.tuple #[]) (w.setCells cb 0 zs):=by
  rw [hzs]
  exact
   fun ty=>Lib.run_clear_slice w _ _ ty _ Tryz.underlying167 Tryz.zeroValue3 rfl rfl cb 0 256 256 (by omega) (fun j hj=>by rw [Nat.zero_add,i64_cell hb0 j (by omega)];rfl) (fun j hj=>hb0.free _)
 obtain ⟨Z,hZ⟩:∃Z:List Nat,Z=List.replicate 256 0:=⟨_,rfl⟩
 have hb1:Blk (w.setCells cb 0 zs) cb 199 (i64s Z):=by
  have:=hb0.cleared (vs:=zs) (by rw [hzs,List.length_replicate,i64s,List.length_map,hl0]);have e:zs=i64s Z:=by rw [hzs,hZ,i64s,List.map_replicate];rfl
  rw [←e];exact this
 have hB1:Below B w (w.setCells cb 0 zs):=Lib.below_setCells cb hB _ _ (Below.refl _ _);have HZ:=Lib.hid hZ;clear hn hl0 hzs hZ;go_enter Tryz.func195,Tryz.ntmps195
 go_wp2;clear hcl;generalize w.setCells cb 0 zs=w1 at hb1 hB1;have hcbl1:=hb1.lt;go_loopw [19] (fun x wr=>∃(i:Nat) (S:List Nat),i≤(E a).size∧x=.int .i64 i∧S.length=256∧wsum S=a%256^i*b∧ColB 65025 S i 0∧Blk wr cb 199 (i64s S)∧Below B w wr) (fun x _=>(E a).size-(intOf x).toNat)
 case atStart=>exact ⟨0,Z,by omega,rfl,by rw [HZ.out,List.length_replicate],by rw [HZ.out,wsum_zeros,Nat.pow_zero,Nat.mod_one,Nat.zero_mul],by rw [HZ.out];exact ColB.zeros _ _,hb1,hB1⟩
 case round =>
  obtain ⟨wo,rfl⟩:∃wo:World,wo=wr:=⟨_,rfl⟩;obtain ⟨i,S,hi,rfl,hSl,hS,hcol,hblk,hbel⟩:=hrel;have HSL:=Lib.hid hSl;clear hSl;have HS:=Lib.hid hS;clear hS;by_cases hlt:i<(E a).size
  ·go_wp2_with fail
   refine (digw_c (E a) i _ (by omega) (by omega)).mono ?_;rintro e w' ⟨rfl,hw'⟩;subst w';go_wp2;go_loopw [27] (fun x wr=>∃(k:Nat) (S:List Nat),k≤(E b).size∧x=.int .i64 k∧S.length=256∧wsum S=a%256^i*b+dgt (E a) i*256^i*(b%256^k)∧ColB 65025 S i (i+k)∧Blk wr cb 199 (i64s S)∧Below B w wr) (fun x _=>(E b).size-(intOf x).toNat)
   case atStart =>
    exact ⟨0,S,by omega,rfl,HSL.out,by rw [HS.out];simp [Nat.mod_one],by simpa using hcol.start,hblk,hbel⟩
   case round =>
    obtain ⟨k,S',hk,rfl,hSl',hS',hcol',hblk',hbel'⟩:=hrel;clear hblk hcol;have HSL':=Lib.hid hSl';have HS':=Lib.hid hS';clear hS';by_cases hlk:k<(E b).size
    ·have hik:i+k<S'.length:=by omega
     have hc:=i64_cell hblk' (i+k) hik;have hfr:=hblk'.free (i+k);have hbd:=hcol'.at hik;have hd1:=dgt_lt (E a) i;have hd2:=dgt_lt (E b) k;have hik2:i+k<256:=by omega
     clear hSl';generalize hs0:S'[i+k]=s0 at hc hbd;have HS0:=Lib.hid hs0;clear hs0;have hmul:dgt (E a) i*dgt (E b) k≤65025:=Nat.le_trans (Nat.mul_le_mul (show _≤255 by omega) (show _≤255 by omega)) (by decide);have hmulI:(dgt (E a) i:Int)*(dgt (E b) k:Int)≤65025:=by rw [←Int.natCast_mul];omega
     have hmul0:0≤(dgt (E a) i:Int)*(dgt (E b) k:Int):=by rw [←Int.natCast_mul];omega
     go_wp2;have q1:IntKind.i64.wrap ((i:Int)+(k:Int))=(i:Int)+(k:Int):=IntWalk.i64_in _ (by omega);have q2:((i:Int)+(k:Int)).toNat=i+k:=by omega
     have q3:0≤(i:Int)+(k:Int):=by omega
     have q4:(i:Int)+(k:Int)<256:=by omega
     have q5:IntKind.i64.wrap ((dgt (E a) i:Int)*(dgt (E b) k:Int))=(dgt (E a) i:Int)*(dgt (E b) k:Int):=IntWalk.i64_in _ (by omega);have q6:IntKind.i64.wrap ((s0:Int)+(dgt (E a) i:Int)*(dgt (E b) k:Int))=(s0:Int)+(dgt (E a) i:Int)*(dgt (E b) k:Int):=IntWalk.i64_in _ (by omega);refine wp_region_still_tail 15 (by kernel_rfl) (by kernel_rfl) ?_;simp only [List.take_succ_cons,List.take_zero,List.drop_succ_cons,List.drop_zero];repeat (first | still_step | (still_call (digw_c _ _ _ (by omega) (by omega))))
     refine wpStill_nil ?_;change wpList _ _ _ _ _ wr.drew
     clear q1 q2 q3 q4 q5 q6;go_wp2;go_roundw
     case rel =>
      refine ⟨k+1,S'.set (i+k) (S'[i+k]+dgt (E a) i*dgt (E b) k),by omega,by go_num,by simpa using HSL'.out,?_,?_,?_,?_⟩
      ·rw [dgt_E b k];exact prod_step S' _ b i k _ hik HS'.out
      ·exact hcol'.step hik hmul
      ·have:=i64_set hblk' (i+k) (S'[i+k]+dgt (E a) i*dgt (E b) k);rw [HS0.out,Int.natCast_add,Int.natCast_mul] at this;rw [HS0.out];exact this
      ·exact (hbel'.setCell hB _).drew
     case measure=>simp [intOf];omega
    ·obtain rfl:k=(E b).size:=by omega
     go_wp2;go_roundw
     case rel =>
      refine ⟨i+1,S',by omega,by go_num,HSL'.out,?_,hcol'.next,hblk',hbel'⟩;rw [HS'.out,dgt_E];exact prod_row a b i _ (E_lt b)
     case measure=>simp [intOf];omega
  ·obtain rfl:i=(E a).size:=by omega
   have hmk:=run_mk (P:=Tryz.prog) Tryz.underlying122 info_u8 n (by omega) (by omega);rw [←HN.out] at hmk;have HS2:Hid (wsum S=a*b):=by rw [Hid,HS.out,Nat.mod_eq_of_lt (E_lt a)]
   obtain ⟨Bo,hBo⟩:∃Bo,Bo=wo.heap.size:=⟨_,rfl⟩;have HBo:=Lib.hid hBo;have hBs:cb<Bo:=by rw [hBo];exact hblk.lt
   have hBs2:B≤Bo:=by omega
   clear hBo;go_wp2;clear hmk;rw [HN.out];rw [←HBo.out];go_loopw [12,55] (fun x i wr=>∃(k c:Nat) (t:List UInt8),k≤n∧c≤600000∧i=.int .i64 k∧x=.int .i64 c∧t.length=k∧val t+c*256^k=wsum (S.take k)∧Blk wr cb 199 (i64s S)∧Blk wr Bo 5 (u8s (List.replicate (n-k) 0++t))∧Below B w wr) (fun _ i _=>n-(intOf i).toNat)
   case atStart =>
    refine ⟨0,0,[],by omega,by omega,rfl,rfl,rfl,by simp [val,wsum],hblk.alloc _,?_,hbel.alloc (by rw [HBo.out] at hBs2;exact hBs2) _⟩;have:=Blk.new wo (List.replicate n (Value.int .u8 0)).toArray 5;rw [←HBo.out] at this;simpa [u8s,u8v] using this
   case round =>
    obtain ⟨k,c,t,hk,hc,rfl,rfl,htl,hv,hb1,hb2,hbel2⟩:=hrel;have HV:=Lib.hid hv;clear hv;have HL:=Lib.hid htl;clear htl;by_cases hlk:k<n
    ·have hkl:k<S.length:=by rw [HSL.out];omega
     have hcell0:=i64_cell hb1 k hkl;have hbd:=hcol.at hkl;generalize hs0:S[k]=s0 at hcell0 hbd;have HS0:=Lib.hid hs0;clear hs0;have hcell:=front_cell hb2 hlk rfl;have hfr:=hb2.free (n-1-k);have hk256:(k:Int)<256:=by omega
     have h0k:(0:Int)≤(k:Int):=by omega
     go_wp2;go_roundw
     case rel =>
      obtain ⟨x,hx⟩:∃x,x=s0+c:=⟨_,rfl⟩;rw [byteI x _ (by omega)];refine ⟨k+1,x / 256,UInt8.ofNat (x%256) :: t,by omega,by omega,by go_num,vi (by omega),by simp [HL.out],col_step S k c x t hkl HL.out HV.out (by rw [HS0.out];exact hx),hb1.other _ _ (by simp;omega),front_set hb2 hlk rfl _,hbel2.setCell hBs2 _⟩
     case measure=>simp [intOf];omega
    ·obtain rfl:k=n:=by omega
     have hr:Row wr Bo 0 t:=by
      have:=hb2.row;simpa using this
     have HE:=Lib.hid (col_end k c (a*b) S t HL.out (by rw [HSL.out];omega) HV.out HS2.out HR.out);go_wp2_with fail
     have:=(trimmed_c Bo 0 k t wr (by rw [HL.out];omega) (by omega) hr);rw [HL.out,HE.out] at this;refine this.mono ?_;rintro e w' ⟨rfl,rfl⟩;go_wp2;go_ret
     exact ⟨rfl,hbel2⟩

theorem small_big (a:Nat) (w:World) (ha:a<256^128) (h8:8<(E a).size) :
  Calls Tryz.prog 65 #[.string (E a)] w fun e w'=>e=.returned (.tuple #[.int .u64 0,.bool false])∧w=w':=by
 have HA:=Lib.hid ha;have hs:=sz a ha;clear ha;go_enter Tryz.func65,Tryz.ntmps65
 go_wp2_with fail
 refine (validE_c a _ HA.out).mono ?_;rintro e w' ⟨rfl,rfl⟩;go_wp2;go_ret2
 exact ⟨rfl,rfl⟩

def smN (a:Nat):Nat:=if (E a).size≤8 then a else 0
theorem smN_lt (a:Nat):smN a<256^8:=by
 unfold smN;split
 ·exact (E_size_le a 8).1 (by assumption)
 ·decide

theorem smallN_c (a:Nat) (w:World) (ha:a<256^128) :
  Calls Tryz.prog 65 #[.string (E a)] w fun e w'=>∃b,e=.returned (.tuple #[.int .u64 (smN a:Nat),.bool b])∧w'=w:=by
 by_cases h8:(E a).size≤8
 ·refine (small_c a w ((E_size_le a 8).1 h8)).mono fun _ _ h=>⟨true,?_,h.2.symm⟩
  rw [h.1,smN,if_pos h8]
 ·refine (small_big a w ha (by omega)).mono fun _ _ h=>⟨false,?_,h.2.symm⟩
  rw [h.1,smN,if_neg h8];rfl

theorem zero_cells:Tryz.zeroCells199=(i64s (List.replicate 256 0)).toArray:=by kernel_rfl

theorem zero_blk (w:World):Blk (w.alloc (.cells Tryz.zeroCells199 199)) w.heap.size 199 (i64s (List.replicate 256 0)):=by
 have:=Blk.new w Tryz.zeroCells199 199;rw [zero_cells] at this ⊢;exact this

theorem b1' (w:World) (o:Obj):Below w.heap.size w (w.alloc o):=(Below.refl _ _).alloc (Nat.le_refl _) o

theorem mul64G_c (x y:Nat) (w:World) (hx:x<256^8) (hy:y<256^8) :
  Calls Tryz.prog 145 #[.int .u64 x,.int .u64 y] w fun e w'=>e=.returned (.tuple #[.int .u64 ((x*y / 256^8:Nat):Int),.int .u64 ((x*y%256^8:Nat):Int)])∧w'=w:=by
 have e:(256^8:Nat)=18446744073709551616:=by decide
 rw [e] at hx hy ⊢;exact Tryz.bits_Mul64 x y hx hy w

set_option maxHeartbeats 2000000 in
theorem mul_c (a b:Nat) (w:World) (ha:a<256^128) (hb:b<256^128) (h:a*b<256^128) :
  Calls Tryz.prog 182 #[.string (E a),.string (E b)] w fun e w'=>e=.returned (.tuple #[.string (E (a*b)),.int .i64 0])∧Below w.heap.size w w':=by
 by_cases hs:(a<256^8∧b<256^8)∧a*b<256^8
 ·exact mul_small a b w hs.1.1 hs.1.2 hs.2
 ·have h1:=sz a ha;have h2:=sz b hb;have HA:=Lib.hid ha;have HB:=Lib.hid hb;have HAB:=Lib.hid h;have HM:=Lib.hid (fun w=>mul64G_c (smN a) (smN b) w (smN_lt a) (smN_lt b))
  have hcond:((E a).size≤8∧(E b).size≤8)→¬ smN a*smN b / 256^8=0:=by
   intro hc h0;rw [smN,smN,if_pos hc.1,if_pos hc.2] at h0
   have hlt:a*b<256^8:=by
    rcases Nat.lt_or_ge (a*b) (256^8) with h | h
    ·exact h
    ·have:=Nat.div_pos h (by decide);omega
   exact hs ⟨⟨(E_size_le a 8).1 hc.1,(E_size_le b 8).1 hc.2⟩,hlt⟩
  have hcases:(∃z:Int,decide (((E a).size:Int)≤8)=false)∨(decide (((E a).size:Int)≤8)=true∧decide (((E b).size:Int)≤8)=false)∨(decide (((E a).size:Int)≤8)=true∧decide (((E b).size:Int)≤8)=true∧(((smN a*smN b / 256^8:Nat):Int)==0)=false):=by
   by_cases c1:(E a).size≤8
   ·by_cases c2:(E b).size≤8
    ·refine .inr (.inr ⟨decide_eq_true (by omega),decide_eq_true (by omega),?_⟩);rw [beq_eq_false_iff_ne];have:=hcond ⟨c1,c2⟩;omega
    ·exact .inr (.inl ⟨decide_eq_true (by omega),decide_eq_false (by omega)⟩)
   ·exact .inl ⟨0,decide_eq_false (by omega)⟩
  generalize (smN a*smN b / 256^8:Nat)=hi at HM hcases;generalize (smN a*smN b%256^8:Nat)=lo at HM;clear hs hcond ha hb h;go_enter Tryz.func182,Tryz.ntmps182
  go_wp2_with fail
  refine (validE_c a _ HA.out).mono ?_;rintro e w' ⟨rfl,rfl⟩;go_wp2_with fail
  refine (validE_c b _ HB.out).mono ?_;rintro e w' ⟨rfl,rfl⟩;go_wp2_with fail
  refine (smallN_c a _ HA.out).mono ?_;rintro e w' ⟨b1,rfl,hw'⟩;subst w';go_wp2_with fail
  refine (smallN_c b _ HB.out).mono ?_;rintro e w' ⟨b2,rfl,hw'⟩;subst w';go_wp2_with fail
  refine (HM.out _).mono ?_;rintro e w' ⟨rfl,hw'⟩;subst w';rcases hcases with ⟨_,k1⟩ | ⟨k1,k2⟩ | ⟨k1,k2,k3⟩
  all_goals
   go_wp2_with fail
   refine (product_nat a b w.heap.size w.heap.size (w.alloc (.cells Tryz.zeroCells199 199)) (List.replicate 256 0) (by omega) (by omega) (Nat.le_refl _) (List.length_replicate ..) (zero_blk w)).mono ?_;rintro e w2 ⟨rfl,hb2⟩;go_wp2_with fail
   refine (fitting_c (a*b) _ HAB.out).mono ?_;rintro e w' ⟨rfl,rfl⟩;go_wp2;go_ret2
   exact ⟨rfl,(b1' w _).trans hb2⟩

end Go.Proofs.YtdoacbdkbbpamaaGreatDoor
end

section
set_option linter.unusedVariables false
set_option linter.unusedSimpArgs false
set_option maxRecDepth 100000
namespace Go.Proofs.YtdoacbdkbbpamaaGreatDoor
open Go.RowKit

def strs (l:List Nat):List Value:=l.map fun n=>Value.string (E n)

theorem strs_cell {w:World} {g:Nat} {T:TypeId} {l:List Nat} (h:Blk w g T (strs l)) (j:Nat) (hj:j<l.length):w.cell? ⟨g,j,none⟩=some (.string (E l[j])):=by
 rw [h.cell];simp [strs,hj]

set_option maxHeartbeats 400000 in
theorem rcheck_c (b:Nat) (l:List Nat) (x:Nat) (T:TypeId) (w:World) (hl:l.length≤1000) (hv:∀n∈l,n<256^128) (hx:x<256^128) (hB:Blk w b T (strs (l++[x]))) (h0:0<x) :
  Calls Tryz.prog 73 #[.slice (some ⟨b,0,none⟩) (l.length+1) (l.length+1)] w fun e w'=>e=.returned (.int .i64 0)∧w=w':=by
 have HV:Hid (∀n∈l++[x],n<256^128):=by
  intro n hn;rcases List.mem_append.1 hn with h | h
  ·exact hv n h
  ·rw [List.mem_singleton] at h;rw [h];exact hx
 have hlast:=strs_cell hB l.length (by simp);rw [List.getElem_concat_length (by rfl)] at hlast;have hz:=nzE h0;clear hv hx h0;go_enter Tryz.func73,Tryz.ntmps73
 go_wp2;go_loop [3] (fun i=>∃k:Nat,k≤l.length+1∧i=.int .i64 k) (fun i=>l.length+1-(intOf i).toNat)
 case atStart=>exact ⟨0,by omega,rfl⟩
 case round =>
  obtain ⟨k,hk,rfl⟩:=hrel;by_cases hlt:k<l.length+1
  ·have hkl:k<(l++[x]).length:=by simp;omega
   have hc:=strs_cell hB k hkl;have HN:=Lib.hid (HV.out _ (List.getElem_mem hkl));generalize (l++[x])[k]=n at hc HN;go_wp2_with fail
   refine (rvalidE_c n _ HN.out).mono ?_;rintro e w' ⟨rfl,rfl⟩;go_wp2;go_round
   case rel=>exact ⟨k+1,by omega,by go_num⟩
   case measure=>simp [intOf];omega
  ·obtain rfl:k=l.length+1:=by omega
   go_wp2;go_ret
   exact ⟨rfl,rfl⟩

set_option maxHeartbeats 400000 in
theorem rmod3_c (a m:Nat) (w:World) (ha:a<256^128) (hm:m<256^128) (h0:0<m) :
  Calls Tryz.prog 75 #[.string (E a),.string (E m)] w fun e w'=>e=.returned (.string (E (a%m)))∧Below w.heap.size w w':=by
 have HA:=Lib.hid ha;have HM:=Lib.hid hm;have H0:=Lib.hid h0;clear ha hm h0;go_enter Tryz.func75,Tryz.ntmps75
 go_wp2_with fail
 refine (rdivmod_c a m _ HA.out HM.out H0.out).mono ?_;rintro e w1 ⟨rfl,hb1⟩;go_wp2;go_ret
 exact ⟨rfl,hb1⟩

theorem lt64 {n:Nat} (h:n<256^64):n<256^128:=Nat.lt_of_lt_of_le h (Nat.pow_le_pow_right (by decide) (by decide))

theorem mul_fit {a b m:Nat} (hm:m<256^64) (ha:a<m) (hb:b<m):a*b<256^128:=by
 have:(256:Nat)^128=256^64*256^64:=by rw [←Nat.pow_add]
 rw [this];exact Nat.mul_lt_mul'' (by omega) (by omega)

theorem rmod3v_c (a m y:Nat) (w:World) (ha:a<256^128) (hm:m<256^128) (h0:0<m) (hy:a%m=y) :
  Calls Tryz.prog 75 #[.string (E a),.string (E m)] w fun e w'=>e=.returned (.string (E y))∧Below w.heap.size w w':=by
 rw [←hy];exact rmod3_c a m w ha hm h0

theorem rofMM_c (y z m:Nat) (w:World) (h:y*z<256^8) (hm:y*z%m<256^8) :
  Calls Tryz.prog 46 #[.int .u64 ((IntKind.u64.wrap ((y:Int)*(z:Int))).tmod (m:Int))] w fun e w'=>e=.returned (.string (E (y*z%m)))∧Below w.heap.size w w':=by
 rw [←Int.natCast_mul,wrapU _ h,←Int.ofNat_tmod];exact rof_c _ w hm

set_option maxHeartbeats 800000 in
theorem rtimes3_small (a b m y z:Nat) (w:World) (ha:a<256^128) (hb:b<256^128) (h0:0<m) (hs:m<2147483648) (hy:a%m=y) (hz:b%m=z) :
  Calls Tryz.prog 188 #[.string (E a),.string (E b),.string (E m)] w fun e w'=>e=.returned (.string (E (y*z%m)))∧Below w.heap.size w w':=by
 have hla:y<m:=by rw [←hy];exact Nat.mod_lt a h0
 have hlb:z<m:=by rw [←hz];exact Nat.mod_lt b h0
 have HA:=Lib.hid ha;have HB:=Lib.hid hb;have hm8:m<256^8:=Nat.lt_trans hs (by decide);have HM:=Lib.hid (lt128 hm8);have H0:=Lib.hid h0;have HM8:=Lib.hid hm8;have HA8:=Lib.hid (Nat.lt_trans hla hm8);have HB8:=Lib.hid (Nat.lt_trans hlb hm8);have hprod:y*z<256^8:=Nat.lt_of_lt_of_le (Nat.mul_lt_mul'' (Nat.lt_trans hla hs) (Nat.lt_trans hlb hs)) (by decide);have HPR:=Lib.hid hprod;have HPM:=Lib.hid (Nat.lt_of_le_of_lt (Nat.mod_le _ m) hprod);have HYY:=Lib.hid hy;have HZZ:=Lib.hid hz;have hdec:decide ((m:Int)<2147483648)=true:=by rw [decide_eq_true_iff];omega
 have hzb:((m:Int)==0)=false:=by rw [beq_eq_false_iff_ne];omega
 clear ha hb hla hlb hm8 hprod hs hy hz;go_enter Tryz.func188,Tryz.ntmps188
 go_wp2_with fail
 refine (rsmall_c m _ HM8.out).mono ?_;rintro e w' ⟨rfl,rfl⟩;go_wp2_with fail
 refine (rmod3v_c a m y _ HA.out HM.out H0.out HYY.out).mono ?_;rintro e w1 ⟨rfl,hb1⟩;clear hdec;go_wp2_with fail
 refine (rsmall_c y _ HA8.out).mono ?_;rintro e w' ⟨rfl,rfl⟩;go_wp2_with fail
 refine (rmod3v_c b m z _ HB.out HM.out H0.out HZZ.out).mono ?_;rintro e w2 ⟨rfl,hb2⟩;go_wp2_with fail
 refine (rsmall_c z _ HB8.out).mono ?_;rintro e w' ⟨rfl,rfl⟩;go_wp2_with fail
 refine (rofMM_c y z m _ HPR.out HPM.out).mono ?_;rintro e w3 ⟨rfl,hb3⟩;go_wp2;go_ret
 exact ⟨rfl,bt (bt hb1 hb2) hb3⟩

set_option maxHeartbeats 800000 in
theorem rtimes3_mid (a b m y z:Nat) (w:World) (ha:a<256^128) (hb:b<256^128) (h0:0<m) (hs:¬ m<2147483648) (hm8:m<256^8) (hy:a%m=y) (hz:b%m=z) :
  Calls Tryz.prog 188 #[.string (E a),.string (E b),.string (E m)] w fun e w'=>e=.returned (.string (E (y*z%m)))∧Below w.heap.size w w':=by
 have hla:y<m:=by rw [←hy];exact Nat.mod_lt a h0
 have hlb:z<m:=by rw [←hz];exact Nat.mod_lt b h0
 have HA:=Lib.hid ha;have HB:=Lib.hid hb;have HM:=Lib.hid (lt128 hm8);have H0:=Lib.hid h0;have HM8:=Lib.hid hm8;have hm64:m<256^64:=Nat.lt_of_lt_of_le hm8 (Nat.pow_le_pow_right (by decide) (by decide));have HYB:=Lib.hid (Nat.lt_trans hla HM.out);have HZB:=Lib.hid (Nat.lt_trans hlb HM.out);have HPR:=Lib.hid (mul_fit hm64 hla hlb);have HYY:=Lib.hid hy;have HZZ:=Lib.hid hz;have hdec:decide ((m:Int)<2147483648)=false:=by rw [decide_eq_false_iff_not];omega
 clear ha hb h0 hla hlb hm8 hm64 hs hy hz;go_enter Tryz.func188,Tryz.ntmps188
 go_wp2_with fail
 refine (rsmall_c m _ HM8.out).mono ?_;rintro e w' ⟨rfl,rfl⟩;go_wp2_with fail
 refine (rmod3v_c a m y _ HA.out HM.out H0.out HYY.out).mono ?_;rintro e w1 ⟨rfl,hb1⟩;clear hdec;go_wp2_with fail
 refine (rmod3v_c b m z _ HB.out HM.out H0.out HZZ.out).mono ?_;rintro e w2 ⟨rfl,hb2⟩;go_wp2_with fail
 refine (rmul_c y z _ HYB.out HZB.out HPR.out).mono ?_;rintro e w3 ⟨rfl,hb3⟩;go_wp2_with fail
 refine (rmod3_c (y*z) m _ HPR.out HM.out H0.out).mono ?_;rintro e w4 ⟨rfl,hb4⟩;go_wp2;go_ret
 exact ⟨rfl,bt (bt (bt hb1 hb2) hb3) hb4⟩

set_option maxHeartbeats 800000 in
theorem rtimes3_big (a b m y z:Nat) (w:World) (ha:a<256^128) (hb:b<256^128) (h0:0<m) (hm8:256^8≤m) (hm64:m<256^64) (hy:a%m=y) (hz:b%m=z) :
  Calls Tryz.prog 188 #[.string (E a),.string (E b),.string (E m)] w fun e w'=>e=.returned (.string (E (y*z%m)))∧Below w.heap.size w w':=by
 have hla:y<m:=by rw [←hy];exact Nat.mod_lt a h0
 have hlb:z<m:=by rw [←hz];exact Nat.mod_lt b h0
 have HA:=Lib.hid ha;have HB:=Lib.hid hb;have HM:=Lib.hid (lt64 hm64);have hsz:=sz m HM.out;have H0:=Lib.hid h0;have HM8:=Lib.hid hm8;have HYB:=Lib.hid (Nat.lt_trans hla HM.out);have HZB:=Lib.hid (Nat.lt_trans hlb HM.out);have HPR:=Lib.hid (mul_fit hm64 hla hlb);have HYY:=Lib.hid hy;have HZZ:=Lib.hid hz;clear ha hb h0 hla hlb hm8 hm64 hy hz;go_enter Tryz.func188,Tryz.ntmps188
 go_wp2_with fail
 refine (rsmall_no m _ HM8.out (by omega)).mono ?_;rintro e w' ⟨rfl,rfl⟩;go_wp2_with fail
 refine (rmod3v_c a m y _ HA.out HM.out H0.out HYY.out).mono ?_;rintro e w1 ⟨rfl,hb1⟩;go_wp2_with fail
 refine (rmod3v_c b m z _ HB.out HM.out H0.out HZZ.out).mono ?_;rintro e w2 ⟨rfl,hb2⟩;go_wp2_with fail
 refine (rmul_c y z _ HYB.out HZB.out HPR.out).mono ?_;rintro e w3 ⟨rfl,hb3⟩;go_wp2_with fail
 refine (rmod3_c (y*z) m _ HPR.out HM.out H0.out).mono ?_;rintro e w4 ⟨rfl,hb4⟩;go_wp2;go_ret
 exact ⟨rfl,bt (bt (bt hb1 hb2) hb3) hb4⟩

theorem rtimes3_c (a b m:Nat) (w:World) (ha:a<256^128) (hb:b<256^128) (hm:m<256^64) (h0:0<m) :
  Calls Tryz.prog 188 #[.string (E a),.string (E b),.string (E m)] w fun e w'=>e=.returned (.string (E (a*b%m)))∧Below w.heap.size w w':=by
 rw [Nat.mul_mod];by_cases hs:m<2147483648
 ·exact rtimes3_small a b m _ _ w ha hb h0 hs rfl rfl
 ·rcases Nat.lt_or_ge m (256^8) with h8 | h8
  ·exact rtimes3_mid a b m _ _ w ha hb h0 hs h8 rfl rfl
  ·exact rtimes3_big a b m _ _ w ha hb h0 h8 hm rfl rfl

set_option maxHeartbeats 800000 in
theorem rmul3_c (a b m:Nat) (w:World) (ha:a<256^128) (hb:b<256^128) (hm:m<256^64) (h0:0<m) :
  Calls Tryz.prog 167 #[.string (E a),.string (E b),.string (E m)] w fun e w'=>e=.returned (.tuple #[.string (E (a*b%m)),.int .i64 0])∧Below w.heap.size w w':=by
 have HC:=Lib.hid (rcheck_c w.heap.size [a,b] m 31 (w.alloc (.cells #[.string (E a),.string (E b),.string (E m)] 31)) (by simp) (by simp [ha,hb]) (lt64 hm) (Blk.new _ _ _) h0);have HA:=Lib.hid ha;have HB:=Lib.hid hb;have HM:=Lib.hid hm;have H0:=Lib.hid h0;clear ha hb hm h0;go_enter Tryz.func167,Tryz.ntmps167
 go_wp2_with fail
 refine (HC.out).mono ?_;rintro e w' ⟨rfl,rfl⟩;go_wp2_with fail
 refine (rtimes3_c a b m _ HA.out HB.out HM.out H0.out).mono ?_;rintro e w1 ⟨rfl,hb1⟩;go_wp2;go_ret2
 exact ⟨rfl,bt (b1 _ _) hb1⟩

end Go.Proofs.YtdoacbdkbbpamaaGreatDoor
end

section
set_option linter.unusedVariables false
set_option linter.unusedSimpArgs false
namespace Go.Proofs.YtdoacbdkbbpamaaGreatDoor.Lag
def S4 (n:Int):Prop:=∃a b c d:Int,n=a*a+b*b+c*c+d*d

theorem S4.mul {m n:Int} (h1:S4 m) (h2:S4 n):S4 (m*n):=by
 obtain ⟨a,b,c,d,rfl⟩:=h1;obtain ⟨x,y,z,w,rfl⟩:=h2;exact ⟨a*x+b*y+c*z+d*w,a*y-b*x+c*w-d*z,a*z-c*x+d*y-b*w,a*w-d*x+b*z-c*y,by grind⟩

theorem S4.descend {p m:Int} (hm:1<m) (hpr:¬ m∣p) (h:S4 (m*p)):∃r,1≤r∧r<m∧S4 (r*p):=by
 obtain ⟨a,b,c,d,h⟩:=h
 have key:∀x:Int,∃k y,x=y+m*k∧-m≤2*y∧2*y≤m:=by
  intro x;refine ⟨(x+m / 2) / m,x-m*((x+m / 2) / m),by omega,?_,?_⟩
  ·have h1:=Int.emod_add_mul_ediv (x+m / 2) m;have h2:=Int.emod_nonneg (x+m / 2) (show m≠0 by omega);omega
  ·have h1:=Int.emod_add_mul_ediv (x+m / 2) m;have h2:=Int.emod_lt_of_pos (x+m / 2) (show 0<m by omega);omega
 obtain ⟨ka,ya,ha,ha1,ha2⟩:=key a;obtain ⟨kb,yb,hb,hb1,hb2⟩:=key b;obtain ⟨kc,yc,hc,hc1,hc2⟩:=key c;obtain ⟨kd,yd,hd,hd1,hd2⟩:=key d
 have sq:∀y:Int,-m≤2*y→2*y≤m→0≤y*y∧4*(y*y)≤m*m∧(4*(y*y)=m*m→(2*y=m∨2*y=-m)):=by
  intro y h1 h2;have h3:0≤(m-2*y)*(m+2*y):=Int.mul_nonneg (by omega) (by omega);have h4:(m-2*y)*(m+2*y)=m*m-4*(y*y):=by grind
  refine ⟨?_,by omega,?_⟩
  ·rcases Int.le_total 0 y with h | h
   ·exact Int.mul_nonneg h h
   ·have:=Int.mul_nonneg (show 0≤-y by omega) (show 0≤-y by omega);rwa [Int.neg_mul_neg] at this
  ·intro h5;have h6:(m-2*y)*(m+2*y)=0:=by omega
   rcases Int.mul_eq_zero.1 h6 with h | h <;> omega
 have sa:=sq ya ha1 ha2;have sb:=sq yb hb1 hb2;have sc:=sq yc hc1 hc2;have sd:=sq yd hd1 hd2
 obtain ⟨r,hr⟩:∃r,ya*ya+yb*yb+yc*yc+yd*yd=m*r:=by
  refine ⟨p-(2*ya*ka+m*ka*ka+2*yb*kb+m*kb*kb+2*yc*kc+m*kc*kc+2*yd*kd+m*kd*kd),?_⟩;subst ha hb hc hd;grind
 have hm0:0<m:=by omega
 have hr0:0≤r:=by
  apply Classical.byContradiction
  intro hn;have:=Int.mul_lt_mul_of_pos_left (show r<0 by omega) hm0;omega
 have hrm:r≤m:=by
  apply Classical.byContradiction
  intro hn;have:=Int.mul_lt_mul_of_pos_left (show m<r by omega) hm0;omega
 have hrz:r≠0:=by
  intro h0;rw [h0,Int.mul_zero] at hr
  have e1:ya=0:=by
              have:ya*ya=0:=by omega
              rcases Int.mul_eq_zero.1 this with h | h <;> exact h
  have e2:yb=0:=by
              have:yb*yb=0:=by omega
              rcases Int.mul_eq_zero.1 this with h | h <;> exact h
  have e3:yc=0:=by
              have:yc*yc=0:=by omega
              rcases Int.mul_eq_zero.1 this with h | h <;> exact h
  have e4:yd=0:=by
              have:yd*yd=0:=by omega
              rcases Int.mul_eq_zero.1 this with h | h <;> exact h
  subst e1 e2 e3 e4;apply hpr
  refine ⟨ka*ka+kb*kb+kc*kc+kd*kd,?_⟩;have:m*p=m*(m*(ka*ka+kb*kb+kc*kc+kd*kd)):=by rw [h,ha,hb,hc,hd];grind
  exact Int.eq_of_mul_eq_mul_left (by omega) this
 have hrn:r≠m:=by
  intro h0;rw [h0] at hr;have f1:=sa.2.2 (by omega);have f2:=sb.2.2 (by omega);have f3:=sc.2.2 (by omega);have f4:=sd.2.2 (by omega)
  have hev:∀y k:Int,(2*y=m∨2*y=-m)→∃t,(y+m*k)*(y+m*k)=y*y+m*m*t:=by
   intro y k h;rcases h with h | h
   ·exact ⟨k+k*k,by grind⟩
   ·exact ⟨-k+k*k,by grind⟩
  obtain ⟨t1,g1⟩:=hev ya ka f1;obtain ⟨t2,g2⟩:=hev yb kb f2;obtain ⟨t3,g3⟩:=hev yc kc f3;obtain ⟨t4,g4⟩:=hev yd kd f4;apply hpr
  refine ⟨1+t1+t2+t3+t4,?_⟩;have:m*p=m*(m*(1+t1+t2+t3+t4)):=by rw [h,ha,hb,hc,hd,g1,g2,g3,g4];grind
  exact Int.eq_of_mul_eq_mul_left (by omega) this
 refine ⟨r,by omega,by omega,?_⟩;-- the product,divided by m twice
 refine ⟨ya*ka+yb*kb+yc*kc+yd*kd+r,ka*yb-kb*ya+kc*yd-kd*yc,ka*yc-kc*ya+kd*yb-kb*yd,ka*yd-kd*ya+kb*yc-kc*yb,?_⟩
 have:m*m*(r*p)=m*m*((ya*ka+yb*kb+yc*kc+yd*kd+r)*(ya*ka+yb*kb+yc*kc+yd*kd+r)+(ka*yb-kb*ya+kc*yd-kd*yc)*(ka*yb-kb*ya+kc*yd-kd*yc)+(ka*yc-kc*ya+kd*yb-kb*yd)*(ka*yc-kc*ya+kd*yb-kb*yd)+(ka*yd-kd*ya+kb*yc-kc*yb)*(ka*yd-kd*ya+kb*yc-kc*yb)):=by
  have e:m*m*(r*p)=(m*r)*(m*p):=by grind
  rw [e,h,ha,hb,hc,hd];grind
 exact Int.eq_of_mul_eq_mul_left (show m*m≠0 from Int.mul_ne_zero (by omega) (by omega)) this

theorem pigeon:∀(n:Nat) (l:List Nat),l.Nodup→(∀x∈l,x<n)→l.length≤n
 | 0,l,_,h=>by
  cases l with
  | nil=>simp
  | cons a t=>have:=h a (by simp);omega
 | n+1,l,hd,h=>by
  by_cases hm:n∈l
  ·have h1:=List.length_erase_of_mem hm
   have h2:=pigeon n (l.erase n) (hd.erase n) (by
    intro x hx;have h3:=(hd.mem_erase_iff).1 hx;have:=h x h3.2;have:=h3.1;omega)
   omega
  ·have:=pigeon n l hd (by
    intro x hx;have:=h x hx;have:x≠n:=fun e=>hm (e ▸ hx)
    omega)
   omega

def Pr (p:Nat):Prop:=1<p∧∀d,d∣p→d=1∨d=p
theorem Pr.euclid {p a b:Nat} (hp:Pr p) (h:p∣a*b):p∣a∨p∣b:=by
 rcases hp.2 (Nat.gcd p a) (Nat.gcd_dvd_left p a) with h1 | h1
 ·right
  exact Nat.Coprime.dvd_of_dvd_mul_left (m:=a) h1 h
 ·left
  rw [←h1];exact Nat.gcd_dvd_right p a

theorem sq_inj {p h x y:Nat} (hp:Pr p) (h2:p=2*h+1) (hx:x<y) (hy:y≤h):x*x%p≠y*y%p:=by
 intro e
 have h3:p∣y*y-x*x:=by
  have h4:=Nat.mul_le_mul (show x≤y by omega) (show x≤y by omega);exact Nat.dvd_of_mod_eq_zero (Nat.sub_mod_eq_zero_of_mod_eq e.symm)
 have h5:y*y-x*x=(y-x)*(y+x):=by
  obtain ⟨k,rfl⟩:∃k,y=x+k:=⟨y-x,by omega⟩;have:(x+k)*(x+k)=x*x+k*(x+k+x):=by grind
  rw [this];have:x+k-x=k:=by omega
  rw [this];omega
 rw [h5] at h3;rcases hp.euclid h3 with h6 | h6
 ·have:=Nat.le_of_dvd (by omega) h6;omega
 ·have:=Nat.le_of_dvd (by omega) h6;omega

theorem start {p h:Nat} (hp:Pr p) (h2:p=2*h+1):∃a b,a≤h∧b≤h∧p∣a*a+b*b+1:=by
 apply Classical.byContradiction
 intro hn;have hpp:=hp.1
 have h3:=pigeon p ((List.range (h+1)).map (fun x=>x*x%p)++(List.range (h+1)).map (fun y=>p-1-y*y%p)) (by
  rw [List.nodup_append];refine ⟨?_,?_,?_⟩
  ·rw [List.Nodup,List.pairwise_map];refine List.Pairwise.imp_of_mem ?_ List.pairwise_lt_range;intro x y hx hy hxy;rw [List.mem_range] at hx hy;exact sq_inj hp h2 hxy (by omega)
  ·rw [List.Nodup,List.pairwise_map];refine List.Pairwise.imp_of_mem ?_ List.pairwise_lt_range;intro x y hx hy hxy;rw [List.mem_range] at hx hy;have h4:=sq_inj hp h2 hxy (by omega);have h5:=Nat.mod_lt (x*x) (show 0<p by omega);have h6:=Nat.mod_lt (y*y) (show 0<p by omega);omega
  ·intro a ha b hb hab;rw [List.mem_map] at ha hb;obtain ⟨x,hx,rfl⟩:=ha;obtain ⟨y,hy,rfl⟩:=hb;rw [List.mem_range] at hx hy;apply hn
   refine ⟨x,y,by omega,by omega,?_⟩;have h6:=Nat.mod_lt (y*y) (show 0<p by omega);have h7:x*x%p+y*y%p+1=p:=by omega
   have h8:=Nat.div_add_mod (x*x) p;have h9:=Nat.div_add_mod (y*y) p;exact ⟨x*x / p+y*y / p+1,by rw [Nat.mul_add,Nat.mul_add];omega⟩) (by
  intro x hx;rw [List.mem_append,List.mem_map,List.mem_map] at hx;rcases hx with ⟨y,_,rfl⟩ | ⟨y,_,rfl⟩
  ·exact Nat.mod_lt _ (by omega)
  ·omega)
 simp at h3;omega

theorem S4.prime {p:Nat} (hp:Pr p):∀(k:Nat) (m:Int),m.toNat=k→1≤m→m<p→S4 (m*p)→S4 p:=by
 intro k;induction k using Nat.strongRecOn with
 | _ k ih =>
  intro m hk h1 h2 h;by_cases hm:m=1
  ·rw [hm,Int.one_mul] at h;exact h
  ·obtain ⟨r,hr1,hr2,hr3⟩:=S4.descend (p:=(p:Int)) (m:=m) (by omega) (by
    intro hd
    have hd2:m.toNat∣p:=by
     have:((m.toNat:Nat):Int)∣(p:Int):=by rw [Int.toNat_of_nonneg (by omega)];exact hd
     exact Int.natCast_dvd_natCast.1 this
    rcases hp.2 _ hd2 with h5 | h5 <;> omega) h
   exact ih r.toNat (by omega) r rfl hr1 (by omega) hr3

theorem lagrange (n:Nat):S4 (n:Int):=by
 induction n using Nat.strongRecOn with
 | _ n ih =>
  by_cases h0:n=0
  ·exact ⟨0,0,0,0,by rw [h0];rfl⟩
  by_cases h1:n=1
  ·exact ⟨1,0,0,0,by rw [h1];rfl⟩
  by_cases h2:n=2
  ·exact ⟨1,1,0,0,by rw [h2];rfl⟩
  by_cases hp:Pr n
  ·have hodd:n%2=1:=by
    apply Classical.byContradiction
    intro h;have:=hp.2 2 (by omega);omega
   obtain ⟨a,b,ha,hb,c,hc⟩:=start hp (h:=n / 2) (by omega);have ha2:=Nat.mul_le_mul ha ha;have hb2:=Nat.mul_le_mul hb hb
   have hnn:4*(n / 2*(n / 2))+4*(n / 2)+1=n*n:=by
    obtain ⟨k,hk⟩:∃k,k=n / 2:=⟨_,rfl⟩;have h3:n=2*k+1:=by omega
    rw [←hk,h3];grind
   have hcn:c<n:=by
    apply Classical.byContradiction
    intro h;have:=Nat.mul_le_mul_left n (show n≤c by omega);omega
   have hc1:1≤c:=by
    rcases Nat.eq_zero_or_pos c with h | h
    ·rw [h] at hc;omega
    ·exact h
   refine S4.prime hp _ (c:Int) rfl (by omega) (by omega) ⟨a,b,1,0,?_⟩;have:((a*a+b*b+1:Nat):Int)=((n*c:Nat):Int):=by rw [hc]
   simp only [Int.natCast_add,Int.natCast_mul] at this;grind
  ·have:∃d,d∣n∧d≠1∧d≠n:=by
    apply Classical.byContradiction
    intro h;exact hp ⟨by omega,fun d hd=>Classical.byContradiction fun h5=>h ⟨d,hd,fun e=>h5 (.inl e),fun e=>h5 (.inr e)⟩⟩
   obtain ⟨d,⟨e,he⟩,hd1,hd2⟩:=this
   have hd0:0<d:=by
    rcases Nat.eq_zero_or_pos d with h | h
    ·rw [h] at he;omega
    ·exact h
   have he0:0<e:=by
    rcases Nat.eq_zero_or_pos e with h | h
    ·rw [h] at he;omega
    ·exact h
   have hdn:d<n:=by
    rcases Nat.lt_or_ge d n with h | h
    ·exact h
    ·have:=Nat.mul_le_mul_left d he0;omega
   have hen:e<n:=by
    rcases Nat.lt_or_ge e n with h | h
    ·exact h
    ·have:=Nat.mul_le_mul_right e (show 2≤d by omega);omega
   rw [he,Int.natCast_mul];exact S4.mul (ih d hdn) (ih e hen)
end Go.Proofs.YtdoacbdkbbpamaaGreatDoor.Lag
end
