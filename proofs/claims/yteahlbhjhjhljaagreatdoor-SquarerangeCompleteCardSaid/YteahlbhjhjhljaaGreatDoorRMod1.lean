import Derived.Test.YteahlbhjhjhljaaGreatDoorRef6
import Derived.Test.YteahlbhjhjhljaaGreatDoorInt4
import Derived.Lib.SliceRun
import Derived.Lib.SlBuf
import Derived.Test.YteahlbhjhjhljaaGreatDoorHv1
set_option linter.unusedVariables false
set_option linter.unusedSimpArgs false
set_option maxRecDepth 100000
set_option maxHeartbeats 16000000
namespace Go.Proofs.YteahlbhjhjhljaaGreatDoor
section
open Go.RowKit
theorem Blk.setCells {g:Nat} {T:TypeId}:∀(vs:List Value) (o:Nat) (w:World) (cs:List Value),Blk w g T cs→o+vs.length≤cs.length→Blk (w.setCells g o vs) g T (cs.take o++vs++cs.drop (o+vs.length))
 | [],o,w,cs,h,_=>by simpa [World.setCells] using h
 | v :: r,o,w,cs,h,hl=>by
  have h1:=h.set o v;simp only [List.length_cons] at hl;have h2:=Blk.setCells r (o+1) _ _ h1 (by simp;omega)
  have e1:(cs.set o v).take (o+1)=cs.take o++[v]:=by
   rw [List.take_succ_eq_append_getElem (by simp;omega),List.take_set_of_le (by omega),List.getElem_set_self]
  have e2:(cs.set o v).drop (o+1+r.length)=cs.drop (o+(v :: r).length):=by
   rw [List.drop_set_of_lt (by omega),List.length_cons,show o+1+r.length=o+(r.length+1) by omega]
  rw [e1,e2,List.append_assoc (cs.take o)] at h2;exact h2
theorem Blk.cleared {g:Nat} {T:TypeId} {w:World} {cs vs:List Value} (h:Blk w g T cs) (hl:vs.length=cs.length):Blk (w.setCells g 0 vs) g T vs:=by
 have:=Blk.setCells vs 0 w cs h (by omega);rw [Nat.zero_add,hl,List.drop_length] at this;simpa using this
theorem digw_c (s:ByteArray) (i:Nat) (w:World) (hs:s.size≤1000000) (h1:i≤1000000) :
  Calls Tryz.prog 226 #[.string s,.int .i64 (i:Int)] w fun e w'=>e=.returned (.int .i64 (dgt s i))∧w'=w:=
 (digit_c s i w (by omega) (by omega) (by omega)).mono fun _ _ h=>⟨by rw [h.1,Int.toNat_natCast],h.2.symm⟩
theorem product_nat (a b cb B:Nat) (w:World) (S0:List Nat) (h1:(E a).size≤128) (h2:(E b).size≤128) (hB:B≤cb) (hl0:S0.length=256) (hb0:Blk w cb 257 (i64s S0)) :
  Calls Tryz.prog 224 #[.string (E a),.string (E b),.pointer (some ⟨cb,0,none⟩)] w fun e w'=>e=.returned (.string (E (a*b)))∧Below B w w':=by
 obtain ⟨n,hn⟩:∃n:Nat,n=(E a).size+(E b).size:=⟨_,rfl⟩;have HN:Hid (((E a).size:Int)+((E b).size:Int)=(n:Int)):=by unfold Hid;omega
 have HN2:=Lib.hid hn;have HR:Hid (a*b<256^n):=by rw [hn];exact mul_lt_pow a b _ _ (E_lt a) (E_lt b)
 have hnb:n≤256:=by omega
 have hnab:(E a).size+(E b).size≤n:=by omega
 have hcbl:=hb0.lt;obtain ⟨zs,hzs⟩:∃zs,zs=List.replicate 256 (Value.int .i64 0):=⟨_,rfl⟩
 have hcl:∀ty,(Builtin.clear_ #[285] ty #[.slice (some ⟨cb,0,none⟩) 256 256]).run Tryz.prog w=.ok (.tuple #[]) (w.setCells cb 0 zs):=by
  rw [hzs]
  exact
   fun ty=>Lib.run_clear_slice w _ _ ty _ Tryz.underlying285 Tryz.zeroValue3 rfl rfl cb 0 256 256 (by omega) (fun j hj=>by rw [Nat.zero_add,i64_cell hb0 j (by omega)];rfl) (fun j hj=>hb0.free _)
 obtain ⟨Z,hZ⟩:∃Z:List Nat,Z=List.replicate 256 0:=⟨_,rfl⟩
 have hb1:Blk (w.setCells cb 0 zs) cb 257 (i64s Z):=by
  have:=hb0.cleared (vs:=zs) (by rw [hzs,List.length_replicate,i64s,List.length_map,hl0]);have e:zs=i64s Z:=by rw [hzs,hZ,i64s,List.map_replicate];rfl
  rw [←e];exact this
 have hB1:Below B w (w.setCells cb 0 zs):=Lib.below_setCells cb hB _ _ (Below.refl _ _);have HZ:=Lib.hid hZ;clear hn hl0 hzs hZ;go_enter Tryz.func224,Tryz.ntmps224
 go_wp2;clear hcl;generalize w.setCells cb 0 zs=w1 at hb1 hB1;have hcbl1:=hb1.lt;go_loopw [19] (fun x wr=>∃(i:Nat) (S:List Nat),i≤(E a).size∧x=.int .i64 i∧S.length=256∧wsum S=a%256^i*b∧ColB 65025 S i 0∧Blk wr cb 257 (i64s S)∧Below B w wr) (fun x _=>(E a).size-(intOf x).toNat)
 case atStart=>exact ⟨0,Z,by omega,rfl,by rw [HZ.out,List.length_replicate],by rw [HZ.out,wsum_zeros,Nat.pow_zero,Nat.mod_one,Nat.zero_mul],by rw [HZ.out];exact ColB.zeros _ _,hb1,hB1⟩
 case round =>
  obtain ⟨wo,rfl⟩:∃wo:World,wo=wr:=⟨_,rfl⟩;obtain ⟨i,S,hi,rfl,hSl,hS,hcol,hblk,hbel⟩:=hrel;have HSL:=Lib.hid hSl;clear hSl;have HS:=Lib.hid hS;clear hS;by_cases hlt:i<(E a).size
  ·go_wp2_with fail
   refine (digw_c (E a) i _ (by omega) (by omega)).mono ?_;rintro e w' ⟨rfl,hw'⟩;subst w';go_wp2;go_loopw [27] (fun x wr=>∃(k:Nat) (S:List Nat),k≤(E b).size∧x=.int .i64 k∧S.length=256∧wsum S=a%256^i*b+dgt (E a) i*256^i*(b%256^k)∧ColB 65025 S i (i+k)∧Blk wr cb 257 (i64s S)∧Below B w wr) (fun x _=>(E b).size-(intOf x).toNat)
   case atStart =>
    exact ⟨0,S,by omega,rfl,HSL.out,by rw [HS.out];simp [Nat.mod_one],by simpa using hcol.start,hblk,hbel⟩
   case round =>
    obtain ⟨k,S',hk,rfl,hSl',hS',hcol',hblk',hbel'⟩:=hrel;clear hblk hcol;have HSL':=Lib.hid hSl';have HS':=Lib.hid hS';clear hS';by_cases hlk:k<(E b).size
    ·have hik:i+k<S'.length:=by omega
     have hc:=i64_cell hblk' (i+k) hik;have hfr:=hblk'.free (i+k);have hbd:=hcol'.at hik;have hd1:=dgt_lt (E a) i;have hd2:=dgt_lt (E b) k;have hik2:i+k<256:=by omega
     clear hSl';generalize hs0:S'[i+k]=s0 at hc hbd;have HS0:=Lib.hid hs0;clear hs0;have hmul:dgt (E a) i*dgt (E b) k≤65025:=Nat.le_trans (Nat.mul_le_mul (show _≤255 by omega) (show _≤255 by omega)) (by decide);have hmulI:(dgt (E a) i:Int)*(dgt (E b) k:Int)≤65025:=by rw [←Int.natCast_mul];omega
     have hmul0:0≤(dgt (E a) i:Int)*(dgt (E b) k:Int):=by rw [←Int.natCast_mul];omega
     go_wp2;have q1:IntKind.i64.wrap ((i:Int)+(k:Int))=(i:Int)+(k:Int):=IntWalk.i64_in _ (by omega);have q2:((i:Int)+(k:Int)).toNat=i+k:=by omega
     have q3:0≤(i:Int)+(k:Int):=by omega
     have q4:(i:Int)+(k:Int)<256:=by omega
     have q5:IntKind.i64.wrap ((dgt (E a) i:Int)*(dgt (E b) k:Int))=(dgt (E a) i:Int)*(dgt (E b) k:Int):=IntWalk.i64_in _ (by omega);have q6:IntKind.i64.wrap ((s0:Int)+(dgt (E a) i:Int)*(dgt (E b) k:Int))=(s0:Int)+(dgt (E a) i:Int)*(dgt (E b) k:Int):=IntWalk.i64_in _ (by omega);refine wp_region_still_tail 15 (by kernel_rfl) (by kernel_rfl) ?_;simp only [List.take_succ_cons,List.take_zero,List.drop_succ_cons,List.drop_zero];repeat (first | still_step | (still_call (digw_c _ _ _ (by omega) (by omega))))
     refine wpStill_nil ?_;change wpList _ _ _ _ _ wr.drew
     clear q1 q2 q3 q4 q5 q6;go_wp2;go_roundw
     case rel =>
      refine ⟨k+1,S'.set (i+k) (S'[i+k]+dgt (E a) i*dgt (E b) k),by omega,by go_num,by simpa using HSL'.out,?_,?_,?_,?_⟩
      ·rw [dgt_E b k];exact prod_step S' _ b i k _ hik HS'.out
      ·exact hcol'.step hik hmul
      ·have:=i64_set hblk' (i+k) (S'[i+k]+dgt (E a) i*dgt (E b) k);rw [HS0.out,Int.natCast_add,Int.natCast_mul] at this;rw [HS0.out];exact this
      ·exact (hbel'.setCell hB _).drew
     case measure=>simp [intOf];omega
    ·obtain rfl:k=(E b).size:=by omega
     go_wp2;go_roundw
     case rel =>
      refine ⟨i+1,S',by omega,by go_num,HSL'.out,?_,hcol'.next,hblk',hbel'⟩;rw [HS'.out,dgt_E];exact prod_row a b i _ (E_lt b)
     case measure=>simp [intOf];omega
  ·obtain rfl:i=(E a).size:=by omega
   have hmk:=run_mk (P:=Tryz.prog) Tryz.underlying191 info_u8 n (by omega) (by omega);rw [←HN.out] at hmk;have HS2:Hid (wsum S=a*b):=by rw [Hid,HS.out,Nat.mod_eq_of_lt (E_lt a)]
   obtain ⟨Bo,hBo⟩:∃Bo,Bo=wo.heap.size:=⟨_,rfl⟩;have HBo:=Lib.hid hBo;have hBs:cb<Bo:=by rw [hBo];exact hblk.lt
   have hBs2:B≤Bo:=by omega
   clear hBo;go_wp2;clear hmk;rw [HN.out];rw [←HBo.out];go_loopw [12,55] (fun x i wr=>∃(k c:Nat) (t:List UInt8),k≤n∧c≤600000∧i=.int .i64 k∧x=.int .i64 c∧t.length=k∧val t+c*256^k=wsum (S.take k)∧Blk wr cb 257 (i64s S)∧Blk wr Bo 5 (u8s (List.replicate (n-k) 0++t))∧Below B w wr) (fun _ i _=>n-(intOf i).toNat)
   case atStart =>
    refine ⟨0,0,[],by omega,by omega,rfl,rfl,rfl,by simp [val,wsum],hblk.alloc _,?_,hbel.alloc (by rw [HBo.out] at hBs2;exact hBs2) _⟩;have:=Blk.new wo (List.replicate n (Value.int .u8 0)).toArray 5;rw [←HBo.out] at this;simpa [u8s,u8v] using this
   case round =>
    obtain ⟨k,c,t,hk,hc,rfl,rfl,htl,hv,hb1,hb2,hbel2⟩:=hrel;have HV:=Lib.hid hv;clear hv;have HL:=Lib.hid htl;clear htl;by_cases hlk:k<n
    ·have hkl:k<S.length:=by rw [HSL.out];omega
     have hcell0:=i64_cell hb1 k hkl;have hbd:=hcol.at hkl;generalize hs0:S[k]=s0 at hcell0 hbd;have HS0:=Lib.hid hs0;clear hs0;have hcell:=front_cell hb2 hlk rfl;have hfr:=hb2.free (n-1-k);have hk256:(k:Int)<256:=by omega
     have h0k:(0:Int)≤(k:Int):=by omega
     go_wp2;go_roundw
     case rel =>
      obtain ⟨x,hx⟩:∃x,x=s0+c:=⟨_,rfl⟩;rw [byteI x _ (by omega)];refine ⟨k+1,x / 256,UInt8.ofNat (x%256) :: t,by omega,by omega,by go_num,vi (by omega),by simp [HL.out],col_step S k c x t hkl HL.out HV.out (by rw [HS0.out];exact hx),hb1.other _ _ (by simp;omega),front_set hb2 hlk rfl _,hbel2.setCell hBs2 _⟩
     case measure=>simp [intOf];omega
    ·obtain rfl:k=n:=by omega
     have hr:Row wr Bo 0 t:=by
      have:=hb2.row;simpa using this
     have HE:=Lib.hid (col_end k c (a*b) S t HL.out (by rw [HSL.out];omega) HV.out HS2.out HR.out);go_wp2_with fail
     have:=(trimmed_c Bo 0 k t wr (by rw [HL.out];omega) (by omega) hr);rw [HL.out,HE.out] at this;refine this.mono ?_;rintro e w' ⟨rfl,rfl⟩;go_wp2;go_ret
     exact ⟨rfl,hbel2⟩
theorem small_big (a:Nat) (w:World) (ha:a<256^128) (h8:8<(E a).size) :
  Calls Tryz.prog 153 #[.string (E a)] w fun e w'=>e=.returned (.tuple #[.int .u64 0,.bool false])∧w=w':=by
 have HA:=Lib.hid ha;have hs:=sz a ha;clear ha;go_enter Tryz.func153,Tryz.ntmps153
 go_wp2_with fail
 refine (validE_c a _ HA.out).mono ?_;rintro e w' ⟨rfl,rfl⟩;go_wp2;go_ret2
 exact ⟨rfl,rfl⟩
def smN (a:Nat):Nat:=if (E a).size≤8 then a else 0
theorem smN_lt (a:Nat):smN a<256^8:=by
 unfold smN;split
 ·exact (E_size_le a 8).1 (by assumption)
 ·decide
theorem smallN_c (a:Nat) (w:World) (ha:a<256^128) :
  Calls Tryz.prog 153 #[.string (E a)] w fun e w'=>∃b,e=.returned (.tuple #[.int .u64 (smN a:Nat),.bool b])∧w'=w:=by
 by_cases h8:(E a).size≤8
 ·refine (small_c a w ((E_size_le a 8).1 h8)).mono fun _ _ h=>⟨true,?_,h.2.symm⟩
  rw [h.1,smN,if_pos h8]
 ·refine (small_big a w ha (by omega)).mono fun _ _ h=>⟨false,?_,h.2.symm⟩
  rw [h.1,smN,if_neg h8];rfl
theorem zero_cells:Tryz.zeroCells257=(i64s (List.replicate 256 0)).toArray:=by kernel_rfl
theorem zero_blk (w:World):Blk (w.alloc (.cells Tryz.zeroCells257 257)) w.heap.size 257 (i64s (List.replicate 256 0)):=by
 have:=Blk.new w Tryz.zeroCells257 257;rw [zero_cells] at this ⊢;exact this
theorem b1' (w:World) (o:Obj):Below w.heap.size w (w.alloc o):=(Below.refl _ _).alloc (Nat.le_refl _) o
theorem mul64G_c (x y:Nat) (w:World) (hx:x<256^8) (hy:y<256^8) :
  Calls Tryz.prog 222 #[.int .u64 x,.int .u64 y] w fun e w'=>e=.returned (.tuple #[.int .u64 ((x*y / 256^8:Nat):Int),.int .u64 ((x*y%256^8:Nat):Int)])∧w'=w:=by
 have e:(256^8:Nat)=18446744073709551616:=by decide
 rw [e] at hx hy ⊢;exact Tryz.bits_Mul64 x y hx hy w
theorem mul_c (a b:Nat) (w:World) (ha:a<256^128) (hb:b<256^128) (h:a*b<256^128) :
  Calls Tryz.prog 176 #[.string (E a),.string (E b)] w fun e w'=>e=.returned (.tuple #[.string (E (a*b)),.int .i64 0])∧Below w.heap.size w w':=by
 by_cases hs:(a<256^8∧b<256^8)∧a*b<256^8
 ·exact mul_small a b w hs.1.1 hs.1.2 hs.2
 ·have h1:=sz a ha;have h2:=sz b hb;have HA:=Lib.hid ha;have HB:=Lib.hid hb;have HAB:=Lib.hid h;have HM:=Lib.hid (fun w=>mul64G_c (smN a) (smN b) w (smN_lt a) (smN_lt b))
  have hcond:((E a).size≤8∧(E b).size≤8)→¬ smN a*smN b / 256^8=0:=by
   intro hc h0;rw [smN,smN,if_pos hc.1,if_pos hc.2] at h0
   have hlt:a*b<256^8:=by
    rcases Nat.lt_or_ge (a*b) (256^8) with h | h
    ·exact h
    ·have:=Nat.div_pos h (by decide);omega
   exact hs ⟨⟨(E_size_le a 8).1 hc.1,(E_size_le b 8).1 hc.2⟩,hlt⟩
  have hcases:(∃z:Int,decide (((E a).size:Int)≤8)=false)∨(decide (((E a).size:Int)≤8)=true∧decide (((E b).size:Int)≤8)=false)∨(decide (((E a).size:Int)≤8)=true∧decide (((E b).size:Int)≤8)=true∧(((smN a*smN b / 256^8:Nat):Int)==0)=false):=by
   by_cases c1:(E a).size≤8
   ·by_cases c2:(E b).size≤8
    ·refine .inr (.inr ⟨decide_eq_true (by omega),decide_eq_true (by omega),?_⟩);rw [beq_eq_false_iff_ne];have:=hcond ⟨c1,c2⟩;omega
    ·exact .inr (.inl ⟨decide_eq_true (by omega),decide_eq_false (by omega)⟩)
   ·exact .inl ⟨0,decide_eq_false (by omega)⟩
  generalize (smN a*smN b / 256^8:Nat)=hi at HM hcases;generalize (smN a*smN b%256^8:Nat)=lo at HM;clear hs hcond ha hb h;go_enter Tryz.func176,Tryz.ntmps176
  go_wp2_with fail
  refine (validE_c a _ HA.out).mono ?_;rintro e w' ⟨rfl,rfl⟩;go_wp2_with fail
  refine (validE_c b _ HB.out).mono ?_;rintro e w' ⟨rfl,rfl⟩;go_wp2_with fail
  refine (smallN_c a _ HA.out).mono ?_;rintro e w' ⟨b1,rfl,hw'⟩;subst w';go_wp2_with fail
  refine (smallN_c b _ HB.out).mono ?_;rintro e w' ⟨b2,rfl,hw'⟩;subst w';go_wp2_with fail
  refine (HM.out _).mono ?_;rintro e w' ⟨rfl,hw'⟩;subst w';rcases hcases with ⟨_,k1⟩ | ⟨k1,k2⟩ | ⟨k1,k2,k3⟩
  all_goals
   go_wp2_with fail
   refine (product_nat a b w.heap.size w.heap.size (w.alloc (.cells Tryz.zeroCells257 257)) (List.replicate 256 0) (by omega) (by omega) (Nat.le_refl _) (List.length_replicate ..) (zero_blk w)).mono ?_;rintro e w2 ⟨rfl,hb2⟩;go_wp2_with fail
   refine (fitting_c (a*b) _ HAB.out).mono ?_;rintro e w' ⟨rfl,rfl⟩;go_wp2;go_ret2
   exact ⟨rfl,(b1' w _).trans hb2⟩
end
section
open Go.RowKit
def strs (l:List Nat):List Value:=l.map fun n=>Value.string (E n)
theorem strs_cell {w:World} {g:Nat} {T:TypeId} {l:List Nat} (h:Blk w g T (strs l)) (j:Nat) (hj:j<l.length):w.cell? ⟨g,j,none⟩=some (.string (E l[j])):=by
 rw [h.cell];simp [strs,hj]
theorem rcheck_c (b:Nat) (l:List Nat) (x:Nat) (T:TypeId) (w:World) (hl:l.length≤1000) (hv:∀n∈l,n<256^128) (hx:x<256^128) (hB:Blk w b T (strs (l++[x]))) (h0:0<x) :
  Calls Tryz.prog 158 #[.slice (some ⟨b,0,none⟩) (l.length+1) (l.length+1)] w fun e w'=>e=.returned (.int .i64 0)∧w=w':=by
 have HV:Hid (∀n∈l++[x],n<256^128):=by
  intro n hn;rcases List.mem_append.1 hn with h | h
  ·exact hv n h
  ·rw [List.mem_singleton] at h;rw [h];exact hx
 have hlast:=strs_cell hB l.length (by simp);rw [List.getElem_concat_length (by rfl)] at hlast;have hz:=nzE h0;clear hv hx h0;go_enter Tryz.func158,Tryz.ntmps158
 go_wp2;go_loop [3] (fun i=>∃k:Nat,k≤l.length+1∧i=.int .i64 k) (fun i=>l.length+1-(intOf i).toNat)
 case atStart=>exact ⟨0,by omega,rfl⟩
 case round =>
  obtain ⟨k,hk,rfl⟩:=hrel;by_cases hlt:k<l.length+1
  ·have hkl:k<(l++[x]).length:=by simp;omega
   have hc:=strs_cell hB k hkl;have HN:=Lib.hid (HV.out _ (List.getElem_mem hkl));generalize (l++[x])[k]=n at hc HN;go_wp2_with fail
   refine (rvalidE_c n _ HN.out).mono ?_;rintro e w' ⟨rfl,rfl⟩;go_wp2;go_round
   case rel=>exact ⟨k+1,by omega,by go_num⟩
   case measure=>simp [intOf];omega
  ·obtain rfl:k=l.length+1:=by omega
   go_wp2;go_ret
   exact ⟨rfl,rfl⟩
theorem rmod3_c (a m:Nat) (w:World) (ha:a<256^128) (hm:m<256^128) (h0:0<m) :
  Calls Tryz.prog 159 #[.string (E a),.string (E m)] w fun e w'=>e=.returned (.string (E (a%m)))∧Below w.heap.size w w':=by
 have HA:=Lib.hid ha;have HM:=Lib.hid hm;have H0:=Lib.hid h0;clear ha hm h0;go_enter Tryz.func159,Tryz.ntmps159
 go_wp2_with fail
 refine (rdivmod_c a m _ HA.out HM.out H0.out).mono ?_;rintro e w1 ⟨rfl,hb1⟩;go_wp2;go_ret
 exact ⟨rfl,hb1⟩
theorem lt64 {n:Nat} (h:n<256^64):n<256^128:=Nat.lt_of_lt_of_le h (Nat.pow_le_pow_right (by decide) (by decide))
theorem mul_fit {a b m:Nat} (hm:m<256^64) (ha:a<m) (hb:b<m):a*b<256^128:=by
 have:(256:Nat)^128=256^64*256^64:=by rw [←Nat.pow_add]
 rw [this];exact Nat.mul_lt_mul'' (by omega) (by omega)
theorem rmod3v_c (a m y:Nat) (w:World) (ha:a<256^128) (hm:m<256^128) (h0:0<m) (hy:a%m=y) :
  Calls Tryz.prog 159 #[.string (E a),.string (E m)] w fun e w'=>e=.returned (.string (E y))∧Below w.heap.size w w':=by
 rw [←hy];exact rmod3_c a m w ha hm h0
theorem rofMM_c (y z m:Nat) (w:World) (h:y*z<256^8) (hm:y*z%m<256^8) :
  Calls Tryz.prog 62 #[.int .u64 ((IntKind.u64.wrap ((y:Int)*(z:Int))).tmod (m:Int))] w fun e w'=>e=.returned (.string (E (y*z%m)))∧Below w.heap.size w w':=by
 rw [←Int.natCast_mul,wrapU _ h,←Int.ofNat_tmod];exact rof_c _ w hm
theorem rtimes3_small (a b m y z:Nat) (w:World) (ha:a<256^128) (hb:b<256^128) (h0:0<m) (hs:m<2147483648) (hy:a%m=y) (hz:b%m=z) :
  Calls Tryz.prog 225 #[.string (E a),.string (E b),.string (E m)] w fun e w'=>e=.returned (.string (E (y*z%m)))∧Below w.heap.size w w':=by
 have hla:y<m:=by rw [←hy];exact Nat.mod_lt a h0
 have hlb:z<m:=by rw [←hz];exact Nat.mod_lt b h0
 have HA:=Lib.hid ha;have HB:=Lib.hid hb;have hm8:m<256^8:=Nat.lt_trans hs (by decide);have HM:=Lib.hid (lt128 hm8);have H0:=Lib.hid h0;have HM8:=Lib.hid hm8;have HA8:=Lib.hid (Nat.lt_trans hla hm8);have HB8:=Lib.hid (Nat.lt_trans hlb hm8);have hprod:y*z<256^8:=Nat.lt_of_lt_of_le (Nat.mul_lt_mul'' (Nat.lt_trans hla hs) (Nat.lt_trans hlb hs)) (by decide);have HPR:=Lib.hid hprod;have HPM:=Lib.hid (Nat.lt_of_le_of_lt (Nat.mod_le _ m) hprod);have HYY:=Lib.hid hy;have HZZ:=Lib.hid hz;have hdec:decide ((m:Int)<2147483648)=true:=by rw [decide_eq_true_iff];omega
 have hzb:((m:Int)==0)=false:=by rw [beq_eq_false_iff_ne];omega
 clear ha hb hla hlb hm8 hprod hs hy hz;go_enter Tryz.func225,Tryz.ntmps225
 go_wp2_with fail
 refine (rsmall_c m _ HM8.out).mono ?_;rintro e w' ⟨rfl,rfl⟩;go_wp2_with fail
 refine (rmod3v_c a m y _ HA.out HM.out H0.out HYY.out).mono ?_;rintro e w1 ⟨rfl,hb1⟩;clear hdec;go_wp2_with fail
 refine (rsmall_c y _ HA8.out).mono ?_;rintro e w' ⟨rfl,rfl⟩;go_wp2_with fail
 refine (rmod3v_c b m z _ HB.out HM.out H0.out HZZ.out).mono ?_;rintro e w2 ⟨rfl,hb2⟩;go_wp2_with fail
 refine (rsmall_c z _ HB8.out).mono ?_;rintro e w' ⟨rfl,rfl⟩;go_wp2_with fail
 refine (rofMM_c y z m _ HPR.out HPM.out).mono ?_;rintro e w3 ⟨rfl,hb3⟩;go_wp2;go_ret
 exact ⟨rfl,bt (bt hb1 hb2) hb3⟩
theorem rtimes3_mid (a b m y z:Nat) (w:World) (ha:a<256^128) (hb:b<256^128) (h0:0<m) (hs:¬ m<2147483648) (hm8:m<256^8) (hy:a%m=y) (hz:b%m=z) :
  Calls Tryz.prog 225 #[.string (E a),.string (E b),.string (E m)] w fun e w'=>e=.returned (.string (E (y*z%m)))∧Below w.heap.size w w':=by
 have hla:y<m:=by rw [←hy];exact Nat.mod_lt a h0
 have hlb:z<m:=by rw [←hz];exact Nat.mod_lt b h0
 have HA:=Lib.hid ha;have HB:=Lib.hid hb;have HM:=Lib.hid (lt128 hm8);have H0:=Lib.hid h0;have HM8:=Lib.hid hm8;have hm64:m<256^64:=Nat.lt_of_lt_of_le hm8 (Nat.pow_le_pow_right (by decide) (by decide));have HYB:=Lib.hid (Nat.lt_trans hla HM.out);have HZB:=Lib.hid (Nat.lt_trans hlb HM.out);have HPR:=Lib.hid (mul_fit hm64 hla hlb);have HYY:=Lib.hid hy;have HZZ:=Lib.hid hz;have hdec:decide ((m:Int)<2147483648)=false:=by rw [decide_eq_false_iff_not];omega
 clear ha hb h0 hla hlb hm8 hm64 hs hy hz;go_enter Tryz.func225,Tryz.ntmps225
 go_wp2_with fail
 refine (rsmall_c m _ HM8.out).mono ?_;rintro e w' ⟨rfl,rfl⟩;go_wp2_with fail
 refine (rmod3v_c a m y _ HA.out HM.out H0.out HYY.out).mono ?_;rintro e w1 ⟨rfl,hb1⟩;clear hdec;go_wp2_with fail
 refine (rmod3v_c b m z _ HB.out HM.out H0.out HZZ.out).mono ?_;rintro e w2 ⟨rfl,hb2⟩;go_wp2_with fail
 refine (rmul_c y z _ HYB.out HZB.out HPR.out).mono ?_;rintro e w3 ⟨rfl,hb3⟩;go_wp2_with fail
 refine (rmod3_c (y*z) m _ HPR.out HM.out H0.out).mono ?_;rintro e w4 ⟨rfl,hb4⟩;go_wp2;go_ret
 exact ⟨rfl,bt (bt (bt hb1 hb2) hb3) hb4⟩
theorem rtimes3_big (a b m y z:Nat) (w:World) (ha:a<256^128) (hb:b<256^128) (h0:0<m) (hm8:256^8≤m) (hm64:m<256^64) (hy:a%m=y) (hz:b%m=z) :
  Calls Tryz.prog 225 #[.string (E a),.string (E b),.string (E m)] w fun e w'=>e=.returned (.string (E (y*z%m)))∧Below w.heap.size w w':=by
 have hla:y<m:=by rw [←hy];exact Nat.mod_lt a h0
 have hlb:z<m:=by rw [←hz];exact Nat.mod_lt b h0
 have HA:=Lib.hid ha;have HB:=Lib.hid hb;have HM:=Lib.hid (lt64 hm64);have hsz:=sz m HM.out;have H0:=Lib.hid h0;have HM8:=Lib.hid hm8;have HYB:=Lib.hid (Nat.lt_trans hla HM.out);have HZB:=Lib.hid (Nat.lt_trans hlb HM.out);have HPR:=Lib.hid (mul_fit hm64 hla hlb);have HYY:=Lib.hid hy;have HZZ:=Lib.hid hz;clear ha hb h0 hla hlb hm8 hm64 hy hz;go_enter Tryz.func225,Tryz.ntmps225
 go_wp2_with fail
 refine (rsmall_no m _ HM8.out (by omega)).mono ?_;rintro e w' ⟨rfl,rfl⟩;go_wp2_with fail
 refine (rmod3v_c a m y _ HA.out HM.out H0.out HYY.out).mono ?_;rintro e w1 ⟨rfl,hb1⟩;go_wp2_with fail
 refine (rmod3v_c b m z _ HB.out HM.out H0.out HZZ.out).mono ?_;rintro e w2 ⟨rfl,hb2⟩;go_wp2_with fail
 refine (rmul_c y z _ HYB.out HZB.out HPR.out).mono ?_;rintro e w3 ⟨rfl,hb3⟩;go_wp2_with fail
 refine (rmod3_c (y*z) m _ HPR.out HM.out H0.out).mono ?_;rintro e w4 ⟨rfl,hb4⟩;go_wp2;go_ret
 exact ⟨rfl,bt (bt (bt hb1 hb2) hb3) hb4⟩
theorem rtimes3_c (a b m:Nat) (w:World) (ha:a<256^128) (hb:b<256^128) (hm:m<256^64) (h0:0<m) :
  Calls Tryz.prog 225 #[.string (E a),.string (E b),.string (E m)] w fun e w'=>e=.returned (.string (E (a*b%m)))∧Below w.heap.size w w':=by
 rw [Nat.mul_mod];by_cases hs:m<2147483648
 ·exact rtimes3_small a b m _ _ w ha hb h0 hs rfl rfl
 ·rcases Nat.lt_or_ge m (256^8) with h8 | h8
  ·exact rtimes3_mid a b m _ _ w ha hb h0 hs h8 rfl rfl
  ·exact rtimes3_big a b m _ _ w ha hb h0 h8 hm rfl rfl
theorem rmul3_c (a b m:Nat) (w:World) (ha:a<256^128) (hb:b<256^128) (hm:m<256^64) (h0:0<m) :
  Calls Tryz.prog 178 #[.string (E a),.string (E b),.string (E m)] w fun e w'=>e=.returned (.tuple #[.string (E (a*b%m)),.int .i64 0])∧Below w.heap.size w w':=by
 have HC:=Lib.hid (rcheck_c w.heap.size [a,b] m 22 (w.alloc (.cells #[.string (E a),.string (E b),.string (E m)] 22)) (by simp) (by simp [ha,hb]) (lt64 hm) (Blk.new _ _ _) h0);have HA:=Lib.hid ha;have HB:=Lib.hid hb;have HM:=Lib.hid hm;have H0:=Lib.hid h0;clear ha hb hm h0;go_enter Tryz.func178,Tryz.ntmps178
 go_wp2_with fail
 refine (HC.out).mono ?_;rintro e w' ⟨rfl,rfl⟩;go_wp2_with fail
 refine (rtimes3_c a b m _ HA.out HB.out HM.out H0.out).mono ?_;rintro e w1 ⟨rfl,hb1⟩;go_wp2;go_ret2
 exact ⟨rfl,bt (b1 _ _) hb1⟩
end
end Go.Proofs.YteahlbhjhjhljaaGreatDoor
