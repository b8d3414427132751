import Derived.Lib.SliceRun
import Derived.Lib.SlBuf
import Derived.Test.YtdgddpnjkinciaaGreatDoorRInt1
import Derived.Deep.DrawnRows
import Derived.Test.YtdgddpnjkinciaaGreatDoorRinb
import Derived.Deep.RegionLaw
import Derived.Laws.OwnMore
set_option linter.all false
set_option maxRecDepth 100000
set_option maxHeartbeats 16000000
namespace Go.Proofs.YtdgddpnjkinciaaGreatDoor
section
open Go.RowKit
theorem Blk.setCells {g:Nat} {T:TypeId}:∀(vs:List Value) (o:Nat) (w:World) (cs:List Value),Blk w g T cs→o+vs.length≤cs.length→Blk (w.setCells g o vs) g T (cs.take o++vs++cs.drop (o+vs.length))
 | [],o,w,cs,h,_=>by simpa [World.setCells] using h
 | v :: r,o,w,cs,h,hl=>by
  have h1:=h.set o v;simp only[List.length_cons]at hl;have h2:=Blk.setCells r (o+1) _ _ h1 (by simp;omega)
  have e1:(cs.set o v).take (o+1)=cs.take o++[v]:=by
   rw[List.take_succ_eq_append_getElem (by simp;omega),List.take_set_of_le (by omega),List.getElem_set_self]
  have e2:(cs.set o v).drop (o+1+r.length)=cs.drop (o+(v :: r).length):=by
   rw[List.drop_set_of_lt (by omega),List.length_cons,show o+1+r.length=o+(r.length+1) by omega]
  rw[e1,e2,List.append_assoc (cs.take o)]at h2;exact h2
theorem Blk.cleared {g:Nat} {T:TypeId} {w:World} {cs vs:List Value} (h:Blk w g T cs) (hl:vs.length=cs.length):Blk (w.setCells g 0 vs) g T vs:=by
 have:=Blk.setCells vs 0 w cs h (by omega);rw[Nat.zero_add,hl,List.drop_length]at this;simpa using this
theorem digw_c (s:ByteArray) (i:Nat) (w:World) (hs:s.size≤1000000) (h1:i≤1000000) :
  Calls Tryz.prog 149 #[.string s,.int .i64 (i:Int)] w fun e w'=>e=.returned (.int .i64 (dgt s i))∧w'=w:=
 (digit_c s i w (by omega) (by omega) (by omega)).mono fun _ _ h=>⟨by rw[h.1,Int.toNat_natCast],h.2.symm⟩
theorem product_nat (a b cb B:Nat) (w:World) (S0:List Nat) (h1:(E a).size≤128) (h2:(E b).size≤128) (hB:B≤cb) (hJ:S0.length=256) (hw:Blk w cb 190 (i64s S0)) :
  Calls Tryz.prog 141 #[.string (E a),.string (E b),.pointer (some ⟨cb,0,none⟩)] w fun e w'=>e=.returned (.string (E (a*b)))∧Below B w w':=by
 obtain⟨n,hn⟩:∃n:Nat,n=(E a).size+(E b).size:=⟨_,rfl⟩;have HN:Hid (((E a).size:Int)+((E b).size:Int)=(n:Int)):=by unfold Hid;omega
 have h5:=Kh hn;have HR:Hid (a*b<256^n):=by rw[hn];exact mul_lt_pow a b _ _ (E_lt a) (E_lt b)
 have h6:n≤256:=by omega
 have hW:(E a).size+(E b).size≤n:=by omega
 have hX:=hw.lt;obtain⟨zs,hy⟩:∃zs,zs=List.replicate 256 (Value.int .i64 0):=⟨_,rfl⟩
 have hY:∀ty,(Builtin.clear_ #[226] ty #[.slice (some ⟨cb,0,none⟩) 256 256]).run Tryz.prog w=.ok (.tuple #[]) (w.setCells cb 0 zs):=by
  rw[hy]
  exact
   fun ty=>Lib.run_clear_slice w _ _ ty _ Tryz.underlying226 Tryz.zeroValue3 rfl rfl cb 0 256 256 (by omega) (fun j hj=>by rw[Nat.zero_add,i64_cell hw j (by omega)];rfl) (fun j hj=>hw.free _)
 obtain⟨Z,hZ⟩:∃Z:List Nat,Z=List.replicate 256 0:=⟨_,rfl⟩
 have ho:Blk (w.setCells cb 0 zs) cb 190 (i64s Z):=by
  have:=hw.cleared (vs:=zs) (by rw[hy,List.length_replicate,i64s,List.length_map,hJ]);have e:zs=i64s Z:=by rw[hy,hZ,i64s,List.map_replicate];rfl
  rw[←e];exact this
 have hK:Below B w (w.setCells cb 0 zs):=Lib.below_setCells cb hB _ _ Br;have HZ:=Kh hZ;clear hn hJ hy hZ;go_enter Tryz.func141,Tryz.ntmps141
 go_wp2;clear hY;generalize w.setCells cb 0 zs=w1 at ho hK;have hL:=ho.lt;go_loopw [19] (fun x wr=>∃(i:Nat) (S:List Nat),i≤(E a).size∧x=.int .i64 i∧S.length=256∧wsum S=a%256^i*b∧ColB 65025 S i 0∧Blk wr cb 190 (i64s S)∧Below B w wr) (fun x _=>(E a).size-(intOf x).toNat)
 case atStart=>exact⟨0,Z,by omega,rfl,by rw[HZ.out,List.length_replicate],by rw[HZ.out,wsum_zeros,Nat.pow_zero,Nat.mod_one,Nat.zero_mul],by rw[HZ.out];exact ColB.zeros _ _,ho,hK⟩
 case round =>
  obtain⟨wo,rfl⟩:∃wo:World,wo=wr:=⟨_,rfl⟩;obtain⟨i,S,hi,rfl,hM,hS,hh,he,hp⟩:=hrel;have hD:=Kh hM;clear hM;have HS:=Kh hS;clear hS;by_cases hlt:i<(E a).size
  ·go_wp2_with fail
   refine (digw_c (E a) i _ (by omega) (by omega)).mono ?_;rintro e w' ⟨rfl,h7⟩;subst w';go_wp2;go_loopw [27] (fun x wr=>∃(k:Nat) (S:List Nat),k≤(E b).size∧x=.int .i64 k∧S.length=256∧wsum S=a%256^i*b+dgt (E a) i*256^i*(b%256^k)∧ColB 65025 S i (i+k)∧Blk wr cb 190 (i64s S)∧Below B w wr) (fun x _=>(E b).size-(intOf x).toNat)
   case atStart =>
    exact⟨0,S,by omega,rfl,hD.out,by rw[HS.out];simp[Nat.mod_one],by simpa using hh.start,he,hp⟩
   case round =>
    obtain⟨k,S',hk,rfl,hq,hN,hd,hb,hf⟩:=hrel;clear he hh;have ht:=Kh hq;have hO:=Kh hN;clear hN;by_cases hE:k<(E b).size
    ·have hz:i+k<S'.length:=by omega
     have hc:=i64_cell hb (i+k) hz;have h0:=hb.free (i+k);have hbd:=hd.at hz;have h8:=dgt_lt (E a) i;have h9:=dgt_lt (E b) k;have h3:i+k<256:=by omega
     clear hq;generalize hu:S'[i+k]=s0 at hc hbd;have hA:=Kh hu;clear hu;have hF:dgt (E a) i*dgt (E b) k≤65025:=Nat.le_trans (Nat.mul_le_mul (show _≤255 by omega) (show _≤255 by omega)) (by decide);have hP:(dgt (E a) i:Int)*(dgt (E b) k:Int)≤65025:=by rw[←Int.natCast_mul];omega
     have hQ:0≤(dgt (E a) i:Int)*(dgt (E b) k:Int):=by rw[←Int.natCast_mul];omega
     go_wp2;have q1:IntKind.i64.wrap ((i:Int)+(k:Int))=(i:Int)+(k:Int):=IntWalk.i64_in _ (by omega);have q2:((i:Int)+(k:Int)).toNat=i+k:=by omega
     have q3:0≤(i:Int)+(k:Int):=by omega
     have q4:(i:Int)+(k:Int)<256:=by omega
     have q5:IntKind.i64.wrap ((dgt (E a) i:Int)*(dgt (E b) k:Int))=(dgt (E a) i:Int)*(dgt (E b) k:Int):=IntWalk.i64_in _ (by omega);have q6:IntKind.i64.wrap ((s0:Int)+(dgt (E a) i:Int)*(dgt (E b) k:Int))=(s0:Int)+(dgt (E a) i:Int)*(dgt (E b) k:Int):=IntWalk.i64_in _ (by omega);refine wp_region_still_tail 15 (by kernel_rfl) (by kernel_rfl) ?_;simp only[List.take_succ_cons,List.take_zero,List.drop_succ_cons,List.drop_zero];repeat (first | still_step | (still_call (digw_c _ _ _ (by omega) (by omega))))
     refine wpStill_nil ?_;change wpList _ _ _ _ _ wr.drew
     clear q1 q2 q3 q4 q5 q6;go_wp2;go_roundw
     case rel =>
      refine⟨k+1,S'.set (i+k) (S'[i+k]+dgt (E a) i*dgt (E b) k),by omega,by go_num,by simpa using ht.out,?_,?_,?_,?_⟩
      ·rw[dgt_E b k];exact prod_step S' _ b i k _ hz hO.out
      ·exact hd.step hz hF
      ·have:=i64_set hb (i+k) (S'[i+k]+dgt (E a) i*dgt (E b) k);rw[hA.out,Int.natCast_add,Int.natCast_mul]at this;rw[hA.out];exact this
      ·exact (hf.setCell hB _).drew
     case measure=>simp[intOf];omega
    ·obtain rfl:k=(E b).size:=by omega
     go_wp2;go_roundw
     case rel =>
      refine⟨i+1,S',by omega,by go_num,ht.out,?_,hd.next,hb,hf⟩;rw[hO.out,dgt_E];exact prod_row a b i _ (E_lt b)
     case measure=>simp[intOf];omega
  ·obtain rfl:i=(E a).size:=by omega
   have hR:=run_mk (P:=Tryz.prog) Tryz.underlying137 info_u8 n (by omega) (by omega);rw[←HN.out]at hR;have h4:Hid (wsum S=a*b):=by rw[Hid,HS.out,Nat.mod_eq_of_lt (E_lt a)]
   obtain⟨Bo,hG⟩:∃Bo,Bo=wo.heap.size:=⟨_,rfl⟩;have hH:=Kh hG;have Ha:cb<Bo:=by rw[hG];exact he.lt
   have hl:B≤Bo:=by omega
   clear hG;go_wp2;clear hR;rw[HN.out];rw[←hH.out];go_loopw [12,55] (fun x i wr=>∃(k c:Nat) (t:List UInt8),k≤n∧c≤600000∧i=.int .i64 k∧x=.int .i64 c∧t.length=k∧val t+c*256^k=wsum (S.take k)∧Blk wr cb 190 (i64s S)∧Blk wr Bo 5 (u8s (List.replicate (n-k) 0++t))∧Below B w wr) (fun _ i _=>n-(intOf i).toNat)
   case atStart =>
    refine⟨0,0,[],by omega,by omega,rfl,rfl,rfl,by simp[val,wsum],he.alloc _,?_,hp.alloc (by rw[hH.out]at hl;exact hl) _⟩;have:=Blk.new wo (List.replicate n (Value.int .u8 0)).toArray 5;rw[←hH.out]at this;simpa [u8s,u8v] using this
   case round =>
    obtain⟨k,c,t,hk,hc,rfl,rfl,hT,hv,ho,hC,hg⟩:=hrel;have HV:=Kh hv;clear hv;have HL:=Kh hT;clear hT;by_cases hE:k<n
    ·have hI:k<S.length:=by rw[hD.out];omega
     have hm:=i64_cell ho k hI;have hbd:=hh.at hI;generalize hu:S[k]=s0 at hm hbd;have hA:=Kh hu;clear hu;have hU:=front_cell hC hE rfl;have h0:=hC.free (n-1-k);have hV:(k:Int)<256:=by omega
     have Hb:(0:Int)≤(k:Int):=by omega
     go_wp2;go_roundw
     case rel =>
      obtain⟨x,hx⟩:∃x,x=s0+c:=⟨_,rfl⟩;rw[byteI x _ (by omega)];refine⟨k+1,x / 256,UInt8.ofNat (x%256) :: t,by omega,by omega,by go_num,vi (by omega),by simp[HL.out],col_step S k c x t hI HL.out HV.out (by rw[hA.out];exact hx),ho.other _ _ (by simp;omega),front_set hC hE rfl _,hg.setCell hl _⟩
     case measure=>simp[intOf];omega
    ·obtain rfl:k=n:=by omega
     have hr:Row wr Bo 0 t:=by
      have:=hC.row;simpa using this
     have HE:=Kh (col_end k c (a*b) S t HL.out (by rw[hD.out];omega) HV.out h4.out HR.out);go_wp2_with fail
     have:=(trimmed_c Bo 0 k t wr (by rw[HL.out];omega) (by omega) hr);rw[HL.out,HE.out]at this;refine this.mono ?_;rintro e w' ⟨rfl,rfl⟩;go_wp2;go_ret
     exact⟨rfl,hg⟩
theorem small_big (a:Nat) (w:World) (ha:a<256^128) (h8:8<(E a).size) :
  Calls Tryz.prog 135 #[.string (E a)] w fun e w'=>e=.returned (.tuple #[.int .u64 0,.bool false])∧w=w':=by
 have HA:=Kh ha;have hs:=sz a ha;clear ha;go_enter Tryz.func135,Tryz.ntmps135
 go_wp2_with fail
 refine (validE_c a _ HA.out).mono ?_;rintro e w' ⟨rfl,rfl⟩;go_wp2;go_ret2
 exact⟨rfl,rfl⟩
def smN (a:Nat):Nat:=if (E a).size≤8 then a else 0
theorem smN_lt (a:Nat):smN a<256^8:=by
 unfold smN;split
 ·exact (E_size_le a 8).1 (by assumption)
 ·decide
theorem smallN_c (a:Nat) (w:World) (ha:a<256^128) :
  Calls Tryz.prog 135 #[.string (E a)] w fun e w'=>∃b,e=.returned (.tuple #[.int .u64 (smN a:Nat),.bool b])∧w'=w:=by
 by_cases h8:(E a).size≤8
 ·refine (small_c a w ((E_size_le a 8).1 h8)).mono fun _ _ h=>⟨true,?_,h.2.symm⟩
  rw[h.1,smN,if_pos h8]
 ·refine (small_big a w ha (by omega)).mono fun _ _ h=>⟨false,?_,h.2.symm⟩
  rw[h.1,smN,if_neg h8];rfl
theorem zero_cells:Tryz.zeroCells190=(i64s (List.replicate 256 0)).toArray:=by kernel_rfl
theorem zero_blk (w:World):Blk (w.alloc (.cells Tryz.zeroCells190 190)) w.heap.size 190 (i64s (List.replicate 256 0)):=by
 have:=Blk.new w Tryz.zeroCells190 190;rw[zero_cells]at this ⊢;exact this
theorem b1' (w:World) (o:Obj):Bw w (w.alloc o):=Br.alloc (Nat.le_refl _) o
theorem mul64G_c (x y:Nat) (w:World) (hx:x<256^8) (hy:y<256^8) :
  Calls Tryz.prog 139 #[.int .u64 x,.int .u64 y] w fun e w'=>e=.returned (.tuple #[.int .u64 ((x*y / 256^8:Nat):Int),.int .u64 ((x*y%256^8:Nat):Int)])∧w'=w:=by
 have e:(256^8:Nat)=18446744073709551616:=by decide
 rw[e]at hx hy ⊢;exact Tryz.bits_Mul64 x y hx hy w
theorem mul_c (a b:Nat) (w:World) (ha:a<256^128) (hb:b<256^128) (h:a*b<256^128) :
  Calls Tryz.prog 102 #[.string (E a),.string (E b)] w fun e w'=>e=.returned (.tuple #[.string (E (a*b)),.int .i64 0])∧Bw w w':=by
 by_cases hs:(a<256^8∧b<256^8)∧a*b<256^8
 ·exact mul_small a b w hs.1.1 hs.1.2 hs.2
 ·have h1:=sz a ha;have h2:=sz b hb;have HA:=Kh ha;have HB:=Kh hb;have hg:=Kh h;have HM:=Kh (fun w=>mul64G_c (smN a) (smN b) w (smN_lt a) (smN_lt b))
  have he:((E a).size≤8∧(E b).size≤8)→¬ smN a*smN b / 256^8=0:=by
   intro hc h0;rw[smN,smN,if_pos hc.1,if_pos hc.2]at h0
   have hlt:a*b<256^8:=by
    rcases Nat.lt_or_ge (a*b) (256^8) with h | h
    ·exact h
    ·have:=Nat.div_pos h (by decide);omega
   exact hs ⟨⟨(E_size_le a 8).1 hc.1,(E_size_le b 8).1 hc.2⟩,hlt⟩
  have hd:(∃z:Int,decide (((E a).size:Int)≤8)=false)∨(decide (((E a).size:Int)≤8)=true∧decide (((E b).size:Int)≤8)=false)∨(decide (((E a).size:Int)≤8)=true∧decide (((E b).size:Int)≤8)=true∧(((smN a*smN b / 256^8:Nat):Int)==0)=false):=by
   by_cases c1:(E a).size≤8
   ·by_cases c2:(E b).size≤8
    ·refine .inr (.inr ⟨Dt (by omega),Dt (by omega),?_⟩);rw[beq_eq_false_iff_ne];have:=he ⟨c1,c2⟩;omega
    ·exact .inr (.inl ⟨Dt (by omega),decide_eq_false (by omega)⟩)
   ·exact .inl ⟨0,decide_eq_false (by omega)⟩
  generalize (smN a*smN b / 256^8:Nat)=hi at HM hd;generalize (smN a*smN b%256^8:Nat)=lo at HM;clear hs he ha hb h;go_enter Tryz.func102,Tryz.ntmps102
  go_wp2_with fail
  refine (validE_c a _ HA.out).mono ?_;rintro e w' ⟨rfl,rfl⟩;go_wp2_with fail
  refine (validE_c b _ HB.out).mono ?_;rintro e w' ⟨rfl,rfl⟩;go_wp2_with fail
  refine (smallN_c a _ HA.out).mono ?_;rintro e w' ⟨b1,rfl,hf⟩;subst w';go_wp2_with fail
  refine (smallN_c b _ HB.out).mono ?_;rintro e w' ⟨b2,rfl,hf⟩;subst w';go_wp2_with fail
  refine (HM.out _).mono ?_;rintro e w' ⟨rfl,hf⟩;subst w';rcases hd with⟨_,k1⟩ | ⟨k1,k2⟩ | ⟨k1,k2,k3⟩
  all_goals
   go_wp2_with fail
   refine (product_nat a b w.heap.size w.heap.size (w.alloc (.cells Tryz.zeroCells190 190)) (List.replicate 256 0) (by omega) (by omega) (Nat.le_refl _) (List.length_replicate ..) (zero_blk w)).mono ?_;rintro e w2 ⟨rfl,hh⟩;go_wp2_with fail
   refine (fitting_c (a*b) _ hg.out).mono ?_;rintro e w' ⟨rfl,rfl⟩;go_wp2;go_ret2
   exact⟨rfl,(b1' w _).trans hh⟩
end
section
open Go.RowKit
def strs (l:List Nat):List Value:=l.map fun n=>Value.string (E n)
theorem strs_cell {w:World} {g:Nat} {T:TypeId} {l:List Nat} (h:Blk w g T (strs l)) (j:Nat) (hj:j<l.length):w.cell? ⟨g,j,none⟩=some (.string (E l[j])):=by
 rw[h.cell];simp[strs,hj]
theorem rcheck_c (b:Nat) (l:List Nat) (x:Nat) (T:TypeId) (w:World) (hl:l.length≤1000) (hv:∀n∈l,n<256^128) (hx:x<256^128) (hB:Blk w b T (strs (l++[x]))) (h0:0<x) :
  Calls Tryz.prog 146 #[.slice (some ⟨b,0,none⟩) (l.length+1) (l.length+1)] w fun e w'=>e=.returned (.int .i64 0)∧w=w':=by
 have HV:Hid (∀n∈l++[x],n<256^128):=by
  intro n hn;rcases List.mem_append.1 hn with h | h
  ·exact hv n h
  ·rw[List.mem_singleton]at h;rw[h];exact hx
 have hb:=strs_cell hB l.length (by simp);rw[List.getElem_concat_length (by rfl)]at hb;have hz:=nzE h0;clear hv hx h0;go_enter Tryz.func146,Tryz.ntmps146
 go_wp2;go_loop [3] (fun i=>∃k:Nat,k≤l.length+1∧i=.int .i64 k) (fun i=>l.length+1-(intOf i).toNat)
 case atStart=>exact⟨0,by omega,rfl⟩
 case round =>
  obtain⟨k,hk,rfl⟩:=hrel;by_cases hlt:k<l.length+1
  ·have hd:k<(l++[x]).length:=by simp;omega
   have hc:=strs_cell hB k hd;have HN:=Kh (HV.out _ (Gm hd));generalize (l++[x])[k]=n at hc HN;go_wp2_with fail
   refine (rvalidE_c n _ HN.out).mono ?_;rintro e w' ⟨rfl,rfl⟩;go_wp2;go_round
   case rel=>exact⟨k+1,by omega,by go_num⟩
   case measure=>simp[intOf];omega
  ·obtain rfl:k=l.length+1:=by omega
   go_wp2;go_ret
   exact⟨rfl,rfl⟩
theorem rmod3_c (a m:Nat) (w:World) (ha:a<256^128) (hm:m<256^128) (h0:0<m) :
  Calls Tryz.prog 189 #[.string (E a),.string (E m)] w fun e w'=>e=.returned (.string (E (a%m)))∧Bw w w':=by
 have HA:=Kh ha;have HM:=Kh hm;have H0:=Kh h0;clear ha hm h0;go_enter Tryz.func189,Tryz.ntmps189
 go_wp2_with fail
 refine (rdivmod_c a m _ HA.out HM.out H0.out).mono ?_;rintro e w1 ⟨rfl,hb⟩;go_wp2;go_ret
 exact⟨rfl,hb⟩
theorem lt64 {n:Nat} (h:n<256^64):n<256^128:=Nl h P8
theorem mul_fit {a b m:Nat} (hm:m<256^64) (ha:a<m) (hb:b<m):a*b<256^128:=by
 have:(256:Nat)^128=256^64*256^64:=by rw[←Nat.pow_add]
 rw[this];exact Nat.mul_lt_mul'' (by omega) (by omega)
theorem rmod3v_c (a m y:Nat) (w:World) (ha:a<256^128) (hm:m<256^128) (h0:0<m) (hy:a%m=y) :
  Calls Tryz.prog 189 #[.string (E a),.string (E m)] w fun e w'=>e=.returned (.string (E y))∧Bw w w':=by
 rw[←hy];exact rmod3_c a m w ha hm h0
theorem rofMM_c (y z m:Nat) (w:World) (h:y*z<256^8) (hm:y*z%m<256^8) :
  Calls Tryz.prog 28 #[.int .u64 ((IntKind.u64.wrap ((y:Int)*(z:Int))).tmod (m:Int))] w fun e w'=>e=.returned (.string (E (y*z%m)))∧Bw w w':=by
 rw[←Int.natCast_mul,wrapU _ h,←Int.ofNat_tmod];exact rof_c _ w hm
theorem rtimes3_small (a b m y z:Nat) (w:World) (ha:a<256^128) (hb:b<256^128) (h0:0<m) (hs:m<2147483648) (hy:a%m=y) (hz:b%m=z) :
  Calls Tryz.prog 147 #[.string (E a),.string (E b),.string (E m)] w fun e w'=>e=.returned (.string (E (y*z%m)))∧Bw w w':=by
 have he:y<m:=by rw[←hy];exact Nat.mod_lt a h0
 have hf:z<m:=by rw[←hz];exact Nat.mod_lt b h0
 have HA:=Kh ha;have HB:=Kh hb;have hd:m<256^8:=Nat.lt_trans hs (by decide);have HM:=Kh (lt128 hd);have H0:=Kh h0;have hh:=Kh hd;have hi:=Kh (Nat.lt_trans he hd);have hj:=Kh (Nat.lt_trans hf hd);have hc:y*z<256^8:=Nl (Nat.mul_lt_mul'' (Nat.lt_trans he hs) (Nat.lt_trans hf hs)) (by decide);have hk:=Kh hc;have hl:=Kh (Nat.lt_of_le_of_lt (Nat.mod_le _ m) hc);have hm:=Kh hy;have hn:=Kh hz;have hg:decide ((m:Int)<2147483648)=true:=by rw[decide_eq_true_iff];omega
 have hr:((m:Int)==0)=false:=by rw[beq_eq_false_iff_ne];omega
 clear ha hb he hf hd hc hs hy hz;go_enter Tryz.func147,Tryz.ntmps147
 go_wp2_with fail
 refine (rsmall_c m _ hh.out).mono ?_;rintro e w' ⟨rfl,rfl⟩;go_wp2_with fail
 refine (rmod3v_c a m y _ HA.out HM.out H0.out hm.out).mono ?_;rintro e w1 ⟨rfl,ho⟩;clear hg;go_wp2_with fail
 refine (rsmall_c y _ hi.out).mono ?_;rintro e w' ⟨rfl,rfl⟩;go_wp2_with fail
 refine (rmod3v_c b m z _ HB.out HM.out H0.out hn.out).mono ?_;rintro e w2 ⟨rfl,hp⟩;go_wp2_with fail
 refine (rsmall_c z _ hj.out).mono ?_;rintro e w' ⟨rfl,rfl⟩;go_wp2_with fail
 refine (rofMM_c y z m _ hk.out hl.out).mono ?_;rintro e w3 ⟨rfl,hq⟩;go_wp2;go_ret
 exact⟨rfl,bt (bt ho hp) hq⟩
theorem rtimes3_mid (a b m y z:Nat) (w:World) (ha:a<256^128) (hb:b<256^128) (h0:0<m) (hs:¬ m<2147483648) (hd:m<256^8) (hy:a%m=y) (hz:b%m=z) :
  Calls Tryz.prog 147 #[.string (E a),.string (E b),.string (E m)] w fun e w'=>e=.returned (.string (E (y*z%m)))∧Bw w w':=by
 have he:y<m:=by rw[←hy];exact Nat.mod_lt a h0
 have hf:z<m:=by rw[←hz];exact Nat.mod_lt b h0
 have HA:=Kh ha;have HB:=Kh hb;have HM:=Kh (lt128 hd);have H0:=Kh h0;have hi:=Kh hd;have hc:m<256^64:=Nl hd P8;have hj:=Kh (Nat.lt_trans he HM.out);have hk:=Kh (Nat.lt_trans hf HM.out);have hh:=Kh (mul_fit hc he hf);have hl:=Kh hy;have hm:=Kh hz;have hg:decide ((m:Int)<2147483648)=false:=by rw[decide_eq_false_iff_not];omega
 clear ha hb h0 he hf hd hc hs hy hz;go_enter Tryz.func147,Tryz.ntmps147
 go_wp2_with fail
 refine (rsmall_c m _ hi.out).mono ?_;rintro e w' ⟨rfl,rfl⟩;go_wp2_with fail
 refine (rmod3v_c a m y _ HA.out HM.out H0.out hl.out).mono ?_;rintro e w1 ⟨rfl,hn⟩;clear hg;go_wp2_with fail
 refine (rmod3v_c b m z _ HB.out HM.out H0.out hm.out).mono ?_;rintro e w2 ⟨rfl,ho⟩;go_wp2_with fail
 refine (rmul_c y z _ hj.out hk.out hh.out).mono ?_;rintro e w3 ⟨rfl,hp⟩;go_wp2_with fail
 refine (rmod3_c (y*z) m _ hh.out HM.out H0.out).mono ?_;rintro e w4 ⟨rfl,hb4⟩;go_wp2;go_ret
 exact⟨rfl,bt (bt (bt hn ho) hp) hb4⟩
theorem rtimes3_big (a b m y z:Nat) (w:World) (ha:a<256^128) (hb:b<256^128) (h0:0<m) (hf:256^8≤m) (hc:m<256^64) (hy:a%m=y) (hz:b%m=z) :
  Calls Tryz.prog 147 #[.string (E a),.string (E b),.string (E m)] w fun e w'=>e=.returned (.string (E (y*z%m)))∧Bw w w':=by
 have hd:y<m:=by rw[←hy];exact Nat.mod_lt a h0
 have he:z<m:=by rw[←hz];exact Nat.mod_lt b h0
 have HA:=Kh ha;have HB:=Kh hb;have HM:=Kh (lt64 hc);have hp:=sz m HM.out;have H0:=Kh h0;have hh:=Kh hf;have hi:=Kh (Nat.lt_trans hd HM.out);have hj:=Kh (Nat.lt_trans he HM.out);have hg:=Kh (mul_fit hc hd he);have hk:=Kh hy;have hl:=Kh hz;clear ha hb h0 hd he hf hc hy hz;go_enter Tryz.func147,Tryz.ntmps147
 go_wp2_with fail
 refine (rsmall_no m _ hh.out (by omega)).mono ?_;rintro e w' ⟨rfl,rfl⟩;go_wp2_with fail
 refine (rmod3v_c a m y _ HA.out HM.out H0.out hk.out).mono ?_;rintro e w1 ⟨rfl,hm⟩;go_wp2_with fail
 refine (rmod3v_c b m z _ HB.out HM.out H0.out hl.out).mono ?_;rintro e w2 ⟨rfl,hn⟩;go_wp2_with fail
 refine (rmul_c y z _ hi.out hj.out hg.out).mono ?_;rintro e w3 ⟨rfl,ho⟩;go_wp2_with fail
 refine (rmod3_c (y*z) m _ hg.out HM.out H0.out).mono ?_;rintro e w4 ⟨rfl,hb4⟩;go_wp2;go_ret
 exact⟨rfl,bt (bt (bt hm hn) ho) hb4⟩
theorem rtimes3_c (a b m:Nat) (w:World) (ha:a<256^128) (hb:b<256^128) (hm:m<256^64) (h0:0<m) :
  Calls Tryz.prog 147 #[.string (E a),.string (E b),.string (E m)] w fun e w'=>e=.returned (.string (E (a*b%m)))∧Bw w w':=by
 rw[Nat.mul_mod];by_cases hs:m<2147483648
 ·exact rtimes3_small a b m _ _ w ha hb h0 hs rfl rfl
 ·rcases Nat.lt_or_ge m (256^8) with h8 | h8
  ·exact rtimes3_mid a b m _ _ w ha hb h0 hs h8 rfl rfl
  ·exact rtimes3_big a b m _ _ w ha hb h0 h8 hm rfl rfl
theorem rmul3_c (a b m:Nat) (w:World) (ha:a<256^128) (hb:b<256^128) (hm:m<256^64) (h0:0<m) :
  Calls Tryz.prog 106 #[.string (E a),.string (E b),.string (E m)] w fun e w'=>e=.returned (.tuple #[.string (E (a*b%m)),.int .i64 0])∧Bw w w':=by
 have HC:=Kh (rcheck_c w.heap.size [a,b] m 22 (w.alloc (.cells #[.string (E a),.string (E b),.string (E m)] 22)) (by simp) (by simp[ha,hb]) (lt64 hm) (Blk.new _ _ _) h0);have HA:=Kh ha;have HB:=Kh hb;have HM:=Kh hm;have H0:=Kh h0;clear ha hb hm h0;go_enter Tryz.func106,Tryz.ntmps106
 go_wp2_with fail
 refine (HC.out).mono ?_;rintro e w' ⟨rfl,rfl⟩;go_wp2_with fail
 refine (rtimes3_c a b m _ HA.out HB.out HM.out H0.out).mono ?_;rintro e w1 ⟨rfl,hc⟩;go_wp2;go_ret2
 exact⟨rfl,bt (b1 _ _) hc⟩
end
section
open Go.RowKit Go.Shelf
def rr (x:Int) (n:Nat):Int:=bits .or .u32 (x / 2^n) (x*2^(32-n)%4294967296)
def u32f (f:Nat→Int) (n:Nat):List Value:=(List.range n).map fun j=>.int .u32 (f j)
theorem u32f_len (f:Nat→Int) (n:Nat):(u32f f n).length=n:=by simp[u32f]
theorem u32f_get (f:Nat→Int) {n j:Nat} (h:j<n):(u32f f n)[j]?=some (.int .u32 (f j)):=by simp[u32f,h]
theorem u32f_set (f:Nat→Int) {n i:Nat} (v:Int):(u32f f n).set i (.int .u32 v)=u32f (fun j=>if j=i then v else f j) n:=by
 refine List.ext_getElem? fun j=>?_
 rw[List.getElem?_set];by_cases e:i=j
 ·subst e;by_cases h:i<n
  ·rw[if_pos rfl,if_pos (by rw[u32f_len];exact h),u32f_get _ h,if_pos rfl]
  ·rw[if_pos rfl,if_neg (by rw[u32f_len];exact h),List.getElem?_eq_none (by rw[u32f_len];omega)]
 ·rw[if_neg e];by_cases h:j<n
  ·rw[u32f_get _ h,u32f_get _ h,if_neg (fun e'=>e e'.symm)]
  ·rw[List.getElem?_eq_none (by rw[u32f_len];omega),List.getElem?_eq_none (by rw[u32f_len];omega)]
def byt (s:ByteArray) (j:Nat):Nat:=(s.data.getD j 0).toNat
theorem byt_lt (s:ByteArray) (j:Nat):byt s j<256:=UInt8.toNat_lt _
def bigN (s:ByteArray) (o:Nat):Nat→Nat
 | 0=>0
 | m+1=>bigN s o m*256+byt s (o+m)
def sg0 (x:Int):Int:=bits .xor .u32 (bits .xor .u32 (rr x 7) (rr x 18)) (x / 8)
def sg1 (y:Int):Int:=bits .xor .u32 (bits .xor .u32 (rr y 17) (rr y 19)) (y / 1024)
def sW (s:ByteArray) (j:Nat):Int:=if j<16 then (bigN s (4*j) 4:Nat) else (sW s (j-16)+sg0 (sW s (j-15))+sW s (j-7)+sg1 (sW s (j-2)))%4294967296
termination_by j
theorem sW_lo (s:ByteArray) (j:Nat) (h:j<16):sW s j=(bigN s (4*j) 4:Nat):=by rw[sW,if_pos h]
theorem sW_hi (s:ByteArray) (j:Nat) (h:16≤j):sW s j=(sW s (j-16)+sg0 (sW s (j-15))+sW s (j-7)+sg1 (sW s (j-2)))%4294967296:=by rw[sW,if_neg (by omega)]
theorem Blk.drewH {w:World} {g:Nat} {T:TypeId} {cs:List Value} (h:Blk w g T cs):Blk w.drew g T cs:=h
theorem Blk.setv {w:World} {g k:Nat} {T:TypeId} {cs cs':List Value} {v v':Value} (h:Blk w g T cs) (e:v=v') (hc:cs.set k v'=cs'):Blk (w.setCell ⟨g,k,none⟩ v) g T cs':=by
 subst e hc;exact h.set k v
def sP (s:ByteArray) (k j:Nat):Int:=if j<k then sW s j else 0
def sQ (s:ByteArray) (k m j:Nat):Int:=if j<k then sW s j else if j=k then (bigN s (4*k) m:Nat) else 0
theorem u32f_congr {f g:Nat→Int} {n:Nat} (h:∀j,j<n→f j=g j):u32f f n=u32f g n:=by
 unfold u32f;refine List.map_congr_left fun j hj=>?_
 rw[h j (List.mem_range.1 hj)]
theorem sP_zero (s:ByteArray):u32f (fun _=>0) 64=u32f (sP s 0) 64:=u32f_congr fun j _=>by rw[sP,if_neg (by omega)]
theorem sQ_four (s:ByteArray) (k:Nat) (h:k<16):u32f (sQ s k 4) 64=u32f (sP s (k+1)) 64:=u32f_congr fun j _=>by
 rw[sP,sQ];by_cases h1:j<k
 ·rw[if_pos h1,if_pos (by omega)]
 ·rw[if_neg h1];by_cases h2:j=k
  ·subst h2;rw[if_pos rfl,if_pos (by omega),sW_lo s j h]
  ·rw[if_neg h2,if_neg (by omega)]
theorem sP_set (s:ByteArray) (k:Nat):(u32f (sP s k) 64).set k (.int .u32 (sW s k))=u32f (sP s (k+1)) 64:=by
 rw[u32f_set];refine u32f_congr fun j _=>?_
 unfold sP;by_cases h2:j=k
 ·subst h2;rw[if_pos rfl,if_pos (by omega)]
 ·rw[if_neg h2];by_cases h1:j<k
  ·rw[if_pos h1,if_pos (by omega)]
  ·rw[if_neg h1,if_neg (by omega)]
theorem sP_end (s:ByteArray):u32f (sP s 64) 64=u32f (sW s) 64:=u32f_congr fun j h=>by rw[sP,if_pos h]
theorem sP_at {w:World} {g:Nat} {T:TypeId} {s:ByteArray} {k j:Nat} (h:Blk w g T (u32f (sP s k) 64)) (hj:j<k) (hk:k≤64):w.cell? ⟨g,j,none⟩=some (.int .u32 (sW s j)):=by
 rw[h.cell,u32f_get _ (by omega),sP,if_pos hj]
end
end Go.Proofs.YtdgddpnjkinciaaGreatDoor
