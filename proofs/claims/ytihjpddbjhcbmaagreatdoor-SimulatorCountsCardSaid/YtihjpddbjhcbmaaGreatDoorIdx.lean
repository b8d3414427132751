import Derived.Lib.SliceRun
import Derived.Lib.SlBuf
import Derived.Test.YtihjpddbjhcbmaaGreatDoorMod1
set_option linter.unusedVariables false
set_option linter.unusedSimpArgs false
set_option maxRecDepth 100000
set_option maxHeartbeats 16000000
namespace Go.Proofs.YtihjpddbjhcbmaaGreatDoor
section
open Go.RowKit
theorem Blk.setCells {g:Nat} {T:TypeId}:∀(vs:List Value) (o:Nat) (w:World) (cs:List Value),Blk w g T cs→o+vs.length≤cs.length→Blk (w.setCells g o vs) g T (cs.take o++vs++cs.drop (o+vs.length))
 | [],o,w,cs,h,_=>by simpa [World.setCells] using h
 | v :: r,o,w,cs,h,hl=>by
  have h1:=h.set o v;simp only[List.length_cons]at hl;have h2:=Blk.setCells r (o+1) _ _ h1 (by simp;omega)
  have e1:(cs.set o v).take (o+1)=cs.take o++[v]:=by
   rw[List.take_succ_eq_append_getElem (by simp;omega),List.take_set_of_le (by omega),List.getElem_set_self]
  have e2:(cs.set o v).drop (o+1+r.length)=cs.drop (o+(v :: r).length):=by
   rw[List.drop_set_of_lt (by omega),List.length_cons,show o+1+r.length=o+(r.length+1) by omega]
  rw[e1,e2,List.append_assoc (cs.take o)]at h2;exact h2
theorem Blk.cleared {g:Nat} {T:TypeId} {w:World} {cs vs:List Value} (h:Blk w g T cs) (hl:vs.length=cs.length):Blk (w.setCells g 0 vs) g T vs:=by
 have:=Blk.setCells vs 0 w cs h (by omega);rw[Nat.zero_add,hl,List.drop_length]at this;simpa using this
theorem digw_c (s:ByteArray) (i:Nat) (w:World) (hs:s.size≤1000000) (h1:i≤1000000) :
  Calls Tryz.prog 262 #[.string s,.int .i64 (i:Int)] w fun e w'=>e=.returned (.int .i64 (dgt s i))∧w'=w:=
 (digit_c s i w (by omega) (by omega) (by omega)).mono fun _ _ h=>⟨by rw[h.1,Int.toNat_natCast],h.2.symm⟩
theorem product_nat (a b cb B:Nat) (w:World) (S0:List Nat) (h1:(E a).size≤128) (h2:(E b).size≤128) (hB:B≤cb) (hJ:S0.length=256) (hw:Blk w cb 290 (i64s S0)) :
  Calls Tryz.prog 275 #[.string (E a),.string (E b),.pointer (some ⟨cb,0,none⟩)] w fun e w'=>e=.returned (.string (E (a*b)))∧Below B w w':=by
 obtain⟨n,hn⟩:∃n:Nat,n=(E a).size+(E b).size:=⟨_,rfl⟩;have HN:Hid (((E a).size:Int)+((E b).size:Int)=(n:Int)):=by unfold Hid;omega
 have h5:=Kh hn;have HR:Hid (a*b<256^n):=by rw[hn];exact mul_lt_pow a b _ _ (E_lt a) (E_lt b)
 have h6:n≤256:=by omega
 have hW:(E a).size+(E b).size≤n:=by omega
 have hX:=hw.lt;obtain⟨zs,hy⟩:∃zs,zs=List.replicate 256 (Value.int .i64 0):=⟨_,rfl⟩
 have hY:∀ty,(Builtin.clear_ #[264] ty #[.slice (some ⟨cb,0,none⟩) 256 256]).run Tryz.prog w=.ok (.tuple #[]) (w.setCells cb 0 zs):=by
  rw[hy]
  exact
   fun ty=>Lib.run_clear_slice w _ _ ty _ Tryz.underlying264 Tryz.zeroValue3 rfl rfl cb 0 256 256 (by omega) (fun j hj=>by rw[Nat.zero_add,i64_cell hw j (by omega)];rfl) (fun j hj=>hw.free _)
 obtain⟨Z,hZ⟩:∃Z:List Nat,Z=List.replicate 256 0:=⟨_,rfl⟩
 have ho:Blk (w.setCells cb 0 zs) cb 290 (i64s Z):=by
  have:=hw.cleared (vs:=zs) (by rw[hy,List.length_replicate,i64s,List.length_map,hJ]);have e:zs=i64s Z:=by rw[hy,hZ,i64s,List.map_replicate];rfl
  rw[←e];exact this
 have hK:Below B w (w.setCells cb 0 zs):=Lib.below_setCells cb hB _ _ Br;have HZ:=Kh hZ;clear hn hJ hy hZ;go_enter Tryz.func275,Tryz.ntmps275
 go_wp2;clear hY;generalize w.setCells cb 0 zs=w1 at ho hK;have hL:=ho.lt;go_loopw [19] (fun x wr=>∃(i:Nat) (S:List Nat),i≤(E a).size∧x=.int .i64 i∧S.length=256∧wsum S=a%256^i*b∧ColB 65025 S i 0∧Blk wr cb 290 (i64s S)∧Below B w wr) (fun x _=>(E a).size-(intOf x).toNat)
 case atStart=>exact⟨0,Z,by omega,rfl,by rw[HZ.out,List.length_replicate],by rw[HZ.out,wsum_zeros,Nat.pow_zero,Nat.mod_one,Nat.zero_mul],by rw[HZ.out];exact ColB.zeros _ _,ho,hK⟩
 case round =>
  obtain⟨wo,rfl⟩:∃wo:World,wo=wr:=⟨_,rfl⟩;obtain⟨i,S,hi,rfl,hM,hS,hh,he,hp⟩:=hrel;have hD:=Kh hM;clear hM;have HS:=Kh hS;clear hS;by_cases hlt:i<(E a).size
  ·go_wp2_with fail
   refine (digw_c (E a) i _ (by omega) (by omega)).mono ?_;rintro e w' ⟨rfl,h7⟩;subst w';go_wp2;go_loopw [27] (fun x wr=>∃(k:Nat) (S:List Nat),k≤(E b).size∧x=.int .i64 k∧S.length=256∧wsum S=a%256^i*b+dgt (E a) i*256^i*(b%256^k)∧ColB 65025 S i (i+k)∧Blk wr cb 290 (i64s S)∧Below B w wr) (fun x _=>(E b).size-(intOf x).toNat)
   case atStart =>
    exact⟨0,S,by omega,rfl,hD.out,by rw[HS.out];simp[Nat.mod_one],by simpa using hh.start,he,hp⟩
   case round =>
    obtain⟨k,S',hk,rfl,hq,hN,hd,hb,hf⟩:=hrel;clear he hh;have ht:=Kh hq;have hO:=Kh hN;clear hN;by_cases hE:k<(E b).size
    ·have hz:i+k<S'.length:=by omega
     have hc:=i64_cell hb (i+k) hz;have h0:=hb.free (i+k);have hbd:=hd.at hz;have h8:=dgt_lt (E a) i;have h9:=dgt_lt (E b) k;have h3:i+k<256:=by omega
     clear hq;generalize hu:S'[i+k]=s0 at hc hbd;have hA:=Kh hu;clear hu;have hF:dgt (E a) i*dgt (E b) k≤65025:=Nat.le_trans (Nat.mul_le_mul (show _≤255 by omega) (show _≤255 by omega)) (by decide);have hP:(dgt (E a) i:Int)*(dgt (E b) k:Int)≤65025:=by rw[←Int.natCast_mul];omega
     have hQ:0≤(dgt (E a) i:Int)*(dgt (E b) k:Int):=by rw[←Int.natCast_mul];omega
     go_wp2;have q1:IntKind.i64.wrap ((i:Int)+(k:Int))=(i:Int)+(k:Int):=IntWalk.i64_in _ (by omega);have q2:((i:Int)+(k:Int)).toNat=i+k:=by omega
     have q3:0≤(i:Int)+(k:Int):=by omega
     have q4:(i:Int)+(k:Int)<256:=by omega
     have q5:IntKind.i64.wrap ((dgt (E a) i:Int)*(dgt (E b) k:Int))=(dgt (E a) i:Int)*(dgt (E b) k:Int):=IntWalk.i64_in _ (by omega);have q6:IntKind.i64.wrap ((s0:Int)+(dgt (E a) i:Int)*(dgt (E b) k:Int))=(s0:Int)+(dgt (E a) i:Int)*(dgt (E b) k:Int):=IntWalk.i64_in _ (by omega);refine wp_region_still_tail 15 (by kernel_rfl) (by kernel_rfl) ?_;simp only[List.take_succ_cons,List.take_zero,List.drop_succ_cons,List.drop_zero];repeat (first | still_step | (still_call (digw_c _ _ _ (by omega) (by omega))))
     refine wpStill_nil ?_;change wpList _ _ _ _ _ wr.drew
     clear q1 q2 q3 q4 q5 q6;go_wp2;go_roundw
     case rel =>
      refine⟨k+1,S'.set (i+k) (S'[i+k]+dgt (E a) i*dgt (E b) k),by omega,by go_num,by simpa using ht.out,?_,?_,?_,?_⟩
      ·rw[dgt_E b k];exact prod_step S' _ b i k _ hz hO.out
      ·exact hd.step hz hF
      ·have:=i64_set hb (i+k) (S'[i+k]+dgt (E a) i*dgt (E b) k);rw[hA.out,Int.natCast_add,Int.natCast_mul]at this;rw[hA.out];exact this
      ·exact (hf.setCell hB _).drew
     case measure=>simp[intOf];omega
    ·obtain rfl:k=(E b).size:=by omega
     go_wp2;go_roundw
     case rel =>
      refine⟨i+1,S',by omega,by go_num,ht.out,?_,hd.next,hb,hf⟩;rw[hO.out,dgt_E];exact prod_row a b i _ (E_lt b)
     case measure=>simp[intOf];omega
  ·obtain rfl:i=(E a).size:=by omega
   have hR:=run_mk (P:=Tryz.prog) Tryz.underlying177 info_u8 n (by omega) (by omega);rw[←HN.out]at hR;have h4:Hid (wsum S=a*b):=by rw[Hid,HS.out,Nat.mod_eq_of_lt (E_lt a)]
   obtain⟨Bo,hG⟩:∃Bo,Bo=wo.heap.size:=⟨_,rfl⟩;have hH:=Kh hG;have Ha:cb<Bo:=by rw[hG];exact he.lt
   have hl:B≤Bo:=by omega
   clear hG;go_wp2;clear hR;rw[HN.out];rw[←hH.out];go_loopw [12,55] (fun x i wr=>∃(k c:Nat) (t:List UInt8),k≤n∧c≤600000∧i=.int .i64 k∧x=.int .i64 c∧t.length=k∧val t+c*256^k=wsum (S.take k)∧Blk wr cb 290 (i64s S)∧Blk wr Bo 5 (u8s (List.replicate (n-k) 0++t))∧Below B w wr) (fun _ i _=>n-(intOf i).toNat)
   case atStart =>
    refine⟨0,0,[],by omega,by omega,rfl,rfl,rfl,by simp[val,wsum],he.alloc _,?_,hp.alloc (by rw[hH.out]at hl;exact hl) _⟩;have:=Blk.new wo (List.replicate n (Value.int .u8 0)).toArray 5;rw[←hH.out]at this;simpa [u8s,u8v] using this
   case round =>
    obtain⟨k,c,t,hk,hc,rfl,rfl,hT,hv,ho,hC,hg⟩:=hrel;have HV:=Kh hv;clear hv;have HL:=Kh hT;clear hT;by_cases hE:k<n
    ·have hI:k<S.length:=by rw[hD.out];omega
     have hm:=i64_cell ho k hI;have hbd:=hh.at hI;generalize hu:S[k]=s0 at hm hbd;have hA:=Kh hu;clear hu;have hU:=front_cell hC hE rfl;have h0:=hC.free (n-1-k);have hV:(k:Int)<256:=by omega
     have Hb:(0:Int)≤(k:Int):=by omega
     go_wp2;go_roundw
     case rel =>
      obtain⟨x,hx⟩:∃x,x=s0+c:=⟨_,rfl⟩;rw[byteI x _ (by omega)];refine⟨k+1,x / 256,UInt8.ofNat (x%256) :: t,by omega,by omega,by go_num,vi (by omega),by simp[HL.out],col_step S k c x t hI HL.out HV.out (by rw[hA.out];exact hx),ho.other _ _ (by simp;omega),front_set hC hE rfl _,hg.setCell hl _⟩
     case measure=>simp[intOf];omega
    ·obtain rfl:k=n:=by omega
     have hr:Row wr Bo 0 t:=by
      have:=hC.row;simpa using this
     have HE:=Kh (col_end k c (a*b) S t HL.out (by rw[hD.out];omega) HV.out h4.out HR.out);go_wp2_with fail
     have:=(trimmed_c Bo 0 k t wr (by rw[HL.out];omega) (by omega) hr);rw[HL.out,HE.out]at this;refine this.mono ?_;rintro e w' ⟨rfl,rfl⟩;go_wp2;go_ret
     exact⟨rfl,hg⟩
theorem small_big (a:Nat) (w:World) (ha:a<256^128) (h8:8<(E a).size) :
  Calls Tryz.prog 36 #[.string (E a)] w fun e w'=>e=.returned (.tuple #[.int .u64 0,.bool false])∧w=w':=by
 have HA:=Kh ha;have hs:=sz a ha;clear ha;go_enter Tryz.func36,Tryz.ntmps36
 go_wp2_with fail
 refine (validE_c a _ HA.out).mono ?_;rintro e w' ⟨rfl,rfl⟩;go_wp2;go_ret2
 exact⟨rfl,rfl⟩
def smN (a:Nat):Nat:=if (E a).size≤8 then a else 0
theorem smN_lt (a:Nat):smN a<256^8:=by
 unfold smN;split
 ·exact (E_size_le a 8).1 (by assumption)
 ·decide
theorem smallN_c (a:Nat) (w:World) (ha:a<256^128) :
  Calls Tryz.prog 36 #[.string (E a)] w fun e w'=>∃b,e=.returned (.tuple #[.int .u64 (smN a:Nat),.bool b])∧w'=w:=by
 by_cases h8:(E a).size≤8
 ·refine (small_c a w ((E_size_le a 8).1 h8)).mono fun _ _ h=>⟨true,?_,h.2.symm⟩
  rw[h.1,smN,if_pos h8]
 ·refine (small_big a w ha (by omega)).mono fun _ _ h=>⟨false,?_,h.2.symm⟩
  rw[h.1,smN,if_neg h8];rfl
theorem zero_cells:Tryz.zeroCells290=(i64s (List.replicate 256 0)).toArray:=by kernel_rfl
theorem zero_blk (w:World):Blk (w.alloc (.cells Tryz.zeroCells290 290)) w.heap.size 290 (i64s (List.replicate 256 0)):=by
 have:=Blk.new w Tryz.zeroCells290 290;rw[zero_cells]at this ⊢;exact this
theorem b1' (w:World) (o:Obj):Bw w (w.alloc o):=Br.alloc (Nat.le_refl _) o
theorem mul64G_c (x y:Nat) (w:World) (hx:x<256^8) (hy:y<256^8) :
  Calls Tryz.prog 274 #[.int .u64 x,.int .u64 y] w fun e w'=>e=.returned (.tuple #[.int .u64 ((x*y / 256^8:Nat):Int),.int .u64 ((x*y%256^8:Nat):Int)])∧w'=w:=by
 have e:(256^8:Nat)=18446744073709551616:=by decide
 rw[e]at hx hy ⊢;exact Tryz.bits_Mul64 x y hx hy w
theorem mul_c (a b:Nat) (w:World) (ha:a<256^128) (hb:b<256^128) (h:a*b<256^128) :
  Calls Tryz.prog 211 #[.string (E a),.string (E b)] w fun e w'=>e=.returned (.tuple #[.string (E (a*b)),.int .i64 0])∧Bw w w':=by
 by_cases hs:(a<256^8∧b<256^8)∧a*b<256^8
 ·exact mul_small a b w hs.1.1 hs.1.2 hs.2
 ·have h1:=sz a ha;have h2:=sz b hb;have HA:=Kh ha;have HB:=Kh hb;have hg:=Kh h;have HM:=Kh (fun w=>mul64G_c (smN a) (smN b) w (smN_lt a) (smN_lt b))
  have he:((E a).size≤8∧(E b).size≤8)→¬ smN a*smN b / 256^8=0:=by
   intro hc h0;rw[smN,smN,if_pos hc.1,if_pos hc.2]at h0
   have hlt:a*b<256^8:=by
    rcases Nat.lt_or_ge (a*b) (256^8) with h | h
    ·exact h
    ·have:=Nat.div_pos h (by decide);omega
   exact hs ⟨⟨(E_size_le a 8).1 hc.1,(E_size_le b 8).1 hc.2⟩,hlt⟩
  have hd:(∃z:Int,decide (((E a).size:Int)≤8)=false)∨(decide (((E a).size:Int)≤8)=true∧decide (((E b).size:Int)≤8)=false)∨(decide (((E a).size:Int)≤8)=true∧decide (((E b).size:Int)≤8)=true∧(((smN a*smN b / 256^8:Nat):Int)==0)=false):=by
   by_cases c1:(E a).size≤8
   ·by_cases c2:(E b).size≤8
    ·refine .inr (.inr ⟨Dt (by omega),Dt (by omega),?_⟩);rw[beq_eq_false_iff_ne];have:=he ⟨c1,c2⟩;omega
    ·exact .inr (.inl ⟨Dt (by omega),decide_eq_false (by omega)⟩)
   ·exact .inl ⟨0,decide_eq_false (by omega)⟩
  generalize (smN a*smN b / 256^8:Nat)=hi at HM hd;generalize (smN a*smN b%256^8:Nat)=lo at HM;clear hs he ha hb h;go_enter Tryz.func211,Tryz.ntmps211
  go_wp2_with fail
  refine (validE_c a _ HA.out).mono ?_;rintro e w' ⟨rfl,rfl⟩;go_wp2_with fail
  refine (validE_c b _ HB.out).mono ?_;rintro e w' ⟨rfl,rfl⟩;go_wp2_with fail
  refine (smallN_c a _ HA.out).mono ?_;rintro e w' ⟨b1,rfl,hf⟩;subst w';go_wp2_with fail
  refine (smallN_c b _ HB.out).mono ?_;rintro e w' ⟨b2,rfl,hf⟩;subst w';go_wp2_with fail
  refine (HM.out _).mono ?_;rintro e w' ⟨rfl,hf⟩;subst w';rcases hd with⟨_,k1⟩ | ⟨k1,k2⟩ | ⟨k1,k2,k3⟩
  all_goals
   go_wp2_with fail
   refine (product_nat a b w.heap.size w.heap.size (w.alloc (.cells Tryz.zeroCells290 290)) (List.replicate 256 0) (by omega) (by omega) (Nat.le_refl _) (List.length_replicate ..) (zero_blk w)).mono ?_;rintro e w2 ⟨rfl,hh⟩;go_wp2_with fail
   refine (fitting_c (a*b) _ hg.out).mono ?_;rintro e w' ⟨rfl,rfl⟩;go_wp2;go_ret2
   exact⟨rfl,(b1' w _).trans hh⟩
end
section
open Go.RowKit
def RAt {α:Type} (Q:World→α→List Value→Prop) (size:Nat) (w:World) (v:Value) (l:List α):Prop:=
 ∃ao c,v=.slice ao l.length c∧(l.length=0∨∃b o,ao=some ⟨b,o,none⟩∧b<w.heap.size∧∀j (h:j<l.length),∃cs,Q w l[j] cs∧∀i,i<size→w.cell? ⟨b,o+j*size+i,none⟩=cs[i]?)
theorem RAt.after {α:Type} {Q:World→α→List Value→Prop} {size:Nat} {w w':World} {v:Value} {l:List α} (h:RAt Q size w v l) (hb:Bw w w') (hQ:∀a cs,Q w a cs→Q w' a cs):RAt Q size w' v l:=by
 obtain⟨ao,c,rfl,h⟩:=h;refine⟨ao,c,rfl,?_⟩;rcases h with h | ⟨b,o,h1,h2,h3⟩
 ·exact .inl h
 ·refine .inr ⟨b,o,h1,Nl h2 hb.size,fun j hj=>?_⟩;obtain⟨cs,h4,h5⟩:=h3 j hj;exact⟨cs,hQ _ _ h4,fun i hi=>(hb.cell (p:=⟨b,o+j*size+i,none⟩) h2).trans (h5 i hi)⟩
theorem RAt.form {α:Type} {Q:World→α→List Value→Prop} {size:Nat} {w:World} {v:Value} {l:List α} (h:RAt Q size w v l):∃ao c,v=.slice ao l.length c:=by
 obtain⟨ao,c,h,_⟩:=h;exact⟨ao,c,h⟩
theorem RAt.at_ {α:Type} {Q:World→α→List Value→Prop} {size n c:Nat} {w:World} {ao:Option Addr} {l:List α} (h:RAt Q size w (.slice ao n c) l) {k:Nat} (hk:k<l.length) :
  ∃b o cs,ao=some ⟨b,o,none⟩∧b<w.heap.size∧Q w l[k] cs∧∀i,i<size→w.cell? ⟨b,o+k*size+i,none⟩=cs[i]?:=by
 obtain⟨ao',c',hv,h⟩:=h;injection hv with e1 e2 e3
 subst e1;rcases h with h | ⟨b,o,h1,h2,h3⟩
 ·omega
 ·obtain⟨cs,h4,h5⟩:=h3 k hk;exact⟨b,o,cs,h1,h2,h4,h5⟩
structure Trm where
 base:ByteArray
 var:Int
 neg:Bool
 abs:ByteArray
structure Eqn where
 grp:Int
 tgt:ByteArray
 trms:List Trm
structure Sta where
 grps:List (ByteArray × ByteArray)
 vars:List ByteArray
 eqs:List Eqn
def QStr (_:World) (s:ByteArray) (cs:List Value):Prop:=cs=[.string s]
def QGrp (_:World) (g:ByteArray × ByteArray) (cs:List Value):Prop:=cs=[.string g.1,.string g.2]
def QInt (_:World) (x:Bool × ByteArray) (cs:List Value):Prop:=cs=[.bool x.1,.string x.2]
def QTrm (_:World) (t:Trm) (cs:List Value):Prop:=cs=[.string t.base,.int .i64 t.var,.bool t.neg,.string t.abs]
def QEqn (w:World) (q:Eqn) (cs:List Value):Prop:=∃tv,cs=[.int .i64 q.grp,.string q.tgt,tv]∧RAt QTrm 4 w tv q.trms
def SsAt:=RAt QStr 1
def GsAt:=RAt QGrp 2
def IsAt:=RAt QInt 2
def TsAt:=RAt QTrm 4
def EsAt:=RAt QEqn 3
section
variable {w w':World} {v:Value}
theorem SsAt.after {l:List ByteArray} (h:SsAt w v l) (hb:Bw w w'):SsAt w' v l:=RAt.after h hb (fun _ _ h=>h)
theorem GsAt.after {l:List (ByteArray × ByteArray)} (h:GsAt w v l) (hb:Bw w w'):GsAt w' v l:=RAt.after h hb (fun _ _ h=>h)
theorem IsAt.after {l:List (Bool × ByteArray)} (h:IsAt w v l) (hb:Bw w w'):IsAt w' v l:=RAt.after h hb (fun _ _ h=>h)
theorem TsAt.after {l:List Trm} (h:TsAt w v l) (hb:Bw w w'):TsAt w' v l:=RAt.after h hb (fun _ _ h=>h)
theorem EsAt.after {l:List Eqn} (h:EsAt w v l) (hb:Bw w w'):EsAt w' v l:=
 RAt.after h hb (fun _ _ ⟨tv,h1,h2⟩=>⟨tv,h1,RAt.after h2 hb (fun _ _ h=>h)⟩)
end
section
variable {w:World} {ao:Option Addr} {n c k:Nat}
theorem SsAt.at_ {l:List ByteArray} (h:SsAt w (.slice ao n c) l) (hk:k<l.length):∃b o,ao=some ⟨b,o,none⟩∧b<w.heap.size∧w.cell? ⟨b,o+k,none⟩=some (.string l[k]):=by
 obtain⟨b,o,cs,h1,h2,h3,h4⟩:=RAt.at_ h hk;have:=h4 0 (by omega);rw[h3]at this;exact⟨b,o,h1,h2,by simpa using this⟩
theorem GsAt.at_ {l:List (ByteArray × ByteArray)} (h:GsAt w (.slice ao n c) l) (hk:k<l.length):∃b o,ao=some ⟨b,o,none⟩∧b<w.heap.size∧w.cell? ⟨b,o+k*2,none⟩=some (.string l[k].1)∧w.cell? ⟨b,o+k*2+1,none⟩=some (.string l[k].2):=by
 obtain⟨b,o,cs,h1,h2,h3,h4⟩:=RAt.at_ h hk;have e0:=h4 0 (by omega);have e1:=h4 1 (by omega);rw[h3]at e0 e1;exact⟨b,o,h1,h2,by simpa using e0,by simpa using e1⟩
theorem IsAt.at_ {l:List (Bool × ByteArray)} (h:IsAt w (.slice ao n c) l) (hk:k<l.length):∃b o,ao=some ⟨b,o,none⟩∧b<w.heap.size∧w.cell? ⟨b,o+k*2,none⟩=some (.bool l[k].1)∧w.cell? ⟨b,o+k*2+1,none⟩=some (.string l[k].2):=by
 obtain⟨b,o,cs,h1,h2,h3,h4⟩:=RAt.at_ h hk;have e0:=h4 0 (by omega);have e1:=h4 1 (by omega);rw[h3]at e0 e1;exact⟨b,o,h1,h2,by simpa using e0,by simpa using e1⟩
theorem TsAt.at_ {l:List Trm} (h:TsAt w (.slice ao n c) l) (hk:k<l.length):∃b o,ao=some ⟨b,o,none⟩∧b<w.heap.size∧w.cell? ⟨b,o+k*4,none⟩=some (.string l[k].base)∧w.cell? ⟨b,o+k*4+1,none⟩=some (.int .i64 l[k].var)∧w.cell? ⟨b,o+k*4+2,none⟩=some (.bool l[k].neg)∧w.cell? ⟨b,o+k*4+3,none⟩=some (.string l[k].abs):=by
 obtain⟨b,o,cs,h1,h2,h3,h4⟩:=RAt.at_ h hk;have e0:=h4 0 (by omega);have e1:=h4 1 (by omega);have e2:=h4 2 (by omega);have e3:=h4 3 (by omega);rw[h3]at e0 e1 e2 e3;exact⟨b,o,h1,h2,by simpa using e0,by simpa using e1,by simpa using e2,by simpa using e3⟩
theorem EsAt.at_ {l:List Eqn} (h:EsAt w (.slice ao n c) l) (hk:k<l.length):∃b o tv,ao=some ⟨b,o,none⟩∧b<w.heap.size∧w.cell? ⟨b,o+k*3,none⟩=some (.int .i64 l[k].grp)∧w.cell? ⟨b,o+k*3+1,none⟩=some (.string l[k].tgt)∧w.cell? ⟨b,o+k*3+2,none⟩=some tv∧TsAt w tv l[k].trms:=by
 obtain⟨b,o,cs,h1,h2,⟨tv,h3,h5⟩,h4⟩:=RAt.at_ h hk;have e0:=h4 0 (by omega);have e1:=h4 1 (by omega);have e2:=h4 2 (by omega);rw[h3]at e0 e1 e2;exact⟨b,o,tv,h1,h2,by simpa using e0,by simpa using e1,by simpa using e2,h5⟩
end
structure StAt (w:World) (v1 v2 v3:Value) (S:Sta):Prop where
 g:GsAt w v1 S.grps
 v:SsAt w v2 S.vars
 e:EsAt w v3 S.eqs
theorem StAt.after {w w':World} {v1 v2 v3:Value} {S:Sta} (h:StAt w v1 v2 v3 S) (hb:Bw w w'):StAt w' v1 v2 v3 S:=⟨h.g.after hb,h.v.after hb,h.e.after hb⟩
end
section
open Go.RowKit
theorem valB_c (s:ByteArray) (b:Bool) (w:World) (hs:s.size≤1000) (h:vldB s=b):Calls Tryz.prog 79 #[.string s] w fun e w'=>e=.returned (.bool b)∧w'=w:=by
 rw[←h];exact (valid_c s w (by omega)).mono fun _ _ h=>⟨h.1,h.2.symm⟩
theorem ivalB_c (n:Bool) (s:ByteArray) (b:Bool) (w:World) (hs:s.size≤1000) (h:ivB n s=b):Calls Tryz.prog 182 #[.agg #[.bool n,.string s]] w fun e w'=>e=.returned (.bool b)∧Bw w w':=by
 rw[←h];exact ivalid_c n s w (by omega)
def gokB (g:ByteArray × ByteArray):Bool:=vldB g.1&&vldB g.2
def tokB (nv:Nat) (t:Trm):Bool:=decide (0≤t.var)&&decide (t.var<(nv:Int))&&vldB t.base&&ivB t.neg t.abs
def eokB (ng nv:Nat) (q:Eqn):Bool:=decide (0≤q.grp)&&decide (q.grp<(ng:Int))&&vldB q.tgt&&q.trms.all (tokB nv)
def formB (S:Sta):Bool:=S.grps.all gokB&&S.vars.all vldB&&S.eqs.all (eokB S.grps.length S.vars.length)
structure SSm (S:Sta):Prop where
 ng:S.grps.length≤1000
 nv:S.vars.length≤1000
 ne:S.eqs.length≤1000
 g:∀x∈S.grps,x.1.size≤1000∧x.2.size≤1000
 v:∀x∈S.vars,x.size≤1000
 e:∀x∈S.eqs,x.tgt.size≤1000∧x.trms.length≤1000∧∀t∈x.trms,t.base.size≤1000∧t.abs.size≤1000
theorem all_take {α:Type} (p:α→Bool) (l:List α) (k:Nat) (h:k<l.length):(l.take (k+1)).all p=((l.take k).all p&&p l[k]):=by
 rw[List.take_succ_eq_append_getElem h,List.all_append];simp
theorem all_bad {α:Type} (p:α→Bool) (l:List α) (k:Nat) (h:k<l.length) (hb:p l[k]=false):l.all p=false:=by
 rw[List.all_eq_false];exact⟨l[k],Gm h,by simp[hb]⟩
theorem all_end {α:Type} (p:α→Bool) (l:List α) (k:Nat) (h:k=l.length) (hb:(l.take k).all p=true):l.all p=true:=by
 rw[h,List.take_length]at hb;exact hb
theorem form_c (S:Sta) (v1 v2 v3:Value) (w:World) (hm:SSm S) (hS:StAt w v1 v2 v3 S) :
  Calls Tryz.prog 205 #[.agg #[v1,v2,v3]] w fun e w'=>e=.returned (.int .i64 (if formB S then 0 else 3))∧Bw w w':=by
 obtain⟨r,hr⟩:∃r:Int,r=if formB S then 0 else 3:=⟨_,rfl⟩
 have hl:=Kh hr;rw[←hr];clear hr;obtain⟨a1,c1,rfl⟩:=hS.g.form;obtain⟨a2,c2,rfl⟩:=hS.v.form;obtain⟨a3,c3,rfl⟩:=hS.e.form;have HM:=Kh hm;obtain⟨n1,hD⟩:∃n,n=S.grps.length:=⟨_,rfl⟩;obtain⟨n2,hE⟩:∃n,n=S.vars.length:=⟨_,rfl⟩;obtain⟨n3,hF⟩:∃n,n=S.eqs.length:=⟨_,rfl⟩;have hG:=Kh hD;have hH:=Kh hE;have hT:=Kh hF;have l1:n1≤1000:=by rw[hD];exact hm.ng
 have l2:n2≤1000:=by rw[hE];exact hm.nv
 have l3:n3≤1000:=by rw[hF];exact hm.ne
 rw[←hD,←hE,←hF]at hS ⊢;clear hm hD hE hF;obtain⟨hP,hi⟩:=blk1 w #[.slice a1 n1 c1,.slice a2 n2 c2,.slice a3 n3 c3] 29;replace hS:=hS.after hi;obtain⟨hb,hc,hd,he,hf,hg⟩:=hP.x3;go_enter Tryz.func205,Tryz.ntmps205
 go_wp2;clear hb hc hd he hf hg;generalize w.alloc (.cells #[.slice a1 n1 c1,.slice a2 n2 c2,.slice a3 n3 c3] 29)=w1 at hP hi hS;replace hP:Blk w1 w.heap.size 29 [.slice a1 n1 c1,.slice a2 n2 c2,.slice a3 n3 c3]:=hP;go_loopw [14] (fun i wr=>∃k:Nat,k≤n1∧i=.int .i64 k∧Hid ((S.grps.take k).all gokB=true)∧Bw w1 wr) (fun i _=>n1-(intOf i).toNat)
 case atStart=>exact⟨0,by omega,rfl,rfl,Br⟩
 case round =>
  obtain⟨k,hk,rfl,HA,hn⟩:=hrel;obtain⟨wp,h2⟩:∃wp,wp=wr:=⟨_,rfl⟩;subst h2;replace hS:=hS.after hn;replace hP:=hP.after hn;replace hi:=bt hi hn;by_cases hlt:k<n1
  ·have ho:k<S.grps.length:=by rw[←hG.out];exact hlt
   have hp:=Kh (HM.out.g _ (Gm ho));have HT:=Kh (all_take gokB S.grps k ho);have hh:Hid (gokB S.grps[k]=false→formB S=false):=fun h=>by unfold formB;rw[all_bad gokB S.grps k ho h];rfl
   obtain⟨b,o,rfl,hU,x1,x2⟩:=hS.g.at_ ho;have HG:Hid (gokB S.grps[k]=(vldB S.grps[k].1&&vldB S.grps[k].2)):=rfl;generalize gokB (S.grps[k]'ho)=gk at HT hh HG;generalize (S.grps[k]'ho).1=s1 at x1 hp HG;generalize (S.grps[k]'ho).2=s2 at x2 hp HG;have hB:=Blk.new wp #[.string s1,.string s2] 86;have hV:(0:Int)≤(k:Int):=by omega
   have hW:(k:Int)<(n1:Int):=by omega
   cases hq:vldB s1
   ·have HF:Hid (formB S=false):=hh.out (by rw[HG.out,hq];rfl);go_wp2_with fail
    refine (valB_c s1 false _ hp.out.1 hq).mono ?_;rintro e w' ⟨rfl,ht⟩;subst w';go_wp2;go_ret
    exact⟨by rw[hl.out,HF.out];rfl,ba hi _⟩
   ·cases hI:vldB s2
    ·have HF:Hid (formB S=false):=hh.out (by rw[HG.out,hq,hI];rfl);go_wp2_with fail
     refine (valB_c s1 true _ hp.out.1 hq).mono ?_;rintro e w' ⟨rfl,ht⟩;subst w';go_wp2_with fail
     refine (valB_c s2 false _ hp.out.2 hI).mono ?_;rintro e w' ⟨rfl,ht⟩;subst w';go_wp2;go_ret
     exact⟨by rw[hl.out,HF.out];rfl,ba hi _⟩
    ·have HX:Hid ((S.grps.take (k+1)).all gokB=true):=by rw[Hid,HT.out,HA.out,HG.out,hq,hI];rfl
     go_wp2_with fail
     refine (valB_c s1 true _ hp.out.1 hq).mono ?_;rintro e w' ⟨rfl,ht⟩;subst w';go_wp2_with fail
     refine (valB_c s2 true _ hp.out.2 hI).mono ?_;rintro e w' ⟨rfl,ht⟩;subst w';go_wp2;go_roundw
     case rel=>exact⟨k+1,by omega,by go_num,HX,ba hn _⟩
     case measure=>simp[intOf];omega
  ·have HG:Hid (S.grps.all gokB=true):=all_end gokB S.grps k (by rw[←hG.out];omega) HA.out;clear hn;obtain⟨hb,hc,hd,he,hf,hg⟩:=hP.x3;go_wp2;clear hb hc hd he hf hg;go_loopw [32] (fun i wr=>∃k:Nat,k≤n2∧i=.int .i64 k∧Hid ((S.vars.take k).all vldB=true)∧Bw wp wr) (fun i _=>n2-(intOf i).toNat)
   case atStart=>exact⟨0,by omega,rfl,rfl,Br⟩
   case round =>
    clear HA hlt hk;obtain⟨k,hk,rfl,HA,hn⟩:=hrel;obtain⟨wq,h3⟩:∃wq,wq=wr:=⟨_,rfl⟩;subst h3;replace hS:=hS.after hn;replace hP:=hP.after hn;replace hi:=bt hi hn;by_cases hlt:k<n2
    ·have ho:k<S.vars.length:=by rw[←hH.out];exact hlt
     have hp:=Kh (HM.out.v _ (Gm ho));have HT:=Kh (all_take vldB S.vars k ho);have hh:Hid (vldB S.vars[k]=false→formB S=false):=fun h=>by unfold formB;rw[all_bad vldB S.vars k ho h];simp
     obtain⟨b,o,rfl,hU,x1⟩:=hS.v.at_ ho;generalize S.vars[k]'ho=s1 at x1 hp HT hh;have hB:=Blk.new wq #[.string s1] 71;have hV:(0:Int)≤(k:Int):=by omega
     have hW:(k:Int)<(n2:Int):=by omega
     cases hq:vldB s1
     ·have HF:Hid (formB S=false):=hh.out hq;go_wp2_with fail
      refine (valB_c s1 false _ hp.out hq).mono ?_;rintro e w' ⟨rfl,ht⟩;subst w';go_wp2;go_ret
      exact⟨by rw[hl.out,HF.out];rfl,ba hi _⟩
     ·have HX:Hid ((S.vars.take (k+1)).all vldB=true):=by rw[Hid,HT.out,HA.out,hq];rfl
      go_wp2_with fail
      refine (valB_c s1 true _ hp.out hq).mono ?_;rintro e w' ⟨rfl,ht⟩;subst w';go_wp2;go_roundw
      case rel=>exact⟨k+1,by omega,by go_num,HX,ba hn _⟩
      case measure=>simp[intOf];omega
    ·have HV:Hid (S.vars.all vldB=true):=all_end vldB S.vars k (by rw[←hH.out];omega) HA.out;clear hn;obtain⟨hb,hc,hd,he,hf,hg⟩:=hP.x3;go_wp2;clear hb hc hd he hf hg;clear HA hlt hk;go_loopw [44] (fun i wr=>∃k:Nat,k≤n3∧i=.int .i64 k∧Hid ((S.eqs.take k).all (eokB n1 n2)=true)∧Bw wq wr) (fun i _=>n3-(intOf i).toNat)
     case atStart=>exact⟨0,by omega,rfl,rfl,Br⟩
     case round =>
      obtain⟨k,hk,rfl,HA,hn⟩:=hrel;obtain⟨wt,h4⟩:∃wt,wt=wr:=⟨_,rfl⟩;subst h4;replace hS:=hS.after hn;replace hP:=hP.after hn;replace hi:=bt hi hn;by_cases hlt:k<n3
      ·have ho:k<S.eqs.length:=by rw[←hT.out];exact hlt
       have hp:=Kh (HM.out.e _ (Gm ho));have HT:=Kh (all_take (eokB n1 n2) S.eqs k ho);have hh:Hid (eokB n1 n2 S.eqs[k]=false→formB S=false):=fun h=>by unfold formB;rw[←hG.out,←hH.out,all_bad (eokB n1 n2) S.eqs k ho h];simp
       obtain⟨b,o,tv,rfl,hU,x1,x2,x3,hu⟩:=hS.e.at_ ho;generalize S.eqs[k]'ho=q at x1 x2 x3 hu hp HT hh;obtain⟨qg,qt,qs⟩:=q;simp only[]at x1 x2 x3 hu;obtain⟨to_,tc,rfl⟩:=RAt.form hu;obtain⟨n4,hK⟩:∃n,n=qs.length:=⟨_,rfl⟩;have hL:=Kh hK;rw[←hK]at x3 hu;clear hK;have hB:=Blk.new wt #[.int .i64 qg,.string qt,.slice to_ n4 tc] 131;have hV:(0:Int)≤(k:Int):=by omega
       have hW:(k:Int)<(n3:Int):=by omega
       have Ha:=hP.lt;have HQ:Hid (eokB n1 n2 ⟨qg,qt,qs⟩=(decide (0≤qg)&&decide (qg<(n1:Int))&&vldB qt&&qs.all (tokB n2))):=rfl;generalize eokB n1 n2 ⟨qg,qt,qs⟩=ek at HT hh HQ;cases hX:decide (qg<0)
       ·cases hY:decide ((n1:Int)≤qg)
        ·have hx1:decide (0≤qg)=true:=Dt (by have:=of_decide_eq_false hX;omega);have hZ:decide (qg<(n1:Int))=true:=Dt (by have:=of_decide_eq_false hY;omega);cases hv:vldB qt
         ·have HF:Hid (formB S=false):=hh.out (by rw[HQ.out,hv,hx1,hZ];rfl);obtain⟨hb,hc,hd,he,hf,hg⟩:=hP.x3;go_wp2_with fail
          refine (valB_c qt false _ hp.out.1 hv).mono ?_;rintro e w' ⟨rfl,ht⟩;subst w';go_wp2;go_ret
          exact⟨by rw[hl.out,HF.out];rfl,ba hi _⟩
         ·have h5:=hP.lt;obtain⟨hb,hc,hd,he,hf,hg⟩:=hP.x3;go_wp2_with fail
          refine (valB_c qt true _ hp.out.1 hv).mono ?_;rintro e w' ⟨rfl,ht⟩;subst w';go_wp2;clear hb hc hd he hf hg;replace hP:=hP.alloc (.cells #[.int .i64 qg,.string qt,.slice to_ n4 tc] 131);replace hu:=TsAt.after hu (b1 _ (.cells #[.int .i64 qg,.string qt,.slice to_ n4 tc] 131));replace hi:=ba hi (.cells #[.int .i64 qg,.string qt,.slice to_ n4 tc] 131);replace hn:=ba hn (.cells #[.int .i64 qg,.string qt,.slice to_ n4 tc] 131);have l4:n4≤1000:=by rw[hL.out];exact hp.out.2.1
          generalize wt.alloc (.cells #[.int .i64 qg,.string qt,.slice to_ n4 tc] 131)=wu at hP hu hi hn;clear hB hS;go_loopw [68] (fun i wr=>∃k:Nat,k≤n4∧i=.int .i64 k∧Hid ((qs.take k).all (tokB n2)=true)∧Bw wu wr) (fun i _=>n4-(intOf i).toNat)
          case atStart=>exact⟨0,by omega,rfl,rfl,Br⟩
          case round =>
           obtain⟨j,hj,rfl,HJ,hA⟩:=hrel;obtain⟨wv,h6⟩:∃wv,wv=wr:=⟨_,rfl⟩;subst h6;replace hP:=hP.after hA;replace hu:=TsAt.after hu hA;replace hi:=bt hi hA;by_cases hM:j<n4
           ·have hC:j<qs.length:=by rw[←hL.out];exact hM
            have hw:=Kh (hp.out.2.2 _ (Gm hC));have hN:=Kh (all_take (tokB n2) qs j hC);have hx:Hid (tokB n2 qs[j]=false→formB S=false):=fun h=>hh.out (by rw[HQ.out,all_bad (tokB n2) qs j hC h];simp)
            obtain⟨b4,o4,rfl,h7,y1,y2,y3,y4⟩:=TsAt.at_ hu hC;generalize qs[j]'hC=t at y1 y2 y3 y4 hw hN hx;obtain⟨tb,tv,tn,ta⟩:=t;simp only[]at y1 y2 y3 y4;have Hb:=Blk.new wv #[.string tb,.int .i64 tv,.bool tn,.string ta] 133;have Hc:(0:Int)≤(j:Int):=by omega
            have Hd:(j:Int)<(n4:Int):=by omega
            have h8:=hP.lt;have hy:Hid (tokB n2 ⟨tb,tv,tn,ta⟩=(decide (0≤tv)&&decide (tv<(n2:Int))&&vldB tb&&ivB tn ta)):=rfl;generalize tokB n2 ⟨tb,tv,tn,ta⟩=tk at hN hx hy;cases h0:decide (tv<0)
            ·cases h1:decide ((n2:Int)≤tv)
             ·have hO:decide (0≤tv)=true:=Dt (by have:=of_decide_eq_false h0;omega);have hQ:decide (tv<(n2:Int))=true:=Dt (by have:=of_decide_eq_false h1;omega);cases hz:vldB tb
              ·have HF:Hid (formB S=false):=hx.out (by rw[hy.out,hz,hO,hQ];rfl);obtain⟨hb,hc,hd,he,hf,hg⟩:=hP.x3;go_wp2_with fail
               refine (valB_c tb false _ hw.out.1 hz).mono ?_;rintro e w' ⟨rfl,ht⟩;subst w';go_wp2;go_ret
               exact⟨by rw[hl.out,HF.out];rfl,ba hi _⟩
              ·cases hJ:ivB tn ta
               ·have HF:Hid (formB S=false):=hx.out (by rw[hy.out,hz,hO,hQ,hJ];rfl);obtain⟨hb,hc,hd,he,hf,hg⟩:=hP.x3;go_wp2_with fail
                refine (valB_c tb true _ hw.out.1 hz).mono ?_;rintro e w' ⟨rfl,ht⟩;subst w';go_wp2_with fail
                refine (ivalB_c tn ta false _ hw.out.2 hJ).mono ?_;rintro e w7 ⟨rfl,hR⟩;go_wp2;go_ret
                exact⟨by rw[hl.out,HF.out];rfl,bt (ba hi _) hR⟩
               ·have HX:Hid ((qs.take (j+1)).all (tokB n2)=true):=by rw[Hid,hN.out,HJ.out,hy.out,hz,hO,hQ,hJ];rfl
                obtain⟨hb,hc,hd,he,hf,hg⟩:=hP.x3;go_wp2_with fail
                refine (valB_c tb true _ hw.out.1 hz).mono ?_;rintro e w' ⟨rfl,ht⟩;subst w';go_wp2_with fail
                refine (ivalB_c tn ta true _ hw.out.2 hJ).mono ?_;rintro e w7 ⟨rfl,hR⟩;go_wp2;go_roundw
                case rel=>exact⟨j+1,by omega,by go_num,HX,bt (ba hA _) hR⟩
                case measure=>simp[intOf];omega
             ·have HF:Hid (formB S=false):=hx.out (by rw[hy.out,decide_eq_false (show ¬ tv<(n2:Int) by have:=of_decide_eq_true h1;omega)];simp);obtain⟨hb,hc,hd,he,hf,hg⟩:=hP.x3;go_wp2;go_ret
              exact⟨by rw[hl.out,HF.out];rfl,ba hi _⟩
            ·have HF:Hid (formB S=false):=hx.out (by rw[hy.out,decide_eq_false (show ¬ 0≤tv by have:=of_decide_eq_true h0;omega)];simp);obtain⟨hb,hc,hd,he,hf,hg⟩:=hP.x3;go_wp2;go_ret
             exact⟨by rw[hl.out,HF.out];rfl,ba hi _⟩
           ·have h9:Hid (qs.all (tokB n2)=true):=all_end (tokB n2) qs j (by rw[←hL.out];omega) HJ.out;have HX:Hid ((S.eqs.take (k+1)).all (eokB n1 n2)=true):=by rw[Hid,HT.out,HA.out,HQ.out,hv,hx1,hZ,h9.out];rfl
            go_wp2;go_roundw
            case rel=>exact⟨k+1,by omega,by go_num,HX,bt hn hA⟩
            case measure=>simp[intOf];omega
        ·have HF:Hid (formB S=false):=hh.out (by rw[HQ.out,decide_eq_false (show ¬ qg<(n1:Int) by have:=of_decide_eq_true hY;omega)];simp);obtain⟨hb,hc,hd,he,hf,hg⟩:=hP.x3;go_wp2;go_ret
         exact⟨by rw[hl.out,HF.out];rfl,ba hi _⟩
       ·have HF:Hid (formB S=false):=hh.out (by rw[HQ.out,decide_eq_false (show ¬ 0≤qg by have:=of_decide_eq_true hX;omega)];simp);obtain⟨hb,hc,hd,he,hf,hg⟩:=hP.x3;go_wp2;go_ret
        exact⟨by rw[hl.out,HF.out];rfl,ba hi _⟩
      ·have HE:Hid (S.eqs.all (eokB n1 n2)=true):=all_end (eokB n1 n2) S.eqs k (by rw[←hT.out];omega) HA.out;have HF:Hid (formB S=true):=by unfold Hid formB;rw[HG.out,HV.out,←hG.out,←hH.out,HE.out];rfl
       go_wp2;go_ret
       exact⟨by rw[hl.out,HF.out];rfl,hi⟩
end
section
open Go.RowKit
structure NTrm where
 base:Nat
 var:Nat
 coef:Int
structure NEqn where
 grp:Nat
 tgt:Nat
 trms:List NTrm
structure NSta where
 grps:List (Nat × Nat)
 vars:List Nat
 eqs:List NEqn
def NTrm.t (x:NTrm):Trm:=⟨E x.base,(x.var:Int),sg x.coef,E x.coef.natAbs⟩
def NEqn.q (x:NEqn):Eqn:=⟨(x.grp:Int),E x.tgt,x.trms.map NTrm.t⟩
def gE (g:Nat × Nat):ByteArray × ByteArray:=(E g.1,E g.2)
def NSta.s (x:NSta):Sta:=⟨x.grps.map gE,x.vars.map E,x.eqs.map NEqn.q⟩
def gszB (g:ByteArray × ByteArray):Bool:=decide (g.1.size≤8)&&decide (g.2.size≤8)
def tszB (t:Trm):Bool:=decide (t.base.size≤16)&&decide (t.abs.size≤16)
def eszB (q:Eqn):Bool:=decide (q.trms.length≤12)&&decide (q.tgt.size≤16)&&q.trms.all tszB
def vszB (s:ByteArray):Bool:=decide (s.size≤16)
def fewB (S:Sta):Bool:=decide (S.grps.length≤10)&&decide (S.vars.length≤12)&&decide (S.eqs.length≤12)&&S.grps.all gszB&&S.vars.all vszB&&S.eqs.all eszB
structure NOk (N:NSta):Prop where
 ng:N.grps.length≤10
 nv:N.vars.length≤12
 ne:N.eqs.length≤12
 g:∀x∈N.grps,x.1<256^8∧x.2<256^8
 v:∀x∈N.vars,x<256^16
 e:∀q∈N.eqs,q.grp<N.grps.length∧q.tgt<256^16∧q.trms.length≤12∧∀t∈q.trms,t.base<256^16∧t.var<N.vars.length∧t.coef.natAbs<256^16
theorem list_lift {α β:Type} (f:β→α) (P:β→Prop):∀(l:List α),(∀x∈l,∃y,f y=x∧P y)→∃l':List β,l'.map f=l∧∀y∈l',P y
 | [],_=>⟨[],rfl,fun y h=>by cases h⟩
 | x :: t,h=>by
  obtain⟨y,h1,h2⟩:=h x (List.mem_cons_self ..);obtain⟨l,h3,h4⟩:=list_lift f P t (fun z hz=>h z (List.mem_cons_of_mem _ hz));refine⟨y :: l,by rw[List.map_cons,h1,h3],fun z hz=>?_⟩;rcases List.mem_cons.1 hz with h | h
  ·rw[h];exact h2
  ·exact h4 z h
theorem lt_of_size {n k:Nat} (h:(E n).size≤k):n<256^k:=(E_size_le n k).1 h
theorem trm_num (nv:Nat) (t:Trm) (h1:tokB nv t=true) (h2:tszB t=true):∃y:NTrm,y.t=t∧(y.base<256^16∧y.var<nv∧y.coef.natAbs<256^16):=by
 obtain⟨tb,tv,tn,ta⟩:=t;simp only[tokB,tszB,Bool.and_eq_true,decide_eq_true_eq]at h1 h2;obtain⟨⟨⟨h0,hlt⟩,hb⟩,hi⟩:=h1;obtain⟨b,_,rfl⟩:=of_vldB hb;obtain⟨z,_,rfl,rfl⟩:=of_ivB hi;obtain⟨v,rfl⟩:=Int.eq_ofNat_of_zero_le h0;exact⟨⟨b,v,z⟩,rfl,lt_of_size h2.1,Int.ofNat_lt.1 hlt,lt_of_size h2.2⟩
theorem eqn_num (ng nv:Nat) (q:Eqn) (h1:eokB ng nv q=true) (h2:eszB q=true):∃y:NEqn,y.q=q∧(y.grp<ng∧y.tgt<256^16∧y.trms.length≤12∧∀t∈y.trms,t.base<256^16∧t.var<nv∧t.coef.natAbs<256^16):=by
 obtain⟨qg,qt,qs⟩:=q;simp only[eokB,eszB,Bool.and_eq_true,decide_eq_true_eq,List.all_eq_true]at h1 h2;obtain⟨⟨⟨h0,hlt⟩,hb⟩,hi⟩:=h1;obtain⟨b,_,rfl⟩:=of_vldB hb;obtain⟨g,rfl⟩:=Int.eq_ofNat_of_zero_le h0;obtain⟨l,hl,hp⟩:=list_lift NTrm.t (fun y=>y.base<256^16∧y.var<nv∧y.coef.natAbs<256^16) qs (fun t ht=>trm_num nv t (hi t ht) (h2.2 t ht));refine⟨⟨g,b,l⟩,by rw[NEqn.q,hl],Int.ofNat_lt.1 hlt,lt_of_size h2.1.2,?_,hp⟩;have:(l.map NTrm.t).length≤12:=by rw[hl];exact Nat.le_trans h2.1.1 (by decide)
 simpa using this
theorem to_num (S:Sta) (h1:formB S=true) (h2:fewB S=true):∃N:NSta,N.s=S∧NOk N:=by
 obtain⟨gs,vs,es⟩:=S;simp only[formB,fewB,Bool.and_eq_true,decide_eq_true_eq,List.all_eq_true]at h1 h2;obtain⟨⟨⟨⟨⟨l1,l2⟩,l3⟩,hg⟩,hv⟩,he⟩:=h2;obtain⟨⟨kg,kv⟩,ke⟩:=h1
 obtain⟨G,hG,pG⟩:=list_lift gE (fun x=>x.1<256^8∧x.2<256^8) gs (fun x hx=>by
  have h3:=kg x hx;have h4:=hg x hx;simp only[gokB,gszB,Bool.and_eq_true,decide_eq_true_eq]at h3 h4;obtain⟨a,b⟩:=x;obtain⟨m,_,rfl⟩:=of_vldB h3.1;obtain⟨n,_,rfl⟩:=of_vldB h3.2;exact⟨(m,n),rfl,lt_of_size h4.1,lt_of_size h4.2⟩)
 obtain⟨V,hV,pV⟩:=list_lift E (fun x=>x<256^16) vs (fun x hx=>by
  have h3:=kv x hx;have h4:=hv x hx;obtain⟨m,_,rfl⟩:=of_vldB h3;simp only[vszB,decide_eq_true_eq]at h4;exact⟨m,rfl,lt_of_size h4⟩)
 obtain⟨Q,hQ,pQ⟩:=list_lift NEqn.q (fun y=>y.grp<gs.length∧y.tgt<256^16∧y.trms.length≤12∧∀t∈y.trms,t.base<256^16∧t.var<vs.length∧t.coef.natAbs<256^16) es (fun x hx=>eqn_num _ _ x (ke x hx) (he x hx));have e1:gs.length=G.length:=by rw[←hG];simp
 have e2:vs.length=V.length:=by rw[←hV];simp
 have e3:es.length=Q.length:=by rw[←hQ];simp
 rw[e1,e2]at pQ;rw[e1]at l1;rw[e2]at l2;rw[e3]at l3;exact⟨⟨G,V,Q⟩,by rw[NSta.s,hG,hV,hQ],⟨Nat.le_trans l1 (by decide),Nat.le_trans l2 (by decide),Nat.le_trans l3 (by decide),pG,pV,pQ⟩⟩
theorem NOk.ssm {N:NSta} (h:NOk N):SSm N.s where
 ng:=by have:=h.ng;simp[NSta.s];omega
 nv:=by have:=h.nv;simp[NSta.s];omega
 ne:=by have:=h.ne;simp[NSta.s];omega
 g:=by
  intro x hx;obtain⟨y,hy,rfl⟩:=List.mem_map.1 hx;have h1:=(E_size_le _ _).2 (h.g y hy).1;have h2:=(E_size_le _ _).2 (h.g y hy).2;exact⟨by simp only[gE];omega,by simp only[gE];omega⟩
 v:=by
  intro x hx;obtain⟨y,hy,rfl⟩:=List.mem_map.1 hx;have h1:=(E_size_le _ _).2 (h.v y hy);omega
 e:=by
  intro x hx;obtain⟨y,hy,rfl⟩:=List.mem_map.1 hx;obtain⟨_,h1,h2,h3⟩:=h.e y hy;have h1:=(E_size_le _ _).2 h1;refine⟨by simp only[NEqn.q];omega,by simp only[NEqn.q,List.length_map];omega,fun t ht=>?_⟩;obtain⟨z,hz,rfl⟩:=List.mem_map.1 ht;obtain⟨h4,_,h5⟩:=h3 z hz;have h4:=(E_size_le _ _).2 h4;have h5:=(E_size_le _ _).2 h5;exact⟨by simp only[NTrm.t];omega,by simp only[NTrm.t];omega⟩
theorem NOk.form {N:NSta} (h:NOk N):formB N.s=true:=by
 simp only[formB,Bool.and_eq_true,List.all_eq_true];refine⟨⟨fun x hx=>?_,fun x hx=>?_⟩,fun x hx=>?_⟩
 ·obtain⟨y,hy,rfl⟩:=List.mem_map.1 hx;simp only[gokB,gE,Bool.and_eq_true];exact⟨vldB_E _ (Nl (h.g y hy).1 (by decide)),vldB_E _ (Nl (h.g y hy).2 (by decide))⟩
 ·obtain⟨y,hy,rfl⟩:=List.mem_map.1 hx;exact vldB_E _ (Nl (h.v y hy) (by decide))
 ·obtain⟨y,hy,rfl⟩:=List.mem_map.1 hx;obtain⟨h1,h2,h3,h4⟩:=h.e y hy;simp only[eokB,NEqn.q,Bool.and_eq_true,decide_eq_true_eq,List.all_eq_true,NSta.s,List.length_map];refine⟨⟨⟨Dt (Int.natCast_nonneg _),Int.ofNat_lt.2 h1⟩,vldB_E _ (Nl h2 (by decide))⟩,fun t ht=>?_⟩;obtain⟨z,hz,rfl⟩:=List.mem_map.1 ht;obtain⟨h5,h6,h7⟩:=h4 z hz;simp only[tokB,NTrm.t,Bool.and_eq_true,decide_eq_true_eq];exact⟨⟨⟨Dt (Int.natCast_nonneg _),Dt (Int.ofNat_lt.2 h6)⟩,vldB_E _ (Nl h5 (by decide))⟩,ivB_I _ (Nl h7 (by decide))⟩
def NSta.gp (N:NSta) (q:NEqn):Nat × Nat:=N.grps.getD q.grp (0,0)
def NSta.ord (N:NSta):Nat:=((N.grps.map (·.2)).find? (· != 0)).getD 0
def hasQ (g:Nat × Nat) (t:NTrm):Bool:=hasB g.1 g.2 t.base
def elemQ (N:NSta) (q:NEqn):Bool:=hasB (N.gp q).1 (N.gp q).2 q.tgt&&q.trms.all (hasQ (N.gp q))
def gr0 (g:Nat × Nat):Bool:=grpE g.1 g.2==0
def NSta.elem (N:NSta):Bool:=N.grps.all gr0&&N.eqs.all (elemQ N)
def vz (n:Nat):Bool:=n==0
def NSta.tz (N:NSta) (t:NTrm):Bool:=vz (N.vars.getD t.var 0)
def gq (n:Nat) (g:Nat × Nat):Bool:=g.2 != 0&&g.2 != n
def kindQ (N:NSta) (q:NEqn):Bool:=!(vz (N.gp q).2) || !(q.trms.any N.tz)
def NSta.typ (N:NSta):Bool:=!(N.vars.any vz) || (!(vz N.ord)&&!(N.grps.any (gq N.ord))&&N.eqs.all (kindQ N))
def NSta.chk (N:NSta):Nat:=if 8<N.grps.length then 6 else if N.elem=false then 13 else if N.typ=false then 10 else 0
def NAt (w:World) (v1 v2 v3:Value) (N:NSta):Prop:=StAt w v1 v2 v3 N.s
def TNAt (w:World) (v:Value) (l:List NTrm):Prop:=TsAt w v (l.map NTrm.t)
theorem NAt.after {w w':World} {v1 v2 v3:Value} {N:NSta} (h:NAt w v1 v2 v3 N) (hb:Bw w w'):NAt w' v1 v2 v3 N:=StAt.after h hb
theorem TNAt.after {w w':World} {v:Value} {l:List NTrm} (h:TNAt w v l) (hb:Bw w w'):TNAt w' v l:=TsAt.after h hb
theorem NAt.forms {w:World} {v1 v2 v3:Value} {N:NSta} (h:NAt w v1 v2 v3 N):∃a1 c1 a2 c2 a3 c3,v1=.slice a1 N.grps.length c1∧v2=.slice a2 N.vars.length c2∧v3=.slice a3 N.eqs.length c3:=by
 obtain⟨a1,c1,h1⟩:=RAt.form h.g;obtain⟨a2,c2,h2⟩:=RAt.form h.v;obtain⟨a3,c3,h3⟩:=RAt.form h.e;exact⟨a1,c1,a2,c2,a3,c3,by rw[h1];simp[NSta.s],by rw[h2];simp[NSta.s],by rw[h3];simp[NSta.s]⟩
theorem TNAt.form {w:World} {v:Value} {l:List NTrm} (h:TNAt w v l):∃a c,v=.slice a l.length c:=by
 obtain⟨a1,c1,h1⟩:=RAt.form h;exact⟨a1,c1,by rw[h1];simp⟩
section
variable {w:World} {ao:Option Addr} {n c k:Nat} {v1 v2 v3:Value} {N:NSta}
theorem NAt.gat (h:NAt w (.slice ao n c) v2 v3 N) (hk:k<N.grps.length):∃b o,ao=some ⟨b,o,none⟩∧b<w.heap.size∧w.cell? ⟨b,o+k*2,none⟩=some (.string (E N.grps[k].1))∧w.cell? ⟨b,o+k*2+1,none⟩=some (.string (E N.grps[k].2)):=by
 have hb:k<N.s.grps.length:=by simpa [NSta.s] using hk
 obtain⟨b,o,h1,h2,h3,h4⟩:=GsAt.at_ h.g hb;simp only[NSta.s,List.getElem_map,gE]at h3 h4;exact⟨b,o,h1,h2,h3,h4⟩
theorem NAt.vat (h:NAt w v1 (.slice ao n c) v3 N) (hk:k<N.vars.length):∃b o,ao=some ⟨b,o,none⟩∧b<w.heap.size∧w.cell? ⟨b,o+k,none⟩=some (.string (E N.vars[k])):=by
 have hb:k<N.s.vars.length:=by simpa [NSta.s] using hk
 obtain⟨b,o,h1,h2,h3⟩:=SsAt.at_ h.v hb;simp only[NSta.s,List.getElem_map]at h3;exact⟨b,o,h1,h2,h3⟩
theorem NAt.eat (h:NAt w v1 v2 (.slice ao n c) N) (hk:k<N.eqs.length):∃b o tv,ao=some ⟨b,o,none⟩∧b<w.heap.size∧w.cell? ⟨b,o+k*3,none⟩=some (.int .i64 (N.eqs[k].grp:Int))∧w.cell? ⟨b,o+k*3+1,none⟩=some (.string (E N.eqs[k].tgt))∧w.cell? ⟨b,o+k*3+2,none⟩=some tv∧TNAt w tv N.eqs[k].trms:=by
 have hb:k<N.s.eqs.length:=by simpa [NSta.s] using hk
 obtain⟨b,o,tv,h1,h2,h3,h4,h5,h6⟩:=EsAt.at_ h.e hb;simp only[NSta.s,List.getElem_map,NEqn.q]at h3 h4 h6;exact⟨b,o,tv,h1,h2,h3,h4,h5,h6⟩
theorem TNAt.at_ {l:List NTrm} (h:TNAt w (.slice ao n c) l) (hk:k<l.length):∃b o,ao=some ⟨b,o,none⟩∧b<w.heap.size∧w.cell? ⟨b,o+k*4,none⟩=some (.string (E l[k].base))∧w.cell? ⟨b,o+k*4+1,none⟩=some (.int .i64 (l[k].var:Int))∧w.cell? ⟨b,o+k*4+2,none⟩=some (.bool (sg l[k].coef))∧w.cell? ⟨b,o+k*4+3,none⟩=some (.string (E l[k].coef.natAbs)):=by
 have hb:k<(l.map NTrm.t).length:=by simpa using hk
 obtain⟨b,o,h1,h2,h3,h4,h5,h6⟩:=TsAt.at_ h hb;simp only[List.getElem_map,NTrm.t]at h3 h4 h5 h6;exact⟨b,o,h1,h2,h3,h4,h5,h6⟩
end
end
section
open Go.RowKit
def IPost (b:Bool) (w:World) (e:Ending) (w':World):Prop:=∃i:Int,e=.returned (.int .i64 i)∧decide (0≤i)=b∧Bw w w'
theorem any_take {α:Type} (p:α→Bool) (l:List α) (k:Nat) (h:k<l.length):(l.take (k+1)).any p=((l.take k).any p || p l[k]):=by
 rw[List.take_succ_eq_append_getElem h,List.any_append];simp
theorem any_hit {α:Type} (p:α→Bool) (l:List α) (k:Nat) (h:k<l.length) (hb:p l[k]=true):l.any p=true:=by
 rw[List.any_eq_true];exact⟨l[k],Gm h,hb⟩
theorem any_end {α:Type} (p:α→Bool) (l:List α) (k:Nat) (h:k=l.length) (hb:(l.take k).any p=false):l.any p=false:=by
 rw[h,List.take_length]at hb;exact hb
theorem idx_siz (l:List Eqn) (p:Eqn→Bool) (v:Value) (w:World) (hn:l.length≤1000) (hR:EsAt w v l)
  (hf:∀k (hk:k<l.length) (w':World) (tv:Value),Bw w w'→TsAt w' tv (l[k]'hk).trms→Calls Tryz.prog 298 #[.agg #[.int .i64 (l[k]'hk).grp,.string (l[k]'hk).tgt,tv]] w' fun e w''=>e=.returned (.bool (p (l[k]'hk)))∧Bw w' w'') :
  Calls Tryz.prog 332 #[v,.func (.func 298) #[] #[]] w (IPost (l.any p) w):=by
 obtain⟨ao,c,rfl⟩:=RAt.form hR;obtain⟨n,hd⟩:∃n,n=l.length:=⟨_,rfl⟩;have HN:=Kh hd;rw[←hd]at hR hn ⊢;clear hd;have HF:=Kh hf;clear hf;go_enter Tryz.func332,Tryz.ntmps332
 go_wp2;go_loopw [8] (fun i wr=>∃k:Nat,k≤n∧i=.int .i64 k∧Hid ((l.take k).any p=false)∧Bw w wr) (fun i _=>n-(intOf i).toNat)
 case atStart=>exact⟨0,by omega,rfl,rfl,Br⟩
 case round =>
  obtain⟨k,hk,rfl,HA,hc⟩:=hrel;obtain⟨wp,hg⟩:∃wp,wp=wr:=⟨_,rfl⟩;subst hg;replace hR:=EsAt.after hR hc;by_cases hlt:k<n
  ·have hb:k<l.length:=by rw[←HN.out];exact hlt
   have HT:=Kh (any_take p l k hb);have HB:Hid (p (l[k]'hb)=true→l.any p=true):=any_hit p l k hb;obtain⟨b,o,tv,rfl,hi,x1,x2,x3,x4⟩:=EsAt.at_ hR hb;have HC:=Kh (HF.out k hb _ tv hc x4);generalize p (l[k]'hb)=pk at HT HB HC;generalize (l[k]'hb)=x at x1 x2 x4 HC;obtain⟨y1,y2,y3⟩:=x;simp only[]at x1 x2 HC;have hh:(0:Int)≤(k:Int):=by omega
   have hj:(k:Int)<(n:Int):=by omega
   clear hR;cases pk
   ·have HX:Hid ((l.take (k+1)).any p=false):=by rw[Hid,HT.out,HA.out];rfl
    clear HT HB;go_wp2_with fail
    refine (HC.out).mono ?_;rintro e w2 ⟨rfl,he⟩;go_wp2;go_roundw
    case rel=>exact⟨k+1,by omega,by go_num,HX,bt hc he⟩
    case measure=>simp[intOf];omega
   ·have HX:Hid (l.any p=true):=HB.out rfl;clear HT HB;go_wp2_with fail
    refine (HC.out).mono ?_;rintro e w2 ⟨rfl,he⟩;go_wp2;go_ret
    exact⟨(k:Int),rfl,by rw[HX.out];exact Dt hh,bt hc he⟩
  ·have HX:Hid (l.any p=false):=any_end p l k (by rw[←HN.out];omega) HA.out;go_wp2;go_ret
   exact⟨-1,rfl,by rw[HX.out];rfl,hc⟩
theorem cont_siz (l:List Eqn) (p:Eqn→Bool) (b:Bool) (v:Value) (w:World) (hn:l.length≤1000) (hR:EsAt w v l) (hb:l.any p=b)
  (hf:∀k (hk:k<l.length) (w':World) (tv:Value),Bw w w'→TsAt w' tv (l[k]'hk).trms→Calls Tryz.prog 298 #[.agg #[.int .i64 (l[k]'hk).grp,.string (l[k]'hk).tgt,tv]] w' fun e w''=>e=.returned (.bool (p (l[k]'hk)))∧Bw w' w'') :
  Calls Tryz.prog 297 #[v,.func (.func 298) #[] #[]] w fun e w'=>e=.returned (.bool b)∧Bw w w':=by
 have HE:=Kh (idx_siz l p v w hn hR hf);rw[hb]at HE;obtain⟨ao,c,rfl⟩:=RAt.form hR;generalize l.length=n at HE;clear hn hR hf hb;go_enter Tryz.func297,Tryz.ntmps297
 go_wp2_with fail
 refine HE.out.mono ?_;rintro e w1 ⟨i,rfl,hi,hc⟩;have HI:=Kh hi;clear hi;cases b
 ·have hi:decide (0≤i)=false:=HI.out;go_wp2;go_ret
  exact⟨rfl,hc⟩
 ·have hi:decide (0≤i)=true:=HI.out;go_wp2;go_ret
  exact⟨rfl,hc⟩
theorem idx_elt (l:List Trm) (p:Trm→Bool) (v:Value) (g1:Nat) (w:World) (hn:l.length≤1000) (hR:TsAt w v l)
  (hf:∀k (hk:k<l.length) (w':World),Bw w w'→Calls Tryz.prog 300 #[.agg #[.string (l[k]'hk).base,.int .i64 (l[k]'hk).var,.bool (l[k]'hk).neg,.string (l[k]'hk).abs],.pointer (some ⟨g1,0,none⟩)] w' fun e w''=>e=.returned (.bool (p (l[k]'hk)))∧Bw w' w'') :
  Calls Tryz.prog 333 #[v,.func (.func 300) #[] #[.pointer (some ⟨g1,0,none⟩)]] w (IPost (l.any p) w):=by
 obtain⟨ao,c,rfl⟩:=RAt.form hR;obtain⟨n,hd⟩:∃n,n=l.length:=⟨_,rfl⟩;have HN:=Kh hd;rw[←hd]at hR hn ⊢;clear hd;have HF:=Kh hf;clear hf;go_enter Tryz.func333,Tryz.ntmps333
 go_wp2;go_loopw [8] (fun i wr=>∃k:Nat,k≤n∧i=.int .i64 k∧Hid ((l.take k).any p=false)∧Bw w wr) (fun i _=>n-(intOf i).toNat)
 case atStart=>exact⟨0,by omega,rfl,rfl,Br⟩
 case round =>
  obtain⟨k,hk,rfl,HA,hc⟩:=hrel;obtain⟨wp,hg⟩:∃wp,wp=wr:=⟨_,rfl⟩;subst hg;replace hR:=TsAt.after hR hc;by_cases hlt:k<n
  ·have hb:k<l.length:=by rw[←HN.out];exact hlt
   have HT:=Kh (any_take p l k hb);have HB:Hid (p (l[k]'hb)=true→l.any p=true):=any_hit p l k hb;obtain⟨b,o,rfl,hi,x1,x2,x3,x4⟩:=TsAt.at_ hR hb;have HC:=Kh (HF.out k hb _ hc);generalize p (l[k]'hb)=pk at HT HB HC;generalize (l[k]'hb)=x at x1 x2 x3 x4 HC;obtain⟨y1,y2,y3,y4⟩:=x;simp only[]at x1 x2 x3 x4 HC;have hh:(0:Int)≤(k:Int):=by omega
   have hj:(k:Int)<(n:Int):=by omega
   clear hR;cases pk
   ·have HX:Hid ((l.take (k+1)).any p=false):=by rw[Hid,HT.out,HA.out];rfl
    clear HT HB;go_wp2_with fail
    refine (HC.out).mono ?_;rintro e w2 ⟨rfl,he⟩;go_wp2;go_roundw
    case rel=>exact⟨k+1,by omega,by go_num,HX,bt hc he⟩
    case measure=>simp[intOf];omega
   ·have HX:Hid (l.any p=true):=HB.out rfl;clear HT HB;go_wp2_with fail
    refine (HC.out).mono ?_;rintro e w2 ⟨rfl,he⟩;go_wp2;go_ret
    exact⟨(k:Int),rfl,by rw[HX.out];exact Dt hh,bt hc he⟩
  ·have HX:Hid (l.any p=false):=any_end p l k (by rw[←HN.out];omega) HA.out;go_wp2;go_ret
   exact⟨-1,rfl,by rw[HX.out];rfl,hc⟩
theorem cont_elt (l:List Trm) (p:Trm→Bool) (b:Bool) (v:Value) (g1:Nat) (w:World) (hn:l.length≤1000) (hR:TsAt w v l) (hb:l.any p=b)
  (hf:∀k (hk:k<l.length) (w':World),Bw w w'→Calls Tryz.prog 300 #[.agg #[.string (l[k]'hk).base,.int .i64 (l[k]'hk).var,.bool (l[k]'hk).neg,.string (l[k]'hk).abs],.pointer (some ⟨g1,0,none⟩)] w' fun e w''=>e=.returned (.bool (p (l[k]'hk)))∧Bw w' w'') :
  Calls Tryz.prog 299 #[v,.func (.func 300) #[] #[.pointer (some ⟨g1,0,none⟩)]] w fun e w'=>e=.returned (.bool b)∧Bw w w':=by
 have HE:=Kh (idx_elt l p v g1 w hn hR hf);rw[hb]at HE;obtain⟨ao,c,rfl⟩:=RAt.form hR;generalize l.length=n at HE;clear hn hR hf hb;go_enter Tryz.func299,Tryz.ntmps299
 go_wp2_with fail
 refine HE.out.mono ?_;rintro e w1 ⟨i,rfl,hi,hc⟩;have HI:=Kh hi;clear hi;cases b
 ·have hi:decide (0≤i)=false:=HI.out;go_wp2;go_ret
  exact⟨rfl,hc⟩
 ·have hi:decide (0≤i)=true:=HI.out;go_wp2;go_ret
  exact⟨rfl,hc⟩
theorem idx_knt (l:List Trm) (p:Trm→Bool) (v:Value) (g1:Nat) (w:World) (hn:l.length≤1000) (hR:TsAt w v l)
  (hf:∀k (hk:k<l.length) (w':World),Bw w w'→Calls Tryz.prog 305 #[.agg #[.string (l[k]'hk).base,.int .i64 (l[k]'hk).var,.bool (l[k]'hk).neg,.string (l[k]'hk).abs],.pointer (some ⟨g1,0,none⟩)] w' fun e w''=>e=.returned (.bool (p (l[k]'hk)))∧Bw w' w'') :
  Calls Tryz.prog 333 #[v,.func (.func 305) #[] #[.pointer (some ⟨g1,0,none⟩)]] w (IPost (l.any p) w):=by
 obtain⟨ao,c,rfl⟩:=RAt.form hR;obtain⟨n,hd⟩:∃n,n=l.length:=⟨_,rfl⟩;have HN:=Kh hd;rw[←hd]at hR hn ⊢;clear hd;have HF:=Kh hf;clear hf;go_enter Tryz.func333,Tryz.ntmps333
 go_wp2;go_loopw [8] (fun i wr=>∃k:Nat,k≤n∧i=.int .i64 k∧Hid ((l.take k).any p=false)∧Bw w wr) (fun i _=>n-(intOf i).toNat)
 case atStart=>exact⟨0,by omega,rfl,rfl,Br⟩
 case round =>
  obtain⟨k,hk,rfl,HA,hc⟩:=hrel;obtain⟨wp,hg⟩:∃wp,wp=wr:=⟨_,rfl⟩;subst hg;replace hR:=TsAt.after hR hc;by_cases hlt:k<n
  ·have hb:k<l.length:=by rw[←HN.out];exact hlt
   have HT:=Kh (any_take p l k hb);have HB:Hid (p (l[k]'hb)=true→l.any p=true):=any_hit p l k hb;obtain⟨b,o,rfl,hi,x1,x2,x3,x4⟩:=TsAt.at_ hR hb;have HC:=Kh (HF.out k hb _ hc);generalize p (l[k]'hb)=pk at HT HB HC;generalize (l[k]'hb)=x at x1 x2 x3 x4 HC;obtain⟨y1,y2,y3,y4⟩:=x;simp only[]at x1 x2 x3 x4 HC;have hh:(0:Int)≤(k:Int):=by omega
   have hj:(k:Int)<(n:Int):=by omega
   clear hR;cases pk
   ·have HX:Hid ((l.take (k+1)).any p=false):=by rw[Hid,HT.out,HA.out];rfl
    clear HT HB;go_wp2_with fail
    refine (HC.out).mono ?_;rintro e w2 ⟨rfl,he⟩;go_wp2;go_roundw
    case rel=>exact⟨k+1,by omega,by go_num,HX,bt hc he⟩
    case measure=>simp[intOf];omega
   ·have HX:Hid (l.any p=true):=HB.out rfl;clear HT HB;go_wp2_with fail
    refine (HC.out).mono ?_;rintro e w2 ⟨rfl,he⟩;go_wp2;go_ret
    exact⟨(k:Int),rfl,by rw[HX.out];exact Dt hh,bt hc he⟩
  ·have HX:Hid (l.any p=false):=any_end p l k (by rw[←HN.out];omega) HA.out;go_wp2;go_ret
   exact⟨-1,rfl,by rw[HX.out];rfl,hc⟩
theorem cont_knt (l:List Trm) (p:Trm→Bool) (b:Bool) (v:Value) (g1:Nat) (w:World) (hn:l.length≤1000) (hR:TsAt w v l) (hb:l.any p=b)
  (hf:∀k (hk:k<l.length) (w':World),Bw w w'→Calls Tryz.prog 305 #[.agg #[.string (l[k]'hk).base,.int .i64 (l[k]'hk).var,.bool (l[k]'hk).neg,.string (l[k]'hk).abs],.pointer (some ⟨g1,0,none⟩)] w' fun e w''=>e=.returned (.bool (p (l[k]'hk)))∧Bw w' w'') :
  Calls Tryz.prog 299 #[v,.func (.func 305) #[] #[.pointer (some ⟨g1,0,none⟩)]] w fun e w'=>e=.returned (.bool b)∧Bw w w':=by
 have HE:=Kh (idx_knt l p v g1 w hn hR hf);rw[hb]at HE;obtain⟨ao,c,rfl⟩:=RAt.form hR;generalize l.length=n at HE;clear hn hR hf hb;go_enter Tryz.func299,Tryz.ntmps299
 go_wp2_with fail
 refine HE.out.mono ?_;rintro e w1 ⟨i,rfl,hi,hc⟩;have HI:=Kh hi;clear hi;cases b
 ·have hi:decide (0≤i)=false:=HI.out;go_wp2;go_ret
  exact⟨rfl,hc⟩
 ·have hi:decide (0≤i)=true:=HI.out;go_wp2;go_ret
  exact⟨rfl,hc⟩
theorem idx_knv (l:List ByteArray) (p:ByteArray→Bool) (v:Value) (w:World) (hn:l.length≤1000) (hR:SsAt w v l)
  (hf:∀k (hk:k<l.length) (w':World),Bw w w'→Calls Tryz.prog 302 #[.agg #[.string (l[k]'hk)]] w' fun e w''=>e=.returned (.bool (p (l[k]'hk)))∧Bw w' w'') :
  Calls Tryz.prog 334 #[v,.func (.func 302) #[] #[]] w (IPost (l.any p) w):=by
 obtain⟨ao,c,rfl⟩:=RAt.form hR;obtain⟨n,hd⟩:∃n,n=l.length:=⟨_,rfl⟩;have HN:=Kh hd;rw[←hd]at hR hn ⊢;clear hd;have HF:=Kh hf;clear hf;go_enter Tryz.func334,Tryz.ntmps334
 go_wp2;go_loopw [8] (fun i wr=>∃k:Nat,k≤n∧i=.int .i64 k∧Hid ((l.take k).any p=false)∧Bw w wr) (fun i _=>n-(intOf i).toNat)
 case atStart=>exact⟨0,by omega,rfl,rfl,Br⟩
 case round =>
  obtain⟨k,hk,rfl,HA,hc⟩:=hrel;obtain⟨wp,hg⟩:∃wp,wp=wr:=⟨_,rfl⟩;subst hg;replace hR:=SsAt.after hR hc;by_cases hlt:k<n
  ·have hb:k<l.length:=by rw[←HN.out];exact hlt
   have HT:=Kh (any_take p l k hb);have HB:Hid (p (l[k]'hb)=true→l.any p=true):=any_hit p l k hb;obtain⟨b,o,rfl,hi,x1⟩:=SsAt.at_ hR hb;have HC:=Kh (HF.out k hb _ hc);generalize p (l[k]'hb)=pk at HT HB HC;generalize (l[k]'hb)=x at x1 HC;have hh:(0:Int)≤(k:Int):=by omega
   have hj:(k:Int)<(n:Int):=by omega
   clear hR;cases pk
   ·have HX:Hid ((l.take (k+1)).any p=false):=by rw[Hid,HT.out,HA.out];rfl
    clear HT HB;go_wp2_with fail
    refine (HC.out).mono ?_;rintro e w2 ⟨rfl,he⟩;go_wp2;go_roundw
    case rel=>exact⟨k+1,by omega,by go_num,HX,bt hc he⟩
    case measure=>simp[intOf];omega
   ·have HX:Hid (l.any p=true):=HB.out rfl;clear HT HB;go_wp2_with fail
    refine (HC.out).mono ?_;rintro e w2 ⟨rfl,he⟩;go_wp2;go_ret
    exact⟨(k:Int),rfl,by rw[HX.out];exact Dt hh,bt hc he⟩
  ·have HX:Hid (l.any p=false):=any_end p l k (by rw[←HN.out];omega) HA.out;go_wp2;go_ret
   exact⟨-1,rfl,by rw[HX.out];rfl,hc⟩
theorem cont_knv (l:List ByteArray) (p:ByteArray→Bool) (b:Bool) (v:Value) (w:World) (hn:l.length≤1000) (hR:SsAt w v l) (hb:l.any p=b)
  (hf:∀k (hk:k<l.length) (w':World),Bw w w'→Calls Tryz.prog 302 #[.agg #[.string (l[k]'hk)]] w' fun e w''=>e=.returned (.bool (p (l[k]'hk)))∧Bw w' w'') :
  Calls Tryz.prog 301 #[v,.func (.func 302) #[] #[]] w fun e w'=>e=.returned (.bool b)∧Bw w w':=by
 have HE:=Kh (idx_knv l p v w hn hR hf);rw[hb]at HE;obtain⟨ao,c,rfl⟩:=RAt.form hR;generalize l.length=n at HE;clear hn hR hf hb;go_enter Tryz.func301,Tryz.ntmps301
 go_wp2_with fail
 refine HE.out.mono ?_;rintro e w1 ⟨i,rfl,hi,hc⟩;have HI:=Kh hi;clear hi;cases b
 ·have hi:decide (0≤i)=false:=HI.out;go_wp2;go_ret
  exact⟨rfl,hc⟩
 ·have hi:decide (0≤i)=true:=HI.out;go_wp2;go_ret
  exact⟨rfl,hc⟩
theorem idx_kng (l:List (ByteArray × ByteArray)) (p:(ByteArray × ByteArray)→Bool) (v:Value) (g1:Nat) (w:World) (hn:l.length≤1000) (hR:GsAt w v l)
  (hf:∀k (hk:k<l.length) (w':World),Bw w w'→Calls Tryz.prog 304 #[.agg #[.string (l[k]'hk).1,.string (l[k]'hk).2],.pointer (some ⟨g1,0,none⟩)] w' fun e w''=>e=.returned (.bool (p (l[k]'hk)))∧Bw w' w'') :
  Calls Tryz.prog 335 #[v,.func (.func 304) #[] #[.pointer (some ⟨g1,0,none⟩)]] w (IPost (l.any p) w):=by
 obtain⟨ao,c,rfl⟩:=RAt.form hR;obtain⟨n,hd⟩:∃n,n=l.length:=⟨_,rfl⟩;have HN:=Kh hd;rw[←hd]at hR hn ⊢;clear hd;have HF:=Kh hf;clear hf;go_enter Tryz.func335,Tryz.ntmps335
 go_wp2;go_loopw [8] (fun i wr=>∃k:Nat,k≤n∧i=.int .i64 k∧Hid ((l.take k).any p=false)∧Bw w wr) (fun i _=>n-(intOf i).toNat)
 case atStart=>exact⟨0,by omega,rfl,rfl,Br⟩
 case round =>
  obtain⟨k,hk,rfl,HA,hc⟩:=hrel;obtain⟨wp,hg⟩:∃wp,wp=wr:=⟨_,rfl⟩;subst hg;replace hR:=GsAt.after hR hc;by_cases hlt:k<n
  ·have hb:k<l.length:=by rw[←HN.out];exact hlt
   have HT:=Kh (any_take p l k hb);have HB:Hid (p (l[k]'hb)=true→l.any p=true):=any_hit p l k hb;obtain⟨b,o,rfl,hi,x1,x2⟩:=GsAt.at_ hR hb;have HC:=Kh (HF.out k hb _ hc);generalize p (l[k]'hb)=pk at HT HB HC;generalize (l[k]'hb)=x at x1 x2 HC;obtain⟨y1,y2⟩:=x;simp only[]at x1 x2 HC;have hh:(0:Int)≤(k:Int):=by omega
   have hj:(k:Int)<(n:Int):=by omega
   clear hR;cases pk
   ·have HX:Hid ((l.take (k+1)).any p=false):=by rw[Hid,HT.out,HA.out];rfl
    clear HT HB;go_wp2_with fail
    refine (HC.out).mono ?_;rintro e w2 ⟨rfl,he⟩;go_wp2;go_roundw
    case rel=>exact⟨k+1,by omega,by go_num,HX,bt hc he⟩
    case measure=>simp[intOf];omega
   ·have HX:Hid (l.any p=true):=HB.out rfl;clear HT HB;go_wp2_with fail
    refine (HC.out).mono ?_;rintro e w2 ⟨rfl,he⟩;go_wp2;go_ret
    exact⟨(k:Int),rfl,by rw[HX.out];exact Dt hh,bt hc he⟩
  ·have HX:Hid (l.any p=false):=any_end p l k (by rw[←HN.out];omega) HA.out;go_wp2;go_ret
   exact⟨-1,rfl,by rw[HX.out];rfl,hc⟩
theorem cont_kng (l:List (ByteArray × ByteArray)) (p:(ByteArray × ByteArray)→Bool) (b:Bool) (v:Value) (g1:Nat) (w:World) (hn:l.length≤1000) (hR:GsAt w v l) (hb:l.any p=b)
  (hf:∀k (hk:k<l.length) (w':World),Bw w w'→Calls Tryz.prog 304 #[.agg #[.string (l[k]'hk).1,.string (l[k]'hk).2],.pointer (some ⟨g1,0,none⟩)] w' fun e w''=>e=.returned (.bool (p (l[k]'hk)))∧Bw w' w'') :
  Calls Tryz.prog 303 #[v,.func (.func 304) #[] #[.pointer (some ⟨g1,0,none⟩)]] w fun e w'=>e=.returned (.bool b)∧Bw w w':=by
 have HE:=Kh (idx_kng l p v g1 w hn hR hf);rw[hb]at HE;obtain⟨ao,c,rfl⟩:=RAt.form hR;generalize l.length=n at HE;clear hn hR hf hb;go_enter Tryz.func303,Tryz.ntmps303
 go_wp2_with fail
 refine HE.out.mono ?_;rintro e w1 ⟨i,rfl,hi,hc⟩;have HI:=Kh hi;clear hi;cases b
 ·have hi:decide (0≤i)=false:=HI.out;go_wp2;go_ret
  exact⟨rfl,hc⟩
 ·have hi:decide (0≤i)=true:=HI.out;go_wp2;go_ret
  exact⟨rfl,hc⟩
theorem idx_rdi (l:List (Bool × ByteArray)) (p:(Bool × ByteArray)→Bool) (v:Value) (w:World) (hn:l.length≤1000) (hR:IsAt w v l)
  (hf:∀k (hk:k<l.length) (w':World),Bw w w'→Calls Tryz.prog 206 #[.agg #[.bool (l[k]'hk).1,.string (l[k]'hk).2]] w' fun e w''=>e=.returned (.bool (p (l[k]'hk)))∧Bw w' w'') :
  Calls Tryz.prog 251 #[v,.func (.func 206) #[] #[]] w (IPost (l.any p) w):=by
 obtain⟨ao,c,rfl⟩:=RAt.form hR;obtain⟨n,hd⟩:∃n,n=l.length:=⟨_,rfl⟩;have HN:=Kh hd;rw[←hd]at hR hn ⊢;clear hd;have HF:=Kh hf;clear hf;go_enter Tryz.func251,Tryz.ntmps251
 go_wp2;go_loopw [8] (fun i wr=>∃k:Nat,k≤n∧i=.int .i64 k∧Hid ((l.take k).any p=false)∧Bw w wr) (fun i _=>n-(intOf i).toNat)
 case atStart=>exact⟨0,by omega,rfl,rfl,Br⟩
 case round =>
  obtain⟨k,hk,rfl,HA,hc⟩:=hrel;obtain⟨wp,hg⟩:∃wp,wp=wr:=⟨_,rfl⟩;subst hg;replace hR:=IsAt.after hR hc;by_cases hlt:k<n
  ·have hb:k<l.length:=by rw[←HN.out];exact hlt
   have HT:=Kh (any_take p l k hb);have HB:Hid (p (l[k]'hb)=true→l.any p=true):=any_hit p l k hb;obtain⟨b,o,rfl,hi,x1,x2⟩:=IsAt.at_ hR hb;have HC:=Kh (HF.out k hb _ hc);generalize p (l[k]'hb)=pk at HT HB HC;generalize (l[k]'hb)=x at x1 x2 HC;obtain⟨y1,y2⟩:=x;simp only[]at x1 x2 HC;have hh:(0:Int)≤(k:Int):=by omega
   have hj:(k:Int)<(n:Int):=by omega
   clear hR;cases pk
   ·have HX:Hid ((l.take (k+1)).any p=false):=by rw[Hid,HT.out,HA.out];rfl
    clear HT HB;go_wp2_with fail
    refine (HC.out).mono ?_;rintro e w2 ⟨rfl,he⟩;go_wp2;go_roundw
    case rel=>exact⟨k+1,by omega,by go_num,HX,bt hc he⟩
    case measure=>simp[intOf];omega
   ·have HX:Hid (l.any p=true):=HB.out rfl;clear HT HB;go_wp2_with fail
    refine (HC.out).mono ?_;rintro e w2 ⟨rfl,he⟩;go_wp2;go_ret
    exact⟨(k:Int),rfl,by rw[HX.out];exact Dt hh,bt hc he⟩
  ·have HX:Hid (l.any p=false):=any_end p l k (by rw[←HN.out];omega) HA.out;go_wp2;go_ret
   exact⟨-1,rfl,by rw[HX.out];rfl,hc⟩
theorem cont_rdi (l:List (Bool × ByteArray)) (p:(Bool × ByteArray)→Bool) (b:Bool) (v:Value) (w:World) (hn:l.length≤1000) (hR:IsAt w v l) (hb:l.any p=b)
  (hf:∀k (hk:k<l.length) (w':World),Bw w w'→Calls Tryz.prog 206 #[.agg #[.bool (l[k]'hk).1,.string (l[k]'hk).2]] w' fun e w''=>e=.returned (.bool (p (l[k]'hk)))∧Bw w' w'') :
  Calls Tryz.prog 173 #[v,.func (.func 206) #[] #[]] w fun e w'=>e=.returned (.bool b)∧Bw w w':=by
 have HE:=Kh (idx_rdi l p v w hn hR hf);rw[hb]at HE;obtain⟨ao,c,rfl⟩:=RAt.form hR;generalize l.length=n at HE;clear hn hR hf hb;go_enter Tryz.func173,Tryz.ntmps173
 go_wp2_with fail
 refine HE.out.mono ?_;rintro e w1 ⟨i,rfl,hi,hc⟩;have HI:=Kh hi;clear hi;cases b
 ·have hi:decide (0≤i)=false:=HI.out;go_wp2;go_ret
  exact⟨rfl,hc⟩
 ·have hi:decide (0≤i)=true:=HI.out;go_wp2;go_ret
  exact⟨rfl,hc⟩
end
end Go.Proofs.YtihjpddbjhcbmaaGreatDoor
