import Derived.Test.YtdoacbdkbbpamaaGreatDoorDiv
import Derived.Deep.QuietTactic
import Derived.Test.YtdoacbdkbbpamaaGreatDoorNat2
import Derived.Below
import Derived.ChangeSame
import Derived.ChangeMaps5
import Derived.JoinedOf
import Derived.JoinedAt
import Derived.RowKit3
import Derived.Deep.Strs
import Derived.Lib.SmallJoins
import Derived.OpenShut
import Derived.ProofKit
import Derived.Test.YtdoacbdkbbpamaaGreatDoorLdv1
import Derived.Test.YtdoacbdkbbpamaaGreatDoorLag
set_option linter.unusedVariables false
set_option linter.unusedSimpArgs false
set_option maxRecDepth 100000
set_option maxHeartbeats 16000000
namespace Go.Proofs.YtdoacbdkbbpamaaGreatDoor
section
open Go.RowKit
theorem bdrewN (w:World) (n:Nat):Below w.heap.size w (w.drewN n):=⟨rfl,rfl,rfl,Nat.le_refl _,fun _ _=>rfl⟩
theorem div64_zero (lo y:Nat) (w:World) (h1:0<y) (hy:y<256^8) (hl:lo<256^8) :
  Calls Tryz.prog 169 #[.int .u64 0,.int .u64 lo,.int .u64 y] w fun e w'=>e=.returned (.tuple #[.int .u64 ((lo / y:Nat):Int),.int .u64 ((lo%y:Nat):Int)])∧Below w.heap.size w w':=by
 have hy0:¬ (y:Int)=0:=by omega
 have hy1:¬ (y:Int)≤0:=by omega
 have hw1:=wrapU_div lo y (Nat.lt_of_le_of_lt (Nat.div_le_self _ _) hl);have hw2:=wrapU_mod lo y (Nat.lt_of_le_of_lt (Nat.mod_le _ _) hl);clear h1 hy hl;go_enter Tryz.func169,Tryz.ntmps169
 go_wp2;go_quiet (fail)
 all_goals (go_wp2;go_ret2;exact ⟨r2 (by simp) (by simp),bdrewN w _⟩)
theorem div64_all (hi lo y:Nat) (w:World) (h1:hi<y) (hy:y<256^8) (hl:lo<256^8) :
  Calls Tryz.prog 169 #[.int .u64 hi,.int .u64 lo,.int .u64 y] w fun e w'=>e=.returned (.tuple #[.int .u64 (((hi*256^8+lo) / y:Nat):Int),.int .u64 (((hi*256^8+lo)%y:Nat):Int)])∧Below w.heap.size w w':=by
 rcases Nat.eq_zero_or_pos hi with rfl | h0
 ·rw [Nat.zero_mul,Nat.zero_add];exact div64_zero lo y w h1 hy hl
 ·exact (div64_c hi lo y w h0 h1 hy hl).mono fun _ _ ⟨h,hw⟩=>⟨h,hw ▸ Below.refl _ _⟩
theorem rem64_c (hi lo y:Nat) (w:World) (h1:hi<y) (hy:y<256^8) (hl:lo<256^8) :
  Calls Tryz.prog 146 #[.int .u64 hi,.int .u64 lo,.int .u64 y] w fun e w'=>e=.returned (.int .u64 (((hi*256^8+lo)%y:Nat):Int))∧Below w.heap.size w w':=by
 have hy0:¬ y=0:=by omega
 have HC:=Lib.hid (div64_all hi lo y w h1 hy hl);have hm:(hi:Int)%(y:Int)=(hi:Int):=by rw [←Int.natCast_emod,Nat.mod_eq_of_lt h1]
 generalize (hi*256^8+lo) / y=q at HC;generalize (hi*256^8+lo)%y=r at HC;clear h1 hy hl;go_enter Tryz.func146,Tryz.ntmps146
 go_wp2_with fail
 refine HC.out.mono ?_;rintro e w1 ⟨rfl,hb1⟩;go_wp2;go_ret
 exact ⟨rfl,hb1⟩
end
section
/- A row's last step. -/
open Go.RowKit Go.WideShapes Go.ChangeShapes Go.ChangeAt Go.Joins Go.Deep
open Go.ChangeMaps (open_string shut_string)
section
variable {H:Type} {enc:TypeId × Value→H} {P:Program}
theorem post_of_below {f:Func} {s:ChangeSpec} {apart fresh handsOn again:Bool} {W W':World} {args:Array Value} {v:Value} {ds gs:List (DataW H)} {before pa pv:List MemPlace}
  (hW:DataW.Whole enc P f.params.toList s.vars apart W args.toList ds gs before)
  (hres:∀(b:Nat) (sp:Nat→Bool) (hd:Bool),DataW.TrodAll enc P W' b sp hd f.resultTypes.toList (v.resultList f.resultTypes.size) (s.fn H (ds++gs)).results [])
  (hargs:∀sp:Nat→Bool,(∀p∈before,sp p.block=true)→DataW.TrodAll enc P W' 0 sp true f.params.toList args.toList (s.fn H (ds++gs)).args pa)
  (hvars:∀sp:Nat→Bool,(∀p∈before,sp p.block=true)→DataW.TrodVars enc P W' sp s.vars (s.fn H (ds++gs)).vars pv)
  (hps:before=pa++pv) (hb:Below W.heap.size W W')
  (hok:∀(j:Nat) (t:TypeId) (r:Value),f.resultTypes[j]?=some t→(v.resultList f.resultTypes.size)[j]?=some r→Value.okWide P W' .any 0 t r) :
  s.post enc P f apart fresh handsOn again W args v W':=by
 have hlt:∀p∈before,p.block<W.heap.size:=fun p hp=>hW.lt p hp
 have hold:∀p∈before,(fun b=>decide (b<W.heap.size)) p.block=true:=fun p hp=>by simpa using hlt p hp
 refine ⟨ds,gs,before,[],pa,pv,hW,hres _ _ _,hargs _ hold,hvars _ hold,World.keptBut_mono (fun p hp=>⟨hp,?_⟩) (hb.frame (·∈before)),fun _=>?_⟩
 ·rw [hps,List.mem_append] at hp;exact Or.inr hp
 ·obtain ⟨_,_,_,_,_,hz,hn⟩:=hW;refine ⟨hok,_,_,([]++pa)++pv,⟨[]++pa,pv,trodAll_append (hargs _ (fun _ _=>rfl)) (hres _ _ _),hvars _ (fun _ _=>rfl),rfl,?_,?_⟩,?_⟩
  ·intro b off hp;have hin:MemPlace.cell b off∈before:=by rw [hps];simpa using hp
   rw [hb.frozen (hlt _ hin)];exact hz b off hin
  ·intro ha;have:=hn ha;rw [hps] at this;simpa using this
  ·intro p hp _;rw [hps];simpa using hp
end
theorem own_knob:ownKnob Tryz.prog.godebug=none:=by kernel_rfl
end
section
open Go.RowKit
theorem lz8_spec:∀x:Fin 256,x.1≠0→∃s:Fin 8,(8-(Lib.bitLen x.1:Int))=(s.1:Int)∧128≤x.1*2^s.1∧(x.1+1)*2^s.1≤256:=by decide +kernel
theorem lz8_c (x:Nat) (w:World) (h:x<256):Calls Tryz.prog 155 #[.int .u8 (x:Int)] w fun e w'=>e=.returned (.int .i64 (8-(Lib.bitLen x:Int)))∧w=w':=
 (Tryz.bits_LeadingZeros8 (x:Int) w (by omega) (by omega)).mono fun _ _ h=>⟨by rw [h.1,Int.toNat_natCast],h.2.symm⟩
theorem scale_spec (b s n:Nat) (hn:n=(E b).size) (h0:0<b) (h1:128≤b / 256^(n-1)*2^s) (h2:(b / 256^(n-1)+1)*2^s≤256):0<n∧b*2^s<256^n∧128≤b*2^s / 256^(n-1):=by
 have hn0:0<n:=by rw [hn];exact (E_size_pos b).2 h0
 refine ⟨hn0,?_,?_⟩
 ·have h3:b<(b / 256^(n-1)+1)*256^(n-1):=by
   have:=Nat.div_add_mod b (256^(n-1));have h4:=Nat.mod_lt b (p256 (n-1));rw [Nat.add_mul,Nat.one_mul,Nat.mul_comm (b / _)];omega
  have h5:b*2^s<(b / 256^(n-1)+1)*256^(n-1)*2^s:=Nat.mul_lt_mul_of_pos_right h3 (Nat.pow_pos (by decide));have h6:(b / 256^(n-1)+1)*2^s*256^(n-1)≤256*256^(n-1):=Nat.mul_le_mul_right _ h2
  have h7:256*256^(n-1)=256^n:=by
   conv=>rhs;rw [show n=n-1+1 by omega,Nat.pow_succ,Nat.mul_comm]
  rw [Nat.mul_assoc,Nat.mul_comm (256^(n-1)),←Nat.mul_assoc] at h5;omega
 ·refine Nat.le_trans h1 ?_;rw [Nat.le_div_iff_mul_le (p256 _),Nat.mul_right_comm];exact Nat.mul_le_mul_right _ (Nat.div_mul_le_self _ _)
theorem i64_and255 (n:Int):bits .and .i64 n 255=n%256:=by
 have h1:(BitVec.ofInt 64 255).toNat=2^8-1:=by decide
 have key:(BitVec.ofInt 64 n &&& BitVec.ofInt 64 255).toNat=(n%((2^64:Nat):Int)).toNat%2^8:=by
  rw [BitVec.toNat_and,BitVec.toNat_ofInt,h1,Nat.and_two_pow_sub_one_eq_mod]
 show IntKind.i64.wrap ((BitVec.ofInt 64 n &&& BitVec.ofInt 64 255).toNat:Nat)=n%256;rw [key,IntKind.wrap_i64];omega
theorem i64_or (a b:Nat) (ha:a<65536) (hb:b<65536):bits .or .i64 (a:Int) (b:Int)=((a ||| b:Nat):Int):=by
 have h:(a ||| b)<2^16:=Nat.or_lt_two_pow ha hb
 have key:(BitVec.ofInt 64 (a:Int) ||| BitVec.ofInt 64 (b:Int)).toNat=a ||| b:=by
  rw [BitVec.toNat_or,BitVec.toNat_ofInt,BitVec.toNat_ofInt];rw [show ((a:Int)%((2^64:Nat):Int)).toNat=a by omega,show ((b:Int)%((2^64:Nat):Int)).toNat=b by omega]
 show IntKind.i64.wrap ((BitVec.ofInt 64 (a:Int) ||| BitVec.ofInt 64 (b:Int)).toNat:Nat)=_;rw [key,IntKind.wrap_i64];omega
theorem setd_setd (X p v u:Nat) (hv:v<256):setd (setd X p v) p u=setd X p u:=by
 have h1:=setd_div X p v (p+1) hv (by omega)
 have h2:setd X p v%256^p=X%256^p:=by
  have e1:∀A P:Nat,A*(P*256)=P*(256*A):=fun A P=>by rw [Nat.mul_comm A,Nat.mul_assoc]
  unfold setd;rw [Nat.pow_succ,e1,Nat.mul_comm v,←Nat.mul_add,Nat.add_comm,Nat.add_mul_mod_self_left,Nat.mod_mod]
 show setd X p v / 256^(p+1)*256^(p+1)+u*256^p+setd X p v%256^p=_;rw [h1,h2];rfl
theorem or_val (x s k v0:Nat) (hs:s<8) (hk:0<k) (hv:v0=dgt (E x) k*2^s%256):bits BinOp.or IntKind.i64 (v0:Int) ((dgt (E x) (k-1):Int) / 2^(8-s))=((x*2^s / 256^k%256:Nat):Int):=by
 obtain ⟨j,rfl⟩:∃j,k=j+1:=⟨k-1,by omega⟩;have h1:=dgt_lt (E x) (j+1-1);rw [dgt_E] at h1;have e:(dgt (E x) (j+1-1):Int) / 2^(8-s)=((dgt (E x) (j+1-1) / 2^(8-s):Nat):Int):=by rw [Int.natCast_ediv];simp
 rw [e,dgt_E,hv,dgt_E,Nat.add_sub_cancel,shl_dig x s j (by omega),←shl_or _ _ s (by omega)];have h2:x / 256^j%256 / 2^(8-s)≤x / 256^j%256:=Nat.div_le_self _ _;rw [Nat.add_sub_cancel] at h1;exact i64_or _ _ (by omega) (by omega)
theorem digz_c (s:ByteArray) (z:Int) (w:World) (hs:s.size≤1000000) (h0:0≤z) (h1:z≤1000000) :
  Calls Tryz.prog 137 #[.string s,.int .i64 z] w fun e w'=>e=.returned (.int .i64 (dgt s z.toNat))∧w'=w:=
 (digit_c s z w (by omega) h0 (by omega)).mono fun _ _ h=>⟨h.1,h.2.symm⟩
theorem shl_val (d s:Nat) (hd:d<256) (hs:s<8):bits BinOp.and IntKind.i64 (wrap64 ((d:Int)*2^s)) 255=((d*2^s%256:Nat):Int):=by
 have h1:d*2^s≤255*128:=Nat.mul_le_mul (by omega) (Nat.pow_le_pow_right (by decide) (show s≤7 by omega));have e:(d:Int)*2^s=((d*2^s:Nat):Int):=by simp
 rw [e,i64_and255,IntWalk.wrap64_in _ (by omega)];omega
theorem guess_val (u v t:Nat) (hu:u<256) (hv:v<256) (ht:128≤t) (ht8:t<256):min (IntKind.i64.wrap ((bits BinOp.or IntKind.i64 (IntKind.i64.wrap ((u:Int)*256)) (v:Int)).tdiv (t:Int))) 255=((min ((u*256+v) / t) 255:Nat):Int):=by
 have e1:IntKind.i64.wrap ((u:Int)*256)=((u*256:Nat):Int):=by rw [IntWalk.i64_in _ (by omega)];omega
 rw [e1,i64_or _ _ (by omega) (by omega),or8 u v hv,←Int.ofNat_tdiv];have h2:(u*256+v) / t≤u*256+v:=Nat.div_le_self _ _;generalize (u*256+v) / t=q at h2 ⊢;rw [IntWalk.i64_in _ (by omega)];omega
theorem blk_digs (w:World) (m:Nat):Blk (w.alloc (.cells (Array.replicate m (Value.int .i64 0)) 3)) w.heap.size 3 (i64s (digs 0 m)):=by
 have:=Blk.new w (Array.replicate m (Value.int .i64 0)) 3;rw [digs_zero,i64s,List.map_replicate];simpa using this
theorem digs_cell {w:World} {g X M:Nat} {T:TypeId} (h:Blk w g T (i64s (digs X M))) (i:Nat) (hi:i<M):w.cell? ⟨g,i,none⟩=some (.int .i64 ((X / 256^i%256:Nat):Int)):=by
 have hl:i<(digs X M).length:=by rw [digs_len];exact hi
 rw [i64_cell h i hl,digs_get]
theorem digs_put {w:World} {g X M:Nat} {T:TypeId} (h:Blk w g T (i64s (digs X M))) (i v:Nat) (hv:v<256):Blk (w.setCell ⟨g,i,none⟩ (.int .i64 (v:Int))) g T (i64s (digs (setd X i v) M)):=by
 have:=i64_set h i v;rw [digs_set X i v M hv] at this;exact this
end
end Go.Proofs.YtdoacbdkbbpamaaGreatDoor
