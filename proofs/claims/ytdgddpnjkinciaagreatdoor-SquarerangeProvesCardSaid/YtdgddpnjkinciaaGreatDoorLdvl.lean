import Derived.Test.YtdgddpnjkinciaaGreatDoorLdv1
import Derived.Deep.QuietTactic
import Derived.Test.YtdgddpnjkinciaaGreatDoorRMod2
import Derived.ArgAppend
import Derived.Deep.AppendLies
import Derived.Below
import Derived.ChangeSame
import Derived.ChangeMaps5
import Derived.JoinedOf
import Derived.JoinedAt
import Derived.RowKit3
import Derived.Deep.Strs
import Derived.Lib.SmallJoins
import Derived.OpenShut
import Derived.ProofKit
import Derived.RangeFuncNested
import Derived.RangeFuncBound
import Derived.RangeFuncCalls
import Derived.RangeFuncLeaves
import Derived.Shelf.Abstract
import Derived.Shelf.RegionOpen
import Derived.OwnWalkIn
import Derived.TacticsInMore
import Derived.LoopNIn
import Derived.LoopIn
set_option linter.all false
set_option maxRecDepth 100000
set_option maxHeartbeats 16000000
namespace Go.Proofs.YtdgddpnjkinciaaGreatDoor
section
open Go.RowKit
theorem bdrewN (w:World) (n:Nat):Bw w (w.drewN n):=⟨rfl,rfl,rfl,Nat.le_refl _,fun _ _=>rfl⟩
theorem div64_zero (lo y:Nat) (w:World) (h1:0<y) (hy:y<256^8) (hl:lo<256^8) :
  Calls Tryz.prog 200 #[.int .u64 0,.int .u64 lo,.int .u64 y] w fun e w'=>e=.returned (.tuple #[.int .u64 ((lo / y:Nat):Int),.int .u64 ((lo%y:Nat):Int)])∧Bw w w':=by
 have hy0:¬ (y:Int)=0:=by omega
 have hy1:¬ (y:Int)≤0:=by omega
 have hb:=wrapU_div lo y (Nat.lt_of_le_of_lt (Nat.div_le_self _ _) hl);have hc:=wrapU_mod lo y (Nat.lt_of_le_of_lt (Nat.mod_le _ _) hl);clear h1 hy hl;go_enter Tryz.func200,Tryz.ntmps200
 go_wp2;go_quiet (fail)
 all_goals (go_wp2;go_ret2;exact⟨r2 (by simp) (by simp),bdrewN w _⟩)
theorem div64_all (hi lo y:Nat) (w:World) (h1:hi<y) (hy:y<256^8) (hl:lo<256^8) :
  Calls Tryz.prog 200 #[.int .u64 hi,.int .u64 lo,.int .u64 y] w fun e w'=>e=.returned (.tuple #[.int .u64 (((hi*256^8+lo) / y:Nat):Int),.int .u64 (((hi*256^8+lo)%y:Nat):Int)])∧Bw w w':=by
 rcases Nat.eq_zero_or_pos hi with rfl | h0
 ·rw[Nat.zero_mul,Nat.zero_add];exact div64_zero lo y w h1 hy hl
 ·exact (div64_c hi lo y w h0 h1 hy hl).mono fun _ _ ⟨h,hw⟩=>⟨h,hw ▸ Br⟩
theorem rem64_c (hi lo y:Nat) (w:World) (h1:hi<y) (hy:y<256^8) (hl:lo<256^8) :
  Calls Tryz.prog 174 #[.int .u64 hi,.int .u64 lo,.int .u64 y] w fun e w'=>e=.returned (.int .u64 (((hi*256^8+lo)%y:Nat):Int))∧Bw w w':=by
 have hy0:¬ y=0:=by omega
 have HC:=Kh (div64_all hi lo y w h1 hy hl);have hm:(hi:Int)%(y:Int)=(hi:Int):=by rw[←Int.natCast_emod,Nat.mod_eq_of_lt h1]
 generalize (hi*256^8+lo) / y=q at HC;generalize (hi*256^8+lo)%y=r at HC;clear h1 hy hl;go_enter Tryz.func174,Tryz.ntmps174
 go_wp2_with fail
 refine HC.out.mono ?_;rintro e w1 ⟨rfl,hb⟩;go_wp2;go_ret
 exact⟨rfl,hb⟩
end
section
open Go.RowKit
theorem info_nat:(Tryz.prog.info? 22).map (fun i=>(i.zero,i.size,i.bytes))=some (some (.string { data:=#[] }),1,16):=by kernel_rfl
theorem strs_len (l:List Nat):(strs l).length=l.length:=by simp[strs]
theorem strs_one (l:List Nat):∀u∈strs l,u.oneCell'=true:=by
 intro u hu;obtain⟨n,_,rfl⟩:=List.mem_map.1 hu;rfl
theorem strs_app (a b:List Nat):strs a++strs b=strs (a++b):=by simp[strs]
theorem Blk.cells {w:World} {g:Nat} {T:TypeId} {cs:List Value} (h:Blk w g T cs):∀j u,cs[j]?=some u→w.cell? ((⟨g,0,none⟩:Addr).add j)=some u:=by
 intro j u hu;rw[Addr.add_lit,Nat.zero_add,h.cell,hu]
theorem own_cell {w:World} {base g n c:Nat} {e:TypeId} {xs:List Value} (h:w.ownsRow base e 1 (.slice (some ⟨g,0,none⟩) n c) n xs) (j:Nat) (u:Value) (hj:xs[j]?=some u):w.cell? ⟨g,j,none⟩=some u:=by
 have:=h.cells (g:=g) rfl j u hj;rwa [Addr.add_lit,Nat.zero_add]at this
theorem Below.of_grown {w w':World} (h:w.grownBy w' none):Bw w w':=Br.grown h (Nat.le_refl _) (by simp)
theorem mcheck_c (b b':Nat) (l:List Nat) (x:Nat) (w:World) (hu:0<l.length) (hl:l.length≤1000) (hv:∀n∈l,n<256^128) (hx:x<256^128) (h0:0<x) (hB:Blk w b 22 (strs l)) (he:Blk w b' 22 (strs [x])) :
  Calls Tryz.prog 133 #[.slice (some ⟨b,0,none⟩) l.length l.length,.slice (some ⟨b',0,none⟩) 1 1] w fun e w'=>e=.returned (.int .i64 0)∧Bw w w':=by
 obtain⟨i0,hf,hg,hh,hi⟩:=info_parts info_nat
 have HV:Hid (∀n∈l++[x],n<256^128):=by
  intro n hn;rcases List.mem_append.1 hn with h | h
  ·exact hv n h
  ·rw[List.mem_singleton]at h;rw[h];exact hx
 have HL:=Kh (strs_len l);have hz:=nzE h0;have HI:=Kh hf;have hq:=Kh hg;have hr:=Kh hh;have ht:=Kh hi;clear hv hx h0 hf hg hh hi;go_enter Tryz.func133,Tryz.ntmps133
 go_wp2_with (at_builtin;refine wpList_append_grows _ rfl _ _ _ rfl 22 i0 _ 1 16 Tryz.underlying33 HI.out hq.out hr.out ht.out rfl (by omega) (some ⟨b,0,none⟩) l.length l.length (strs l) rfl (fun h=>(by cases h)) (by rw[HL.out,Nat.mul_one]) (fun a ha=>by cases ha;exact hB.cells) ⟨b',0,none⟩ 1 1 (strs [x]) rfl rfl he.cells (strs_one _) (by omega) (by simp only[maxLen];omega) (by omega) ?_;intro v1 w1 hb hd;obtain⟨g,c,rfl,hw,hy⟩:=hb.form (by omega);rw[strs_app]at hb)
 have hm:=Below.of_grown hd;have ho:=he.after hm;have hA:w1.cell? ⟨b',0,none⟩=some (.string (E x)):=ho.cell 0
 have HC:Hid (∀j (hj:j<(l++[x]).length),w1.cell? ⟨g,j,none⟩=some (.string (E (l++[x])[j]))):=by
  intro j hj;exact own_cell hb j _ (by simp only[strs,List.getElem?_map,List.getElem?_eq_getElem hj,Option.map_some])
 clear hb hd hB he ho;go_loop [13] (fun i=>∃k:Nat,k≤l.length+1∧i=.int .i64 k) (fun i=>l.length+1-(intOf i).toNat)
 case atStart=>exact⟨0,by omega,rfl⟩
 case round =>
  obtain⟨k,hk,rfl⟩:=hrel;by_cases hlt:k<l.length+1
  ·have hp:k<(l++[x]).length:=by simp;omega
   have hc:=HC.out k hp;have HN:=Kh (HV.out _ (Gm hp));generalize (l++[x])[k]=n at hc HN;go_wp2_with fail
   refine (validE_c n _ HN.out).mono ?_;rintro e w' ⟨rfl,rfl⟩;go_wp2;go_round
   case rel=>exact⟨k+1,by omega,by go_num⟩
   case measure=>simp[intOf];omega
  ·obtain rfl:k=l.length+1:=by omega
   go_wp2;go_loop [23] (fun i=>i=.int .i64 0∨i=.int .i64 1) (fun i=>1-(intOf i).toNat)
   case atStart=>exact .inl rfl
   case round =>
    rcases hrel with rfl | rfl
    ·go_wp2;go_round
     case rel=>exact .inr rfl
     case measure=>simp[intOf]
    ·go_wp2;go_ret
     exact⟨rfl,hm⟩
theorem mreduced_c (a m:Nat) (w:World) (ha:a<256^8) (hm:m<256^128) (h0:0<m) :
  Calls Tryz.prog 172 #[.string (E a),.string (E m)] w fun e w'=>e=.returned (.string (E (a%m)))∧Bw w w':=by
 have HA:=Kh ha;have HM:=Kh hm;have H0:=Kh h0;clear ha hm h0;go_enter Tryz.func172,Tryz.ntmps172
 go_wp2_with fail
 refine (divmod_c a m _ HA.out HM.out H0.out).mono ?_;rintro e w1 ⟨rfl,hb⟩;go_wp2;go_ret
 exact⟨rfl,hb⟩
theorem mul64F_c (x y:Nat) (w:World) (hx:x<256^8) (hy:y<256^8) :
  Calls Tryz.prog 139 #[.int .u64 x,.int .u64 y] w fun e w'=>e=.returned (.tuple #[.int .u64 ((x*y / 256^8:Nat):Int),.int .u64 ((x*y%256^8:Nat):Int)])∧w=w':=by
 rw[←u64_as_pow]at hx hy;exact (Tryz.bits_Mul64 x y hx hy w).mono fun _ _ h2=>⟨h2.1,h2.2.symm⟩
theorem mulMod_c (a b m hi lo:Nat) (w:World) (ha:a%m<256^8) (hb:b%m<256^8) (hc:a%m*(b%m) / 256^8=hi) (hd:a%m*(b%m)%256^8=lo) :
  Calls Tryz.prog 139 #[.int .u64 ((a:Int)%(m:Int)),.int .u64 ((b:Int)%(m:Int))] w fun e w'=>e=.returned (.tuple #[.int .u64 hi,.int .u64 lo])∧w=w':=by
 rw[←Int.natCast_emod,←Int.natCast_emod,←hc,←hd];exact mul64F_c _ _ w ha hb
theorem rem64R_c (hi lo y r:Nat) (w:World) (h1:hi<y) (hy:y<256^8) (hl:lo<256^8) (hr:(hi*256^8+lo)%y=r) :
  Calls Tryz.prog 174 #[.int .u64 hi,.int .u64 lo,.int .u64 y] w fun e w'=>e=.returned (.int .u64 (r:Int))∧Bw w w':=by
 rw[←hr];exact rem64_c hi lo y w h1 hy hl
theorem mtimes_aux (a b m hi lo r:Nat) (w:World) (ha:a<256^8) (hb:b<256^8) (hm:m<256^8) (h0:0<m) (hc:a%m*(b%m) / 256^8=hi) (hd:a%m*(b%m)%256^8=lo) (hr:(hi*256^8+lo)%m=r) (h1:hi<m) (hl:lo<256^8) :
  Calls Tryz.prog 134 #[.string (E a),.string (E b),.string (E m)] w fun e w'=>e=.returned (.string (E r))∧Bw w w':=by
 have h1:=(E_size_le a 8).2 ha;have h2:=(E_size_le b 8).2 hb;have h3:=(E_size_le m 8).2 hm;have HA:=Kh ha;have HB:=Kh hb;have HM:=Kh hm;have HR:=Kh (rem64R_c hi lo m r · ‹_› hm hl hr);have hf:Hid (r<256^8):=by rw[Hid,←hr];exact Nat.lt_trans (Nat.mod_lt _ h0) hm
 have HU:=Kh (mulMod_c a b m hi lo · (Nat.lt_trans (Nat.mod_lt a h0) hm) (Nat.lt_trans (Nat.mod_lt b h0) hm) hc hd);have hy0:¬ m=0:=by omega
 clear ha hb hm h0 hc hd hr hl ‹hi<m›;go_enter Tryz.func134,Tryz.ntmps134
 go_wp2_with fail
 refine (small_c a _ HA.out).mono ?_;rintro e w' ⟨rfl,rfl⟩;go_wp2_with fail
 refine (small_c b _ HB.out).mono ?_;rintro e w' ⟨rfl,rfl⟩;go_wp2_with fail
 refine (small_c m _ HM.out).mono ?_;rintro e w' ⟨rfl,rfl⟩;go_wp2_with fail
 refine wp_region_gw (by kernel_rfl) (by kernel_rfl) ?_;repeat (go_big_quiet_step (first | (go_at_call 139;exact gw_same (HU.out _))))
 refine wpQuiet_nil ?_;rintro w1 ⟨xw1,rfl⟩;have he:=gw_below xw1;generalize gw xw1=w1 at he;go_wp2_with fail
 refine (HR.out _).mono ?_;rintro e w2 ⟨rfl,hg⟩;go_wp2_with fail
 refine (of_c r _ hf.out).mono ?_;rintro e w3 ⟨rfl,hh⟩;go_wp2;go_ret
 exact⟨rfl,bt (bt he hg) hh⟩
theorem mtimes_c (a b m:Nat) (w:World) (ha:a<256^8) (hb:b<256^8) (hm:m<256^8) (h0:0<m) :
  Calls Tryz.prog 134 #[.string (E a),.string (E b),.string (E m)] w fun e w'=>e=.returned (.string (E (a*b%m)))∧Bw w w':=by
 have hc:=Nat.mod_lt a h0;have hd:=Nat.mod_lt b h0;have hp:(0:Nat)<256^8:=by decide
 refine mtimes_aux a b m _ _ _ w ha hb hm h0 rfl rfl ?_ ?_ (Nat.mod_lt _ hp)
 ·rw[Nat.mul_comm _ (256^8),Nat.div_add_mod,←Nat.mul_mod]
 ·rw[Nat.div_lt_iff_lt_mul hp];exact Nat.mul_lt_mul'' hc (Nat.lt_trans hd hm)
theorem mmul_c (a b m:Nat) (w:World) (ha:a<256^8) (hb:b<256^8) (hm:m<256^8) (h0:0<m) :
  Calls Tryz.prog 88 #[.string (E a),.string (E b),.string (E m)] w fun e w'=>e=.returned (.tuple #[.string (E (a*b%m)),.int .i64 0])∧Bw w w':=by
 have HC:=Kh (mcheck_c w.heap.size (w.heap.size+1) [a,b] m ((w.alloc (.cells #[.string (E a),.string (E b)] 22)).alloc (.cells #[.string (E m)] 22)) (by simp) (by simp) (by simp[lt128 ha,lt128 hb]) (lt128 hm) h0 (blk2a _ _ _ _ _) (blk2b _ _ _ _ _));have HT:=Kh (mtimes_c a b m · ha hb hm h0);clear ha hb hm h0;go_enter Tryz.func88,Tryz.ntmps88
 go_wp2_with fail
 refine (HC.out).mono ?_;rintro e w1 ⟨rfl,hc⟩;go_wp2_with fail
 refine (HT.out _).mono ?_;rintro e w2 ⟨rfl,hd⟩;go_wp2;go_ret2
 exact⟨rfl,bt (bt (b2 _ _ _) hc) hd⟩
end
section
/- A row's last step. -/
open Go.RowKit Go.WideShapes Go.ChangeShapes Go.ChangeAt Go.Joins Go.Deep
open Go.ChangeMaps (open_string shut_string)
section
variable {H:Type} {enc:TypeId × Value→H} {P:Program}
theorem post_of_below {f:Func} {s:ChangeSpec} {apart fresh hc again:Bool} {W W':World} {args:Array Value} {v:Value} {ds gs:List (DataW H)} {before pa pv:List MemPlace}
  (hW:DataW.Whole enc P f.params.toList s.vars apart W args.toList ds gs before)
  (hg:∀(b:Nat) (sp:Nat→Bool) (hd:Bool),DataW.TrodAll enc P W' b sp hd f.resultTypes.toList (v.resultList f.resultTypes.size) (s.fn H (ds++gs)).results [])
  (he:∀sp:Nat→Bool,(∀p∈before,sp p.block=true)→DataW.TrodAll enc P W' 0 sp true f.params.toList args.toList (s.fn H (ds++gs)).args pa)
  (hf:∀sp:Nat→Bool,(∀p∈before,sp p.block=true)→DataW.TrodVars enc P W' sp s.vars (s.fn H (ds++gs)).vars pv)
  (hi:before=pa++pv) (hb:Bw W W')
  (hk:∀(j:Nat) (t:TypeId) (r:Value),f.resultTypes[j]?=some t→(v.resultList f.resultTypes.size)[j]?=some r→Value.okWide P W' .any 0 t r) :
  s.post enc P f apart fresh hc again W args v W':=by
 have hlt:∀p∈before,p.block<W.heap.size:=fun p hp=>hW.lt p hp
 have hh:∀p∈before,(fun b=>decide (b<W.heap.size)) p.block=true:=fun p hp=>by simpa using hlt p hp
 refine⟨ds,gs,before,[],pa,pv,hW,hg _ _ _,he _ hh,hf _ hh,World.keptBut_mono (fun p hp=>⟨hp,?_⟩) (hb.frame (·∈before)),fun _=>?_⟩
 ·rw[hi,List.mem_append]at hp;exact Or.inr hp
 ·obtain⟨_,_,_,_,_,hz,hn⟩:=hW;refine⟨hk,_,_,([]++pa)++pv,⟨[]++pa,pv,trodAll_append (he _ (fun _ _=>rfl)) (hg _ _ _),hf _ (fun _ _=>rfl),rfl,?_,?_⟩,?_⟩
  ·intro b off hp;have hj:MemPlace.cell b off∈before:=by rw[hi];simpa using hp
   rw[hb.frozen (hlt _ hj)];exact hz b off hj
  ·intro ha;have:=hn ha;rw[hi]at this;simpa using this
  ·intro p hp _;rw[hi];simpa using hp
end
theorem own_knob:ownKnob Tryz.prog.godebug=none:=by kernel_rfl
end
section
open Go.RowKit Go.Shelf
attribute [local go_sem] Oper.semAt_some
def upto {α:Type} (f:Nat→α) (k:Nat):List α:=(List.range k).map f
theorem upto_succ {α:Type} (f:Nat→α) (k:Nat):upto f (k+1)=upto f k++[f k]:=by simp[upto,List.range_succ]
theorem upto_length {α:Type} (f:Nat→α) (k:Nat):(upto f k).length=k:=by simp[upto]
def bitAt (e k:Nat):Bool:=bitB e (nb e-1-k)
def bval (l:List Bool):Nat:=l.foldl (fun n b=>2*n+b.toNat) 0
theorem bval_snoc (l:List Bool) (b:Bool):bval (l++[b])=2*bval l+b.toNat:=by simp[bval]
theorem bval_upto (e k:Nat) (h:k≤nb e):bval (upto (bitAt e) k)=e / 2^(nb e-k):=by
 induction k with
 | zero=>rw[Nat.sub_zero,Nat.div_eq_of_lt (lt_nb e)];rfl
 | succ k ih =>
  rw[upto_succ,bval_snoc,ih (by omega)];have e1:nb e-k=(nb e-(k+1))+1:=by omega
  have e2:bitAt e k=bitB e (nb e-(k+1)):=by unfold bitAt;congr 1;omega
  rw[e2,e1];cases hb:bitB e (nb e-(k+1))
  ·rw[bit_nil hb];rfl
  ·rw[bit_one hb];rfl
theorem bval_all (e:Nat):bval (upto (bitAt e) (nb e))=e:=by
 rw[bval_upto e _ (Nat.le_refl _),Nat.sub_self,Nat.pow_zero,Nat.div_one]
theorem wide_depth {n:Nat}:Fence.wide.depth.isSome=true→1≤n:=fun h=>by simp[Fence.wide]at h
def KpE (b:Nat) (A B:World):Prop:=B.cell? ⟨b,0,none⟩=A.cell? ⟨b,0,none⟩
theorem digits1_in (n l b e:Nat) (he:e<256^128) (J Jx:List Bool→World→Prop)
  (hY:∀pre x W,J pre W→pre.length<nb e→YieldAt Fence.wide (n-1) Tryz.prog l #[.bool x] W fun e W' =>
   (e=.returned (.bool true)∧J (pre++[x]) W'∧KpE b W W')∨(e=.returned (.bool false)∧Jx (pre++[x]) W'))
  (W:World) (hc:W.cell? ⟨b,0,none⟩=some (.string (E e))) (h0:J [] W) :
  CallsIn Fence.wide n Tryz.prog 213 #[.func (.yield l) #[] #[],.pointer (some ⟨b,0,none⟩)] W fun r W'=>(∃v,r=.returned v) ∧
   ((∃ys,ys=upto (bitAt e) (nb e)∧J ys W')∨(∃pre,True∧Jx pre W')):=by
 have HE:=Kh he;have hi:=nb_le e 128 (sz e he);clear he;refine callsIn_of_wp Tryz.func213 rfl trivial ?_ rfl;simp only[Tryz.ntmps213,List.size_toArray,List.length_cons,List.length_nil,Nat.reduceAdd,Nat.reduceSub,Array.replicate_succ,Array.replicate_zero,List.push_toArray,List.append_toArray,List.nil_append,List.cons_append];gi_wp2_with fail
 refine⟨trivial,wide_depth,?_⟩;refine (callsIn_wide.2 (bits_c e _ HE.out)).mono ?_;rintro e w' ⟨rfl,rfl⟩;gi_wp2
 gi_loopw [3] (fun i wr=>∃j:Nat,j≤nb e∧i=.int .i64 ((j:Int)-1)∧J (upto (bitAt e) (nb e-j)) wr∧wr.cell? ⟨b,0,none⟩=some (.string (E e)))
  (fun i _=>(intOf i+1).toNat)
 case atStart=>exact⟨nb e,Nat.le_refl _,rfl,by rw[Nat.sub_self];exact h0,hc⟩
 case round =>
  obtain⟨j,hj,rfl,hd,hf⟩:=hrel;by_cases hlt:0<j
  ·obtain⟨i,rfl⟩:∃i,j=i+1:=⟨j-1,by omega⟩;have HI:Hid (((i+1:Nat):Int)-1=(i:Int)):=by unfold Hid;omega
   rw[HI.out];have hx:bitAt e (nb e-(i+1))=bitB e i:=by unfold bitAt;congr 1;omega
   obtain⟨fn,tmps,assign,body,hy,hR⟩:=hY _ (bitB e i) wr hd (by rw[upto_length];omega)
   have HS:Hid (upto (bitAt e) (nb e-i)=upto (bitAt e) (nb e-(i+1))++[bitB e i]):=by
    rw[Hid,←hx,←upto_succ];congr 1;omega
   clear hx;gi_wp2_with fail
   refine⟨trivial,wide_depth,?_⟩;refine (callsIn_wide.2 (bit_c e i _ HE.out (by omega))).mono ?_;rintro e w' ⟨rfl,rfl⟩;gi_wp2
   refine⟨wide_depth,hR.mono ?_⟩;rintro r W3 (⟨rfl,hg,hh⟩ | ⟨rfl,hb⟩)
   ·gi_wp2
    go_roundw
    case rel=>exact⟨i,by omega,rfl,by rw[HS.out];exact hg,hh.trans hf⟩
    case measure=>simp[intOf] <;> omega
   ·gi_wp2
    refine bodyPost_ret (results_none rfl _ _ _) rfl ?_;exact⟨⟨_,rfl⟩,.inr ⟨_,trivial,hb⟩⟩
  ·obtain rfl:j=0:=by omega
   gi_wp2
   go_end0
   exact⟨⟨_,rfl⟩,.inl ⟨_,by rw[Nat.sub_zero],hd⟩⟩
theorem digits_stops (n b e:Nat) (he:e<256^128) (w:World) (hb:b<w.heap.size) (hc:w.cell? ⟨b,0,none⟩=some (.string (E e))) :
  SeqStopsK Fence.wide n Tryz.prog 213 #[.pointer (some ⟨b,0,none⟩)] (fun x:Bool=>#[.bool x]) (KpE b) (fun xs=>xs=upto (bitAt e) (nb e)) (fun _=>True) (nb e) w:=
 fun l J Jx W hW hJ hd hY h0=>digits1_in n l b e he J Jx hY W ((hW.cell (p:=⟨b,0,none⟩) hb).trans hc) h0
theorem mdigits_c (e:Nat) (w:World) :
  Calls Tryz.prog 198 #[.string (E e)] w fun r w'=>r=.returned (.func (.func 213) #[] #[.pointer (some ⟨w.heap.size,0,none⟩)])∧w'=w.alloc (.cells #[.string (E e)] 22):=by
 go_enter Tryz.func198,Tryz.ntmps198
 go_wp2;go_ret
 exact⟨rfl,rfl⟩
theorem keeps_of_below {W W':World} (h:Bw W W'):KeepsOthers W W':=
 ⟨h.size,fun k o hk _=>(h.block k (Array.getElem?_eq_some_iff.1 hk).1).trans hk⟩
theorem mred1_c (m:Nat) (w:World) (hm:m<256^128) (h0:0<m) :
  Calls Tryz.prog 172 #[.string { data:=#[1] },.string (E m)] w fun e w'=>e=.returned (.string (E (1%m)))∧Bw w w':=
 mreduced_c 1 m w (by decide) hm h0
theorem blk4c (w:World) (O P D:Obj) (C:Array Value) (T:TypeId):Blk ((((w.alloc O).alloc P).alloc (.cells C T)).alloc D) (w.heap.size+1+1) T C.toList:=by
 have h:=(Blk.new ((w.alloc O).alloc P) C T).alloc D;rw[show ((w.alloc O).alloc P).heap.size=w.heap.size+1+1 by simp]at h;exact h
theorem blk4d (w:World) (O P Q:Obj) (C:Array Value) (T:TypeId):Blk ((((w.alloc O).alloc P).alloc Q).alloc (.cells C T)) (w.heap.size+1+1+1) T C.toList:=by
 have h:=Blk.new (((w.alloc O).alloc P).alloc Q) C T;rw[show (((w.alloc O).alloc P).alloc Q).heap.size=w.heap.size+1+1+1 by simp]at h;exact h
theorem Blk.own {A B:World} {g:Nat} {T:TypeId} {cs:List Value} {row:Option Nat} (h:Blk A g T cs) (hg:A.grownBy B row) (hr:∀r,row=some r→∃o:Obj,A.heap[r]?=some o∧o.isCells=false):Blk B g T cs:=by
 unfold Blk;rw[hg.block g h.lt (fun e=>?_)]
 ·exact h
 ·obtain⟨o,ho,hc⟩:=hr g e.symm;rw[show A.heap[g]?=some (.cells cs.toArray T (0,0)) from h]at ho;cases ho
  exact Bool.noConfusion hc
theorem exp_step0 (a k m:Nat):a^k%m*(a^k%m)%m=a^(2*k+Bool.toNat false)%m:=by
 rw[show 2*k+Bool.toNat false=k+k by simp[Nat.two_mul],Nat.pow_add,←Nat.mul_mod]
theorem exp_step1 (a k m:Nat):a^k%m*(a^k%m)*a%m=a^(2*k+Bool.toNat true)%m:=by
 rw[show 2*k+Bool.toNat true=k+k+1 by simp[Nat.two_mul],Nat.pow_succ,Nat.pow_add,Nat.mul_mod,show a^k%m*(a^k%m)%m=a^k*a^k%m from (Nat.mul_mod _ _ _).symm,←Nat.mul_mod]
def ExpI (w w3:World) (a e m:Nat) (pre:List Bool) (W:World):Prop:=
 Blk W w3.heap.size 22 [.string (E (a^bval pre%m))]∧Blk W (w3.heap.size+1) 22 [.string (E e)]∧Blk W w.heap.size 22 [.string (E (a%m))]∧Blk W (w.heap.size+1) 22 [.string (E m)]∧Bw w W
theorem ExpI.own (w w3:World) (a e m B:Nat) (hB:w.heap.size≤B):OwnFrom B (ExpI w w3 a e m):=
 fun s X Y row hs hg hr=>⟨hs.1.own hg (fun r h=>(hr r h).2),hs.2.1.own hg (fun r h=>(hr r h).2),hs.2.2.1.own hg (fun r h=>(hr r h).2),hs.2.2.2.1.own hg (fun r h=>(hr r h).2),hs.2.2.2.2.grown hg hs.2.2.2.2.size (fun k h=>Nat.le_trans hB (hr k h).1)⟩
theorem mexp_c (a e m:Nat) (w:World) (ha:a<256^8) (he:e<256^128) (hm:m<256^8) (h0:0<m) :
  Calls Tryz.prog 167 #[.string (E a),.string (E e),.string (E m)] w fun r w'=>r=.returned (.tuple #[.string (E (a^e%m)),.int .i64 0])∧Bw w w':=by
 have HA:=Kh ha;have HE:=Kh he;have HM:=Kh (lt128 hm);have hh:=Kh hm;have H0:=Kh h0;have H1:Hid ((1:Nat)<256^8):=by unfold Hid;decide
 have HC:=Kh (mcheck_c (w.heap.size+1+1) (w.heap.size+1+1+1) [a,e] m ((((w.alloc (.cells #[.string (E a)] 22)).alloc (.cells #[.string (E m)] 22)).alloc (.cells #[.string (E a),.string (E e)] 22)).alloc (.cells #[.string (E m)] 22)) (by simp) (by simp) (by simp[lt128 ha,he]) (lt128 hm) h0 (blk4c _ _ _ _ _ _) (blk4d _ _ _ _ _ _));have hA:=(blk2a w #[.string (E a)] #[.string (E m)] 22 22).alloc (.cells #[.string (E a),.string (E e)] 22) |>.alloc (.cells #[.string (E m)] 22);have hM:=(blk2b w #[.string (E a)] #[.string (E m)] 22 22).alloc (.cells #[.string (E a),.string (E e)] 22) |>.alloc (.cells #[.string (E m)] 22);have ht:Bw w ((((w.alloc (.cells #[.string (E a)] 22)).alloc (.cells #[.string (E m)] 22)).alloc (.cells #[.string (E a),.string (E e)] 22)).alloc (.cells #[.string (E m)] 22)):=ba (ba (b2 _ _ _) _) _;clear ha he hm h0;refine (callsIn_wide (n:=3)).1 ?_;refine callsIn_of_wp_marks Tryz.func167 rfl trivial ?_ rfl;simp only[Tryz.ntmps167,List.size_toArray,List.length_cons,List.length_nil,Nat.reduceAdd,Nat.reduceSub,Array.replicate_succ,Array.replicate_zero,List.push_toArray,List.append_toArray,List.nil_append,List.cons_append];gi_wp2_with fail
 refine⟨trivial,?_⟩;refine (callsIn_wide.2 (HC.out)).mono ?_;rintro e w1 ⟨rfl,hn⟩;replace hA:=hA.after hn;replace hM:=hM.after hn;obtain⟨hc,hd⟩:=hA.x1;obtain⟨hf,hg⟩:=hM.x1;gi_wp2_with fail
 refine⟨trivial,?_⟩;refine (callsIn_wide.2 (mreduced_c a m _ HA.out HM.out H0.out)).mono ?_;rintro e w2 ⟨rfl,hp⟩;have hj:=(bt ht hn);clear hc hd;clear hf hg;replace hA:=hA.after hp;replace hM:=hM.after hp;obtain⟨hc,hd⟩:=hA.x1;obtain⟨hf,hg⟩:=hM.x1;gi_wp2_with fail
 refine⟨trivial,?_⟩;refine (callsIn_wide.2 (mred1_c m _ HM.out H0.out)).mono ?_;rintro e w3 ⟨rfl,hq⟩;have hk:Bw w w3:=bt ((bt hj hp).setCell (p:=⟨w.heap.size,0,none⟩) (Nat.le_refl _) (.string (E (a%m)))) hq;clear hc hd;clear hf hg;replace hA:=(hA.set 0 (.string (E (a%m)))).after hq;replace hM:=(hM.other ⟨w.heap.size,0,none⟩ (.string (E (a%m))) (by simp)).after hq;clear hj ht;gi_wp2_with fail
 refine⟨trivial,?_⟩;refine (callsIn_wide.2 (mdigits_c e _)).mono ?_;rintro r w4 ⟨rfl,rfl⟩;gi_wp2_with fail
 have hz:w.heap.size+1<w3.heap.size:=hM.lt;have hO:=blk2a w3 #[.string (E (1%m))] #[.string (E e)] 22 22;have hE:=blk2b w3 #[.string (E (1%m))] #[.string (E e)] 22 22;replace hA:=(hA.alloc (.cells #[.string (E (1%m))] 22)).alloc (.cells #[.string (E e)] 22);replace hM:=(hM.alloc (.cells #[.string (E (1%m))] 22)).alloc (.cells #[.string (E e)] 22);have hw:=ba (ba hk (.cells #[.string (E (1%m))] 22)) (.cells #[.string (E e)] 22);have hr:((w3.alloc (.cells #[.string (E (1%m))] 22)).alloc (.cells #[.string (E e)] 22)).heap.size=w3.heap.size+1+1:=by simp
 clear hn hp hq hk HC
 refine wpIn_rangeFunc_ownF rfl (by omega) (gf:=213) (lb:=#[.pointer (some ⟨w3.heap.size+1,0,none⟩)]) rfl trivial (enters_of Tryz.func213 (by kernel_rfl) rfl)
  (digits_stops _ (w3.heap.size+1) e HE.out _ hE.lt (hE.cell 0)) (fun h k=>k.trans h)
  (fun W l o o' hl ho h1 h2=>(belowK_b (Nat.le_refl _) W l o o' hl ho h1 h2).cell (p:=⟨w3.heap.size+1,0,none⟩) (by rw[hr];simp)) Br (fun _=>rfl)
  (ExpI w w3 a e m) (fun _ _ _=>False) (ExpI.own w w3 a e m _ (by rw[hr];omega)) (fun _ _ _ _ _ hs _ _=>hs)
  ⟨hO,hE,hA,hM,hw⟩
  (fun x=>{ tmps:=#[.string (E a),.string (E e),.string (E m),.pointer (some ⟨w.heap.size,0,none⟩),undef,.pointer (some ⟨w.heap.size+1,0,none⟩),.string { data:=#[] },.int .i64 0,.int .i64 0,.pointer (some ⟨w3.heap.size,0,none⟩),.bool x,.string (E a),.string (E e),.slice (some ⟨w.heap.size+1+1,0,none⟩) 2 2,.string (E m),.slice (some ⟨w.heap.size+1+1+1,0,none⟩) 1 1,.int .i64 0,.int .i64 0,.bool false,undef,.string (E a),.string (E m),.string (E (a%m)),.string (E m),.string (E (1%m)),.string (E e),.func (.func 213) #[] #[.pointer (some ⟨w3.heap.size+1,0,none⟩)],.bool x,undef,undef,undef,undef,undef,undef,undef,undef,undef,undef],defers:=[] }) ?assign ?body ?done ?stop
 case assign =>
  intro l x W K hK;gi_wp2
  exact hK
 case body =>
  rintro l pre x W ⟨iO,iE,iA,iM,iB⟩ _;have HS:=Kh (bval_snoc pre x);have hlt:=Nat.mod_lt (a^bval pre) H0.out;have hu:=Kh (exp_step0 a (bval pre) m);have hv:=Kh (exp_step1 a (bval pre) m);generalize a^bval pre%m=y at iO hlt hu hv;have HY:=Kh (Nat.lt_trans hlt hh.out);have hx:=Kh (Nat.lt_trans (Nat.mod_lt (y*y) H0.out) hh.out);have hy:=Kh (Nat.lt_trans (Nat.mod_lt a H0.out) hh.out);clear hlt;have iEc:=iE.cell 0;obtain⟨iOc0,iOf0⟩:=iO.x1;obtain⟨iAc0,iAf0⟩:=iA.x1;obtain⟨iMc0,iMf0⟩:=iM.x1;have iBs:w.heap.size≤w3.heap.size:=by omega
  cases x
  ·gi_wp2_with fail
   refine⟨trivial,?_⟩;refine (CallsIn.inRound _ (callsIn_wide.2 (mtimes_c y y m _ HY.out HY.out hh.out H0.out))).mono ?_;rintro e w5 ⟨rfl,hb⟩;clear iOc0 iOf0;clear iAc0 iAf0;clear iMc0 iMf0;replace iO:=iO.after hb;replace iE:=iE.after hb;replace iA:=iA.after hb;replace iM:=iM.after hb;obtain⟨iOc0,iOf0⟩:=iO.x1;gi_wp2
   refine⟨(keeps_of_below hb).trans (KeepsOthers.setCell _ _ _),?_,?_,iE.other _ _ (by simp),iA.other _ _ (by simp;omega),iM.other _ _ (by simp;omega),(bt iB hb).setCell (p:=⟨w3.heap.size,0,none⟩) iBs _⟩
   ·exact (iE.other _ _ (by simp)).cell 0 |>.trans (iEc.symm)
   ·rw[HS.out,←hu.out];exact iO.set 0 _
  ·gi_wp2_with fail
   refine⟨trivial,?_⟩;refine (CallsIn.inRound _ (callsIn_wide.2 (mtimes_c y y m _ HY.out HY.out hh.out H0.out))).mono ?_;rintro e w5 ⟨rfl,hb⟩;clear iOc0 iOf0;clear iAc0 iAf0;clear iMc0 iMf0;replace iO:=iO.after hb;replace iE:=iE.after hb;replace iA:=iA.after hb;replace iM:=iM.after hb;obtain⟨iOc0,iOf0⟩:=iO.x1;obtain⟨iAc0,iAf0⟩:=iA.x1;obtain⟨iMc0,iMf0⟩:=iM.x1;gi_wp2_with fail
   refine⟨trivial,?_⟩;refine (CallsIn.inRound _ (callsIn_wide.2 (mtimes_c (y*y%m) (a%m) m _ hx.out hy.out hh.out H0.out))).mono ?_;rintro e w6 ⟨rfl,hi⟩;clear iOc0 iOf0;clear iAc0 iAf0;clear iMc0 iMf0;replace iO:=(iO.set 0 (.string (E (y*y%m)))).after hi;replace iE:=(iE.other ⟨w3.heap.size,0,none⟩ (.string (E (y*y%m))) (by simp)).after hi;replace iA:=(iA.other ⟨w3.heap.size,0,none⟩ (.string (E (y*y%m))) (by simp;omega)).after hi;replace iM:=(iM.other ⟨w3.heap.size,0,none⟩ (.string (E (y*y%m))) (by simp;omega)).after hi;have iB6:=bt ((bt iB hb).setCell (p:=⟨w3.heap.size,0,none⟩) iBs (.string (E (y*y%m)))) hi;obtain⟨iOc0,iOf0⟩:=iO.x1;gi_wp2
   refine⟨(((keeps_of_below hb).trans (KeepsOthers.setCell _ _ _)).trans (keeps_of_below hi)).trans (KeepsOthers.setCell _ _ _),?_,?_,iE.other _ _ (by simp),iA.other _ _ (by simp;omega),iM.other _ _ (by simp;omega),iB6.setCell (p:=⟨w3.heap.size,0,none⟩) iBs _⟩
   ·exact (iE.other _ _ (by simp)).cell 0 |>.trans (iEc.symm)
   ·rw[HS.out,←hv.out];exact iO.set 0 _
 case done =>
  rintro D ys W hD rfl ⟨iO,iE,iA,iM,iB⟩ hK;rw[bval_all]at iO;obtain⟨iOc0,iOf0⟩:=iO.x1;gi_wp2
  refine⟨by simp,.inl ⟨_,_,rfl,run_takeDeferred hK,?_⟩⟩;refine⟨.tuple #[.string (E (a^e%m)),.int .i64 0],by simp[results,Tryz.results167,go_sem],rfl,?_⟩;exact iB.trans (belowK_b (w:=w) (Nat.le_refl _) W D _ _ (by rw[hr]at hD;omega) hK rfl rfl)
 case stop =>
  rintro D c pre W _ _ h _;exact h.elim
end
section
open Go.RowKit
theorem lz8_spec:∀x:Fin 256,x.1≠0→∃s:Fin 8,(8-(Lib.bitLen x.1:Int))=(s.1:Int)∧128≤x.1*2^s.1∧(x.1+1)*2^s.1≤256:=by decide +kernel
theorem lz8_c (x:Nat) (w:World) (h:x<256):Calls Tryz.prog 197 #[.int .u8 (x:Int)] w fun e w'=>e=.returned (.int .i64 (8-(Lib.bitLen x:Int)))∧w=w':=
 (Tryz.bits_LeadingZeros8 (x:Int) w (by omega) (by omega)).mono fun _ _ h=>⟨by rw[h.1,Int.toNat_natCast],h.2.symm⟩
theorem scale_spec (b s n:Nat) (hn:n=(E b).size) (h0:0<b) (h1:128≤b / 256^(n-1)*2^s) (h2:(b / 256^(n-1)+1)*2^s≤256):0<n∧b*2^s<256^n∧128≤b*2^s / 256^(n-1):=by
 have hb:0<n:=by rw[hn];exact (E_size_pos b).2 h0
 refine⟨hb,?_,?_⟩
 ·have h3:b<(b / 256^(n-1)+1)*256^(n-1):=by
   have:=Nat.div_add_mod b (256^(n-1));have h4:=Nat.mod_lt b (p256 (n-1));rw[Nat.add_mul,Nat.one_mul,Nat.mul_comm (b / _)];omega
  have h5:b*2^s<(b / 256^(n-1)+1)*256^(n-1)*2^s:=Nat.mul_lt_mul_of_pos_right h3 (Nat.pow_pos (by decide));have h6:(b / 256^(n-1)+1)*2^s*256^(n-1)≤256*256^(n-1):=Nat.mul_le_mul_right _ h2
  have h7:256*256^(n-1)=256^n:=by
   conv=>rhs;rw[show n=n-1+1 by omega,Nat.pow_succ,Nat.mul_comm]
  rw[Nat.mul_assoc,Nat.mul_comm (256^(n-1)),←Nat.mul_assoc]at h5;omega
 ·refine Nat.le_trans h1 ?_;rw[Nat.le_div_iff_mul_le (p256 _),Nat.mul_right_comm];exact Nat.mul_le_mul_right _ (Nat.div_mul_le_self _ _)
theorem i64_and255 (n:Int):bits .and .i64 n 255=n%256:=by
 have h1:(BitVec.ofInt 64 255).toNat=2^8-1:=by decide
 have key:(BitVec.ofInt 64 n &&& BitVec.ofInt 64 255).toNat=(n%((2^64:Nat):Int)).toNat%2^8:=by
  rw[BitVec.toNat_and,BitVec.toNat_ofInt,h1,Nat.and_two_pow_sub_one_eq_mod]
 show IntKind.i64.wrap ((BitVec.ofInt 64 n &&& BitVec.ofInt 64 255).toNat:Nat)=n%256;rw[key,IntKind.wrap_i64];omega
theorem i64_or (a b:Nat) (ha:a<65536) (hb:b<65536):bits .or .i64 (a:Int) (b:Int)=((a ||| b:Nat):Int):=by
 have h:(a ||| b)<2^16:=Nat.or_lt_two_pow ha hb
 have key:(BitVec.ofInt 64 (a:Int) ||| BitVec.ofInt 64 (b:Int)).toNat=a ||| b:=by
  rw[BitVec.toNat_or,BitVec.toNat_ofInt,BitVec.toNat_ofInt];rw[show ((a:Int)%((2^64:Nat):Int)).toNat=a by omega,show ((b:Int)%((2^64:Nat):Int)).toNat=b by omega]
 show IntKind.i64.wrap ((BitVec.ofInt 64 (a:Int) ||| BitVec.ofInt 64 (b:Int)).toNat:Nat)=_;rw[key,IntKind.wrap_i64];omega
theorem setd_setd (X p v u:Nat) (hv:v<256):setd (setd X p v) p u=setd X p u:=by
 have h1:=setd_div X p v (p+1) hv (by omega)
 have h2:setd X p v%256^p=X%256^p:=by
  have e1:∀A P:Nat,A*(P*256)=P*(256*A):=fun A P=>by rw[Nat.mul_comm A,Nat.mul_assoc]
  unfold setd;rw[Nat.pow_succ,e1,Nat.mul_comm v,←Nat.mul_add,Nat.add_comm,Nat.add_mul_mod_self_left,Nat.mod_mod]
 show setd X p v / 256^(p+1)*256^(p+1)+u*256^p+setd X p v%256^p=_;rw[h1,h2];rfl
theorem or_val (x s k v0:Nat) (hs:s<8) (hk:0<k) (hv:v0=dgt (E x) k*2^s%256):bits BinOp.or IntKind.i64 (v0:Int) ((dgt (E x) (k-1):Int) / 2^(8-s))=((x*2^s / 256^k%256:Nat):Int):=by
 obtain⟨j,rfl⟩:∃j,k=j+1:=⟨k-1,by omega⟩;have h1:=dgt_lt (E x) (j+1-1);rw[dgt_E]at h1;have e:(dgt (E x) (j+1-1):Int) / 2^(8-s)=((dgt (E x) (j+1-1) / 2^(8-s):Nat):Int):=by rw[Int.natCast_ediv];simp
 rw[e,dgt_E,hv,dgt_E,Nat.add_sub_cancel,shl_dig x s j (by omega),←shl_or _ _ s (by omega)];have h2:x / 256^j%256 / 2^(8-s)≤x / 256^j%256:=Nat.div_le_self _ _;rw[Nat.add_sub_cancel]at h1;exact i64_or _ _ (by omega) (by omega)
theorem digz_c (s:ByteArray) (z:Int) (w:World) (hs:s.size≤1000000) (h0:0≤z) (h1:z≤1000000) :
  Calls Tryz.prog 149 #[.string s,.int .i64 z] w fun e w'=>e=.returned (.int .i64 (dgt s z.toNat))∧w'=w:=
 (digit_c s z w (by omega) h0 (by omega)).mono fun _ _ h=>⟨h.1,h.2.symm⟩
theorem shl_val (d s:Nat) (hd:d<256) (hs:s<8):bits BinOp.and IntKind.i64 (wrap64 ((d:Int)*2^s)) 255=((d*2^s%256:Nat):Int):=by
 have h1:d*2^s≤255*128:=Nat.mul_le_mul (by omega) (Nat.pow_le_pow_right (by decide) (show s≤7 by omega));have e:(d:Int)*2^s=((d*2^s:Nat):Int):=by simp
 rw[e,i64_and255,IntWalk.wrap64_in _ (by omega)];omega
theorem guess_val (u v t:Nat) (hu:u<256) (hv:v<256) (ht:128≤t) (hb:t<256):min (IntKind.i64.wrap ((bits BinOp.or IntKind.i64 (IntKind.i64.wrap ((u:Int)*256)) (v:Int)).tdiv (t:Int))) 255=((min ((u*256+v) / t) 255:Nat):Int):=by
 have e1:IntKind.i64.wrap ((u:Int)*256)=((u*256:Nat):Int):=by rw[IntWalk.i64_in _ (by omega)];omega
 rw[e1,i64_or _ _ (by omega) (by omega),or8 u v hv,←Int.ofNat_tdiv];have h2:(u*256+v) / t≤u*256+v:=Nat.div_le_self _ _;generalize (u*256+v) / t=q at h2 ⊢;rw[IntWalk.i64_in _ (by omega)];omega
theorem blk_digs (w:World) (m:Nat):Blk (w.alloc (.cells (Array.replicate m (Value.int .i64 0)) 3)) w.heap.size 3 (i64s (digs 0 m)):=by
 have:=Blk.new w (Array.replicate m (Value.int .i64 0)) 3;rw[digs_zero,i64s,List.map_replicate];simpa using this
theorem digs_cell {w:World} {g X M:Nat} {T:TypeId} (h:Blk w g T (i64s (digs X M))) (i:Nat) (hi:i<M):w.cell? ⟨g,i,none⟩=some (.int .i64 ((X / 256^i%256:Nat):Int)):=by
 have hl:i<(digs X M).length:=by rw[digs_len];exact hi
 rw[i64_cell h i hl,digs_get]
theorem digs_put {w:World} {g X M:Nat} {T:TypeId} (h:Blk w g T (i64s (digs X M))) (i v:Nat) (hv:v<256):Blk (w.setCell ⟨g,i,none⟩ (.int .i64 (v:Int))) g T (i64s (digs (setd X i v) M)):=by
 have:=i64_set h i v;rw[digs_set X i v M hv]at this;exact this
end
end Go.Proofs.YtdgddpnjkinciaaGreatDoor
