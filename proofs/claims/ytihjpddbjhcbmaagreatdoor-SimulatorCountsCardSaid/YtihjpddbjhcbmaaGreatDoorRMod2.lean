import Derived.Test.YtihjpddbjhcbmaaGreatDoorInv
set_option linter.unusedVariables false
set_option linter.unusedSimpArgs false
set_option maxRecDepth 100000
set_option maxHeartbeats 16000000
namespace Go.Proofs.YtihjpddbjhcbmaaGreatDoor
section
open Go.RowKit
def strs (l:List Nat):List Value:=l.map fun n=>Value.string (E n)
theorem strs_cell {w:World} {g:Nat} {T:TypeId} {l:List Nat} (h:Blk w g T (strs l)) (j:Nat) (hj:j<l.length):w.cell? ⟨g,j,none⟩=some (.string (E l[j])):=by
 rw[h.cell];simp[strs,hj]
theorem rcheck_c (b:Nat) (l:List Nat) (x:Nat) (T:TypeId) (w:World) (hl:l.length≤1000) (hv:∀n∈l,n<256^128) (hx:x<256^128) (hB:Blk w b T (strs (l++[x]))) (h0:0<x) :
  Calls Tryz.prog 249 #[.slice (some ⟨b,0,none⟩) (l.length+1) (l.length+1)] w fun e w'=>e=.returned (.int .i64 0)∧w=w':=by
 have HV:Hid (∀n∈l++[x],n<256^128):=by
  intro n hn;rcases List.mem_append.1 hn with h | h
  ·exact hv n h
  ·rw[List.mem_singleton]at h;rw[h];exact hx
 have hb:=strs_cell hB l.length (by simp);rw[List.getElem_concat_length (by rfl)]at hb;have hz:=nzE h0;clear hv hx h0;go_enter Tryz.func249,Tryz.ntmps249
 go_wp2;go_loop [3] (fun i=>∃k:Nat,k≤l.length+1∧i=.int .i64 k) (fun i=>l.length+1-(intOf i).toNat)
 case atStart=>exact⟨0,by omega,rfl⟩
 case round =>
  obtain⟨k,hk,rfl⟩:=hrel;by_cases hlt:k<l.length+1
  ·have hd:k<(l++[x]).length:=by simp;omega
   have hc:=strs_cell hB k hd;have HN:=Kh (HV.out _ (Gm hd));generalize (l++[x])[k]=n at hc HN;go_wp2_with fail
   refine (rvalidE_c n _ HN.out).mono ?_;rintro e w' ⟨rfl,rfl⟩;go_wp2;go_round
   case rel=>exact⟨k+1,by omega,by go_num⟩
   case measure=>simp[intOf];omega
  ·obtain rfl:k=l.length+1:=by omega
   go_wp2;go_ret
   exact⟨rfl,rfl⟩
theorem rmod3_c (a m:Nat) (w:World) (ha:a<256^128) (hm:m<256^128) (h0:0<m) :
  Calls Tryz.prog 260 #[.string (E a),.string (E m)] w fun e w'=>e=.returned (.string (E (a%m)))∧Bw w w':=by
 have HA:=Kh ha;have HM:=Kh hm;have H0:=Kh h0;clear ha hm h0;go_enter Tryz.func260,Tryz.ntmps260
 go_wp2_with fail
 refine (rdivmod_c a m _ HA.out HM.out H0.out).mono ?_;rintro e w1 ⟨rfl,hb⟩;go_wp2;go_ret
 exact⟨rfl,hb⟩
theorem lt64 {n:Nat} (h:n<256^64):n<256^128:=Nl h P8
theorem mul_fit {a b m:Nat} (hm:m<256^64) (ha:a<m) (hb:b<m):a*b<256^128:=by
 have:(256:Nat)^128=256^64*256^64:=by rw[←Nat.pow_add]
 rw[this];exact Nat.mul_lt_mul'' (by omega) (by omega)
theorem rmod3v_c (a m y:Nat) (w:World) (ha:a<256^128) (hm:m<256^128) (h0:0<m) (hy:a%m=y) :
  Calls Tryz.prog 260 #[.string (E a),.string (E m)] w fun e w'=>e=.returned (.string (E y))∧Bw w w':=by
 rw[←hy];exact rmod3_c a m w ha hm h0
theorem rofMM_c (y z m:Nat) (w:World) (h:y*z<256^8) (hm:y*z%m<256^8) :
  Calls Tryz.prog 153 #[.int .u64 ((IntKind.u64.wrap ((y:Int)*(z:Int))).tmod (m:Int))] w fun e w'=>e=.returned (.string (E (y*z%m)))∧Bw w w':=by
 rw[←Int.natCast_mul,wrapU _ h,←Int.ofNat_tmod];exact rof_c _ w hm
theorem rtimes3_small (a b m y z:Nat) (w:World) (ha:a<256^128) (hb:b<256^128) (h0:0<m) (hs:m<2147483648) (hy:a%m=y) (hz:b%m=z) :
  Calls Tryz.prog 250 #[.string (E a),.string (E b),.string (E m)] w fun e w'=>e=.returned (.string (E (y*z%m)))∧Bw w w':=by
 have he:y<m:=by rw[←hy];exact Nat.mod_lt a h0
 have hf:z<m:=by rw[←hz];exact Nat.mod_lt b h0
 have HA:=Kh ha;have HB:=Kh hb;have hd:m<256^8:=Nat.lt_trans hs (by decide);have HM:=Kh (lt128 hd);have H0:=Kh h0;have hh:=Kh hd;have hi:=Kh (Nat.lt_trans he hd);have hj:=Kh (Nat.lt_trans hf hd);have hc:y*z<256^8:=Nl (Nat.mul_lt_mul'' (Nat.lt_trans he hs) (Nat.lt_trans hf hs)) (by decide);have hk:=Kh hc;have hl:=Kh (Nat.lt_of_le_of_lt (Nat.mod_le _ m) hc);have hm:=Kh hy;have hn:=Kh hz;have hg:decide ((m:Int)<2147483648)=true:=by rw[decide_eq_true_iff];omega
 have hr:((m:Int)==0)=false:=by rw[beq_eq_false_iff_ne];omega
 clear ha hb he hf hd hc hs hy hz;go_enter Tryz.func250,Tryz.ntmps250
 go_wp2_with fail
 refine (rsmall_c m _ hh.out).mono ?_;rintro e w' ⟨rfl,rfl⟩;go_wp2_with fail
 refine (rmod3v_c a m y _ HA.out HM.out H0.out hm.out).mono ?_;rintro e w1 ⟨rfl,ho⟩;clear hg;go_wp2_with fail
 refine (rsmall_c y _ hi.out).mono ?_;rintro e w' ⟨rfl,rfl⟩;go_wp2_with fail
 refine (rmod3v_c b m z _ HB.out HM.out H0.out hn.out).mono ?_;rintro e w2 ⟨rfl,hp⟩;go_wp2_with fail
 refine (rsmall_c z _ hj.out).mono ?_;rintro e w' ⟨rfl,rfl⟩;go_wp2_with fail
 refine (rofMM_c y z m _ hk.out hl.out).mono ?_;rintro e w3 ⟨rfl,hq⟩;go_wp2;go_ret
 exact⟨rfl,bt (bt ho hp) hq⟩
theorem rtimes3_mid (a b m y z:Nat) (w:World) (ha:a<256^128) (hb:b<256^128) (h0:0<m) (hs:¬ m<2147483648) (hd:m<256^8) (hy:a%m=y) (hz:b%m=z) :
  Calls Tryz.prog 250 #[.string (E a),.string (E b),.string (E m)] w fun e w'=>e=.returned (.string (E (y*z%m)))∧Bw w w':=by
 have he:y<m:=by rw[←hy];exact Nat.mod_lt a h0
 have hf:z<m:=by rw[←hz];exact Nat.mod_lt b h0
 have HA:=Kh ha;have HB:=Kh hb;have HM:=Kh (lt128 hd);have H0:=Kh h0;have hi:=Kh hd;have hc:m<256^64:=Nl hd P8;have hj:=Kh (Nat.lt_trans he HM.out);have hk:=Kh (Nat.lt_trans hf HM.out);have hh:=Kh (mul_fit hc he hf);have hl:=Kh hy;have hm:=Kh hz;have hg:decide ((m:Int)<2147483648)=false:=by rw[decide_eq_false_iff_not];omega
 clear ha hb h0 he hf hd hc hs hy hz;go_enter Tryz.func250,Tryz.ntmps250
 go_wp2_with fail
 refine (rsmall_c m _ hi.out).mono ?_;rintro e w' ⟨rfl,rfl⟩;go_wp2_with fail
 refine (rmod3v_c a m y _ HA.out HM.out H0.out hl.out).mono ?_;rintro e w1 ⟨rfl,hn⟩;clear hg;go_wp2_with fail
 refine (rmod3v_c b m z _ HB.out HM.out H0.out hm.out).mono ?_;rintro e w2 ⟨rfl,ho⟩;go_wp2_with fail
 refine (rmul_c y z _ hj.out hk.out hh.out).mono ?_;rintro e w3 ⟨rfl,hp⟩;go_wp2_with fail
 refine (rmod3_c (y*z) m _ hh.out HM.out H0.out).mono ?_;rintro e w4 ⟨rfl,hb4⟩;go_wp2;go_ret
 exact⟨rfl,bt (bt (bt hn ho) hp) hb4⟩
theorem rtimes3_big (a b m y z:Nat) (w:World) (ha:a<256^128) (hb:b<256^128) (h0:0<m) (hf:256^8≤m) (hc:m<256^64) (hy:a%m=y) (hz:b%m=z) :
  Calls Tryz.prog 250 #[.string (E a),.string (E b),.string (E m)] w fun e w'=>e=.returned (.string (E (y*z%m)))∧Bw w w':=by
 have hd:y<m:=by rw[←hy];exact Nat.mod_lt a h0
 have he:z<m:=by rw[←hz];exact Nat.mod_lt b h0
 have HA:=Kh ha;have HB:=Kh hb;have HM:=Kh (lt64 hc);have hp:=sz m HM.out;have H0:=Kh h0;have hh:=Kh hf;have hi:=Kh (Nat.lt_trans hd HM.out);have hj:=Kh (Nat.lt_trans he HM.out);have hg:=Kh (mul_fit hc hd he);have hk:=Kh hy;have hl:=Kh hz;clear ha hb h0 hd he hf hc hy hz;go_enter Tryz.func250,Tryz.ntmps250
 go_wp2_with fail
 refine (rsmall_no m _ hh.out (by omega)).mono ?_;rintro e w' ⟨rfl,rfl⟩;go_wp2_with fail
 refine (rmod3v_c a m y _ HA.out HM.out H0.out hk.out).mono ?_;rintro e w1 ⟨rfl,hm⟩;go_wp2_with fail
 refine (rmod3v_c b m z _ HB.out HM.out H0.out hl.out).mono ?_;rintro e w2 ⟨rfl,hn⟩;go_wp2_with fail
 refine (rmul_c y z _ hi.out hj.out hg.out).mono ?_;rintro e w3 ⟨rfl,ho⟩;go_wp2_with fail
 refine (rmod3_c (y*z) m _ hg.out HM.out H0.out).mono ?_;rintro e w4 ⟨rfl,hb4⟩;go_wp2;go_ret
 exact⟨rfl,bt (bt (bt hm hn) ho) hb4⟩
theorem rtimes3_c (a b m:Nat) (w:World) (ha:a<256^128) (hb:b<256^128) (hm:m<256^64) (h0:0<m) :
  Calls Tryz.prog 250 #[.string (E a),.string (E b),.string (E m)] w fun e w'=>e=.returned (.string (E (a*b%m)))∧Bw w w':=by
 rw[Nat.mul_mod];by_cases hs:m<2147483648
 ·exact rtimes3_small a b m _ _ w ha hb h0 hs rfl rfl
 ·rcases Nat.lt_or_ge m (256^8) with h8 | h8
  ·exact rtimes3_mid a b m _ _ w ha hb h0 hs h8 rfl rfl
  ·exact rtimes3_big a b m _ _ w ha hb h0 h8 hm rfl rfl
theorem rmul3_c (a b m:Nat) (w:World) (ha:a<256^128) (hb:b<256^128) (hm:m<256^64) (h0:0<m) :
  Calls Tryz.prog 172 #[.string (E a),.string (E b),.string (E m)] w fun e w'=>e=.returned (.tuple #[.string (E (a*b%m)),.int .i64 0])∧Bw w w':=by
 have HC:=Kh (rcheck_c w.heap.size [a,b] m 22 (w.alloc (.cells #[.string (E a),.string (E b),.string (E m)] 22)) (by simp) (by simp[ha,hb]) (lt64 hm) (Blk.new _ _ _) h0);have HA:=Kh ha;have HB:=Kh hb;have HM:=Kh hm;have H0:=Kh h0;clear ha hb hm h0;go_enter Tryz.func172,Tryz.ntmps172
 go_wp2_with fail
 refine (HC.out).mono ?_;rintro e w' ⟨rfl,rfl⟩;go_wp2_with fail
 refine (rtimes3_c a b m _ HA.out HB.out HM.out H0.out).mono ?_;rintro e w1 ⟨rfl,hc⟩;go_wp2;go_ret2
 exact⟨rfl,bt (b1 _ _) hc⟩
end
section
open Go.RowKit
theorem pow_step0 (a e m i:Nat) (h:bitB e i=false):a^(e / 2^(i+1))%m*(a^(e / 2^(i+1))%m)%m=a^(e / 2^i)%m:=by
 rw[bit_nil h];generalize e / 2^(i+1)=k;rw[Nat.two_mul,Nat.pow_add,←Nat.mul_mod]
theorem pow_step1 (a e m i:Nat) (h:bitB e i=true):a^(e / 2^(i+1))%m*(a^(e / 2^(i+1))%m)%m*a%m=a^(e / 2^i)%m:=by
 rw[bit_one h];generalize e / 2^(i+1)=k;rw[Nat.pow_succ,Nat.two_mul,Nat.pow_add,←Nat.mul_mod,Nat.mod_mul_mod]
theorem rraise_c (a e m:Nat) (w:World) (ha:a<256^128) (he:e<256^128) (hm:m<256^64) (h0:0<m) :
  Calls Tryz.prog 296 #[.string (E a),.string (E e),.string (E m)] w fun r w'=>r=.returned (.string (E (a^e%m)))∧Bw w w':=by
 have HA:=Kh ha;have HE:=Kh he;have HM:=Kh hm;have hd:=Kh (lt64 hm);have H0:=Kh h0;have hk:=sz e he;have hp:=nb_le e 128 hk;have HO:=Kh (show ∀w:World,Calls Tryz.prog 153 #[.int .u64 1] w fun e w'=>e=.returned (.string (E 1))∧Bw w w' from fun w=>rof_c 1 w (by decide));clear ha he hm h0;go_enter Tryz.func296,Tryz.ntmps296
 go_wp2_with fail
 refine (HO.out _).mono ?_;rintro e w1 ⟨rfl,hl⟩;go_wp2_with fail
 refine (rmod3_c 1 m _ (by decide) hd.out H0.out).mono ?_;rintro e w2 ⟨rfl,hn⟩;go_wp2_with fail
 refine (rBits_c e _ HE.out).mono ?_;rintro e w' ⟨rfl,rfl⟩;go_wp2;go_loopw [7,8] (fun x y wr=>∃i:Nat,i≤nb e∧y=.int .i64 ((i:Int)-1)∧x=.string (E (a^(e / 2^i)%m))∧Bw w wr) (fun _ y _=>(intOf y+1).toNat)
 case atStart =>
  exact⟨nb e,by omega,rfl,by rw[Nat.div_eq_of_lt (lt_nb e),Nat.pow_zero],bt hl hn⟩
 case round =>
  obtain⟨j,hj,rfl,rfl,hc⟩:=hrel;by_cases hlt:0<j
  ·obtain⟨i,rfl⟩:∃i,j=i+1:=⟨j-1,by omega⟩;have HI:Hid (((i+1:Nat):Int)-1=(i:Int)):=by unfold Hid;omega
   rw[HI.out];have hh:=Kh (pow_step0 a e m i);have hi:=Kh (pow_step1 a e m i);have hf:=Nat.mod_lt (a^(e / 2^(i+1))) H0.out;have HX:=Kh (Nat.lt_trans hf hd.out);generalize a^(e / 2^(i+1))%m=x at hh hi hf HX;have ho:=Kh (Nat.lt_trans (Nat.mod_lt (x*x) H0.out) hd.out);clear hf;cases hb:bitB e i
   ·have HR:=Kh (hh.out hb);go_wp2_with fail
    refine (rtimes3_c x x m _ HX.out HX.out HM.out H0.out).mono ?_;rintro e w3 ⟨rfl,hg⟩;go_wp2_with fail
    refine (rBit_c e i _ HE.out (by omega)).mono ?_;rintro e w' ⟨rfl,rfl⟩;rw[hb];clear hb;go_wp2;go_roundw
    case rel=>exact⟨i,by omega,rfl,vE HR.out,bt hc hg⟩
    case measure=>simp[intOf] <;> omega
   ·have HR:=Kh (hi.out hb);go_wp2_with fail
    refine (rtimes3_c x x m _ HX.out HX.out HM.out H0.out).mono ?_;rintro e w3 ⟨rfl,hg⟩;go_wp2_with fail
    refine (rBit_c e i _ HE.out (by omega)).mono ?_;rintro e w' ⟨rfl,rfl⟩;rw[hb];clear hb;go_wp2_with fail
    refine (rtimes3_c (x*x%m) a m _ ho.out HA.out HM.out H0.out).mono ?_;rintro e w4 ⟨rfl,hb4⟩;go_wp2;go_roundw
    case rel=>exact⟨i,by omega,rfl,vE (by rw[←HR.out,Nat.mod_mul_mod]),bt (bt hc hg) hb4⟩
    case measure=>simp[intOf] <;> omega
  ·obtain rfl:j=0:=by omega
   go_wp2;go_ret
   exact⟨rE (by rw[Nat.pow_zero,Nat.div_one]),hc⟩
theorem rexp3_c (a e m:Nat) (w:World) (ha:a<256^128) (he:e<256^128) (hm:m<256^64) (h0:0<m) :
  Calls Tryz.prog 294 #[.string (E a),.string (E e),.string (E m)] w fun r w'=>r=.returned (.tuple #[.string (E (a^e%m)),.int .i64 0])∧Bw w w':=by
 have HC:=Kh (rcheck_c w.heap.size [a,e] m 22 (w.alloc (.cells #[.string (E a),.string (E e),.string (E m)] 22)) (by simp) (by simp[ha,he]) (lt64 hm) (Blk.new _ _ _) h0);have HA:=Kh ha;have HE:=Kh he;have HM:=Kh hm;have H0:=Kh h0;clear ha he hm h0;go_enter Tryz.func294,Tryz.ntmps294
 go_wp2_with fail
 refine (HC.out).mono ?_;rintro e w' ⟨rfl,rfl⟩;go_wp2_with fail
 refine (rraise_c a e m _ HA.out HE.out HM.out H0.out).mono ?_;rintro e w1 ⟨rfl,hb⟩;go_wp2;go_ret2
 exact⟨rfl,bt (b1 _ _) hb⟩
theorem invR_one (a m:Nat) (h:Nat.gcd a m=1):invR a m=invN a m:=by
 unfold invR invN;rw[h,Nat.div_one]
theorem rimodN_c (v m:Nat) (w:World) (hv:v<256^128) (hm:m<256^128) (h0:0<m) :
  Calls Tryz.prog 330 #[.agg #[.bool (sg (v:Int)),.string (E v)],.string (E m)] w fun e w'=>e=.returned (.tuple #[.string (E (v%m)),.int .i64 0])∧Bw w w':=by
 have:=rimod_c (v:Int) m w (by simpa using hv) hm h0;rw[Int.natAbs_natCast,←Int.natCast_emod,Int.toNat_natCast]at this;exact this
theorem rinv3_c (a m:Nat) (w:World) (ha:a<256^128) (hm:m<256^32) (h0:0<m) (hg:Nat.gcd a m=1) :
  Calls Tryz.prog 295 #[.string (E a),.string (E m)] w fun r w'=>r=.returned (.tuple #[.string (E (invN (a%m) m)),.int .i64 0])∧Bw w w':=by
 have hb:m<256^64:=Nl hm P8;have HC:=Kh (rcheck_c w.heap.size [a] m 22 (w.alloc (.cells #[.string (E a),.string (E m)] 22)) (by simp) (by simp[ha]) (lt64 hb) (Blk.new _ _ _) h0);have hh:=Nat.mod_lt a h0;have hc:Nat.gcd (a%m) m=1:=by rw[←hg,Nat.gcd_comm a m,Nat.gcd_rec m a]
 have hn:=Kh (invR_one (a%m) m hc);have hd:=invN_lt (a%m) m h0;have hi:=Kh (Nat.mod_eq_of_lt hd);have HA:=Kh ha;have HM:=Kh (lt64 hb);have he:=Kh hm;have hf:=Kh (Nat.lt_trans hh hm);have H0:=Kh h0;have HG:=Kh hc;have hj:=Kh (Nat.lt_trans hd HM.out);have HO:=Kh (show ∀w:World,Calls Tryz.prog 153 #[.int .u64 1] w fun e w'=>e=.returned (.string (E 1))∧Bw w w' from fun w=>rof_c 1 w (by decide));have hw:=eqE (a:=1) (b:=1) rfl;clear ha hm h0 hb hh hg hc hd;go_enter Tryz.func295,Tryz.ntmps295
 go_wp2_with fail
 refine (HC.out).mono ?_;rintro e w' ⟨rfl,rfl⟩;go_wp2_with fail
 refine (rmod3_c a m _ HA.out HM.out H0.out).mono ?_;rintro e w1 ⟨rfl,ho⟩;go_wp2_with fail
 refine (rext_c (a%m) m _ hf.out he.out H0.out).mono ?_;rintro e w2 ⟨rfl,hp⟩;rw[HG.out,hn.out];generalize hk:invN (a%m) m=v at hi hj;have hq:=Kh hk;clear hk;generalize extY (a%m) m=y;have hX:=blk2a w2 #[Value.bool (sg (v:Int)),Value.string (E v)] #[Value.bool (sg y),Value.string (E y.natAbs)] 74 74;go_wp2_with fail
 refine (HO.out _).mono ?_;rintro e w3 ⟨rfl,hl⟩;replace hX:=hX.after hl;obtain⟨hr,ht,hu,hv⟩:=hX.x2;go_wp2_with fail
 refine (rimodN_c v m _ hj.out HM.out H0.out).mono ?_;rintro e w4 ⟨rfl,hb4⟩;rw[hi.out];go_wp2;go_ret2
 exact⟨r2 (vE hq.out.symm) rfl,bt (bt (ba (ba (bt (bt (b1 _ _) ho) hp) _) _) hl) hb4⟩
def powI (a:Nat) (z:Int) (m:Nat):Nat:=if z<0 then invN (a%m) m^z.natAbs%m else a^z.natAbs%m
theorem rpow3_c (a:Nat) (z:Int) (m:Nat) (w:World) (ha:a<256^128) (hz:z.natAbs<256^128) (hm:m<256^32) (h0:0<m) (hg:z<0→Nat.gcd a m=1) :
  Calls Tryz.prog 248 #[.string (E a),.agg #[.bool (sg (z)),.string (E (z).natAbs)],.string (E m)] w fun r w'=>r=.returned (.tuple #[.string (E (powI a z m)),.int .i64 0])∧Bw w w':=by
 have hb:m<256^64:=Nl hm P8;have HA:=Kh ha;have HZ:=Kh hz;have HM:=Kh (lt64 hb);have hh:=Kh hb;have hk:=Kh hm;have H0:=Kh h0;have hq:=nzE h0;have hX:=Blk.new w #[Value.bool (sg z),Value.string (E z.natAbs)] 74;have hj:=Kh (rivalidI_c z (w.alloc (.cells #[Value.bool (sg z),Value.string (E z.natAbs)] 74)) hz);by_cases hn:z<0
 ·have HP:Hid (powI a z m=invN (a%m) m^z.natAbs%m):=by rw[Hid,powI,if_pos hn]
  have HG:=Kh (hg hn);have hp:=Kh (Nat.lt_trans (invN_lt (a%m) m h0) HM.out);rw[sg_of_neg hn]at hX hj ⊢;clear ha hz hm h0 hb hg hn;go_enter Tryz.func248,Tryz.ntmps248
  go_wp2_with fail
  refine (rvalidE_c a _ HA.out).mono ?_;rintro e w' ⟨rfl,rfl⟩;go_wp2_with fail
  refine (hj.out).mono ?_;rintro e w1 ⟨rfl,hi⟩;replace hX:=hX.after hi;obtain⟨hc,hd,he,hf⟩:=hX.x2;go_wp2_with fail
  refine (rvalidE_c m _ HM.out).mono ?_;rintro e w' ⟨rfl,rfl⟩;go_wp2_with fail
  refine (rinv3_c a m _ HA.out hk.out H0.out HG.out).mono ?_;rintro e w2 ⟨rfl,ho⟩;clear hc hd he hf;replace hX:=hX.after ho;obtain⟨hc,hd,he,hf⟩:=hX.x2;go_wp2_with fail
  refine (rraise_c (invN (a%m) m) z.natAbs m _ hp.out HZ.out hh.out H0.out).mono ?_;rintro e w3 ⟨rfl,hl⟩;go_wp2;go_ret2
  exact⟨r2 (vE HP.out.symm) rfl,bt (bt (bt (b1 _ _) hi) ho) hl⟩
 ·have HP:Hid (powI a z m=a^z.natAbs%m):=by rw[Hid,powI,if_neg hn]
  rw[sg_of_nonneg (show 0≤z by omega)]at hX hj ⊢;clear ha hz hm h0 hb hg hn;go_enter Tryz.func248,Tryz.ntmps248
  go_wp2_with fail
  refine (rvalidE_c a _ HA.out).mono ?_;rintro e w' ⟨rfl,rfl⟩;go_wp2_with fail
  refine (hj.out).mono ?_;rintro e w1 ⟨rfl,hi⟩;replace hX:=hX.after hi;obtain⟨hc,hd,he,hf⟩:=hX.x2;go_wp2_with fail
  refine (rvalidE_c m _ HM.out).mono ?_;rintro e w' ⟨rfl,rfl⟩;go_wp2_with fail
  refine (rraise_c a z.natAbs m _ HA.out HZ.out hh.out H0.out).mono ?_;rintro e w3 ⟨rfl,hl⟩;go_wp2;go_ret2
  exact⟨r2 (vE HP.out.symm) rfl,bt (bt (b1 _ _) hi) hl⟩
end
end Go.Proofs.YtihjpddbjhcbmaaGreatDoor
