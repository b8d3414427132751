import Derived.Test.YtdoacbdkbbpamaaGreatDoorExt2
import Derived.Test.YtdoacbdkbbpamaaGreatDoorPow2
set_option linter.unusedVariables false
set_option linter.unusedSimpArgs false
set_option maxRecDepth 100000
set_option maxHeartbeats 16000000
namespace Go.Proofs.YtdoacbdkbbpamaaGreatDoor
section
open Go.RowKit
theorem E1L (n:Nat):((E n).toList==[1])=decide (n=1):=by
 have h:(E 1).toList=[1]:=by rw [ByteArray.toList_eq];rfl
 rw [←h];by_cases h1:n=1
 ·rw [eqE h1,decide_eq_true h1]
 ·rw [neE h1,decide_eq_false h1]
theorem gcd_red (a m:Nat):Nat.gcd (a%m) m=Nat.gcd a m:=by rw [Nat.gcd_comm a m,Nat.gcd_rec m a]
theorem inv_of_bez (a m x:Nat) (y:Int) (h0:0<m) (hg:Nat.gcd a m=1) (h:(a:Int)*x+(m:Int)*y=(Nat.gcd a m:Nat)):x%m=invN a m:=by
 refine inv_eq a m (x%m) h0 hg (Nat.mod_lt _ h0) ?_;rw [hg] at h;exact mul_mod_of_bez a m (x%m) x y h0 h (by rw [Int.natCast_emod,Int.emod_emod_of_dvd _ (Int.dvd_refl _)])
theorem minv_c (a m:Nat) (w:World) (ha:a<256^8) (hm:m<256^8) (h0:0<m) (hg:Nat.gcd a m=1) :
  Calls Tryz.prog 109 #[.string (E a),.string (E m)] w fun r w'=>r=.returned (.tuple #[.string (E (invN (a%m) m)),.int .i64 0])∧Below w.heap.size w w':=by
 have HC:=Lib.hid (mcheck_c w.heap.size (w.heap.size+1) [a] m ((w.alloc (.cells #[.string (E a)] 31)).alloc (.cells #[.string (E m)] 31)) (by simp) (by simp) (by simp [lt128 ha]) (lt128 hm) h0 (blk2a _ _ _ _ _) (blk2b _ _ _ _ _));have HA:=Lib.hid ha;have HM:=Lib.hid (lt128 hm);have HM8:=Lib.hid hm;have H0:=Lib.hid h0;have HL:=Lib.hid (Nat.lt_trans (Nat.mod_lt a h0) hm);have HG:Hid (Nat.gcd (a%m) m=1):=by rw [Hid,gcd_red];exact hg
 have HB:=Lib.hid (fun x y=>inv_of_bez (a%m) m x y h0 HG.out);have heq:((E 1).toList==[1])=true:=by rw [E1L];rfl
 clear ha hm h0 hg;go_enter Tryz.func109,Tryz.ntmps109
 go_wp2_with fail
 refine (HC.out).mono ?_;rintro e w1 ⟨rfl,hb1⟩;go_wp2_with fail
 refine (mreduced_c a m _ HA.out HM.out H0.out).mono ?_;rintro e w2 ⟨rfl,hb2⟩;go_wp2_with fail
 refine (iext_c (a%m) m _ HL.out HM8.out H0.out).mono ?_;rintro e w3 ⟨x,y,hbz,hx,rfl,hb3⟩;have HV:=Lib.hid (HB.out x y hbz);have HX:=Lib.hid hx;rw [HG.out];clear hbz hx HB;go_wp2_with fail
 refine (mreduced_c x m _ HX.out HM.out H0.out).mono ?_;rintro e w4 ⟨rfl,hb4⟩;go_wp2;go_ret2
 exact ⟨r2 (vE HV.out) rfl,bt (ba (ba (bt (bt (bt (b2 _ _ _) hb1) hb2) hb3) _) _) hb4⟩
end
section
open Go.RowKit
def NatsAt (w:World) (b:Nat) (L:List Nat):Prop:=b<w.heap.size∧∀j (h:j<L.length),w.cell? ⟨b,j,none⟩=some (.string (E L[j]))
def IntsAt (w:World) (b:Nat) (Z:List Int):Prop:=b<w.heap.size∧∀j (h:j<Z.length),w.cell? ⟨b,j*2,none⟩=some (.bool (sg Z[j]))∧w.cell? ⟨b,j*2+1,none⟩=some (.string (E Z[j].natAbs))
theorem NatsAt.after {w w':World} {b:Nat} {L:List Nat} (h:NatsAt w b L) (hb:Below w.heap.size w w'):NatsAt w' b L:=
 ⟨Nat.lt_of_lt_of_le h.1 hb.size,fun j hj=>(hb.cell (p:=⟨b,j,none⟩) h.1).trans (h.2 j hj)⟩
theorem IntsAt.after {w w':World} {b:Nat} {Z:List Int} (h:IntsAt w b Z) (hb:Below w.heap.size w w'):IntsAt w' b Z:=
 ⟨Nat.lt_of_lt_of_le h.1 hb.size,fun j hj=>⟨(hb.cell (p:=⟨b,j*2,none⟩) h.1).trans (h.2 j hj).1,(hb.cell (p:=⟨b,j*2+1,none⟩) h.1).trans (h.2 j hj).2⟩⟩
theorem NatsAt.set {w:World} {b g i:Nat} {L:List Nat} (h:NatsAt w b L) (v:Value) (hne:b≠g):NatsAt (w.setCell ⟨g,i,none⟩ v) b L:=
 ⟨by rw [World.size_setCell];exact h.1,fun j hj=>by rw [World.cell?_setCell_other _ _ _ _ (fun e=>hne (congrArg Addr.block e).symm)];exact h.2 j hj⟩
theorem IntsAt.set {w:World} {b g i:Nat} {Z:List Int} (h:IntsAt w b Z) (v:Value) (hne:b≠g):IntsAt (w.setCell ⟨g,i,none⟩ v) b Z:=
 ⟨by rw [World.size_setCell];exact h.1,fun j hj=>⟨by rw [World.cell?_setCell_other _ _ _ _ (fun e=>hne (congrArg Addr.block e).symm)];exact (h.2 j hj).1,by rw [World.cell?_setCell_other _ _ _ _ (fun e=>hne (congrArg Addr.block e).symm)];exact (h.2 j hj).2⟩⟩
theorem NatsAt.of_blk {w:World} {b:Nat} {T:TypeId} {L:List Nat} (h:Blk w b T (strs L)):NatsAt w b L:=⟨h.lt,fun j hj=>strs_cell h j hj⟩
theorem checked_g (p q bl cl n m cz:Nat) (ao:Option Addr) (L:List Nat) (Z:List Int) (w:World) (hp:p<256^8) (hq:q<256^128) (hg:grpE p q=0)
  (hn:L.length=n) (hm:Z.length=m) (hn1:n≤1000) (hm1:m≤1000) (hcl:n≤cl) (hcz:m≤cz)
  (hx:∀x∈L,hasB p q x=true) (hzz:∀z∈Z,z.natAbs<256^128) (hL:NatsAt w bl L) (hZ:m=0∨∃bz,ao=some ⟨bz,0,none⟩∧IntsAt w bz Z) :
  Calls Tryz.prog 108 #[.agg #[.string (E p),.string (E q)],.slice (some ⟨bl,0,none⟩) n cl,.slice ao m cz,.bool true] w fun e w'=>e=.returned (.int .i64 0)∧Below w.heap.size w w':=by
 have HP:=Lib.hid hp;have HQ:=Lib.hid hq;have HG:=Lib.hid hg;have HX:=Lib.hid hx;have HZZ:=Lib.hid hzz;have HLN:=Lib.hid hn;have HZM:=Lib.hid hm;have HC:=Lib.hid (fun w=>pcheckV_c p q 0 w hp hq hg);have hB:=Blk.new w #[Value.string (E p),Value.string (E q)] 33;have hL1:NatsAt (w.alloc (.cells #[Value.string (E p),Value.string (E q)] 33)) bl L:=hL.after (b1 _ _);have hBW:=b1 w (.cells #[Value.string (E p),Value.string (E q)] 33)
 have HZ1:Hid (m=0∨∃bz,ao=some ⟨bz,0,none⟩∧IntsAt (w.alloc (.cells #[Value.string (E p),Value.string (E q)] 33)) bz Z):=by
  rcases hZ with h | ⟨bz,h,h2⟩
  ·exact .inl h
  ·exact .inr ⟨bz,h,h2.after (b1 _ _)⟩
 clear hp hq hg hx hzz hn hm hL hZ;go_enter Tryz.func108,Tryz.ntmps108
 go_wp2;generalize w.alloc (.cells #[Value.string (E p),Value.string (E q)] 33)=w1 at hB hL1 hBW HZ1;obtain ⟨bg,hbg⟩:∃bg,w.heap.size=bg:=⟨_,rfl⟩;rw [hbg] at hB ⊢;have HBG:=Lib.hid hbg;clear hbg;go_loop [18] (fun i=>∃k:Nat,k≤n∧i=.int .i64 k) (fun i=>n-(intOf i).toNat)
 case atStart=>exact ⟨0,by omega,rfl⟩
 case round =>
  obtain ⟨k,hk,rfl⟩:=hrel;by_cases hlt:k<n
  ·have hkl:k<L.length:=by rw [HLN.out];exact hlt
   have hc:=hL1.2 k hkl;have HN:=Lib.hid (lt128 (Nat.lt_trans (has_lt (HX.out _ (List.getElem_mem hkl))) HP.out));generalize L[k]=x at hc HN;go_wp2_with fail
   refine (validE_c x _ HN.out).mono ?_;rintro e w' ⟨rfl,rfl⟩;go_wp2;go_round
   case rel=>exact ⟨k+1,by omega,by go_num⟩
   case measure=>simp [intOf];omega
  ·obtain rfl:k=n:=by omega
   clear hk hlt;go_wp2;go_loopw [28,12] (fun i _ wr=>∃j:Nat,j≤m∧i=.int .i64 j∧Below w1.heap.size w1 wr) (fun i _ _=>m-(intOf i).toNat)
   case atStart=>exact ⟨0,by omega,rfl,Below.refl _ _⟩
   case round =>
    obtain ⟨j,hj,rfl,hbr⟩:=hrel;obtain ⟨wp,hwp⟩:∃wp,wp=wr:=⟨_,rfl⟩;subst hwp;by_cases hlt:j<m
    ·obtain ⟨bz,rfl,hZ1⟩:∃bz,ao=some ⟨bz,0,none⟩∧IntsAt w1 bz Z:=by
      rcases HZ1.out with h | h
      ·omega
      ·exact h
     have hjl:j<Z.length:=by rw [HZM.out];exact hlt
     obtain ⟨hc0,hc1⟩:=(hZ1.after hbr).2 j hjl;have HZB:=Lib.hid (HZZ.out _ (List.getElem_mem hjl));generalize Z[j]=z at hc0 hc1 HZB;clear hZ1;go_wp2_with fail
     refine (ivalidI_c z _ HZB.out).mono ?_;rintro e w2 ⟨rfl,hb2⟩;go_wp2;go_roundw
     case rel=>exact ⟨j+1,by omega,by go_num,bt (ba hbr _) hb2⟩
     case measure=>simp [intOf];omega
    ·obtain rfl:j=m:=by omega
     clear hj hlt;replace hB:=hB.after hbr;replace hL1:=hL1.after hbr;replace hBW:=bt hBW hbr;obtain ⟨hBc0,hBf0,hBc1,hBf1⟩:=hB.x2;go_wp2_with fail
     refine (HC.out _).mono ?_;rintro e w3 ⟨rfl,hb3⟩;clear hBc0 hBf0 hBc1 hBf1;replace hB:=hB.after hb3;replace hL1:=hL1.after hb3;replace hBW:=bt hBW hb3;clear hb3 hbr HZ1;go_wp2;go_loopw [45] (fun i wr=>∃k':Nat,k'≤k∧i=.int .i64 k'∧Below w3.heap.size w3 wr) (fun i _=>k-(intOf i).toNat)
     case atStart=>exact ⟨0,by omega,rfl,Below.refl _ _⟩
     case round =>
      obtain ⟨k',hk,rfl,hbr⟩:=hrel;obtain ⟨wp,hwp⟩:∃wp,wp=wr:=⟨_,rfl⟩;subst hwp;by_cases hlt:k'<k
      ·have hkl:k'<L.length:=by rw [HLN.out];exact hlt
       have hc:=(hL1.after hbr).2 k' hkl;have HHX:=Lib.hid (HX.out _ (List.getElem_mem hkl));generalize L[k']=x at hc HHX;have HN:=Lib.hid (lt128 (Nat.lt_trans (has_lt HHX.out) HP.out));have hB3:=hB.after hbr;obtain ⟨hB3c0,hB3f0,hB3c1,hB3f1⟩:=hB3.x2;go_wp2_with fail
       refine (phasV_c p q x true _ HP.out HQ.out HG.out HN.out HHX.out).mono ?_;rintro e w4 ⟨rfl,hb4⟩;go_wp2;go_roundw
       case rel=>exact ⟨k'+1,by omega,by go_num,bt hbr hb4⟩
       case measure=>simp [intOf];omega
      ·obtain rfl:k'=k:=by omega
       go_wp2;go_ret
       rw [←HBG.out];exact ⟨rfl,bt hBW hbr⟩
theorem mmulV_c (a b m r:Nat) (w:World) (ha:a<256^8) (hb:b<256^8) (hm:m<256^8) (h0:0<m) (hr:a*b%m=r) :
  Calls Tryz.prog 86 #[.string (E a),.string (E b),.string (E m)] w fun e w'=>e=.returned (.tuple #[.string (E r),.int .i64 0])∧Below w.heap.size w w':=by
 rw [←hr];exact mmul_c a b m w ha hb hm h0
theorem times1_c (y x p bo bg r:Nat) (q:ByteArray) (w:World) (hy:y<256^8) (hx:x<256^8) (hp:p<256^8) (h0:0<p) (hr:y*x%p=r) (hO:Blk w bo 31 [.string (E y)]) (hG:Blk w bg 33 [.string (E p),.string q]) :
  Calls Tryz.prog 111 #[.string (E x),.pointer (some ⟨bo,0,none⟩),.pointer (some ⟨bg,0,none⟩)] w fun e w'=>e=.returned (.tuple #[])∧∃w1,Below w.heap.size w w1∧w'=w1.setCell ⟨bo,0,none⟩ (.string (E r)):=by
 have HM:=Lib.hid (fun w=>mmulV_c y x p r w hy hx hp h0 hr);clear hy hx hp h0 hr;obtain ⟨hOc0,hOf0⟩:=hO.x1;obtain ⟨hGc0,hGf0⟩:=hG.x1;go_enter Tryz.func111,Tryz.ntmps111
 go_wp2_with fail
 refine (HM.out _).mono ?_;rintro e w1 ⟨rfl,hb1⟩;clear hOc0 hOf0;clear hGc0 hGf0;replace hO:=hO.after hb1;obtain ⟨hOc0,hOf0⟩:=hO.x1;go_wp2;go_end0
 exact ⟨rfl,w1,hb1,rfl⟩
end
section
open Go.RowKit
def bse (p x:Nat) (z:Int):Nat:=if z<0 then invN x p else x
def prs (p:Nat) (L:List Nat) (Z:List Int):List (Nat × Nat):=List.zipWith (fun x z=>(bse p x z,z.natAbs)) L Z
def mxb (Z:List Int):Nat:=Z.foldl (fun m z=>max m (nb z.natAbs)) 0
theorem mxb_snoc (Z:List Int) (z:Int):mxb (Z++[z])=max (mxb Z) (nb z.natAbs):=by simp [mxb]
theorem foldl_max_ge (Z:List Int) (m:Nat):m≤Z.foldl (fun m z=>max m (nb z.natAbs)) m:=by
 induction Z generalizing m with
 | nil=>exact Nat.le_refl _
 | cons z t ih=>exact Nat.le_trans (Nat.le_max_left _ _) (ih _)
theorem mxb_ge {Z:List Int} {z:Int} (h:z∈Z):nb z.natAbs≤mxb Z:=by
 unfold mxb
 have:∀(l:List Int) (m:Nat),z∈l→nb z.natAbs≤l.foldl (fun m z=>max m (nb z.natAbs)) m:=by
  intro l;induction l with
  | nil=>intro m h;cases h
  | cons y t ih =>
   intro m h;rcases List.mem_cons.1 h with rfl | h
   ·exact Nat.le_trans (Nat.le_max_right _ _) (foldl_max_ge t _)
   ·exact ih _ h
 exact this Z 0 h
theorem mxb_le (Z:List Int) (k:Nat) (h:∀z∈Z,nb z.natAbs≤k):mxb Z≤k:=by
 unfold mxb
 have:∀(l:List Int) (m:Nat),m≤k→(∀z∈l,nb z.natAbs≤k)→l.foldl (fun m z=>max m (nb z.natAbs)) m≤k:=by
  intro l;induction l with
  | nil=>intro m h _;exact h
  | cons y t ih=>intro m hm h;exact ih _ (Nat.max_le.2 ⟨hm,h y (List.mem_cons_self ..)⟩) (fun z hz=>h z (List.mem_cons_of_mem _ hz))
 exact this Z 0 (Nat.zero_le _) h
theorem prs_len (p:Nat) (L:List Nat) (Z:List Int) (h:L.length=Z.length):(prs p L Z).length=L.length:=by simp [prs,h]
theorem prs_get (p:Nat) (L:List Nat) (Z:List Int) (j:Nat) (h1:j<L.length) (h2:j<Z.length) (h3:j<(prs p L Z).length):(prs p L Z)[j]=(bse p L[j] Z[j],Z[j].natAbs):=by simp [prs]
theorem prs_top (p:Nat) (L:List Nat) (Z:List Int):pw (prs p L Z) (mxb Z)=1:=by
 refine pw_top _ _ fun y hy=>?_
 obtain ⟨j,hj,rfl⟩:=List.mem_iff_getElem.1 hy;have h12:j<L.length∧j<Z.length:=by simp [prs] at hj;omega
 rw [prs_get p L Z j h12.1 h12.2 hj];exact Nat.lt_of_lt_of_le (lt_nb _) (Nat.pow_le_pow_right (by decide) (mxb_ge (List.getElem_mem h12.2)))
theorem mxb_take (Z:List Int) (k:Nat) (h:k<Z.length):mxb (Z.take (k+1))=max (mxb (Z.take k)) (nb Z[k].natAbs):=by
 rw [List.take_succ_eq_append_getElem h,mxb_snoc]
theorem mxb_bound (Z:List Int) (h:∀z∈Z,z.natAbs<256^128) (k:Nat):mxb (Z.take k)≤1024:=
 mxb_le _ _ fun z hz=>nb_le _ 128 (sz _ (h z (List.mem_of_mem_take hz)))
def lay (p:Nat) (L:List Nat) (Z:List Int) (k:Nat):List Nat:=((prs p L Z).take k).map (·.1)++List.replicate (L.length-k) 0
theorem lay_len (p:Nat) (L:List Nat) (Z:List Int) (h:L.length=Z.length) (k:Nat) (hk:k≤L.length):(lay p L Z k).length=L.length:=by
 simp [lay,prs_len p L Z h];omega
theorem lay_zero (p:Nat) (L:List Nat) (Z:List Int):lay p L Z 0=List.replicate L.length 0:=by simp [lay]
theorem lay_set (p:Nat) (L:List Nat) (Z:List Int) (h:L.length=Z.length) (k:Nat) (hk:k<L.length) (hk2:k<Z.length):(lay p L Z k).set k (bse p L[k] Z[k])=lay p L Z (k+1):=by
 have hl:=prs_len p L Z h;apply List.ext_getElem
 ·rw [List.length_set,lay_len p L Z h k (by omega),lay_len p L Z h (k+1) (by omega)]
 ·intro i h1 h2;rw [List.getElem_set];by_cases hi:k=i
  ·subst hi;rw [if_pos rfl];simp only [lay];rw [List.getElem_append_left (by simp [hl];omega)];simp [prs_get p L Z k hk hk2]
  ·rw [if_neg hi];simp only [lay];by_cases hlt:i<k
   ·rw [List.getElem_append_left (by simp [hl];omega),List.getElem_append_left (by simp [hl];omega)];simp
   ·rw [List.getElem_append_right (by simp [hl];omega),List.getElem_append_right (by simp [hl];omega)];simp
theorem lay_full (p:Nat) (L:List Nat) (Z:List Int) (h:L.length=Z.length):lay p L Z L.length=(prs p L Z).map (·.1):=by
 have hl:=prs_len p L Z h;unfold lay;rw [Nat.sub_self,List.replicate_zero,List.append_nil,List.take_of_length_le (by omega)]
theorem strs_set (l:List Nat) (j:Nat) (d:Nat):(strs l).set j (.string (E d))=strs (l.set j d):=by simp [strs]
theorem strs_zeros (n:Nat):List.replicate n (Value.string { data:=#[] })=strs (List.replicate n 0):=by
 simp only [strs,List.map_replicate];rfl
theorem run_mks {P:Program} {t e:TypeId} {bytes:Nat} (ht:P.underlying t=some (.slice e)) (hi:(P.info? e).map (fun i=>(i.zero,i.size,i.bytes))=some (some (.string { data:=#[] }),1,bytes))
  (n:Nat) (hb:bytes*n≤281474976710656) (hm:n≤4611686018427387904) (w:World) :
  (Instr.makeSlice t (.int .i64 (n:Int)) (.int .i64 (n:Int))).run P w=.ok (.slice (some ⟨w.heap.size,0,none⟩) n n) (w.alloc (.cells (List.replicate n (Value.string { data:=#[] })).toArray e)):=by
 obtain ⟨i,hi0,hz,hs,hbt⟩:=info_parts hi;have h:=run_make (P:=P) w t e i (.string { data:=#[] }) ht hi0 hz .i64 .i64 (n:Int) (n:Int) (by omega) (Int.le_refl _) (by rw [hbt];have h:((bytes*n:Nat):Int)≤((281474976710656:Nat):Int):=Int.ofNat_le.2 hb;rw [Int.natCast_mul] at h;exact h) (by omega);rw [hs,Nat.mul_one,Int.toNat_natCast] at h
 have e1:madeCells (Value.string { data:=#[] }).cells n=(List.replicate n (Value.string { data:=#[] })).toArray:=by
  have:=toList_madeCells_one (.string { data:=#[] }) n;rw [←this];simp [Value.cells]
 rw [e1] at h;exact h
structure PMem (w:World) (bg p:Nat) (q:Nat) (bl bz gl:Nat) (L:List Nat) (Z:List Int) (M:List Nat) (wr:World):Prop where
 g:Blk wr bg 33 [.string (E p),.string (E q)]
 l:NatsAt wr bl L
 z:IntsAt wr bz Z
 o:Blk wr gl 31 (strs M)
 below:Below bg w wr
theorem PMem.after {w wr ws:World} {bg p q bl bz gl:Nat} {L:List Nat} {Z:List Int} {M:List Nat} (h:PMem w bg p q bl bz gl L Z M wr) (hb:Below wr.heap.size wr ws):PMem w bg p q bl bz gl L Z M ws:=
 ⟨h.g.after hb,h.l.after hb,h.z.after hb,h.o.after hb,h.below.trans (hb.mono (Nat.le_of_lt h.g.lt))⟩
theorem PMem.set {w wr:World} {bg p q bl bz gl:Nat} {L:List Nat} {Z:List Int} {M:List Nat} (h:PMem w bg p q bl bz gl L Z M wr)
  (h1:bg<gl) (h2:bl≠gl) (h3:bz≠gl) (k v:Nat):PMem w bg p q bl bz gl L Z (M.set k v) (wr.setCell ⟨gl,k,none⟩ (.string (E v))):=
 ⟨h.g.other _ _ (by simp;omega),h.l.set _ h2,h.z.set _ h3,by have:=h.o.set k (.string (E v));rwa [strs_set] at this,h.below.setCell (by simp;omega) _⟩
theorem PMem.other {w wr:World} {bg p q bl bz gl g i:Nat} {L:List Nat} {Z:List Int} {M:List Nat} (h:PMem w bg p q bl bz gl L Z M wr)
  (h1:bg<g) (h2:bl≠g) (h3:bz≠g) (h4:gl≠g) (v:Value):PMem w bg p q bl bz gl L Z M (wr.setCell ⟨g,i,none⟩ v):=
 ⟨h.g.other _ _ (by simp;omega),h.l.set _ h2,h.z.set _ h3,h.o.other _ _ (by simpa using h4),h.below.setCell (by simp;omega) _⟩
theorem minvV_c (x p:Nat) (w:World) (hx:x<256^8) (hp:p<256^8) (h0:0<p) (hg:Nat.gcd x p=1) (hlt:x<p) :
  Calls Tryz.prog 109 #[.string (E x),.string (E p)] w fun r w'=>r=.returned (.tuple #[.string (E (invN x p)),.int .i64 0])∧Below w.heap.size w w':=by
 have:=minv_c x p w hx hp h0 hg;rwa [Nat.mod_eq_of_lt hlt] at this
theorem pb_take (P:List (Nat × Nat)) (k i:Nat) (h:k<P.length):pb (P.take (k+1)) i=pb (P.take k) i*(if bitB P[k].2 i then P[k].1 else 1):=by
 rw [List.take_succ_eq_append_getElem h];exact pb_snoc _ P[k].1 P[k].2 i
theorem prs_lt (p q:Nat) (L:List Nat) (Z:List Int) (hp:2≤p) (hx:∀x∈L,hasB p q x=true):∀y∈prs p L Z,y.1<p:=by
 intro y hy;obtain ⟨j,hj,rfl⟩:=List.mem_iff_getElem.1 hy;have h12:j<L.length∧j<Z.length:=by simp [prs] at hj;omega
 rw [prs_get p L Z j h12.1 h12.2 hj];show bse p L[j] Z[j]<p;unfold bse;split
 ·exact invN_lt _ _ (by omega)
 ·exact has_lt (hx _ (List.getElem_mem h12.1))
theorem product_g (p q bl bz cl cz n:Nat) (L:List Nat) (Z:List Int) (w:World) (hp:p<256^8) (hq:q<256^128) (hg:grpE p q=0)
  (hn:L.length=n) (hm:Z.length=n) (hn1:n≤1000) (hcl:n≤cl) (hcz:n≤cz)
  (hx:∀x∈L,hasB p q x=true) (hzz:∀z∈Z,z.natAbs<256^128) (hL:NatsAt w bl L) (hZ:IntsAt w bz Z) :
  Calls Tryz.prog 72 #[.agg #[.string (E p),.string (E q)],.slice (some ⟨bl,0,none⟩) n cl,.slice (some ⟨bz,0,none⟩) n cz] w fun e w'=>e=.returned (.tuple #[.string (E (pw (prs p L Z) 0%p)),.int .i64 0])∧Below w.heap.size w w':=by
 have hp2:=grp_gt hg;have HP2:=Lib.hid hp2;have HP:=Lib.hid hp;have HP0:Hid (0<p):=by unfold Hid;omega
 have HX:=Lib.hid hx;have HZZ:=Lib.hid hzz;have HLN:=Lib.hid hn;have HZN:=Lib.hid hm;have HLZ:Hid (L.length=Z.length):=by unfold Hid;omega
 have hbl:=hL.1;have hbz:=hZ.1;have HCK:=Lib.hid (checked_g p q bl cl n n cz (some ⟨bz,0,none⟩) L Z (w.alloc (.cells #[Value.string (E p),Value.string (E q)] 33)) hp hq hg hn hm hn1 hn1 hcl hcz hx hzz (hL.after (b1 _ _)) (.inr ⟨bz,rfl,hZ.after (b1 _ _)⟩));have hG:=Blk.new w #[Value.string (E p),Value.string (E q)] 33;have hL1:NatsAt (w.alloc (.cells #[Value.string (E p),Value.string (E q)] 33)) bl L:=hL.after (b1 _ _);have hZ1:IntsAt (w.alloc (.cells #[Value.string (E p),Value.string (E q)] 33)) bz Z:=hZ.after (b1 _ _);have hmk:=run_mks (P:=Tryz.prog) Tryz.underlying40 info_nat n (by omega) (by omega);clear hp hq hg hn hm hx hzz hL hZ hp2;go_enter Tryz.func72,Tryz.ntmps72
 go_wp2_with fail
 refine (HCK.out).mono ?_;rintro e w1 ⟨rfl,hb1⟩;go_wp2
 have hMem:PMem w w.heap.size p q bl bz w1.heap.size L Z (lay p L Z 0) (w1.alloc (.cells (Array.replicate n (Value.string { data:=#[] })) 31)):=by
  refine ⟨(hG.after hb1).alloc _,(hL1.after hb1).after (b1 _ _),(hZ1.after hb1).after (b1 _ _),?_,ba (bt (b1 _ _) hb1) _⟩;rw [lay_zero,HLN.out,←strs_zeros];have h:=Blk.new w1 (Array.replicate n (Value.string { data:=#[] })) 31;rw [Array.toList_replicate] at h;exact h
 have hgl:w.heap.size<w1.heap.size:=(hG.after hb1).lt;generalize (w1.alloc (.cells (Array.replicate n (Value.string { data:=#[] })) 31))=w2 at hMem;obtain ⟨gl,hgle⟩:∃gl,w1.heap.size=gl:=⟨_,rfl⟩;obtain ⟨bg,hbg⟩:∃bg,w.heap.size=bg:=⟨_,rfl⟩;rw [hgle,hbg] at hMem ⊢;rw [hgle,hbg] at hgl;rw [hbg] at hbl hbz;have HBG:=Lib.hid hbg;clear hgle hbg hG hL1 hZ1 hb1 HCK hmk;go_loopw [10,37] (fun v i wr=>∃k:Nat,k≤n∧i=.int .i64 k∧v=.int .i64 (mxb (Z.take k):Nat)∧PMem w bg p q bl bz gl L Z (lay p L Z k) wr) (fun _ i _=>n-(intOf i).toNat)
 case atStart=>exact ⟨0,by omega,rfl,rfl,hMem⟩
 case round =>
  obtain ⟨k,hk,rfl,rfl,hM⟩:=hrel;obtain ⟨wp,hwp⟩:∃wp,wp=wr:=⟨_,rfl⟩;subst hwp;clear hMem;by_cases hlt:k<n
  ·have hkl:k<L.length:=by rw [HLN.out];exact hlt
   have hkz:k<Z.length:=by rw [HZN.out];exact hlt
   have hcx:=hM.l.2 k hkl;obtain ⟨hcz0,hcz1⟩:=hM.z.2 k hkz;have hll:=lay_len p L Z HLZ.out k (by omega);have hco:=strs_cell hM.o k (by rw [hll];exact hkl);have hfo:=hM.o.free k;have HZB:=Lib.hid (HZZ.out _ (List.getElem_mem hkz));have HHX:=Lib.hid (HX.out _ (List.getElem_mem hkl));have HST:=Lib.hid (lay_set p L Z HLZ.out k hkl hkz);have HMX:=Lib.hid (mxb_take Z k hkz);have hmx:=mxb_bound Z HZZ.out k;have hne1:¬ bz=gl:=by omega
   have hne2:¬ bl=gl:=by omega
   have hne3:¬ bg=gl:=by omega
   generalize (lay p L Z k)[k]=vv at hco;generalize L[k]=x at hcx HHX HST;have HKZ:=Lib.hid hkz;have HKL:=Lib.hid hkl;obtain ⟨z,hzk⟩:∃z,Z[k]'hkz=z:=⟨_,rfl⟩;rw [hzk] at hcz0 hcz1 HZB HST HMX;have HZK:=Lib.hid hzk;have HLL:=Lib.hid hll;clear hzk;generalize mxb (Z.take k)=mk at HMX hmx;clear hll;have HXB:=Lib.hid (Nat.lt_trans (has_lt HHX.out) HP.out);have hnb:=nb_le z.natAbs 128 (sz _ HZB.out);rcases Int.lt_or_le z 0 with hneg | hpos
   ·have hsg:=sg_of_neg hneg;have HV:Hid (bse p x z=invN x p):=by rw [Hid,bse,if_pos hneg]
    have HGC:=Lib.hid (has_coprime HP2.out HHX.out);have hMg:=hM.g;obtain ⟨hMgc0,hMgf0⟩:=hMg.x1;clear hneg;go_wp2_with fail
    refine (minvV_c x p _ HXB.out HP.out HP0.out HGC.out (has_lt HHX.out)).mono ?_;rintro e w3 ⟨rfl,hb3⟩;clear hMgc0 hMgf0;have hM3:=(hM.set hgl hne2 hne1 k x).after hb3;obtain ⟨hcz2,hcz3⟩:=hM3.z.2 k HKZ.out;rw [HZK.out] at hcz2 hcz3;have hco3:=strs_cell hM3.o k (by rw [List.length_set,HLL.out];exact HKL.out);have hfo3:=hM3.o.free k;go_wp2_with fail
    refine (bits_c z.natAbs _ HZB.out).mono ?_;rintro e w' ⟨rfl,rfl⟩;go_wp2;go_roundw
    case rel =>
     refine ⟨k+1,by omega,by go_num,?_,?_⟩
     ·rw [HMX.out];exact vi (by omega)
     ·have h:=hM3.set hgl hne2 hne1 k (invN x p);rw [List.set_set,←HV.out,HST.out,HV.out] at h;exact h
    case measure=>simp [intOf];omega
   ·have hsg:=sg_of_nonneg hpos;have HV:Hid (bse p x z=x):=by rw [Hid,bse,if_neg (by omega)]
    clear hpos;go_wp2_with fail
    refine (bits_c z.natAbs _ HZB.out).mono ?_;rintro e w' ⟨rfl,rfl⟩;go_wp2;go_roundw
    case rel =>
     refine ⟨k+1,by omega,by go_num,?_,?_⟩
     ·rw [HMX.out];exact vi (by omega)
     ·have h:=hM.set hgl hne2 hne1 k x;rw [←HV.out,HST.out,HV.out] at h;exact h
    case measure=>simp [intOf];omega
  ·obtain rfl:k=n:=by omega
   have HTK:Hid (Z.take k=Z):=List.take_of_length_le (by rw [HZN.out];exact Nat.le_refl _);have HLY:=Lib.hid (lay_full p L Z HLZ.out);rw [HLN.out] at HLY;rw [HLY.out] at hM;rw [HTK.out];have hmx:=mxb_bound Z HZZ.out k;rw [HTK.out] at hmx;have HTOP:=Lib.hid (prs_top p L Z);clear hk hlt;have HO:=Lib.hid (fun w=>ofK_c 1 1 w rfl (by decide));go_wp2_with fail
   refine (HO.out _).mono ?_;rintro e w3 ⟨rfl,hb3⟩;go_wp2;have hM4:=(hM.after hb3).after (b1 w3 (.cells #[.string (E 1)] 31));have hO:=Blk.new w3 #[.string (E 1)] 31;have hgo:gl<w3.heap.size:=(hM.after hb3).o.lt;have hlo:bl<w3.heap.size:=(hM.after hb3).l.1;have hzo:bz<w3.heap.size:=(hM.after hb3).z.1;have hbo:bg<w3.heap.size:=(hM.after hb3).g.lt;generalize w3.alloc (.cells #[.string (E 1)] 31)=w4 at hM4 hO;generalize w3.heap.size=bo at hO hgo hlo hzo hbo ⊢;clear hb3 hM;have HPL:Hid ((prs p L Z).length=k):=by rw [Hid,prs_len p L Z HLZ.out];exact HLN.out
   have HPG:Hid (∀j (h1:j<L.length) (h2:j<Z.length) (h3:j<(prs p L Z).length),(prs p L Z)[j]=(bse p L[j] Z[j],Z[j].natAbs)):=prs_get p L Z;have HPB:Hid (∀y∈prs p L Z,y.1<p):=prs_lt p q L Z HP2.out HX.out;generalize hPE:prs p L Z=P at hM4 HTOP HPL HPG HPB;have HPE:=Lib.hid hPE;clear hPE;go_loopw [17] (fun i wr=>∃b:Nat,b≤mxb Z∧i=.int .i64 ((b:Int)-1)∧PMem w bg p q bl bz gl L Z (P.map (·.1)) wr∧Blk wr bo 31 [.string (E (pw P b%p))]) (fun i _=>(intOf i+1).toNat)
   case atStart =>
    refine ⟨mxb Z,Nat.le_refl _,rfl,hM4,?_⟩;rw [HTOP.out,Nat.mod_eq_of_lt (Nat.lt_of_lt_of_le (by decide) HP2.out)];exact hO
   case round =>
    clear hM4 hO;obtain ⟨b,hb,rfl,hM,hO⟩:=hrel;obtain ⟨wp,hwp⟩:∃wp,wp=wr:=⟨_,rfl⟩;subst hwp;by_cases hlt:0<b
    ·obtain ⟨i,rfl⟩:∃i,b=i+1:=⟨b-1,by omega⟩;have HI:Hid (((i+1:Nat):Int)-1=(i:Int)):=by unfold Hid;omega
     rw [HI.out];have HST:=Lib.hid (pw_step P i);have HY0:=Lib.hid (Nat.mul_mod (pw P (i+1)) (pw P (i+1)) p);have hyl:=Nat.mod_lt (pw P (i+1)) HP0.out;generalize hyy:pw P (i+1)%p=y at hO hyl HY0;generalize hsq:pw P (i+1)*pw P (i+1)=sq at HST HY0;have HYB:=Lib.hid (Nat.lt_trans hyl HP.out);clear hyl hyy hsq;have HT:=Lib.hid (times1_c y y p bo bg (sq%p) (E q) wp HYB.out HYB.out HP.out HP0.out HY0.out.symm hO hM.g);have hOc:wp.cell? ⟨bo,0,none⟩=some (.string (E y)):=hO.cell 0;go_wp2_with fail
     refine HT.out.mono ?_;rintro e w6 ⟨rfl,w5,hb5,rfl⟩;have hM5:=(hM.after hb5).other (i:=0) hbo (by omega) (by omega) (by omega) (.string (E (sq%p)));have hO5:=(hO.after hb5).set 0 (.string (E (sq%p)));generalize w5.setCell ⟨bo,0,none⟩ (.string (E (sq%p)))=w6 at hM5 hO5;clear hb5 HT hM hO hOc;go_wp2;go_loopw [87] (fun j wr=>∃k':Nat,k'≤k∧j=.int .i64 k'∧PMem w bg p q bl bz gl L Z (P.map (·.1)) wr∧Blk wr bo 31 [.string (E (sq*pb (P.take k') i%p))]) (fun j _=>k-(intOf j).toNat)
     case atStart=>exact ⟨0,Nat.zero_le _,rfl,hM5,by rw [List.take_zero];simp only [pb,Nat.mul_one];exact hO5⟩
     case round =>
      clear hM5 hO5;obtain ⟨k',hk,rfl,hM,hO⟩:=hrel;obtain ⟨wq,hwq⟩:∃wq,wq=wr:=⟨_,rfl⟩;subst hwq;by_cases hkk:k'<k
      ·have h1:k'<L.length:=by rw [HLN.out];exact hkk
       have h2:k'<Z.length:=by rw [HZN.out];exact hkk
       have h3:k'<P.length:=by rw [HPL.out];exact hkk
       have hcx:=strs_cell hM.o k' (by rw [List.length_map];exact h3);rw [List.getElem_map] at hcx;obtain ⟨_,hcz⟩:=hM.z.2 k' h2;have HPT:=Lib.hid (List.take_succ_eq_append_getElem h3);have HXB:=Lib.hid (Nat.lt_trans (HPB.out _ (List.getElem_mem h3)) HP.out);have HZB:=Lib.hid (HZZ.out _ (List.getElem_mem h2));have hp1:P[k'].2=(Z[k']'h2).natAbs:=by rw [HPG.out k' h1 h2 h3]
       rw [←hp1] at hcz HZB;have HPP:=Lib.hid (pb_take P k' i h3);clear hp1 HPT;generalize P[k'].2=ez at hcz HZB HPP;generalize P[k'].1=x at hcx HXB HPP;have HOO:=Lib.hid (Nat.mod_lt (sq*pb (P.take k') i) HP0.out);generalize pb (P.take k') i=pk at hO HPP HOO;have HTB:=Lib.hid (Nat.lt_trans HOO.out HP.out);have hib:i≤1024:=by omega
       cases hbit:bitB ez i
       ·have HBIT:=Lib.hid hbit;have HR:Hid (sq*pb (P.take (k'+1)) i%p=sq*pk%p):=by rw [Hid,HPP.out,hbit];simp
        clear hbit HPP;go_wp2_with fail
        refine (bitV_c ez i i false _ rfl HZB.out (by omega) HBIT.out).mono ?_;rintro e w' ⟨rfl,rfl⟩;go_wp2;go_roundw
        case rel=>exact ⟨k'+1,by omega,by go_num,hM,by rw [HR.out];exact hO⟩
        case measure=>simp [intOf];omega
       ·have HBIT:=Lib.hid hbit;have HR:Hid (sq*pk%p*x%p=sq*pb (P.take (k'+1)) i%p):=by rw [Hid,HPP.out,hbit,if_pos rfl,Nat.mod_mul_mod,Nat.mul_assoc]
        have HT:=Lib.hid (times1_c (sq*pk%p) x p bo bg _ (E q) wq HTB.out HXB.out HP.out HP0.out HR.out hO hM.g);clear hbit HPP HR;go_wp2_with fail
        refine (bitV_c ez i i true _ rfl HZB.out (by omega) HBIT.out).mono ?_;rintro e w' ⟨rfl,rfl⟩;go_wp2_with fail
        refine HT.out.mono ?_;rintro e w7 ⟨rfl,w6',hb6,rfl⟩;have hM6:=(hM.after hb6).other (i:=0) hbo (by omega) (by omega) (by omega) (.string (E (sq*pb (P.take (k'+1)) i%p)));have hO6:=(hO.after hb6).set 0 (.string (E (sq*pb (P.take (k'+1)) i%p)));go_wp2;go_roundw
        case rel=>exact ⟨k'+1,by omega,by go_num,hM6,hO6⟩
        case measure=>simp [intOf];omega
      ·obtain rfl:k'=k:=by omega
       rw [List.take_of_length_le (by rw [HPL.out];exact Nat.le_refl _),HST.out] at hO;go_wp2;go_roundw
       case rel=>exact ⟨i,by omega,rfl,hM,hO⟩
       case measure=>simp [intOf] <;> omega
    ·obtain rfl:b=0:=by omega
     have hOc:wp.cell? ⟨bo,0,none⟩=some (.string (E (pw P 0%p))):=hO.cell 0;go_wp2;go_ret2
     rw [←HBG.out] at hM;exact ⟨r2 (vE (by rw [HPE.out])) rfl,hM.below⟩
theorem product_c (p q bl bz cl cz n:Nat) (L:List Nat) (Z:List Int) (w:World) (hp:p<256^8) (hq:q<256^128) (hg:grpE p q=0)
  (hn:L.length=n) (hm:Z.length=n) (hn1:n≤1000) (hcl:n≤cl) (hcl2:cl≤1000000) (hcz:n≤cz) (hcz2:cz≤1000000)
  (hx:∀x∈L,hasB p q x=true) (hzz:∀z∈Z,z.natAbs<256^128) (hL:NatsAt w bl L) (hZ:IntsAt w bz Z) :
  Calls Tryz.prog 72 #[.agg #[.string (E p),.string (E q)],.slice (some ⟨bl,0,none⟩) n cl,.slice (some ⟨bz,0,none⟩) n cz] w fun e w'=>e=.returned (.tuple #[.string (E (pw (prs p L Z) 0%p)),.int .i64 0])∧Below w.heap.size w w':=
 product_g p q bl bz cl cz n L Z w hp hq hg hn hm hn1 hcl hcz hx hzz hL hZ
end
end Go.Proofs.YtdoacbdkbbpamaaGreatDoor
