import Derived.Test.YtdgddpnjkinciaaGreatDoorExt2
import Derived.Test.YtdgddpnjkinciaaGreatDoorPow2
set_option linter.all false
set_option maxRecDepth 100000
set_option maxHeartbeats 16000000
namespace Go.Proofs.YtdgddpnjkinciaaGreatDoor
section
open Go.RowKit
theorem E1L (n:Nat):((E n).toList==[1])=decide (n=1):=by
 have h:(E 1).toList=[1]:=by rw[ByteArray.toList_eq];rfl
 rw[←h];by_cases h1:n=1
 ·rw[eqE h1,Dt h1]
 ·rw[neE h1,decide_eq_false h1]
theorem gcd_red (a m:Nat):Nat.gcd (a%m) m=Nat.gcd a m:=by rw[Nat.gcd_comm a m,Nat.gcd_rec m a]
theorem inv_of_bez (a m x:Nat) (y:Int) (h0:0<m) (hg:Nat.gcd a m=1) (h:(a:Int)*x+(m:Int)*y=(Nat.gcd a m:Nat)):x%m=invN a m:=by
 refine inv_eq a m (x%m) h0 hg (Nat.mod_lt _ h0) ?_;rw[hg]at h;exact mul_mod_of_bez a m (x%m) x y h0 h (by rw[Int.natCast_emod,Int.emod_emod_of_dvd _ (Int.dvd_refl _)])
theorem minv_c (a m:Nat) (w:World) (ha:a<256^8) (hm:m<256^8) (h0:0<m) (hg:Nat.gcd a m=1) :
  Calls Tryz.prog 130 #[.string (E a),.string (E m)] w fun r w'=>r=.returned (.tuple #[.string (E (invN (a%m) m)),.int .i64 0])∧Bw w w':=by
 have HC:=Kh (mcheck_c w.heap.size (w.heap.size+1) [a] m ((w.alloc (.cells #[.string (E a)] 22)).alloc (.cells #[.string (E m)] 22)) (by simp) (by simp) (by simp[lt128 ha]) (lt128 hm) h0 (blk2a _ _ _ _ _) (blk2b _ _ _ _ _));have HA:=Kh ha;have HM:=Kh (lt128 hm);have hc:=Kh hm;have H0:=Kh h0;have HL:=Kh (Nat.lt_trans (Nat.mod_lt a h0) hm);have HG:Hid (Nat.gcd (a%m) m=1):=by rw[Hid,gcd_red];exact hg
 have HB:=Kh (fun x y=>inv_of_bez (a%m) m x y h0 HG.out);have hh:((E 1).toList==[1])=true:=by rw[E1L];rfl
 clear ha hm h0 hg;go_enter Tryz.func130,Tryz.ntmps130
 go_wp2_with fail
 refine (HC.out).mono ?_;rintro e w1 ⟨rfl,hd⟩;go_wp2_with fail
 refine (mreduced_c a m _ HA.out HM.out H0.out).mono ?_;rintro e w2 ⟨rfl,he⟩;go_wp2_with fail
 refine (iext_c (a%m) m _ HL.out hc.out H0.out).mono ?_;rintro e w3 ⟨x,y,hb,hx,rfl,hf⟩;have HV:=Kh (HB.out x y hb);have HX:=Kh hx;rw[HG.out];clear hb hx HB;go_wp2_with fail
 refine (mreduced_c x m _ HX.out HM.out H0.out).mono ?_;rintro e w4 ⟨rfl,hb4⟩;go_wp2;go_ret2
 exact⟨r2 (vE HV.out) rfl,bt (ba (ba (bt (bt (bt (b2 _ _ _) hd) he) hf) _) _) hb4⟩
end
section
open Go.RowKit
def NatsAt (w:World) (b:Nat) (L:List Nat):Prop:=b<w.heap.size∧∀j (h:j<L.length),w.cell? ⟨b,j,none⟩=some (.string (E L[j]))
def IntsAt (w:World) (b:Nat) (Z:List Int):Prop:=b<w.heap.size∧∀j (h:j<Z.length),w.cell? ⟨b,j*2,none⟩=some (.bool (sg Z[j]))∧w.cell? ⟨b,j*2+1,none⟩=some (.string (E Z[j].natAbs))
theorem NatsAt.after {w w':World} {b:Nat} {L:List Nat} (h:NatsAt w b L) (hb:Bw w w'):NatsAt w' b L:=
 ⟨Nl h.1 hb.size,fun j hj=>(hb.cell (p:=⟨b,j,none⟩) h.1).trans (h.2 j hj)⟩
theorem IntsAt.after {w w':World} {b:Nat} {Z:List Int} (h:IntsAt w b Z) (hb:Bw w w'):IntsAt w' b Z:=
 ⟨Nl h.1 hb.size,fun j hj=>⟨(hb.cell (p:=⟨b,j*2,none⟩) h.1).trans (h.2 j hj).1,(hb.cell (p:=⟨b,j*2+1,none⟩) h.1).trans (h.2 j hj).2⟩⟩
theorem NatsAt.set {w:World} {b g i:Nat} {L:List Nat} (h:NatsAt w b L) (v:Value) (hb:b≠g):NatsAt (w.setCell ⟨g,i,none⟩ v) b L:=
 ⟨by rw[World.size_setCell];exact h.1,fun j hj=>by rw[World.cell?_setCell_other _ _ _ _ (fun e=>hb (congrArg Addr.block e).symm)];exact h.2 j hj⟩
theorem IntsAt.set {w:World} {b g i:Nat} {Z:List Int} (h:IntsAt w b Z) (v:Value) (hb:b≠g):IntsAt (w.setCell ⟨g,i,none⟩ v) b Z:=
 ⟨by rw[World.size_setCell];exact h.1,fun j hj=>⟨by rw[World.cell?_setCell_other _ _ _ _ (fun e=>hb (congrArg Addr.block e).symm)];exact (h.2 j hj).1,by rw[World.cell?_setCell_other _ _ _ _ (fun e=>hb (congrArg Addr.block e).symm)];exact (h.2 j hj).2⟩⟩
theorem NatsAt.of_blk {w:World} {b:Nat} {T:TypeId} {L:List Nat} (h:Blk w b T (strs L)):NatsAt w b L:=⟨h.lt,fun j hj=>strs_cell h j hj⟩
theorem checked_g (p q bl cl n m cz:Nat) (ao:Option Addr) (L:List Nat) (Z:List Int) (w:World) (hp:p<256^8) (hq:q<256^128) (hg:grpE p q=0)
  (hn:L.length=n) (hm:Z.length=m) (hQ:n≤1000) (hR:m≤1000) (hS:n≤cl) (hT:m≤cz)
  (hx:∀x∈L,hasB p q x=true) (hy:∀z∈Z,z.natAbs<256^128) (hL:NatsAt w bl L) (hZ:m=0∨∃bz,ao=some ⟨bz,0,none⟩∧IntsAt w bz Z) :
  Calls Tryz.prog 87 #[.agg #[.string (E p),.string (E q)],.slice (some ⟨bl,0,none⟩) n cl,.slice ao m cz,.bool true] w fun e w'=>e=.returned (.int .i64 0)∧Bw w w':=by
 have HP:=Kh hp;have HQ:=Kh hq;have HG:=Kh hg;have HX:=Kh hx;have hI:=Kh hy;have hz:=Kh hn;have hJ:=Kh hm;have HC:=Kh (fun w=>pcheckV_c p q 0 w hp hq hg);have hB:=Blk.new w #[Value.string (E p),Value.string (E q)] 24;have hd:NatsAt (w.alloc (.cells #[Value.string (E p),Value.string (E q)] 24)) bl L:=hL.after (b1 _ _);have he:=b1 w (.cells #[Value.string (E p),Value.string (E q)] 24)
 have hi:Hid (m=0∨∃bz,ao=some ⟨bz,0,none⟩∧IntsAt (w.alloc (.cells #[Value.string (E p),Value.string (E q)] 24)) bz Z):=by
  rcases hZ with h | ⟨bz,h,h2⟩
  ·exact .inl h
  ·exact .inr ⟨bz,h,h2.after (b1 _ _)⟩
 clear hp hq hg hx hy hn hm hL hZ;go_enter Tryz.func87,Tryz.ntmps87
 go_wp2;generalize w.alloc (.cells #[Value.string (E p),Value.string (E q)] 24)=w1 at hB hd he hi;obtain⟨bg,hl⟩:∃bg,w.heap.size=bg:=⟨_,rfl⟩;rw[hl]at hB ⊢;have hK:=Kh hl;clear hl;go_loop [18] (fun i=>∃k:Nat,k≤n∧i=.int .i64 k) (fun i=>n-(intOf i).toNat)
 case atStart=>exact⟨0,by omega,rfl⟩
 case round =>
  obtain⟨k,hk,rfl⟩:=hrel;by_cases hlt:k<n
  ·have hf:k<L.length:=by rw[hz.out];exact hlt
   have hc:=hd.2 k hf;have HN:=Kh (lt128 (Nat.lt_trans (has_lt (HX.out _ (Gm hf))) HP.out));generalize L[k]=x at hc HN;go_wp2_with fail
   refine (validE_c x _ HN.out).mono ?_;rintro e w' ⟨rfl,rfl⟩;go_wp2;go_round
   case rel=>exact⟨k+1,by omega,by go_num⟩
   case measure=>simp[intOf];omega
  ·obtain rfl:k=n:=by omega
   clear hk hlt;go_wp2;go_loopw [28,12] (fun i _ wr=>∃j:Nat,j≤m∧i=.int .i64 j∧Bw w1 wr) (fun i _ _=>m-(intOf i).toNat)
   case atStart=>exact⟨0,by omega,rfl,Br⟩
   case round =>
    obtain⟨j,hj,rfl,hb⟩:=hrel;obtain⟨wp,ho⟩:∃wp,wp=wr:=⟨_,rfl⟩;subst ho;by_cases hlt:j<m
    ·obtain⟨bz,rfl,hA⟩:∃bz,ao=some ⟨bz,0,none⟩∧IntsAt w1 bz Z:=by
      rcases hi.out with h | h
      ·omega
      ·exact h
     have hC:j<Z.length:=by rw[hJ.out];exact hlt
     obtain⟨hM,hN⟩:=(hA.after hb).2 j hC;have hD:=Kh (hI.out _ (Gm hC));generalize Z[j]=z at hM hN hD;clear hA;go_wp2_with fail
     refine (ivalidI_c z _ hD.out).mono ?_;rintro e w2 ⟨rfl,hO⟩;go_wp2;go_roundw
     case rel=>exact⟨j+1,by omega,by go_num,bt (ba hb _) hO⟩
     case measure=>simp[intOf];omega
    ·obtain rfl:j=m:=by omega
     clear hj hlt;replace hB:=hB.after hb;replace hd:=hd.after hb;replace he:=bt he hb;obtain⟨hr,ht,hu,hv⟩:=hB.x2;go_wp2_with fail
     refine (HC.out _).mono ?_;rintro e w3 ⟨rfl,hh⟩;clear hr ht hu hv;replace hB:=hB.after hh;replace hd:=hd.after hh;replace he:=bt he hh;clear hh hb hi;go_wp2;go_loopw [45] (fun i wr=>∃k':Nat,k'≤k∧i=.int .i64 k'∧Bw w3 wr) (fun i _=>k-(intOf i).toNat)
     case atStart=>exact⟨0,by omega,rfl,Br⟩
     case round =>
      obtain⟨k',hk,rfl,hb⟩:=hrel;obtain⟨wp,ho⟩:∃wp,wp=wr:=⟨_,rfl⟩;subst ho;by_cases hlt:k'<k
      ·have hf:k'<L.length:=by rw[hz.out];exact hlt
       have hc:=(hd.after hb).2 k' hf;have hw:=Kh (HX.out _ (Gm hf));generalize L[k']=x at hc hw;have HN:=Kh (lt128 (Nat.lt_trans (has_lt hw.out) HP.out));have hP:=hB.after hb;obtain⟨hE,hF,hG,hH⟩:=hP.x2;go_wp2_with fail
       refine (phasV_c p q x true _ HP.out HQ.out HG.out HN.out hw.out).mono ?_;rintro e w4 ⟨rfl,hb4⟩;go_wp2;go_roundw
       case rel=>exact⟨k'+1,by omega,by go_num,bt hb hb4⟩
       case measure=>simp[intOf];omega
      ·obtain rfl:k'=k:=by omega
       go_wp2;go_ret
       rw[←hK.out];exact⟨rfl,bt he hb⟩
theorem checked_c (p q bl cl n m cz:Nat) (ao:Option Addr) (L:List Nat) (Z:List Int) (w:World) (hp:p<256^8) (hq:q<256^128) (hg:grpE p q=0)
  (hn:L.length=n) (hm:Z.length=m) (hb:n≤1000) (hc:m≤1000) (hd:n≤cl) (he:cl≤1000000) (hf:m≤cz) (hh:cz≤1000000)
  (hx:∀x∈L,hasB p q x=true) (hi:∀z∈Z,z.natAbs<256^128) (hL:NatsAt w bl L) (hZ:m=0∨∃bz,ao=some ⟨bz,0,none⟩∧IntsAt w bz Z) :
  Calls Tryz.prog 87 #[.agg #[.string (E p),.string (E q)],.slice (some ⟨bl,0,none⟩) n cl,.slice ao m cz,.bool true] w fun e w'=>e=.returned (.int .i64 0)∧Bw w w':=
 checked_g p q bl cl n m cz ao L Z w hp hq hg hn hm hb hc hd hf hx hi hL hZ
theorem mmulV_c (a b m r:Nat) (w:World) (ha:a<256^8) (hb:b<256^8) (hm:m<256^8) (h0:0<m) (hr:a*b%m=r) :
  Calls Tryz.prog 88 #[.string (E a),.string (E b),.string (E m)] w fun e w'=>e=.returned (.tuple #[.string (E r),.int .i64 0])∧Bw w w':=by
 rw[←hr];exact mmul_c a b m w ha hb hm h0
theorem times1_c (y x p bo bg r:Nat) (q:ByteArray) (w:World) (hy:y<256^8) (hx:x<256^8) (hp:p<256^8) (h0:0<p) (hr:y*x%p=r) (hO:Blk w bo 22 [.string (E y)]) (hG:Blk w bg 24 [.string (E p),.string q]) :
  Calls Tryz.prog 132 #[.string (E x),.pointer (some ⟨bo,0,none⟩),.pointer (some ⟨bg,0,none⟩)] w fun e w'=>e=.returned (.tuple #[])∧∃w1,Bw w w1∧w'=w1.setCell ⟨bo,0,none⟩ (.string (E r)):=by
 have HM:=Kh (fun w=>mmulV_c y x p r w hy hx hp h0 hr);clear hy hx hp h0 hr;obtain⟨hb,hc⟩:=hO.x1;obtain⟨hd,he⟩:=hG.x1;go_enter Tryz.func132,Tryz.ntmps132
 go_wp2_with fail
 refine (HM.out _).mono ?_;rintro e w1 ⟨rfl,hf⟩;clear hb hc;clear hd he;replace hO:=hO.after hf;obtain⟨hb,hc⟩:=hO.x1;go_wp2;go_end0
 exact⟨rfl,w1,hf,rfl⟩
end
section
open Go.RowKit
def bse (p x:Nat) (z:Int):Nat:=if z<0 then invN x p else x
def prs (p:Nat) (L:List Nat) (Z:List Int):List (Nat × Nat):=List.zipWith (fun x z=>(bse p x z,z.natAbs)) L Z
def mxb (Z:List Int):Nat:=Z.foldl (fun m z=>max m (nb z.natAbs)) 0
theorem mxb_snoc (Z:List Int) (z:Int):mxb (Z++[z])=max (mxb Z) (nb z.natAbs):=by simp[mxb]
theorem foldl_max_ge (Z:List Int) (m:Nat):m≤Z.foldl (fun m z=>max m (nb z.natAbs)) m:=by
 induction Z generalizing m with
 | nil=>exact Nat.le_refl _
 | cons z t ih=>exact Nat.le_trans (Nat.le_max_left _ _) (ih _)
theorem mxb_ge {Z:List Int} {z:Int} (h:z∈Z):nb z.natAbs≤mxb Z:=by
 unfold mxb
 have:∀(l:List Int) (m:Nat),z∈l→nb z.natAbs≤l.foldl (fun m z=>max m (nb z.natAbs)) m:=by
  intro l;induction l with
  | nil=>intro m h;cases h
  | cons y t ih =>
   intro m h;rcases List.mem_cons.1 h with rfl | h
   ·exact Nat.le_trans (Nat.le_max_right _ _) (foldl_max_ge t _)
   ·exact ih _ h
 exact this Z 0 h
theorem mxb_le (Z:List Int) (k:Nat) (h:∀z∈Z,nb z.natAbs≤k):mxb Z≤k:=by
 unfold mxb
 have:∀(l:List Int) (m:Nat),m≤k→(∀z∈l,nb z.natAbs≤k)→l.foldl (fun m z=>max m (nb z.natAbs)) m≤k:=by
  intro l;induction l with
  | nil=>intro m h _;exact h
  | cons y t ih=>intro m hm h;exact ih _ (Nat.max_le.2 ⟨hm,h y (List.mem_cons_self ..)⟩) (fun z hz=>h z (List.mem_cons_of_mem _ hz))
 exact this Z 0 (Nat.zero_le _) h
theorem prs_len (p:Nat) (L:List Nat) (Z:List Int) (h:L.length=Z.length):(prs p L Z).length=L.length:=by simp[prs,h]
theorem prs_get (p:Nat) (L:List Nat) (Z:List Int) (j:Nat) (h1:j<L.length) (h2:j<Z.length) (h3:j<(prs p L Z).length):(prs p L Z)[j]=(bse p L[j] Z[j],Z[j].natAbs):=by simp[prs]
theorem prs_top (p:Nat) (L:List Nat) (Z:List Int):pw (prs p L Z) (mxb Z)=1:=by
 refine pw_top _ _ fun y hy=>?_
 obtain⟨j,hj,rfl⟩:=List.mem_iff_getElem.1 hy;have hb:j<L.length∧j<Z.length:=by simp[prs]at hj;omega
 rw[prs_get p L Z j hb.1 hb.2 hj];exact Nl (lt_nb _) (Nat.pow_le_pow_right (by decide) (mxb_ge (Gm hb.2)))
theorem mxb_take (Z:List Int) (k:Nat) (h:k<Z.length):mxb (Z.take (k+1))=max (mxb (Z.take k)) (nb Z[k].natAbs):=by
 rw[List.take_succ_eq_append_getElem h,mxb_snoc]
theorem mxb_bound (Z:List Int) (h:∀z∈Z,z.natAbs<256^128) (k:Nat):mxb (Z.take k)≤1024:=
 mxb_le _ _ fun z hz=>nb_le _ 128 (sz _ (h z (List.mem_of_mem_take hz)))
def lay (p:Nat) (L:List Nat) (Z:List Int) (k:Nat):List Nat:=((prs p L Z).take k).map (·.1)++List.replicate (L.length-k) 0
theorem lay_len (p:Nat) (L:List Nat) (Z:List Int) (h:L.length=Z.length) (k:Nat) (hk:k≤L.length):(lay p L Z k).length=L.length:=by
 simp[lay,prs_len p L Z h];omega
theorem lay_zero (p:Nat) (L:List Nat) (Z:List Int):lay p L Z 0=List.replicate L.length 0:=by simp[lay]
theorem lay_set (p:Nat) (L:List Nat) (Z:List Int) (h:L.length=Z.length) (k:Nat) (hk:k<L.length) (hb:k<Z.length):(lay p L Z k).set k (bse p L[k] Z[k])=lay p L Z (k+1):=by
 have hl:=prs_len p L Z h;apply List.ext_getElem
 ·rw[List.length_set,lay_len p L Z h k (by omega),lay_len p L Z h (k+1) (by omega)]
 ·intro i h1 h2;rw[List.getElem_set];by_cases hi:k=i
  ·subst hi;rw[if_pos rfl];simp only[lay];rw[List.getElem_append_left (by simp[hl];omega)];simp[prs_get p L Z k hk hb]
  ·rw[if_neg hi];simp only[lay];by_cases hlt:i<k
   ·rw[List.getElem_append_left (by simp[hl];omega),List.getElem_append_left (by simp[hl];omega)];simp
   ·rw[List.getElem_append_right (by simp[hl];omega),List.getElem_append_right (by simp[hl];omega)];simp
theorem lay_full (p:Nat) (L:List Nat) (Z:List Int) (h:L.length=Z.length):lay p L Z L.length=(prs p L Z).map (·.1):=by
 have hl:=prs_len p L Z h;unfold lay;rw[Nat.sub_self,List.replicate_zero,List.append_nil,List.take_of_length_le (by omega)]
theorem strs_set (l:List Nat) (j:Nat) (d:Nat):(strs l).set j (.string (E d))=strs (l.set j d):=by simp[strs]
theorem strs_zeros (n:Nat):List.replicate n (Value.string { data:=#[] })=strs (List.replicate n 0):=by
 simp only[strs,List.map_replicate];rfl
theorem run_mks {P:Program} {t e:TypeId} {bytes:Nat} (ht:P.underlying t=some (.slice e)) (hi:(P.info? e).map (fun i=>(i.zero,i.size,i.bytes))=some (some (.string { data:=#[] }),1,bytes))
  (n:Nat) (hb:bytes*n≤281474976710656) (hm:n≤4611686018427387904) (w:World) :
  (Instr.makeSlice t (.int .i64 (n:Int)) (.int .i64 (n:Int))).run P w=.ok (.slice (some ⟨w.heap.size,0,none⟩) n n) (w.alloc (.cells (List.replicate n (Value.string { data:=#[] })).toArray e)):=by
 obtain⟨i,hc,hz,hs,hd⟩:=info_parts hi;have h:=run_make (P:=P) w t e i (.string { data:=#[] }) ht hc hz .i64 .i64 (n:Int) (n:Int) (by omega) (Int.le_refl _) (by rw[hd];have h:((bytes*n:Nat):Int)≤((281474976710656:Nat):Int):=Int.ofNat_le.2 hb;rw[Int.natCast_mul]at h;exact h) (by omega);rw[hs,Nat.mul_one,Int.toNat_natCast]at h
 have e1:madeCells (Value.string { data:=#[] }).cells n=(List.replicate n (Value.string { data:=#[] })).toArray:=by
  have:=toList_madeCells_one (.string { data:=#[] }) n;rw[←this];simp[Value.cells]
 rw[e1]at h;exact h
structure PMem (w:World) (bg p:Nat) (q:Nat) (bl bz gl:Nat) (L:List Nat) (Z:List Int) (M:List Nat) (wr:World):Prop where
 g:Blk wr bg 24 [.string (E p),.string (E q)]
 l:NatsAt wr bl L
 z:IntsAt wr bz Z
 o:Blk wr gl 22 (strs M)
 below:Below bg w wr
theorem PMem.after {w wr ws:World} {bg p q bl bz gl:Nat} {L:List Nat} {Z:List Int} {M:List Nat} (h:PMem w bg p q bl bz gl L Z M wr) (hb:Bw wr ws):PMem w bg p q bl bz gl L Z M ws:=
 ⟨h.g.after hb,h.l.after hb,h.z.after hb,h.o.after hb,h.below.trans (hb.mono (Nat.le_of_lt h.g.lt))⟩
theorem PMem.set {w wr:World} {bg p q bl bz gl:Nat} {L:List Nat} {Z:List Int} {M:List Nat} (h:PMem w bg p q bl bz gl L Z M wr)
  (h1:bg<gl) (h2:bl≠gl) (h3:bz≠gl) (k v:Nat):PMem w bg p q bl bz gl L Z (M.set k v) (wr.setCell ⟨gl,k,none⟩ (.string (E v))):=
 ⟨h.g.other _ _ (by simp;omega),h.l.set _ h2,h.z.set _ h3,by have:=h.o.set k (.string (E v));rwa [strs_set]at this,h.below.setCell (by simp;omega) _⟩
theorem PMem.other {w wr:World} {bg p q bl bz gl g i:Nat} {L:List Nat} {Z:List Int} {M:List Nat} (h:PMem w bg p q bl bz gl L Z M wr)
  (h1:bg<g) (h2:bl≠g) (h3:bz≠g) (h4:gl≠g) (v:Value):PMem w bg p q bl bz gl L Z M (wr.setCell ⟨g,i,none⟩ v):=
 ⟨h.g.other _ _ (by simp;omega),h.l.set _ h2,h.z.set _ h3,h.o.other _ _ (by simpa using h4),h.below.setCell (by simp;omega) _⟩
theorem minvV_c (x p:Nat) (w:World) (hx:x<256^8) (hp:p<256^8) (h0:0<p) (hg:Nat.gcd x p=1) (hlt:x<p) :
  Calls Tryz.prog 130 #[.string (E x),.string (E p)] w fun r w'=>r=.returned (.tuple #[.string (E (invN x p)),.int .i64 0])∧Bw w w':=by
 have:=minv_c x p w hx hp h0 hg;rwa [Nat.mod_eq_of_lt hlt]at this
theorem pb_take (P:List (Nat × Nat)) (k i:Nat) (h:k<P.length):pb (P.take (k+1)) i=pb (P.take k) i*(if bitB P[k].2 i then P[k].1 else 1):=by
 rw[List.take_succ_eq_append_getElem h];exact pb_snoc _ P[k].1 P[k].2 i
theorem prs_lt (p q:Nat) (L:List Nat) (Z:List Int) (hp:2≤p) (hx:∀x∈L,hasB p q x=true):∀y∈prs p L Z,y.1<p:=by
 intro y hy;obtain⟨j,hj,rfl⟩:=List.mem_iff_getElem.1 hy;have hb:j<L.length∧j<Z.length:=by simp[prs]at hj;omega
 rw[prs_get p L Z j hb.1 hb.2 hj];show bse p L[j] Z[j]<p;unfold bse;split
 ·exact invN_lt _ _ (by omega)
 ·exact has_lt (hx _ (Gm hb.1))
theorem product_g (p q bl bz cl cz n:Nat) (L:List Nat) (Z:List Int) (w:World) (hp:p<256^8) (hq:q<256^128) (hg:grpE p q=0)
  (hn:L.length=n) (hm:Z.length=n) (Hg:n≤1000) (Hv:n≤cl) (hF:n≤cz)
  (hx:∀x∈L,hasB p q x=true) (hT:∀z∈Z,z.natAbs<256^128) (hL:NatsAt w bl L) (hZ:IntsAt w bz Z) :
  Calls Tryz.prog 85 #[.agg #[.string (E p),.string (E q)],.slice (some ⟨bl,0,none⟩) n cl,.slice (some ⟨bz,0,none⟩) n cz] w fun e w'=>e=.returned (.tuple #[.string (E (pw (prs p L Z) 0%p)),.int .i64 0])∧Bw w w':=by
 have Hh:=grp_gt hg;have hU:=Kh Hh;have HP:=Kh hp;have hw:Hid (0<p):=by unfold Hid;omega
 have HX:=Kh hx;have hH:=Kh hT;have hy:=Kh hn;have hV:=Kh hm;have hI:Hid (L.length=Z.length):=by unfold Hid;omega
 have Hw:=hL.1;have Hx:=hZ.1;have Hi:=Kh (checked_g p q bl cl n n cz (some ⟨bz,0,none⟩) L Z (w.alloc (.cells #[Value.string (E p),Value.string (E q)] 24)) hp hq hg hn hm Hg Hg Hv hF hx hT (hL.after (b1 _ _)) (.inr ⟨bz,rfl,hZ.after (b1 _ _)⟩));have hG:=Blk.new w #[Value.string (E p),Value.string (E q)] 24;have Hj:NatsAt (w.alloc (.cells #[Value.string (E p),Value.string (E q)] 24)) bl L:=hL.after (b1 _ _);have Hk:IntsAt (w.alloc (.cells #[Value.string (E p),Value.string (E q)] 24)) bz Z:=hZ.after (b1 _ _);have Hy:=run_mks (P:=Tryz.prog) Tryz.underlying33 info_nat n (by omega) (by omega);clear hp hq hg hn hm hx hT hL hZ Hh;go_enter Tryz.func85,Tryz.ntmps85
 go_wp2_with fail
 refine (Hi.out).mono ?_;rintro e w1 ⟨rfl,hu⟩;go_wp2
 have hd:PMem w w.heap.size p q bl bz w1.heap.size L Z (lay p L Z 0) (w1.alloc (.cells (Array.replicate n (Value.string { data:=#[] })) 22)):=by
  refine⟨(hG.after hu).alloc _,(Hj.after hu).after (b1 _ _),(Hk.after hu).after (b1 _ _),?_,ba (bt (b1 _ _) hu) _⟩;rw[lay_zero,hy.out,←strs_zeros];have h:=Blk.new w1 (Array.replicate n (Value.string { data:=#[] })) 22;rw[Array.toList_replicate]at h;exact h
 have hJ:w.heap.size<w1.heap.size:=(hG.after hu).lt;generalize (w1.alloc (.cells (Array.replicate n (Value.string { data:=#[] })) 22))=w2 at hd;obtain⟨gl,hh⟩:∃gl,w1.heap.size=gl:=⟨_,rfl⟩;obtain⟨bg,hz⟩:∃bg,w.heap.size=bg:=⟨_,rfl⟩;rw[hh,hz]at hd ⊢;rw[hh,hz]at hJ;rw[hz]at Hw Hx;have Hz:=Kh hz;clear hh hz hG Hj Hk hu Hi Hy;go_loopw [10,37] (fun v i wr=>∃k:Nat,k≤n∧i=.int .i64 k∧v=.int .i64 (mxb (Z.take k):Nat)∧PMem w bg p q bl bz gl L Z (lay p L Z k) wr) (fun _ i _=>n-(intOf i).toNat)
 case atStart=>exact⟨0,by omega,rfl,rfl,hd⟩
 case round =>
  obtain⟨k,hk,rfl,rfl,hM⟩:=hrel;obtain⟨wp,hW⟩:∃wp,wp=wr:=⟨_,rfl⟩;subst hW;clear hd;by_cases hlt:k<n
  ·have hA:k<L.length:=by rw[hy.out];exact hlt
   have hv:k<Z.length:=by rw[hV.out];exact hlt
   have hK:=hM.l.2 k hA;obtain⟨hX,hY⟩:=hM.z.2 k hv;have h0:=lay_len p L Z hI.out k (by omega);have hco:=strs_cell hM.o k (by rw[h0];exact hA);have H2:=hM.o.free k;have he:=Kh (hH.out _ (Gm hv));have hN:=Kh (HX.out _ (Gm hA));have hi:=Kh (lay_set p L Z hI.out k hA hv);have hP:=Kh (mxb_take Z k hv);have h4:=mxb_bound Z hH.out k;have hj:¬ bz=gl:=by omega
   have hl:¬ bl=gl:=by omega
   have HA:¬ bg=gl:=by omega
   generalize (lay p L Z k)[k]=vv at hco;generalize L[k]=x at hK hN hi;have HB:=Kh hv;have HC:=Kh hA;obtain⟨z,h5⟩:∃z,Z[k]'hv=z:=⟨_,rfl⟩;rw[h5]at hX hY he hi hP;have HD:=Kh h5;have HE:=Kh h0;clear h5;generalize mxb (Z.take k)=mk at hP h4;clear h0;have hQ:=Kh (Nat.lt_trans (has_lt hN.out) HP.out);have H3:=nb_le z.natAbs 128 (sz _ he.out);rcases Int.lt_or_le z 0 with ho | hB
   ·have HF:=sg_of_neg ho;have HV:Hid (bse p x z=invN x p):=by rw[Hid,bse,if_pos ho]
    have HG:=Kh (has_coprime hU.out hN.out);have HH:=hM.g;obtain⟨hC,hD⟩:=HH.x1;clear ho;go_wp2_with fail
    refine (minvV_c x p _ hQ.out HP.out hw.out HG.out (has_lt hN.out)).mono ?_;rintro e w3 ⟨rfl,hf⟩;clear hC hD;have hR:=(hM.set hJ hl hj k x).after hf;obtain⟨h6,h7⟩:=hR.z.2 k HB.out;rw[HD.out]at h6 h7;have HJ:=strs_cell hR.o k (by rw[List.length_set,HE.out];exact HC.out);have HK:=hR.o.free k;go_wp2_with fail
    refine (bits_c z.natAbs _ he.out).mono ?_;rintro e w' ⟨rfl,rfl⟩;go_wp2;go_roundw
    case rel =>
     refine⟨k+1,by omega,by go_num,?_,?_⟩
     ·rw[hP.out];exact vi (by omega)
     ·have h:=hR.set hJ hl hj k (invN x p);rw[List.set_set,←HV.out,hi.out,HV.out]at h;exact h
    case measure=>simp[intOf];omega
   ·have HF:=sg_of_nonneg hB;have HV:Hid (bse p x z=x):=by rw[Hid,bse,if_neg (by omega)]
    clear hB;go_wp2_with fail
    refine (bits_c z.natAbs _ he.out).mono ?_;rintro e w' ⟨rfl,rfl⟩;go_wp2;go_roundw
    case rel =>
     refine⟨k+1,by omega,by go_num,?_,?_⟩
     ·rw[hP.out];exact vi (by omega)
     ·have h:=hM.set hJ hl hj k x;rw[←HV.out,hi.out,HV.out]at h;exact h
    case measure=>simp[intOf];omega
  ·obtain rfl:k=n:=by omega
   have Hl:Hid (Z.take k=Z):=List.take_of_length_le (by rw[hV.out];exact Nat.le_refl _);have Hm:=Kh (lay_full p L Z hI.out);rw[hy.out]at Hm;rw[Hm.out]at hM;rw[Hl.out];have h4:=mxb_bound Z hH.out k;rw[Hl.out]at h4;have hE:=Kh (prs_top p L Z);clear hk hlt;have HO:=Kh (fun w=>ofK_c 1 1 w rfl (by decide));go_wp2_with fail
   refine (HO.out _).mono ?_;rintro e w3 ⟨rfl,hf⟩;go_wp2;have hS:=(hM.after hf).after (b1 w3 (.cells #[.string (E 1)] 22));have hO:=Blk.new w3 #[.string (E 1)] 22;have HL:gl<w3.heap.size:=(hM.after hf).o.lt;have HM:bl<w3.heap.size:=(hM.after hf).l.1;have HN:bz<w3.heap.size:=(hM.after hf).z.1;have h8:bg<w3.heap.size:=(hM.after hf).g.lt;generalize w3.alloc (.cells #[.string (E 1)] 22)=w4 at hS hO;generalize w3.heap.size=bo at hO HL HM HN h8 ⊢;clear hf hM;have h9:Hid ((prs p L Z).length=k):=by rw[Hid,prs_len p L Z hI.out];exact hy.out
   have Hn:Hid (∀j (h1:j<L.length) (h2:j<Z.length) (h3:j<(prs p L Z).length),(prs p L Z)[j]=(bse p L[j] Z[j],Z[j].natAbs)):=prs_get p L Z;have Ho:Hid (∀y∈prs p L Z,y.1<p):=prs_lt p q L Z hU.out HX.out;generalize Hp:prs p L Z=P at hS hE h9 Hn Ho;have HQ:=Kh Hp;clear Hp;go_loopw [17] (fun i wr=>∃b:Nat,b≤mxb Z∧i=.int .i64 ((b:Int)-1)∧PMem w bg p q bl bz gl L Z (P.map (·.1)) wr∧Blk wr bo 22 [.string (E (pw P b%p))]) (fun i _=>(intOf i+1).toNat)
   case atStart =>
    refine⟨mxb Z,Nat.le_refl _,rfl,hS,?_⟩;rw[hE.out,Nat.mod_eq_of_lt (Nl (by decide) hU.out)];exact hO
   case round =>
    clear hS hO;obtain⟨b,hb,rfl,hM,hO⟩:=hrel;obtain⟨wp,hW⟩:∃wp,wp=wr:=⟨_,rfl⟩;subst hW;by_cases hlt:0<b
    ·obtain⟨i,rfl⟩:∃i,b=i+1:=⟨b-1,by omega⟩;have HI:Hid (((i+1:Nat):Int)-1=(i:Int)):=by unfold Hid;omega
     rw[HI.out];have hi:=Kh (pw_step P i);have Ha:=Kh (Nat.mul_mod (pw P (i+1)) (pw P (i+1)) p);have Hb:=Nat.mod_lt (pw P (i+1)) hw.out;generalize HS:pw P (i+1)%p=y at hO Hb Ha;generalize HU:pw P (i+1)*pw P (i+1)=sq at hi Ha;have Hq:=Kh (Nat.lt_trans Hb HP.out);clear Hb HS HU;have HT:=Kh (times1_c y y p bo bg (sq%p) (E q) wp Hq.out Hq.out HP.out hw.out Ha.out.symm hO hM.g);have Hr:wp.cell? ⟨bo,0,none⟩=some (.string (E y)):=hO.cell 0;go_wp2_with fail
     refine HT.out.mono ?_;rintro e w6 ⟨rfl,w5,Hc,rfl⟩;have Hd:=(hM.after Hc).other (i:=0) h8 (by omega) (by omega) (by omega) (.string (E (sq%p)));have He:=(hO.after Hc).set 0 (.string (E (sq%p)));generalize w5.setCell ⟨bo,0,none⟩ (.string (E (sq%p)))=w6 at Hd He;clear Hc HT hM hO Hr;go_wp2;go_loopw [87] (fun j wr=>∃k':Nat,k'≤k∧j=.int .i64 k'∧PMem w bg p q bl bz gl L Z (P.map (·.1)) wr∧Blk wr bo 22 [.string (E (sq*pb (P.take k') i%p))]) (fun j _=>k-(intOf j).toNat)
     case atStart=>exact⟨0,Nat.zero_le _,rfl,Hd,by rw[List.take_zero];simp only[pb,Nat.mul_one];exact He⟩
     case round =>
      clear Hd He;obtain⟨k',hk,rfl,hM,hO⟩:=hrel;obtain⟨wq,HW⟩:∃wq,wq=wr:=⟨_,rfl⟩;subst HW;by_cases Hf:k'<k
      ·have h1:k'<L.length:=by rw[hy.out];exact Hf
       have h2:k'<Z.length:=by rw[hV.out];exact Hf
       have h3:k'<P.length:=by rw[h9.out];exact Hf
       have hK:=strs_cell hM.o k' (by rw[List.length_map];exact h3);rw[List.getElem_map]at hK;obtain⟨_,hF⟩:=hM.z.2 k' h2;have HY:=Kh (List.take_succ_eq_append_getElem h3);have hQ:=Kh (Nat.lt_trans (Ho.out _ (Gm h3)) HP.out);have he:=Kh (hH.out _ (Gm h2));have Hs:P[k'].2=(Z[k']'h2).natAbs:=by rw[Hn.out k' h1 h2 h3]
       rw[←Hs]at hF he;have hr:=Kh (pb_take P k' i h3);clear Hs HY;generalize P[k'].2=ez at hF he hr;generalize P[k'].1=x at hK hQ hr;have Ht:=Kh (Nat.mod_lt (sq*pb (P.take k') i) hw.out);generalize pb (P.take k') i=pk at hO hr Ht;have HZ:=Kh (Nat.lt_trans Ht.out HP.out);have H4:i≤1024:=by omega
       cases hc:bitB ez i
       ·have ht:=Kh hc;have HR:Hid (sq*pb (P.take (k'+1)) i%p=sq*pk%p):=by rw[Hid,hr.out,hc];simp
        clear hc hr;go_wp2_with fail
        refine (bitV_c ez i i false _ rfl he.out (by omega) ht.out).mono ?_;rintro e w' ⟨rfl,rfl⟩;go_wp2;go_roundw
        case rel=>exact⟨k'+1,by omega,by go_num,hM,by rw[HR.out];exact hO⟩
        case measure=>simp[intOf];omega
       ·have ht:=Kh hc;have HR:Hid (sq*pk%p*x%p=sq*pb (P.take (k'+1)) i%p):=by rw[Hid,hr.out,hc,if_pos rfl,Nat.mod_mul_mod,Nat.mul_assoc]
        have HT:=Kh (times1_c (sq*pk%p) x p bo bg _ (E q) wq HZ.out hQ.out HP.out hw.out HR.out hO hM.g);clear hc hr HR;go_wp2_with fail
        refine (bitV_c ez i i true _ rfl he.out (by omega) ht.out).mono ?_;rintro e w' ⟨rfl,rfl⟩;go_wp2_with fail
        refine HT.out.mono ?_;rintro e w7 ⟨rfl,w6',Hu,rfl⟩;have H0:=(hM.after Hu).other (i:=0) h8 (by omega) (by omega) (by omega) (.string (E (sq*pb (P.take (k'+1)) i%p)));have H1:=(hO.after Hu).set 0 (.string (E (sq*pb (P.take (k'+1)) i%p)));go_wp2;go_roundw
        case rel=>exact⟨k'+1,by omega,by go_num,H0,H1⟩
        case measure=>simp[intOf];omega
      ·obtain rfl:k'=k:=by omega
       rw[List.take_of_length_le (by rw[h9.out];exact Nat.le_refl _),hi.out]at hO;go_wp2;go_roundw
       case rel=>exact⟨i,by omega,rfl,hM,hO⟩
       case measure=>simp[intOf] <;> omega
    ·obtain rfl:b=0:=by omega
     have Hr:wp.cell? ⟨bo,0,none⟩=some (.string (E (pw P 0%p))):=hO.cell 0;go_wp2;go_ret2
     rw[←Hz.out]at hM;exact⟨r2 (vE (by rw[HQ.out])) rfl,hM.below⟩
theorem product_c (p q bl bz cl cz n:Nat) (L:List Nat) (Z:List Int) (w:World) (hp:p<256^8) (hq:q<256^128) (hg:grpE p q=0)
  (hn:L.length=n) (hm:Z.length=n) (hb:n≤1000) (hc:n≤cl) (hd:cl≤1000000) (he:n≤cz) (hf:cz≤1000000)
  (hx:∀x∈L,hasB p q x=true) (hh:∀z∈Z,z.natAbs<256^128) (hL:NatsAt w bl L) (hZ:IntsAt w bz Z) :
  Calls Tryz.prog 85 #[.agg #[.string (E p),.string (E q)],.slice (some ⟨bl,0,none⟩) n cl,.slice (some ⟨bz,0,none⟩) n cz] w fun e w'=>e=.returned (.tuple #[.string (E (pw (prs p L Z) 0%p)),.int .i64 0])∧Bw w w':=
 product_g p q bl bz cl cz n L Z w hp hq hg hn hm hb hc he hx hh hL hZ
end
section
open Go.RowKit
def pedE (p q g h:Nat):Nat:=if grpE p q=0 then (if hasB p q g=true∧hasB p q h=true∧g≠1∧h≠1∧g≠h then 0 else 13) else 13
theorem grpE_cases (p q:Nat):grpE p q=0∨grpE p q=13:=by
 unfold grpE;split
 ·split
  ·exact .inl rfl
  ·exact .inr rfl
 ·split
  ·exact .inl rfl
  ·exact .inr rfl
theorem pformedV_c (a b c d:ByteArray) (r:Bool) (w:World) (ha:a.size≤1000) (hb:b.size≤1000) (hc:c.size≤1000) (hd:d.size≤1000) (hr:vl4 a b c d=r) :
  Calls Tryz.prog 100 #[.agg #[.string a,.string b,.string c,.string d]] w fun e w'=>e=.returned (.bool r)∧Bw w w':=by
 rw[←hr];exact pformed_c a b c d w ha hb hc hd
theorem vl4_E {p q g h:Nat} (hp:p<256^128) (hq:q<256^128) (hg:g<256^128) (hh:h<256^128):vl4 (E p) (E q) (E g) (E h)=true:=by
 unfold vl4;rw[vldB_E p hp,vldB_E q hq,vldB_E g hg,vldB_E h hh];rfl
theorem sz1000 {n:Nat} (h:n<256^128):(E n).size≤1000:=by have:=sz n h;omega
theorem pedcheck_bad (a b c d:ByteArray) (w:World) (ha:a.size≤1000) (hb:b.size≤1000) (hc:c.size≤1000) (hd:d.size≤1000) (hr:vl4 a b c d=false) :
  Calls Tryz.prog 92 #[.agg #[.string a,.string b,.string c,.string d]] w fun e w'=>e=.returned (.int .i64 3)∧Bw w w':=by
 have HF:=Kh (fun w=>pformedV_c a b c d false w ha hb hc hd hr);clear ha hb hc hd hr;go_enter Tryz.func92,Tryz.ntmps92
 go_wp2_with fail
 refine (HF.out _).mono ?_;rintro e w1 ⟨rfl,he⟩;go_wp2;go_ret
 exact⟨rfl,bt (b1 _ _) he⟩
theorem pedcheck_grp (p q g h:Nat) (w:World) (hp:p<256^8) (hq:q<256^128) (hk:g<256^128) (hl:h<256^128) (he:grpE p q=13) :
  Calls Tryz.prog 92 #[.agg #[.string (E p),.string (E q),.string (E g),.string (E h)]] w fun e w'=>e=.returned (.int .i64 13)∧Bw w w':=by
 have HF:=Kh (fun w=>pformedV_c (E p) (E q) (E g) (E h) true w (sz1000 (lt128 hp)) (sz1000 hq) (sz1000 hk) (sz1000 hl) (vl4_E (lt128 hp) hq hk hl));have HO:=Kh (fun w=>ofK_c 1 1 w rfl (by decide));have hB:=Blk.new w #[Value.string (E p),Value.string (E q),Value.string (E g),Value.string (E h)] 26;have HC:=Kh (fun w=>pcheckV_c p q 13 w hp hq he);clear he;clear hp hq hk hl;go_enter Tryz.func92,Tryz.ntmps92
 go_wp2_with fail
 refine (HF.out _).mono ?_;rintro e w1 ⟨rfl,hm⟩;replace hB:=hB.after hm;obtain⟨hb,hc,hd,hf,hg,hh,hi,hj⟩:=hB.x4;go_wp2_with fail
 refine (HC.out _).mono ?_;rintro e w2 ⟨rfl,hn⟩;clear hb hc hd hf hg hh hi hj;replace hB:=hB.after hn;obtain⟨hb,hc,hd,hf,hg,hh,hi,hj⟩:=hB.x4;go_wp2;go_ret
 exact⟨rfl,bt (bt (b1 _ _) hm) hn⟩
theorem pedcheck_g (p q g h:Nat) (w:World) (hp:p<256^8) (hq:q<256^128) (hk:g<256^128) (hl:h<256^128) (he:grpE p q=0) (h1:hasB p q g=false) :
  Calls Tryz.prog 92 #[.agg #[.string (E p),.string (E q),.string (E g),.string (E h)]] w fun e w'=>e=.returned (.int .i64 13)∧Bw w w':=by
 have HF:=Kh (fun w=>pformedV_c (E p) (E q) (E g) (E h) true w (sz1000 (lt128 hp)) (sz1000 hq) (sz1000 hk) (sz1000 hl) (vl4_E (lt128 hp) hq hk hl));have HO:=Kh (fun w=>ofK_c 1 1 w rfl (by decide));have hB:=Blk.new w #[Value.string (E p),Value.string (E q),Value.string (E g),Value.string (E h)] 26;have HC:=Kh (fun w=>pcheckV_c p q 0 w hp hq he);have HG:=Kh (fun w=>pHasV_c p q g false w hp hq he hk h1);clear he h1;clear hp hq hk hl;go_enter Tryz.func92,Tryz.ntmps92
 go_wp2_with fail
 refine (HF.out _).mono ?_;rintro e w1 ⟨rfl,hm⟩;replace hB:=hB.after hm;obtain⟨hb,hc,hd,hf,hg,hh,hi,hj⟩:=hB.x4;go_wp2_with fail
 refine (HC.out _).mono ?_;rintro e w2 ⟨rfl,hn⟩;clear hb hc hd hf hg hh hi hj;replace hB:=hB.after hn;obtain⟨hb,hc,hd,hf,hg,hh,hi,hj⟩:=hB.x4;go_wp2_with fail
 refine (HO.out _).mono ?_;rintro e w3 ⟨rfl,ho⟩;clear hb hc hd hf hg hh hi hj;replace hB:=hB.after ho;obtain⟨hb,hc,hd,hf,hg,hh,hi,hj⟩:=hB.x4;go_wp2_with fail
 refine (HG.out _).mono ?_;rintro e w4 ⟨rfl,hb4⟩;clear hb hc hd hf hg hh hi hj;replace hB:=hB.after hb4;obtain⟨hb,hc,hd,hf,hg,hh,hi,hj⟩:=hB.x4;go_wp2;go_ret
 exact⟨rfl,bt (bt (bt (bt (b1 _ _) hm) hn) ho) hb4⟩
theorem pedcheck_h (p q g h:Nat) (w:World) (hp:p<256^8) (hq:q<256^128) (hk:g<256^128) (hl:h<256^128) (he:grpE p q=0) (h1:hasB p q g=true) (h2:hasB p q h=false) :
  Calls Tryz.prog 92 #[.agg #[.string (E p),.string (E q),.string (E g),.string (E h)]] w fun e w'=>e=.returned (.int .i64 13)∧Bw w w':=by
 have HF:=Kh (fun w=>pformedV_c (E p) (E q) (E g) (E h) true w (sz1000 (lt128 hp)) (sz1000 hq) (sz1000 hk) (sz1000 hl) (vl4_E (lt128 hp) hq hk hl));have HO:=Kh (fun w=>ofK_c 1 1 w rfl (by decide));have hB:=Blk.new w #[Value.string (E p),Value.string (E q),Value.string (E g),Value.string (E h)] 26;have HC:=Kh (fun w=>pcheckV_c p q 0 w hp hq he);have HG:=Kh (fun w=>pHasV_c p q g true w hp hq he hk h1);have HH:=Kh (fun w=>pHasV_c p q h false w hp hq he hl h2);clear he h1 h2;clear hp hq hk hl;go_enter Tryz.func92,Tryz.ntmps92
 go_wp2_with fail
 refine (HF.out _).mono ?_;rintro e w1 ⟨rfl,hm⟩;replace hB:=hB.after hm;obtain⟨hb,hc,hd,hf,hg,hh,hi,hj⟩:=hB.x4;go_wp2_with fail
 refine (HC.out _).mono ?_;rintro e w2 ⟨rfl,hn⟩;clear hb hc hd hf hg hh hi hj;replace hB:=hB.after hn;obtain⟨hb,hc,hd,hf,hg,hh,hi,hj⟩:=hB.x4;go_wp2_with fail
 refine (HO.out _).mono ?_;rintro e w3 ⟨rfl,ho⟩;clear hb hc hd hf hg hh hi hj;replace hB:=hB.after ho;obtain⟨hb,hc,hd,hf,hg,hh,hi,hj⟩:=hB.x4;go_wp2_with fail
 refine (HG.out _).mono ?_;rintro e w4 ⟨rfl,hb4⟩;clear hb hc hd hf hg hh hi hj;replace hB:=hB.after hb4;obtain⟨hb,hc,hd,hf,hg,hh,hi,hj⟩:=hB.x4;go_wp2_with fail
 refine (HH.out _).mono ?_;rintro e w5 ⟨rfl,hr⟩;clear hb hc hd hf hg hh hi hj;replace hB:=hB.after hr;obtain⟨hb,hc,hd,hf,hg,hh,hi,hj⟩:=hB.x4;go_wp2;go_ret
 exact⟨rfl,bt (bt (bt (bt (bt (b1 _ _) hm) hn) ho) hb4) hr⟩
theorem pedcheck_g1 (p q g h:Nat) (w:World) (hp:p<256^8) (hq:q<256^128) (hk:g<256^128) (hl:h<256^128) (he:grpE p q=0) (h1:hasB p q g=true) (h2:hasB p q h=true) (h3:g=1) :
  Calls Tryz.prog 92 #[.agg #[.string (E p),.string (E q),.string (E g),.string (E h)]] w fun e w'=>e=.returned (.int .i64 13)∧Bw w w':=by
 have HF:=Kh (fun w=>pformedV_c (E p) (E q) (E g) (E h) true w (sz1000 (lt128 hp)) (sz1000 hq) (sz1000 hk) (sz1000 hl) (vl4_E (lt128 hp) hq hk hl));have HO:=Kh (fun w=>ofK_c 1 1 w rfl (by decide));have hB:=Blk.new w #[Value.string (E p),Value.string (E q),Value.string (E g),Value.string (E h)] 26;have HC:=Kh (fun w=>pcheckV_c p q 0 w hp hq he);have HG:=Kh (fun w=>pHasV_c p q g true w hp hq he hk h1);have HH:=Kh (fun w=>pHasV_c p q h true w hp hq he hl h2);have e1:=eqE h3;clear he h1 h2 h3;clear hp hq hk hl;go_enter Tryz.func92,Tryz.ntmps92
 go_wp2_with fail
 refine (HF.out _).mono ?_;rintro e w1 ⟨rfl,hm⟩;replace hB:=hB.after hm;obtain⟨hb,hc,hd,hf,hg,hh,hi,hj⟩:=hB.x4;go_wp2_with fail
 refine (HC.out _).mono ?_;rintro e w2 ⟨rfl,hn⟩;clear hb hc hd hf hg hh hi hj;replace hB:=hB.after hn;obtain⟨hb,hc,hd,hf,hg,hh,hi,hj⟩:=hB.x4;go_wp2_with fail
 refine (HO.out _).mono ?_;rintro e w3 ⟨rfl,ho⟩;clear hb hc hd hf hg hh hi hj;replace hB:=hB.after ho;obtain⟨hb,hc,hd,hf,hg,hh,hi,hj⟩:=hB.x4;go_wp2_with fail
 refine (HG.out _).mono ?_;rintro e w4 ⟨rfl,hb4⟩;clear hb hc hd hf hg hh hi hj;replace hB:=hB.after hb4;obtain⟨hb,hc,hd,hf,hg,hh,hi,hj⟩:=hB.x4;go_wp2_with fail
 refine (HH.out _).mono ?_;rintro e w5 ⟨rfl,hr⟩;clear hb hc hd hf hg hh hi hj;replace hB:=hB.after hr;obtain⟨hb,hc,hd,hf,hg,hh,hi,hj⟩:=hB.x4;go_wp2;go_ret
 exact⟨rfl,bt (bt (bt (bt (bt (b1 _ _) hm) hn) ho) hb4) hr⟩
theorem pedcheck_h1 (p q g h:Nat) (w:World) (hp:p<256^8) (hq:q<256^128) (hk:g<256^128) (hl:h<256^128) (he:grpE p q=0) (h1:hasB p q g=true) (h2:hasB p q h=true) (h3:g≠1) (h4:h=1) :
  Calls Tryz.prog 92 #[.agg #[.string (E p),.string (E q),.string (E g),.string (E h)]] w fun e w'=>e=.returned (.int .i64 13)∧Bw w w':=by
 have HF:=Kh (fun w=>pformedV_c (E p) (E q) (E g) (E h) true w (sz1000 (lt128 hp)) (sz1000 hq) (sz1000 hk) (sz1000 hl) (vl4_E (lt128 hp) hq hk hl));have HO:=Kh (fun w=>ofK_c 1 1 w rfl (by decide));have hB:=Blk.new w #[Value.string (E p),Value.string (E q),Value.string (E g),Value.string (E h)] 26;have HC:=Kh (fun w=>pcheckV_c p q 0 w hp hq he);have HG:=Kh (fun w=>pHasV_c p q g true w hp hq he hk h1);have HH:=Kh (fun w=>pHasV_c p q h true w hp hq he hl h2);have e1:=neE h3;have e2:=eqE h4;clear he h1 h2 h3 h4;clear hp hq hk hl;go_enter Tryz.func92,Tryz.ntmps92
 go_wp2_with fail
 refine (HF.out _).mono ?_;rintro e w1 ⟨rfl,hm⟩;replace hB:=hB.after hm;obtain⟨hb,hc,hd,hf,hg,hh,hi,hj⟩:=hB.x4;go_wp2_with fail
 refine (HC.out _).mono ?_;rintro e w2 ⟨rfl,hn⟩;clear hb hc hd hf hg hh hi hj;replace hB:=hB.after hn;obtain⟨hb,hc,hd,hf,hg,hh,hi,hj⟩:=hB.x4;go_wp2_with fail
 refine (HO.out _).mono ?_;rintro e w3 ⟨rfl,ho⟩;clear hb hc hd hf hg hh hi hj;replace hB:=hB.after ho;obtain⟨hb,hc,hd,hf,hg,hh,hi,hj⟩:=hB.x4;go_wp2_with fail
 refine (HG.out _).mono ?_;rintro e w4 ⟨rfl,hb4⟩;clear hb hc hd hf hg hh hi hj;replace hB:=hB.after hb4;obtain⟨hb,hc,hd,hf,hg,hh,hi,hj⟩:=hB.x4;go_wp2_with fail
 refine (HH.out _).mono ?_;rintro e w5 ⟨rfl,hr⟩;clear hb hc hd hf hg hh hi hj;replace hB:=hB.after hr;obtain⟨hb,hc,hd,hf,hg,hh,hi,hj⟩:=hB.x4;go_wp2;go_ret
 exact⟨rfl,bt (bt (bt (bt (bt (b1 _ _) hm) hn) ho) hb4) hr⟩
theorem pedcheck_gh (p q g h:Nat) (w:World) (hp:p<256^8) (hq:q<256^128) (hk:g<256^128) (hl:h<256^128) (he:grpE p q=0) (h1:hasB p q g=true) (h2:hasB p q h=true) (h3:g≠1) (h4:h≠1) (h5:g=h) :
  Calls Tryz.prog 92 #[.agg #[.string (E p),.string (E q),.string (E g),.string (E h)]] w fun e w'=>e=.returned (.int .i64 13)∧Bw w w':=by
 have HF:=Kh (fun w=>pformedV_c (E p) (E q) (E g) (E h) true w (sz1000 (lt128 hp)) (sz1000 hq) (sz1000 hk) (sz1000 hl) (vl4_E (lt128 hp) hq hk hl));have HO:=Kh (fun w=>ofK_c 1 1 w rfl (by decide));have hB:=Blk.new w #[Value.string (E p),Value.string (E q),Value.string (E g),Value.string (E h)] 26;have HC:=Kh (fun w=>pcheckV_c p q 0 w hp hq he);have HG:=Kh (fun w=>pHasV_c p q g true w hp hq he hk h1);have HH:=Kh (fun w=>pHasV_c p q h true w hp hq he hl h2);have e1:=neE h3;have e2:=neE h4;have e3:=eqE h5;clear he h1 h2 h3 h4 h5;clear hp hq hk hl;go_enter Tryz.func92,Tryz.ntmps92
 go_wp2_with fail
 refine (HF.out _).mono ?_;rintro e w1 ⟨rfl,hm⟩;replace hB:=hB.after hm;obtain⟨hb,hc,hd,hf,hg,hh,hi,hj⟩:=hB.x4;go_wp2_with fail
 refine (HC.out _).mono ?_;rintro e w2 ⟨rfl,hn⟩;clear hb hc hd hf hg hh hi hj;replace hB:=hB.after hn;obtain⟨hb,hc,hd,hf,hg,hh,hi,hj⟩:=hB.x4;go_wp2_with fail
 refine (HO.out _).mono ?_;rintro e w3 ⟨rfl,ho⟩;clear hb hc hd hf hg hh hi hj;replace hB:=hB.after ho;obtain⟨hb,hc,hd,hf,hg,hh,hi,hj⟩:=hB.x4;go_wp2_with fail
 refine (HG.out _).mono ?_;rintro e w4 ⟨rfl,hb4⟩;clear hb hc hd hf hg hh hi hj;replace hB:=hB.after hb4;obtain⟨hb,hc,hd,hf,hg,hh,hi,hj⟩:=hB.x4;go_wp2_with fail
 refine (HH.out _).mono ?_;rintro e w5 ⟨rfl,hr⟩;clear hb hc hd hf hg hh hi hj;replace hB:=hB.after hr;obtain⟨hb,hc,hd,hf,hg,hh,hi,hj⟩:=hB.x4;go_wp2;go_ret
 exact⟨rfl,bt (bt (bt (bt (bt (b1 _ _) hm) hn) ho) hb4) hr⟩
theorem pedcheck_ok (p q g h:Nat) (w:World) (hp:p<256^8) (hq:q<256^128) (hk:g<256^128) (hl:h<256^128) (he:grpE p q=0) (h1:hasB p q g=true) (h2:hasB p q h=true) (h3:g≠1) (h4:h≠1) (h5:g≠h) :
  Calls Tryz.prog 92 #[.agg #[.string (E p),.string (E q),.string (E g),.string (E h)]] w fun e w'=>e=.returned (.int .i64 0)∧Bw w w':=by
 have HF:=Kh (fun w=>pformedV_c (E p) (E q) (E g) (E h) true w (sz1000 (lt128 hp)) (sz1000 hq) (sz1000 hk) (sz1000 hl) (vl4_E (lt128 hp) hq hk hl));have HO:=Kh (fun w=>ofK_c 1 1 w rfl (by decide));have hB:=Blk.new w #[Value.string (E p),Value.string (E q),Value.string (E g),Value.string (E h)] 26;have HC:=Kh (fun w=>pcheckV_c p q 0 w hp hq he);have HG:=Kh (fun w=>pHasV_c p q g true w hp hq he hk h1);have HH:=Kh (fun w=>pHasV_c p q h true w hp hq he hl h2);have e1:=neE h3;have e2:=neE h4;have e3:=neE h5;clear he h1 h2 h3 h4 h5;clear hp hq hk hl;go_enter Tryz.func92,Tryz.ntmps92
 go_wp2_with fail
 refine (HF.out _).mono ?_;rintro e w1 ⟨rfl,hm⟩;replace hB:=hB.after hm;obtain⟨hb,hc,hd,hf,hg,hh,hi,hj⟩:=hB.x4;go_wp2_with fail
 refine (HC.out _).mono ?_;rintro e w2 ⟨rfl,hn⟩;clear hb hc hd hf hg hh hi hj;replace hB:=hB.after hn;obtain⟨hb,hc,hd,hf,hg,hh,hi,hj⟩:=hB.x4;go_wp2_with fail
 refine (HO.out _).mono ?_;rintro e w3 ⟨rfl,ho⟩;clear hb hc hd hf hg hh hi hj;replace hB:=hB.after ho;obtain⟨hb,hc,hd,hf,hg,hh,hi,hj⟩:=hB.x4;go_wp2_with fail
 refine (HG.out _).mono ?_;rintro e w4 ⟨rfl,hb4⟩;clear hb hc hd hf hg hh hi hj;replace hB:=hB.after hb4;obtain⟨hb,hc,hd,hf,hg,hh,hi,hj⟩:=hB.x4;go_wp2_with fail
 refine (HH.out _).mono ?_;rintro e w5 ⟨rfl,hr⟩;clear hb hc hd hf hg hh hi hj;replace hB:=hB.after hr;obtain⟨hb,hc,hd,hf,hg,hh,hi,hj⟩:=hB.x4;go_wp2;go_ret
 exact⟨rfl,bt (bt (bt (bt (bt (b1 _ _) hm) hn) ho) hb4) hr⟩
theorem pedcheck_c (p q g h:Nat) (w:World) (hp:p<256^8) (hq:q<256^128) (hb:g<256^128) (hc:h<256^128) :
  Calls Tryz.prog 92 #[.agg #[.string (E p),.string (E q),.string (E g),.string (E h)]] w fun e w'=>e=.returned (.int .i64 (pedE p q g h))∧Bw w w':=by
 rcases grpE_cases p q with he | he
 ·by_cases h1:hasB p q g=true
  ·by_cases h2:hasB p q h=true
   ·by_cases h3:g=1
    ·rw[show pedE p q g h=13 by rw[pedE,if_pos he,if_neg (fun k=>k.2.2.1 h3)]];exact pedcheck_g1 p q g h w hp hq hb hc he h1 h2 h3
    ·by_cases h4:h=1
     ·rw[show pedE p q g h=13 by rw[pedE,if_pos he,if_neg (fun k=>k.2.2.2.1 h4)]];exact pedcheck_h1 p q g h w hp hq hb hc he h1 h2 h3 h4
     ·by_cases h5:g=h
      ·rw[show pedE p q g h=13 by rw[pedE,if_pos he,if_neg (fun k=>k.2.2.2.2 h5)]];exact pedcheck_gh p q g h w hp hq hb hc he h1 h2 h3 h4 h5
      ·rw[show pedE p q g h=0 by rw[pedE,if_pos he,if_pos ⟨h1,h2,h3,h4,h5⟩]];exact pedcheck_ok p q g h w hp hq hb hc he h1 h2 h3 h4 h5
   ·rw[show pedE p q g h=13 by rw[pedE,if_pos he,if_neg (fun k=>h2 k.2.1)]];exact pedcheck_h p q g h w hp hq hb hc he h1 (by simpa using h2)
  ·rw[show pedE p q g h=13 by rw[pedE,if_pos he,if_neg (fun k=>h1 k.1)]];exact pedcheck_g p q g h w hp hq hb hc he (by simpa using h1)
 ·rw[show pedE p q g h=13 by rw[pedE,if_neg (by omega)]];exact pedcheck_grp p q g h w hp hq hb hc he
end
section
open Go.RowKit
theorem pedE_grp {p q g h:Nat} (hh:pedE p q g h=0):grpE p q=0:=by
 unfold pedE at hh;by_cases he:grpE p q=0
 ·exact he
 ·rw[if_neg he]at hh;omega
theorem pedcheckV_c (p q g h k:Nat) (w:World) (hp:p<256^8) (hq:q<256^128) (hb:g<256^128) (hc:h<256^128) (hk:pedE p q g h=k) :
  Calls Tryz.prog 92 #[.agg #[.string (E p),.string (E q),.string (E g),.string (E h)]] w fun e w'=>e=.returned (.int .i64 k)∧Bw w w':=by
 rw[←hk];exact pedcheck_c p q g h w hp hq hb hc
end
end Go.Proofs.YtdgddpnjkinciaaGreatDoor
