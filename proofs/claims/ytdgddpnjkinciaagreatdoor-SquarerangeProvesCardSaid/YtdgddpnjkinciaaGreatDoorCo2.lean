import Derived.Test.YtdgddpnjkinciaaGreatDoorTap
import Derived.Laws.CopyOwn
set_option linter.all false
set_option maxRecDepth 100000
set_option maxHeartbeats 16000000
namespace Go.Proofs.YtdgddpnjkinciaaGreatDoor
section
open Go.RowKit Go.Shelf
theorem ra_succ (n:Nat) (p:Nat→Bool):ra (n+1) p=(ra n p&&p n):=by
 unfold ra;rw[List.range_succ,List.all_append];simp
theorem fromN (c:Nat) (w:World) (hc:c<256^128):Calls Tryz.prog 42 #[.string (E c)] w fun e w'=>e=.returned (.agg #[.bool false,.string (E c)])∧Bw w w':=by
 have h:=ifrom_c c w hc;rwa [Int.natAbs_natCast,sg_nat]at h
theorem ready6_c (N:NSta) (Z:List Int) (v1 v2 v3 v4:Value) (w:World) (hm:NOk N) (hS:NAt w v1 v2 v3 N) (hZ:ZsAt w v4 Z) (hz:∀z∈Z,z.natAbs<256^128) (hl:Z.length≠N.vars.length) (ht:Z.length≤1000) (hc:N.chk=0) :
  Calls Tryz.prog 77 #[.agg #[v1,v2,v3],v4] w fun e w'=>e=.returned (.int .i64 6)∧Bw w w':=by
 obtain⟨a4,c4,rfl⟩:=hZ.form;obtain⟨nz,hr⟩:∃n,n=Z.length:=⟨_,rfl⟩;have hw:=Kh hr;rw[←hr]at ht hl hZ ⊢;have hx:=Kh hz;have hy:=Kh hc;clear hz hc hr;obtain⟨a1,c1,a2,c2,a3,c3,rfl,rfl,rfl⟩:=hS.forms;obtain⟨n1,ho⟩:∃n,n=N.grps.length:=⟨_,rfl⟩;obtain⟨n2,hj⟩:∃n,n=N.vars.length:=⟨_,rfl⟩;obtain⟨n3,hp⟩:∃n,n=N.eqs.length:=⟨_,rfl⟩;have hD:=Kh ho;have hE:=Kh hj;have hF:=Kh hp;have l1:n1≤10:=by rw[ho];exact hm.ng
 have l2:n2≤12:=by rw[hj];exact hm.nv
 have l3:n3≤12:=by rw[hp];exact hm.ne
 have HM:=Kh hm;rw[←hj]at hl;have hG:¬ (nz:Int)=(n2:Int):=by omega
 rw[←ho,←hj,←hp]at hS ⊢;clear hm ho hj hp hl;obtain⟨hP,hi⟩:=blk1 w #[.slice a1 n1 c1,.slice a2 n2 c2,.slice a3 n3 c3] 43;replace hS:=hS.after hi;replace hZ:=hZ.after (b1 w (.cells #[.slice a1 n1 c1,.slice a2 n2 c2,.slice a3 n3 c3] 43));obtain⟨hb,hd,he,hf,hg,hh⟩:=hP.x3;go_enter Tryz.func77,Tryz.ntmps77
 go_wp2_with fail
 refine (form0_c N _ _ _ _ HM.out hS).mono ?_;rintro e w2 ⟨rfl,hn⟩;clear hb hd he hf hg hh;replace hP:=hP.after hn;replace hS:=hS.after hn;replace hZ:=hZ.after hn;replace hi:=bt hi hn;clear hn;have hu:=hP.lt
 have hv:Hid (Calls Tryz.prog 122 #[.slice a4 nz c4,.func (.func 123) #[] #[]] w2 fun e w''=>e=.returned (.bool false)∧Bw w2 w''):=by
  refine cont_rdi (Z.map zI) (fun _=>false) _ _ w2 (by rw[List.length_map,←hw.out];exact ht) hZ (any_false _) ?_;intro k hk w5 hH;have hA:k<Z.length:=by simpa using hk
  simp only[List.getElem_map,zI];exact rdi1_c _ _ (hx.out _ (Gm hA))
 obtain⟨hb,hd,he,hf,hg,hh⟩:=hP.x3;go_wp2_with fail
 refine hv.out.mono ?_;rintro e w3 ⟨rfl,hq⟩;clear hb hd he hf hg hh;clear hv;replace hP:=hP.after hq;replace hS:=hS.after hq;replace hi:=bt hi hq;clear hq hu;have hu:=hP.lt
 have hB:Hid (Calls Tryz.prog 69 #[.agg #[.slice a1 n1 c1,.slice a2 n2 c2,.slice a3 n3 c3]] w3 fun e w'=>e=.returned (.int .i64 0)∧Bw w3 w'):=by
  have h:=check_c N _ _ _ w3 HM.out hS;rw[hy.out]at h;exact h
 obtain⟨hb,hd,he,hf,hg,hh⟩:=hP.x3;go_wp2_with fail
 refine hB.out.mono ?_;rintro e w4 ⟨rfl,hb4⟩;clear hb hd he hf hg hh;replace hP:=hP.after hb4;have hC:=hP.lt;obtain⟨hb,hd,he,hf,hg,hh⟩:=hP.x3;go_wp2;go_ret
 exact⟨rfl,bt hi hb4⟩
def inJ (N:NSta) (Z:List Int) (j:Nat):Bool:=blw (N.vars.getD j 0) (Z.getD j 0) (if N.vars.getD j 0=0 then N.ord else N.vars.getD j 0)
theorem inJ_at (N:NSta) (Z:List Int) (j:Nat) (h:j<N.vars.length) (h2:j<Z.length):inJ N Z j=blw N.vars[j] Z[j] (if N.vars[j]=0 then N.ord else N.vars[j]):=by
 unfold inJ;simp only[List.getD_eq_getElem?_getD,List.getElem?_eq_getElem h,List.getElem?_eq_getElem h2,Option.getD_some]
theorem inRange_c (N:NSta) (Z:List Int) (v1 v2 v3 v4:Value) (w:World) (hm:NOk N) (hS:NAt w v1 v2 v3 N) (hZ:ZsAt w v4 Z) (hz:∀z∈Z,z.natAbs<256^64) (hl:Z.length=N.vars.length) :
  Calls Tryz.prog 78 #[.agg #[v1,v2,v3],v4] w fun e w'=>e=.returned (.bool (ra N.vars.length (inJ N Z)))∧Bw w w':=by
 obtain⟨r,hr⟩:∃r:Bool,r=ra N.vars.length (inJ N Z):=⟨_,rfl⟩;have ho:=Kh hr;rw[←hr];clear hr;have hM:Hid (∀w',Bw w w'→Calls Tryz.prog 124 #[.agg #[v1,v2,v3]] w' fun e w''=>e=.returned (.string (E N.ord))∧Bw w' w''):=fun w' hb=>order_c N v1 v2 v3 w' hm (hS.after hb)
 have HQ:=Kh (ord_lt hm);have h8:=Kh hm.v;have h9:=Kh hz;obtain⟨qo,hN⟩:∃q,q=N.ord:=⟨_,rfl⟩;have Ha:=Kh hN;rw[←hN]at hM HQ;obtain⟨a4,c4,rfl⟩:=hZ.form;rw[hl]at hZ ⊢;have HL:=Kh hl;obtain⟨a1,c1,a2,c2,a3,c3,rfl,rfl,rfl⟩:=hS.forms;obtain⟨n1,h2⟩:∃n,n=N.grps.length:=⟨_,rfl⟩;obtain⟨n2,hF⟩:∃n,n=N.vars.length:=⟨_,rfl⟩;obtain⟨n3,h3⟩:∃n,n=N.eqs.length:=⟨_,rfl⟩;have h4:=Kh hF;have l2:n2≤12:=by rw[hF];exact hm.nv
 rw[←h2,←hF,←h3]at hS hM ⊢;rw[←hF]at hZ;clear hm h2 hF h3 hz hl hN;obtain⟨hP,hw⟩:=blk1 w #[.slice a1 n1 c1,.slice a2 n2 c2,.slice a3 n3 c3] 43;replace hS:=hS.after hw;replace hZ:=hZ.after hw;obtain⟨hO,hQ,hR,hT,hU,hW⟩:=hP.x3;go_enter Tryz.func78,Tryz.ntmps78
 go_wp2;clear hO hQ hR hT hU hW;generalize Hb:w.alloc (.cells #[.slice a1 n1 c1,.slice a2 n2 c2,.slice a3 n3 c3] 43)=w1 at hP hw hS hZ;replace hP:Blk w1 w.heap.size 43 [.slice a1 n1 c1,.slice a2 n2 c2,.slice a3 n3 c3]:=hP;clear Hb;go_loopw [11] (fun i wr=>∃k:Nat,k≤n2∧i=.int .i64 k∧Hid (ra k (inJ N Z)=true)∧Bw w1 wr) (fun i _=>n2-(intOf i).toNat)
 case atStart=>exact⟨0,by omega,rfl,rfl,Br⟩
 case round =>
  obtain⟨k,hk,rfl,h5,hC⟩:=hrel;obtain⟨wp,Hc⟩:∃wp,wp=wr:=⟨_,rfl⟩;subst Hc;have hG:=bt hw hC;have h6:=hP.after hC;by_cases hlt:k<n2
  ·have hD:k<N.vars.length:=by rw[←h4.out];exact hlt
   have hI:k<Z.length:=by rw[HL.out];exact hD
   obtain⟨bv,ov,rfl,Hd,x1⟩:=(hS.after hC).vat hD;obtain⟨bz,oz,rfl,hJ,z1,z2⟩:=(hZ.after hC).at_ hI;have hX:=Kh (h9.out _ (Gm hI));have h7:=Kh (h8.out _ (Gm hD));have ht:=Kh (inJ_at N Z k hD hI);rw[←Ha.out]at ht;have hY:Hid (ra (k+1) (inJ N Z)=inJ N Z k):=by rw[Hid,ra_succ,h5.out];rfl
   have hK:Hid (inJ N Z k=false→ra N.vars.length (inJ N Z)=false):=fun h=>ra_false hD h
   generalize (N.vars[k]'hD)=vb at x1 ht h7;generalize (Z[k]'hI)=lz at z1 z2 ht hX;generalize inJ N Z k=bl at ht hY hK;have Hh:(0:Int)≤(k:Int):=by omega
   have Hi:(k:Int)<(n2:Int):=by omega
   obtain⟨hV,hu⟩:=blk1 wp #[.string (E vb)] 81;have zz1:=(hu.cell (p:=⟨bz,oz+k*2,none⟩) hJ).trans z1;have zz2:=(hu.cell (p:=⟨bz,oz+k*2+1,none⟩) hJ).trans z2;have hL:=h6.after hu;have hp:=Nl hJ hu.size;by_cases hv:vb=0
   ·have He:=zE hv;have he:Hid (bl=blw 0 lz qo):=by rw[Hid,ht.out,if_pos hv,hv]
    clear hv ht;obtain⟨hx,hy⟩:=hV.x1;obtain⟨hf,hg,hh,hi,hj,hn⟩:=hL.x3;go_wp2_with fail
    refine (hM.out _ (bt hG hu)).mono ?_;rintro e w2 ⟨rfl,hH⟩;clear hx hy;clear hf hg hh hi hj hn;have hE:=bt (bt hC hu) hH;have q1:=(hH.cell (p:=⟨bz,oz+k*2,none⟩) hp).trans zz1;have q2:=(hH.cell (p:=⟨bz,oz+k*2+1,none⟩) hp).trans zz2;have Hf:=Nl hp hH.size;clear x1 z1 z2 zz1 zz2 hV hL hu hH h6 Hd hJ hp;obtain⟨s,hs⟩:∃s,s=sg lz:=⟨_,rfl⟩;have HS:=Kh hs;rw[←hs]at q1;clear hs;cases s
    ·have hA:Hid (∀w,Calls Tryz.prog 33 #[.string (E lz.natAbs),.string (E qo)] w fun e w'=>e=.returned (.int .i64 (cmpN lz.natAbs qo))∧w=w'):=fun w=>cmp_c _ _ w (lt64 hX.out) (lt128 HQ.out)
     obtain⟨c1',hc⟩:∃q:Int,q=cmpN lz.natAbs qo:=⟨_,rfl⟩;rw[←hc]at hA;by_cases hq:lz.natAbs<qo
     ·have hd:decide (0≤c1')=false:=decide_eq_false (by rw[hc];have:=cmp_neg _ _ hq;omega);have h0:Hid (bl=true):=by rw[Hid,he.out,blw_zero hq,←HS.out];rfl
      clear hq hc he HS;go_wp2_with fail
      refine (hA.out _).mono ?_;rintro e w' ⟨rfl,rfl⟩;go_wp2;go_roundw
      case rel=>exact⟨k+1,by omega,by go_num,by rw[Hid,hY.out,h0.out],hE⟩
      case measure=>simp[intOf];omega
     ·have hd:decide (0≤c1')=true:=Dt (by rw[hc];have:=cmp_nneg lz.natAbs qo (by omega);omega);have hB:Hid (r=false):=by rw[Hid,ho.out];exact hK.out (by rw[he.out];exact blw_ge (by omega))
      clear hq hc he HS;go_wp2_with fail
      refine (hA.out _).mono ?_;rintro e w' ⟨rfl,rfl⟩;go_wp2;go_ret
      rw[hB.out];exact⟨rfl,bt hw hE⟩
    ·have hB:Hid (r=false):=by
      rw[Hid,ho.out];refine hK.out ?_;rw[he.out];unfold blw;rw[←HS.out,show vz 0=true from rfl];simp
     clear he HS;go_wp2;go_ret
     rw[hB.out];exact⟨rfl,bt hw hE⟩
   ·have He:=nzE (Nat.pos_of_ne_zero hv);have he:Hid (bl=blw vb lz vb):=by rw[Hid,ht.out,if_neg hv]
    have Hg:Hid (0<vb):=Nat.pos_of_ne_zero hv;clear hv ht;have hA:Hid (∀w,Calls Tryz.prog 33 #[.string (E lz.natAbs),.string (E vb)] w fun e w'=>e=.returned (.int .i64 (cmpN lz.natAbs vb))∧w=w'):=fun w=>cmp_c _ _ w (lt64 hX.out) (Nl h7.out P8)
    obtain⟨c1',hc⟩:∃q:Int,q=cmpN lz.natAbs vb:=⟨_,rfl⟩;rw[←hc]at hA;have hE:=bt hC hu;by_cases hq:lz.natAbs<vb
    ·have hd:decide (0≤c1')=false:=decide_eq_false (by rw[hc];have:=cmp_neg _ _ hq;omega);have h0:Hid (bl=true):=by rw[Hid,he.out];exact blw_pos hq Hg.out
     clear hq hc he;obtain⟨hx,hy⟩:=hV.x1;obtain⟨hf,hg,hh,hi,hj,hn⟩:=hL.x3;go_wp2_with fail
     refine (hA.out _).mono ?_;rintro e w' ⟨rfl,rfl⟩;go_wp2;go_roundw
     case rel=>exact⟨k+1,by omega,by go_num,by rw[Hid,hY.out,h0.out],hE⟩
     case measure=>simp[intOf];omega
    ·have hd:decide (0≤c1')=true:=Dt (by rw[hc];have:=cmp_nneg lz.natAbs vb (by omega);omega);have hB:Hid (r=false):=by rw[Hid,ho.out];exact hK.out (by rw[he.out];exact blw_ge (by omega))
     clear hq hc he;obtain⟨hx,hy⟩:=hV.x1;obtain⟨hf,hg,hh,hi,hj,hn⟩:=hL.x3;go_wp2_with fail
     refine (hA.out _).mono ?_;rintro e w' ⟨rfl,rfl⟩;go_wp2;go_ret
     rw[hB.out];exact⟨rfl,bt hw hE⟩
  ·obtain rfl:n2=k:=by omega
   have hB:Hid (r=true):=by rw[Hid,ho.out,←h4.out];exact h5.out
   go_wp2;go_ret
   rw[hB.out];exact⟨rfl,hG⟩
def NSta.hldE (N:NSta) (Z:List Int):Nat:=if Z.length≠N.vars.length then 6 else 0
def NSta.hldB (N:NSta) (Z:List Int):Bool:=decide (Z.length=N.vars.length)&&(ra N.vars.length (inJ N Z)&&decide (N.imgs Z=N.eqs.map (·.tgt)))
theorem holds_c (N:NSta) (Z:List Int) (v1 v2 v3 v4:Value) (w:World) (hm:NOk N) (hS:NAt w v1 v2 v3 N) (hZ:ZsAt w v4 Z) (hz:∀z∈Z,z.natAbs<256^64) (hR:Z.length≤1000) (hc:N.chk=0) :
  Calls Tryz.prog 35 #[.agg #[v1,v2,v3],v4] w fun e w'=>e=.returned (.tuple #[.bool (N.hldB Z),.int .i64 (N.hldE Z:Nat)])∧Bw w w':=by
 obtain⟨hP,hn⟩:=blk1 w #[v1,v2,v3] 43;by_cases hl:Z.length=N.vars.length
 ·have hv:N.hldE Z=0:=if_neg (fun h=>h hl);rw[hv];clear hv;obtain⟨r,hr⟩:∃r:Bool,r=N.hldB Z:=⟨_,rfl⟩;have ht:=Kh hr;rw[←hr];clear hr;have hw:Hid (∀w',Bw w w'→Calls Tryz.prog 77 #[.agg #[v1,v2,v3],v4] w' fun e w''=>e=.returned (.int .i64 0)∧Bw w' w''):=fun w' hb=>ready_c N Z v1 v2 v3 v4 w' hm (hS.after hb) (hZ.after hb) (fun z h=>lt64 (hz z h)) hl hc
  have hT:Hid (∀w',Bw w w'→Calls Tryz.prog 78 #[.agg #[v1,v2,v3],v4] w' fun e w''=>e=.returned (.bool (ra N.vars.length (inJ N Z)))∧Bw w' w''):=fun w' hb=>inRange_c N Z v1 v2 v3 v4 w' hm (hS.after hb) (hZ.after hb) hz hl
  have hM:Hid (∀w',Bw w w'→Calls Tryz.prog 79 #[.agg #[v1,v2,v3],v4] w' (LPost w' (N.imgs Z))):=fun w' h4=>images_c N Z v1 v2 v3 v4 w' hm (hS.after h4) (hZ.after h4) hz hl hc
  have hx:Hid (N.hldB Z=(ra N.vars.length (inJ N Z)&&decide (N.imgs Z=N.eqs.map (·.tgt)))):=by rw[Hid,NSta.hldB,Dt hl,Bool.true_and]
  have h5:=Kh hS;obtain⟨a4,c4,rfl⟩:=hZ.form;obtain⟨a1,c1,a2,c2,a3,c3,rfl,rfl,rfl⟩:=hS.forms;obtain⟨n1,h6⟩:∃n,n=N.grps.length:=⟨_,rfl⟩;obtain⟨n2,hU⟩:∃n,n=N.vars.length:=⟨_,rfl⟩;obtain⟨n3,hN⟩:∃n,n=N.eqs.length:=⟨_,rfl⟩;have hO:=Kh hN;have l3:n3≤12:=by rw[hN];exact hm.ne
  generalize Z.length=nz at hw hT hM;rw[←h6,←hU,←hN]at hw hT hM h5 hP hn ⊢;rw[←hU]at hx;clear hm h6 hU hN hz hl hR hS hZ hc;obtain⟨hd,he,hf,hg,hh,hi⟩:=hP.x3;go_enter Tryz.func35,Tryz.ntmps35
  go_wp2_with fail
  refine (hw.out _ hn).mono ?_;rintro e w2 ⟨rfl,hy⟩;clear hd he hf hg hh hi;replace hP:=hP.after hy;replace hn:=bt hn hy;clear hy;have hQ:=hP.lt;obtain⟨hd,he,hf,hg,hh,hi⟩:=hP.x3;go_wp2_with fail
  refine (hT.out _ hn).mono ?_;rintro e w3 ⟨rfl,hV⟩;clear hd he hf hg hh hi;replace hP:=hP.after hV;replace hn:=bt hn hV;clear hV hQ;generalize ra n2 (inJ N Z)=ri at hx;cases ri
  ·have HF:Hid (r=false):=by rw[Hid,ht.out,hx.out];rfl
   go_wp2;go_ret2
   rw[HF.out];exact⟨rfl,hn⟩
  ·have hQ:=hP.lt;obtain⟨hd,he,hf,hg,hh,hi⟩:=hP.x3;go_wp2_with fail
   refine (hM.out _ hn).mono ?_;rintro e w8 ⟨iv,rfl,h7,hW⟩;clear hd he hf hg hh hi;replace hP:=hP.after hW;replace hn:=bt hn hW;clear hW hQ hM;have hA:=h7.ss;clear h7;obtain⟨a7,c7,rfl⟩:=RAt.form hA;have h8:Hid (((N.imgs Z).map E).length=n3):=by rw[Hid,List.length_map,NSta.imgs,List.length_map,hO.out]
   rw[h8.out]at hA ⊢;have hQ:=hP.lt;have Hc:=hn.size;obtain⟨hd,he,hf,hg,hh,hi⟩:=hP.x3;go_wp2;clear hd he hf hg hh hi;go_loopw [33] (fun i wr=>∃k:Nat,k≤n3∧i=.int .i64 k∧Hid (∀j,j<k→(N.imgs Z)[j]?=(N.eqs.map (·.tgt))[j]?)∧Bw w8 wr) (fun i _=>n3-(intOf i).toNat)
   case atStart=>exact⟨0,by omega,rfl,fun j h=>absurd h (Nat.not_lt_zero _),Br⟩
   case round =>
    obtain⟨k,hk,rfl,HA,hX⟩:=hrel;obtain⟨wu,Hd⟩:∃wp,wp=wr:=⟨_,rfl⟩;subst Hd;have hu:=bt hn hX;replace hA:=SsAt.after hA hX;by_cases hlt:k<n3
    ·have hp:k<N.eqs.length:=by rw[←hO.out];exact hlt
     have He:k<((N.imgs Z).map E).length:=by rw[h8.out];exact hlt
     have h9:=h5.out.after hu;have hY:Hid ((N.imgs Z)[k]?=some (imgV N Z (N.eqs[k]'hp))):=by rw[Hid,NSta.imgs,List.getElem?_map,List.getElem?_eq_getElem hp];rfl
     have h0:Hid ((N.eqs.map (·.tgt))[k]?=some (N.eqs[k]'hp).tgt):=by rw[Hid,List.getElem?_map,List.getElem?_eq_getElem hp];rfl
     obtain⟨b,o,tv,rfl,Hf,x1,x2,x3,Ha⟩:=NAt.eat h9 hp;obtain⟨b7,o7,rfl,hB,i1'⟩:=SsAt.at_ hA He;rw[show ((N.imgs Z).map E)[k]=E (imgV N Z (N.eqs[k]'hp)) by simp[NSta.imgs]]at i1';obtain⟨to_,tc,rfl⟩:=Ha.form;generalize (N.eqs[k]'hp).trms.length=n4 at x3;generalize (N.eqs[k]'hp).grp=qg at x1;generalize imgV N Z (N.eqs[k]'hp)=iq at i1' hY;generalize (N.eqs[k]'hp).tgt=qt at x2 h0;have Hg:(0:Int)≤(k:Int):=by omega
     have Hh:(k:Int)<(n3:Int):=by omega
     obtain⟨ho,hC⟩:=blk1 wu #[.int .i64 (qg:Int),.string (E qt),.slice to_ n4 tc] 87;have i2:=(hC.cell (p:=⟨b7,o7+k,none⟩) hB).trans i1';have g1:=gcl (a:=⟨b7,o7+k,none⟩) (Nl hB hC.size) i2;clear Ha h9;go_upto_region 12 with fail
     generalize wu.alloc (.cells #[.int .i64 (qg:Int),.string (E qt),.slice to_ n4 tc] 87)=wv at ho hC i2 g1 ⊢;replace ho:Blk wv wu.heap.size 87 [.int .i64 (qg:Int),.string (E qt),.slice to_ n4 tc]:=ho;by_cases hq:iq=qt
     ·have h1:=eqT hq;have h2:=eqE hq
      have HX:Hid (∀j,j<k+1→(N.imgs Z)[j]?=(N.eqs.map (·.tgt))[j]?):=fun j hj=>by
       by_cases e:j=k
       ·rw[e,hY.out,h0.out,hq]
       ·exact HA.out j (by omega)
      clear hq;obtain⟨hD,hE,hF,hG,hH,hI⟩:=ho.x3;have hJ:=ho.gcell 0;have hK:=ho.gcell 1;have hL:=ho.gcell 2;go_wp2_with fail
      refine wp_region_gw (by kernel_rfl) (by kernel_rfl) ?_;repeat (go_big_quiet_step (first | (fail)))
      refine wpQuiet_nil ?_;rintro w9 ⟨xw9,rfl⟩;have hb9:=gw_below xw9;generalize gw xw9=w9 at hb9;go_wp2;go_roundw
      case rel=>exact⟨k+1,by omega,by go_num,HX,bt (bt hX hC) hb9⟩
      case measure=>simp[intOf];omega
     ·have h1:=eqF hq;have h2:=neE hq;have HF:Hid (r=false):=by rw[Hid,ht.out,hx.out,Bool.true_and];exact decide_eq_false (fun e=>hq (by have h3:=hY.out;rw[e,h0.out]at h3;exact (Option.some.inj h3).symm))
      clear hq;obtain⟨hD,hE,hF,hG,hH,hI⟩:=ho.x3;have hJ:=ho.gcell 0;have hK:=ho.gcell 1;have hL:=ho.gcell 2;go_wp2_with fail
      refine wp_region_gw (by kernel_rfl) (by kernel_rfl) ?_;repeat (go_big_quiet_step (first | (fail)))
      refine wpQuiet_nil ?_;rintro w9 ⟨xw9,rfl⟩;have hb9:=gw_below xw9;generalize gw xw9=w9 at hb9;go_wp2;go_ret2
      rw[HF.out];exact⟨rfl,bt (bt hu hC) hb9⟩
    ·have HF:Hid (r=true):=by
      rw[Hid,ht.out,hx.out,Bool.true_and]
      refine Dt (List.ext_getElem? fun j=>by
       by_cases hj:j<k
       ·exact HA.out j hj
       ·rw[List.getElem?_eq_none (by rw[NSta.imgs,List.length_map,←hO.out];omega),List.getElem?_eq_none (by rw[List.length_map,←hO.out];omega)])
     go_wp2;go_ret2
     rw[HF.out];exact⟨rfl,hu⟩
 ·have hv:N.hldE Z=6:=if_pos hl;have Hb:N.hldB Z=false:=by unfold NSta.hldB;rw[decide_eq_false hl];rfl
  rw[hv,Hb];clear hv Hb;have hw:Hid (∀w',Bw w w'→Calls Tryz.prog 77 #[.agg #[v1,v2,v3],v4] w' fun e w''=>e=.returned (.int .i64 6)∧Bw w' w''):=fun w' hb=>ready6_c N Z v1 v2 v3 v4 w' hm (hS.after hb) (hZ.after hb) (fun z h=>lt64 (hz z h)) hl hR hc
  clear hm hS hZ hz hl hR hc;obtain⟨hd,he,hf,hg,hh,hi⟩:=hP.x3;go_enter Tryz.func35,Tryz.ntmps35
  go_wp2_with fail
  refine (hw.out _ hn).mono ?_;rintro e w2 ⟨rfl,hy⟩;go_wp2;go_ret2
  exact⟨rfl,bt hn hy⟩
def EPost (w:World) (k:Nat) (L:List Int) (e:Ending) (w':World):Prop:=∃v,e=.returned (.tuple #[v,.int .i64 k])∧ZOwn w' w.heap.size v L∧Bw w w'
theorem epost_err {w w':World} {k:Nat} {L:List Int} (hL:L=[]) (h:Bw w w'):EPost w k L (.returned (.tuple #[.slice none 0 0,.int .i64 k])) w':=⟨_,rfl,by rw[hL];exact World.ownsRow_nil _ _ _ _,h⟩
def ZBx (w:World) (a b:Value) (s:Value) (wx:World):Prop:=∃g,s=.pointer (some ⟨g,0,none⟩)∧Blk wx g 28 [a,b]∧w.heap.size≤g∧Bw w wx
end
section
open Go.RowKit Go.Shelf
def rspI (q b c:Nat) (m z:Int):Int:=if b=0 then (m+(c:Int)*z)%(q:Int) else m+(c:Int)*z
def rspJ (N:NSta) (c:Nat) (W M:List Int) (j:Nat):Int:=rspI N.ord (N.vars.getD j 0) c (M.getD j 0) (W.getD j 0)
def NSta.rspL (N:NSta) (c:Nat) (W M:List Int):List Int:=(List.range N.vars.length).map (rspJ N c W M)
theorem rsp_step (N:NSta) (c:Nat) (W M:List Int) (k:Nat) (h:k<N.vars.length) (h2:k<M.length) (h3:k<W.length):(N.rspL c W M).take (k+1)=(N.rspL c W M).take k++[rspI N.ord N.vars[k] c M[k] W[k]]:=by
 unfold NSta.rspL;rw[←List.map_take,List.take_succ_eq_append_getElem (by simpa using h),List.map_append,List.map_take];simp only[List.getElem_range,List.map_cons,List.map_nil,rspJ,List.getD_eq_getElem?_getD,List.getElem?_eq_getElem h,List.getElem?_eq_getElem h2,List.getElem?_eq_getElem h3,Option.getD_some]
def rsJ (N:NSta) (C K c:Nat) (W M:List Int) (j:Nat):Bool:=blw (N.vars.getD j 0) (rspJ N c W M j) (lim N.ord C K (N.vars.getD j 0)).2
theorem rsJ_at (N:NSta) (C K c:Nat) (W M:List Int) (j:Nat) (h:j<N.vars.length) (h2:j<M.length) (h3:j<W.length):rsJ N C K c W M j=blw N.vars[j] (rspI N.ord N.vars[j] c M[j] W[j]) (lim N.ord C K N.vars[j]).2:=by
 unfold rsJ rspJ;simp only[List.getD_eq_getElem?_getD,List.getElem?_eq_getElem h,List.getElem?_eq_getElem h2,List.getElem?_eq_getElem h3,Option.getD_some]
def NSta.rsp2 (N:NSta) (C K c:Nat) (W M:List Int):Nat:=if ra N.vars.length (rsJ N C K c W M)=false then 15 else 0
def NSta.rspR2 (N:NSta) (C K c:Nat) (W M:List Int):List Int:=if N.rsp2 C K c W M=0 then N.rspL c W M else []
theorem rsp2_0 {N:NSta} {C K c:Nat} {W M:List Int} (h:ra N.vars.length (rsJ N C K c W M)=true):N.rsp2 C K c W M=0∧N.rspR2 C K c W M=N.rspL c W M:=by
 have e:N.rsp2 C K c W M=0:=by unfold NSta.rsp2;rw[if_neg (by rw[h];decide)]
 exact⟨e,by unfold NSta.rspR2;rw[if_pos e]⟩
theorem rsp2_15 {N:NSta} {C K c:Nat} {W M:List Int} (h:ra N.vars.length (rsJ N C K c W M)=false):N.rsp2 C K c W M=15∧N.rspR2 C K c W M=[]:=by
 have e:N.rsp2 C K c W M=15:=by unfold NSta.rsp2;rw[if_pos h]
 exact⟨e,by unfold NSta.rspR2;rw[if_neg (by omega)]⟩
theorem mul_lt_pw {a b m n k:Nat} (h1:a<256^m) (h2:b<256^n) (hk:m+n=k):a*b<256^k:=by
 have h:=Nat.mul_lt_mul'' h1 h2;rwa [←Nat.pow_add,hk]at h
theorem nab_mul (c:Nat) (z:Int):((c:Int)*z).natAbs=c*z.natAbs:=by rw[Int.natAbs_mul,Int.natAbs_natCast]
theorem nab_add {a b:Int} {n:Nat} (h1:a.natAbs<256^n) (h2:b.natAbs<256^n) (hn:n<128):(a+b).natAbs<256^128:=by
 have h3:256^n*256≤256^128:=by rw[←Nat.pow_succ];exact Nat.pow_le_pow_right (by decide) (by omega)
 generalize (256:Nat)^n=x at *;generalize (256:Nat)^128=y at *;omega
theorem rsp_mod (q c:Nat) (m z:Int):(m+((((c:Int)*z)%(q:Int)).toNat:Int))%(q:Int)=(m+(c:Int)*z)%(q:Int)∨q=0:=by
 rcases Nat.eq_zero_or_pos q with h | h
 ·exact .inr h
 ·have hq:(q:Int)≠0:=by omega
  rw[Int.toNat_of_nonneg (Int.emod_nonneg _ hq),Int.add_emod_emod];exact .inl rfl
theorem blw_mod (q:Nat) (x:Int) (h:0<q):blw 0 (x%(q:Int)) q=true:=by
 have h1:=Int.emod_nonneg x (show (q:Int)≠0 by omega);have h2:=Int.emod_lt_of_pos x (show (0:Int)<q by omega);rw[blw_zero (by omega),sg_of_nonneg h1];rfl
end
section
open Go.RowKit Go.Shelf
structure Tp where
 vals:List ByteArray
 seed:ByteArray
 pos:Int
def numb (s:ByteArray):Nat:=val s.data.toList
theorem numb_E (n:Nat):numb (E n)=n:=val_E n
def Tp.good (T:Tp):Bool:=T.vals.all vldB&&(decide (0≤T.pos)&&decide (T.pos≤2147483647))
def Tp.nil:Tp:=⟨[],⟨#[]⟩,0⟩
def Tp.on (T:Tp) (k:Nat):Tp:=⟨T.vals,T.seed,T.pos+k⟩
theorem Tp.on_zero (T:Tp):T.on 0=T:=by cases T;simp[Tp.on]
theorem Tp.on_on (T:Tp) (a b:Nat):(T.on a).on b=T.on (a+b):=by simp[Tp.on];omega
abbrev Att:=ByteArray→Nat→Nat→Nat→Nat
def coinS (att:Att) (T:Tp) (n:Nat):Nat × Nat:=
 match (List.range 256).find? (fun a=>decide (att T.seed T.pos.toNat a (nb n)<n)) with
 | some a=>(0,att T.seed T.pos.toNat a (nb n))
 | none=>(14,0)
def coinD (att:Att) (T:Tp) (n:Nat):Nat × Nat:=
 if T.pos.toNat<T.vals.length then (if numb (T.vals.getD T.pos.toNat ⟨#[]⟩)<n then (0,numb (T.vals.getD T.pos.toNat ⟨#[]⟩)) else (2,0))
 else if T.seed.size=0∨T.pos=2147483647 then (14,0) else coinS att T n
def coin (att:Att) (T:Tp) (n:Nat):Nat × Nat:=if T.good=false then (3,0) else if n=0 then (11,0) else coinD att T n
def Tp.after (T:Tp) (e:Nat):Tp:=if e=0 then T.on 1 else Tp.nil
theorem coinD_val {att:Att} {T:Tp} {n x:Nat} (h:T.pos.toNat<T.vals.length) (hx:T.vals[T.pos.toNat]=E x) (hn:x<n):coinD att T n=(0,x):=by
 have e:numb (T.vals.getD T.pos.toNat ⟨#[]⟩)=x:=by rw[List.getD_eq_getElem?_getD,List.getElem?_eq_getElem h,Option.getD_some,hx,numb_E]
 unfold coinD;rw[if_pos h,e,if_pos hn]
theorem coinD_big {att:Att} {T:Tp} {n x:Nat} (h:T.pos.toNat<T.vals.length) (hx:T.vals[T.pos.toNat]=E x) (hn:n≤x):coinD att T n=(2,0):=by
 have e:numb (T.vals.getD T.pos.toNat ⟨#[]⟩)=x:=by rw[List.getD_eq_getElem?_getD,List.getElem?_eq_getElem h,Option.getD_some,hx,numb_E]
 unfold coinD;rw[if_pos h,e,if_neg (by omega)]
theorem coinD_no {att:Att} {T:Tp} {n:Nat} (h:T.vals.length≤T.pos.toNat) (hs:T.seed.size=0∨T.pos=2147483647):coinD att T n=(14,0):=by
 unfold coinD;rw[if_neg (by omega),if_pos hs]
theorem coinD_s {att:Att} {T:Tp} {n:Nat} (h:T.vals.length≤T.pos.toNat) (hs:T.seed.size≠0) (hp:T.pos≠2147483647):coinD att T n=coinS att T n:=by
 unfold coinD;rw[if_neg (by omega),if_neg (by omega)]
theorem find_range {p:Nat→Bool} {k n:Nat} (hk:k<n) (h:∀j,j<k→p j=false) (hp:p k=true):(List.range n).find? p=some k:=by
 rw[List.find?_range_eq_some];exact⟨hp,List.mem_range.2 hk,fun j hj=>by rw[h j hj];rfl⟩
theorem coinS_at {att:Att} {T:Tp} {n a:Nat} (ha:a<256) (h:∀j,j<a→n≤att T.seed T.pos.toNat j (nb n)) (hx:att T.seed T.pos.toNat a (nb n)<n):coinS att T n=(0,att T.seed T.pos.toNat a (nb n)):=by
 unfold coinS;rw[find_range (p:=fun a=>decide (att T.seed T.pos.toNat a (nb n)<n)) ha (fun j hj=>decide_eq_false (by have:=h j hj;omega)) (Dt hx)]
theorem coinS_no {att:Att} {T:Tp} {n:Nat} (h:∀j,j<256→n≤att T.seed T.pos.toNat j (nb n)):coinS att T n=(14,0):=by
 unfold coinS;rw[List.find?_eq_none.2 (fun j hj=>by have:=h j (List.mem_range.1 hj);simp;omega)]
theorem coinD_lt {att:Att} {T:Tp} {n:Nat} (h:(coinD att T n).1=0):(coinD att T n).2<n:=by
 unfold coinD coinS at *;split at h
 ·split at h
  ·rename_i h1 h2;rw[if_pos h1,if_pos h2];exact h2
  ·simp at h
 ·rename_i h1;split at h
  ·simp at h
  ·rename_i h2;rw[if_neg h1,if_neg h2];split at h
   ·rename_i a ha;have:=List.find?_some ha;simpa using this
   ·simp at h
def Tp.rdy (T:Tp) (n:Nat):Nat:=if T.good=false then 3 else if n=0 then 11 else 0
def csgn (att:Att) (T:Tp) (m:Nat):Nat × Int:=
 if T.rdy m≠0 then (T.rdy m,0) else if (coinD att T (2*m-1)).1=0 then (0,((coinD att T (2*m-1)).2:Int)-((m-1:Nat):Int)) else ((coinD att T (2*m-1)).1,0)
def TAt (w:World) (v:Value) (T:Tp):Prop:=∃u,v=.agg #[u,.string T.seed,.int .i64 T.pos]∧SsAt w u T.vals
structure Tp.Ok (T:Tp):Prop where
 n:T.vals.length≤100
 s:∀x∈T.vals,x.size≤100
 d:T.seed.size≤100
theorem Tp.Ok.on {T:Tp} (h:T.Ok) (k:Nat):(T.on k).Ok:=⟨h.n,h.s,h.d⟩
def drwJ (att:Att) (q C K b:Nat) (T:Tp):Nat × Int:=
 if b=0 then ((coin att T (lim q C K b).1).1,((coin att T (lim q C K b).1).2:Int)) else csgn att T (lim q C K b).1
def NSta.drw (N:NSta) (att:Att) (C K:Nat) (T:Tp) (j:Nat):Nat × Int:=drwJ att N.ord C K (N.vars.getD j 0) (T.on j)
def NSta.drwL (N:NSta) (att:Att) (C K:Nat) (T:Tp):List Int:=(List.range N.vars.length).map fun j=>(N.drw att C K T j).2
structure Drw where
 err:Nat
 msk:List Int
 tp:Tp
def NSta.drwR (N:NSta) (att:Att) (C K:Nat) (T:Tp):Drw:=
 match (List.range N.vars.length).find? (fun j=>(N.drw att C K T j).1 != 0) with
 | some j=>⟨(N.drw att C K T j).1,[],Tp.nil⟩
 | none=>⟨0,N.drwL att C K T,T.on N.vars.length⟩
theorem drw_bad {N:NSta} {att:Att} {C K:Nat} {T:Tp} {k:Nat} (hk:k<N.vars.length) (h:∀j,j<k→(N.drw att C K T j).1=0) (he:(N.drw att C K T k).1≠0):N.drwR att C K T=⟨(N.drw att C K T k).1,[],Tp.nil⟩:=by
 unfold NSta.drwR;rw[find_range (p:=fun j=>(N.drw att C K T j).1 != 0) hk (fun j hj=>by rw[h j hj];rfl) (bne_iff_ne.2 he)]
theorem drw_ok {N:NSta} {att:Att} {C K:Nat} {T:Tp} (h:∀j,j<N.vars.length→(N.drw att C K T j).1=0):N.drwR att C K T=⟨0,N.drwL att C K T,T.on N.vars.length⟩:=by
 unfold NSta.drwR;rw[List.find?_eq_none.2 (fun j hj=>by have:=h j (List.mem_range.1 hj);simp[this])]
theorem drw_step (N:NSta) (att:Att) (C K:Nat) (T:Tp) (k:Nat) (h:k<N.vars.length):(N.drwL att C K T).take (k+1)=(N.drwL att C K T).take k++[(N.drw att C K T k).2]:=by
 unfold NSta.drwL;rw[←List.map_take,List.take_succ_eq_append_getElem (by simpa using h),List.map_append,List.map_take];simp only[List.getElem_range,List.map_cons,List.map_nil]
theorem drw_at (N:NSta) (att:Att) (C K:Nat) (T:Tp) (k:Nat) (h:k<N.vars.length):N.drw att C K T k=drwJ att N.ord C K N.vars[k] (T.on k):=by
 unfold NSta.drw;rw[List.getD_eq_getElem?_getD,List.getElem?_eq_getElem h,Option.getD_some]
def NSta.prv (N:NSta) (att:Att) (C K c:Nat) (W:List Int):Nat→Tp→Drw
 | 0,_=>⟨15,[],Tp.nil⟩
 | f+1,T=>if (N.drwR att C K T).err≠0 then ⟨(N.drwR att C K T).err,[],Tp.nil⟩
  else if N.rsp2 C K c W (N.drwR att C K T).msk=0 then N.drwR att C K T else N.prv att C K c W f (N.drwR att C K T).tp
end
section
open Go.RowKit Go.Shelf
def CPost (w:World) (T:Tp) (r:Nat × Nat) (e:Ending) (w':World):Prop:=∃t:Value,e=.returned (.tuple #[.string (E r.2),t,.int .i64 (r.1:Int)])∧TAt w' t (T.after r.1)∧TFar t w.heap.size∧Bw w w'
def HAtt (att:Att) (sd:ByteArray) (w0:World):Prop:=sd.size≠0→∀(p a k:Nat),p≤2147483647→a<256→1≤k→k≤512→att sd p a k<256^64 ∧
 ∀(ao:Option Addr) (m c:Nat) (w:World),Bw w0 w→Calls Tryz.prog 138 #[.agg #[.slice ao m c,.string sd,.int .i64 (p:Int)],.int .i64 (a:Int),.int .i64 (k:Int)] w fun e w'=>e=.returned (.string (E (att sd p a k)))∧Bw w w'
theorem HAtt.after {att:Att} {sd:ByteArray} {w w':World} (h:HAtt att sd w) (hb:Bw w w'):HAtt att sd w':=fun hs p a k h1 h2 h3 h4=>⟨(h hs p a k h1 h2 h3 h4).1,fun ao m c W hW=>(h hs p a k h1 h2 h3 h4).2 ao m c W (bt hb hW)⟩
theorem cgd1_c (s:ByteArray) (w:World) (hs:s.size≤1000) :
  Calls Tryz.prog 181 #[.string s] w fun e w'=>e=.returned (.bool (!(vldB s)))∧Bw w w':=by
 have HV:Hid (∀w,Calls Tryz.prog 32 #[.string s] w fun e w'=>e=.returned (.bool (vldB s))∧w'=w):=fun w=>valB_c s _ w hs rfl
 generalize vldB s=b at HV ⊢;cases b
 ·go_enter Tryz.func181,Tryz.ntmps181
  go_wp2_with fail
  refine (HV.out _).mono ?_;rintro e w2 ⟨rfl,rfl⟩;go_wp2;go_ret
  exact⟨rfl,Br⟩
 ·go_enter Tryz.func181,Tryz.ntmps181
  go_wp2_with fail
  refine (HV.out _).mono ?_;rintro e w2 ⟨rfl,rfl⟩;go_wp2;go_ret
  exact⟨rfl,Br⟩
theorem any_not (V:List ByteArray):V.any (fun x=>!(vldB x))=!(V.all vldB):=by
 induction V with
 | nil=>rfl
 | cons a t ih=>rw[List.any_cons,List.all_cons,ih];cases vldB a <;> rfl
theorem cgood_c (T:Tp) (v:Value) (w:World) (hd:T.Ok) (hV:SsAt w v T.vals) :
  Calls Tryz.prog 137 #[.agg #[v,.string T.seed,.int .i64 T.pos]] w fun e w'=>e=.returned (.bool T.good)∧Bw w w':=by
 obtain⟨V,sd,p⟩:=T;have HG:Hid (Tp.good ⟨V,sd,p⟩=(V.all vldB&&(decide (0≤p)&&decide (p≤2147483647)))):=rfl
 have HC:Hid (∀w',Bw w w'→Calls Tryz.prog 180 #[v,.func (.func 181) #[] #[]] w' fun e w''=>e=.returned (.bool (!(V.all vldB)))∧Bw w' w''):=fun w' hb =>
  cont_cgd V (fun x=>!(vldB x)) _ v w' (by have:=hd.n;simp only[]at this;omega) (SsAt.after hV hb) (any_not V) (fun k hk w2 _=>cgd1_c _ w2 (by have:=hd.s _ (Gm hk);omega))
 obtain⟨ao,c,rfl⟩:=RAt.form hV;simp only[];generalize Tp.good ⟨V,sd,p⟩=g at HG ⊢;generalize V.all vldB=b at HG HC;generalize V.length=n at HC ⊢;clear hd hV;obtain⟨hP,hc⟩:=blk1 w #[.slice ao n c,.string sd,.int .i64 p] 35;obtain⟨t1,he⟩:∃t:Bool,t=decide (0≤p):=⟨_,rfl⟩;obtain⟨t2,hf⟩:∃t:Bool,t=decide (p≤2147483647):=⟨_,rfl⟩;rw[←he,←hf]at HG;have d1:=he.symm;have d2:=hf.symm;clear he hf;obtain⟨hh,hi,hj,hl,hm,hn⟩:=hP.x3;cases t1
 ·have HX:Hid (g=false):=by rw[Hid,HG.out];simp
  go_enter Tryz.func137,Tryz.ntmps137
  go_wp2;go_ret
  rw[HX.out];exact⟨rfl,hc⟩
 ·cases t2
  ·have HX:Hid (g=false):=by rw[Hid,HG.out];simp
   go_enter Tryz.func137,Tryz.ntmps137
   go_wp2;go_ret
   rw[HX.out];exact⟨rfl,hc⟩
  ·have HX:Hid (g=b):=by rw[Hid,HG.out];simp
   cases b
   ·go_enter Tryz.func137,Tryz.ntmps137
    go_wp2_with fail
    refine (HC.out _ hc).mono ?_;rintro e w2 ⟨rfl,hg⟩;go_wp2;go_ret
    rw[HX.out];exact⟨rfl,bt hc hg⟩
   ·go_enter Tryz.func137,Tryz.ntmps137
    go_wp2_with fail
    refine (HC.out _ hc).mono ?_;rintro e w2 ⟨rfl,hg⟩;go_wp2;go_ret
    rw[HX.out];exact⟨rfl,bt hc hg⟩
theorem cready_c (T:Tp) (v:Value) (n:Nat) (w:World) (he:T.Ok) (hn:n<256^128) (hV:SsAt w v T.vals) :
  Calls Tryz.prog 98 #[.agg #[v,.string T.seed,.int .i64 T.pos],.string (E n)] w fun e w'=>e=.returned (.int .i64 (T.rdy n:Nat))∧Bw w w':=by
 have HG:Hid (∀w',Bw w w'→Calls Tryz.prog 137 #[.agg #[v,.string T.seed,.int .i64 T.pos]] w' fun e w''=>e=.returned (.bool T.good)∧Bw w' w''):=fun w' hb=>cgood_c T v w' he (SsAt.after hV hb)
 have HV:Hid (∀w,Calls Tryz.prog 32 #[.string (E n)] w fun e w'=>e=.returned (.bool true)∧w=w'):=fun w=>validE_c n w hn
 have HR:Hid (T.rdy n=if T.good=false then 3 else if n=0 then 11 else 0):=rfl;obtain⟨ao,c,rfl⟩:=RAt.form hV;obtain⟨V,sd,p⟩:=T;simp only[]at HG ⊢;generalize Tp.rdy ⟨V,sd,p⟩ n=r at HR ⊢;generalize Tp.good ⟨V,sd,p⟩=g at HG HR;generalize V.length=m at HG ⊢;clear he hn hV;obtain⟨hP,hc⟩:=blk1 w #[.slice ao m c,.string sd,.int .i64 p] 35;obtain⟨hf,hg,hh,hi,hj,hk⟩:=hP.x3;cases g
 ·have HX:Hid (r=3):=by rw[Hid,HR.out];rfl
  go_enter Tryz.func98,Tryz.ntmps98
  go_wp2_with fail
  refine (HG.out _ hc).mono ?_;rintro e w2 ⟨rfl,hd⟩;go_wp2;go_ret
  rw[HX.out];exact⟨rfl,bt hc hd⟩
 ·by_cases h0:n=0
  ·have HX:Hid (r=11):=by rw[Hid,HR.out,if_neg (by decide),if_pos h0]
   have hz:=zE h0;have hl:((E n).toList==[])=true:=by simpa using hz
   clear h0;go_enter Tryz.func98,Tryz.ntmps98
   go_wp2_with fail
   refine (HG.out _ hc).mono ?_;rintro e w2 ⟨rfl,hd⟩;go_wp2_with fail
   refine (HV.out _).mono ?_;rintro e w' ⟨rfl,rfl⟩;go_wp2;go_ret
   rw[HX.out];exact⟨rfl,bt hc hd⟩
  ·have HX:Hid (r=0):=by rw[Hid,HR.out,if_neg (by decide),if_neg h0]
   have hz:=nzE (Nat.pos_of_ne_zero h0);have hl:=nzE2 (Nat.pos_of_ne_zero h0);clear h0;go_enter Tryz.func98,Tryz.ntmps98
   go_wp2_with fail
   refine (HG.out _ hc).mono ?_;rintro e w2 ⟨rfl,hd⟩;go_wp2_with fail
   refine (HV.out _).mono ?_;rintro e w' ⟨rfl,rfl⟩;go_wp2;go_ret
   rw[HX.out];exact⟨rfl,bt hc hd⟩
end
end Go.Proofs.YtdgddpnjkinciaaGreatDoor
