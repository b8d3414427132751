/- A proof of one witness is a proof of any other one: both functions and the walk of the law. -/
import Derived.Test.YtihjpddbjhcbmaaGreatDoorAc17
import Derived.Test.YtihjpddbjhcbmaaGreatDoorHa17
set_option linter.unusedVariables false
set_option linter.unusedSimpArgs false
set_option maxRecDepth 100000
set_option maxHeartbeats 16000000
namespace Go.Proofs.YtihjpddbjhcbmaaGreatDoor
section
/- sigma.Prove: refused rules,statements and forms. -/
open Go.RowKit Go.Shelf
def pvB (l:List (Bool × ByteArray)) (ch:ByteArray):Bool:=(l.all fun x=>ivB x.1 x.2)&&vldB ch
theorem sprove_err (C K ch sd:ByteArray) (v1 v2 v3 vw vt:Value) (ti:Int) (k:Nat) (w:World) (hk:k≠0)
  (hy:∀w',Bw w w'→Calls Tryz.prog 77 #[.agg #[.string C,.string K],.agg #[v1,v2,v3]] w' fun e w''=>e=.returned (.tuple #[.slice none 0 0,.int .i64 k])∧Bw w' w'') :
  Calls Tryz.prog 18 #[.agg #[.string C,.string K],.agg #[v1,v2,v3],vw,.string ch,.agg #[vt,.string sd,.int .i64 ti]] w (PPost w ch ⟨k,[],Tp.nil⟩ [] []):=by
 have hz:=Kh hy;have HK:=Kh hk;have hL:((k:Int) != 0)=true:=by rw[bne_iff_ne];omega
 obtain⟨hR,hP,hT,hF,hQ,hc⟩:=blk5 w #[.string C,.string K] #[v1,v2,v3] #[vt,.string sd,.int .i64 ti] #[.slice none 0 0,.string ⟨#[]⟩,.slice none 0 0] #[.slice none 0 0,.string ⟨#[]⟩,.int .i64 0] 24 29 33 40 33;have he:Hid (w.heap.size≤w.heap.size+1+1+1):=by rw[Hid];omega
 have hf:Hid (w.heap.size≤w.heap.size+1+1+1+1):=by rw[Hid];omega
 have hA:¬ w.heap.size+1+1+1=w.heap.size+1+1+1+1:=by omega
 have hB:¬ w.heap.size+1+1+1+1=w.heap.size+1+1+1:=by omega
 clear hy hk;obtain⟨hg,hh,hi,hj⟩:=hR.x2;obtain⟨hl,hm,hn,ho,hp,hq⟩:=hP.x3;go_enter Tryz.func18,Tryz.ntmps18
 go_upto_region 1 with fail
 go_step3
 go_wp2_with fail
 refine (hz.out _ hc).mono ?_;rintro e w2 ⟨rfl,hb⟩;clear hg hh hi hj;clear hl hm hn ho hp hq;clear hR hP hT;replace hF:=hF.after hb;replace hQ:=hQ.after hb;replace hc:=bt hc hb;clear hb;go_wp2_with fail
 refine (pfail_c _ _).mono ?_;rintro e wf ⟨rfl,hd⟩;replace hF:=hF.after hd;replace hQ:=hQ.after hd;replace hc:=bt hc hd;clear hd;have hC:=hF.lt;have hD:=hQ.lt;obtain⟨hr,hE,ht,hG,hu,hH⟩:=hF.x3;obtain⟨hv,hI,hw,hJ,hx,hK⟩:=hQ.x3;go_wp2;(try rw[Exit.noGoto_ret])
 refine bodyPost_ret (v:=.tuple #[.agg #[.slice none 0 0,.string ⟨#[]⟩,.slice none 0 0],.agg #[.slice none 0 0,.string ⟨#[]⟩,.int .i64 0],.int .i64 (k:Int)]) ?_ rfl ?_
 ·simp[results,Tryz.results18,go_sem,hr,ht,hu,hv,hw,hx,hC,hD,hA,hB]
 ·exact ppost_err HK.out rfl rfl ((((((hc.setCell he.out _).setCell he.out _).setCell he.out _).setCell hf.out _).setCell hf.out _).setCell hf.out _)
theorem sprove_form (C K ch sd:ByteArray) (l:List (Bool × ByteArray)) (v1 v2 v3 vw vt:Value) (ti:Int) (w:World)
  (hI:∀w',Bw w w'→Calls Tryz.prog 77 #[.agg #[.string C,.string K],.agg #[v1,v2,v3]] w' fun e w''=>∃v,e=.returned (.tuple #[v,.int .i64 0])∧Bw w' w'')
  (hJ:l.length≤1000) (hK:∀x∈l,x.2.size≤1000) (hL:ch.size≤1000) (hW:IsAt w vw l) (hb:pvB l ch=false) :
  Calls Tryz.prog 18 #[.agg #[.string C,.string K],.agg #[v1,v2,v3],vw,.string ch,.agg #[vt,.string sd,.int .i64 ti]] w (PPost w ch ⟨3,[],Tp.nil⟩ [] []):=by
 have hM:=Kh hI;have hm:Hid (∀w',Bw w w'→Calls Tryz.prog 78 #[vw] w' fun e w''=>e=.returned (.bool (l.all fun x=>ivB x.1 x.2))∧Bw w' w''):=fun w' hb=>svalid_c l vw w' hJ hK (IsAt.after hW hb)
 have hn:Hid (∀w,Calls Tryz.prog 79 #[.string ch] w fun e w'=>e=.returned (.bool (vldB ch))∧w'=w):=fun w=>valB_c ch _ w hL rfl
 have HB:=Kh hb;unfold pvB at HB;generalize (l.all fun x=>ivB x.1 x.2)=b1 at hm HB;generalize vldB ch=b3 at hn HB;obtain⟨hR,hP,hT,hF,hQ,hc⟩:=blk5 w #[.string C,.string K] #[v1,v2,v3] #[vt,.string sd,.int .i64 ti] #[.slice none 0 0,.string ⟨#[]⟩,.slice none 0 0] #[.slice none 0 0,.string ⟨#[]⟩,.int .i64 0] 24 29 33 40 33;have hk:Hid (w.heap.size≤w.heap.size+1+1+1):=by rw[Hid];omega
 have hl:Hid (w.heap.size≤w.heap.size+1+1+1+1):=by rw[Hid];omega
 have hN:¬ w.heap.size+1+1+1=w.heap.size+1+1+1+1:=by omega
 have hO:¬ w.heap.size+1+1+1+1=w.heap.size+1+1+1:=by omega
 clear hI hJ hK hL hW hb;obtain⟨ho,hp,hq,hr⟩:=hR.x2;obtain⟨ht,hu,hv,hw,hx,hy⟩:=hP.x3;go_enter Tryz.func18,Tryz.ntmps18
 go_upto_region 1 with fail
 go_step3
 go_wp2_with fail
 refine (hM.out _ hc).mono ?_;rintro e w2 ⟨lv,rfl,hb⟩;clear ho hp hq hr;clear ht hu hv hw hx hy;clear hR hP hT hM;replace hF:=hF.after hb;replace hQ:=hQ.after hb;replace hc:=bt hc hb;clear hb;cases b1
 ·go_wp2_with fail
  refine (hm.out _ hc).mono ?_;rintro e w3 ⟨rfl,hb⟩;replace hF:=hF.after hb;replace hQ:=hQ.after hb;replace hc:=bt hc hb;clear hb;go_wp2_with fail
  refine (pfail_c _ _).mono ?_;rintro e wf ⟨rfl,hd⟩;replace hF:=hF.after hd;replace hQ:=hQ.after hd;replace hc:=bt hc hd;clear hd;have hz:=hF.lt;have hA:=hQ.lt;obtain⟨he,hB,hf,hC,hg,hD⟩:=hF.x3;obtain⟨hh,hE,hi,hG,hj,hH⟩:=hQ.x3;go_wp2;(try rw[Exit.noGoto_ret])
  refine bodyPost_ret (v:=.tuple #[.agg #[.slice none 0 0,.string ⟨#[]⟩,.slice none 0 0],.agg #[.slice none 0 0,.string ⟨#[]⟩,.int .i64 0],.int .i64 3]) ?_ rfl ?_
  ·simp[results,Tryz.results18,go_sem,he,hf,hg,hh,hi,hj,hz,hA,hN,hO]
  ·exact ppost_err (by decide) rfl rfl ((((((hc.setCell hk.out _).setCell hk.out _).setCell hk.out _).setCell hl.out _).setCell hl.out _).setCell hl.out _)
 ·have hS:Hid (b3=false):=HB.out;rw[hS.out]at hn;go_wp2_with fail
  refine (hm.out _ hc).mono ?_;rintro e w3 ⟨rfl,hb⟩;replace hF:=hF.after hb;replace hQ:=hQ.after hb;replace hc:=bt hc hb;clear hb;go_wp2_with fail
  refine (hn.out _).mono ?_;rintro e w5 ⟨rfl,rfl⟩;go_wp2_with fail
  refine (pfail_c _ _).mono ?_;rintro e wf ⟨rfl,hd⟩;replace hF:=hF.after hd;replace hQ:=hQ.after hd;replace hc:=bt hc hd;clear hd;have hz:=hF.lt;have hA:=hQ.lt;obtain⟨he,hB,hf,hC,hg,hD⟩:=hF.x3;obtain⟨hh,hE,hi,hG,hj,hH⟩:=hQ.x3;go_wp2;(try rw[Exit.noGoto_ret])
  refine bodyPost_ret (v:=.tuple #[.agg #[.slice none 0 0,.string ⟨#[]⟩,.slice none 0 0],.agg #[.slice none 0 0,.string ⟨#[]⟩,.int .i64 0],.int .i64 3]) ?_ rfl ?_
  ·simp[results,Tryz.results18,go_sem,he,hf,hg,hh,hi,hj,hz,hA,hN,hO]
  ·exact ppost_err (by decide) rfl rfl ((((((hc.setCell hk.out _).setCell hk.out _).setCell hk.out _).setCell hl.out _).setCell hl.out _).setCell hl.out _)
end
section
/- With the coins of the masks that explain a proof,a prover returns the very same proof. -/
open Go.RowKit Go.Shelf
theorem getD_at {α:Type} (l:List α) (j:Nat) (d:α) (h:j<l.length):l.getD j d=l[j]:=by
 rw[List.getD_eq_getElem?_getD,List.getElem?_eq_getElem h,Option.getD_some]
theorem lim1_at {N:NSta} (hm:NOk N) {C K c:Nat} {F:List Nat} {Y W:List Int} (hC:C<256^16) (hK:K<256^16) (hq:N.vars.any vz=true→0<N.ord) (hv:N.ver C K F c Y=0) (hH:N.hldB W=true) :
  ∀z∈N.expL c Y W,z.natAbs<256^64:=by
 intro z hz;obtain⟨j,hj,rfl⟩:=List.mem_map.1 hz;have hb:=List.mem_range.1 hj;exact Nat.lt_trans (expl_mk hq hv hH j hb).1 (Nl (lims1_lt hm hC hK (Gm hb)) P8)
theorem coin_sz {N:NSta} (hm:NOk N) {C K c:Nat} {F:List Nat} {Y W:List Int} (hC:C<256^16) (hK:K<256^16) (hq:N.vars.any vz=true→0<N.ord) (hv:N.ver C K F c Y=0) (hH:N.hldB W=true) :
  ∀n∈N.coinL C K (N.expL c Y W),n<256^64:=by
 intro n hn;obtain⟨j,hj,rfl⟩:=List.mem_map.1 hn;have hb:=List.mem_range.1 hj;have h1:=(expl_mk hq hv hH j hb).1;have h2:=lims1_lt hm hC hK (Gm hb);unfold coinJ;rw[getD_at N.vars j 0 hb,expL_at N c Y W j hb];have h9:256^60*2≤256^64:=by decide
 generalize (256:Nat)^60=a at *;generalize (256:Nat)^64=b at *;unfold coinN;split <;> omega
theorem expl_blM {N:NSta} {C K c:Nat} {F:List Nat} {Y W:List Int} (hq:N.vars.any vz=true→0<N.ord) (hv:N.ver C K F c Y=0) (hH:N.hldB W=true):ra N.vars.length (blM N C K (N.expL c Y W))=true:=by
 refine ra_true fun j hj=>?_
 obtain⟨h1,h2⟩:=expl_mk hq hv hH j hj;unfold blM;rw[getD_at N.vars j 0 hj,expL_at N c Y W j hj];generalize expJ N c Y W j=z at *;unfold blw;rw[Dt h1,Bool.true_and];by_cases h0:N.vars[j]=0
 ·have h3:sg z=false:=by unfold sg;exact decide_eq_false (by have:=h2 h0;omega)
  rw[h3];simp
 ·have h3:vz N.vars[j]=false:=by unfold vz;rw[beq_eq_false_iff_ne];exact h0
  rw[h3];simp
theorem agr_core (N:NSta) (c k x:Nat) (F:List Nat) (Y W:List Int) (v1 v2 v3 vw:Value) (w:World) (hc:c<256^16) (hk:k<256^16) (hx:x<256^8) (hm:NOk N) (hN:NAt w v1 v2 v3 N) (h0:N.chk=0) (c2:2≤c) (k2:2≤k) (hv:N.vars.any vz=true→c≤N.ord)
  (h1:∀w',Bw w w'→Calls Tryz.prog 33 #[.agg #[.string (E c),.string (E k)],.agg #[v1,v2,v3]] w' (B2Post w' (N.lims c k)))
  (hd:N.ver c k F x Y=0) (hp:F.length≤1000) (hu:∀f∈F,f<256^128) (hw:Y.length≤1000) (hh:∀z∈Y,z.natAbs<256^64) (hW:ZsAt w vw W) (hi:W.length≤1000) (hj:∀z∈W,z.natAbs<256^60) (hH:N.hldB W=true) (ht:TabW w) :
  ∃(M:List Int) (L:List Nat) (Tq:Tp),Tq.pos=(L.length:Int) ∧
   (∀(fv rv:Value) w',Bw w w'→SsAt w' fv (F.map E)→ZsAt w' rv Y→Calls Tryz.prog 31 #[.agg #[.string (E c),.string (E k)],.agg #[v1,v2,v3],vw,.agg #[fv,.string (E x),rv]] w' (EPost w' 0 M)) ∧
   (∀(mv:Value) w',Bw w w'→ZsAt w' mv M→Calls Tryz.prog 32 #[.agg #[.string (E c),.string (E k)],.agg #[v1,v2,v3],mv] w' (FPost w' 0 L)) ∧
   (∀(lv:Value) w',Bw w w'→SsAt w' lv (L.map E)→Calls Tryz.prog 18 #[.agg #[.string (E c),.string (E k)],.agg #[v1,v2,v3],vw,.string (E x),.agg #[lv,.string ⟨#[]⟩,.int .i64 0]] w' (PPost w' (E x) ⟨0,M,Tq⟩ F Y)):=by
 obtain⟨_,yl,xc,yr⟩:=ver_inv hd;have hq:N.vars.any vz=true→0<N.ord:=fun h=>by have:=hv h;omega
 have hg:=ord_lt hm;have hC:=hm.nv;have hb_ok:=fun w' (hb:Bw w w')=>bounds_ok N c k v1 v2 v3 w' hc hk c2 k2 hv hm (hN.after hb) h0
 have ho:=fun (fv rv:Value) w' (hb:Bw w w') (hf:SsAt w' fv (F.map E)) (hr:ZsAt w' rv Y)=>verify_num N c k x F Y v1 v2 v3 fv rv w' hc hk hm (hN.after hb) h0 (fun w2 he=>hb_ok w2 (bt hb he)) hf hr hp hu (lt128' hx (by decide)) hw hh
 rw[hd]at ho;have e0:N.hldE W=0:=if_neg (fun h=>h (hld_inv hH).1);obtain⟨x1,x2⟩:=ex_c (c:=x) (Y:=Y) e0 hH;have hy:(N.expL x Y W).length=N.vars.length:=expL_len N x Y W;obtain⟨o1,o2⟩:=coi_d (C:=c) (K:=k) hy (expl_blM hq hd hH);obtain⟨p1,p2,p3⟩:=expl_prv attN hm h0 hc hk hq hd hH
 have hA:(N.expT c k x Y W).Ok:=by
  refine⟨?_,fun s hs=>?_,by show (0:Nat)≤100;omega⟩
  ·show ((N.coinL c k (N.expL x Y W)).map E).length≤100;simp[NSta.coinL];omega
  ·obtain⟨n,hn,rfl⟩:=List.mem_map.1 (show s∈(N.coinL c k (N.expL x Y W)).map E from hs);have:=(E_size_le n 64).2 (coin_sz hm hc hk hq hd hH n hn);omega
 refine⟨N.expL x Y W,N.coinL c k (N.expL x Y W),(N.expT c k x Y W).on N.vars.length,?_,fun fv rv w' hb hf hr=>?_,fun mv w' hb hz=>?_,fun lv w' hb hl=>?_⟩
 ·show (0:Int)+(N.vars.length:Int)=_;simp[NSta.coinL]
 ·have h:=sexp_num N c k x Y W v1 v2 v3 vw fv rv w' hc hk hm (hN.after hb) h0 (ZsAt.after hW hb) (fun z hz=>Nl (hj z hz) P8) hi hx hr yl hh (fun j h h2 hB=>by
   have a1:=ra_at yr h;rw[blJ_at N c k Y j h h2,hB,blw,lim,if_pos rfl]at a1;simp only[Bool.and_eq_true,decide_eq_true_eq]at a1;exact⟨by omega,Nat.lt_trans a1.1 hg⟩) (fun w2 he=>h1 w2 (bt hb he)) (fun w2 he=>ho fv rv w2 (bt hb he) (SsAt.after hf he) (ZsAt.after hr he))
  rwa [x1,x2]at h
 ·have h:=scoins_num N c k _ v1 v2 v3 mv w' hc hk hm (hN.after hb) hz (lim1_at hm hc hk hq hd hH) (by omega) (fun w2 he=>h1 w2 (bt hb he));rwa [o1,o2]at h
 ·have h:=sprove_num attN N c k x W (N.expT c k x Y W) v1 v2 v3 vw lv w' (hatt _ w' (by show (0:Nat)≤1000;omega) (ht.after hb)) hA hc hk hm (hN.after hb) h0 (fun w2 he=>hb_ok w2 (bt hb he)) (ZsAt.after hW hb) hl (Nl hx P8) hi (fun z hz=>Nl (hj z hz) P8) hq;rw[p2,p3,p1]at h;exact h
theorem same17_c (F:List Nat) (Y:List Int) (ch:ByteArray) (u1 r1 u2 r2:Value) (w:World) (hf:F.length≤1000) (hy:Y.length≤1000) (h1:SsAt w u1 (F.map E)) (h2:SsAt w u2 (F.map E)) (h3:ZsAt w r1 Y) (h4:ZsAt w r2 Y) :
  Calls Tryz.prog 26 #[.agg #[u1,.string ch,r1],.agg #[u2,.string ch,r2]] w fun e w'=>e=.returned (.bool true)∧Bw w w':=by
 have HA:Hid (∀w',Bw w w'→Calls Tryz.prog 74 #[u1,u2] w' fun e w''=>e=.returned (.bool true)∧Bw w' w''):=fun w' hb=>eqNat_cV F F _ _ true w' hf hf (SsAt.after h1 hb) (SsAt.after h2 hb) (Dt rfl)
 have HB:Hid (∀w',Bw w w'→Calls Tryz.prog 75 #[r1,r2] w' fun e w''=>e=.returned (.bool true)∧Bw w' w''):=fun w' hb=>eqZ_c r1 r2 Y w' hy (ZsAt.after h3 hb) (ZsAt.after h4 hb)
 obtain⟨f1,g1,rfl⟩:=RAt.form h1;obtain⟨f2,g2,rfl⟩:=RAt.form h2;obtain⟨f3,g3,rfl⟩:=h3.form;obtain⟨f4,g4,rfl⟩:=h4.form;generalize (F.map E).length=n at HA;generalize Y.length=m at HB;have ht:(ch.toList==ch.toList)=true:=by simp
 clear h1 h2 h3 h4 hf hy;obtain⟨hX,hZ,hc⟩:=blk2 w #[.slice f1 n g1,.string ch,.slice f3 m g3] #[.slice f2 n g2,.string ch,.slice f4 m g4] 40 40;obtain⟨hd,he,hg,hh,hi,hj⟩:=hX.x3;obtain⟨hk,hl,hm,hn,ho,hp⟩:=hZ.x3;go_enter Tryz.func26,Tryz.ntmps26
 go_wp2_with fail
 refine (HA.out _ hc).mono ?_;rintro e w2 ⟨rfl,hq⟩;clear hd he hg hh hi hj;clear hk hl hm hn ho hp;replace hX:=hX.after hq;replace hZ:=hZ.after hq;replace hc:=bt hc hq;clear hq;obtain⟨hd,he,hg,hh,hi,hj⟩:=hX.x3;obtain⟨hk,hl,hm,hn,ho,hp⟩:=hZ.x3;go_wp2_with fail
 refine (HB.out _ hc).mono ?_;rintro e w3 ⟨rfl,hr⟩;go_wp2;go_ret
 exact⟨rfl,bt hc hr⟩
end
section
open Go.RowKit Go.Shelf
theorem prv_ok (N:NSta) (att:Att) (C K c:Nat) (W:List Int):∀(f:Nat) (T:Tp),(N.prv att C K c W f T).err=0→N.rsp2 C K c W (N.prv att C K c W f T).msk=0
 | 0,T,h=>by cases h
 | f+1,T,h=>by
  by_cases h1:(N.drwR att C K T).err=0
  ·by_cases h2:N.rsp2 C K c W (N.drwR att C K T).msk=0
   ·rw[prv_done h1 h2];exact h2
   ·rw[prv_next h1 h2]at h ⊢;exact prv_ok N att C K c W f _ h
  ·rw[prv_err h1]at h;exact absurd h h1
theorem prvR_ok {N:NSta} {att:Att} {C K c:Nat} {W:List Int} {T:Tp} (h:(N.prvR att C K c W T).err=0):c<C∧N.hldB W=true∧N.rsp2 C K c W (N.prvR att C K c W T).msk=0:=by
 by_cases h1:W.length=N.vars.length
 ·rcases Nat.lt_or_ge c C with h2 | h2
  ·cases h3:ra N.vars.length (inJ N W) with
   | false=>rw[prv_c h1 h2 h3]at h;cases h
   | true =>
    cases h4:N.hldB W with
    | false=>rw[prv_d h1 h2 h3 h4]at h;cases h
    | true =>
     rw[prv_e h1 h2 h3 h4]at h ⊢;exact⟨h2,rfl,prv_ok N att C K c W 64 T h⟩
  ·rw[prv_b h1 h2]at h;cases h
 ·rw[prv_a h1]at h;cases h
theorem lim_le (q C K b:Nat):(lim q C K b).2≤(lim q C K b).1:=by
 unfold lim;split
 ·exact Nat.le_refl _
 ·exact Nat.sub_le _ _
theorem rspL_lt {N:NSta} (hm:NOk N) {C K c:Nat} {W M:List Int} (hC:C<256^16) (hK:K<256^16) (h:N.rsp2 C K c W M=0):∀z∈N.rspL c W M,z.natAbs<256^64:=by
 intro z hz;obtain⟨j,hj,rfl⟩:=List.mem_map.1 hz;have hb:=List.mem_range.1 hj
 have hr:ra N.vars.length (rsJ N C K c W M)=true:=by
  unfold NSta.rsp2 at h;cases hh:ra N.vars.length (rsJ N C K c W M) with
  | true=>rfl
  | false=>rw[if_pos hh]at h;cases h
 have h1:=ra_at hr hb;unfold rsJ blw at h1;rw[List.getD_eq_getElem?_getD (l:=N.vars),List.getElem?_eq_getElem hb,Option.getD_some]at h1;simp only[Bool.and_eq_true,decide_eq_true_eq]at h1;have h2:=lims1_lt hm hC hK (Gm hb);have h3:=lim_le N.ord C K N.vars[j];exact Nat.lt_trans h1.1 (Nat.lt_of_le_of_lt h3 (Nl h2 P8))
theorem imgs_lt {N:NSta} (hm:NOk N) (hc:N.chk=0) {W:List Int} (M:List Int) (hH:N.hldB W=true):∀x∈N.imgs M,x<256^128:=by
 intro x hx;obtain⟨q,hq,rfl⟩:=List.mem_map.1 hx;obtain⟨j,hj,rfl⟩:=List.getElem_of_mem hq;unfold NSta.hldB at hH;simp only[Bool.and_eq_true,decide_eq_true_iff]at hH;have h1:=(compl_key (c:=0) (W:=W) (M:=M) hm hc hH.2.2 j hj).1;have h2:=has_lt h1;have hg:=(hm.e _ (Gm hj)).1;rw[gp_at N _ hg]at h2;have h3:=(hm.g _ (Gm hg)).1;exact Nat.lt_trans (by rw[gp_at N _ hg]at *;exact h2) (Nl h3 P8)
theorem sim_hid (S:Sta) (C K ch sd:ByteArray) (WL OL:List (Bool × ByteArray)) (V:List ByteArray) (ti:Int) (v1 v2 v3 vw vo vt:Value) (w:World) (hC:C.size≤16) (hK:K.size≤16) (hf:fewB S=true) (hS:StAt w v1 v2 v3 S)
  (hD:ch.size≤8) (hn:V.length≤100) (hs:∀x∈V,x.size≤100) (hE:sd.size≤100) (hV:SsAt w vt V) (hF:WL.length≤20) (hr:∀x∈WL,x.2.size≤24) (hW:IsAt w vw WL) (hG:OL.length≤20) (hu:∀x∈OL,x.2.size≤24) (hO:IsAt w vo OL) (ht:TabW w) :
  ∃(R:Drw) (F:List Nat) (Y:List Int) (b:Bool) (m:Nat),(∀w',Bw w w'→Calls Tryz.prog 18 #[.agg #[.string C,.string K],.agg #[v1,v2,v3],vw,.string ch,.agg #[vt,.string sd,.int .i64 ti]] w' (PPost w' ch R F Y)) ∧
   (∀w',Bw w w'→Calls Tryz.prog 30 #[.agg #[v1,v2,v3],vo] w' fun e w''=>e=.returned (.tuple #[.bool b,.int .i64 (m:Nat)])∧Bw w' w'') ∧
   (R.err=0→m=0→b=true→F.length≤1000∧Y.length≤1000∧∃(M:List Int) (L:List Nat) (Tq:Tp),Tq.pos=(L.length:Int) ∧
    (∀(fv rv:Value) w',Bw w w'→SsAt w' fv (F.map E)→ZsAt w' rv Y→Calls Tryz.prog 31 #[.agg #[.string C,.string K],.agg #[v1,v2,v3],vo,.agg #[fv,.string ch,rv]] w' (EPost w' 0 M)) ∧
    (∀(mv:Value) w',Bw w w'→ZsAt w' mv M→Calls Tryz.prog 32 #[.agg #[.string C,.string K],.agg #[v1,v2,v3],mv] w' (FPost w' 0 L)) ∧
    (∀(lv:Value) w',Bw w w'→SsAt w' lv (L.map E)→Calls Tryz.prog 18 #[.agg #[.string C,.string K],.agg #[v1,v2,v3],vo,.string ch,.agg #[lv,.string ⟨#[]⟩,.int .i64 0]] w' (PPost w' ch ⟨0,M,Tq⟩ F Y))):=by
 have hw:∀x∈OL,x.2.size≤60:=fun x hx=>by have:=hu x hx;omega
 obtain⟨b0,m0,hj⟩:=holds_any S OL v1 v2 v3 vo w hf hS (by omega) hw hO;obtain⟨k,hk,h1,_⟩ | ⟨N,c,k,rfl,rfl,hc,hk,rfl,hm,h0,c2,k2,hv⟩:=bnd_two S C K v1 v2 v3 w hC hK hf hS
 ·exact⟨⟨k,[],Tp.nil⟩,[],[],b0,m0,fun w' hb=>sprove_err C K ch sd v1 v2 v3 vw vt ti k w' hk (fun w2 hd=>h1 w2 (bt hb hd)),hj,fun h=>absurd h hk⟩
 ·have hN:NAt w v1 v2 v3 N:=hS;have hl:=fun w' (hb:Bw w w')=>bounds_ok N c k v1 v2 v3 w' hc hk c2 k2 hv hm (hN.after hb) h0
  cases hp:pvB WL ch
  ·exact⟨⟨3,[],Tp.nil⟩,[],[],b0,m0,fun w' hb=>by
    refine sprove_form (E c) (E k) ch sd WL v1 v2 v3 vw vt ti w' (fun w2 hd=>(hl w2 (bt hb hd)).mono ?_) (by omega) (fun x hx=>by have:=hr x hx;omega) (by omega) (IsAt.after hW hb) hp;rintro e w3 ⟨v,rfl,_,hI⟩;exact⟨v,rfl,hI⟩,hj,fun h=>by cases h⟩
  ·simp only[pvB,Bool.and_eq_true,List.all_eq_true]at hp;obtain⟨p1,p3⟩:=hp;obtain⟨W,rfl,hJ⟩:=ints_lift WL 24 p1 hr;obtain⟨x,hx,rfl⟩:=numk hD p3;have hq:N.vars.any vz=true→0<N.ord:=fun h=>by have:=hv h;omega
   have hL:W.length≤1000:=by simp at hF;omega
   have w6:∀z∈W,z.natAbs<256^64:=fun x hx=>Nl (hJ x hx) P8
   obtain⟨T,hT⟩:∃T:Tp,T=⟨V,sd,ti⟩:=⟨_,rfl⟩;have hM:T.Ok:=by rw[hT];exact⟨hn,hs,hE⟩
   have e1:V=T.vals:=by rw[hT]
   have e2:sd=T.seed:=by rw[hT]
   have e3:ti=T.pos:=by rw[hT]
   clear hT;subst e1 e2 e3;have hpr:=fun w' (hb:Bw w w')=>sprove_num attN N c k x W T v1 v2 v3 vw vt w' (hatt T.seed w' (by omega) (ht.after hb)) hM hc hk hm (hN.after hb) h0 (fun w2 hd=>hl w2 (bt hb hd)) (ZsAt.after hW hb) (SsAt.after hV hb) (Nl hx P8) hL w6 hq
   by_cases he:(N.prvR attN c k x W T).err=0
   ·obtain⟨o1,o2,o3⟩:=prvR_ok he;have ho:=compl_ver hm h0 o1 o2 o3;have f1:N.fstR (N.prvR attN c k x W T)=N.imgs (N.prvR attN c k x W T).msk:=if_pos he;have f2:N.rspO x W (N.prvR attN c k x W T)=N.rspL x W (N.prvR attN c k x W T).msk:=if_pos he;rw[f1,f2]at hpr;have l4:=hm.nv;have l5:=hm.ne;have n1:(N.imgs (N.prvR attN c k x W T).msk).length≤1000:=by simp only[NSta.imgs,List.length_map];omega
    have n2:(N.rspL x W (N.prvR attN c k x W T).msk).length≤1000:=by simp only[NSta.rspL,List.length_map,List.length_range];omega
    cases hi:ivsB OL
    ·obtain⟨m,hP,hh⟩:=holds_bad N.s OL v1 v2 v3 vo w hf hS (by omega) hw hO (fun ⟨N',Z,_,_,_,e,hz⟩=>by
      rw[e,sints_num Z (fun z hg=>Nl (hz z hg) P8)]at hi;cases hi)
     exact⟨_,_,_,false,m,hpr,hh,fun _ h2=>absurd h2 hP⟩
    ·obtain⟨O,rfl,hy⟩:=ints_lift OL 24 (by simpa [ivsB] using hi) hu;have hA:ZsAt w vo O:=hO;have hB:O.length≤1000:=by simp at hG;omega
     refine⟨_,_,_,N.hldB O,N.hldE O,hpr,fun w' hb=>holds_c N O v1 v2 v3 vo w' hm (hN.after hb) (ZsAt.after hA hb) (fun z hg=>Nl (hy z hg) P8) hB h0,fun _ _ hH=>⟨n1,n2,?_⟩⟩;exact agr_core N c k x _ _ O v1 v2 v3 vo w hc hk hx hm hN h0 c2 k2 hv (fun w' hb=>sBounds_c N c k v1 v2 v3 w' hm.nv (fun w2 hd=>hl w2 (bt hb hd))) ho n1 (imgs_lt hm h0 _ o2) n2 (rspL_lt hm hc hk o3) hA hB (fun z hg=>Nl (hy z hg) P8) hH ht
   ·refine⟨_,_,_,b0,m0,hpr,hj,fun h=>absurd h he⟩
theorem hd_walk (C K ch sd:ByteArray) (ti:Int) (s1 s2 s3 xw xl xt xo:Option Addr) (m1 m2 m3 d1 d2 d3 nw pw nl pl nt pt no po:Nat) (w:World) (bf bs:Bool)
  (HF:∀w',Bw w w'→Calls Tryz.prog 22 #[.agg #[.string C,.string K,.slice s1 m1 d1,.slice s2 m2 d2,.slice s3 m3 d3,.slice xw nw pw,.string ch,.slice xl nl pl,.slice xt nt pt,.string sd,.int .i64 ti]] w' fun e w''=>e=.returned (.bool bf)∧Bw w' w'')
  (HS:∀w',Bw w w'→Calls Tryz.prog 29 #[.slice xo no po] w' fun e w''=>e=.returned (.bool bs)∧Bw w' w'')
  (HV:bf=true→bs=true→∃(R:Drw) (F:List Nat) (Y:List Int) (b:Bool) (m:Nat),(∀w',Bw w w'→Calls Tryz.prog 18 #[.agg #[.string C,.string K],.agg #[.slice s1 m1 d1,.slice s2 m2 d2,.slice s3 m3 d3],.slice xw nw pw,.string ch,.agg #[.slice xt nt pt,.string sd,.int .i64 ti]] w' (PPost w' ch R F Y)) ∧
   (∀w',Bw w w'→Calls Tryz.prog 30 #[.agg #[.slice s1 m1 d1,.slice s2 m2 d2,.slice s3 m3 d3],.slice xo no po] w' fun e w''=>e=.returned (.tuple #[.bool b,.int .i64 (m:Nat)])∧Bw w' w'') ∧
   (R.err=0→m=0→b=true→F.length≤1000∧Y.length≤1000∧∃(M:List Int) (L:List Nat) (Tq:Tp),Tq.pos=(L.length:Int) ∧
    (∀(fv rv:Value) w',Bw w w'→SsAt w' fv (F.map E)→ZsAt w' rv Y→Calls Tryz.prog 31 #[.agg #[.string C,.string K],.agg #[.slice s1 m1 d1,.slice s2 m2 d2,.slice s3 m3 d3],.slice xo no po,.agg #[fv,.string ch,rv]] w' (EPost w' 0 M)) ∧
    (∀(mv:Value) w',Bw w w'→ZsAt w' mv M→Calls Tryz.prog 32 #[.agg #[.string C,.string K],.agg #[.slice s1 m1 d1,.slice s2 m2 d2,.slice s3 m3 d3],mv] w' (FPost w' 0 L)) ∧
    (∀(lv:Value) w',Bw w w'→SsAt w' lv (L.map E)→Calls Tryz.prog 18 #[.agg #[.string C,.string K],.agg #[.slice s1 m1 d1,.slice s2 m2 d2,.slice s3 m3 d3],.slice xo no po,.string ch,.agg #[lv,.string ⟨#[]⟩,.int .i64 0]] w' (PPost w' ch ⟨0,M,Tq⟩ F Y)))) :
  Calls Tryz.prog 6 #[.agg #[.string C,.string K,.slice s1 m1 d1,.slice s2 m2 d2,.slice s3 m3 d3,.slice xw nw pw,.string ch,.slice xl nl pl,.slice xt nt pt,.string sd,.int .i64 ti],.slice xo no po] w fun e w'=>e=.returned (.bool true)∧Bw w w':=by
 have hY:=Kh HF;have Ha:=Kh HV;have hZ:=Kh HS;obtain⟨hQ,he⟩:=blk1 w #[.string C,.string K,.slice s1 m1 d1,.slice s2 m2 d2,.slice s3 m3 d3,.slice xw nw pw,.string ch,.slice xl nl pl,.slice xt nt pt,.string sd,.int .i64 ti] 50;clear HF HV HS;cases bf
 ·skip
  obtain⟨hf,hg,hh,hi,hj,hl,hm,hn,ho,hp,hq,hr,ht,hu,hv,hw,hx,hy,hz,hA,hc,hd⟩:=hQ.x11;go_enter Tryz.func6,Tryz.ntmps6
  go_wp2_with fail
  refine (hY.out _ he).mono ?_;rintro e w2 ⟨rfl,hb⟩;clear hf hg hh hi hj hl hm hn ho hp hq hr ht hu hv hw hx hy hz hA hc hd;replace he:=bt he hb;clear hb;go_wp2_with fail
  refine (awake_c _).mono ?_;rintro e w9 ⟨rfl,hb9⟩;go_wp2;go_ret
  exact⟨rfl,bt he hb9⟩
 cases bs
 ·skip
  obtain⟨hf,hg,hh,hi,hj,hl,hm,hn,ho,hp,hq,hr,ht,hu,hv,hw,hx,hy,hz,hA,hc,hd⟩:=hQ.x11;go_enter Tryz.func6,Tryz.ntmps6
  go_wp2_with fail
  refine (hY.out _ he).mono ?_;rintro e w2 ⟨rfl,hb⟩;clear hf hg hh hi hj hl hm hn ho hp hq hr ht hu hv hw hx hy hz hA hc hd;replace he:=bt he hb;clear hb;go_wp2_with fail
  refine (hZ.out _ he).mono ?_;rintro e w3 ⟨rfl,hb⟩;replace he:=bt he hb;clear hb;go_wp2_with fail
  refine (awake_c _).mono ?_;rintro e w9 ⟨rfl,hb9⟩;go_wp2;go_ret
  exact⟨rfl,bt he hb9⟩
 obtain⟨R,F,Y,b,m,Hb,Hc,h0⟩:=Ha.out rfl rfl;obtain⟨k,LR,tD⟩:=R;simp only[]at h0;have Hd:=Kh Hb;have He:=Kh Hc;have Hf:=Kh h0;clear Hb Hc Ha h0;obtain⟨hf,hg,hh,hi,hj,hl,hm,hn,ho,hp,hq,hr,ht,hu,hv,hw,hx,hy,hz,hA,hc,hd⟩:=hQ.x11;go_enter Tryz.func6,Tryz.ntmps6
 go_wp2_with fail
 refine (hY.out _ he).mono ?_;rintro e w2 ⟨rfl,hb⟩;clear hf hg hh hi hj hl hm hn ho hp hq hr ht hu hv hw hx hy hz hA hc hd;replace hQ:=hQ.after hb;replace he:=bt he hb;clear hb;go_wp2_with fail
 refine (hZ.out _ he).mono ?_;rintro e w3 ⟨rfl,hb⟩;replace hQ:=hQ.after hb;replace he:=bt he hb;clear hb hZ;obtain⟨hf,hg,hh,hi,hj,hl,hm,hn,ho,hp,hq,hr,ht,hu,hv,hw,hx,hy,hz,hA,hc,hd⟩:=hQ.x11;go_wp2_with fail
 refine (Hd.out _ he).mono ?_;rintro e w4 ⟨fv,rv,u,cx,rfl,h1,h2,h3,h4,hb⟩;clear hf hg hh hi hj hl hm hn ho hp hq hr ht hu hv hw hx hy hz hA hc hd;simp only[]at h1 h4 ⊢;have Hp:=Kh h1;clear h1;obtain⟨fa1,fc1,rfl⟩:=RAt.form h2.ss;obtain⟨ya1,yc1,rfl⟩:=h3.zs.form;obtain⟨ua1,uc1,rfl⟩:=RAt.form h4;have hB:=h2.ss;have hy1:=h3.zs;simp only[List.length_map]at hB ⊢;clear h2 h3;replace hQ:=hQ.after hb;replace he:=bt he hb;clear hb;generalize tD.vals.length=tn;have hC:=blk2a w4 #[.slice fa1 F.length fc1,.string cx,.slice ya1 Y.length yc1] #[.slice ua1 tn uc1,.string tD.seed,.int .i64 tD.pos] 40 33;have hb:=b2 w4 (.cells #[.slice fa1 F.length fc1,.string cx,.slice ya1 Y.length yc1] 40) (.cells #[.slice ua1 tn uc1,.string tD.seed,.int .i64 tD.pos] 33);replace hB:=SsAt.after hB hb;replace hy1:=ZsAt.after hy1 hb;replace hQ:=hQ.after hb;replace he:=bt he hb;clear hb h4;obtain⟨hf,hg,hh,hi,hj,hl,hm,hn,ho,hp,hq,hr,ht,hu,hv,hw,hx,hy,hz,hA,hc,hd⟩:=hQ.x11;go_wp2_with fail
 refine (He.out _ he).mono ?_;rintro e w5 ⟨rfl,hb⟩;clear hf hg hh hi hj hl hm hn ho hp hq hr ht hu hv hw hx hy hz hA hc hd;replace hB:=SsAt.after hB hb;replace hy1:=ZsAt.after hy1 hb;replace hQ:=hQ.after hb;replace hC:=hC.after hb;replace he:=bt he hb;clear hb Hd He;by_cases hk:k=0
 rotate_left
 ·have Hq:((k:Int) != 0)=true:=by rw[bne_iff_ne];omega
  clear hk hC hB hy1 hQ;go_wp2_with fail
  refine (awake_c _).mono ?_;rintro e w9 ⟨rfl,hb9⟩;go_wp2;go_ret
  exact⟨rfl,bt he hb9⟩
 subst hk;by_cases hk:m=0
 rotate_left
 ·have Hq:((m:Int) != 0)=true:=by rw[bne_iff_ne];omega
  clear hk hC hB hy1 hQ;go_wp2_with fail
  refine (awake_c _).mono ?_;rintro e w9 ⟨rfl,hb9⟩;go_wp2;go_ret
  exact⟨rfl,bt he hb9⟩
 subst hk;cases b
 ·clear hC hB hy1 hQ;go_wp2_with fail
  refine (awake_c _).mono ?_;rintro e w9 ⟨rfl,hb9⟩;go_wp2;go_ret
  exact⟨rfl,bt he hb9⟩
 obtain rfl:cx=ch:=Hp.out;obtain⟨Hg,Hh,M,L,Tq,hK,g1,g2,g3⟩:=Hf.out rfl rfl rfl;have Hr:=Kh Hg;have Hs:=Kh Hh;have h5:=Kh hK;have Hi:=Kh (g1 _ _ w5 he hB hy1);have Hj:=Kh g2;have Hk:=Kh g3;clear Hg Hh hK g1 g2 g3 Hf;obtain⟨hf,hg,hh,hi,hj,hl,hm,hn,ho,hp,hq,hr,ht,hu,hv,hw,hx,hy,hz,hA,hc,hd⟩:=hQ.x11;obtain⟨hD,hE,hF,hG,hH,hI⟩:=hC.x3;go_wp2_with fail
 refine (Hi.out).mono ?_;rintro e w6 ⟨mv,rfl,Hl,hb⟩;clear hf hg hh hi hj hl hm hn ho hp hq hr ht hu hv hw hx hy hz hA hc hd;clear hD hE hF hG hH hI;have hM:=Hl.zs;clear Hl Hi;replace hB:=SsAt.after hB hb;replace hy1:=ZsAt.after hy1 hb;replace hQ:=hQ.after hb;replace hC:=hC.after hb;replace he:=bt he hb;clear hb;have hN:=Kh (Hj.out mv _ he hM);clear Hj hM;obtain⟨hf,hg,hh,hi,hj,hl,hm,hn,ho,hp,hq,hr,ht,hu,hv,hw,hx,hy,hz,hA,hc,hd⟩:=hQ.x11;go_wp2_with fail
 refine (hN.out).mono ?_;rintro e w7 ⟨lv,rfl,Hm,hb⟩;clear hf hg hh hi hj hl hm hn ho hp hq hr ht hu hv hw hx hy hz hA hc hd;have hL:=Hm.ss;clear Hm hN;replace hB:=SsAt.after hB hb;replace hy1:=ZsAt.after hy1 hb;replace hQ:=hQ.after hb;replace hC:=hC.after hb;replace he:=bt he hb;clear hb;have hJ:=Kh (Hk.out lv _ he hL);obtain⟨la,lc,rfl⟩:=RAt.form hL;simp only[List.length_map]at hL hJ ⊢;clear Hk;obtain⟨hf,hg,hh,hi,hj,hl,hm,hn,ho,hp,hq,hr,ht,hu,hv,hw,hx,hy,hz,hA,hc,hd⟩:=hQ.x11;go_wp2_with fail
 refine (hJ.out).mono ?_;rintro e w8 ⟨fv2,rv2,u2,cx2,rfl,hO,h6,h7,h8,hb⟩;clear hf hg hh hi hj hl hm hn ho hp hq hr ht hu hv hw hx hy hz hA hc hd;simp only[]at hO h8 ⊢;obtain rfl:cx2=cx:=hO;obtain⟨fa2,fc2,rfl⟩:=RAt.form h6.ss;obtain⟨ya2,yc2,rfl⟩:=h7.zs.form;obtain⟨ua2,uc2,rfl⟩:=RAt.form h8;have hP:=h6.ss;have hX:=h7.zs;simp only[List.length_map]at hP ⊢;replace hB:=SsAt.after hB hb;replace hy1:=ZsAt.after hy1 hb;replace hC:=hC.after hb;replace he:=bt he hb;clear hb h6 h7 h8 hQ hJ hL;generalize Tq.vals.length=un;rw[h5.out];have Hn:=blk2a w8 #[.slice fa2 F.length fc2,.string cx2,.slice ya2 Y.length yc2] #[.slice ua2 un uc2,.string Tq.seed,.int .i64 (L.length:Int)] 40 33;have hb:=b2 w8 (.cells #[.slice fa2 F.length fc2,.string cx2,.slice ya2 Y.length yc2] 40) (.cells #[.slice ua2 un uc2,.string Tq.seed,.int .i64 (L.length:Int)] 33);replace hB:=SsAt.after hB hb;replace hy1:=ZsAt.after hy1 hb;replace hP:=SsAt.after hP hb;replace hX:=ZsAt.after hX hb;replace hC:=hC.after hb;replace he:=bt he hb;clear hb;have Ho:=Kh (same17_c F Y cx2 _ _ _ _ _ Hr.out Hs.out hB hP hy1 hX);clear hB hP hy1 hX;have h9:=hC.lt;obtain⟨hD,hE,hF,hG,hH,hI⟩:=hC.x3;obtain⟨hR,hS,hT,hU,hV,hW⟩:=Hn.x3;go_wp2_with fail
 refine (Ho.out).mono ?_;rintro e w9 ⟨rfl,hb⟩;clear hD hE hF hG hH hI;clear hR hS hT hU hV hW;replace he:=bt he hb;clear hb hC Hn Ho h9;go_wp2_with fail
 refine (awake_c _).mono ?_;rintro e w10 ⟨rfl,hb9⟩;go_wp2;go_ret
 exact⟨rfl,bt he hb9⟩
end
end Go.Proofs.YtihjpddbjhcbmaaGreatDoor
