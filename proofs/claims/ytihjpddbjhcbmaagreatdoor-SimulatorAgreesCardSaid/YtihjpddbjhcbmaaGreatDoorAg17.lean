/- With the coins of the masks that explain a proof,a prover returns the very same proof. -/
import Derived.Test.YtihjpddbjhcbmaaGreatDoorAc17
import Derived.Test.YtihjpddbjhcbmaaGreatDoorHa17
set_option linter.unusedVariables false
set_option linter.unusedSimpArgs false
set_option maxRecDepth 100000
set_option maxHeartbeats 16000000
namespace Go.Proofs.YtihjpddbjhcbmaaGreatDoor
section
open Go.RowKit Go.Shelf
theorem getD_at {α:Type} (l:List α) (j:Nat) (d:α) (h:j<l.length):l.getD j d=l[j]:=by
 rw[List.getD_eq_getElem?_getD,List.getElem?_eq_getElem h,Option.getD_some]
theorem lim1_at {N:NSta} (hm:NOk N) {C K c:Nat} {F:List Nat} {Y W:List Int} (hC:C<256^16) (hK:K<256^16) (hq:N.vars.any vz=true→0<N.ord) (hv:N.ver C K F c Y=0) (hH:N.hldB W=true) :
  ∀z∈N.expL c Y W,z.natAbs<256^64:=by
 intro z hz;obtain⟨j,hj,rfl⟩:=List.mem_map.1 hz;have hb:=List.mem_range.1 hj;exact Nat.lt_trans (expl_mk hq hv hH j hb).1 (Nl (lims1_lt hm hC hK (Gm hb)) P8)
theorem coin_sz {N:NSta} (hm:NOk N) {C K c:Nat} {F:List Nat} {Y W:List Int} (hC:C<256^16) (hK:K<256^16) (hq:N.vars.any vz=true→0<N.ord) (hv:N.ver C K F c Y=0) (hH:N.hldB W=true) :
  ∀n∈N.coinL C K (N.expL c Y W),n<256^64:=by
 intro n hn;obtain⟨j,hj,rfl⟩:=List.mem_map.1 hn;have hb:=List.mem_range.1 hj;have h1:=(expl_mk hq hv hH j hb).1;have h2:=lims1_lt hm hC hK (Gm hb);unfold coinJ;rw[getD_at N.vars j 0 hb,expL_at N c Y W j hb];have h9:256^60*2≤256^64:=by decide
 generalize (256:Nat)^60=a at *;generalize (256:Nat)^64=b at *;unfold coinN;split <;> omega
theorem expl_blM {N:NSta} {C K c:Nat} {F:List Nat} {Y W:List Int} (hq:N.vars.any vz=true→0<N.ord) (hv:N.ver C K F c Y=0) (hH:N.hldB W=true):ra N.vars.length (blM N C K (N.expL c Y W))=true:=by
 refine ra_true fun j hj=>?_
 obtain⟨h1,h2⟩:=expl_mk hq hv hH j hj;unfold blM;rw[getD_at N.vars j 0 hj,expL_at N c Y W j hj];generalize expJ N c Y W j=z at *;unfold blw;rw[Dt h1,Bool.true_and];by_cases h0:N.vars[j]=0
 ·have h3:sg z=false:=by unfold sg;exact decide_eq_false (by have:=h2 h0;omega)
  rw[h3];simp
 ·have h3:vz N.vars[j]=false:=by unfold vz;rw[beq_eq_false_iff_ne];exact h0
  rw[h3];simp
theorem agr_core (N:NSta) (c k x:Nat) (F:List Nat) (Y W:List Int) (v1 v2 v3 vw:Value) (w:World) (hc:c<256^16) (hk:k<256^16) (hx:x<256^8) (hm:NOk N) (hN:NAt w v1 v2 v3 N) (h0:N.chk=0) (c2:2≤c) (k2:2≤k) (hv:N.vars.any vz=true→c≤N.ord)
  (h1:∀w',Bw w w'→Calls Tryz.prog 33 #[.agg #[.string (E c),.string (E k)],.agg #[v1,v2,v3]] w' (B2Post w' (N.lims c k)))
  (hd:N.ver c k F x Y=0) (hp:F.length≤1000) (hu:∀f∈F,f<256^128) (hw:Y.length≤1000) (hh:∀z∈Y,z.natAbs<256^64) (hW:ZsAt w vw W) (hi:W.length≤1000) (hj:∀z∈W,z.natAbs<256^60) (hH:N.hldB W=true) (ht:TabW w) :
  ∃(M:List Int) (L:List Nat) (Tq:Tp),Tq.pos=(L.length:Int) ∧
   (∀(fv rv:Value) w',Bw w w'→SsAt w' fv (F.map E)→ZsAt w' rv Y→Calls Tryz.prog 31 #[.agg #[.string (E c),.string (E k)],.agg #[v1,v2,v3],vw,.agg #[fv,.string (E x),rv]] w' (EPost w' 0 M)) ∧
   (∀(mv:Value) w',Bw w w'→ZsAt w' mv M→Calls Tryz.prog 32 #[.agg #[.string (E c),.string (E k)],.agg #[v1,v2,v3],mv] w' (FPost w' 0 L)) ∧
   (∀(lv:Value) w',Bw w w'→SsAt w' lv (L.map E)→Calls Tryz.prog 18 #[.agg #[.string (E c),.string (E k)],.agg #[v1,v2,v3],vw,.string (E x),.agg #[lv,.string ⟨#[]⟩,.int .i64 0]] w' (PPost w' (E x) ⟨0,M,Tq⟩ F Y)):=by
 obtain⟨_,yl,xc,yr⟩:=ver_inv hd;have hq:N.vars.any vz=true→0<N.ord:=fun h=>by have:=hv h;omega
 have hg:=ord_lt hm;have hC:=hm.nv;have hb_ok:=fun w' (hb:Bw w w')=>bounds_ok N c k v1 v2 v3 w' hc hk c2 k2 hv hm (hN.after hb) h0
 have ho:=fun (fv rv:Value) w' (hb:Bw w w') (hf:SsAt w' fv (F.map E)) (hr:ZsAt w' rv Y)=>verify_num N c k x F Y v1 v2 v3 fv rv w' hc hk hm (hN.after hb) h0 (fun w2 he=>hb_ok w2 (bt hb he)) hf hr hp hu (lt128' hx (by decide)) hw hh
 rw[hd]at ho;have e0:N.hldE W=0:=if_neg (fun h=>h (hld_inv hH).1);obtain⟨x1,x2⟩:=ex_c (c:=x) (Y:=Y) e0 hH;have hy:(N.expL x Y W).length=N.vars.length:=expL_len N x Y W;obtain⟨o1,o2⟩:=coi_d (C:=c) (K:=k) hy (expl_blM hq hd hH);obtain⟨p1,p2,p3⟩:=expl_prv attN hm h0 hc hk hq hd hH
 have hA:(N.expT c k x Y W).Ok:=by
  refine⟨?_,fun s hs=>?_,by show (0:Nat)≤100;omega⟩
  ·show ((N.coinL c k (N.expL x Y W)).map E).length≤100;simp[NSta.coinL];omega
  ·obtain⟨n,hn,rfl⟩:=List.mem_map.1 (show s∈(N.coinL c k (N.expL x Y W)).map E from hs);have:=(E_size_le n 64).2 (coin_sz hm hc hk hq hd hH n hn);omega
 refine⟨N.expL x Y W,N.coinL c k (N.expL x Y W),(N.expT c k x Y W).on N.vars.length,?_,fun fv rv w' hb hf hr=>?_,fun mv w' hb hz=>?_,fun lv w' hb hl=>?_⟩
 ·show (0:Int)+(N.vars.length:Int)=_;simp[NSta.coinL]
 ·have h:=sexp_num N c k x Y W v1 v2 v3 vw fv rv w' hc hk hm (hN.after hb) h0 (ZsAt.after hW hb) (fun z hz=>Nl (hj z hz) P8) hi hx hr yl hh (fun j h h2 hB=>by
   have a1:=ra_at yr h;rw[blJ_at N c k Y j h h2,hB,blw,lim,if_pos rfl]at a1;simp only[Bool.and_eq_true,decide_eq_true_eq]at a1;exact⟨by omega,Nat.lt_trans a1.1 hg⟩) (fun w2 he=>h1 w2 (bt hb he)) (fun w2 he=>ho fv rv w2 (bt hb he) (SsAt.after hf he) (ZsAt.after hr he))
  rwa [x1,x2]at h
 ·have h:=scoins_num N c k _ v1 v2 v3 mv w' hc hk hm (hN.after hb) hz (lim1_at hm hc hk hq hd hH) (by omega) (fun w2 he=>h1 w2 (bt hb he));rwa [o1,o2]at h
 ·have h:=sprove_num attN N c k x W (N.expT c k x Y W) v1 v2 v3 vw lv w' (hatt _ w' (by show (0:Nat)≤1000;omega) (ht.after hb)) hA hc hk hm (hN.after hb) h0 (fun w2 he=>hb_ok w2 (bt hb he)) (ZsAt.after hW hb) hl (Nl hx P8) hi (fun z hz=>Nl (hj z hz) P8) hq;rw[p2,p3,p1]at h;exact h
theorem sim_agr (S:Sta) (C K ch sd:ByteArray) (WL:List (Bool × ByteArray)) (V:List ByteArray) (ti:Int) (v1 v2 v3 vw vt:Value) (w:World) (hC:C.size≤16) (hK:K.size≤16) (hf:fewB S=true) (hS:StAt w v1 v2 v3 S)
  (hr:ch.size≤8) (hn:V.length≤100) (hs:∀x∈V,x.size≤100) (hu:sd.size≤100) (hV:SsAt w vt V) (hw:WL.length≤20) (hj:∀x∈WL,x.2.size≤24) (hW:IsAt w vw WL) (ht:TabW w) :
  ∃(R:Drw) (F:List Nat) (Y:List Int) (b:Bool) (m:Nat),(∀w',Bw w w'→Calls Tryz.prog 24 #[.agg #[.string C,.string K],.agg #[v1,v2,v3],.string ch,.agg #[vt,.string sd,.int .i64 ti]] w' (PPost w' ch R F Y)) ∧
   (∀w',Bw w w'→Calls Tryz.prog 30 #[.agg #[v1,v2,v3],vw] w' fun e w''=>e=.returned (.tuple #[.bool b,.int .i64 (m:Nat)])∧Bw w' w'') ∧
   (R.err=0→m=0→b=true→F.length≤1000∧Y.length≤1000∧∃(M:List Int) (L:List Nat) (Tq:Tp),Tq.pos=(L.length:Int) ∧
    (∀(fv rv:Value) w',Bw w w'→SsAt w' fv (F.map E)→ZsAt w' rv Y→Calls Tryz.prog 31 #[.agg #[.string C,.string K],.agg #[v1,v2,v3],vw,.agg #[fv,.string ch,rv]] w' (EPost w' 0 M)) ∧
    (∀(mv:Value) w',Bw w w'→ZsAt w' mv M→Calls Tryz.prog 32 #[.agg #[.string C,.string K],.agg #[v1,v2,v3],mv] w' (FPost w' 0 L)) ∧
    (∀(lv:Value) w',Bw w w'→SsAt w' lv (L.map E)→Calls Tryz.prog 18 #[.agg #[.string C,.string K],.agg #[v1,v2,v3],vw,.string ch,.agg #[lv,.string ⟨#[]⟩,.int .i64 0]] w' (PPost w' ch ⟨0,M,Tq⟩ F Y))):=by
 have ho:∀x∈WL,x.2.size≤60:=fun x hx=>by have:=hj x hx;omega
 obtain⟨k,hk,h⟩ | ⟨N,c,k,x,T,rfl,rfl,rfl,hc,hk,hx,hm,hN,h0,c2,k2,hv,h1,hy,he,h⟩:=sim_all S C K ch sd V ti v1 v2 v3 vt w hC hK hf hS (by omega) hn hs hu hV ht
 ·obtain⟨b,m,hh⟩:=holds_any S WL v1 v2 v3 vw w hf hS (by omega) ho hW;exact⟨⟨k,[],Tp.nil⟩,[],[],b,m,h,hh,fun h2=>absurd h2 hk⟩
 ·cases hi:ivsB WL
  ·obtain⟨m,hA,hh⟩:=holds_bad S WL v1 v2 v3 vw w hf hS (by omega) ho hW (fun ⟨N',Z,_,_,_,e,hz⟩=>by
    rw[e,sints_num Z (fun z hd=>Nl (hz z hd) P8)]at hi;cases hi)
   exact⟨_,_,_,false,m,h,hh,fun _ h2=>absurd h2 hA⟩
  ·obtain⟨W,rfl,hz⟩:=ints_lift WL 24 (by simpa [ivsB] using hi) hj;have hp:ZsAt w vw W:=hW;have hq:W.length≤1000:=by simp at hw;omega
   have hg:∀z∈W,z.natAbs<256^60:=fun z hd=>Nl (hz z hd) P8
   have ha:=(smp_inv he).2;have hl:(N.smpL attN c k T).length=N.vars.length:=by simp[NSta.smpL]
   have l4:=hm.nv;have l5:=hm.ne;refine⟨_,_,_,N.hldB W,N.hldE W,h,fun w' hb=>holds_c N W v1 v2 v3 vw w' hm (hN.after hb) (ZsAt.after hp hb) (fun z hd=>Nl (hz z hd) P8) hq h0,fun _ _ hH=>?_⟩;have f1:(N.msgs x (N.smpL attN c k T)).length≤1000:=by simp only[NSta.msgs,List.length_map];omega
   have f2:(N.smpL attN c k T).length≤1000:=by omega
   refine⟨f1,f2,?_⟩;exact agr_core N c k x _ _ W v1 v2 v3 vw w hc hk ((E_size_le x 8).1 hr) hm hN h0 c2 k2 hv h1 (sim_ver hm h0 hy hl (smp_bl ha)) f1 (msgs_lt hm h0 x _) f2 (smp_size hm hc hk ha) hp hq hg hH ht
theorem same17_c (F:List Nat) (Y:List Int) (ch:ByteArray) (u1 r1 u2 r2:Value) (w:World) (hf:F.length≤1000) (hy:Y.length≤1000) (h1:SsAt w u1 (F.map E)) (h2:SsAt w u2 (F.map E)) (h3:ZsAt w r1 Y) (h4:ZsAt w r2 Y) :
  Calls Tryz.prog 26 #[.agg #[u1,.string ch,r1],.agg #[u2,.string ch,r2]] w fun e w'=>e=.returned (.bool true)∧Bw w w':=by
 have HA:Hid (∀w',Bw w w'→Calls Tryz.prog 74 #[u1,u2] w' fun e w''=>e=.returned (.bool true)∧Bw w' w''):=fun w' hb=>eqNat_cV F F _ _ true w' hf hf (SsAt.after h1 hb) (SsAt.after h2 hb) (Dt rfl)
 have HB:Hid (∀w',Bw w w'→Calls Tryz.prog 75 #[r1,r2] w' fun e w''=>e=.returned (.bool true)∧Bw w' w''):=fun w' hb=>eqZ_c r1 r2 Y w' hy (ZsAt.after h3 hb) (ZsAt.after h4 hb)
 obtain⟨f1,g1,rfl⟩:=RAt.form h1;obtain⟨f2,g2,rfl⟩:=RAt.form h2;obtain⟨f3,g3,rfl⟩:=h3.form;obtain⟨f4,g4,rfl⟩:=h4.form;generalize (F.map E).length=n at HA;generalize Y.length=m at HB;have ht:(ch.toList==ch.toList)=true:=by simp
 clear h1 h2 h3 h4 hf hy;obtain⟨hX,hZ,hc⟩:=blk2 w #[.slice f1 n g1,.string ch,.slice f3 m g3] #[.slice f2 n g2,.string ch,.slice f4 m g4] 40 40;obtain⟨hd,he,hg,hh,hi,hj⟩:=hX.x3;obtain⟨hk,hl,hm,hn,ho,hp⟩:=hZ.x3;go_enter Tryz.func26,Tryz.ntmps26
 go_wp2_with fail
 refine (HA.out _ hc).mono ?_;rintro e w2 ⟨rfl,hq⟩;clear hd he hg hh hi hj;clear hk hl hm hn ho hp;replace hX:=hX.after hq;replace hZ:=hZ.after hq;replace hc:=bt hc hq;clear hq;obtain⟨hd,he,hg,hh,hi,hj⟩:=hX.x3;obtain⟨hk,hl,hm,hn,ho,hp⟩:=hZ.x3;go_wp2_with fail
 refine (HB.out _ hc).mono ?_;rintro e w3 ⟨rfl,hr⟩;go_wp2;go_ret
 exact⟨rfl,bt hc hr⟩
theorem ag_walk (C K ch sd:ByteArray) (ti:Int) (s1 s2 s3 xw xl xt:Option Addr) (m1 m2 m3 d1 d2 d3 nw pw nl pl nt pt:Nat) (w:World) (bf:Bool)
  (HF:∀w',Bw w w'→Calls Tryz.prog 22 #[.agg #[.string C,.string K,.slice s1 m1 d1,.slice s2 m2 d2,.slice s3 m3 d3,.slice xw nw pw,.string ch,.slice xl nl pl,.slice xt nt pt,.string sd,.int .i64 ti]] w' fun e w''=>e=.returned (.bool bf)∧Bw w' w'')
  (HV:bf=true→∃(R:Drw) (F:List Nat) (Y:List Int) (b:Bool) (m:Nat),(∀w',Bw w w'→Calls Tryz.prog 24 #[.agg #[.string C,.string K],.agg #[.slice s1 m1 d1,.slice s2 m2 d2,.slice s3 m3 d3],.string ch,.agg #[.slice xt nt pt,.string sd,.int .i64 ti]] w' (PPost w' ch R F Y)) ∧
   (∀w',Bw w w'→Calls Tryz.prog 30 #[.agg #[.slice s1 m1 d1,.slice s2 m2 d2,.slice s3 m3 d3],.slice xw nw pw] w' fun e w''=>e=.returned (.tuple #[.bool b,.int .i64 (m:Nat)])∧Bw w' w'') ∧
   (R.err=0→m=0→b=true→F.length≤1000∧Y.length≤1000∧∃(M:List Int) (L:List Nat) (Tq:Tp),Tq.pos=(L.length:Int) ∧
    (∀(fv rv:Value) w',Bw w w'→SsAt w' fv (F.map E)→ZsAt w' rv Y→Calls Tryz.prog 31 #[.agg #[.string C,.string K],.agg #[.slice s1 m1 d1,.slice s2 m2 d2,.slice s3 m3 d3],.slice xw nw pw,.agg #[fv,.string ch,rv]] w' (EPost w' 0 M)) ∧
    (∀(mv:Value) w',Bw w w'→ZsAt w' mv M→Calls Tryz.prog 32 #[.agg #[.string C,.string K],.agg #[.slice s1 m1 d1,.slice s2 m2 d2,.slice s3 m3 d3],mv] w' (FPost w' 0 L)) ∧
    (∀(lv:Value) w',Bw w w'→SsAt w' lv (L.map E)→Calls Tryz.prog 18 #[.agg #[.string C,.string K],.agg #[.slice s1 m1 d1,.slice s2 m2 d2,.slice s3 m3 d3],.slice xw nw pw,.string ch,.agg #[lv,.string ⟨#[]⟩,.int .i64 0]] w' (PPost w' ch ⟨0,M,Tq⟩ F Y)))) :
  Calls Tryz.prog 8 #[.agg #[.string C,.string K,.slice s1 m1 d1,.slice s2 m2 d2,.slice s3 m3 d3,.slice xw nw pw,.string ch,.slice xl nl pl,.slice xt nt pt,.string sd,.int .i64 ti]] w fun e w'=>e=.returned (.bool true)∧Bw w w':=by
 have h9:=Kh HF;have Ha:=Kh HV;obtain⟨hQ,he⟩:=blk1 w #[.string C,.string K,.slice s1 m1 d1,.slice s2 m2 d2,.slice s3 m3 d3,.slice xw nw pw,.string ch,.slice xl nl pl,.slice xt nt pt,.string sd,.int .i64 ti] 50;clear HF HV;cases bf
 ·skip
  obtain⟨hf,hg,hh,hi,hj,hl,hm,hn,ho,hp,hq,hr,ht,hu,hv,hw,hx,hy,hz,hA,hc,hd⟩:=hQ.x11;go_enter Tryz.func8,Tryz.ntmps8
  go_wp2_with fail
  refine (h9.out _ he).mono ?_;rintro e w2 ⟨rfl,hb⟩;clear hf hg hh hi hj hl hm hn ho hp hq hr ht hu hv hw hx hy hz hA hc hd;replace he:=bt he hb;clear hb;go_wp2_with fail
  refine (awake_c _).mono ?_;rintro e w9 ⟨rfl,hb9⟩;go_wp2;go_ret
  exact⟨rfl,bt he hb9⟩
 obtain⟨R,F,Y,b,m,Hb,Hc,hY⟩:=Ha.out rfl;obtain⟨k,LR,tD⟩:=R;simp only[]at hY;have Hd:=Kh Hb;have He:=Kh Hc;have Hf:=Kh hY;clear Hb Hc Ha hY;obtain⟨hf,hg,hh,hi,hj,hl,hm,hn,ho,hp,hq,hr,ht,hu,hv,hw,hx,hy,hz,hA,hc,hd⟩:=hQ.x11;go_enter Tryz.func8,Tryz.ntmps8
 go_wp2_with fail
 refine (h9.out _ he).mono ?_;rintro e w2 ⟨rfl,hb⟩;clear hf hg hh hi hj hl hm hn ho hp hq hr ht hu hv hw hx hy hz hA hc hd;replace hQ:=hQ.after hb;replace he:=bt he hb;clear hb;obtain⟨hf,hg,hh,hi,hj,hl,hm,hn,ho,hp,hq,hr,ht,hu,hv,hw,hx,hy,hz,hA,hc,hd⟩:=hQ.x11;go_wp2_with fail
 refine (Hd.out _ he).mono ?_;rintro e w4 ⟨fv,rv,u,cx,rfl,hZ,h0,h1,h2,hb⟩;clear hf hg hh hi hj hl hm hn ho hp hq hr ht hu hv hw hx hy hz hA hc hd;simp only[]at hZ h2 ⊢;have Hv:=Kh hZ;clear hZ;obtain⟨fa1,fc1,rfl⟩:=RAt.form h0.ss;obtain⟨ya1,yc1,rfl⟩:=h1.zs.form;obtain⟨ua1,uc1,rfl⟩:=RAt.form h2;have hB:=h0.ss;have hy1:=h1.zs;simp only[List.length_map]at hB ⊢;clear h0 h1;replace hQ:=hQ.after hb;replace he:=bt he hb;clear hb;generalize tD.vals.length=tn;have hC:=blk2a w4 #[.slice fa1 F.length fc1,.string cx,.slice ya1 Y.length yc1] #[.slice ua1 tn uc1,.string tD.seed,.int .i64 tD.pos] 40 33;have hb:=b2 w4 (.cells #[.slice fa1 F.length fc1,.string cx,.slice ya1 Y.length yc1] 40) (.cells #[.slice ua1 tn uc1,.string tD.seed,.int .i64 tD.pos] 33);replace hB:=SsAt.after hB hb;replace hy1:=ZsAt.after hy1 hb;replace hQ:=hQ.after hb;replace he:=bt he hb;clear hb h2;obtain⟨hf,hg,hh,hi,hj,hl,hm,hn,ho,hp,hq,hr,ht,hu,hv,hw,hx,hy,hz,hA,hc,hd⟩:=hQ.x11;go_wp2_with fail
 refine (He.out _ he).mono ?_;rintro e w5 ⟨rfl,hb⟩;clear hf hg hh hi hj hl hm hn ho hp hq hr ht hu hv hw hx hy hz hA hc hd;replace hB:=SsAt.after hB hb;replace hy1:=ZsAt.after hy1 hb;replace hQ:=hQ.after hb;replace hC:=hC.after hb;replace he:=bt he hb;clear hb Hd He;by_cases hk:k=0
 rotate_left
 ·have Hw:((k:Int) != 0)=true:=by rw[bne_iff_ne];omega
  clear hk hC hB hy1 hQ;go_wp2_with fail
  refine (awake_c _).mono ?_;rintro e w9 ⟨rfl,hb9⟩;go_wp2;go_ret
  exact⟨rfl,bt he hb9⟩
 subst hk;by_cases hk:m=0
 rotate_left
 ·have Hw:((m:Int) != 0)=true:=by rw[bne_iff_ne];omega
  clear hk hC hB hy1 hQ;go_wp2_with fail
  refine (awake_c _).mono ?_;rintro e w9 ⟨rfl,hb9⟩;go_wp2;go_ret
  exact⟨rfl,bt he hb9⟩
 subst hk;cases b
 ·clear hC hB hy1 hQ;go_wp2_with fail
  refine (awake_c _).mono ?_;rintro e w9 ⟨rfl,hb9⟩;go_wp2;go_ret
  exact⟨rfl,bt he hb9⟩
 obtain rfl:cx=ch:=Hv.out;obtain⟨Hg,Hh,M,L,Tq,hK,g1,g2,g3⟩:=Hf.out rfl rfl rfl;have Hx:=Kh Hg;have Hy:=Kh Hh;have h3:=Kh hK;have Hi:=Kh (g1 _ _ w5 he hB hy1);have Hj:=Kh g2;have Hk:=Kh g3;clear Hg Hh hK g1 g2 g3 Hf;obtain⟨hf,hg,hh,hi,hj,hl,hm,hn,ho,hp,hq,hr,ht,hu,hv,hw,hx,hy,hz,hA,hc,hd⟩:=hQ.x11;obtain⟨hD,hE,hF,hG,hH,hI⟩:=hC.x3;go_wp2_with fail
 refine (Hi.out).mono ?_;rintro e w6 ⟨mv,rfl,Hl,hb⟩;clear hf hg hh hi hj hl hm hn ho hp hq hr ht hu hv hw hx hy hz hA hc hd;clear hD hE hF hG hH hI;have hM:=Hl.zs;clear Hl Hi;replace hB:=SsAt.after hB hb;replace hy1:=ZsAt.after hy1 hb;replace hQ:=hQ.after hb;replace hC:=hC.after hb;replace he:=bt he hb;clear hb;have hN:=Kh (Hj.out mv _ he hM);clear Hj hM;obtain⟨hf,hg,hh,hi,hj,hl,hm,hn,ho,hp,hq,hr,ht,hu,hv,hw,hx,hy,hz,hA,hc,hd⟩:=hQ.x11;go_wp2_with fail
 refine (hN.out).mono ?_;rintro e w7 ⟨lv,rfl,Hm,hb⟩;clear hf hg hh hi hj hl hm hn ho hp hq hr ht hu hv hw hx hy hz hA hc hd;have hL:=Hm.ss;clear Hm hN;replace hB:=SsAt.after hB hb;replace hy1:=ZsAt.after hy1 hb;replace hQ:=hQ.after hb;replace hC:=hC.after hb;replace he:=bt he hb;clear hb;have hJ:=Kh (Hk.out lv _ he hL);obtain⟨la,lc,rfl⟩:=RAt.form hL;simp only[List.length_map]at hL hJ ⊢;clear Hk;obtain⟨hf,hg,hh,hi,hj,hl,hm,hn,ho,hp,hq,hr,ht,hu,hv,hw,hx,hy,hz,hA,hc,hd⟩:=hQ.x11;go_wp2_with fail
 refine (hJ.out).mono ?_;rintro e w8 ⟨fv2,rv2,u2,cx2,rfl,hO,h4,h5,h6,hb⟩;clear hf hg hh hi hj hl hm hn ho hp hq hr ht hu hv hw hx hy hz hA hc hd;simp only[]at hO h6 ⊢;obtain rfl:cx2=cx:=hO;obtain⟨fa2,fc2,rfl⟩:=RAt.form h4.ss;obtain⟨ya2,yc2,rfl⟩:=h5.zs.form;obtain⟨ua2,uc2,rfl⟩:=RAt.form h6;have hP:=h4.ss;have hX:=h5.zs;simp only[List.length_map]at hP ⊢;replace hB:=SsAt.after hB hb;replace hy1:=ZsAt.after hy1 hb;replace hC:=hC.after hb;replace he:=bt he hb;clear hb h4 h5 h6 hQ hJ hL;generalize Tq.vals.length=un;rw[h3.out];obtain⟨Hn,h7,hb⟩:=blk2 w8 #[.slice fa2 F.length fc2,.string cx2,.slice ya2 Y.length yc2] #[.slice ua2 un uc2,.string Tq.seed,.int .i64 (L.length:Int)] 40 33;replace hB:=SsAt.after hB hb;replace hy1:=ZsAt.after hy1 hb;replace hP:=SsAt.after hP hb;replace hX:=ZsAt.after hX hb;replace hC:=hC.after hb;replace he:=bt he hb;clear hb;have Ho:=Kh (same17_c F Y cx2 _ _ _ _ _ Hx.out Hy.out hB hP hy1 hX);clear hB hP hy1 hX;have h8:=hC.lt;obtain⟨hD,hE,hF,hG,hH,hI⟩:=hC.x3;obtain⟨hR,hS,hT,hU,hV,hW⟩:=Hn.x3;go_wp2_with fail
 refine (Ho.out).mono ?_;rintro e w9 ⟨rfl,hb⟩;clear hD hE hF hG hH hI;clear hR hS hT hU hV hW;replace h7:=h7.after hb;replace he:=bt he hb;clear hb hC Hn Ho h8;have Hz:((L.length:Int)==(L.length:Int))=true:=by simp
 obtain⟨Hp,Hq,Hr,Hs,Ht,Hu⟩:=h7.x3;go_wp2_with fail
 refine (awake_c _).mono ?_;rintro e w10 ⟨rfl,hb9⟩;go_wp2;go_ret
 exact⟨rfl,bt he hb9⟩
end
end Go.Proofs.YtihjpddbjhcbmaaGreatDoor
