/- SimulatorSimulates: both sides return one proof and one tape,or one error;the law's walk. -/
import Derived.Test.YtihjpddbjhcbmaaGreatDoorAc17
import Derived.Test.YtihjpddbjhcbmaaGreatDoorAtr
set_option linter.unusedVariables false
set_option linter.unusedSimpArgs false
set_option maxRecDepth 100000
set_option maxHeartbeats 16000000
namespace Go.Proofs.YtihjpddbjhcbmaaGreatDoor
section
open Go.RowKit Go.Shelf
theorem fix17_c (b:Bool) (n:Nat) (z:Int) (w:World) (hm:(E n).size≤4611686018427387904) (hz:z=if b then -(n:Int) else (n:Int)) :
  Calls Tryz.prog 269 #[.bool b,.string (E n)] w fun e w'=>e=.returned (.agg #[.bool (sg (z)),.string (E (z).natAbs)])∧Bw w w':=by
 have H:=made_val b n;rw[←hz]at H;have HM:=Kh H;clear H hz;cases b
 all_goals
  go_enter Tryz.func269,Tryz.ntmps269
  go_wp2;refine bodyPost_ret (v:=.agg #[.bool (sg (z)),.string (E (z).natAbs)]) (by rw[←HM.out];simp[results,Tryz.results269,go_sem]) rfl ⟨rfl,b1 _ _⟩
theorem neg17_c (z:Int) (w:World) (hz:z.natAbs<256^128) :
  Calls Tryz.prog 199 #[.agg #[.bool (sg (z)),.string (E (z).natAbs)]] w fun e w'=>e=.returned (.agg #[.bool (sg (-z)),.string (E (-z).natAbs)])∧Bw w w':=by
 have hs:=szI z hz;clear hz;have hA:=blk2a w #[Value.bool (sg z),Value.string (E z.natAbs)] #[Value.bool false,Value.string { data:=#[] }] 74 74;have hB:=blk2b w #[Value.bool (sg z),Value.string (E z.natAbs)] #[Value.bool false,Value.string { data:=#[] }] 74 74;have HM:=Kh (neg_made z);obtain⟨he,hf,hg,hh⟩:=hA.x2;go_enter Tryz.func199,Tryz.ntmps199
 go_wp2_with fail
 refine (fix17_c (!sg z) z.natAbs (-z) _ (by omega) HM.out).mono ?_;rintro e w2 ⟨rfl,hd⟩;replace hB:=hB.after hd;obtain⟨hb,hi,hc,hj⟩:=hB.x2;go_wp2;refine bodyPost_ret (v:=.agg #[.bool (sg (-z)),.string (E (-z).natAbs)]) ?_ rfl ⟨rfl,?_⟩
 ·simp[results,Tryz.results199,go_sem,hb,hc]
 ·exact ((bt (b2 _ _ _) hd).setCell (by simp) _).setCell (by simp) _
theorem neg17S_c (z:Int) (w:World) (hz:z.natAbs<256^128) :
  Calls Tryz.prog 199 #[.agg #[.bool (sg (z)),.string (E (z).natAbs)]] w fun e w'=>e=.returned (.agg #[.bool (sg (-z)),.string (E z.natAbs)])∧Bw w w':=by
 have:=neg17_c z w hz;rwa [Int.natAbs_neg]at this
theorem times17_c (x y:Int) (w:World) (hx:x.natAbs<256^128) (hy:y.natAbs<256^128) :
  Calls Tryz.prog 200 #[.agg #[.bool (sg (x)),.string (E (x).natAbs)],.agg #[.bool (sg (y)),.string (E (y).natAbs)]] w fun e w'=>e=.returned (.agg #[.bool (sg (x*y)),.string (E (x*y).natAbs)])∧Bw w w':=by
 have HT:Hid (∀w,Calls Tryz.prog 186 #[.string (E x.natAbs),.string (E y.natAbs)] w fun e w'=>e=.returned (.string (E (x.natAbs*y.natAbs)))∧Bw w w'):=fun w=>rtimes_c _ _ w (by have:=sz _ hx;omega) (by have:=sz _ hy;omega)
 have hr:(E (x.natAbs*y.natAbs)).size≤256:=(E_size_le _ 256).2 (by have:=Nat.mul_lt_mul'' hx hy;rwa [←Nat.pow_add]at this);have HF:Hid (∀w,Calls Tryz.prog 269 #[.bool (sg x != sg y),.string (E (x.natAbs*y.natAbs))] w fun e w'=>e=.returned (.agg #[.bool (sg (x*y)),.string (E (x*y).natAbs)])∧Bw w w'):=fun w=>fix17_c (sg x != sg y) (x.natAbs*y.natAbs) (x*y) w (by omega) (mul_made x y)
 generalize x.natAbs*y.natAbs=n at HT HF;generalize hz:x*y=z at HF ⊢;clear hx hy hr hz;obtain⟨hA,hB,hC,ht⟩:=blk3 w #[Value.bool (sg x),Value.string (E x.natAbs)] #[Value.bool (sg y),Value.string (E y.natAbs)] #[Value.bool false,Value.string { data:=#[] }] 74 74 74;go_enter Tryz.func200,Tryz.ntmps200
 have hv:=hA.lt;have hw:=hB.lt;obtain⟨hd,he,hf,hg⟩:=hA.x2;obtain⟨hh,hi,hj,hk⟩:=hB.x2;have hl:=hA.gcell 0;have hm:=hA.gcell 1;have hn:=hB.gcell 0;have ho:=hB.gcell 1;go_wp2_with fail
 refine wp_region_gw_tail 11 (by kernel_rfl) (by kernel_rfl) ?_;simp only[List.take_succ_cons,List.take_zero,List.drop_succ_cons,List.drop_zero];repeat (go_big_quiet_step (first | (go_at_call 186;exact gw_of (HT.out _)) | (go_at_call 269;exact gw_of (HF.out _))))
 refine wpQuiet_nil ?_;rintro w9 ⟨xw9,rfl⟩;have hb9:=gw_below xw9;generalize gw xw9=w9 at hb9;clear hd he hf hg;clear hh hi hj hk;clear hl hm;clear hn ho;have hu:=hC.after hb9;obtain⟨hb,hp,hc,hq⟩:=hu.x2;go_wp2;refine bodyPost_ret (v:=.agg #[.bool (sg (z)),.string (E (z).natAbs)]) ?_ rfl ⟨rfl,?_⟩
 ·simp[results,Tryz.results200,go_sem,hb,hc]
 ·exact ((bt ht hb9).setCell (by simp;omega) _).setCell (by simp;omega) _
end
section
open Go.RowKit Go.Shelf
structure FRel (w1:World) (k:Nat) (L:List Nat) (Z:List Int) (v6 v7:Value) (wr:World):Prop where
 a:NOwn wr w1.heap.size v6 L
 z:ZOwn wr w1.heap.size v7 Z
 la:L.length=k
 lz:Z.length=k
 b:Bw w1 wr
theorem FRel.after {w1:World} {k:Nat} {L:List Nat} {Z:List Int} {v6 v7:Value} {wr wx:World} (h:FRel w1 k L Z v6 v7 wr) (hb:Bw wr wx):FRel w1 k L Z v6 v7 wx:=
 ⟨own_after h.a hb,own_after h.z hb,h.la,h.lz,bt h.b hb⟩
theorem msgB_step (q:NEqn) (k:Nat) (h:k<q.trms.length):(msgB q).take (k+1+1)=(msgB q).take (k+1)++[(q.trms[k]).base]:=by
 unfold msgB;rw[List.take_succ_cons,List.take_succ_cons,imgB_step q k h];rfl
theorem msgX_step (c:Nat) (Z:List Int) (q:NEqn) (k:Nat) (h:k<q.trms.length):(msgX c Z q).take (k+1+1)=(msgX c Z q).take (k+1)++[(q.trms[k]).coef*Z.getD (q.trms[k]).var 0]:=by
 unfold msgX;rw[List.take_succ_cons,List.take_succ_cons,imgX_step Z q k h];rfl
theorem rfirst17_c (N:NSta) (c:Nat) (Z:List Int) (v1 v2 v3 v4:Value) (w:World) (hm:NOk N) (hS:NAt w v1 v2 v3 N) (hZ:ZsAt w v4 Z) (hz:∀z∈Z,z.natAbs<256^64) (hl:Z.length=N.vars.length) (hc:N.chk=0) (Hx:c<256^128) :
  Calls Tryz.prog 105 #[.agg #[v1,v2,v3],.string (E c),v4] w fun e w'=>∃v,e=.returned v∧NOwn w' w.heap.size v (N.msgs c Z)∧Bw w w':=by
 obtain⟨i0,jk,hX,hY,h0⟩:=info_parts info_nat;obtain⟨i1,jl,h1,h2,h3⟩:=info_parts info_Int;have jm:=Kh jk;have jn:=Kh hX;have jo:=Kh hY;have jp:=Kh h0;have jP:=Kh jl;have jQ:=Kh h1;have jR:=Kh h2;have jS:=Kh h3;clear jk hX hY h0 jl h1 h2 h3;obtain⟨a4,c4,rfl⟩:=hZ.form;have jq:=Kh hz;have HL:=Kh hl;have jT:=Kh hc;have jU:=Kh Hx;obtain⟨sn,Hy⟩:∃s,s=sg (-(c:Int)):=⟨_,rfl⟩
 have jV:Hid (∀w,Calls Tryz.prog 199 #[.agg #[.bool false,.string (E c)]] w fun e w'=>e=.returned (.agg #[.bool sn,.string (E c)])∧Bw w w'):=fun w=>by
  have h:=neg17S_c (c:Int) w (by rw[Int.natAbs_natCast];exact Hx);rw[Int.natAbs_natCast,sg_nat]at h;rw[Hy];exact h
 have jW:=Kh Hy;rw[hl]at hZ ⊢;clear hz hl hc Hx Hy;obtain⟨a1,c1,a2,c2,a3,c3,rfl,rfl,rfl⟩:=hS.forms;obtain⟨n1,Hp⟩:∃n,n=N.grps.length:=⟨_,rfl⟩;obtain⟨n2,Hq⟩:∃n,n=N.vars.length:=⟨_,rfl⟩;obtain⟨n3,Hr⟩:∃n,n=N.eqs.length:=⟨_,rfl⟩;have jX:=Kh Hp;have jr:=Kh Hq;have js:=Kh Hr;have l1:n1≤10:=by rw[Hp];exact hm.ng
 have l2:n2≤12:=by rw[Hq];exact hm.nv
 have l3:n3≤12:=by rw[Hr];exact hm.ne
 have HM:=Kh hm;rw[←Hp,←Hq,←Hr]at hS ⊢;clear hm Hp Hq Hr;rw[←jr.out]at hZ;obtain⟨hP,Hs⟩:=blk1 w #[.slice a1 n1 c1,.slice a2 n2 c2,.slice a3 n3 c3] 29;replace hS:=hS.after Hs;replace hZ:=hZ.after (b1 w (.cells #[.slice a1 n1 c1,.slice a2 n2 c2,.slice a3 n3 c3] 29));obtain⟨Hz,HA,HB,HC,HD,HE⟩:=hP.x3;go_enter Tryz.func105,Tryz.ntmps105
 go_wp2;clear Hz HA HB HC HD HE;generalize w.alloc (.cells #[.slice a1 n1 c1,.slice a2 n2 c2,.slice a3 n3 c3] 29)=w1 at hP Hs hS hZ;replace hP:Blk w1 w.heap.size 29 [.slice a1 n1 c1,.slice a2 n2 c2,.slice a3 n3 c3]:=hP;go_loopw [7,8] (fun v7 i wr=>∃k:Nat,k≤n3∧i=.int .i64 k∧NOwn wr w1.heap.size v7 ((N.msgs c Z).take k)∧Bw w1 wr) (fun _ i _=>n3-(intOf i).toNat)
 case atStart=>exact⟨0,by omega,rfl,World.ownsRow_nil _ _ _ _,Br⟩
 case round =>
  obtain⟨k,hk,rfl,hO,hN⟩:=hrel;obtain⟨wp,jY⟩:∃wp,wp=wr:=⟨_,rfl⟩;subst jY;have HF:=hS.after hN;have h4:=hP.after hN;have jt:=hZ.after hN;have HG:=bt Hs hN;have jZ:=h4.lt;by_cases hlt:k<n3
  ·have hR:k<N.eqs.length:=by rw[←js.out];exact hlt
   have hT:=Kh (HM.out.e _ (Gm hR));have h5:=Kh (chk_elem jT.out k hR hT.out.1);have ju:=Kh (msgX_lt HM.out c Z jU.out jq.out _ (Gm hR));have jv:=Kh (msgs_step N c Z k hR);obtain⟨b,o,tv,rfl,hU,x1,x2,x3,h6⟩:=HF.eat hR;generalize (N.eqs[k]'hR)=q at x1 x2 x3 h6 hT h5 ju jv;have ht:=hT.out.1;have j0:q.grp<n1:=by rw[jX.out];exact ht
   have jw:=Kh (gp_at N q ht);have HH:=Kh (HM.out.g _ (Gm ht));have jx:Hid (msgQ N c Z q=pw (prs (N.grps[q.grp]'ht).1 (msgB q) (msgX c Z q)) 0%(N.grps[q.grp]'ht).1):=by rw[Hid,msgQ,jw.out]
   obtain⟨bg,og_,rfl,Ht,y1,y2⟩:=HF.gat ht;generalize (N.grps[q.grp]'ht)=gg at y1 y2 HH h5 jx;clear ht jw;obtain⟨p,qq⟩:=gg;simp only[]at y1 y2;obtain⟨to_,tc,rfl⟩:=h6.form;obtain⟨n4,HI⟩:∃n,n=q.trms.length:=⟨_,rfl⟩;have Hu:=Kh HI;rw[←HI]at x3 h6;clear HI;obtain⟨qg,jy⟩:∃g,g=q.grp:=⟨_,rfl⟩;obtain⟨qt,HJ⟩:∃g,g=q.tgt:=⟨_,rfl⟩;rw[←jy]at x1 y1 y2 j0;have j1:=Kh HJ;rw[←HJ]at x2;clear jy HJ;have l4:n4≤12:=by rw[Hu.out];exact hT.out.2.2.1
   have Jh:(0:Int)≤(k:Int):=by omega
   have Ji:(k:Int)<(n3:Int):=by omega
   have Jj:(0:Int)≤(qg:Int):=by omega
   have Jk:(qg:Int)<(n1:Int):=by omega
   obtain⟨hQ,hr⟩:=blk1 wp #[.int .i64 (qg:Int),.string (E qt),.slice to_ n4 tc] 131;obtain⟨hu,hv,hw,hy,hA,hB⟩:=h4.x3;go_upto_region 6 with fail
   clear hu hv hw hy hA hB;have HK:=h4.after hr;have HN:=h6.after hr;have HO:=jt.after hr;have HP:=own_after hO hr;have hE:=bt hN hr;have z1:=(hr.cell (p:=⟨bg,og_+qg*2,none⟩) Ht).trans y1;have z2:=(hr.cell (p:=⟨bg,og_+qg*2+1,none⟩) Ht).trans y2;have he:=Nl Ht hr.size;clear HF h4 jt hO hN h6 y1 y2 x1 x2 x3 hU Ht jZ;generalize wp.alloc (.cells #[.int .i64 (qg:Int),.string (E qt),.slice to_ n4 tc] 131)=wi at hQ hr HK HN HO HP hE z1 z2 he ⊢;obtain⟨g8,jz⟩:∃g,wp.heap.size=g:=⟨_,rfl⟩;rw[jz]at hQ ⊢;replace hQ:Blk wi g8 131 [.int .i64 (qg:Int),.string (E qt),.slice to_ n4 tc]:=hQ;clear jz hr;have jA:=World.ownsRow_lit (base:=wi.heap.size) (e:=22) (size:=1) wi #[.string (E qt)] 1 (Nat.le_refl _) (by decide) rfl;have jB:=b1 wi (.cells #[.string (E qt)] 22);have HQ:=hQ.lt;obtain⟨HR,HS,HT,HU,HV,HW⟩:=hQ.x3;go_wp2_with fail
   refine (jV.out _).mono ?_;rintro e wn ⟨rfl,HX⟩;clear HR HS HT HU HV HW;have HY:=bt jB HX;have jC:=own_after jA HX;have HZ:=own_after jC (b1 wn (.cells #[.bool sn,.string (E c)] 74));have H0:=World.ownsRow_lit (base:=wi.heap.size) (e:=74) (size:=2) wn #[.bool sn,.string (E c)] 1 HY.size (by decide) rfl;have jD:=ba HY (.cells #[.bool sn,.string (E c)] 74)
   have h7:Hid ((#[.bool sn,.string (E c)]:Array Value).toList=ics ((((msgX c Z q).take 1)).map zI)):=by
    rw[Hid,jW.out];simp[msgX,ics,zI]
   have h8:Hid ([Value.string (E qt)]=strs ((msgB q).take 1)):=by
    rw[Hid,j1.out];simp[msgB,strs]
   rw[h7.out]at H0;rw[h8.out]at HZ
   have Ha:FRel wi 1 ((msgB q).take 1) ((msgX c Z q).take 1) (.slice (some ⟨wi.heap.size,0,none⟩) 1 1) (.slice (some ⟨wn.heap.size,0,none⟩) 1 1) (wn.alloc (.cells #[.bool sn,.string (E c)] 74)):=
    ⟨by rw[NOwn,show ((msgB q).take 1).length=1 by simp[msgB]];exact HZ,by rw[ZOwn,show ((msgX c Z q).take 1).length=1 by simp[msgX]];exact H0,by simp[msgB],by simp[msgX],jD⟩
   clear jA jC HZ H0 jB HX HY jD h8 h7 HQ;go_wp2;go_loopw [10,11,12] (fun v10 v11 i wr=>∃k:Nat,k≤n4∧i=.int .i64 k∧FRel wi (k+1) ((msgB q).take (k+1)) ((msgX c Z q).take (k+1)) v10 v11 wr) (fun _ _ i _=>n4-(intOf i).toNat)
   case atStart=>exact⟨0,by omega,rfl,Ha⟩
   case round =>
    clear Ha;obtain⟨j,hj,rfl,hI⟩:=hrel;obtain⟨wq,j2⟩:∃wq,wq=wr:=⟨_,rfl⟩;subst j2;have hF:=hQ.after hI.b;have Jl:=hF.lt;by_cases H1:j<n4
    ·have Hb:j<q.trms.length:=by rw[←Hu.out];exact H1
     have hG:=Kh (hT.out.2.2.2 _ (Gm Hb));have H2:=Kh (msgB_step q j Hb);have H3:=Kh (msgX_step c Z q j Hb);obtain⟨b,o,rfl,hf,x1,x2,x3,x4⟩:=HN.at_ Hb;replace x1:=(hI.b.cell (p:=⟨b,o+j*4,none⟩) hf).trans x1;replace x2:=(hI.b.cell (p:=⟨b,o+j*4+1,none⟩) hf).trans x2;replace x3:=(hI.b.cell (p:=⟨b,o+j*4+2,none⟩) hf).trans x3;replace x4:=(hI.b.cell (p:=⟨b,o+j*4+3,none⟩) hf).trans x4;have hU:=Nl hf hI.b.size;generalize (q.trms[j]'Hb)=t at x1 x2 x3 x4 hG H2 H3;obtain⟨tb,tvv,tz⟩:=t;simp only[]at x1 x2 x3 x4;have hV:tvv<Z.length:=by rw[HL.out];exact hG.out.2.1
     have Jm:tvv<n2:=by rw[jr.out];exact hG.out.2.1
     obtain⟨b',o',rfl,hH,y1,y2⟩:=HO.at_ hV;replace y1:=(hI.b.cell (p:=⟨b',o'+tvv*2,none⟩) hH).trans y1;replace y2:=(hI.b.cell (p:=⟨b',o'+tvv*2+1,none⟩) hH).trans y2;have hJ:=Nl hH hI.b.size;have jE:=Kh (jq.out _ (Gm hV));have jF:Hid (Z.getD tvv 0=Z[tvv]'hV):=by rw[Hid,List.getD_eq_getElem?_getD,List.getElem?_eq_getElem hV];rfl
     generalize (Z[tvv]'hV)=zz at y1 y2 jE jF;clear hV;have jG:=Kh hG.out.2.2;have H4:=Kh hG.out.1;simp only[]at jG H4
     have Hc:Hid (∀w:World,Calls Tryz.prog 200 #[.agg #[.bool (sg (tz)),.string (E (tz).natAbs)],.agg #[.bool (sg (zz)),.string (E (zz).natAbs)]] w fun e w'=>e=.returned (.agg #[.bool (sg (tz*zz)),.string (E (tz*zz).natAbs)])∧Bw w w'):=fun w =>
      times17_c tz zz w (Nl jG.out (Nat.pow_le_pow_right (show 0<256 by decide) (by decide))) (lt64 jE.out)
     obtain⟨pz,H5⟩:∃p,p=tz*zz:=⟨_,rfl⟩;have j3:=Kh H5;rw[←H5]at Hc;clear H5;have Jn:(0:Int)≤(j:Int):=by omega
     have Jo:(j:Int)<(n4:Int):=by omega
     have Jp:(0:Int)≤(tvv:Int):=by omega
     have Jq:(tvv:Int)<(n2:Int):=by omega
     have hK:wq.ownsRow wi.heap.size 22 1 u10 (j+1) (strs ((msgB q).take (j+1))):=by have h:wq.ownsRow _ _ _ _ _ _:=hI.a;rw[hI.la]at h;exact h
     have Hv:wq.ownsRow wi.heap.size 74 2 u11 (j+1) (ics (((msgX c Z q).take (j+1)).map zI)):=by have h:wq.ownsRow _ _ _ _ _ _:=hI.z;rw[hI.lz]at h;exact h
     have jH:=hI.b;have Jr:=jH.size;have H6:=Kh hI.la;have H7:=Kh hI.lz;clear hI;generalize (msgB q).take (j+1)=LB at hK H2 H6;generalize (msgX c Z q).take (j+1)=LX at Hv H3 H7;obtain⟨hh,hi,hn,ho,hp,hq⟩:=hF.x3;go_wp2_with (at_builtin;refine wpList_append_lies _ rfl (.tmp 41) (.tmp 48) _ rfl wi.heap.size 22 i0 _ 1 16 Tryz.underlying31 jm.out jn.out jo.out jp.out rfl (by omega) u10 (j+1) (strs LB) rfl (own_after hK (b1 _ (.cells #[.string (E tb)] 22))) ⟨wq.heap.size,0,none⟩ 1 1 [.string (E tb)] rfl rfl (Blk.new wq #[.string (E tb)] 22).cells (by simp[Value.oneCell']) (by omega) (by simp only[maxLen];omega) (by omega) (by rw[World.size_alloc];omega) (wq.heap.size+1) (by simp) ?_;intro ga ca wa Hd hb H8 H9;clear H8 H9)
     clear hh hi hn ho hp hq;have hW:=b1 wq (.cells #[.string (E tb)] 22);have He:=own_after hK hW;have ja:wa.ownsRow wi.heap.size 74 2 u11 (j+1) (ics (LX.map zI)):=own_grown (own_after Hv hW) He (by decide) hb;have jb:=(hF.after hW).grown hb (own_ne hK hF (by decide));have jI:Bw wi wa:=Below.grown (Below.alloc jH (by omega) _) hb (by simp;omega) (fun g hg=>(own_lt hK hg).2);have j4:=hQ.lt
     have jc:∀x∈([(⟨g8,2,none⟩,.slice (some ⟨b,o,none⟩) n4 tc),(⟨b,o+j*4+1,none⟩,.int .i64 (tvv:Int)),(⟨b,o+j*4+2,none⟩,.bool (sg tz)),(⟨b,o+j*4+3,none⟩,.string (E tz.natAbs)),(⟨b',o'+tvv*2,none⟩,.bool (sg zz)),(⟨b',o'+tvv*2+1,none⟩,.string (E zz.natAbs))]:List (Addr × Value)),u11.ownBlock≠some x.1.block:=by
      intro x hx e;have h9:=(own_lt Hv e).2;simp only[List.mem_cons,List.not_mem_nil,or_false]at hx;rcases hx with rfl | rfl | rfl | rfl | rfl | rfl
      all_goals first | (simp only[]at h9;omega)
     clear j4
     have j5:∀x∈([(⟨b,o+j*4+1,none⟩,.int .i64 (tvv:Int)),(⟨b,o+j*4+2,none⟩,.bool (sg tz)),(⟨b,o+j*4+3,none⟩,.string (E tz.natAbs)),(⟨b',o'+tvv*2,none⟩,.bool (sg zz)),(⟨b',o'+tvv*2+1,none⟩,.string (E zz.natAbs))]:List (Addr × Value)),u10.ownBlock≠some x.1.block:=by
      intro x hx e;have h9:=(own_lt hK e).2;simp only[List.mem_cons,List.not_mem_nil,or_false]at hx;rcases hx with rfl | rfl | rfl | rfl | rfl
      all_goals first | (simp only[]at h9;omega)
     have hC:CA wa [(⟨g8,2,none⟩,.slice (some ⟨b,o,none⟩) n4 tc),(⟨b,o+j*4+1,none⟩,.int .i64 (tvv:Int)),(⟨b,o+j*4+2,none⟩,.bool (sg tz)),(⟨b,o+j*4+3,none⟩,.string (E tz.natAbs)),(⟨b',o'+tvv*2,none⟩,.bool (sg zz)),(⟨b',o'+tvv*2+1,none⟩,.string (E zz.natAbs))]:=
      CA.cons jb.lt (jb.cell 2) (CA.grown (CA.alloc (CA.cons hU x2 (CA.cons hU x3 (CA.cons hU x4 (CA.cons hJ y1 (CA.cons hJ y2 (CA.nil _)))))) _) hb j5)
     clear x1 x2 x3 x4 y1 y2 hK Hv He hW hb hU hJ hF;have j6:=jb.lt;have Js:=jI.size;go_upto_region 12 with fail
     go_region_held3 (fun w'=>w'.cell? ⟨g8,2,none⟩=some (.slice (some ⟨b,o,none⟩) n4 tc)∧w'.cell? ⟨b,o+j*4+1,none⟩=some (.int .i64 (tvv:Int))∧w'.cell? ⟨b,o+j*4+2,none⟩=some (.bool (sg tz))∧w'.cell? ⟨b,o+j*4+3,none⟩=some (.string (E tz.natAbs))∧w'.cell? ⟨b',o'+tvv*2,none⟩=some (.bool (sg zz))∧w'.cell? ⟨b',o'+tvv*2+1,none⟩=some (.string (E zz.natAbs))) ((refine CA.k6 ?_;repeat (first | (with_reducible exact j7) | (with_reducible exact jJ) | (with_reducible exact hC) | (with_reducible refine CA.drew ?_) | (with_reducible refine CA.alloc ?_ _))))
      (first | (go_at_call 200;(with_reducible refine (Hc.out _).mono ?_);rintro e wf ⟨rfl,jK⟩;have Hw:Bw wa wf:=(by first | exact jK | exact (Below.drew Br).trans jK);have jJ:=hC.after Hw;have hL:=own_after ja Hw;have j8:=own_after Hd Hw;have jL:=bt jI Hw;have Jt:=jL.size) | (refine step_append_lies _ (by rfl) (.tmp 50) (.tmp 67) _ (by rfl) wi.heap.size 74 i1 _ 2 24 Tryz.underlying30 jP.out jQ.out jR.out jS.out rfl (by omega) u11 (j+1) (ics (LX.map zI)) (by rfl) (own_after hL (b1 _ (.cells #[.bool (sg pz),.string (E pz.natAbs)] 74))) ⟨wf.heap.size,0,none⟩ 1 1 [.bool (sg pz),.string (E pz.natAbs)] (by rfl) rfl (Blk.new wf #[.bool (sg pz),.string (E pz.natAbs)] 74).cells (by simp[Value.oneCell']) (by omega) (by simp only[maxLen];omega) (by omega) (by rw[World.size_alloc];omega) (wf.heap.size+1) (by simp) ?_;intro gb cb wb Hf hd jd je;clear jd je;have j7:=CA.grown (CA.alloc jJ (.cells #[.bool (sg pz),.string (E pz.natAbs)] 74)) hd jc;have j9:wb.ownsRow wi.heap.size 22 1 (.slice (some ⟨ga,0,none⟩) (j+1+1) ca) (j+1+1) (strs LB++[.string (E tb)]):=own_grown (own_after j8 (b1 _ (.cells #[.bool (sg pz),.string (E pz.natAbs)] 74))) (own_after hL (b1 _ (.cells #[.bool (sg pz),.string (E pz.natAbs)] 74))) (by decide) hd;have Ja:Bw wi wb:=Below.grown (Below.alloc jL (by omega) _) hd (by simp;omega) (fun g hg=>(own_lt hL hg).2)))
     all_goals
      have Ha:FRel wi (j+1+1) (LB++[tb]) (LX++[pz]) (.slice (some ⟨ga,0,none⟩) (j+1+1) ca) (.slice (some ⟨gb,0,none⟩) (j+1+1) cb) wb:=by
       refine⟨?_,?_,by simp[H6.out],by simp[H7.out],Ja⟩
       ·rw[NOwn,List.length_append,H6.out,←strs_app];exact j9
       ·rw[ZOwn,List.length_append,H7.out,←ics_app];exact Hf
      rw[←H2.out,j3.out,←jF.out,←H3.out]at Ha;go_wp2;go_roundw
      case rel=>exact⟨j+1,by omega,by go_num,Ha⟩
      case measure=>simp[intOf];omega
    ·have H4:Hid ((msgB q).take (j+1)=msgB q):=List.take_of_length_le (by have:=Hu.out;simp[msgB,imgB];omega);have Jb:Hid ((msgX c Z q).take (j+1)=msgX c Z q):=List.take_of_length_le (by have:=Hu.out;simp[msgX,imgX];omega);rw[H4.out,Jb.out]at hI;have jf:=HK.after hI.b;have jM:=own_after HP hI.b;have Hg:=bt hE hI.b;have t1:=(hI.b.cell (p:=⟨bg,og_+qg*2,none⟩) he).trans z1;have t2:=(hI.b.cell (p:=⟨bg,og_+qg*2+1,none⟩) he).trans z2;have Jc:=Nl he hI.b.size;have Jd:=jf.lt
     have jN:Hid (Calls Tryz.prog 169 #[.agg #[.string (E p),.string (E qq)],u10,u11] wq fun e w'=>e=.returned (.tuple #[.string (E (msgQ N c Z q)),.int .i64 0])∧Bw wq w'):=by
      rw[jx.out];exact rproduct_c p qq (msgB q) (msgX c Z q) u10 u11 wq HH.out.1 (lt128 HH.out.2) h5.out.1 (msg_len c Z q).symm (by have:=hT.out.2.2.1;simp[msgB,imgB];omega) (fun x hx=>(List.mem_cons.1 hx).elim (fun h=>h ▸ h5.out.2.1) (fun h=>h5.out.2.2 x h)) ju.out hI.a.ss hI.z.zs
     clear hI HK HP hE z1 z2 he HN HO;obtain⟨Hh,Hi,Hj,Hk,Hl,Hm⟩:=jf.x3;obtain⟨hh,hi,hn,ho,hp,hq⟩:=hF.x3;go_wp2_with fail
     refine jN.out.mono ?_;rintro e w3 ⟨rfl,jg⟩;clear Hh Hi Hj Hk Hl Hm;clear hh hi hn ho hp hq;have Hn:=own_after jM jg;have hM:=bt Hg jg;have jh:Hid (((N.msgs c Z).take k).length=k):=by rw[Hid,List.length_take,NSta.msgs,List.length_map];omega
     rw[jh.out]at Hn;clear jN jg jM Hg jf hF hQ;have Je:=hM.size;have ji:=Kh jv.out;generalize msgQ N c Z q=iv at ji ⊢;generalize (N.msgs c Z).take k=LI at Hn ji jh;go_wp2_with (at_builtin;refine wpList_append_lies _ rfl (.tmp 81) (.tmp 83) _ rfl w1.heap.size 22 i0 _ 1 16 Tryz.underlying31 jm.out jn.out jo.out jp.out rfl (by omega) u7 k (strs LI) rfl (own_after Hn (b1 _ (.cells #[.string (E iv)] 22))) ⟨w3.heap.size,0,none⟩ 1 1 [.string (E iv)] rfl rfl (Blk.new w3 #[.string (E iv)] 22).cells (by simp[Value.oneCell']) (by omega) (by simp only[maxLen];omega) (by omega) (by rw[World.size_alloc];omega) (w3.heap.size+1) (by simp) ?_;intro ga ca wa Ho hD Jf jj)
     have jO:NOwn wa w1.heap.size (.slice (some ⟨ga,0,none⟩) (k+1) ca) (LI++[iv]):=by rw[NOwn,List.length_append,jh.out,←strs_app];exact Ho
     rw[←ji.out]at jO;have hW:=(ba hM (.cells #[.string (E iv)] 22)).grown hD (by rw[World.size_alloc];omega) (fun x hx=>(own_lt Hn hx).2);clear Ho hD Jf jj Hn hM;go_wp2;go_roundw
     case rel=>exact⟨k+1,by omega,by go_num,jO,hW⟩
     case measure=>simp[intOf];omega
  ·have hG:Hid ((N.msgs c Z).take k=N.msgs c Z):=List.take_of_length_le (by rw[NSta.msgs,List.length_map,←js.out];omega);rw[hG.out]at hO;have Jg:=Hs.size;obtain⟨hu,hv,hw,hy,hA,hB⟩:=h4.x3;go_wp2;go_ret
   exact⟨_,rfl,own_mono hO Jg,HG⟩
end
section
/- ref17.Simulate: the same proof and tape,or the same error. -/
open Go.RowKit Go.Shelf
theorem rssim_err (C K ch sd:ByteArray) (v1 v2 v3 vt:Value) (ti:Int) (k:Nat) (w:World) (hk:k≠0)
  (hx:∀w',Bw w w'→Calls Tryz.prog 84 #[.agg #[.string C,.string K],.agg #[v1,v2,v3]] w' fun e w''=>e=.returned (.tuple #[.slice none 0 0,.slice none 0 0,.int .i64 k])∧Bw w' w'') :
  Calls Tryz.prog 25 #[.agg #[.string C,.string K],.agg #[v1,v2,v3],.string ch,.agg #[vt,.string sd,.int .i64 ti]] w (PPost w ch ⟨k,[],Tp.nil⟩ [] []):=by
 have hy:=Kh hx;have HK:=Kh hk;have hK:((k:Int) != 0)=true:=by rw[bne_iff_ne];omega
 obtain⟨hR,hP,hT,hF,hQ,hc⟩:=blk5 w #[.string C,.string K] #[v1,v2,v3] #[vt,.string sd,.int .i64 ti] #[.slice none 0 0,.string ⟨#[]⟩,.slice none 0 0] #[.slice none 0 0,.string ⟨#[]⟩,.int .i64 0] 24 29 33 40 33;have hd:Hid (w.heap.size≤w.heap.size+1+1+1):=by rw[Hid];omega
 have he:Hid (w.heap.size≤w.heap.size+1+1+1+1):=by rw[Hid];omega
 have hz:¬ w.heap.size+1+1+1=w.heap.size+1+1+1+1:=by omega
 have hA:¬ w.heap.size+1+1+1+1=w.heap.size+1+1+1:=by omega
 clear hx hk;obtain⟨hf,hg,hh,hi⟩:=hR.x2;obtain⟨hj,hl,hm,hn,ho,hp⟩:=hP.x3;go_enter Tryz.func25,Tryz.ntmps25
 go_wp2_with fail
 refine (hy.out _ hc).mono ?_;rintro e w2 ⟨rfl,hb⟩;clear hf hg hh hi;clear hj hl hm hn ho hp;clear hR hP hT;go_upto_region 3 with fail
 replace hF:=hF.after hb;replace hQ:=hQ.after hb;replace hc:=bt hc hb;clear hb;have hB:=hF.lt;have hC:=hQ.lt;obtain⟨hq,hD,hr,hE,ht,hG⟩:=hF.x3;obtain⟨hu,hH,hv,hI,hw,hJ⟩:=hQ.x3;go_wp2;(try rw[Exit.noGoto_ret])
 refine bodyPost_ret (v:=.tuple #[.agg #[.slice none 0 0,.string ⟨#[]⟩,.slice none 0 0],.agg #[.slice none 0 0,.string ⟨#[]⟩,.int .i64 0],.int .i64 (k:Int)]) ?_ rfl ?_
 ·simp[results,Tryz.results25,go_sem,hq,hr,ht,hu,hv,hw,hB,hC,hz,hA]
 ·exact ppost_err HK.out rfl rfl (((((((hc.setCell hd.out _).setCell hd.out _).setCell hd.out _).setCell he.out _).setCell he.out _).setCell he.out _))
theorem rssim_form (C K ch:ByteArray) (T:Tp) (L:List (Nat × Nat)) (v1 v2 v3 vt:Value) (w:World) (hY:ch.size≤1000) (hM:T.Ok) (hV:SsAt w vt T.vals) (hb:(vldB ch&&T.good)=false)
  (hN:∀w',Bw w w'→Calls Tryz.prog 84 #[.agg #[.string C,.string K],.agg #[v1,v2,v3]] w' (B2Post w' L)) :
  Calls Tryz.prog 25 #[.agg #[.string C,.string K],.agg #[v1,v2,v3],.string ch,.agg #[vt,.string T.seed,.int .i64 T.pos]] w (PPost w ch ⟨3,[],Tp.nil⟩ [] []):=by
 have hZ:=Kh hN;have hO:Hid (∀w,Calls Tryz.prog 86 #[.string ch] w fun e w'=>e=.returned (.bool (vldB ch))∧w=w'):=fun w=>rvalid_c ch w (by omega)
 have hl:Hid (∀w',Bw w w'→Calls Tryz.prog 102 #[.agg #[vt,.string T.seed,.int .i64 T.pos]] w' fun e w''=>e=.returned (.bool T.good)∧Bw w' w''):=fun w' hb=>rgood_v T vt w' hM (SsAt.after hV hb)
 generalize T.good=tg at hb hl;generalize vldB ch=b3 at hb hO;have HB:=Kh hb;obtain⟨a5,c5,rfl⟩:=RAt.form hV;generalize T.vals.length=nt at hl ⊢;obtain⟨hR,hP,hT,hF,hQ,hc⟩:=blk5 w #[.string C,.string K] #[v1,v2,v3] #[.slice a5 nt c5,.string T.seed,.int .i64 T.pos] #[.slice none 0 0,.string ⟨#[]⟩,.slice none 0 0] #[.slice none 0 0,.string ⟨#[]⟩,.int .i64 0] 24 29 33 40 33;have hj:Hid (w.heap.size≤w.heap.size+1+1+1):=by rw[Hid];omega
 have hk:Hid (w.heap.size≤w.heap.size+1+1+1+1):=by rw[Hid];omega
 have hS:¬ w.heap.size+1+1+1=w.heap.size+1+1+1+1:=by omega
 have hU:¬ w.heap.size+1+1+1+1=w.heap.size+1+1+1:=by omega
 clear hN hY hM hV hb;obtain⟨hm,hn,ho,hp⟩:=hR.x2;obtain⟨hq,hr,ht,hu,hv,hw⟩:=hP.x3;go_enter Tryz.func25,Tryz.ntmps25
 go_wp2_with fail
 refine (hZ.out _ hc).mono ?_;rintro e w2 ⟨mv,uv,rfl,h0,hW,hb⟩;clear hm hn ho hp;clear hq hr ht hu hv hw;have hX:=hW.ss;clear h0 hW hR hP;obtain⟨a6,c6,rfl⟩:=RAt.form hX;clear hX;generalize ((L.map (·.2)).map E).length=n6;go_upto_region 4 with fail
 replace hF:=hF.after hb;replace hQ:=hQ.after hb;replace hT:=hT.after hb;replace hc:=bt hc hb;clear hb;go_wp2_with fail
 refine (hO.out _).mono ?_;rintro e w' ⟨rfl,rfl⟩;cases b3
 ·clear hT;have hx:=hF.lt;have hy:=hQ.lt;obtain⟨hd,hz,he,hA,hf,hB⟩:=hF.x3;obtain⟨hg,hC,hh,hD,hi,hE⟩:=hQ.x3;go_wp2;(try rw[Exit.noGoto_ret])
  refine bodyPost_ret (v:=.tuple #[.agg #[.slice none 0 0,.string ⟨#[]⟩,.slice none 0 0],.agg #[.slice none 0 0,.string ⟨#[]⟩,.int .i64 0],.int .i64 3]) ?_ rfl ?_
  ·simp[results,Tryz.results25,go_sem,hd,he,hf,hg,hh,hi,hx,hy,hS,hU]
  ·exact ppost_err (by decide) rfl rfl (((((((hc.setCell hj.out _).setCell hj.out _).setCell hj.out _).setCell hk.out _).setCell hk.out _).setCell hk.out _))
 ·have h1:Hid (tg=false):=HB.out;rw[h1.out]at hl;obtain⟨hG,hH,hI,hJ,hK,hL⟩:=hT.x3;go_wp2_with fail
  refine (hl.out _ hc).mono ?_;rintro e w4 ⟨rfl,hb4⟩;clear hG hH hI hJ hK hL;replace hF:=hF.after hb4;replace hQ:=hQ.after hb4;replace hc:=bt hc hb4;clear hb4 hT;have hx:=hF.lt;have hy:=hQ.lt;obtain⟨hd,hz,he,hA,hf,hB⟩:=hF.x3;obtain⟨hg,hC,hh,hD,hi,hE⟩:=hQ.x3;go_wp2;(try rw[Exit.noGoto_ret])
  refine bodyPost_ret (v:=.tuple #[.agg #[.slice none 0 0,.string ⟨#[]⟩,.slice none 0 0],.agg #[.slice none 0 0,.string ⟨#[]⟩,.int .i64 0],.int .i64 3]) ?_ rfl ?_
  ·simp[results,Tryz.results25,go_sem,hd,he,hf,hg,hh,hi,hx,hy,hS,hU]
  ·exact ppost_err (by decide) rfl rfl (((((((hc.setCell hj.out _).setCell hj.out _).setCell hj.out _).setCell hk.out _).setCell hk.out _).setCell hk.out _))
theorem rssim_num (att:Att) (N:NSta) (C K c:Nat) (T:Tp) (v1 v2 v3 vt:Value) (w:World) (HG:RAtt att T.seed) (Je:T.Ok) (hg:T.good=true) (hC:C<256^16) (hK:K<256^16) (hm:NOk N) (hS:NAt w v1 v2 v3 N) (h0:N.chk=0) (hV:SsAt w vt T.vals) (hc:c<256^100)
  (J0:∀w',Bw w w'→Calls Tryz.prog 84 #[.agg #[.string (E C),.string (E K)],.agg #[v1,v2,v3]] w' (B2Post w' (N.lims C K))) :
  Calls Tryz.prog 25 #[.agg #[.string (E C),.string (E K)],.agg #[v1,v2,v3],.string (E c),.agg #[vt,.string T.seed,.int .i64 T.pos]] w (PPost w (E c) (N.simR att C K c T) (N.simF c (N.simR att C K c T)) (N.simR att C K c T).msk):=by
 have jy:=Kh J0;have Ht:c<256^128:=Nl hc P8;have J1:Hid (∀w,Calls Tryz.prog 86 #[.string (E c)] w fun e w'=>e=.returned (.bool true)∧w=w'):=fun w=>rvalidE_c c w Ht
 have Jf:Hid (∀w',Bw w w'→Calls Tryz.prog 102 #[.agg #[vt,.string T.seed,.int .i64 T.pos]] w' fun e w''=>e=.returned (.bool true)∧Bw w' w''):=fun w' hb=>by
  have h:=rgood_v T vt w' Je (SsAt.after hV hb);rwa [hg]at h
 have Jg:Hid (∀w,Calls Tryz.prog 87 #[.string (E c),.string (E C)] w fun e w'=>e=.returned (.int .i64 (cmpN c C))∧Bw w w'):=fun w=>rorder_c c C w (by have:=sz _ Ht;omega) (by have:=sz _ (lt128' hC (by decide));omega)
 have kr:Hid (∀(Ti:Tp) (u:Value) (m:Nat) w',Ti.Ok→Ti.seed=T.seed→m<256^60→SsAt w' u Ti.vals→Calls Tryz.prog 104 #[.agg #[u,.string Ti.seed,.int .i64 Ti.pos],.string (E m)] w' (CPost w' Ti (coin att Ti m))):=fun Ti u m w' ho he Jh hu=>rbelow_v att Ti u m w' (by rw[he];exact HG) ho (Nl Jh P8) hu
 have ks:Hid (∀(Ti:Tp) (u:Value) (m:Nat) w',Ti.Ok→Ti.seed=T.seed→m<256^60→SsAt w' u Ti.vals→Calls Tryz.prog 103 #[.agg #[u,.string Ti.seed,.int .i64 Ti.pos],.string (E m)] w' (SCPost w' Ti (csgn att Ti m))):=fun Ti u m w' ho he Jh hu=>rsigned_v att Ti u m w' (by rw[he];exact HG) ho Jh hu
 have kt:=Kh (fun b hb=>lims2_lt hm hC hK (b:=b) hb);have kw:=Kh Je
 have jq:Hid ((N.smpR att C K T).err=0→∀(vz:Value) w',Bw w w'→ZsAt w' vz (N.smpR att C K T).msk→Calls Tryz.prog 105 #[.agg #[v1,v2,v3],.string (E c),vz] w' fun e w''=>∃v,e=.returned v∧NOwn w'' w'.heap.size v (N.msgs c (N.smpR att C K T).msk)∧Bw w' w''):=fun he vz w' hb hz=>by
  obtain⟨e1,ha⟩:=smp_inv he;have hl:(N.smpL att C K T).length=N.vars.length:=by simp[NSta.smpL]
  rw[e1]at hz ⊢;exact rfirst17_c N c _ v1 v2 v3 vz w' hm (hS.after hb) hz (smp_size hm hC hK ha) hl h0 Ht
 have Ji:Hid (C≤c→N.simR att C K c T=⟨2,[],Tp.nil⟩):=fun h=>by unfold NSta.simR;rw[if_pos h]
 have jX:Hid (¬ C≤c→N.simR att C K c T=N.smpR att C K T):=fun h=>by unfold NSta.simR;rw[if_neg h]
 generalize N.simR att C K c T=R0 at Ji jX ⊢;obtain⟨RS,hrs⟩:∃r,r=N.smpR att C K T:=⟨_,rfl⟩;have J2:=Kh hrs;rw[←hrs]at jq jX;clear hrs;obtain⟨a5,c5,rfl⟩:=RAt.form hV;obtain⟨nt,J3⟩:∃n,n=T.vals.length:=⟨_,rfl⟩;rw[←J3]at Jf hV ⊢;obtain⟨i1,J4,jz,jA,jB⟩:=info_parts info_Int;have J5:=Kh J4;have J6:=Kh jz;have J7:=Kh jA;have J8:=Kh jB;clear J4 jz jA jB;obtain⟨a1,c1,a2,c2,a3,c3,rfl,rfl,rfl⟩:=hS.forms;obtain⟨n2,jC⟩:∃n,n=N.vars.length:=⟨_,rfl⟩;have J9:Hid ((((N.lims C K).map (·.2)).map E).length=n2):=by rw[Hid,List.length_map,List.length_map,NSta.lims,List.length_map,jC]
 have jY:=Kh jC;have l2:n2≤12:=by rw[jC];exact hm.nv
 have jD:Hid (Hid (NAt w (.slice a1 N.grps.length c1) (.slice a2 N.vars.length c2) (.slice a3 N.eqs.length c3) N)):=hS;rw[←jC]at jy jq jD ⊢;generalize N.grps.length=n1 at jy jq jD ⊢;generalize N.eqs.length=n3 at jy jq jD ⊢;obtain⟨q1,HH⟩:∃q:Int,q=cmpN c C:=⟨_,rfl⟩;rw[←HH]at Jg;have Jj:=Kh HH;obtain⟨hR,hP,hT,hF,hQ,hq⟩:=blk5 w #[.string (E C),.string (E K)] #[.slice a1 n1 c1,.slice a2 n2 c2,.slice a3 n3 c3] #[.slice a5 nt c5,.string T.seed,.int .i64 T.pos] #[.slice none 0 0,.string ⟨#[]⟩,.slice none 0 0] #[.slice none 0 0,.string ⟨#[]⟩,.int .i64 0] 24 29 33 40 33;obtain⟨gS,ka⟩:∃g,w.heap.size+1=g:=⟨_,rfl⟩;obtain⟨gT,kb⟩:∃g,w.heap.size+1+1=g:=⟨_,rfl⟩;obtain⟨gF,kc⟩:∃g,w.heap.size+1+1+1=g:=⟨_,rfl⟩;obtain⟨gQ,kd⟩:∃g,w.heap.size+1+1+1+1=g:=⟨_,rfl⟩;have Jk:=Kh ka;have jZ:=Kh kb;have j0:=Kh kc;have j1:=Kh kd;have hf:Hid (w.heap.size≤gT∧w.heap.size≤gF∧w.heap.size≤gQ∧gS≠gT∧gF≠gT∧gQ≠gT∧gF≠gQ):=by rw[Hid];omega
 have kx:Hid (FarS (.slice a5 nt c5) gT∧FarS (.slice a5 nt c5) gF∧FarS (.slice a5 nt c5) gQ):=⟨ss_far hV (by omega),ss_far hV (by omega),ss_far hV (by omega)⟩;have Jl:NAt w (.slice a1 n1 c1) (.slice a2 n2 c2) (.slice a3 n3 c3) N:=jD.out.out;clear ka kb kc kd HH jC hS J0 HG Je hg hC hK hm h0 hc Ht jD J3;obtain⟨HI,HJ,HK,HL⟩:=hR.x2;obtain⟨hJ,hL,hM,hN,hW,hX⟩:=hP.x3;go_enter Tryz.func25,Tryz.ntmps25
 go_wp2_with fail
 refine (jy.out _ hq).mono ?_;rintro e w2 ⟨mv,uv,rfl,HM,Jm,HN⟩;clear HI HJ HK HL;clear hJ hL hM hN hW hX;have hh:=Jm.ss
 have Hu:∀g,g≤w.heap.size+1+1+1+1→FarS uv g:=fun g hg b o n c e hn hb=>by
  have h1:=(own_lt Jm (g:=b) (by rw[e];rfl)).2;have h2:=hQ.lt;omega
 have HO:Hid (FarS uv gT∧FarS uv gF∧FarS uv gQ):=⟨Hu _ (by have:=jZ.out;omega),Hu _ (by have:=j0.out;omega),Hu _ (by have:=j1.out;omega)⟩;clear HM Jm Hu;obtain⟨a6,c6,rfl⟩:=RAt.form hh;rw[J9.out]at hh HO ⊢;replace hR:=hR.after HN;replace hP:=hP.after HN;replace hT:=hT.after HN;replace hF:=hF.after HN;replace hQ:=hQ.after HN;replace hq:=bt hq HN;clear HN jy;rw[j1.out]at hQ;rw[j0.out]at hF;rw[jZ.out]at hT;rw[Jk.out]at hP;rw[j1.out,j0.out,jZ.out,Jk.out];clear Jk jZ j0 j1;replace hR:Blk w2 w.heap.size 24 [.string (E C),.string (E K)]:=hR;replace hP:Blk w2 gS 29 [.slice a1 n1 c1,.slice a2 n2 c2,.slice a3 n3 c3]:=hP;replace hT:Blk w2 gT 33 [.slice a5 nt c5,.string T.seed,.int .i64 T.pos]:=hT;replace hF:Blk w2 gF 40 [.slice none 0 0,.string ⟨#[]⟩,.slice none 0 0]:=hF;replace hQ:Blk w2 gQ 33 [.slice none 0 0,.string ⟨#[]⟩,.int .i64 0]:=hQ;have jE:¬ gF=gQ:=hf.out.2.2.2.2.2.2;have j2:¬ gQ=gF:=fun e=>jE e.symm
 go_upto_region 4 with fail
 go_wp2_with fail
 refine (J1.out _).mono ?_;rintro e w' ⟨rfl,rfl⟩;have ky:=SsAt.after hV hq;obtain⟨Jn,HP,Jo,HQ,Jp,HR⟩:=hT.x3;go_wp2_with fail
 refine (Jf.out _ hq).mono ?_;rintro e w4 ⟨rfl,hb4⟩;clear Jn HP Jo HQ Jp HR;replace hR:=hR.after hb4;replace hP:=hP.after hb4;replace hT:=hT.after hb4;replace hF:=hF.after hb4;replace hQ:=hQ.after hb4;replace hh:=SsAt.after hh hb4;replace hq:=bt hq hb4;clear hb4 J1 Jf ky;obtain⟨HI,HJ,HK,HL⟩:=hR.x2;go_wp2_with fail
 refine (Jg.out _).mono ?_;rintro e w5 ⟨rfl,HS⟩;clear HI HJ HK HL;replace hP:=hP.after HS;replace hT:=hT.after HS;replace hF:=hF.after HS;replace hQ:=hQ.after HS;replace hh:=SsAt.after hh HS;replace hq:=bt hq HS;clear HS Jg hR;have Jq:=SsAt.after hV hq;clear hV;by_cases jF:C≤c
 ·have kz:decide (0≤q1)=true:=Dt (by rw[Jj.out];have:=cmp_nneg c C jF;omega);have HX:=Kh (Ji.out jF);clear jF hP hT hh Jq Jl;have jG:=hF.lt;have jH:=hQ.lt;obtain⟨hY,HT,hZ,HU,h3,HV⟩:=hF.x3;obtain⟨h5,HW,h6,HY,h7,H0⟩:=hQ.x3;go_wp2;(try rw[Exit.noGoto_ret])
  refine bodyPost_ret (v:=.tuple #[.agg #[.slice none 0 0,.string ⟨#[]⟩,.slice none 0 0],.agg #[.slice none 0 0,.string ⟨#[]⟩,.int .i64 0],.int .i64 2]) ?_ rfl ?_
  ·simp[results,Tryz.results25,go_sem,hY,hZ,h3,h5,h6,h7,jG,jH,jE,j2]
  ·rw[HX.out];exact ppost_err (by decide) (if_neg (by decide)) rfl ((((((hq.setCell hf.out.2.1 _).setCell hf.out.2.1 _).setCell hf.out.2.1 _).setCell hf.out.2.2.1 _).setCell hf.out.2.2.1 _).setCell hf.out.2.2.1 _)
 ·have kz:decide (0≤q1)=false:=decide_eq_false (by rw[Jj.out];have:=cmp_neg c C (by omega);omega);obtain rfl:RS=R0:=(jX.out jF).symm;clear jF Ji jX Jj;have kA:=Kh Jl;clear Jl;have H1:Hid (w.heap.size≤w5.heap.size∧gS<w5.heap.size∧gT<w5.heap.size∧gF<w5.heap.size∧gQ<w5.heap.size):=⟨hq.size,hP.lt,hT.lt,hF.lt,hQ.lt⟩;have Jr:=Kh kx.out;have kf:Hid (∀g,w5.heap.size≤g→FarS (.slice a6 n2 c6) g):=fun g hg=>ss_far hh hg
  go_upto_region 10 with fail
  go_loopw [14,15] (fun v14 i wr=>∃(k:Nat) (uo:Option Addr) (um uc:Nat),k≤n2∧i=.int .i64 k∧Hid (∀j,j<k→(N.smp att C K T j).1=0)∧ZOwn wr w5.heap.size v14 ((N.smpL att C K T).take k)∧Blk wr gS 29 [.slice a1 n1 c1,.slice a2 n2 c2,.slice a3 n3 c3]∧Blk wr gT 33 [.slice uo um uc,.string T.seed,.int .i64 (T.pos+(k:Int))]∧Blk wr gF 40 [.slice none 0 0,.string ⟨#[]⟩,.slice none 0 0]∧Blk wr gQ 33 [.slice none 0 0,.string ⟨#[]⟩,.int .i64 0]∧SsAt wr (.slice uo um uc) T.vals∧FarS (.slice uo um uc) gT∧FarS (.slice uo um uc) gF∧FarS (.slice uo um uc) gQ∧SsAt wr (.slice a6 n2 c6) (((N.lims C K).map (·.2)).map E)∧Hid (w5.heap.size≤wr.heap.size)∧Bw w wr) (fun _ i _=>n2-(intOf i).toNat)
  case atStart=>exact⟨0,a5,nt,c5,by omega,rfl,fun j h=>absurd h (Nat.not_lt_zero _),World.ownsRow_nil _ _ _ _,hP,by rw[show T.pos+((0:Nat):Int)=T.pos by omega];exact hT,hF,hQ,Jq,Jr.out.1,Jr.out.2.1,Jr.out.2.2,hh,Nat.le_refl _,hq⟩
  case round =>
   clear hP hT hF hQ Jq hh hq;obtain⟨k,uo,um,uc,hk,rfl,jI,hO,hP,hT,hF,hQ,hU,Hz,HA,HB,hh,Hq,jJ⟩:=hrel;obtain⟨wp,kB⟩:∃wp,wp=wr:=⟨_,rfl⟩;subst kB;have kD:=hP.lt;by_cases hlt:k<n2
   ·have H2:k<N.vars.length:=by rw[←jY.out];exact hlt
    have j3:=Kh (smp_step N att C K T k H2);have H3:=Kh (smp_at N att C K T k H2);have kE:k<(((N.lims C K).map (·.2)).map E).length:=by rw[J9.out];exact hlt
    obtain⟨bv,ov,rfl,Js,x1⟩:=(NAt.after kA.out jJ).vat H2;obtain⟨bu,ou,rfl,Jt,y1⟩:=SsAt.at_ hh kE;rw[show (((N.lims C K).map (·.2)).map E)[k]=E (lim N.ord C K (N.vars[k]'H2)).2 by simp[NSta.lims]]at y1;have jr:=Kh (kt.out _ (Gm H2));have H4:Hid ((N.smp att C K T k).1≠0→RS=⟨(N.smp att C K T k).1,[],Tp.nil⟩):=fun h=>J2.out.trans (smp_bad H2 jI.out h)
    have H5:Hid ((N.smp att C K T k).1=0→∀j,j<k+1→(N.smp att C K T j).1=0):=fun h j hj=>by
     by_cases e:j=k
     ·rw[e];exact h
     ·exact jI.out j (by omega)
    clear jI;generalize N.smp att C K T k=dk at H3 H4 H5 j3;generalize (N.vars[k]'H2)=vb at x1 y1 jr H3;generalize jK:(lim N.ord C K vb).2=mk at y1 jr;have j4:=Kh jK;clear jK;have j5:Hid (((N.smpL att C K T).take k).length=k):=by rw[Hid,List.length_take,NSta.smpL,List.length_map,List.length_range];omega
    generalize (N.smpL att C K T).take k=LI at hO j3 j5;replace hO:wp.ownsRow w5.heap.size 74 2 u14 k (ics (LI.map zI)):=by have h:wp.ownsRow _ _ _ _ _ _:=hO;rw[j5.out]at h;exact h
    have kX:(0:Int)≤(k:Int):=by omega
    have kY:(k:Int)<(n2:Int):=by omega
    obtain⟨Tk,jL⟩:∃t,t=T.on k:=⟨_,rfl⟩;have Ju:Hid (Tk.vals=T.vals∧Tk.seed=T.seed∧Tk.pos=T.pos+(k:Int)):=by rw[Hid,jL];exact⟨rfl,rfl,rfl⟩
    have kg:Hid (Tk.after 0=T.on (k+1)):=by rw[Hid,jL];exact Tp.on_on T k 1
    have j6:Hid (Tk.Ok):=by rw[Hid,jL];exact kw.out.on k
    rw[←jL]at H3;clear jL;rw[←Ju.out.1]at hU;have j7:=Kh Ju.out.2;rw[←j7.out.1,←j7.out.2]at hT;clear Ju;obtain⟨Hr,hw⟩:=blk1 wp #[.bool false,.string { data:=#[] }] 74;obtain⟨gB,kh⟩:∃g,wp.heap.size=g:=⟨_,rfl⟩;have jM:Hid (w5.heap.size≤gB):=by have:=Hq.out;rw[Hid];omega
    have j8:=Kh kh;clear kh;obtain⟨hJ,hL,hM,hN,hW,hX⟩:=hP.x3;go_upto_region 13 with fail
    clear hJ hL hM hN hW hX;have js:=own_after hO hw;have HC:=hP.after hw;have H6:=hT.after hw;have H7:=hF.after hw;have H8:=hQ.after hw;have jN:=SsAt.after hU hw;have h8:=SsAt.after hh hw;have xx1:=(hw.cell (p:=⟨bv,ov+k,none⟩) Js).trans x1;have yy1:=(hw.cell (p:=⟨bu,ou+k,none⟩) Jt).trans y1;have kv:=Nl Js hw.size;have ku:=Nl Jt hw.size;have hr:=bt jJ hw;have kF:Hid (w5.heap.size≤(wp.alloc (.cells #[.bool false,.string { data:=#[] }] 74)).heap.size):=Nat.le_trans Hq.out hw.size;generalize wp.alloc (.cells #[.bool false,.string { data:=#[] }] 74)=w6 at Hr js HC H6 H7 H8 jN h8 xx1 yy1 kv ku hr kF ⊢;rw[j8.out]at Hr ⊢;have j9:Hid (u14.ownBlock≠some gB):=fun e=>by have h1:=(own_lt hO e).1;have h2:=j8.out;omega
    have Ja:Hid (FarS (.slice (some ⟨bu,ou,none⟩) n2 c6) gB):=ss_far hh (by have:=j8.out;omega);clear j8 hw hO hP hT hF hQ hU hh x1 y1 Js Jt jJ Hq;replace Hr:Blk w6 gB 74 [.bool false,.string { data:=#[] }]:=Hr;have Hv:Hid (w.heap.size≤gB):=by have h1:=H1.out;have h2:=jM.out;rw[Hid];omega
    have hi:Hid (gS≠gB∧gT≠gB∧gF≠gB∧gQ≠gB):=by have h1:=H1.out;have h2:=jM.out;rw[Hid];omega
    have hv:Hid (u14.ownBlock≠some gT∧u14.ownBlock≠some gF∧u14.ownBlock≠some gQ∧u14.ownBlock≠some gS∧∀g,u14.ownBlock=some g→g<w6.heap.size):=by
     have h1:=H1.out;refine⟨fun e=>?_,fun e=>?_,fun e=>?_,fun e=>?_,fun g e=>?_⟩ <;> have h4:=own_lt js e <;> omega
    have jO:=HC.lt;by_cases jt:vb=0
    ·have Jv:=zE jt;have H9:Hid (dk=((coin att Tk mk).1,((coin att Tk mk).2:Int))):=by rw[Hid,H3.out,smpJ,if_pos jt,j4.out]
     have ja:Hid (∀w',Bw w6 w'→Calls Tryz.prog 104 #[.agg #[.slice uo um uc,.string Tk.seed,.int .i64 Tk.pos],.string (E mk)] w' (CPost w' Tk (coin att Tk mk))):=fun w' hb=>kr.out Tk _ mk w' j6.out j7.out.1 jr.out (SsAt.after jN hb)
     generalize coin att Tk mk=rc at ja H9;obtain⟨ke,xe⟩:=rc;have HZ:Hid (dk.1=ke∧dk.2=(xe:Int)∧zI dk.2=(false,E xe)):=by rw[Hid,H9.out];exact⟨rfl,rfl,by simp[zI,sg_nat]⟩
     clear jt H3 H9 jr j6 j4;obtain⟨h9,Ha,Hb,Hc,Hd,He⟩:=HC.x3;go_upto_region 16 with fail
     clear h9 Ha Hb Hc Hd He;clear Jv xx1 kv jO;obtain⟨T1,jP⟩:∃t,t=Tk.after ke:=⟨_,rfl⟩;have Hw:=Kh jP;clear jP;have HD:=HC.drew;have Hf:=H6.drew;have HE:=H7.drew;have HF:=H8.drew;have Hg:=Hr.drew;have jQ:w6.drew.ownsRow w5.heap.size 74 2 u14 k (ics (LI.map zI)):=World.ownsRow.drew js;have jb:SsAt w6.drew (.slice (some ⟨bu,ou,none⟩) n2 c6) (((N.lims C K).map (·.2)).map E):=SsAt.after h8 (Below.drew Br);have Hh:=hr.drew;have yy0:w6.drew.cell? ⟨bu,ou+k,none⟩=some (.string (E mk)):=yy1;have ku0:bu<w6.drew.heap.size:=ku;have ju:gT<w6.drew.heap.size:=H6.lt;have Hs:gB<w6.drew.heap.size:=Hr.lt;have jc:Hid (gF<w6.drew.heap.size∧gQ<w6.drew.heap.size):=⟨H7.lt,H8.lt⟩;have jR:Hid (Bw w6 w6.drew):=Below.drew Br;have Jw:Hid (∀g,u14.ownBlock=some g→g<w6.drew.heap.size):=fun g hg=>hv.out.2.2.2.2 g hg
     have e1:¬ gT=gB:=hi.out.2.1;have e2:¬ gB=gT:=fun e=>hi.out.2.1 e.symm
     have f1:gF≠gT:=hf.out.2.2.2.2.1;have q1':gQ≠gT:=hf.out.2.2.2.2.2.1;have s1:gS≠gT:=hf.out.2.2.2.1;have hp:Hid (gS≠gT∧gF≠gT∧gQ≠gT):=⟨s1,f1,q1'⟩;clear f1 q1' s1;clear HC H6 H7 H8 Hr js hr yy1 ku jN h8;obtain⟨hy,hA,hD,hE,hG,hH⟩:=Hf.x3;obtain⟨Hi,Hj,Hk,Hl⟩:=Hg.x2;go_cut [13,17] from 47 to 92 (fun s13 s17 wx=>s13=.int .i64 (ke:Int)∧s17=.string (E xe)∧∃(uo:Option Addr) (um uc:Nat),Blk wx gT 33 [.slice uo um uc,.string T1.seed,.int .i64 T1.pos]∧Blk wx gB 74 [.bool false,.string { data:=#[] }]∧Blk wx gS 29 [.slice a1 n1 c1,.slice (some ⟨bv,ov,none⟩) n2 c2,.slice a3 n3 c3]∧Blk wx gF 40 [.slice none 0 0,.string ⟨#[]⟩,.slice none 0 0]∧Blk wx gQ 33 [.slice none 0 0,.string ⟨#[]⟩,.int .i64 0]∧SsAt wx (.slice uo um uc) T1.vals∧FarS (.slice uo um uc) gT∧FarS (.slice uo um uc) gF∧FarS (.slice uo um uc) gQ∧FarS (.slice uo um uc) gB∧(∀g,u14.ownBlock=some g→FarS (.slice uo um uc) g)∧wx.ownsRow w5.heap.size 74 2 u14 k (ics (LI.map zI))∧SsAt wx (.slice (some ⟨bu,ou,none⟩) n2 c6) (((N.lims C K).map (·.2)).map E)∧Bw w wx∧Hid (gB<wx.heap.size))
     case first =>
      go_region_with (go_at_call 104;(with_reducible refine (ja.out _ jR.out).mono ?_);rintro e wd ⟨t,rfl,⟨u,rfl,jS⟩,Hm,hbd⟩;obtain⟨xo,xc,rfl⟩:=RAt.form jS;have ht:=Hf.after hbd;have hI:=Hg.after hbd;have jd:=HE.after hbd;have Jx:=HF.after hbd;have Jy:=HD.after hbd;have Jz:=own_after jQ hbd;have JA:=SsAt.after jb hbd;have hq:=bt Hh hbd;have JB:=ht.cell 0;have JC:=ht.cell 1;have JD:=ht.cell 2;have HP:=ht.free 0;have HQ:=ht.free 1;have HR:=ht.free 2;have JE:=hI.cell 0;have JF:=hI.cell 1;have Hn:=hI.free 0;have Ho:=hI.free 1;have JG:=ht.lt;have je:=hI.lt)
      all_goals
       go_wp2_with fail
       go_meet
       have fT:=Hm.far ju;have fB:=Hm.far Hs;rw[Hw.out];exact⟨rfl,rfl,xo,_,xc,(((ht.set 0 _).set 1 _).set 2 _),(((hI.other _ _ e2).other _ _ e2).other _ _ e2),(((Jy.other _ _ hp.out.1).other _ _ hp.out.1).other _ _ hp.out.1),(((jd.other _ _ hp.out.2.1).other _ _ hp.out.2.1).other _ _ hp.out.2.1),(((Jx.other _ _ hp.out.2.2).other _ _ hp.out.2.2).other _ _ hp.out.2.2),(((jS.set_far fT).set_far fT).set_far fT),fT,Hm.far jc.out.1,Hm.far jc.out.2,fB,fun g hg=>Hm.far (Jw.out g hg),(own_set (own_set (own_set Jz hv.out.1) hv.out.1) hv.out.1),(((JA.set_far HO.out.1).set_far HO.out.1).set_far HO.out.1),(((hq.setCell hf.out.1 _).setCell hf.out.1 _).setCell hf.out.1 _),by simp only[Hid,World.size_setCell];exact je⟩
     case rest =>
     clear HD Hf HE HF Hg jQ jb Hh yy0 ku0 ju Hs jc jR e1 ja hy hA hD hE hG hH Hi Hj Hk Hl;obtain⟨rfl,rfl,xo,xm,xc,hT,hB,hP,hF,hQ,hU,Hz,HA,HB,jT,jU,hO,hh,hr,Hq⟩:=hcut;obtain⟨wy,JH⟩:∃wy,wy=wc:=⟨_,rfl⟩;subst JH;have Hs:=hB.lt;have kG:w5.heap.size≤gB:=jM.out;obtain⟨jf,Hn,jg,Ho⟩:=hB.x2;go_upto_region 18 with fail
     clear jf Hn jg Ho;replace hB:Blk ((wy.setCell ⟨gB,0,none⟩ (.bool false)).setCell ⟨gB,1,none⟩ (.string (E xe))) gB 74 [.bool false,.string (E xe)]:=(hB.set 0 _).set 1 _;replace hT:=(hT.other ⟨gB,0,none⟩ (.bool false) hi.out.2.1).other ⟨gB,1,none⟩ (.string (E xe)) hi.out.2.1;replace hP:=(hP.other ⟨gB,0,none⟩ (.bool false) hi.out.1).other ⟨gB,1,none⟩ (.string (E xe)) hi.out.1;replace hF:=(hF.other ⟨gB,0,none⟩ (.bool false) hi.out.2.2.1).other ⟨gB,1,none⟩ (.string (E xe)) hi.out.2.2.1;replace hQ:=(hQ.other ⟨gB,0,none⟩ (.bool false) hi.out.2.2.2).other ⟨gB,1,none⟩ (.string (E xe)) hi.out.2.2.2;replace hU:SsAt ((wy.setCell ⟨gB,0,none⟩ (.bool false)).setCell ⟨gB,1,none⟩ (.string (E xe))) (.slice xo xm xc) T1.vals:=(hU.set_far jT).set_far jT;replace hh:SsAt ((wy.setCell ⟨gB,0,none⟩ (.bool false)).setCell ⟨gB,1,none⟩ (.string (E xe))) (.slice (some ⟨bu,ou,none⟩) n2 c6) (((N.lims C K).map (·.2)).map E):=(hh.set_far Ja.out).set_far Ja.out;replace hO:((wy.setCell ⟨gB,0,none⟩ (.bool false)).setCell ⟨gB,1,none⟩ (.string (E xe))).ownsRow w5.heap.size 74 2 u14 k (ics (LI.map zI)):=own_set (own_set hO j9.out) j9.out;replace hr:Bw w ((wy.setCell ⟨gB,0,none⟩ (.bool false)).setCell ⟨gB,1,none⟩ (.string (E xe))):=(hr.setCell Hv.out _).setCell Hv.out _;replace Hq:Hid (gB<((wy.setCell ⟨gB,0,none⟩ (.bool false)).setCell ⟨gB,1,none⟩ (.string (E xe))).heap.size):=by simp only[Hid,World.size_setCell];exact Hs
     clear Hs kG;generalize (wy.setCell ⟨gB,0,none⟩ (.bool false)).setCell ⟨gB,1,none⟩ (.string (E xe))=wy at hB hT hP hF hQ hU hh hO hr Hq ⊢;clear jT e2;by_cases Hx:ke=0
     ·subst Hx;have jh:=Kh (H5.out HZ.out.1);clear H5 H4;rw[kg.out]at Hw;have ji:Hid (T1.vals=T.vals∧T1.seed=T.seed∧T1.pos=T.pos+((k+1:Nat):Int)):=by rw[Hid,Hw.out];exact⟨rfl,rfl,rfl⟩
      rw[ji.out.1]at hU;have jj:=Kh ji.out.2;rw[jj.out.1,jj.out.2]at hT;clear ji Hw jj;have Hs:=hB.lt;have jk:w5.heap.size≤wy.heap.size:=by have h1:=jM.out;have h2:=Hq.out;omega
      obtain⟨jf,Hn,jg,Ho⟩:=hB.x2;go_wp2_with (at_builtin;refine wpList_append_lies _ rfl (.tmp 89) (.tmp 91) _ rfl w5.heap.size 74 i1 _ 2 24 Tryz.underlying30 J5.out J6.out J7.out J8.out rfl (by omega) u14 k (ics (LI.map zI)) rfl (own_after hO (b1 _ (.cells #[.bool false,.string (E xe)] 74))) ⟨(wy).heap.size,0,none⟩ 1 1 [.bool false,.string (E xe)] rfl rfl (Blk.new (wy) #[.bool false,.string (E xe)] 74).cells (by simp[Value.oneCell']) (by omega) (by simp only[maxLen];omega) (by omega) (by rw[World.size_alloc];omega) ((wy).heap.size+1) (by simp) ?_;intro ga ca' wz Hp hd HG jl)
      have jV:ZOwn wz w5.heap.size (.slice (some ⟨ga,0,none⟩) (k+1) ca') (LI++[dk.2]):=by
       rw[ZOwn,List.length_append,j5.out,←ics_app];have h:ics [zI dk.2]=[.bool false,.string (E xe)]:=by rw[HZ.out.2.2];rfl
       rw[List.map_cons,List.map_nil,h];exact Hp
      rw[←j3.out]at jV;have JI:=(ba hr (.cells #[.bool false,.string (E xe)] 74)).grown hd (by have:=hr.size;rw[World.size_alloc];omega) (fun x hx=>Nat.le_trans H1.out.1 (own_lt hO hx).2);have JJ:=Blk.grown (hT.alloc (.cells #[.bool false,.string (E xe)] 74)) hd hv.out.1;have JK:=Blk.grown (hF.alloc (.cells #[.bool false,.string (E xe)] 74)) hd hv.out.2.1;have JL:=Blk.grown (hQ.alloc (.cells #[.bool false,.string (E xe)] 74)) hd hv.out.2.2.1;have JM:=Blk.grown (hP.alloc (.cells #[.bool false,.string (E xe)] 74)) hd hv.out.2.2.2.1;have JN:=SsAt.grown (SsAt.after hU (b1 wy (.cells #[.bool false,.string (E xe)] 74))) hd jU;have JO:=SsAt.grown (SsAt.after hh (b1 wy (.cells #[.bool false,.string (E xe)] 74))) hd (fun g hg=>kf.out g (own_lt hO hg).2);have jm:w5.heap.size≤wz.heap.size:=by have h:=hd.size;rw[World.size_alloc]at h;omega
      clear Hp hd HG jl hO hB hr hT hF hQ hP hU jk hh;go_wp2;go_roundw
      case rel=>exact⟨k+1,xo,xm,xc,by omega,by go_num,jh.out,jV,JM,JJ,JK,JL,JN,Hz,HA,HB,JO,jm,JI⟩
      case measure=>simp[intOf];omega
     ·have kH:((ke:Int) != 0)=true:=by rw[bne_iff_ne];omega
      have HX:=Kh (H4.out (by rw[HZ.out.1];exact Hx));rw[HZ.out.1]at HX;have jW:=Kh Hx;clear Hx H4 H5 hT hB hP hU Hz HA HB jU hO hh;have jG:=hF.lt;have jH:=hQ.lt;obtain⟨hY,HT,hZ,HU,h3,HV⟩:=hF.x3;obtain⟨h5,HW,h6,HY,h7,H0⟩:=hQ.x3;go_wp2;(try rw[Exit.noGoto_ret])
      refine bodyPost_ret (v:=.tuple #[.agg #[.slice none 0 0,.string ⟨#[]⟩,.slice none 0 0],.agg #[.slice none 0 0,.string ⟨#[]⟩,.int .i64 0],.int .i64 (ke:Int)]) ?_ rfl ?_
      ·simp[results,Tryz.results25,go_sem,hY,hZ,h3,h5,h6,h7,jG,jH,jE,j2]
      ·rw[HX.out];exact ppost_err jW.out (if_neg jW.out) rfl ((((((hr.setCell hf.out.2.1 _).setCell hf.out.2.1 _).setCell hf.out.2.1 _).setCell hf.out.2.2.1 _).setCell hf.out.2.2.1 _).setCell hf.out.2.2.1 _)
    ·have Jv:=nzE (Nat.pos_of_ne_zero jt);have H9:Hid (dk=csgn att Tk mk):=by rw[Hid,H3.out,smpJ,if_neg jt,j4.out]
     have ja:Hid (∀w',Bw w6 w'→Calls Tryz.prog 103 #[.agg #[.slice uo um uc,.string Tk.seed,.int .i64 Tk.pos],.string (E mk)] w' (SCPost w' Tk (csgn att Tk mk))):=fun w' hb=>ks.out Tk _ mk w' j6.out j7.out.1 jr.out (SsAt.after jN hb)
     generalize csgn att Tk mk=rc at ja H9;obtain⟨ke,xe⟩:=rc;have HZ:Hid (dk.1=ke∧dk.2=xe∧zI dk.2=(sg xe,E xe.natAbs)):=by rw[Hid,H9.out];exact⟨rfl,rfl,rfl⟩
     clear jt H3 H9 jr j6 j4;obtain⟨h9,Ha,Hb,Hc,Hd,He⟩:=HC.x3;go_upto_region 14 with fail
     clear h9 Ha Hb Hc Hd He;clear Jv xx1 kv jO;obtain⟨T1,jP⟩:∃t,t=Tk.after ke:=⟨_,rfl⟩;have Hw:=Kh jP;clear jP;have HD:=HC.drew;have Hf:=H6.drew;have HE:=H7.drew;have HF:=H8.drew;have Hg:=Hr.drew;have jQ:w6.drew.ownsRow w5.heap.size 74 2 u14 k (ics (LI.map zI)):=World.ownsRow.drew js;have jb:SsAt w6.drew (.slice (some ⟨bu,ou,none⟩) n2 c6) (((N.lims C K).map (·.2)).map E):=SsAt.after h8 (Below.drew Br);have Hh:=hr.drew;have yy0:w6.drew.cell? ⟨bu,ou+k,none⟩=some (.string (E mk)):=yy1;have ku0:bu<w6.drew.heap.size:=ku;have ju:gT<w6.drew.heap.size:=H6.lt;have Hs:gB<w6.drew.heap.size:=Hr.lt;have jc:Hid (gF<w6.drew.heap.size∧gQ<w6.drew.heap.size):=⟨H7.lt,H8.lt⟩;have jR:Hid (Bw w6 w6.drew):=Below.drew Br;have Jw:Hid (∀g,u14.ownBlock=some g→g<w6.drew.heap.size):=fun g hg=>hv.out.2.2.2.2 g hg
     have e1:¬ gT=gB:=hi.out.2.1;have e2:¬ gB=gT:=fun e=>hi.out.2.1 e.symm
     have f1:gF≠gT:=hf.out.2.2.2.2.1;have q1':gQ≠gT:=hf.out.2.2.2.2.2.1;have s1:gS≠gT:=hf.out.2.2.2.1;have hp:Hid (gS≠gT∧gF≠gT∧gQ≠gT):=⟨s1,f1,q1'⟩;clear f1 q1' s1;clear HC H6 H7 H8 Hr js hr yy1 ku jN h8;obtain⟨hy,hA,hD,hE,hG,hH⟩:=Hf.x3;obtain⟨Hi,Hj,Hk,Hl⟩:=Hg.x2;go_cut [13] from 47 to 92 (fun s13 wx=>s13=.int .i64 (ke:Int)∧∃(uo:Option Addr) (um uc:Nat),Blk wx gT 33 [.slice uo um uc,.string T1.seed,.int .i64 T1.pos]∧Blk wx gB 74 [.bool (sg xe),.string (E xe.natAbs)]∧Blk wx gS 29 [.slice a1 n1 c1,.slice (some ⟨bv,ov,none⟩) n2 c2,.slice a3 n3 c3]∧Blk wx gF 40 [.slice none 0 0,.string ⟨#[]⟩,.slice none 0 0]∧Blk wx gQ 33 [.slice none 0 0,.string ⟨#[]⟩,.int .i64 0]∧SsAt wx (.slice uo um uc) T1.vals∧FarS (.slice uo um uc) gT∧FarS (.slice uo um uc) gF∧FarS (.slice uo um uc) gQ∧FarS (.slice uo um uc) gB∧(∀g,u14.ownBlock=some g→FarS (.slice uo um uc) g)∧wx.ownsRow w5.heap.size 74 2 u14 k (ics (LI.map zI))∧SsAt wx (.slice (some ⟨bu,ou,none⟩) n2 c6) (((N.lims C K).map (·.2)).map E)∧Bw w wx∧Hid (gB<wx.heap.size))
     case first =>
      go_region_with (go_at_call 103;(with_reducible refine (ja.out _ jR.out).mono ?_);rintro e wd ⟨t,rfl,⟨u,rfl,jS⟩,Hm,hbd⟩;obtain⟨xo,xc,rfl⟩:=RAt.form jS;have ht:=Hf.after hbd;have hI:=Hg.after hbd;have jd:=HE.after hbd;have Jx:=HF.after hbd;have Jy:=HD.after hbd;have Jz:=own_after jQ hbd;have JA:=SsAt.after jb hbd;have hq:=bt Hh hbd;have JB:=ht.cell 0;have JC:=ht.cell 1;have JD:=ht.cell 2;have HP:=ht.free 0;have HQ:=ht.free 1;have HR:=ht.free 2;have JE:=hI.cell 0;have JF:=hI.cell 1;have Hn:=hI.free 0;have Ho:=hI.free 1;have JG:=ht.lt;have je:=hI.lt)
      all_goals
       go_wp2_with fail
       go_meet
       have fT:=Hm.far ju;have fB:=Hm.far Hs;rw[Hw.out];exact⟨rfl,xo,_,xc,(((((ht.other _ _ hi.out.2.1).other _ _ hi.out.2.1).set 0 _).set 1 _).set 2 _),(((((hI.set 0 _).set 1 _).other _ _ e2).other _ _ e2).other _ _ e2),(((((Jy.other _ _ hi.out.1).other _ _ hi.out.1).other _ _ hp.out.1).other _ _ hp.out.1).other _ _ hp.out.1),(((((jd.other _ _ hi.out.2.2.1).other _ _ hi.out.2.2.1).other _ _ hp.out.2.1).other _ _ hp.out.2.1).other _ _ hp.out.2.1),(((((Jx.other _ _ hi.out.2.2.2).other _ _ hi.out.2.2.2).other _ _ hp.out.2.2).other _ _ hp.out.2.2).other _ _ hp.out.2.2),(((((jS.set_far fB).set_far fB).set_far fT).set_far fT).set_far fT),fT,Hm.far jc.out.1,Hm.far jc.out.2,fB,fun g hg=>Hm.far (Jw.out g hg),(own_set (own_set (own_set (own_set (own_set Jz j9.out) j9.out) hv.out.1) hv.out.1) hv.out.1),(((((JA.set_far Ja.out).set_far Ja.out).set_far HO.out.1).set_far HO.out.1).set_far HO.out.1),(((((hq.setCell Hv.out _).setCell Hv.out _).setCell hf.out.1 _).setCell hf.out.1 _).setCell hf.out.1 _),by simp only[Hid,World.size_setCell];exact je⟩
     case rest =>
     clear HD Hf HE HF Hg jQ jb Hh yy0 ku0 ju Hs jc jR e1 ja hy hA hD hE hG hH Hi Hj Hk Hl;obtain⟨rfl,xo,xm,xc,hT,hB,hP,hF,hQ,hU,Hz,HA,HB,jT,jU,hO,hh,hr,Hq⟩:=hcut;obtain⟨wy,JH⟩:∃wy,wy=wc:=⟨_,rfl⟩;subst JH;clear jT e2;by_cases Hx:ke=0
     ·subst Hx;have jh:=Kh (H5.out HZ.out.1);clear H5 H4;rw[kg.out]at Hw;have ji:Hid (T1.vals=T.vals∧T1.seed=T.seed∧T1.pos=T.pos+((k+1:Nat):Int)):=by rw[Hid,Hw.out];exact⟨rfl,rfl,rfl⟩
      rw[ji.out.1]at hU;have jj:=Kh ji.out.2;rw[jj.out.1,jj.out.2]at hT;clear ji Hw jj;have Hs:=hB.lt;have jk:w5.heap.size≤wy.heap.size:=by have h1:=jM.out;have h2:=Hq.out;omega
      obtain⟨jf,Hn,jg,Ho⟩:=hB.x2;go_wp2_with (at_builtin;refine wpList_append_lies _ rfl (.tmp 89) (.tmp 91) _ rfl w5.heap.size 74 i1 _ 2 24 Tryz.underlying30 J5.out J6.out J7.out J8.out rfl (by omega) u14 k (ics (LI.map zI)) rfl (own_after hO (b1 _ (.cells #[.bool (sg xe),.string (E xe.natAbs)] 74))) ⟨(wy).heap.size,0,none⟩ 1 1 [.bool (sg xe),.string (E xe.natAbs)] rfl rfl (Blk.new (wy) #[.bool (sg xe),.string (E xe.natAbs)] 74).cells (by simp[Value.oneCell']) (by omega) (by simp only[maxLen];omega) (by omega) (by rw[World.size_alloc];omega) ((wy).heap.size+1) (by simp) ?_;intro ga ca' wz Hp hd HG jl)
      have jV:ZOwn wz w5.heap.size (.slice (some ⟨ga,0,none⟩) (k+1) ca') (LI++[dk.2]):=by
       rw[ZOwn,List.length_append,j5.out,←ics_app];have h:ics [zI dk.2]=[.bool (sg xe),.string (E xe.natAbs)]:=by rw[HZ.out.2.2];rfl
       rw[List.map_cons,List.map_nil,h];exact Hp
      rw[←j3.out]at jV;have JI:=(ba hr (.cells #[.bool (sg xe),.string (E xe.natAbs)] 74)).grown hd (by have:=hr.size;rw[World.size_alloc];omega) (fun x hx=>Nat.le_trans H1.out.1 (own_lt hO hx).2);have JJ:=Blk.grown (hT.alloc (.cells #[.bool (sg xe),.string (E xe.natAbs)] 74)) hd hv.out.1;have JK:=Blk.grown (hF.alloc (.cells #[.bool (sg xe),.string (E xe.natAbs)] 74)) hd hv.out.2.1;have JL:=Blk.grown (hQ.alloc (.cells #[.bool (sg xe),.string (E xe.natAbs)] 74)) hd hv.out.2.2.1;have JM:=Blk.grown (hP.alloc (.cells #[.bool (sg xe),.string (E xe.natAbs)] 74)) hd hv.out.2.2.2.1;have JN:=SsAt.grown (SsAt.after hU (b1 wy (.cells #[.bool (sg xe),.string (E xe.natAbs)] 74))) hd jU;have JO:=SsAt.grown (SsAt.after hh (b1 wy (.cells #[.bool (sg xe),.string (E xe.natAbs)] 74))) hd (fun g hg=>kf.out g (own_lt hO hg).2);have jm:w5.heap.size≤wz.heap.size:=by have h:=hd.size;rw[World.size_alloc]at h;omega
      clear Hp hd HG jl hO hB hr hT hF hQ hP hU jk hh;go_wp2;go_roundw
      case rel=>exact⟨k+1,xo,xm,xc,by omega,by go_num,jh.out,jV,JM,JJ,JK,JL,JN,Hz,HA,HB,JO,jm,JI⟩
      case measure=>simp[intOf];omega
     ·have kH:((ke:Int) != 0)=true:=by rw[bne_iff_ne];omega
      have HX:=Kh (H4.out (by rw[HZ.out.1];exact Hx));rw[HZ.out.1]at HX;have jW:=Kh Hx;clear Hx H4 H5 hT hB hP hU Hz HA HB jU hO hh;have jG:=hF.lt;have jH:=hQ.lt;obtain⟨hY,HT,hZ,HU,h3,HV⟩:=hF.x3;obtain⟨h5,HW,h6,HY,h7,H0⟩:=hQ.x3;go_wp2;(try rw[Exit.noGoto_ret])
      refine bodyPost_ret (v:=.tuple #[.agg #[.slice none 0 0,.string ⟨#[]⟩,.slice none 0 0],.agg #[.slice none 0 0,.string ⟨#[]⟩,.int .i64 0],.int .i64 (ke:Int)]) ?_ rfl ?_
      ·simp[results,Tryz.results25,go_sem,hY,hZ,h3,h5,h6,h7,jG,jH,jE,j2]
      ·rw[HX.out];exact ppost_err jW.out (if_neg jW.out) rfl ((((((hr.setCell hf.out.2.1 _).setCell hf.out.2.1 _).setCell hf.out.2.1 _).setCell hf.out.2.2.1 _).setCell hf.out.2.2.1 _).setCell hf.out.2.2.1 _)
   ·obtain rfl:n2=k:=by omega
    have Hy:RS=⟨0,N.smpL att C K T,T.on N.vars.length⟩:=J2.out.trans (smp_ok (fun j hj=>jI.out j (by rw[jY.out];exact hj)));have Jb:Hid (RS.err=0):=by rw[Hid,Hy]
    have jK:(N.smpL att C K T).take n2=RS.msk:=by rw[Hy];exact List.take_of_length_le (by simp[NSta.smpL,jY.out])
    have jn:Hid (RS.tp.seed=T.seed∧RS.tp.pos=T.pos+(n2:Int)∧RS.tp.vals=T.vals):=by rw[Hid,Hy,jY.out];exact⟨rfl,rfl,rfl⟩
    rw[jK]at hO;have kI:=Kh (jq.out Jb.out);have kj:ZOwn wp w5.heap.size u14 RS.msk:=hO;obtain⟨hJ,hL,hM,hN,hW,hX⟩:=hP.x3;go_upto_region 21 with fail
    clear hJ hL hM hN hW hX;have Hf:=hT.drew;have HD:=hP.drew;have HE:=hF.drew;have HF:=hQ.drew;have jb:SsAt wp.drew (.slice uo um uc) T.vals:=SsAt.after hU (Below.drew Br);have Jc:ZOwn wp.drew w5.heap.size u14 RS.msk:=World.ownsRow.drew kj;have Hg:=jJ.drew;have kJ:=Kh Hg;have kK:=Kh Jc.zs;have jv:Hid (FarS (.slice uo um uc) gT∧FarS (.slice uo um uc) gF∧FarS (.slice uo um uc) gQ):=⟨Hz,HA,HB⟩
    have jw:Hid (u14.ownBlock≠some gT∧u14.ownBlock≠some gF∧u14.ownBlock≠some gQ):=by
     have h1:=H1.out;refine⟨fun e=>?_,fun e=>?_,fun e=>?_⟩ <;> have h4:=(own_lt Jc e).2 <;> omega
    have JP:w.heap.size≤w5.heap.size:=H1.out.1;have ju:=Hf.lt;have kM:=HD.lt;have kN:=HE.lt;have kO:=HF.lt;obtain⟨lo,lc,rfl⟩:=Jc.zs.form;clear Hy jK hO kj jI jq hT hP hF hQ hU hh Hz HA HB jJ kD Hq;have q3:¬ gF=gT:=hf.out.2.2.2.2.1;have q4:¬ gT=gF:=fun e=>q3 e.symm
    have q5:¬ gQ=gT:=hf.out.2.2.2.2.2.1;have q6:¬ gT=gQ:=fun e=>q5 e.symm
    obtain⟨kk,kl,km,ko,kp,kq⟩:=HD.x3;obtain⟨hy,hA,hD,hE,hG,hH⟩:=Hf.x3;go_wp2_with fail
    go_region_with (go_at_call 105;(with_reducible refine (kI.out _ _ kJ.out kK.out).mono ?_);rintro e wm ⟨mo,rfl,HM,jx⟩;obtain⟨mx,mxc,rfl⟩:=RAt.form HM.ss;rw[List.length_map]at HM ⊢;have Jd:=Hf.after jx;have jo:=HE.after jx;have jp:=HF.after jx;have kP:=SsAt.after jb jx;have kQ:=own_after Jc jx;have kR:=bt Hg jx;have kS:=Jd.cell 0;have kT:=Jd.cell 1;have kU:=Jd.cell 2;have kV:=Jd.lt;have JQ:=jo.cell 0;have JR:=jo.cell 1;have JS:=jo.cell 2;have HT:=jo.free 0;have HU:=jo.free 1;have HV:=jo.free 2;have JT:=jo.lt;have JU:=jp.cell 0;have JV:=jp.cell 1;have JW:=jp.cell 2;have HW:=jp.free 0;have HY:=jp.free 1;have H0:=jp.free 2;have JX:=jp.lt)
    all_goals
     have kW:=Hg.size;have JY:(Value.slice mx (N.msgs c RS.msk).length mxc).ownBlock≠some gF:=fun e=>by have h1:=(own_lt HM e).2;omega
     have JZ:(Value.slice mx (N.msgs c RS.msk).length mxc).ownBlock≠some gQ:=fun e=>by have h1:=(own_lt HM e).2;omega
     go_wp2;(try rw[Exit.noGoto_ret])
     refine bodyPost_ret (v:=.tuple #[.agg #[.slice mx (N.msgs c RS.msk).length mxc,.string (E c),.slice lo RS.msk.length lc],.agg #[.slice uo um uc,.string T.seed,.int .i64 (T.pos+(n2:Int))],.int .i64 0]) ?_ rfl ?_
     ·simp[results,Tryz.results25,go_sem,JQ,JR,JS,JU,JV,JW,JT,JX,jE,j2]
     ·refine⟨_,_,_,_,by rw[Jb.out,jn.out.1,jn.out.2.1];rfl,(if_pos Jb.out).symm,?_,?_,?_,(((((kR.setCell hf.out.2.1 _).setCell hf.out.2.1 _).setCell hf.out.2.1 _).setCell hf.out.2.2.1 _).setCell hf.out.2.2.1 _).setCell hf.out.2.2.1 _⟩
      ·rw[show N.simF c RS=N.msgs c RS.msk from if_pos Jb.out];exact own_mono (own_set (own_set (own_set (own_set (own_set (own_set HM JY) JY) JY) JZ) JZ) JZ) kW
      ·exact own_mono (own_set (own_set (own_set (own_set (own_set (own_set kQ jw.out.2.1) jw.out.2.1) jw.out.2.1) jw.out.2.2) jw.out.2.2) jw.out.2.2) JP
      ·rw[jn.out.2.2];exact (((((kP.set_far jv.out.2.1).set_far jv.out.2.1).set_far jv.out.2.1).set_far jv.out.2.2).set_far jv.out.2.2).set_far jv.out.2.2
end
section
open Go.RowKit Go.Shelf
theorem sim_two (S:Sta) (C K ch sd:ByteArray) (V:List ByteArray) (ti:Int) (v1 v2 v3 vt:Value) (w:World) (hC:C.size≤16) (hK:K.size≤16) (hf:fewB S=true) (hS:StAt w v1 v2 v3 S)
  (hi:ch.size≤100) (hn:V.length≤100) (hs:∀x∈V,x.size≤100) (hj:sd.size≤100) (hV:SsAt w vt V) (ht:TabW w) :
  ∃(R:Drw) (F:List Nat) (Y:List Int) (L:List Nat),R.tp.vals=L.map E∧L.length≤1000∧F.length≤1000∧Y.length≤1000 ∧
   (∀w',Bw w w'→Calls Tryz.prog 24 #[.agg #[.string C,.string K],.agg #[v1,v2,v3],.string ch,.agg #[vt,.string sd,.int .i64 ti]] w' (PPost w' ch R F Y)) ∧
   (∀w',Bw w w'→Calls Tryz.prog 25 #[.agg #[.string C,.string K],.agg #[v1,v2,v3],.string ch,.agg #[vt,.string sd,.int .i64 ti]] w' (PPost w' ch R F Y)):=by
 obtain⟨k,hk,h1,h2⟩ | ⟨N,c,k,rfl,rfl,hc,hk,hm,hN,h0,c2,k2,hv,h1,h2⟩:=bnd16 S C K v1 v2 v3 w hC hK hf hS
 ·exact⟨⟨k,[],Tp.nil⟩,[],[],[],rfl,by simp,by simp,by simp,fun w' hb=>ssim_err C K ch sd v1 v2 v3 vt ti k w' hk (fun w2 hd=>h1 w2 (bt hb hd)),fun w' hb=>rssim_err C K ch sd v1 v2 v3 vt ti k w' hk (fun w2 hd=>h2 w2 (bt hb hd))⟩
 ·obtain⟨T,hT⟩:∃T:Tp,T=⟨V,sd,ti⟩:=⟨_,rfl⟩;have hg:T.Ok:=by rw[hT];exact⟨hn,hs,hj⟩
  have e1:V=T.vals:=by rw[hT]
  have e2:sd=T.seed:=by rw[hT]
  have e3:ti=T.pos:=by rw[hT]
  clear hT;subst e1 e2 e3;cases hp:(vldB ch&&T.good)
  ·exact⟨⟨3,[],Tp.nil⟩,[],[],[],rfl,by simp,by simp,by simp,fun w' hb=>ssim_form (E c) (E k) ch T (N.lims c k) v1 v2 v3 vt w' (by omega) hg (SsAt.after hV hb) hp (fun w2 hd=>h1 w2 (bt hb hd)),fun w' hb=>rssim_form (E c) (E k) ch T (N.lims c k) v1 v2 v3 vt w' (by omega) hg (SsAt.after hV hb) hp (fun w2 hd=>h2 w2 (bt hb hd))⟩
  ·rw[Bool.and_eq_true]at hp;obtain⟨p1,p2⟩:=hp;obtain⟨x,hx,rfl⟩:=numk hi p1
   obtain⟨L,hL,_⟩:=nums_lift T.vals 100 (by
    have h:=p2;simp only[Tp.good,Bool.and_eq_true,List.all_eq_true]at h;exact h.1) hs
   have l4:=hm.nv;have l5:=hm.ne;have ho:L.length≤1000:=by have:=congrArg List.length hL;rw[List.length_map]at this;omega
   have hq:(∃G:List Nat,(N.simR attN c k x T).tp.vals=G.map E∧G.length≤1000)∧(N.simF x (N.simR attN c k x T)).length≤1000∧(N.simR attN c k x T).msk.length≤1000:=by
    by_cases hh:c≤x
    ·rw[show N.simR attN c k x T=⟨2,[],Tp.nil⟩ from if_pos hh];exact⟨⟨[],rfl,by simp⟩,by rw[show N.simF x ⟨2,[],Tp.nil⟩=[] from if_neg (by decide)];simp,by simp⟩
    ·rw[show N.simR attN c k x T=N.smpR attN c k T from if_neg hh];by_cases he:(N.smpR attN c k T).err=0
     ·rw[show N.simF x (N.smpR attN c k T)=N.msgs x (N.smpR attN c k T).msk from if_pos he,(smp_inv he).1];refine⟨⟨L,hL.symm,ho⟩,by simp only[NSta.msgs,List.length_map];omega,?_⟩;have hl:(N.smpL attN c k T).length=N.vars.length:=by simp[NSta.smpL]
      show (N.smpL attN c k T).length≤1000;omega
     ·rw[show N.simF x (N.smpR attN c k T)=[] from if_neg he,smp_errR he];exact⟨⟨[],rfl,by simp⟩,by simp,by simp⟩
   obtain⟨⟨G,g1,g2⟩,g3,g4⟩:=hq;refine⟨_,_,_,G,g1,g2,g3,g4,fun w' hb=>ssim_num attN N c k x T v1 v2 v3 vt w' (hatt T.seed w' (by omega) (ht.after hb)) hg p2 hc hk hm (hN.after hb) h0 (SsAt.after hV hb) hx (fun w2 hd=>h1 w2 (bt hb hd)),fun w' hb=>rssim_num attN N c k x T v1 v2 v3 vt w' (ratt T.seed (by omega)) hg p2 hc hk hm (hN.after hb) h0 (SsAt.after hV hb) hx (fun w2 hd=>h2 w2 (bt hb hd))⟩
theorem same17_c (F:List Nat) (Y:List Int) (ch:ByteArray) (u1 r1 u2 r2:Value) (w:World) (hf:F.length≤1000) (hy:Y.length≤1000) (h1:SsAt w u1 (F.map E)) (h2:SsAt w u2 (F.map E)) (h3:ZsAt w r1 Y) (h4:ZsAt w r2 Y) :
  Calls Tryz.prog 26 #[.agg #[u1,.string ch,r1],.agg #[u2,.string ch,r2]] w fun e w'=>e=.returned (.bool true)∧Bw w w':=by
 have HA:Hid (∀w',Bw w w'→Calls Tryz.prog 74 #[u1,u2] w' fun e w''=>e=.returned (.bool true)∧Bw w' w''):=fun w' hb=>eqNat_cV F F _ _ true w' hf hf (SsAt.after h1 hb) (SsAt.after h2 hb) (Dt rfl)
 have HB:Hid (∀w',Bw w w'→Calls Tryz.prog 75 #[r1,r2] w' fun e w''=>e=.returned (.bool true)∧Bw w' w''):=fun w' hb=>eqZ_c r1 r2 Y w' hy (ZsAt.after h3 hb) (ZsAt.after h4 hb)
 obtain⟨f1,g1,rfl⟩:=RAt.form h1;obtain⟨f2,g2,rfl⟩:=RAt.form h2;obtain⟨f3,g3,rfl⟩:=h3.form;obtain⟨f4,g4,rfl⟩:=h4.form;generalize (F.map E).length=n at HA;generalize Y.length=m at HB;have ht:(ch.toList==ch.toList)=true:=by simp
 clear h1 h2 h3 h4 hf hy;obtain⟨hX,hZ,hc⟩:=blk2 w #[.slice f1 n g1,.string ch,.slice f3 m g3] #[.slice f2 n g2,.string ch,.slice f4 m g4] 40 40;obtain⟨hd,he,hg,hh,hi,hj⟩:=hX.x3;obtain⟨hk,hl,hm,hn,ho,hp⟩:=hZ.x3;go_enter Tryz.func26,Tryz.ntmps26
 go_wp2_with fail
 refine (HA.out _ hc).mono ?_;rintro e w2 ⟨rfl,hq⟩;clear hd he hg hh hi hj;clear hk hl hm hn ho hp;replace hX:=hX.after hq;replace hZ:=hZ.after hq;replace hc:=bt hc hq;clear hq;obtain⟨hd,he,hg,hh,hi,hj⟩:=hX.x3;obtain⟨hk,hl,hm,hn,ho,hp⟩:=hZ.x3;go_wp2_with fail
 refine (HB.out _ hc).mono ?_;rintro e w3 ⟨rfl,hr⟩;go_wp2;go_ret
 exact⟨rfl,bt hc hr⟩
theorem sameTape17_c (L:List Nat) (sd:ByteArray) (ti:Int) (u v:Value) (w:World) (hl:L.length≤1000) (h1:SsAt w u (L.map E)) (h2:SsAt w v (L.map E)) :
  Calls Tryz.prog 27 #[.agg #[u,.string sd,.int .i64 ti],.agg #[v,.string sd,.int .i64 ti]] w fun e w'=>e=.returned (.bool true)∧Bw w w':=by
 have HA:Hid (∀w',Bw w w'→Calls Tryz.prog 74 #[u,v] w' fun e w''=>e=.returned (.bool true)∧Bw w' w''):=fun w' hb=>eqNat_cV L L _ _ true w' hl hl (SsAt.after h1 hb) (SsAt.after h2 hb) (Dt rfl)
 obtain⟨f1,g1,rfl⟩:=RAt.form h1;obtain⟨f2,g2,rfl⟩:=RAt.form h2;generalize (L.map E).length=n at HA;have hr:(sd.toList==sd.toList)=true:=by simp
 have ht:(ti==ti)=true:=by simp
 clear h1 h2 hl;obtain⟨hX,hZ,hc⟩:=blk2 w #[.slice f1 n g1,.string sd,.int .i64 ti] #[.slice f2 n g2,.string sd,.int .i64 ti] 33 33;obtain⟨hd,he,hf,hg,hh,hi⟩:=hX.x3;obtain⟨hj,hk,hm,hn,ho,hp⟩:=hZ.x3;go_enter Tryz.func27,Tryz.ntmps27
 go_wp2_with fail
 refine (HA.out _ hc).mono ?_;rintro e w2 ⟨rfl,hq⟩;go_wp2;go_ret
 exact⟨rfl,bt hc hq⟩
theorem sl_walk (C K ch sd:ByteArray) (ti:Int) (s1 s2 s3 xw xl xt:Option Addr) (m1 m2 m3 d1 d2 d3 nw pw nl pl nt pt:Nat) (w:World) (bf:Bool)
  (HF:∀w',Bw w w'→Calls Tryz.prog 22 #[.agg #[.string C,.string K,.slice s1 m1 d1,.slice s2 m2 d2,.slice s3 m3 d3,.slice xw nw pw,.string ch,.slice xl nl pl,.slice xt nt pt,.string sd,.int .i64 ti]] w' fun e w''=>e=.returned (.bool bf)∧Bw w' w'')
  (HV:bf=true→∃(R:Drw) (F:List Nat) (Y:List Int) (L:List Nat),R.tp.vals=L.map E∧L.length≤1000∧F.length≤1000∧Y.length≤1000 ∧
   (∀w',Bw w w'→Calls Tryz.prog 24 #[.agg #[.string C,.string K],.agg #[.slice s1 m1 d1,.slice s2 m2 d2,.slice s3 m3 d3],.string ch,.agg #[.slice xt nt pt,.string sd,.int .i64 ti]] w' (PPost w' ch R F Y)) ∧
   (∀w',Bw w w'→Calls Tryz.prog 25 #[.agg #[.string C,.string K],.agg #[.slice s1 m1 d1,.slice s2 m2 d2,.slice s3 m3 d3],.string ch,.agg #[.slice xt nt pt,.string sd,.int .i64 ti]] w' (PPost w' ch R F Y))) :
  Calls Tryz.prog 4 #[.agg #[.string C,.string K,.slice s1 m1 d1,.slice s2 m2 d2,.slice s3 m3 d3,.slice xw nw pw,.string ch,.slice xl nl pl,.slice xt nt pt,.string sd,.int .i64 ti]] w fun e w'=>e=.returned (.bool true)∧Bw w w':=by
 have h2:=Kh HF;have h3:=Kh HV;obtain⟨hQ,hc⟩:=blk1 w #[.string C,.string K,.slice s1 m1 d1,.slice s2 m2 d2,.slice s3 m3 d3,.slice xw nw pw,.string ch,.slice xl nl pl,.slice xt nt pt,.string sd,.int .i64 ti] 50;clear HF HV;cases bf
 ·skip
  obtain⟨hf,hg,hh,hi,hj,hk,hl,hm,hn,ho,hp,hq,hr,ht,hu,hv,hw,hx,hy,hz,hd,he⟩:=hQ.x11;go_enter Tryz.func4,Tryz.ntmps4
  go_wp2_with fail
  refine (h2.out _ hc).mono ?_;rintro e w2 ⟨rfl,hb⟩;clear hf hg hh hi hj hk hl hm hn ho hp hq hr ht hu hv hw hx hy hz hd he;replace hc:=bt hc hb;clear hb;go_wp2_with fail
  refine (awake_c _).mono ?_;rintro e w9 ⟨rfl,hb9⟩;go_wp2;go_ret
  exact⟨rfl,bt hc hb9⟩
 obtain⟨R,F,Y,L,h4,h5,h6,h7,h8,h9⟩:=h3.out rfl;obtain⟨k,Lm,tD⟩:=R;obtain⟨tv,tS,tP⟩:=tD;simp only[]at h4;subst h4;have Ha:=Kh h8;have Hb:=Kh h9;have Hq:=Kh h6;have Hr:=Kh h7;have Hs:=Kh h5;clear h8 h9 h3 h5 h6 h7;obtain⟨hf,hg,hh,hi,hj,hk,hl,hm,hn,ho,hp,hq,hr,ht,hu,hv,hw,hx,hy,hz,hd,he⟩:=hQ.x11;go_enter Tryz.func4,Tryz.ntmps4
 go_wp2_with fail
 refine (h2.out _ hc).mono ?_;rintro e w2 ⟨rfl,hb⟩;clear hf hg hh hi hj hk hl hm hn ho hp hq hr ht hu hv hw hx hy hz hd he;replace hQ:=hQ.after hb;replace hc:=bt hc hb;clear hb;obtain⟨hf,hg,hh,hi,hj,hk,hl,hm,hn,ho,hp,hq,hr,ht,hu,hv,hw,hx,hy,hz,hd,he⟩:=hQ.x11;go_wp2_with fail
 refine (Ha.out _ hc).mono ?_;rintro e w4 ⟨fv,rv,u,cx,rfl,hW,hX,hY,hA,hb⟩;clear hf hg hh hi hj hk hl hm hn ho hp hq hr ht hu hv hw hx hy hz hd he;simp only[]at hW hA ⊢;have Ht:=Kh hW;clear hW;obtain⟨fa1,fc1,rfl⟩:=RAt.form hX.ss;obtain⟨ya1,yc1,rfl⟩:=hY.zs.form;obtain⟨ua1,uc1,rfl⟩:=RAt.form hA;have hB:=hX.ss;have hy1:=hY.zs;simp only[List.length_map]at hB hA ⊢;clear hX hY;replace hQ:=hQ.after hb;replace hc:=bt hc hb;clear hb;obtain⟨hE,hD,hb⟩:=blk2 w4 #[.slice fa1 F.length fc1,.string cx,.slice ya1 Y.length yc1] #[.slice ua1 L.length uc1,.string tS,.int .i64 tP] 40 33;replace hB:=SsAt.after hB hb;replace hy1:=ZsAt.after hy1 hb;replace hA:=SsAt.after hA hb;replace hQ:=hQ.after hb;replace hc:=bt hc hb;clear hb;obtain⟨hf,hg,hh,hi,hj,hk,hl,hm,hn,ho,hp,hq,hr,ht,hu,hv,hw,hx,hy,hz,hd,he⟩:=hQ.x11;go_wp2_with fail
 refine (Hb.out _ hc).mono ?_;rintro e w8 ⟨fv2,rv2,u2,cx2,rfl,hF,hZ,h0,hC,hb⟩;clear hf hg hh hi hj hk hl hm hn ho hp hq hr ht hu hv hw hx hy hz hd he;simp only[]at hF hC ⊢;obtain rfl:cx2=cx:=hF.trans Ht.out.symm;clear hF;obtain⟨fa2,fc2,rfl⟩:=RAt.form hZ.ss;obtain⟨ya2,yc2,rfl⟩:=h0.zs.form;obtain⟨ua2,uc2,rfl⟩:=RAt.form hC;have hG:=hZ.ss;have hH:=h0.zs;simp only[List.length_map]at hG hC ⊢;replace hB:=SsAt.after hB hb;replace hy1:=ZsAt.after hy1 hb;replace hA:=SsAt.after hA hb;replace hE:=hE.after hb;replace hD:=hD.after hb;replace hc:=bt hc hb;clear hb hZ h0 hQ Ha Hb;obtain⟨h1,hV,hb⟩:=blk2 w8 #[.slice fa2 F.length fc2,.string cx2,.slice ya2 Y.length yc2] #[.slice ua2 L.length uc2,.string tS,.int .i64 tP] 40 33;replace hB:=SsAt.after hB hb;replace hy1:=ZsAt.after hy1 hb;replace hA:=SsAt.after hA hb;replace hG:=SsAt.after hG hb;replace hH:=ZsAt.after hH hb;replace hC:=SsAt.after hC hb;replace hE:=hE.after hb;replace hD:=hD.after hb;replace hc:=bt hc hb;clear hb;go_upto_region 5 with fail
 generalize (w8.alloc (.cells #[.slice fa2 F.length fc2,.string cx2,.slice ya2 Y.length yc2] 40)).alloc (.cells #[.slice ua2 L.length uc2,.string tS,.int .i64 tP] 33)=w9 at hB hy1 hA hG hH hC hE hD h1 hV hc ⊢;have Hc:=Kh (same17_c F Y cx2 _ _ _ _ _ Hq.out Hr.out hB hG hy1 hH);clear hB hG hy1 hH;obtain⟨hI,hJ,hK,hL,hM,hN⟩:=hE.x3;obtain⟨hO,hP,hR,hS,hT,hU⟩:=h1.x3;go_wp2_with fail
 refine (Hc.out).mono ?_;rintro e wb ⟨rfl,hb⟩;clear hI hJ hK hL hM hN;clear hO hP hR hS hT hU;replace hA:=SsAt.after hA hb;replace hC:=SsAt.after hC hb;replace hD:=hD.after hb;replace hV:=hV.after hb;replace hc:=bt hc hb;clear hb hE h1 Hc;have Hd:=Kh (sameTape17_c L tS tP _ _ _ Hs.out hA hC);clear hA hC;obtain⟨He,Hf,Hg,Hh,Hi,Hj⟩:=hD.x3;obtain⟨Hk,Hl,Hm,Hn,Ho,Hp⟩:=hV.x3;go_wp2_with fail
 refine (Hd.out).mono ?_;rintro e wa ⟨rfl,hb⟩;replace hc:=bt hc hb;clear hb Hd;have Hu:((k:Int)==(k:Int))=true:=by simp
 go_wp2_with fail
 refine (awake_c _).mono ?_;rintro e w10 ⟨rfl,hb9⟩;go_wp2;go_ret
 exact⟨rfl,bt hc hb9⟩
end
end Go.Proofs.YtihjpddbjhcbmaaGreatDoor
