import Derived.Test.YtdgddpnjkinciaaGreatDoorImg2
set_option linter.all false
set_option maxRecDepth 100000
set_option maxHeartbeats 16000000
namespace Go.Proofs.YtdgddpnjkinciaaGreatDoor
section
open Go.RowKit Go.Shelf
def LPost (w:World) (L:List Nat) (e:Ending) (w':World):Prop:=∃v,e=.returned (.tuple #[v,.int .i64 0])∧NOwn w' w.heap.size v L∧Bw w w'
theorem imgs_step (N:NSta) (Z:List Int) (k:Nat) (h:k<N.eqs.length):(N.imgs Z).take (k+1)=(N.imgs Z).take k++[imgV N Z N.eqs[k]]:=by
 unfold NSta.imgs;rw[←List.map_take,List.take_succ_eq_append_getElem h,List.map_append,List.map_take];rfl
theorem chk_elem {N:NSta} (h:N.chk=0) (k:Nat) (hk:k<N.eqs.length) (hg:N.eqs[k].grp<N.grps.length):grpE N.grps[N.eqs[k].grp].1 N.grps[N.eqs[k].grp].2=0∧hasB N.grps[N.eqs[k].grp].1 N.grps[N.eqs[k].grp].2 N.eqs[k].tgt=true∧∀x∈imgB N.eqs[k],hasB N.grps[N.eqs[k].grp].1 N.grps[N.eqs[k].grp].2 x=true:=by
 obtain⟨_,he,_⟩:=chk_inv h;unfold NSta.elem at he;rw[Bool.and_eq_true,List.all_eq_true,List.all_eq_true]at he;have h1:=he.1 _ (Gm hg);have h2:=he.2 _ (Gm hk);unfold elemQ at h2;rw[gp_at N _ hg,Bool.and_eq_true,List.all_eq_true]at h2;refine⟨by simpa [gr0] using h1,h2.1,fun x hx=>?_⟩;obtain⟨t,ht,rfl⟩:=List.mem_map.1 hx;exact h2.2 t ht
theorem imgX_lt {N:NSta} (hm:NOk N) (Z:List Int) (hz:∀z∈Z,z.natAbs<256^64) (q:NEqn) (hq:q∈N.eqs):∀z∈imgX Z q,z.natAbs<256^128:=by
 intro z hb;obtain⟨t,ht,rfl⟩:=List.mem_map.1 hb;obtain⟨_,_,_,h4⟩:=hm.e q hq;have h5:=(h4 t ht).2.2
 have h6:(Z.getD t.var 0).natAbs<256^64:=by
  rw[List.getD_eq_getElem?_getD];by_cases hv:t.var<Z.length
  ·rw[List.getElem?_eq_getElem hv];exact hz _ (Gm hv)
  ·rw[List.getElem?_eq_none (by omega)];exact Nat.pow_pos (by decide)
 rw[Int.natAbs_mul];exact Nl (Nat.mul_lt_mul'' h5 h6) (by rw[←Nat.pow_add];exact Nat.pow_le_pow_right (show 0<256 by decide) (by decide))
theorem images_c (N:NSta) (Z:List Int) (v1 v2 v3 v4:Value) (w:World) (hm:NOk N) (hS:NAt w v1 v2 v3 N) (hZ:ZsAt w v4 Z) (hz:∀z∈Z,z.natAbs<256^64) (hl:Z.length=N.vars.length) (hc:N.chk=0) :
  Calls Tryz.prog 79 #[.agg #[v1,v2,v3],v4] w (LPost w (N.imgs Z)):=by
 obtain⟨i0,Hr,hn,ho,hp⟩:=info_parts info_nat;have HO:=Kh Hr;have HP:=Kh hn;have HQ:=Kh ho;have HR:=Kh hp;clear Hr hn ho hp;obtain⟨a4,c4,rfl⟩:=hZ.form;have Hs:=Kh hz;have HL:=Kh hl;have HS:=Kh hc;have H6:=Kh hm;rw[hl]at hZ ⊢;clear hz hl hc;obtain⟨a1,c1,a2,c2,a3,c3,rfl,rfl,rfl⟩:=hS.forms;obtain⟨n1,hT⟩:∃n,n=N.grps.length:=⟨_,rfl⟩;obtain⟨n2,hU⟩:∃n,n=N.vars.length:=⟨_,rfl⟩;obtain⟨n3,hV⟩:∃n,n=N.eqs.length:=⟨_,rfl⟩;have HT:=Kh hT;have h2:=Kh hU;have Ht:=Kh hV;have l1:n1≤10:=by rw[hT];exact hm.ng
 have l2:n2≤12:=by rw[hU];exact hm.nv
 have l3:n3≤12:=by rw[hV];exact hm.ne
 have HM:=Kh hm;rw[←hT,←hU,←hV]at hS ⊢;clear hm hT hU hV;rw[←h2.out]at hZ;obtain⟨hP,hW,hq⟩:=blk2 w #[.slice a1 n1 c1,.slice a2 n2 c2,.slice a3 n3 c3] #[.slice a4 n2 c4] 43 44;replace hS:=hS.after hq;replace hZ:=hZ.after hq;obtain⟨h3,h4,h5,h6,h7,h8⟩:=hP.x3;go_enter Tryz.func79,Tryz.ntmps79
 go_wp2;clear h3 h4 h5 h6 h7 h8;generalize HU:(w.alloc (.cells #[.slice a1 n1 c1,.slice a2 n2 c2,.slice a3 n3 c3] 43)).alloc (.cells #[.slice a4 n2 c4] 44)=w1 at hP hW hq hS hZ;replace hP:Blk w1 w.heap.size 43 [.slice a1 n1 c1,.slice a2 n2 c2,.slice a3 n3 c3]:=hP;replace hW:Blk w1 (w.heap.size+1) 44 [.slice a4 n2 c4]:=hW;clear HU;go_loopw [7,18] (fun v7 i wr=>∃k:Nat,k≤n3∧i=.int .i64 k∧NOwn wr w1.heap.size v7 ((N.imgs Z).take k)∧Bw w1 wr) (fun _ i _=>n3-(intOf i).toNat)
 case atStart=>exact⟨0,by omega,rfl,World.ownsRow_nil _ _ _ _,Br⟩
 case round =>
  obtain⟨k,hk,rfl,hO,hg⟩:=hrel;obtain⟨wp,HV⟩:∃wp,wp=wr:=⟨_,rfl⟩;subst HV;have h9:=hS.after hg;have hY:=hP.after hg;have Hu:=hW.after hg;have Hv:=hZ.after hg;have Ha:=bt hq hg;by_cases hlt:k<n3
  ·have hi:k<N.eqs.length:=by rw[←Ht.out];exact hlt
   have hj:=Kh (HM.out.e _ (Gm hi));have h0:=Kh (chk_elem HS.out k hi hj.out.1);have Hw:=Kh (imgX_lt HM.out Z Hs.out _ (Gm hi));have Hx:=Kh (imgs_step N Z k hi);obtain⟨b,o,tv,rfl,H7,x1,x2,x3,hr⟩:=h9.eat hi;generalize (N.eqs[k]'hi)=q at x1 x2 x3 hr hj h0 Hw Hx;have he:=hj.out.1;have HW:q.grp<n1:=by rw[HT.out];exact he
   have Hy:=Kh (gp_at N q he);have Hb:=Kh (HM.out.g _ (Gm he));have Hz:Hid (imgV N Z q=pw (prs (N.grps[q.grp]'he).1 (imgB q) (imgX Z q)) 0%(N.grps[q.grp]'he).1):=by rw[Hid,imgV,Hy.out]
   obtain⟨b',o',rfl,hd,y1,y2⟩:=h9.gat he;generalize (N.grps[q.grp]'he)=gg at y1 y2 Hb h0 Hz;clear he Hy;obtain⟨p,qq⟩:=gg;simp only[]at y1 y2
   have hu:Hid (∀w',Bw wp w'→Calls Tryz.prog 125 #[.agg #[.int .i64 (q.grp:Int),.string (E q.tgt),tv],.pointer (some ⟨w.heap.size+1,0,none⟩)] w' fun e w''=>∃v1 v2,e=.returned (.tuple #[v1,v2,.int .i64 0])∧NOwn w'' w'.heap.size v1 (imgB q)∧ZOwn w'' w'.heap.size v2 (imgX Z q)∧(q.trms.length=0→v1=.slice none 0 0∧v2=.slice none 0 0)∧Bw w' w''):=fun w' Hc =>
    imc_c q Z w' _ _ _ _ _ n2 (by rw[HL.out,h2.out]) l2 hj.out.2.2.1 (fun t ht=>by rw[h2.out];exact hj.out.2.2.2 t ht) Hs.out (hr.after Hc) (Hu.after Hc) (Hv.after Hc)
   obtain⟨to_,tc,rfl⟩:=hr.form;obtain⟨n4,Hd⟩:∃n,n=q.trms.length:=⟨_,rfl⟩;have HA:=Kh Hd;rw[←Hd]at x3 hr hu;clear Hd;obtain⟨qg,HB⟩:∃g,g=q.grp:=⟨_,rfl⟩;obtain⟨qt,HC⟩:∃g,g=q.tgt:=⟨_,rfl⟩;rw[←HB]at x1 y1 y2 HW hu;rw[←HC]at x2 hu;clear HB HC;have H8:(0:Int)≤(k:Int):=by omega
   have H9:(k:Int)<(n3:Int):=by omega
   have ja:(0:Int)≤(qg:Int):=by omega
   have jb:(qg:Int)<(n1:Int):=by omega
   have HX:=hY.lt;obtain⟨hB,hb9⟩:=blk1 wp #[.int .i64 (qg:Int),.string (E qt),.slice to_ n4 tc] 87;obtain⟨He,Hf,Hg,Hh,Hi,Hj⟩:=hB.x3;go_wp2_with fail
   refine (hu.out _ hb9).mono ?_;rintro e w2 ⟨u1,u2,rfl,hN,hX,hv,Hk⟩;clear He Hf Hg Hh Hi Hj;have hb:=bt hb9 Hk;have Hl:=hB.after Hk;have Hm:=hY.after hb;have HD:=own_after hO hb;have hw:=bt hg hb;have z1:=(hb.cell (p:=⟨b',o'+qg*2,none⟩) hd).trans y1;have z2:=(hb.cell (p:=⟨b',o'+qg*2+1,none⟩) hd).trans y2;have HY:=Nl hd hb.size;have HZ:=Hm.lt;have H0:=Hl.lt;have hy:=Kh hv
   have HE:Hid (Calls Tryz.prog 85 #[.agg #[.string (E p),.string (E qq)],u1,u2] w2 fun e w'=>e=.returned (.tuple #[.string (E (imgV N Z q)),.int .i64 0])∧Bw w2 w'):=by
    rw[Hz.out]
    exact product_own p qq _ _ (imgB q) (imgX Z q) u1 u2 w2 Hb.out.1 (lt128 Hb.out.2) h0.out.1 (by simp[imgB,imgX]) (by have:=hj.out.2.2.1;simp[imgB];omega) h0.out.2.2 Hw.out hN hX
     (fun h=>(hy.out (by rw[HA.out];simpa [imgB] using h)).1) (fun h=>(hy.out (by rw[HA.out];simpa [imgX] using h)).2)
   clear hv Hk hb hB hY hO hg hN hX h9 Hu Hv hr hu hd y1 y2 x1 x2 x3 HX;obtain⟨hA,hC,hD,hE,hF,hG⟩:=Hm.x3;obtain⟨hH,hI,hJ,hK,hL,hM⟩:=Hl.x3;go_wp2_with fail
   refine HE.out.mono ?_;rintro e w3 ⟨rfl,Hn⟩;clear hA hC hD hE hF hG;clear hH hI hJ hK hL hM;have hQ:=own_after HD Hn;have hh:=bt hw Hn;have Ho:Hid (((N.imgs Z).take k).length=k):=by rw[Hid,List.length_take,NSta.imgs,List.length_map];omega
   rw[Ho.out]at hQ;clear HE Hn HD hw Hm Hl;have H1:=hh.size;have Hp:=Kh Hx.out;generalize imgV N Z q=iv at Hp ⊢;generalize (N.imgs Z).take k=LI at hQ Hp Ho;go_wp2_with (at_builtin;refine wpList_append_lies _ rfl (.tmp 47) (.tmp 49) _ rfl w1.heap.size 22 i0 _ 1 16 Tryz.underlying33 HO.out HP.out HQ.out HR.out rfl (by omega) u7 k (strs LI) rfl (own_after hQ (b1 _ (.cells #[.string (E iv)] 22))) ⟨w3.heap.size,0,none⟩ 1 1 [.string (E iv)] rfl rfl (Blk.new w3 #[.string (E iv)] 22).cells (by simp[Value.oneCell']) (by omega) (by simp only[maxLen];omega) (by omega) (by rw[World.size_alloc];omega) (w3.heap.size+1) (by simp) ?_;intro ga ca wa hR hf H2 Hq)
   have HF:NOwn wa w1.heap.size (.slice (some ⟨ga,0,none⟩) (k+1) ca) (LI++[iv]):=by rw[NOwn,List.length_append,Ho.out,←strs_app];exact hR
   rw[←Hp.out]at HF;have H3:=(ba hh (.cells #[.string (E iv)] 22)).grown hf (by rw[World.size_alloc];omega) (fun x hx=>(own_lt hQ hx).2);clear hR hf H2 Hq hQ hh;go_wp2;go_roundw
   case rel=>exact⟨k+1,by omega,by go_num,HF,H3⟩
   case measure=>simp[intOf];omega
  ·have H4:Hid ((N.imgs Z).take k=N.imgs Z):=List.take_of_length_le (by rw[NSta.imgs,List.length_map,←Ht.out];omega);rw[H4.out]at hO;have H5:=hq.size;obtain⟨HG,HH,HI,HJ,HK,HN⟩:=hY.x3;go_wp2;go_ret2
   exact⟨_,rfl,own_mono hO H5,Ha⟩
theorem Images_c (N:NSta) (Z:List Int) (v1 v2 v3 v4:Value) (w:World) (hm:NOk N) (hS:NAt w v1 v2 v3 N) (hZ:ZsAt w v4 Z) (hz:∀z∈Z,z.natAbs<256^64) (hl:Z.length=N.vars.length) (hc:N.chk=0) :
  Calls Tryz.prog 37 #[.agg #[v1,v2,v3],v4] w (LPost w (N.imgs Z)):=by
 obtain⟨a4,c4,rfl⟩:=hZ.form;have hb:=b1 w (.cells #[v1,v2,v3] 43);have he:=Kh (ready_c N Z v1 v2 v3 _ _ hm (hS.after hb) (hZ.after hb) (fun z h=>lt64 (hz z h)) hl hc);have hd:Hid (∀w',Bw w w'→Calls Tryz.prog 79 #[.agg #[v1,v2,v3],.slice a4 Z.length c4] w' (LPost w' (N.imgs Z))):=fun w' hp=>images_c N Z v1 v2 v3 _ w' hm (hS.after hp) (hZ.after hp) hz hl hc
 have hP:=Blk.new w #[v1,v2,v3] 43;obtain⟨a1,c1,a2,c2,a3,c3,rfl,rfl,rfl⟩:=hS.forms;generalize Z.length=n at he hd;generalize N.imgs Z=L at hd;generalize N.grps.length=n1 at hP hb he hd;generalize N.vars.length=n2 at hP hb he hd;generalize N.eqs.length=n3 at hP hb he hd;clear hm hS hZ hz hl hc;obtain⟨hf,hg,hh,hi,hj,hk⟩:=hP.x3;go_enter Tryz.func37,Tryz.ntmps37
 go_wp2_with fail
 refine he.out.mono ?_;rintro e w2 ⟨rfl,hn⟩;clear hf hg hh hi hj hk;replace hP:=hP.after hn;have ho:=bt hb hn;have hr:=hP.lt;clear hn;obtain⟨hf,hg,hh,hi,hj,hk⟩:=hP.x3;go_wp2_with fail
 refine (hd.out _ ho).mono ?_;rintro e w3 ⟨v,rfl,hO,hq⟩;go_wp2;go_ret2
 exact⟨v,rfl,own_mono hO ho.size,bt ho hq⟩
end
section
open Go.RowKit Go.Shelf
theorem rimages_c (N:NSta) (Z:List Int) (v1 v2 v3 v4:Value) (w:World) (hm:NOk N) (hS:NAt w v1 v2 v3 N) (hZ:ZsAt w v4 Z) (hz:∀z∈Z,z.natAbs<256^64) (hl:Z.length=N.vars.length) (hc:N.chk=0) :
  Calls Tryz.prog 27 #[.agg #[v1,v2,v3],v4] w (LPost w (N.imgs Z)):=by
 obtain⟨i0,jc,h0,h2,h3⟩:=info_parts info_nat;obtain⟨i1,jd,h4,h5,h6⟩:=info_parts info_Int;have je:=Kh jc;have jf:=Kh h0;have jg:=Kh h2;have jh:=Kh h3;have jC:=Kh jd;have jD:=Kh h4;have jE:=Kh h5;have jF:=Kh h6;clear jc h0 h2 h3 jd h4 h5 h6;obtain⟨a4,c4,rfl⟩:=hZ.form;have ji:=Kh hz;have HL:=Kh hl;have jG:=Kh hc;rw[hl]at hZ ⊢;clear hz hl hc;obtain⟨a1,c1,a2,c2,a3,c3,rfl,rfl,rfl⟩:=hS.forms;obtain⟨n1,Hs⟩:∃n,n=N.grps.length:=⟨_,rfl⟩;obtain⟨n2,Ht⟩:∃n,n=N.vars.length:=⟨_,rfl⟩;obtain⟨n3,Hu⟩:∃n,n=N.eqs.length:=⟨_,rfl⟩;have jH:=Kh Hs;have jj:=Kh Ht;have jk:=Kh Hu;have l1:n1≤10:=by rw[Hs];exact hm.ng
 have l2:n2≤12:=by rw[Ht];exact hm.nv
 have l3:n3≤12:=by rw[Hu];exact hm.ne
 have HM:=Kh hm;rw[←Hs,←Ht,←Hu]at hS ⊢;clear hm Hs Ht Hu;rw[←jj.out]at hZ;obtain⟨hP,Hv⟩:=blk1 w #[.slice a1 n1 c1,.slice a2 n2 c2,.slice a3 n3 c3] 43;replace hS:=hS.after Hv;replace hZ:=hZ.after (b1 w (.cells #[.slice a1 n1 c1,.slice a2 n2 c2,.slice a3 n3 c3] 43));obtain⟨HC,HD,HE,HF,HG,HH⟩:=hP.x3;go_enter Tryz.func27,Tryz.ntmps27
 go_wp2;clear HC HD HE HF HG HH;generalize w.alloc (.cells #[.slice a1 n1 c1,.slice a2 n2 c2,.slice a3 n3 c3] 43)=w1 at hP Hv hS hZ;replace hP:Blk w1 w.heap.size 43 [.slice a1 n1 c1,.slice a2 n2 c2,.slice a3 n3 c3]:=hP;go_loopw [6,7] (fun v6 i wr=>∃k:Nat,k≤n3∧i=.int .i64 k∧NOwn wr w1.heap.size v6 ((N.imgs Z).take k)∧Bw w1 wr) (fun _ i _=>n3-(intOf i).toNat)
 case atStart=>exact⟨0,by omega,rfl,World.ownsRow_nil _ _ _ _,Br⟩
 case round =>
  obtain⟨k,hk,rfl,hO,hU⟩:=hrel;obtain⟨wp,jI⟩:∃wp,wp=wr:=⟨_,rfl⟩;subst jI;have HI:=hS.after hU;have h7:=hP.after hU;have jl:=hZ.after hU;have HJ:=bt Hv hU;have jJ:=h7.lt;by_cases hlt:k<n3
  ·have hV:k<N.eqs.length:=by rw[←jk.out];exact hlt
   have hW:=Kh (HM.out.e _ (Gm hV));have Hw:=Kh (chk_elem jG.out k hV hW.out.1);have jm:=Kh (imgX_lt HM.out Z ji.out _ (Gm hV));have jn:=Kh (imgs_step N Z k hV);obtain⟨b,o,tv,rfl,ht,x1,x2,x3,h8⟩:=HI.eat hV;generalize (N.eqs[k]'hV)=q at x1 x2 x3 h8 hW Hw jm jn;have hu:=hW.out.1;have jK:q.grp<n1:=by rw[jH.out];exact hu
   have jo:=Kh (gp_at N q hu);have HK:=Kh (HM.out.g _ (Gm hu));have jp:Hid (imgV N Z q=pw (prs (N.grps[q.grp]'hu).1 (imgB q) (imgX Z q)) 0%(N.grps[q.grp]'hu).1):=by rw[Hid,imgV,jo.out]
   obtain⟨bg,og_,rfl,Hx,y1,y2⟩:=HI.gat hu;generalize (N.grps[q.grp]'hu)=gg at y1 y2 HK Hw jp;clear hu jo;obtain⟨p,qq⟩:=gg;simp only[]at y1 y2;obtain⟨to_,tc,rfl⟩:=h8.form;obtain⟨n4,HN⟩:∃n,n=q.trms.length:=⟨_,rfl⟩;have Hy:=Kh HN;rw[←HN]at x3 h8;clear HN;obtain⟨qg,jq⟩:∃g,g=q.grp:=⟨_,rfl⟩;obtain⟨qt,jr⟩:∃g,g=q.tgt:=⟨_,rfl⟩;rw[←jq]at x1 y1 y2 jK;rw[←jr]at x2;clear jq jr;have l4:n4≤12:=by rw[Hy.out];exact hW.out.2.2.1
   have j4:(0:Int)≤(k:Int):=by omega
   have j5:(k:Int)<(n3:Int):=by omega
   have j6:(0:Int)≤(qg:Int):=by omega
   have j7:(qg:Int)<(n1:Int):=by omega
   obtain⟨hQ,hq⟩:=blk1 wp #[.int .i64 (qg:Int),.string (E qt),.slice to_ n4 tc] 87;obtain⟨hv,hw,hy,hA,hB,hD⟩:=h7.x3;go_wp2;clear hv hw hy hA hB hD;have HO:=h7.after hq;have HP:=h8.after hq;have HQ:=jl.after hq;have HR:=own_after hO hq;have hK:=bt hU hq;have z1:=(hq.cell (p:=⟨bg,og_+qg*2,none⟩) Hx).trans y1;have z2:=(hq.cell (p:=⟨bg,og_+qg*2+1,none⟩) Hx).trans y2;have he:=Nl Hx hq.size;clear HI h7 jl hO hU h8 y1 y2 x1 x2 x3 ht Hx jJ;generalize wp.alloc (.cells #[.int .i64 (qg:Int),.string (E qt),.slice to_ n4 tc] 87)=wi at hQ hq HO HP HQ HR hK z1 z2 he;obtain⟨g8,js⟩:∃g,wp.heap.size=g:=⟨_,rfl⟩;rw[js]at hQ ⊢;replace hQ:Blk wi g8 87 [.int .i64 (qg:Int),.string (E qt),.slice to_ n4 tc]:=hQ;clear js hq;have h9:IRel wi 0 ((imgB q).take 0) ((imgX Z q).take 0) (.slice none 0 0) (.slice none 0 0) wi:=⟨World.ownsRow_nil _ _ _ _,World.ownsRow_nil _ _ _ _,rfl,rfl,fun _=>rfl,fun _=>rfl,Br⟩;go_loopw [9,10,11] (fun v9 v10 i wr=>∃k:Nat,k≤n4∧i=.int .i64 k∧IRel wi k ((imgB q).take k) ((imgX Z q).take k) v9 v10 wr) (fun _ _ i _=>n4-(intOf i).toNat)
   case atStart=>exact⟨0,by omega,rfl,h9⟩
   case round =>
    clear h9;obtain⟨j,hj,rfl,hI⟩:=hrel;obtain⟨wq,jL⟩:∃wq,wq=wr:=⟨_,rfl⟩;subst jL;have jt:=HP.after hI.b;have ju:=HQ.after hI.b;have hL:=hQ.after hI.b;have jM:=hL.lt;by_cases HS:j<n4
    ·have Ha:j<q.trms.length:=by rw[←Hy.out];exact HS
     have hM:=Kh (hW.out.2.2.2 _ (Gm Ha));have HT:=Kh (imgB_step q j Ha);have HU:=Kh (imgX_step Z q j Ha);obtain⟨b,o,rfl,ht,x1,x2,x3,x4⟩:=jt.at_ Ha;generalize (q.trms[j]'Ha)=t at x1 x2 x3 x4 hM HT HU;obtain⟨tb,tvv,tz⟩:=t;simp only[]at x1 x2 x3 x4;have hY:tvv<Z.length:=by rw[HL.out];exact hM.out.2.1
     have j8:tvv<n2:=by rw[jj.out];exact hM.out.2.1
     obtain⟨b',o',rfl,hN,y1,y2⟩:=ju.at_ hY;have HV:=Kh (ji.out _ (Gm hY));have jv:Hid (Z.getD tvv 0=Z[tvv]'hY):=by rw[Hid,List.getD_eq_getElem?_getD,List.getElem?_eq_getElem hY];rfl
     generalize (Z[tvv]'hY)=zz at y1 y2 HV jv;clear hY;have HW:=Kh hM.out.2.2;have HX:=Kh hM.out.1;simp only[]at HW HX
     have Hb:Hid (∀w:World,Calls Tryz.prog 67 #[.agg #[.bool (sg (tz)),.string (E (tz).natAbs)],.agg #[.bool (sg (zz)),.string (E (zz).natAbs)]] w fun e w'=>e=.returned (.tuple #[.agg #[.bool (sg (tz*zz)),.string (E (tz*zz).natAbs)],.int .i64 0])∧Bw w w'):=fun w =>
      rimul_c tz zz w (Nl HW.out (Nat.pow_le_pow_right (show 0<256 by decide) (show 16≤128 by decide))) (lt64 HV.out) (Nl (Nat.mul_lt_mul'' HW.out HV.out) (by rw[←Nat.pow_add];exact Nat.pow_le_pow_right (show 0<256 by decide) (by decide)))
     obtain⟨pz,HY⟩:∃p,p=tz*zz:=⟨_,rfl⟩;have jN:=Kh HY;rw[←HY]at Hb;clear HY;have j9:(0:Int)≤(j:Int):=by omega
     have Ja:(j:Int)<(n4:Int):=by omega
     have Jb:(0:Int)≤(tvv:Int):=by omega
     have Jc:(tvv:Int)<(n2:Int):=by omega
     have hC:CA wq [(⟨g8,2,none⟩,.slice (some ⟨b,o,none⟩) n4 tc),(⟨b,o+j*4+1,none⟩,.int .i64 (tvv:Int)),(⟨b,o+j*4+2,none⟩,.bool (sg tz)),(⟨b,o+j*4+3,none⟩,.string (E tz.natAbs)),(⟨b',o'+tvv*2,none⟩,.bool (sg zz)),(⟨b',o'+tvv*2+1,none⟩,.string (E zz.natAbs))]:=CA.cons jM (hL.cell 2) (CA.cons ht x2 (CA.cons ht x3 (CA.cons ht x4 (CA.cons hN y1 (CA.cons hN y2 (CA.nil _))))));have Hc:=fun x hx=>Nat.ne_of_lt (hC x hx).1
     clear jt ju x2 x3 x4 y1 y2;obtain⟨hf,hh,hi,hn,ho,hp⟩:=hL.x3;go_upto_region 11 with fail
     clear hf hh hi hn ho hp;go_cut [12,13] (fun s12 s13 wx=>ZBox wq pz s12 s13 wx)
     case first =>
      go_region_held3 (fun w'=>w'.cell? ⟨g8,2,none⟩=some (.slice (some ⟨b,o,none⟩) n4 tc)∧w'.cell? ⟨b,o+j*4+1,none⟩=some (.int .i64 (tvv:Int))∧w'.cell? ⟨b,o+j*4+2,none⟩=some (.bool (sg tz))∧w'.cell? ⟨b,o+j*4+3,none⟩=some (.string (E tz.natAbs))∧w'.cell? ⟨b',o'+tvv*2,none⟩=some (.bool (sg zz))∧w'.cell? ⟨b',o'+tvv*2+1,none⟩=some (.string (E zz.natAbs))) ((refine CA.k6 ?_;repeat (first | (with_reducible exact jO) | (with_reducible exact hC) | (with_reducible refine CA.drew ?_) | (with_reducible refine CA.alloc ?_ _) | (refine CA.set ?_ _ _ _ Hc))))
       ((go_at_call 67;refine (Hb.out _).mono ?_;rintro e wf ⟨rfl,hR⟩;have jO:CA wf [(⟨g8,2,none⟩,.slice (some ⟨b,o,none⟩) n4 tc),(⟨b,o+j*4+1,none⟩,.int .i64 (tvv:Int)),(⟨b,o+j*4+2,none⟩,.bool (sg tz)),(⟨b,o+j*4+3,none⟩,.string (E tz.natAbs)),(⟨b',o'+tvv*2,none⟩,.bool (sg zz)),(⟨b',o'+tvv*2+1,none⟩,.string (E zz.natAbs))]:=(by first | exact hC.drew.after hR | exact (hC.alloc _).drew.after hR | exact (hC.drew.alloc _).after hR);(try (have kA:=(Blk.new wq #[.bool false,.string { data:=#[] }] 28).drew.after hR;have kA0:=kA.cell 0;have kA1:=kA.cell 1;have kA2:=kA.free 0;have kA3:=kA.free 1))))
      all_goals
       go_wp2_with fail
       go_meet
       first
        | exact⟨_,rfl,rfl,Blk.new _ _ _,hR.size,ba ((Below.drew Br).trans hR) _⟩
        | exact⟨_,rfl,rfl,(kA.set 0 _).set 1 _,Nat.le_refl _,((bt ((b1 wq _).drew) hR).setCell (by simp) _).setCell (by simp) _⟩
     case rest =>
      obtain⟨gx,rfl,rfl,hX,Jd,Hz⟩:=hcut;obtain⟨wx,jP⟩:∃wx,wx=wc:=⟨_,rfl⟩;subst jP;have jQ:∀g,u10.ownBlock=some g→g<wq.heap.size:=fun g hg=>(own_lt hI.z hg).1
      have HA:=hL.after Hz;have x1':=(Hz.cell (p:=⟨b,o+j*4,none⟩) ht).trans x1;have jR:=Nl ht Hz.size;have hE:=hI.after Hz;have hF:wx.ownsRow wi.heap.size 22 1 u9 j (strs ((imgB q).take j)):=by have h:wx.ownsRow _ _ _ _ _ _:=hE.a;rw[hE.la]at h;exact h
      have HZ:wx.ownsRow wi.heap.size 28 2 u10 j (ics (((imgX Z q).take j).map zI)):=by have h:wx.ownsRow _ _ _ _ _ _:=hE.z;rw[hE.lz]at h;exact h
      have jw:=hE.b;have Je:=jw.size;have H0:=Kh hE.la;have H1:=Kh hE.lz;clear hE hI hC Hc hL x1 ht hN;generalize (imgB q).take j=LB at hF HT H0;generalize (imgX Z q).take j=LX at HZ HU H1;have jS:=HA.lt;have Jf:=fun g hg=>(own_lt hF (g:=g) hg)
      obtain⟨Hd,He,Hf,Hg,Hh,Hi⟩:=HA.x3;go_wp2_with (first | (at_builtin;refine wpList_append_lies _ rfl (.tmp 57) (.tmp 64) _ rfl wi.heap.size 22 i0 _ 1 16 Tryz.underlying33 je.out jf.out jg.out jh.out rfl (by omega) u9 j (strs LB) rfl (own_after hF (b1 _ (.cells #[.string (E tb)] 22))) ⟨wx.heap.size,0,none⟩ 1 1 [.string (E tb)] rfl rfl (Blk.new wx #[.string (E tb)] 22).cells (by simp[Value.oneCell']) (by omega) (by simp only[maxLen];omega) (by omega) (by rw[World.size_alloc];omega) (wx.heap.size+1) (by simp) ?_;intro ga ca wa hG hb H2 H3;clear H2 H3;have HB:=(hX.alloc (.cells #[.string (E tb)] 22)).grown hb (own_ne hF hX (by decide));have jT:=HB.lt;have jU:=HB.cell 0;have jV:=HB.cell 1;have hr:wa.ownsRow wi.heap.size 28 2 u10 j (ics (LX.map zI)):=own_grown (own_after HZ (b1 _ (.cells #[.string (E tb)] 22))) (own_after hF (b1 _ (.cells #[.string (E tb)] 22))) (by decide) hb;have jW:=(HA.alloc (.cells #[.string (E tb)] 22)).grown hb (own_ne hF HA (by decide));have H4:Bw wi wa:=Below.grown (Below.alloc jw (by omega) _) hb (by simp;omega) (fun g hg=>(own_lt hF hg).2);have Jg:=H4.size) | (at_builtin;refine wpList_append_lies _ rfl (.tmp 66) (.tmp 68) _ rfl wi.heap.size 28 i1 _ 2 24 Tryz.underlying44 jC.out jD.out jE.out jF.out rfl (by omega) u10 j (ics (LX.map zI)) rfl (own_after hr (b1 _ (.cells #[.bool (sg pz),.string (E pz.natAbs)] 28))) ⟨wa.heap.size,0,none⟩ 1 1 [.bool (sg pz),.string (E pz.natAbs)] rfl rfl (Blk.new wa #[.bool (sg pz),.string (E pz.natAbs)] 28).cells (by simp[Value.oneCell']) (by omega) (by simp only[maxLen];omega) (by omega) (by rw[World.size_alloc];omega) (wa.heap.size+1) (by simp) ?_;intro gb cb wb hH hd H5 H6;clear H5 H6;have jx:wb.ownsRow wi.heap.size 22 1 (.slice (some ⟨ga,0,none⟩) (j+1) ca) (j+1) (strs LB++[.string (E tb)]):=own_grown (own_after hG (b1 _ (.cells #[.bool (sg pz),.string (E pz.natAbs)] 28))) (own_after hr (b1 _ (.cells #[.bool (sg pz),.string (E pz.natAbs)] 28))) (by decide) hd;have jy:Bw wi wb:=Below.grown (Below.alloc H4 (by omega) _) hd (by simp;omega) (fun g hg=>(own_lt hr hg).2)))
      clear Hd He Hf Hg Hh Hi
      have h9:IRel wi (j+1) (LB++[tb]) (LX++[pz]) (.slice (some ⟨ga,0,none⟩) (j+1) ca) (.slice (some ⟨gb,0,none⟩) (j+1) cb) wb:=by
       refine⟨?_,?_,by simp[H0.out],by simp[H1.out],fun h=>by omega,fun h=>by omega,jy⟩
       ·rw[NOwn,List.length_append,H0.out,←strs_app];exact jx
       ·rw[ZOwn,List.length_append,H1.out,←ics_app];exact hH
      rw[←HT.out,jN.out,←jv.out,←HU.out]at h9;clear jx hH hG H4 jy hb hd hr HB jW hF HZ;go_wp2;go_roundw
      case rel=>exact⟨j+1,by omega,by go_num,h9⟩
      case measure=>simp[intOf];omega
    ·have HX:Hid ((imgB q).take j=imgB q):=List.take_of_length_le (by have:=Hy.out;simp[imgB];omega);have jX:Hid ((imgX Z q).take j=imgX Z q):=List.take_of_length_le (by have:=Hy.out;simp[imgX];omega);rw[HX.out,jX.out]at hI;have H7:=HO.after hI.b;have jz:=own_after HR hI.b;have Hj:=bt hK hI.b;have t1:=(hI.b.cell (p:=⟨bg,og_+qg*2,none⟩) he).trans z1;have t2:=(hI.b.cell (p:=⟨bg,og_+qg*2+1,none⟩) he).trans z2;have jY:=Nl he hI.b.size;have jZ:=H7.lt
     have jA:Hid (Calls Tryz.prog 58 #[.agg #[.string (E p),.string (E qq)],u9,u10] wq fun e w'=>e=.returned (.tuple #[.string (E (imgV N Z q)),.int .i64 0])∧Bw wq w'):=by
      rw[jp.out];exact rproduct_c p qq (imgB q) (imgX Z q) u9 u10 wq HK.out.1 (lt128 HK.out.2) Hw.out.1 (by simp[imgB,imgX]) (by have:=hW.out.2.2.1;simp[imgB];omega) Hw.out.2.2 jm.out hI.a.ss hI.z.zs
     clear hI HO HR hK z1 z2 he HP HQ;obtain⟨Hk,Hl,Hm,Hn,Ho,Hp⟩:=H7.x3;obtain⟨hf,hh,hi,hn,ho,hp⟩:=hL.x3;go_wp2_with fail
     refine jA.out.mono ?_;rintro e w3 ⟨rfl,H8⟩;clear Hk Hl Hm Hn Ho Hp;clear hf hh hi hn ho hp;have Hq:=own_after jz H8;have hT:=bt Hj H8;have H9:Hid (((N.imgs Z).take k).length=k):=by rw[Hid,List.length_take,NSta.imgs,List.length_map];omega
     rw[H9.out]at Hq;clear jA H8 jz Hj H7 hL hQ;have j0:=hT.size;have ja:=Kh jn.out;generalize imgV N Z q=iv at ja ⊢;generalize (N.imgs Z).take k=LI at Hq ja H9;go_wp2_with (at_builtin;refine wpList_append_lies _ rfl (.tmp 82) (.tmp 84) _ rfl w1.heap.size 22 i0 _ 1 16 Tryz.underlying33 je.out jf.out jg.out jh.out rfl (by omega) u6 k (strs LI) rfl (own_after Hq (b1 _ (.cells #[.string (E iv)] 22))) ⟨w3.heap.size,0,none⟩ 1 1 [.string (E iv)] rfl rfl (Blk.new w3 #[.string (E iv)] 22).cells (by simp[Value.oneCell']) (by omega) (by simp only[maxLen];omega) (by omega) (by rw[World.size_alloc];omega) (w3.heap.size+1) (by simp) ?_;intro ga ca wa Hr hJ j1 jb)
     have jB:NOwn wa w1.heap.size (.slice (some ⟨ga,0,none⟩) (k+1) ca) (LI++[iv]):=by rw[NOwn,List.length_append,H9.out,←strs_app];exact Hr
     rw[←ja.out]at jB;have j2:=(ba hT (.cells #[.string (E iv)] 22)).grown hJ (by rw[World.size_alloc];omega) (fun x hx=>(own_lt Hq hx).2);clear Hr hJ j1 jb Hq hT;go_wp2;go_roundw
     case rel=>exact⟨k+1,by omega,by go_num,jB,j2⟩
     case measure=>simp[intOf];omega
  ·have hM:Hid ((N.imgs Z).take k=N.imgs Z):=List.take_of_length_le (by rw[NSta.imgs,List.length_map,←jk.out];omega);rw[hM.out]at hO;have j3:=Hv.size;obtain⟨hv,hw,hy,hA,hB,hD⟩:=h7.x3;go_wp2;go_ret2
   exact⟨_,rfl,own_mono hO j3,HJ⟩
end
section
open Go.RowKit Go.Shelf
def kdN (b:Nat):Nat:=if b=0 then 0 else 1
theorem kind_c (b:Nat) (w:World):Calls Tryz.prog 72 #[.agg #[.string (E b)]] w fun e w'=>e=.returned (.int .i64 (kdN b:Nat))∧Bw w w':=by
 rcases Nat.eq_zero_or_pos b with rfl | h0
 ·have hz:=zE (n:=0) rfl;go_enter Tryz.func72,Tryz.ntmps72
  go_wp2;go_ret
  exact⟨rfl,b1 _ _⟩
 ·have hz:=nzE h0;have HK:Hid (kdN b=1):=if_neg (by omega);clear h0;go_enter Tryz.func72,Tryz.ntmps72
  go_wp2;go_ret
  exact⟨by rw[HK.out];rfl,b1 _ _⟩
theorem kindV_c (b k:Nat) (w:World) (h:kdN b=k):Calls Tryz.prog 72 #[.agg #[.string (E b)]] w fun e w'=>e=.returned (.int .i64 k)∧Bw w w':=by rw[←h];exact kind_c b w
theorem modular_c (C K q b:ByteArray) (w:World):Calls Tryz.prog 73 #[.agg #[.string C,.string K,.string q],.string b] w fun e w'=>e=.returned (.tuple #[.agg #[.string q,.string q],.int .i64 0])∧Bw w w':=by
 obtain⟨hA,hB,hb⟩:=blk2 w #[Value.string C,Value.string K,Value.string q] #[.string { data:=#[] },.string { data:=#[] }] 141 105;go_enter Tryz.func73,Tryz.ntmps73
 go_wp2;refine bodyPost_ret (v:=.tuple #[.agg #[.string q,.string q],.int .i64 0]) ?_ rfl ⟨rfl,?_⟩
 ·simp[results,Tryz.results73,go_sem]
 ·first | exact b2 _ _ _ | exact (hb.setCell (by simp) _).setCell (by simp) _
theorem mul_cb {C K b:Nat} (h1:1≤K):(C-1)*(b-1)≤K*C*b:=by
 refine Nat.le_trans (Nat.mul_le_mul (Nat.sub_le C 1) (Nat.sub_le b 1)) ?_;exact Nat.mul_le_mul_right _ (Nat.le_mul_of_pos_left _ h1)
theorem lt_mul3 {C K b:Nat} (hC:C<256^16) (hK:K<256^16) (hb:b<256^26):K*C<256^32∧K*C*b<256^58:=by
 have h1:K*C<256^32:=by
  have:=Nat.mul_lt_mul'' hK hC;rwa [←Nat.pow_add]at this
 have h2:K*C*b<256^58:=by
  have:=Nat.mul_lt_mul'' h1 hb;rwa [←Nat.pow_add]at this
 exact⟨h1,h2⟩
theorem lt128' {n k:Nat} (h:n<256^k) (hk:k≤128):n<256^128:=Nl h (Nat.pow_le_pow_right (by decide) hk)
theorem mulV_c (a b r:Nat) (w:World) (ha:a<256^128) (hb:b<256^128) (h:r<256^128) (hr:a*b=r) :
  Calls Tryz.prog 102 #[.string (E a),.string (E b)] w fun e w'=>e=.returned (.tuple #[.string (E r),.int .i64 0])∧Bw w w':=by
 rw[←hr];exact mul_c a b w ha hb (by rw[hr];exact h)
theorem subV_c (a b r:Nat) (w:World) (ha:a<256^128) (hb:b≤a) (hr:a-b=r) :
  Calls Tryz.prog 119 #[.string (E a),.string (E b)] w fun e w'=>e=.returned (.tuple #[.string (E r),.int .i64 0])∧Bw w w':=by
 rw[←hr];exact sub_c a b w ha hb
theorem integral_c (C K q b:Nat) (w:World) (hC:C<256^16) (hK:K<256^16) (hb:b<256^26) (h1:1≤C) (h2:1≤K) (h3:1≤b) :
  Calls Tryz.prog 74 #[.agg #[.string (E C),.string (E K),.string (E q)],.string (E b)] w fun e w'=>e=.returned (.tuple #[.agg #[.string (E (K*C*b)),.string (E (K*C*b-(C-1)*(b-1)))],.int .i64 0])∧Bw w w':=by
 obtain⟨hm,hd⟩:=lt_mul3 hC hK hb;have hn:=mul_cb (C:=C) (b:=b) h2;obtain⟨m1,hl⟩:∃m,m=K*C:=⟨_,rfl⟩;obtain⟨m2,ho⟩:∃m,m=m1*b:=⟨_,rfl⟩;obtain⟨c1,hu⟩:∃m,m=C-1:=⟨_,rfl⟩;obtain⟨d1,hv⟩:∃m,m=b-1:=⟨_,rfl⟩;obtain⟨e1,hw⟩:∃m,m=c1*d1:=⟨_,rfl⟩;obtain⟨t,ht⟩:∃m,m=m2-e1:=⟨_,rfl⟩;rw[←hl,←ho]at hd;rw[←hl]at hm;rw[←hu,←hv,←hl,←ho,←hw]at hn ⊢;rw[←ht];have HO:=Kh (fun w=>ofK_c 1 1 w rfl (by decide));have H1:=Kh (fun w=>mulV_c K C m1 w (lt128' hK (by decide)) (lt128' hC (by decide)) (lt128' hm (by decide)) hl.symm);have H2:=Kh (fun w=>mulV_c m1 b m2 w (lt128' hm (by decide)) (lt128' hb (by decide)) (lt128' hd (by decide)) ho.symm);have H3:=Kh (fun w=>subV_c C 1 c1 w (lt128' hC (by decide)) h1 hu.symm);have H4:=Kh (fun w=>subV_c b 1 d1 w (lt128' hb (by decide)) h3 hv.symm);have he:e1<256^128:=Nat.lt_of_le_of_lt hn (lt128' hd (by decide));have H5:=Kh (fun w=>mulV_c c1 d1 e1 w (by have:=lt128' hC (by decide);omega) (by have:=lt128' hb (show 26≤128 by decide);omega) he hw.symm);have H6:=Kh (fun w=>subV_c m2 e1 t w (lt128' hd (by decide)) hn ht.symm);obtain⟨hA,hB,hc⟩:=blk2 w #[Value.string (E C),Value.string (E K),Value.string (E q)] #[.string { data:=#[] },.string { data:=#[] }] 141 105;clear hC hK hb h1 h2 h3 hm hd hn hl ho hu hv hw ht he;go_enter Tryz.func74,Tryz.ntmps74
 go_wp2_with fail
 refine (HO.out _).mono ?_;rintro e w1 ⟨rfl,hp⟩;replace hA:=hA.after hp;replace hB:=hB.after hp;replace hc:=bt hc hp;clear hp;obtain⟨hf,hg,hh,hi,hj,hk⟩:=hA.x3;go_wp2_with fail
 refine (H1.out _).mono ?_;rintro e w2 ⟨rfl,hq⟩;clear hf hg hh hi hj hk;replace hA:=hA.after hq;replace hB:=hB.after hq;replace hc:=bt hc hq;clear hq;go_wp2_with fail
 refine (H2.out _).mono ?_;rintro e w3 ⟨rfl,hr⟩;replace hA:=hA.after hr;replace hB:=hB.after hr;replace hc:=bt hc hr;clear hr;obtain⟨hf,hg,hh,hi,hj,hk⟩:=hA.x3;go_wp2_with fail
 refine (H3.out _).mono ?_;rintro e w4 ⟨rfl,hb4⟩;clear hf hg hh hi hj hk;replace hB:=hB.after hb4;replace hc:=bt hc hb4;clear hb4;go_wp2_with fail
 refine (H4.out _).mono ?_;rintro e w5 ⟨rfl,hx⟩;replace hB:=hB.after hx;replace hc:=bt hc hx;clear hx;go_wp2_with fail
 refine (H5.out _).mono ?_;rintro e w6 ⟨rfl,hy⟩;replace hB:=hB.after hy;replace hc:=bt hc hy;clear hy;go_wp2_with fail
 refine (H6.out _).mono ?_;rintro e w7 ⟨rfl,hz⟩;replace hB:=hB.after hz;replace hc:=bt hc hz;clear hz;have hF:=hB.lt;obtain⟨hD,hG,hE,hH⟩:=hB.x2;go_wp2;refine bodyPost_ret (v:=.tuple #[.agg #[.string (E m2),.string (E t)],.int .i64 0]) ?_ rfl ⟨rfl,?_⟩
 ·simp[results,Tryz.results74,go_sem,hD,hE,hF]
 ·first | exact b2 _ _ _ | exact (hc.setCell (by simp) _).setCell (by simp) _
def blw (b:Nat) (x:Int) (l:Nat):Bool:=decide (x.natAbs<l)&&(!(vz b) || !(sg x))
theorem blw_ge {b l:Nat} {x:Int} (h:l≤x.natAbs):blw b x l=false:=by unfold blw;rw[decide_eq_false (by omega)];rfl
theorem blw_pos {b l:Nat} {x:Int} (h:x.natAbs<l) (hb:0<b):blw b x l=true:=by unfold blw;rw[Dt h,vz_pos hb];rfl
theorem blw_zero {l:Nat} {x:Int} (h:x.natAbs<l):blw 0 x l=!(sg x):=by unfold blw;rw[Dt h];rfl
theorem below_c (b:Nat) (x:Int) (l:Nat) (w:World) (hx:x.natAbs<256^128) (hl:l<256^128) :
  Calls Tryz.prog 39 #[.agg #[.string (E b)],.agg #[.bool (sg (x)),.string (E (x).natAbs)],.string (E l)] w fun e w'=>e=.returned (.bool (blw b x l))∧Bw w w':=by
 have HX:=Kh hx;have HL:=Kh hl;obtain⟨hA,hB,hb⟩:=blk2 w #[Value.string (E b)] #[.bool (sg x),.string (E x.natAbs)] 81 28;clear hx hl;rcases Nat.lt_or_ge x.natAbs l with hlt | he
 ·have hc:=cmp_neg _ _ hlt;have hj:=Kh hlt;clear hlt;rcases Nat.eq_zero_or_pos b with rfl | h0
  ·have HK:=Kh (fun w=>kindV_c 0 0 w rfl);have HF:=Kh (blw_zero hj.out);go_enter Tryz.func39,Tryz.ntmps39
   go_wp2_with fail
   refine (cmp_c _ _ _ HX.out HL.out).mono ?_;rintro e w' ⟨rfl,rfl⟩;go_wp2_with fail
   refine (HK.out _).mono ?_;rintro e w1 ⟨rfl,hd⟩;replace hB:=hB.after hd;replace hb:=bt hb hd;clear hd;have hk:=hB.lt;obtain⟨hf,hg,hh,hi⟩:=hB.x2;go_wp2;go_ret
   exact⟨by rw[HF.out];rfl,hb⟩
  ·have HK:=Kh (fun w=>kindV_c b 1 w (if_neg (by omega)));have HF:=Kh (blw_pos hj.out h0);clear h0;go_enter Tryz.func39,Tryz.ntmps39
   go_wp2_with fail
   refine (cmp_c _ _ _ HX.out HL.out).mono ?_;rintro e w' ⟨rfl,rfl⟩;go_wp2_with fail
   refine (HK.out _).mono ?_;rintro e w1 ⟨rfl,hd⟩;replace hB:=hB.after hd;replace hb:=bt hb hd;clear hd;have hk:=hB.lt;obtain⟨hf,hg,hh,hi⟩:=hB.x2;go_wp2;go_ret
   exact⟨by rw[HF.out];rfl,hb⟩
 ·have hc:=cmp_nneg _ _ he;have HF:=Kh (blw_ge (b:=b) he);clear he;go_enter Tryz.func39,Tryz.ntmps39
  go_wp2_with fail
  refine (cmp_c _ _ _ HX.out HL.out).mono ?_;rintro e w' ⟨rfl,rfl⟩;go_wp2;go_ret
  exact⟨by rw[HF.out];rfl,hb⟩
theorem svalid_c (l:List (Bool × ByteArray)) (v:Value) (w:World) (hn:l.length≤1000) (hs:∀x∈l,x.2.size≤1000) (hR:IsAt w v l) :
  Calls Tryz.prog 31 #[v] w fun e w'=>e=.returned (.bool (l.all fun x=>ivB x.1 x.2))∧Bw w w':=by
 obtain⟨r,hr⟩:∃r:Bool,r=l.all fun x=>ivB x.1 x.2:=⟨_,rfl⟩
 have hd:=Kh hr;rw[←hr];clear hr;obtain⟨ao,c,rfl⟩:=RAt.form hR;obtain⟨n,hf⟩:∃n,n=l.length:=⟨_,rfl⟩;have HN:=Kh hf;have HS:=Kh hs;rw[←hf]at hR hn ⊢;clear hf hs;go_enter Tryz.func31,Tryz.ntmps31
 go_wp2;go_loopw [7] (fun i wr=>∃k:Nat,k≤n∧i=.int .i64 k∧Hid ((l.take k).all (fun x=>ivB x.1 x.2)=true)∧Bw w wr) (fun i _=>n-(intOf i).toNat)
 case atStart=>exact⟨0,by omega,rfl,rfl,Br⟩
 case round =>
  obtain⟨k,hk,rfl,HA,he⟩:=hrel;obtain⟨wp,hi⟩:∃wp,wp=wr:=⟨_,rfl⟩;subst hi;replace hR:=IsAt.after hR he;by_cases hlt:k<n
  ·have hc:k<l.length:=by rw[←HN.out];exact hlt
   have HT:=Kh (all_take (fun x:Bool × ByteArray=>ivB x.1 x.2) l k hc);have hb:Hid (ivB (l[k]'hc).1 (l[k]'hc).2=false→r=false):=fun h=>by rw[hd.out];exact all_bad (fun x:Bool × ByteArray=>ivB x.1 x.2) l k hc h
   have hg:=Kh (HS.out _ (Gm hc));obtain⟨b,o,rfl,hj,x1,x2⟩:=IsAt.at_ hR hc;generalize (l[k]'hc)=x at x1 x2 HT hb hg;obtain⟨y1,y2⟩:=x;simp only[]at x1 x2;have hl:(0:Int)≤(k:Int):=by omega
   have hm:(k:Int)<(n:Int):=by omega
   clear hR;cases hv:ivB y1 y2
   ·have HF:Hid (r=false):=hb.out hv;have HV:=Kh hv;clear hv HT hb;go_wp2_with fail
    refine (ivalB_c y1 y2 false _ hg.out HV.out).mono ?_;rintro e w2 ⟨rfl,hh⟩;go_wp2;go_ret
    exact⟨by rw[HF.out];rfl,bt (ba he _) hh⟩
   ·have HX:Hid ((l.take (k+1)).all (fun x=>ivB x.1 x.2)=true):=by rw[Hid,HT.out,HA.out];exact hv
    have HV:=Kh hv;clear hv HT hb;go_wp2_with fail
    refine (ivalB_c y1 y2 true _ hg.out HV.out).mono ?_;rintro e w2 ⟨rfl,hh⟩;go_wp2;go_roundw
    case rel=>exact⟨k+1,by omega,by go_num,HX,bt (ba he _) hh⟩
    case measure=>simp[intOf];omega
  ·have HF:Hid (r=true):=by rw[Hid,hd.out];exact all_end _ l k (by rw[←HN.out];omega) HA.out
   go_wp2;go_ret
   exact⟨by rw[HF.out];rfl,he⟩
end
section
open Go.RowKit Go.Shelf
def lim (q C K b:Nat):Nat × Nat:=if b=0 then (q,q) else (K*C*b,K*C*b-(C-1)*(b-1))
def NSta.lims (N:NSta) (C K:Nat):List (Nat × Nat):=N.vars.map (lim N.ord C K)
def lcs (L:List (Nat × Nat)):List Value:=L.flatMap fun x=>[.string (E x.1),.string (E x.2)]
theorem lcs_app (a b:List (Nat × Nat)):lcs a++lcs b=lcs (a++b):=by simp[lcs]
theorem lcs_get (L:List (Nat × Nat)) (j:Nat) (h:j<L.length):(lcs L)[j*2]?=some (.string (E L[j].1))∧(lcs L)[j*2+1]?=some (.string (E L[j].2)):=by
 induction L generalizing j with
 | nil=>simp at h
 | cons x t ih =>
  cases j with
  | zero=>exact⟨rfl,rfl⟩
  | succ j =>
   have h':j<t.length:=by simpa using h
   have:=ih j h';rw[show (j+1)*2=j*2+2 by omega];simpa [lcs] using this
def LmOwn (w:World) (base:Nat) (v:Value) (L:List (Nat × Nat)):Prop:=w.ownsRow base 105 2 v L.length (lcs L)
theorem LmOwn.after {w w':World} {base:Nat} {v:Value} {L:List (Nat × Nat)} (h:LmOwn w base v L) (hb:Bw w w'):LmOwn w' base v L:=own_after h hb
theorem LmOwn.form {w:World} {base:Nat} {v:Value} {L:List (Nat × Nat)} (h:LmOwn w base v L):∃ao c,v=.slice ao L.length c:=by
 have k:w.ownsRow base 105 2 v L.length (lcs L):=h;rcases k.2 with⟨rfl,h2⟩ | ⟨g,cap,cur,rfl,_⟩
 ·exact⟨none,0,by rw[h2]⟩
 ·exact⟨_,_,rfl⟩
theorem LmOwn.at_ {w:World} {base n c:Nat} {ao:Option Addr} {L:List (Nat × Nat)} (h:LmOwn w base (.slice ao n c) L) {j:Nat} (hj:j<L.length) :
  ∃b,ao=some ⟨b,0,none⟩∧b<w.heap.size∧w.cell? ⟨b,j*2,none⟩=some (.string (E L[j].1))∧w.cell? ⟨b,j*2+1,none⟩=some (.string (E L[j].2)):=by
 have k:w.ownsRow base 105 2 (.slice ao n c) L.length (lcs L):=h;rcases k.2 with⟨hv,h2⟩ | ⟨g,cap,cur,hv,h3,h4,_⟩
 ·omega
 ·injection hv with e1 e2 e3
  subst e1 e2 e3;obtain⟨q1,q2⟩:=lcs_get L j hj;exact⟨g,rfl,(Array.getElem?_eq_some_iff.1 h4).1,own_cellS k _ _ q1,own_cellS k _ _ q2⟩
theorem info_lim:(Tryz.prog.info? 105).map (fun i=>(i.zero,i.size,i.bytes))=some (some (.agg #[.string { data:=#[] },.string { data:=#[] }]),2,32):=by kernel_rfl
def SBox (w:World) (T:TypeId) (cs:List Value) (s8:Value) (wx:World):Prop:=∃g,s8=.pointer (some ⟨g,0,none⟩)∧Blk wx g T cs∧w.heap.size≤g∧Bw w wx
theorem chk0_c (N:NSta) (v1 v2 v3:Value) (w:World) (hm:NOk N) (hS:NAt w v1 v2 v3 N) (hc:N.chk=0) :
  ∀w',Bw w w'→Calls Tryz.prog 69 #[.agg #[v1,v2,v3]] w' fun e w''=>e=.returned (.int .i64 0)∧Bw w' w'':=fun w' hb=>by
 have h:=check_c N v1 v2 v3 w' hm (hS.after hb);rw[hc]at h;exact h
theorem ord_lt {N:NSta} (hm:NOk N):N.ord<256^8:=by
 by_cases h:N.grps.all og=true
 ·rw[ord_none N h];decide
 ·unfold NSta.ord;cases hf:(N.grps.map (·.2)).find? (· != 0) with
  | none=>exact Nat.pow_pos (by decide)
  | some q =>
   have:=List.mem_of_find?_eq_some hf;obtain⟨g,hg,rfl⟩:=List.mem_map.1 this;exact (hm.g g hg).2
end
end Go.Proofs.YtdgddpnjkinciaaGreatDoor
