/- Prove of both sides: one error,one proof,one tape;the law's walk. -/
import Derived.Test.YtihjpddbjhcbmaaGreatDoorArgC
import Derived.Test.YtihjpddbjhcbmaaGreatDoorAw16
import Derived.Test.YtihjpddbjhcbmaaGreatDoorPvR
set_option linter.unusedVariables false
set_option linter.unusedSimpArgs false
set_option maxRecDepth 100000
set_option maxHeartbeats 16000000
namespace Go.Proofs.YtihjpddbjhcbmaaGreatDoor
section
/- Commit of both sides: one error,one result;the law's walk. -/
open Go.RowKit Go.Shelf
theorem rsameT_c (T:Tp) (u v:Value) (w:World) (hn:T.vals.length≤1000) (hA:SsAt w u T.vals) (hB:SsAt w v T.vals) :
  Calls Tryz.prog 21 #[.agg #[u,.string T.seed,.int .i64 T.pos],.agg #[v,.string T.seed,.int .i64 T.pos]] w fun e w'=>e=.returned (.bool true)∧Bw w w':=by
 obtain⟨ao,c,rfl⟩:=RAt.form hA;obtain⟨bo,d,rfl⟩:=RAt.form hB;obtain⟨V,sd,ti⟩:=T;simp only[]at hn hA hB ⊢;obtain⟨n,hr⟩:∃n,V.length=n:=⟨_,rfl⟩;have hx:=Kh hr;rw[hr]at hA hB hn ⊢;clear hr;obtain⟨hP,hQ,hq⟩:=blk2 w #[.slice ao n c,.string sd,.int .i64 ti] #[.slice bo n d,.string sd,.int .i64 ti] 33 33;replace hA:=SsAt.after hA hq;replace hB:=SsAt.after hB hq;have e0:(ti != ti)=false:=by simp
 have e2:((n:Int) != (n:Int))=false:=by simp
 have e3:(sd.toList != sd.toList)=false:=by simp
 obtain⟨hb,hc,hd,he,hf,hg⟩:=hP.x3;obtain⟨hi,hj,hl,hm,ho,hp⟩:=hQ.x3;go_enter Tryz.func21,Tryz.ntmps21
 go_wp2;clear hb hc hd he hf hg;clear hi hj hl hm ho hp;generalize (w.alloc (.cells #[.slice ao n c,.string sd,.int .i64 ti] 33)).alloc (.cells #[.slice bo n d,.string sd,.int .i64 ti] 33)=w1 at hP hQ hA hB hq ⊢;obtain⟨gP,ht⟩:∃g,w.heap.size=g:=⟨_,rfl⟩;obtain⟨gQ,hu⟩:∃g,w.heap.size+1=g:=⟨_,rfl⟩;rw[hu,ht];rw[ht]at hP;rw[hu]at hQ;clear ht hu e0 e2 e3;replace hP:Blk w1 gP 33 [.slice ao n c,.string sd,.int .i64 ti]:=hP;replace hQ:Blk w1 gQ 33 [.slice bo n d,.string sd,.int .i64 ti]:=hQ;go_loopw [5] (fun i wr=>∃k:Nat,k≤n∧i=.int .i64 k∧Bw w1 wr) (fun i _=>n-(intOf i).toNat)
 case atStart=>exact⟨0,by omega,rfl,Br⟩
 case round =>
  obtain⟨k,hk,rfl,hh⟩:=hrel;obtain⟨wp,hy⟩:∃wp,wp=wr:=⟨_,rfl⟩;subst hy;replace hA:=SsAt.after hA hh;replace hB:=SsAt.after hB hh;replace hP:=hP.after hh;replace hQ:=hQ.after hh;by_cases hlt:k<n
  ·have hv:k<V.length:=by rw[hx.out];exact hlt
   obtain⟨b,o,rfl,l1,x1⟩:=SsAt.at_ hA hv;obtain⟨b',o',rfl,l2,y1⟩:=SsAt.at_ hB hv;generalize V[k]'hv=z at x1 y1;have hH:(0:Int)≤(k:Int):=by omega
   have hI:(k:Int)<(n:Int):=by omega
   have g1:=gcl (a:=⟨b,o+k,none⟩) l1 x1;have g2:=gcl (a:=⟨b',o'+k,none⟩) l2 y1;have z1:(z.toList != z.toList)=false:=by simp
   clear x1 y1 hA hB;obtain⟨hb,hc,hd,he,hf,hg⟩:=hP.x3;obtain⟨hi,hj,hl,hm,ho,hp⟩:=hQ.x3;have hz:=hP.gcell 0;have hC:=hP.gcell 1;have hD:=hP.gcell 2;have hE:=hQ.gcell 0;have hF:=hQ.gcell 1;have hG:=hQ.gcell 2;go_upto_region 6 with fail
   go_wp2_with fail
   refine wp_region_gw (by kernel_rfl) (by kernel_rfl) ?_;repeat (go_big_quiet_step (first | (fail)))
   refine wpQuiet_nil ?_;rintro w2 ⟨xw2,rfl⟩;have hw:=gw_below xw2;generalize gw xw2=w2 at hw;go_wp2;go_roundw
   case rel=>exact⟨k+1,by omega,by go_num,bt hh hw⟩
   case measure=>simp[intOf];omega
  ·obtain rfl:k=n:=by omega
   obtain⟨hb,hc,hd,he,hf,hg⟩:=hP.x3;go_wp2;go_ret
   exact⟨rfl,bt hq hh⟩
theorem drwR_len (N:NSta) (att:Att) (C K:Nat) (T:Tp):(N.drwR att C K T).msk.length≤N.vars.length∧(N.drwR att C K T).tp.vals.length≤T.vals.length:=by
 unfold NSta.drwR NSta.drwL;split
 ·exact⟨Nat.zero_le _,Nat.zero_le _⟩
 ·exact⟨by simp,Nat.le_refl _⟩
theorem fstR_len (N:NSta) (R:Drw):(N.fstR R).length≤N.eqs.length:=by
 unfold NSta.fstR;split
 ·simp[NSta.imgs]
 ·exact Nat.zero_le _
end
section
open Go.RowKit Go.Shelf
theorem prv_len (N:NSta) (att:Att) (C K c:Nat) (W:List Int):∀(f:Nat) (T:Tp),(N.prv att C K c W f T).msk.length≤N.vars.length∧(N.prv att C K c W f T).tp.vals.length≤T.vals.length
 | 0,T=>⟨Nat.zero_le _,Nat.zero_le _⟩
 | f+1,T=>by
  have h:=drwR_len N att C K T;unfold NSta.prv;split
  ·exact⟨Nat.zero_le _,Nat.zero_le _⟩
  ·split
   ·exact h
   ·have:=prv_len N att C K c W f (N.drwR att C K T).tp;omega
theorem prvR_len (N:NSta) (att:Att) (C K c:Nat) (W:List Int) (T:Tp):(N.prvR att C K c W T).msk.length≤N.vars.length∧(N.prvR att C K c W T).tp.vals.length≤T.vals.length:=by
 unfold NSta.prvR;have h:=prv_len N att C K c W 64 T;repeat (first | (split;(exact⟨Nat.zero_le _,Nat.zero_le _⟩)) | exact h)
theorem rspO_len (N:NSta) (c:Nat) (W:List Int) (R:Drw):(N.rspO c W R).length≤N.vars.length:=by
 unfold NSta.rspO NSta.rspL;split
 ·simp
 ·exact Nat.zero_le _
theorem prove_all16 (S:Sta) (C K ch sd:ByteArray) (l:List (Bool × ByteArray)) (V:List ByteArray) (ti:Int) (v1 v2 v3 vw vt:Value) (w:World) (hC:C.size≤16) (hK:K.size≤16) (hf:fewB S=true) (hS:StAt w v1 v2 v3 S)
  (he:l.length≤1000) (hg:∀x∈l,x.2.size≤60) (hj:ch.size≤100) (hW:IsAt w vw l) (hn:V.length≤100) (hs:∀x∈V,x.size≤100) (hl:sd.size≤100) (hV:SsAt w vt V) (ht:TabW w) :
  ∃(R:Drw) (F:List Nat) (Y:List Int),(F.length≤1000∧Y.length≤1000∧R.tp.vals.length≤1000)∧(∀w',Bw w w'→Calls Tryz.prog 18 #[.agg #[.string C,.string K],.agg #[v1,v2,v3],vw,.string ch,.agg #[vt,.string sd,.int .i64 ti]] w' (PPost w' ch R F Y)) ∧
   (∀w',Bw w w'→Calls Tryz.prog 19 #[.agg #[.string C,.string K],.agg #[v1,v2,v3],vw,.string ch,.agg #[vt,.string sd,.int .i64 ti]] w' (PPost w' ch R F Y)):=by
 obtain⟨k,hk,h1,h2⟩ | ⟨N,c,k,rfl,rfl,hc,hk,rfl,hm,h0,c2,k2,hv⟩:=bnd_two S C K v1 v2 v3 w hC hK hf hS
 ·exact⟨⟨k,[],Tp.nil⟩,[],[],⟨by simp,by simp,by simp[Tp.nil]⟩,fun w' hb=>sprove_err C K ch sd v1 v2 v3 vw vt ti k w' hk (fun w2 hd=>h1 w2 (bt hb hd)),fun w' hb=>rprove_err C K ch sd v1 v2 v3 vw vt ti k w' hk (fun w2 hd=>h2 w2 (bt hb hd))⟩
 ·cases hp:pvB l ch
  ·exact⟨⟨3,[],Tp.nil⟩,[],[],⟨by simp,by simp,by simp[Tp.nil]⟩,fun w' hb=>by
    refine sprove_form (E c) (E k) ch sd l v1 v2 v3 vw vt ti w' (fun w2 hd=>(bounds_ok N c k v1 v2 v3 w2 hc hk c2 k2 hv hm (NAt.after (show NAt w v1 v2 v3 N from hS) (bt hb hd)) h0).mono ?_) he (fun x hx=>by have:=hg x hx;omega) (by omega) (IsAt.after hW hb) hp;rintro e w3 ⟨v,rfl,_,hh⟩;exact⟨v,rfl,hh⟩,fun w' hb=>by
    refine rprove_form (E c) (E k) ch sd l v1 v2 v3 vw vt ti w' (fun w2 hd=>(rbounds_ok N c k v1 v2 v3 w2 hc hk c2 k2 hv hm (NAt.after (show NAt w v1 v2 v3 N from hS) (bt hb hd)) h0).mono ?_) he (fun x hx=>by have:=hg x hx;omega) (by omega) (IsAt.after hW hb) hp;rintro e w3 ⟨v,u,rfl,_,_,hh⟩;exact⟨v,u,rfl,hh⟩⟩
  ·skip
   have hN:NAt w v1 v2 v3 N:=hS;simp only[pvB,Bool.and_eq_true,List.all_eq_true]at hp;obtain⟨p1,p3⟩:=hp;obtain⟨W,rfl,ho⟩:=ints_lift l 60 p1 hg;obtain⟨x,hx,rfl⟩:=numk hj p3;have hq:N.vars.any vz=true→0<N.ord:=fun h=>by have:=hv h;omega
   have w6:∀z∈W,z.natAbs<256^64:=fun x hx=>Nl (ho x hx) P8
   obtain⟨T,hT⟩:∃T:Tp,T=⟨V,sd,ti⟩:=⟨_,rfl⟩;have hi:T.Ok:=by rw[hT];exact⟨hn,hs,hl⟩
   have e1:V=T.vals:=by rw[hT]
   have e2:sd=T.seed:=by rw[hT]
   have e3:ti=T.pos:=by rw[hT]
   clear hT;subst e1 e2 e3;have l1:=prvR_len N attN c k x W T;have l2:=fstR_len N (N.prvR attN c k x W T);have l3:=rspO_len N x W (N.prvR attN c k x W T);have l4:=hm.nv;have l5:=hm.ne;exact⟨N.prvR attN c k x W T,N.fstR (N.prvR attN c k x W T),N.rspO x W (N.prvR attN c k x W T),⟨by omega,by omega,by omega⟩,fun w' hb=>sprove_num attN N c k x W T v1 v2 v3 vw vt w' (hatt T.seed w' (by omega) (ht.after hb)) hi hc hk hm (hN.after hb) h0 (fun w2 hd=>bounds_ok N c k v1 v2 v3 w2 hc hk c2 k2 hv hm (hN.after (bt hb hd)) h0) (ZsAt.after hW hb) (SsAt.after hV hb) hx (by simpa using he) w6 hq,fun w' hb=>rprove_num attN N c k x W T v1 v2 v3 vw vt w' (ratt T.seed (by omega)) hi hc hk hm (hN.after hb) h0 (fun w2 hd=>rbounds_ok N c k v1 v2 v3 w2 hc hk c2 k2 hv hm (hN.after (bt hb hd)) h0) (ZsAt.after hW hb) (SsAt.after hV hb) hx (by simpa using he) w6 hq⟩
theorem sameNats_v (u v:Value) (L:List Nat) (w:World) (hn:L.length≤1000) (hA:SsAt w u (L.map E)) (hB:SsAt w v (L.map E)) :
  Calls Tryz.prog 51 #[u,v] w fun e w'=>e=.returned (.bool true)∧Bw w w':=by
 generalize hV:L.map E=V at hA hB;have hf:V.length≤1000:=by rw[←hV,List.length_map];exact hn
 clear hV hn;obtain⟨ao,c,rfl⟩:=RAt.form hA;obtain⟨bo,d,rfl⟩:=RAt.form hB;obtain⟨n,hc⟩:∃n,V.length=n:=⟨_,rfl⟩;have hg:=Kh hc;rw[hc]at hA hB hf ⊢;clear hc;have e2:((n:Int) != (n:Int))=false:=by simp
 go_enter Tryz.func51,Tryz.ntmps51
 go_wp2;clear e2;go_loopw [5] (fun i wr=>∃k:Nat,k≤n∧i=.int .i64 k∧Bw w wr) (fun i _=>n-(intOf i).toNat)
 case atStart=>exact⟨0,by omega,rfl,Br⟩
 case round =>
  obtain⟨k,hk,rfl,hb⟩:=hrel;obtain⟨wp,hh⟩:∃wp,wp=wr:=⟨_,rfl⟩;subst hh;replace hA:=SsAt.after hA hb;replace hB:=SsAt.after hB hb;by_cases hlt:k<n
  ·have hd:k<V.length:=by rw[hg.out];exact hlt
   obtain⟨b,o,rfl,l1,x1⟩:=SsAt.at_ hA hd;obtain⟨b',o',rfl,l2,y1⟩:=SsAt.at_ hB hd;generalize V[k]'hd=z at x1 y1;have hi:(0:Int)≤(k:Int):=by omega
   have hj:(k:Int)<(n:Int):=by omega
   have g1:=gcl (a:=⟨b,o+k,none⟩) l1 x1;have g2:=gcl (a:=⟨b',o'+k,none⟩) l2 y1;have z1:(z.toList != z.toList)=false:=by simp
   clear x1 y1 hA hB;go_wp2_with fail
   refine wp_region_gw (by kernel_rfl) (by kernel_rfl) ?_;repeat (go_big_quiet_step (first | (fail)))
   refine wpQuiet_nil ?_;rintro w2 ⟨xw2,rfl⟩;have he:=gw_below xw2;generalize gw xw2=w2 at he;go_wp2;go_roundw
   case rel=>exact⟨k+1,by omega,by go_num,bt hb he⟩
   case measure=>simp[intOf];omega
  ·obtain rfl:k=n:=by omega
   go_wp2;go_ret
   exact⟨rfl,hb⟩
theorem rsameP_c (ch:ByteArray) (F:List Nat) (Y:List Int) (f1 f2 y1 y2:Value) (w:World) (hF:F.length≤1000) (hY:Y.length≤1000) (hp:SsAt w f1 (F.map E)) (hq:SsAt w f2 (F.map E)) (hy1:ZsAt w y1 Y) (hr:ZsAt w y2 Y) :
  Calls Tryz.prog 20 #[.agg #[f1,.string ch,y1],.agg #[f2,.string ch,y2]] w fun e w'=>e=.returned (.bool true)∧Bw w w':=by
 obtain⟨hP,hQ,hc⟩:=blk2 w #[f1,.string ch,y1] #[f2,.string ch,y2] 40 40;have HA:Hid (∀w',Bw w w'→Calls Tryz.prog 51 #[f1,f2] w' fun e w''=>e=.returned (.bool true)∧Bw w' w''):=fun w' hb=>sameNats_v f1 f2 F w' hF (SsAt.after hp hb) (SsAt.after hq hb)
 have HB:Hid (∀w',Bw w w'→Calls Tryz.prog 91 #[y1,y2] w' fun e w''=>e=.returned (.bool true)∧Bw w' w''):=fun w' hb=>sameInts_c y1 y2 Y w' hY (ZsAt.after hy1 hb) (ZsAt.after hr hb)
 clear hF hY hp hq hy1 hr;obtain⟨hd,he,hf,hg,hh,hi⟩:=hP.x3;obtain⟨hj,hk,hl,hm,hn,ho⟩:=hQ.x3;go_enter Tryz.func20,Tryz.ntmps20
 go_wp2_with fail
 refine (HA.out _ hc).mono ?_;rintro e w2 ⟨rfl,hb⟩;clear hd he hf hg hh hi;clear hj hk hl hm hn ho;replace hP:=hP.after hb;replace hQ:=hQ.after hb;replace hc:=bt hc hb;clear hb;obtain⟨hd,he,hf,hg,hh,hi⟩:=hP.x3;obtain⟨hj,hk,hl,hm,hn,ho⟩:=hQ.x3;go_wp2_with fail
 refine (HB.out _ hc).mono ?_;rintro e w3 ⟨rfl,hb⟩;clear hd he hf hg hh hi;clear hj hk hl hm hn ho;replace hc:=bt hc hb;clear hb hP hQ;go_wp2;go_ret
 exact⟨rfl,hc⟩
theorem sp_walk (C K ch sd:ByteArray) (i:Int) (s1 s2 s3 sw sm st:Option Addr) (m1 m2 m3 mw mm mt d1 d2 d3 dw dm dt:Nat) (w:World) (bf bs:Bool)
  (HF:∀w',Bw w w'→Calls Tryz.prog 15 #[.agg #[.string C,.string K],.agg #[.slice s1 m1 d1,.slice s2 m2 d2,.slice s3 m3 d3]] w' fun e w''=>e=.returned (.bool bf)∧Bw w' w'')
  (HS:∀w',Bw w w'→Calls Tryz.prog 16 #[.agg #[.slice sw mw dw,.slice sm mm dm,.string ch,.slice st mt dt,.string sd,.int .i64 i]] w' fun e w''=>e=.returned (.bool bs)∧Bw w' w'')
  (HV:bf=true→bs=true→∃(R:Drw) (F:List Nat) (Y:List Int),(F.length≤1000∧Y.length≤1000∧R.tp.vals.length≤1000)∧(∀w',Bw w w'→Calls Tryz.prog 18 #[.agg #[.string C,.string K],.agg #[.slice s1 m1 d1,.slice s2 m2 d2,.slice s3 m3 d3],.slice sw mw dw,.string ch,.agg #[.slice st mt dt,.string sd,.int .i64 i]] w' (PPost w' ch R F Y)) ∧
   (∀w',Bw w w'→Calls Tryz.prog 19 #[.agg #[.string C,.string K],.agg #[.slice s1 m1 d1,.slice s2 m2 d2,.slice s3 m3 d3],.slice sw mw dw,.string ch,.agg #[.slice st mt dt,.string sd,.int .i64 i]] w' (PPost w' ch R F Y))) :
  Calls Tryz.prog 3 #[.agg #[.string C,.string K],.agg #[.slice s1 m1 d1,.slice s2 m2 d2,.slice s3 m3 d3],.agg #[.slice sw mw dw,.slice sm mm dm,.string ch,.slice st mt dt,.string sd,.int .i64 i]] w fun e w'=>e=.returned (.bool true)∧Bw w w':=by
 have Hc:=Kh HF;have Hh:=Kh HS;have Hi:=Kh HV;obtain⟨hR,hP,hQ,hc⟩:=blk3 w #[.string C,.string K] #[.slice s1 m1 d1,.slice s2 m2 d2,.slice s3 m3 d3] #[.slice sw mw dw,.slice sm mm dm,.string ch,.slice st mt dt,.string sd,.int .i64 i] 24 29 35;clear HF HS HV;cases bf
 ·skip
  obtain⟨hd,he,hf,hg⟩:=hR.x2;obtain⟨hh,hi,hj,hk,hl,hm⟩:=hP.x3;obtain⟨hn,ho,hp,hq,hr,ht,hu,hv,hw,hx,hy,hz⟩:=hQ.x6;go_enter Tryz.func3,Tryz.ntmps3
  go_wp2_with fail
  refine (Hc.out _ hc).mono ?_;rintro e w2 ⟨rfl,hb⟩;clear hd he hf hg;clear hh hi hj hk hl hm;clear hn ho hp hq hr ht hu hv hw hx hy hz;replace hR:=hR.after hb;replace hP:=hP.after hb;replace hQ:=hQ.after hb;replace hc:=bt hc hb;clear hb;obtain⟨hd,he,hf,hg⟩:=hR.x2;obtain⟨hh,hi,hj,hk,hl,hm⟩:=hP.x3;obtain⟨hn,ho,hp,hq,hr,ht,hu,hv,hw,hx,hy,hz⟩:=hQ.x6;go_wp2_with fail
  refine (awake_c _).mono ?_;rintro e w9 ⟨rfl,hb9⟩;go_wp2;go_ret
  exact⟨rfl,bt hc hb9⟩
 cases bs
 ·skip
  obtain⟨hd,he,hf,hg⟩:=hR.x2;obtain⟨hh,hi,hj,hk,hl,hm⟩:=hP.x3;obtain⟨hn,ho,hp,hq,hr,ht,hu,hv,hw,hx,hy,hz⟩:=hQ.x6;go_enter Tryz.func3,Tryz.ntmps3
  go_wp2_with fail
  refine (Hc.out _ hc).mono ?_;rintro e w2 ⟨rfl,hb⟩;clear hd he hf hg;clear hh hi hj hk hl hm;clear hn ho hp hq hr ht hu hv hw hx hy hz;replace hR:=hR.after hb;replace hP:=hP.after hb;replace hQ:=hQ.after hb;replace hc:=bt hc hb;clear hb;obtain⟨hd,he,hf,hg⟩:=hR.x2;obtain⟨hh,hi,hj,hk,hl,hm⟩:=hP.x3;obtain⟨hn,ho,hp,hq,hr,ht,hu,hv,hw,hx,hy,hz⟩:=hQ.x6;go_wp2_with fail
  refine (Hh.out _ hc).mono ?_;rintro e w3 ⟨rfl,hb⟩;clear hd he hf hg;clear hh hi hj hk hl hm;clear hn ho hp hq hr ht hu hv hw hx hy hz;replace hR:=hR.after hb;replace hP:=hP.after hb;replace hQ:=hQ.after hb;replace hc:=bt hc hb;clear hb;obtain⟨hd,he,hf,hg⟩:=hR.x2;obtain⟨hh,hi,hj,hk,hl,hm⟩:=hP.x3;obtain⟨hn,ho,hp,hq,hr,ht,hu,hv,hw,hx,hy,hz⟩:=hQ.x6;go_wp2_with fail
  refine (awake_c _).mono ?_;rintro e w9 ⟨rfl,hb9⟩;go_wp2;go_ret
  exact⟨rfl,bt hc hb9⟩
 obtain⟨R,F,Y,hE,Hj,Hk⟩:=Hi.out rfl rfl;obtain⟨k,L,tD⟩:=R;simp only[]at hE;have Ho:=Kh Hj;have Hp:=Kh Hk;have hF:=Kh hE;have Hr:((k:Int)==(k:Int))=true:=by simp
 clear Hj Hk Hi hE;obtain⟨hd,he,hf,hg⟩:=hR.x2;obtain⟨hh,hi,hj,hk,hl,hm⟩:=hP.x3;obtain⟨hn,ho,hp,hq,hr,ht,hu,hv,hw,hx,hy,hz⟩:=hQ.x6;go_enter Tryz.func3,Tryz.ntmps3
 go_wp2_with fail
 refine (Hc.out _ hc).mono ?_;rintro e w2 ⟨rfl,hb⟩;clear hd he hf hg;clear hh hi hj hk hl hm;clear hn ho hp hq hr ht hu hv hw hx hy hz;replace hR:=hR.after hb;replace hP:=hP.after hb;replace hQ:=hQ.after hb;replace hc:=bt hc hb;clear hb;obtain⟨hd,he,hf,hg⟩:=hR.x2;obtain⟨hh,hi,hj,hk,hl,hm⟩:=hP.x3;obtain⟨hn,ho,hp,hq,hr,ht,hu,hv,hw,hx,hy,hz⟩:=hQ.x6;go_wp2_with fail
 refine (Hh.out _ hc).mono ?_;rintro e w3 ⟨rfl,hb⟩;clear hd he hf hg;clear hh hi hj hk hl hm;clear hn ho hp hq hr ht hu hv hw hx hy hz;replace hR:=hR.after hb;replace hP:=hP.after hb;replace hQ:=hQ.after hb;replace hc:=bt hc hb;clear hb;obtain⟨hd,he,hf,hg⟩:=hR.x2;obtain⟨hh,hi,hj,hk,hl,hm⟩:=hP.x3;obtain⟨hn,ho,hp,hq,hr,ht,hu,hv,hw,hx,hy,hz⟩:=hQ.x6;go_wp2_with fail
 refine (Ho.out _ hc).mono ?_;rintro e w4 ⟨fv,rv,u,cx,rfl,hG,Hd,He,hA,hb⟩;clear hd he hf hg;clear hh hi hj hk hl hm;clear hn ho hp hq hr ht hu hv hw hx hy hz;simp only[]at hG hA ⊢;have Hq:=Kh hG;clear hG;obtain⟨fa1,fc1,rfl⟩:=RAt.form Hd.ss;obtain⟨ya1,yc1,rfl⟩:=He.zs.form;obtain⟨ua1,uc1,rfl⟩:=RAt.form hA;have hB:=Hd.ss;have hy1:=He.zs;simp only[List.length_map]at hB ⊢;clear Hd He;replace hR:=hR.after hb;replace hP:=hP.after hb;replace hQ:=hQ.after hb;replace hc:=bt hc hb;clear hb;obtain⟨hH,hC,hb⟩:=blk2 w4 #[.slice fa1 F.length fc1,.string cx,.slice ya1 Y.length yc1] #[.slice ua1 tD.vals.length uc1,.string tD.seed,.int .i64 tD.pos] 40 33;replace hB:=SsAt.after hB hb;replace hy1:=ZsAt.after hy1 hb;replace hA:=SsAt.after hA hb;replace hR:=hR.after hb;replace hP:=hP.after hb;replace hQ:=hQ.after hb;replace hc:=bt hc hb;clear hb;obtain⟨hd,he,hf,hg⟩:=hR.x2;obtain⟨hh,hi,hj,hk,hl,hm⟩:=hP.x3;obtain⟨hn,ho,hp,hq,hr,ht,hu,hv,hw,hx,hy,hz⟩:=hQ.x6;go_wp2_with fail
 refine (Hp.out _ hc).mono ?_;rintro e w5 ⟨fv,rv,u,cx',rfl,hG,Hf,Hg,hD,hb⟩;clear hd he hf hg;clear hh hi hj hk hl hm;clear hn ho hp hq hr ht hu hv hw hx hy hz;simp only[]at hG hD ⊢;obtain rfl:cx'=cx:=hG.trans Hq.out.symm;obtain⟨fa2,fc2,rfl⟩:=RAt.form Hf.ss;obtain⟨ya2,yc2,rfl⟩:=Hg.zs.form;obtain⟨ua2,uc2,rfl⟩:=RAt.form hD;have hI:=Hf.ss;have Ha:=Hg.zs;simp only[List.length_map]at hI ⊢;clear Hf Hg;replace hB:=SsAt.after hB hb;replace hy1:=ZsAt.after hy1 hb;replace hA:=SsAt.after hA hb;replace hH:=hH.after hb;replace hC:=hC.after hb;replace hc:=bt hc hb;clear hb hR hP hQ hG;obtain⟨Hl,Hb,hb⟩:=blk2 w5 #[.slice fa2 F.length fc2,.string cx',.slice ya2 Y.length yc2] #[.slice ua2 tD.vals.length uc2,.string tD.seed,.int .i64 tD.pos] 40 33;replace hB:=SsAt.after hB hb;replace hy1:=ZsAt.after hy1 hb;replace hA:=SsAt.after hA hb;replace hI:=SsAt.after hI hb;replace Ha:=ZsAt.after Ha hb;replace hD:=SsAt.after hD hb;replace hH:=hH.after hb;replace hC:=hC.after hb;replace hc:=bt hc hb;clear hb;have Hm:=Kh (rsameP_c cx' F Y _ _ _ _ _ hF.out.1 hF.out.2.1 hB hI hy1 Ha);clear hB hI hy1 Ha;obtain⟨hJ,hK,hL,hM,hN,hO⟩:=hH.x3;obtain⟨hS,hT,hU,hV,hW,hX⟩:=Hl.x3;go_wp2_with fail
 refine Hm.out.mono ?_;rintro e w6 ⟨rfl,hb⟩;clear hJ hK hL hM hN hO;clear hS hT hU hV hW hX;replace hA:=SsAt.after hA hb;replace hD:=SsAt.after hD hb;replace hC:=hC.after hb;replace Hb:=Hb.after hb;replace hc:=bt hc hb;clear hb hH Hl Hm;have Hn:=Kh (rsameT_c tD _ _ w6 hF.out.2.2 hA hD);clear hA hD;obtain⟨hY,hZ,h0,h1,h2,h3⟩:=hC.x3;obtain⟨h4,h5,h6,h7,h8,h9⟩:=Hb.x3;go_wp2_with fail
 refine Hn.out.mono ?_;rintro e w8 ⟨rfl,hb⟩;clear hY hZ h0 h1 h2 h3;clear h4 h5 h6 h7 h8 h9;replace hc:=bt hc hb;clear hb hC Hb Hn;go_wp2_with fail
 refine (awake_c _).mono ?_;rintro e w9 ⟨rfl,hb9⟩;go_wp2;go_ret
 exact⟨rfl,bt hc hb9⟩
end
end Go.Proofs.YtihjpddbjhcbmaaGreatDoor
