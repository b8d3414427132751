/- Simulated proofs are accepted: both functions,and the law's walk. -/
import Derived.Test.YtihjpddbjhcbmaaGreatDoorSi3
import Derived.Test.YtihjpddbjhcbmaaGreatDoorAtt
import Derived.Test.YtihjpddbjhcbmaaGreatDoorArg7
import Derived.Test.YtihjpddbjhcbmaaGreatDoorAw7
set_option linter.unusedVariables false
set_option linter.unusedSimpArgs false
set_option maxRecDepth 100000
set_option maxHeartbeats 16000000
namespace Go.Proofs.YtihjpddbjhcbmaaGreatDoor
section
/- What Simulate returns is accepted;a proof is the proof of any witness,with the coins that explain it. Plain Lean. -/
open Go.RowKit Go.Shelf
end
section
/- simulator.Simulate. -/
open Go.RowKit Go.Shelf
theorem smp_size {N:NSta} (hm:NOk N) {att:Att} {C K:Nat} {T:Tp} (hC:C<256^16) (hK:K<256^16) (h:∀j,j<N.vars.length→(N.smp att C K T j).1=0):∀z∈N.smpL att C K T,z.natAbs<256^64:=by
 intro z hz;obtain⟨j,hj,rfl⟩:=List.mem_map.1 hz;have hb:=List.mem_range.1 hj;have h1:=h j hb;rw[smp_at N att C K T j hb]at h1 ⊢;have hl:=lims2_lt hm hC hK (Gm hb);unfold smpJ at *;split at h1
 ·rename_i h2;rw[if_pos h2];have h3:=coin_lt h1;simp only[Int.natAbs_natCast];exact Nat.lt_trans h3 (Nl hl P8)
 ·rename_i h2;rw[if_neg h2];exact csgn_lt hl h1
theorem smp_errR {N:NSta} {att:Att} {C K:Nat} {T:Tp} (h:(N.smpR att C K T).err≠0):N.smpR att C K T=⟨(N.smpR att C K T).err,[],Tp.nil⟩:=by
 unfold NSta.smpR at *;split
 ·rfl
 ·rename_i hn;rw[hn]at h;exact absurd rfl h
def NSta.simR (N:NSta) (att:Att) (C K c:Nat) (T:Tp):Drw:=if C≤c then ⟨2,[],Tp.nil⟩ else N.smpR att C K T
def NSta.simF (N:NSta) (c:Nat) (R:Drw):List Nat:=if R.err=0 then N.msgs c R.msk else []
theorem ssim_err (C K ch sd:ByteArray) (v1 v2 v3 vt:Value) (ti:Int) (k:Nat) (w:World) (hk:k≠0)
  (hy:∀w',Bw w w'→Calls Tryz.prog 33 #[.agg #[.string C,.string K],.agg #[v1,v2,v3]] w' fun e w''=>e=.returned (.tuple #[.slice none 0 0,.slice none 0 0,.int .i64 k])∧Bw w' w'') :
  Calls Tryz.prog 24 #[.agg #[.string C,.string K],.agg #[v1,v2,v3],.string ch,.agg #[vt,.string sd,.int .i64 ti]] w (PPost w ch ⟨k,[],Tp.nil⟩ [] []):=by
 have hz:=Kh hy;have HK:=Kh hk;have hL:((k:Int) != 0)=true:=by rw[bne_iff_ne];omega
 obtain⟨hR,hP,hT,hF,hQ,hc⟩:=blk5 w #[.string C,.string K] #[v1,v2,v3] #[vt,.string sd,.int .i64 ti] #[.slice none 0 0,.string ⟨#[]⟩,.slice none 0 0] #[.slice none 0 0,.string ⟨#[]⟩,.int .i64 0] 24 29 33 40 33;have he:Hid (w.heap.size≤w.heap.size+1+1+1):=by rw[Hid];omega
 have hf:Hid (w.heap.size≤w.heap.size+1+1+1+1):=by rw[Hid];omega
 have hA:¬ w.heap.size+1+1+1=w.heap.size+1+1+1+1:=by omega
 have hB:¬ w.heap.size+1+1+1+1=w.heap.size+1+1+1:=by omega
 clear hy hk;obtain⟨hg,hh,hi,hj⟩:=hR.x2;obtain⟨hl,hm,hn,ho,hp,hq⟩:=hP.x3;go_enter Tryz.func24,Tryz.ntmps24
 go_wp2_with fail
 refine (hz.out _ hc).mono ?_;rintro e w2 ⟨rfl,hb⟩;clear hg hh hi hj;clear hl hm hn ho hp hq;clear hR hP hT;have hd:=b1 w2 (.cells #[.slice none 0 0] 31);go_upto_region 3 with fail
 replace hF:=(hF.after hb).after hd;replace hQ:=(hQ.after hb).after hd;replace hc:=bt (bt hc hb) hd;generalize w2.alloc (.cells #[.slice none 0 0] 31)=w3 at hF hQ hc ⊢;clear hb hd;have hC:=hF.lt;have hD:=hQ.lt;obtain⟨hr,hE,ht,hG,hu,hH⟩:=hF.x3;obtain⟨hv,hI,hw,hJ,hx,hK⟩:=hQ.x3;go_wp2;(try rw[Exit.noGoto_ret])
 refine bodyPost_ret (v:=.tuple #[.agg #[.slice none 0 0,.string ⟨#[]⟩,.slice none 0 0],.agg #[.slice none 0 0,.string ⟨#[]⟩,.int .i64 0],.int .i64 (k:Int)]) ?_ rfl ?_
 ·simp[results,Tryz.results24,go_sem,hr,ht,hu,hv,hw,hx,hC,hD,hA,hB]
 ·exact ppost_err HK.out rfl rfl (((((((hc.setCell he.out _).setCell he.out _).setCell he.out _).setCell hf.out _).setCell hf.out _).setCell hf.out _))
theorem ssim_form (C K ch:ByteArray) (T:Tp) (L:List (Nat × Nat)) (v1 v2 v3 vt:Value) (w:World) (hZ:ch.size≤1000) (hN:T.Ok) (hV:SsAt w vt T.vals) (hb:(vldB ch&&T.good)=false)
  (hO:∀w',Bw w w'→Calls Tryz.prog 33 #[.agg #[.string C,.string K],.agg #[v1,v2,v3]] w' (B2Post w' L)) :
  Calls Tryz.prog 24 #[.agg #[.string C,.string K],.agg #[v1,v2,v3],.string ch,.agg #[vt,.string T.seed,.int .i64 T.pos]] w (PPost w ch ⟨3,[],Tp.nil⟩ [] []):=by
 have h0:=Kh hO;have hS:Hid (∀w,Calls Tryz.prog 79 #[.string ch] w fun e w'=>e=.returned (.bool (vldB ch))∧w=w'):=fun w=>valid_c ch w (by omega)
 have hm:Hid (∀w',Bw w w'→Calls Tryz.prog 95 #[.agg #[vt,.string T.seed,.int .i64 T.pos]] w' fun e w''=>e=.returned (.bool T.good)∧Bw w' w''):=fun w' hb=>stape_c T vt w' hN (SsAt.after hV hb)
 generalize T.good=tg at hb hm;generalize vldB ch=b3 at hb hS;have HB:=Kh hb;obtain⟨a5,c5,rfl⟩:=RAt.form hV;generalize T.vals.length=nt at hm ⊢;obtain⟨hR,hP,hT,hF,hQ,hc⟩:=blk5 w #[.string C,.string K] #[v1,v2,v3] #[.slice a5 nt c5,.string T.seed,.int .i64 T.pos] #[.slice none 0 0,.string ⟨#[]⟩,.slice none 0 0] #[.slice none 0 0,.string ⟨#[]⟩,.int .i64 0] 24 29 33 40 33;have hj:Hid (w.heap.size≤w.heap.size+1+1+1):=by rw[Hid];omega
 have hk:Hid (w.heap.size≤w.heap.size+1+1+1+1):=by rw[Hid];omega
 have hU:¬ w.heap.size+1+1+1=w.heap.size+1+1+1+1:=by omega
 have hW:¬ w.heap.size+1+1+1+1=w.heap.size+1+1+1:=by omega
 clear hO hZ hN hV hb;obtain⟨hn,ho,hp,hq⟩:=hR.x2;obtain⟨hr,ht,hu,hv,hw,hx⟩:=hP.x3;go_enter Tryz.func24,Tryz.ntmps24
 go_wp2_with fail
 refine (h0.out _ hc).mono ?_;rintro e w2 ⟨mv,uv,rfl,h1,hX,hb⟩;clear hn ho hp hq;clear hr ht hu hv hw hx;have hY:=hX.ss;clear h1 hX hR hP;obtain⟨a6,c6,rfl⟩:=RAt.form hY;clear hY;generalize ((L.map (·.2)).map E).length=n6;have hl:=b1 w2 (.cells #[.slice a6 n6 c6] 31);go_upto_region 4 with fail
 replace hF:=(hF.after hb).after hl;replace hQ:=(hQ.after hb).after hl;replace hT:=(hT.after hb).after hl;replace hc:=bt (bt hc hb) hl;generalize w2.alloc (.cells #[.slice a6 n6 c6] 31)=w3 at hF hQ hT hc ⊢;clear hb hl;go_wp2_with fail
 refine (hS.out _).mono ?_;rintro e w' ⟨rfl,rfl⟩;cases b3
 ·clear hT;have hy:=hF.lt;have hz:=hQ.lt;obtain⟨hd,hA,he,hB,hf,hC⟩:=hF.x3;obtain⟨hg,hD,hh,hE,hi,hG⟩:=hQ.x3;go_wp2;(try rw[Exit.noGoto_ret])
  refine bodyPost_ret (v:=.tuple #[.agg #[.slice none 0 0,.string ⟨#[]⟩,.slice none 0 0],.agg #[.slice none 0 0,.string ⟨#[]⟩,.int .i64 0],.int .i64 3]) ?_ rfl ?_
  ·simp[results,Tryz.results24,go_sem,hd,he,hf,hg,hh,hi,hy,hz,hU,hW]
  ·exact ppost_err (by decide) rfl rfl (((((((hc.setCell hj.out _).setCell hj.out _).setCell hj.out _).setCell hk.out _).setCell hk.out _).setCell hk.out _))
 ·have h2:Hid (tg=false):=HB.out;rw[h2.out]at hm;obtain⟨hH,hI,hJ,hK,hL,hM⟩:=hT.x3;go_wp2_with fail
  refine (hm.out _ hc).mono ?_;rintro e w4 ⟨rfl,hb4⟩;clear hH hI hJ hK hL hM;replace hF:=hF.after hb4;replace hQ:=hQ.after hb4;replace hc:=bt hc hb4;clear hb4 hT;have hy:=hF.lt;have hz:=hQ.lt;obtain⟨hd,hA,he,hB,hf,hC⟩:=hF.x3;obtain⟨hg,hD,hh,hE,hi,hG⟩:=hQ.x3;go_wp2;(try rw[Exit.noGoto_ret])
  refine bodyPost_ret (v:=.tuple #[.agg #[.slice none 0 0,.string ⟨#[]⟩,.slice none 0 0],.agg #[.slice none 0 0,.string ⟨#[]⟩,.int .i64 0],.int .i64 3]) ?_ rfl ?_
  ·simp[results,Tryz.results24,go_sem,hd,he,hf,hg,hh,hi,hy,hz,hU,hW]
  ·exact ppost_err (by decide) rfl rfl (((((((hc.setCell hj.out _).setCell hj.out _).setCell hj.out _).setCell hk.out _).setCell hk.out _).setCell hk.out _))
theorem ssim_num (att:Att) (N:NSta) (C K c:Nat) (T:Tp) (v1 v2 v3 vt:Value) (w:World) (H9:HAtt att T.seed w) (Ht:T.Ok) (hg:T.good=true) (hC:C<256^16) (hK:K<256^16) (hm:NOk N) (hS:NAt w v1 v2 v3 N) (h0:N.chk=0) (hV:SsAt w vt T.vals) (hc:c<256^100)
  (ja:∀w',Bw w w'→Calls Tryz.prog 33 #[.agg #[.string (E C),.string (E K)],.agg #[v1,v2,v3]] w' (B2Post w' (N.lims C K))) :
  Calls Tryz.prog 24 #[.agg #[.string (E C),.string (E K)],.agg #[v1,v2,v3],.string (E c),.agg #[vt,.string T.seed,.int .i64 T.pos]] w (PPost w (E c) (N.simR att C K c T) (N.simF c (N.simR att C K c T)) (N.simR att C K c T).msk):=by
 have hZ:=Kh ja;have hq:c<256^128:=Nl hc P8;have jb:Hid (∀w,Calls Tryz.prog 79 #[.string (E c)] w fun e w'=>e=.returned (.bool true)∧w=w'):=fun w=>validE_c c w hq
 have Hu:Hid (∀w',Bw w w'→Calls Tryz.prog 95 #[.agg #[vt,.string T.seed,.int .i64 T.pos]] w' fun e w''=>e=.returned (.bool true)∧Bw w' w''):=fun w' hb=>by
  have h:=stape_c T vt w' Ht (SsAt.after hV hb);rwa [hg]at h
 have Hv:Hid (∀w,Calls Tryz.prog 34 #[.string (E c),.string (E C)] w fun e w'=>e=.returned (.int .i64 (cmpN c C))∧w=w'):=fun w=>cmp_c c C w hq (Nl hC P8)
 have hv:Hid (∀(gS gB:Nat) (vu:Value) w',Bw w w'→Blk w' gS 29 [v1,v2,v3]→Blk w' gB 31 [vu]→SsAt w' vu (((N.lims C K).map (·.2)).map E)→Calls Tryz.prog 96 #[.agg #[v1,v2,v3],.agg #[vt,.string T.seed,.int .i64 T.pos],.func (.func 97) #[] #[.pointer (some ⟨gS,0,none⟩),.pointer (some ⟨gB,0,none⟩)]] w' (DWPost w' vt (N.smpR att C K T))):=fun gS gB vu w' hb h1 h2 h3 =>
  sdrawn_c att N C K gS gB T v1 v2 v3 vu vt w' (H9.after hb) Ht hC hK hm (hS.after hb) h1 h2 h3 (SsAt.after hV hb)
 have hw:Hid ((N.smpR att C K T).err=0→∀(vz:Value) w',Bw w w'→ZsAt w' vz (N.smpR att C K T).msk→Calls Tryz.prog 101 #[.agg #[v1,v2,v3],.string (E c),vz] w' fun e w''=>∃v,e=.returned v∧NOwn w'' w'.heap.size v (N.msgs c (N.smpR att C K T).msk)∧Bw w' w''):=fun he vz w' hb hz=>by
  obtain⟨e1,ha⟩:=smp_inv he;have hl:(N.smpL att C K T).length=N.vars.length:=by simp[NSta.smpL]
  rw[e1]at hz ⊢;exact messages_c N c _ v1 v2 v3 vz w' hm (hS.after hb) hz (smp_size hm hC hK ha) hl h0 hq
 have Hi:=Kh (smp_errR (N:=N) (att:=att) (C:=C) (K:=K) (T:=T));have Hw:Hid (C≤c→N.simR att C K c T=⟨2,[],Tp.nil⟩):=fun h=>by unfold NSta.simR;rw[if_pos h]
 have Hj:Hid (¬ C≤c→N.simR att C K c T=N.smpR att C K T):=fun h=>by unfold NSta.simR;rw[if_neg h]
 generalize N.simR att C K c T=R0 at Hw Hj ⊢;generalize N.smpR att C K T=RS at hv hw Hi Hj;obtain⟨a5,c5,rfl⟩:=RAt.form hV;generalize T.vals.length=nt at Hu hv hV ⊢;obtain⟨a1,c1,a2,c2,a3,c3,rfl,rfl,rfl⟩:=hS.forms;obtain⟨n2,Hx⟩:∃n,n=N.vars.length:=⟨_,rfl⟩;have jI:Hid ((((N.lims C K).map (·.2)).map E).length=n2):=by rw[Hid,List.length_map,List.length_map,NSta.lims,List.length_map,Hx]
 rw[←Hx]at hZ hv hw ⊢;generalize N.grps.length=n1 at hZ hv hw ⊢;generalize N.eqs.length=n3 at hZ hv hw ⊢;obtain⟨q1,hx⟩:∃q:Int,q=cmpN c C:=⟨_,rfl⟩;rw[←hx]at Hv;have Hy:=Kh hx;obtain⟨hR,hP,hT,hF,hQ,hf⟩:=blk5 w #[.string (E C),.string (E K)] #[.slice a1 n1 c1,.slice a2 n2 c2,.slice a3 n3 c3] #[.slice a5 nt c5,.string T.seed,.int .i64 T.pos] #[.slice none 0 0,.string ⟨#[]⟩,.slice none 0 0] #[.slice none 0 0,.string ⟨#[]⟩,.int .i64 0] 24 29 33 40 33;obtain⟨gS,jc⟩:∃g,w.heap.size+1=g:=⟨_,rfl⟩;obtain⟨gT,jd⟩:∃g,w.heap.size+1+1=g:=⟨_,rfl⟩;obtain⟨gF,je⟩:∃g,w.heap.size+1+1+1=g:=⟨_,rfl⟩;obtain⟨gQ,jf⟩:∃g,w.heap.size+1+1+1+1=g:=⟨_,rfl⟩;have Hz:=Kh jc;have HA:=Kh jd;have HB:=Kh je;have HC:=Kh jf;have hd:Hid (w.heap.size≤gT∧w.heap.size≤gF∧w.heap.size≤gQ∧gS≠gT∧gF≠gT∧gQ≠gT∧gF≠gQ):=by rw[Hid];omega
 have Hk:Hid (FarS (.slice a5 nt c5) gT∧FarS (.slice a5 nt c5) gF∧FarS (.slice a5 nt c5) gQ):=⟨ss_far hV (by omega),ss_far hV (by omega),ss_far hV (by omega)⟩;clear jc jd je jf hx Hx hS hV ja H9 Ht hg hC hK hm h0 hc hq;obtain⟨hy,hA,hB,hD⟩:=hR.x2;obtain⟨hE,hG,hH,hI,hJ,hL⟩:=hP.x3;go_enter Tryz.func24,Tryz.ntmps24
 go_wp2_with fail
 refine (hZ.out _ hf).mono ?_;rintro e w2 ⟨mv,uv,rfl,hM,jg,hO⟩;clear hy hA hB hD;clear hE hG hH hI hJ hL;have hp:=jg.ss;clear hM jg;obtain⟨a6,c6,rfl⟩:=RAt.form hp;rw[jI.out]at hp ⊢;replace hR:=hR.after hO;replace hP:=hP.after hO;replace hT:=hT.after hO;replace hF:=hF.after hO;replace hQ:=hQ.after hO;replace hf:=bt hf hO;clear hO hZ;rw[HC.out]at hQ;rw[HB.out]at hF;rw[HA.out]at hT;rw[Hz.out]at hP;rw[HC.out,HB.out,HA.out,Hz.out];clear Hz HA HB HC;replace hR:Blk w2 w.heap.size 24 [.string (E C),.string (E K)]:=hR;replace hP:Blk w2 gS 29 [.slice a1 n1 c1,.slice a2 n2 c2,.slice a3 n3 c3]:=hP;replace hT:Blk w2 gT 33 [.slice a5 nt c5,.string T.seed,.int .i64 T.pos]:=hT;replace hF:Blk w2 gF 40 [.slice none 0 0,.string ⟨#[]⟩,.slice none 0 0]:=hF;replace hQ:Blk w2 gQ 33 [.slice none 0 0,.string ⟨#[]⟩,.int .i64 0]:=hQ;have Hl:¬ gF=gQ:=hd.out.2.2.2.2.2.2;have HD:¬ gQ=gF:=fun e=>Hl e.symm
 obtain⟨hN,hu⟩:=blk1 w2 #[.slice a6 n2 c6] 31;go_upto_region 4 with fail
 replace hR:=hR.after hu;replace hP:=hP.after hu;replace hT:=hT.after hu;replace hF:=hF.after hu;replace hQ:=hQ.after hu;replace hp:=SsAt.after hp hu;replace hf:=bt hf hu;generalize w2.alloc (.cells #[.slice a6 n2 c6] 31)=w3 at hR hP hT hF hQ hp hf hN ⊢;clear hu;obtain⟨gN,jh⟩:∃g,w2.heap.size=g:=⟨_,rfl⟩;rw[jh]at hN ⊢;clear jh;replace hN:Blk w3 gN 31 [.slice a6 n2 c6]:=hN;go_wp2_with fail
 refine (jb.out _).mono ?_;rintro e w' ⟨rfl,rfl⟩;obtain⟨hh,hi,hj,hk,hn,ho⟩:=hT.x3;go_wp2_with fail
 refine (Hu.out _ hf).mono ?_;rintro e w4 ⟨rfl,hb4⟩;clear hh hi hj hk hn ho;replace hR:=hR.after hb4;replace hP:=hP.after hb4;replace hT:=hT.after hb4;replace hF:=hF.after hb4;replace hQ:=hQ.after hb4;replace hN:=hN.after hb4;replace hp:=SsAt.after hp hb4;replace hf:=bt hf hb4;clear hb4 jb Hu;obtain⟨hy,hA,hB,hD⟩:=hR.x2;go_wp2_with fail
 refine (Hv.out _).mono ?_;rintro e w' ⟨rfl,rfl⟩;clear hy hA hB hD;clear Hv hR;by_cases h5:C≤c
 ·have jJ:decide (0≤q1)=true:=Dt (by rw[Hy.out];have:=cmp_nneg c C h5;omega);have HX:=Kh (Hw.out h5);clear h5 hP hT hN hp;have HE:=hF.lt;have HF:=hQ.lt;obtain⟨HG,HH,HI,HJ,HK,HL⟩:=hF.x3;obtain⟨HM,HN,HO,HP,HQ,HS⟩:=hQ.x3;go_wp2;(try rw[Exit.noGoto_ret])
  refine bodyPost_ret (v:=.tuple #[.agg #[.slice none 0 0,.string ⟨#[]⟩,.slice none 0 0],.agg #[.slice none 0 0,.string ⟨#[]⟩,.int .i64 0],.int .i64 2]) ?_ rfl ?_
  ·simp[results,Tryz.results24,go_sem,HG,HI,HK,HM,HO,HQ,HE,HF,Hl,HD]
  ·rw[HX.out];exact ppost_err (by decide) (if_neg (by decide)) rfl ((((((hf.setCell hd.out.2.1 _).setCell hd.out.2.1 _).setCell hd.out.2.1 _).setCell hd.out.2.2.1 _).setCell hd.out.2.2.1 _).setCell hd.out.2.2.1 _)
 ·have jJ:decide (0≤q1)=false:=decide_eq_false (by rw[Hy.out];have:=cmp_neg c C (by omega);omega);obtain rfl:RS=R0:=(Hj.out h5).symm;clear h5 Hw Hj Hy;have ji:=Kh (hv.out gS gN _ w4 hf hP hN hp);have HT:=hf.size;clear hv;have jj:=hP.lt;have jK:=hN.lt;obtain⟨hE,hG,hH,hI,hJ,hL⟩:=hP.x3;obtain⟨hh,hi,hj,hk,hn,ho⟩:=hT.x3;go_wp2_with fail
  refine (ji.out).mono ?_;rintro e w5 ⟨lv,u,rfl,HU,Hm,h6,hX⟩;clear hE hG hH hI hJ hL;clear hh hi hj hk hn ho;obtain⟨xo,xc,rfl⟩:=RAt.form Hm;obtain⟨xm,jk⟩:∃m,m=RS.tp.vals.length:=⟨_,rfl⟩;rw[←jk]at Hm h6 ⊢;clear jk;have hr:Hid (FarS (.slice xo xm xc) gT∧FarS (.slice xo xm xc) gF∧FarS (.slice xo xm xc) gQ):=⟨h6 gT hT.lt Hk.out.1,h6 gF hF.lt Hk.out.2.1,h6 gQ hQ.lt Hk.out.2.2⟩
  have ht:Hid (lv.ownBlock≠some gT∧lv.ownBlock≠some gF∧lv.ownBlock≠some gQ):=by
   have h1:=hT.lt;have h2:=hF.lt;have h3:=hQ.lt;refine⟨fun e=>?_,fun e=>?_,fun e=>?_⟩ <;> have h4:=(own_lt HU e).2 <;> omega
  replace hP:=hP.after hX;replace hT:=hT.after hX;replace hF:=hF.after hX;replace hQ:=hQ.after hX;replace hf:=bt hf hX;clear hX hp hN h6 Hk ji jj jK;have e1:¬ gT=gS:=fun e=>hd.out.2.2.2.1 e.symm
  have jl:=hT.lt;obtain⟨hh,hi,hj,hk,hn,ho⟩:=hT.x3;go_upto_region 9 with fail
  clear hh hi hj hk hn ho;have Hn:Blk (((w5.setCell ⟨gT,0,none⟩ (.slice xo xm xc)).setCell ⟨gT,1,none⟩ (.string RS.tp.seed)).setCell ⟨gT,2,none⟩ (.int .i64 RS.tp.pos)) gT 33 [.slice xo xm xc,.string RS.tp.seed,.int .i64 RS.tp.pos]:=((hT.set 0 _).set 1 _).set 2 _;have Ho:=((hP.other ⟨gT,0,none⟩ (.slice xo xm xc) hd.out.2.2.2.1).other ⟨gT,1,none⟩ (.string RS.tp.seed) hd.out.2.2.2.1).other ⟨gT,2,none⟩ (.int .i64 RS.tp.pos) hd.out.2.2.2.1;have h7:=((hF.other ⟨gT,0,none⟩ (.slice xo xm xc) hd.out.2.2.2.2.1).other ⟨gT,1,none⟩ (.string RS.tp.seed) hd.out.2.2.2.2.1).other ⟨gT,2,none⟩ (.int .i64 RS.tp.pos) hd.out.2.2.2.2.1;have h8:=((hQ.other ⟨gT,0,none⟩ (.slice xo xm xc) hd.out.2.2.2.2.2.1).other ⟨gT,1,none⟩ (.string RS.tp.seed) hd.out.2.2.2.2.2.1).other ⟨gT,2,none⟩ (.int .i64 RS.tp.pos) hd.out.2.2.2.2.2.1;have Hp:SsAt (((w5.setCell ⟨gT,0,none⟩ (.slice xo xm xc)).setCell ⟨gT,1,none⟩ (.string RS.tp.seed)).setCell ⟨gT,2,none⟩ (.int .i64 RS.tp.pos)) (.slice xo xm xc) RS.tp.vals:=((Hm.set_far hr.out.1).set_far hr.out.1).set_far hr.out.1;have Hq:ZOwn (((w5.setCell ⟨gT,0,none⟩ (.slice xo xm xc)).setCell ⟨gT,1,none⟩ (.string RS.tp.seed)).setCell ⟨gT,2,none⟩ (.int .i64 RS.tp.pos)) w4.heap.size lv RS.msk:=own_set (own_set (own_set HU ht.out.1) ht.out.1) ht.out.1;have Hr:=((hf.setCell (p:=⟨gT,0,none⟩) hd.out.1 (.slice xo xm xc)).setCell (p:=⟨gT,1,none⟩) hd.out.1 (.string RS.tp.seed)).setCell (p:=⟨gT,2,none⟩) hd.out.1 (.int .i64 RS.tp.pos);generalize ((w5.setCell ⟨gT,0,none⟩ (.slice xo xm xc)).setCell ⟨gT,1,none⟩ (.string RS.tp.seed)).setCell ⟨gT,2,none⟩ (.int .i64 RS.tp.pos)=w6 at Hn Ho h7 h8 Hp Hq Hr ⊢;clear hT hP hF hQ Hm HU hf jl;obtain⟨ke,h9⟩:∃k,k=RS.err:=⟨_,rfl⟩;by_cases Ha:ke=0
  ·have Hb:Hid (RS.err=0):=by rw[Hid,←h9];exact Ha
   have jL:=Kh (hw.out Hb.out);rw[Hb.out];have HV:=Hn.drew;have jm:=Ho.drew;have jn:=h7.drew;have jo:=h8.drew;have jM:SsAt w6.drew (.slice xo xm xc) RS.tp.vals:=SsAt.after Hp (Below.drew Br);have HW:ZOwn w6.drew w4.heap.size lv RS.msk:=World.ownsRow.drew Hq;have HY:=Hr.drew;have jN:=Kh HY;have jO:=Kh HW.zs;have jl:=HV.lt;have jj:=jm.lt;have jP:=jn.lt;have jQ:=jo.lt;obtain⟨lo,lc,rfl⟩:=HW.zs.form;clear Ha h9 Hi hw Hn Ho h7 h8 Hp Hq Hr;have q3:¬ gF=gT:=hd.out.2.2.2.2.1;have q4:¬ gT=gF:=fun e=>q3 e.symm
   have q5:¬ gQ=gT:=hd.out.2.2.2.2.2.1;have q6:¬ gT=gQ:=fun e=>q5 e.symm
   obtain⟨jp,jq,jr,js,jt,ju⟩:=jm.x3;obtain⟨jv,jw,jx,jy,jz,jA⟩:=HV.x3;go_wp2_with fail
   go_region_with (go_at_call 101;(with_reducible refine (jL.out _ _ jN.out jO.out).mono ?_);rintro e wm ⟨mo,rfl,hM,hY⟩;obtain⟨mx,mxc,rfl⟩:=RAt.form hM.ss;rw[List.length_map]at hM ⊢;have Hs:=HV.after hY;have hU:=jn.after hY;have hW:=jo.after hY;have jR:=SsAt.after jM hY;have jS:=own_after HW hY;have jT:=bt HY hY;have jU:=Hs.cell 0;have jV:=Hs.cell 1;have jW:=Hs.cell 2;have jX:=Hs.lt;have HZ:=hU.cell 0;have H0:=hU.cell 1;have H1:=hU.cell 2;have HH:=hU.free 0;have HJ:=hU.free 1;have HL:=hU.free 2;have H2:=hU.lt;have H3:=hW.cell 0;have H4:=hW.cell 1;have H5:=hW.cell 2;have HN:=hW.free 0;have HP:=hW.free 1;have HS:=hW.free 2;have H6:=hW.lt)
   all_goals
    have jY:=HY.size;have H7:(Value.slice mx (N.msgs c RS.msk).length mxc).ownBlock≠some gF:=fun e=>by have h1:=(own_lt hM e).2;omega
    have H8:(Value.slice mx (N.msgs c RS.msk).length mxc).ownBlock≠some gQ:=fun e=>by have h1:=(own_lt hM e).2;omega
    go_wp2;(try rw[Exit.noGoto_ret])
    refine bodyPost_ret (v:=.tuple #[.agg #[.slice mx (N.msgs c RS.msk).length mxc,.string (E c),.slice lo RS.msk.length lc],.agg #[.slice xo xm xc,.string RS.tp.seed,.int .i64 RS.tp.pos],.int .i64 0]) ?_ rfl ?_
    ·simp[results,Tryz.results24,go_sem,HZ,H0,H1,H3,H4,H5,H2,H6,Hl,HD]
    ·refine⟨_,_,_,_,by rw[Hb.out];rfl,(if_pos Hb.out).symm,?_,?_,(((((jR.set_far hr.out.2.1).set_far hr.out.2.1).set_far hr.out.2.1).set_far hr.out.2.2).set_far hr.out.2.2).set_far hr.out.2.2,(((((jT.setCell hd.out.2.1 _).setCell hd.out.2.1 _).setCell hd.out.2.1 _).setCell hd.out.2.2.1 _).setCell hd.out.2.2.1 _).setCell hd.out.2.2.1 _⟩
     ·rw[show N.simF c RS=N.msgs c RS.msk from if_pos Hb.out];exact own_mono (own_set (own_set (own_set (own_set (own_set (own_set hM H7) H7) H7) H8) H8) H8) jY
     ·exact own_mono (own_set (own_set (own_set (own_set (own_set (own_set jS ht.out.2.1) ht.out.2.1) ht.out.2.1) ht.out.2.2) ht.out.2.2) ht.out.2.2) HT
  ·have HR:=Kh (Hi.out (by rw[←h9];exact Ha));rw[←h9]at HR ⊢;have jZ:((ke:Int) != 0)=true:=by rw[bne_iff_ne];omega
   have jB:=Kh Ha;clear Ha h9 Hi hw Hn Ho Hp Hq;have HE:=h7.lt;have HF:=h8.lt;obtain⟨Hc,jC,Hd,jD,He,jE⟩:=h7.x3;obtain⟨Hf,jF,Hg,jG,Hh,jH⟩:=h8.x3;go_wp2;(try rw[Exit.noGoto_ret])
   refine bodyPost_ret (v:=.tuple #[.agg #[.slice none 0 0,.string ⟨#[]⟩,.slice none 0 0],.agg #[.slice none 0 0,.string ⟨#[]⟩,.int .i64 0],.int .i64 (ke:Int)]) ?_ rfl ?_
   ·simp[results,Tryz.results24,go_sem,Hc,Hd,He,Hf,Hg,Hh,HE,HF,Hl,HD]
   ·rw[HR.out];exact ppost_err jB.out (if_neg jB.out) rfl ((((((Hr.setCell hd.out.2.1 _).setCell hd.out.2.1 _).setCell hd.out.2.1 _).setCell hd.out.2.2.1 _).setCell hd.out.2.2.1 _).setCell hd.out.2.2.1 _)
end
section
open Go.RowKit Go.Shelf
end
end Go.Proofs.YtihjpddbjhcbmaaGreatDoor
