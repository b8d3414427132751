import Derived.Test.YtihjpddbjhcbmaaGreatDoorCpl16
set_option linter.unusedVariables false
set_option linter.unusedSimpArgs false
set_option maxRecDepth 100000
set_option maxHeartbeats 16000000
namespace Go.Proofs.YtihjpddbjhcbmaaGreatDoor
section
/- Masks that explain responses;coins of masks. Plain Lean. -/
open Go.RowKit Go.Shelf
def expI (q b c:Nat) (y z:Int):Int:=if b=0 then ((subM y.natAbs (c*z.natAbs%q) q:Nat):Int) else y-(c:Int)*z
def expJ (N:NSta) (c:Nat) (Y Z:List Int) (j:Nat):Int:=expI N.ord (N.vars.getD j 0) c (Y.getD j 0) (Z.getD j 0)
def NSta.expL (N:NSta) (c:Nat) (Y Z:List Int):List Int:=(List.range N.vars.length).map (expJ N c Y Z)
def coinN (b l:Nat) (z:Int):Nat:=if b=0 then z.natAbs else (z+(l:Int)-1).natAbs
def coinJ (N:NSta) (C K:Nat) (Z:List Int) (j:Nat):Nat:=coinN (N.vars.getD j 0) (lim N.ord C K (N.vars.getD j 0)).1 (Z.getD j 0)
def NSta.coinL (N:NSta) (C K:Nat) (Z:List Int):List Nat:=(List.range N.vars.length).map (coinJ N C K Z)
end
section
open Go.RowKit Go.Shelf
theorem idx_sin (l:List (Bool × ByteArray)) (p:(Bool × ByteArray)→Bool) (v:Value) (w:World) (hn:l.length≤1000) (hR:IsAt w v l)
  (hf:∀k (hk:k<l.length) (w':World),Bw w w'→Calls Tryz.prog 209 #[.agg #[.bool (l[k]'hk).1,.string (l[k]'hk).2]] w' fun e w''=>e=.returned (.bool (p (l[k]'hk)))∧Bw w' w'') :
  Calls Tryz.prog 251 #[v,.func (.func 209) #[] #[]] w (IPost (l.any p) w):=by
 obtain⟨ao,c,rfl⟩:=RAt.form hR;obtain⟨n,hd⟩:∃n,n=l.length:=⟨_,rfl⟩;have HN:=Kh hd;rw[←hd]at hR hn ⊢;clear hd;have HF:=Kh hf;clear hf;go_enter Tryz.func251,Tryz.ntmps251
 go_wp2;go_loopw [8] (fun i wr=>∃k:Nat,k≤n∧i=.int .i64 k∧Hid ((l.take k).any p=false)∧Bw w wr) (fun i _=>n-(intOf i).toNat)
 case atStart=>exact⟨0,by omega,rfl,rfl,Br⟩
 case round =>
  obtain⟨k,hk,rfl,HA,hc⟩:=hrel;obtain⟨wp,hg⟩:∃wp,wp=wr:=⟨_,rfl⟩;subst hg;replace hR:=IsAt.after hR hc;by_cases hlt:k<n
  ·have hb:k<l.length:=by rw[←HN.out];exact hlt
   have HT:=Kh (any_take p l k hb);have HB:Hid (p (l[k]'hb)=true→l.any p=true):=any_hit p l k hb;obtain⟨b,o,rfl,hi,x1,x2⟩:=IsAt.at_ hR hb;have HC:=Kh (HF.out k hb _ hc);generalize p (l[k]'hb)=pk at HT HB HC;generalize (l[k]'hb)=x at x1 x2 HC;obtain⟨y1,y2⟩:=x;simp only[]at x1 x2 HC;have hh:(0:Int)≤(k:Int):=by omega
   have hj:(k:Int)<(n:Int):=by omega
   clear hR;cases pk
   ·have HX:Hid ((l.take (k+1)).any p=false):=by rw[Hid,HT.out,HA.out];rfl
    clear HT HB;go_wp2_with fail
    refine (HC.out).mono ?_;rintro e w2 ⟨rfl,he⟩;go_wp2;go_roundw
    case rel=>exact⟨k+1,by omega,by go_num,HX,bt hc he⟩
    case measure=>simp[intOf];omega
   ·have HX:Hid (l.any p=true):=HB.out rfl;clear HT HB;go_wp2_with fail
    refine (HC.out).mono ?_;rintro e w2 ⟨rfl,he⟩;go_wp2;go_ret
    exact⟨(k:Int),rfl,by rw[HX.out];exact Dt hh,bt hc he⟩
  ·have HX:Hid (l.any p=false):=any_end p l k (by rw[←HN.out];omega) HA.out;go_wp2;go_ret
   exact⟨-1,rfl,by rw[HX.out];rfl,hc⟩
theorem cont_sin (l:List (Bool × ByteArray)) (p:(Bool × ByteArray)→Bool) (b:Bool) (v:Value) (w:World) (hn:l.length≤1000) (hR:IsAt w v l) (hb:l.any p=b)
  (hf:∀k (hk:k<l.length) (w':World),Bw w w'→Calls Tryz.prog 209 #[.agg #[.bool (l[k]'hk).1,.string (l[k]'hk).2]] w' fun e w''=>e=.returned (.bool (p (l[k]'hk)))∧Bw w' w'') :
  Calls Tryz.prog 173 #[v,.func (.func 209) #[] #[]] w fun e w'=>e=.returned (.bool b)∧Bw w w':=by
 have HE:=Kh (idx_sin l p v w hn hR hf);rw[hb]at HE;obtain⟨ao,c,rfl⟩:=RAt.form hR;generalize l.length=n at HE;clear hn hR hf hb;go_enter Tryz.func173,Tryz.ntmps173
 go_wp2_with fail
 refine HE.out.mono ?_;rintro e w1 ⟨i,rfl,hi,hc⟩;have HI:=Kh hi;clear hi;cases b
 ·have hi:decide (0≤i)=false:=HI.out;go_wp2;go_ret
  exact⟨rfl,hc⟩
 ·have hi:decide (0≤i)=true:=HI.out;go_wp2;go_ret
  exact⟨rfl,hc⟩
theorem sin1_c (b:Bool) (s:ByteArray) (w:World) (hm:s.size≤1000) :
  Calls Tryz.prog 209 #[.agg #[.bool b,.string s]] w fun e w'=>e=.returned (.bool (!ivB b s))∧Bw w w':=by
 have HV:Hid (∀w,Calls Tryz.prog 182 #[.agg #[.bool b,.string s]] w fun e w'=>e=.returned (.bool (ivB b s))∧Bw w w'):=fun w=>ivalid_c b s w (by omega)
 generalize ivB b s=r at HV;clear hm;go_enter Tryz.func209,Tryz.ntmps209
 go_wp2_with fail
 refine (HV.out _).mono ?_;rintro e w1 ⟨rfl,hb⟩;cases r
 all_goals
  go_wp2;go_ret
  exact⟨rfl,bt (b1 _ _) hb⟩
def ivsB (l:List (Bool × ByteArray)):Bool:=l.all fun x=>ivB x.1 x.2
theorem ivs_any (l:List (Bool × ByteArray)):(l.any fun x=>!ivB x.1 x.2)=!ivsB l:=by
 unfold ivsB;induction l with
 | nil=>rfl
 | cons x t ih=>simp only[List.any_cons,List.all_cons,ih,Bool.not_and]
theorem sints_c (l:List (Bool × ByteArray)) (v:Value) (w:World) (hn:l.length≤1000) (hs:∀x∈l,x.2.size≤1000) (hR:IsAt w v l) :
  Calls Tryz.prog 113 #[v] w fun e w'=>e=.returned (.bool (ivsB l))∧Bw w w':=by
 have HC:=Kh (cont_sin l (fun x=>!ivB x.1 x.2) _ v w hn hR (ivs_any l) (fun k hk w' hb=>sin1_c _ _ w' (hs _ (Gm hk))));obtain⟨ao,c,rfl⟩:=RAt.form hR;generalize l.length=n at HC;generalize ivsB l=r at HC;clear hn hs hR;go_enter Tryz.func113,Tryz.ntmps113
 go_wp2_with fail
 refine HC.out.mono ?_;rintro e w1 ⟨rfl,hc⟩;cases r
 all_goals
  go_wp2;go_ret
  exact⟨rfl,hc⟩
theorem sints_num (Z:List Int) (h:∀z∈Z,z.natAbs<256^128):ivsB (Z.map zI)=true:=by
 unfold ivsB;rw[List.all_eq_true];intro x hx;obtain⟨z,hz,rfl⟩:=List.mem_map.1 hx;exact ivB_I z (h z hz)
theorem admits_c (vb bd:Nat) (z:Int) (w:World) (hb:bd<256^128) (hz:z.natAbs<256^128) :
  Calls Tryz.prog 118 #[.agg #[.string (E vb)],.string (E bd),.agg #[.bool (sg (z)),.string (E (z).natAbs)]] w fun e w'=>e=.returned (.bool (blw vb z bd))∧Bw w w':=by
 have HC:Hid (∀w,Calls Tryz.prog 34 #[.string (E z.natAbs),.string (E bd)] w fun e w'=>e=.returned (.int .i64 (cmpN z.natAbs bd))∧w=w'):=fun w=>cmp_c _ _ w hz hb
 obtain⟨hA,hB,hj⟩:=blk2 w #[.string (E vb)] #[.bool (sg z),.string (E z.natAbs)] 71 74;obtain⟨q1,hc⟩:∃q:Int,q=cmpN z.natAbs bd:=⟨_,rfl⟩;rw[←hc]at HC;by_cases hl:z.natAbs<bd
 ·have hk:decide (q1<0)=true:=Dt (by rw[hc];exact cmp_neg _ _ hl);clear hc;by_cases hv:vb=0
  ·have HR:Hid (blw vb z bd=!(sg z)):=by rw[Hid,hv];exact blw_zero hl
   have hm:=zE hv;rw[HR.out];obtain⟨s,hs⟩:∃s,s=sg z:=⟨_,rfl⟩;rw[←hs]at hB hj ⊢;clear hl hb hz hv HR hs;obtain⟨hd,he⟩:=hA.x1;obtain⟨hf,hg,hh,hi⟩:=hB.x2;go_enter Tryz.func118,Tryz.ntmps118
   go_wp2_with fail
   refine (HC.out _).mono ?_;rintro e w' ⟨rfl,rfl⟩;cases s
   all_goals
    go_wp2;go_ret
    exact⟨rfl,hj⟩
  ·have HR:Hid (blw vb z bd=true):=blw_pos hl (Nat.pos_of_ne_zero hv);have hm:=nzE (Nat.pos_of_ne_zero hv);rw[HR.out];clear hl hb hz hv HR;obtain⟨hd,he⟩:=hA.x1;obtain⟨hf,hg,hh,hi⟩:=hB.x2;go_enter Tryz.func118,Tryz.ntmps118
   go_wp2_with fail
   refine (HC.out _).mono ?_;rintro e w' ⟨rfl,rfl⟩;go_wp2;go_ret
   exact⟨rfl,hj⟩
 ·have hk:decide (q1<0)=false:=decide_eq_false (by rw[hc];exact cmp_nneg _ _ (by omega));have HR:Hid (blw vb z bd=false):=blw_ge (by omega);rw[HR.out];clear hc hl hb hz HR;obtain⟨hd,he⟩:=hA.x1;obtain⟨hf,hg,hh,hi⟩:=hB.x2;go_enter Tryz.func118,Tryz.ntmps118
  go_wp2_with fail
  refine (HC.out _).mono ?_;rintro e w' ⟨rfl,rfl⟩;go_wp2;go_ret
  exact⟨rfl,hj⟩
end
section
open Go.RowKit Go.Shelf
theorem msgX_lt {N:NSta} (hm:NOk N) (c:Nat) (Z:List Int) (hc:c<256^128) (hz:∀z∈Z,z.natAbs<256^64) (q:NEqn) (hq:q∈N.eqs):∀z∈msgX c Z q,z.natAbs<256^128:=by
 intro z hb;rcases List.mem_cons.1 hb with h | h
 ·rw[h,Int.natAbs_neg,Int.natAbs_natCast];exact hc
 ·exact imgX_lt hm Z hz q hq z h
theorem messages_c (N:NSta) (c:Nat) (Z:List Int) (v1 v2 v3 v4:Value) (w:World) (hm:NOk N) (hS:NAt w v1 v2 v3 N) (hZ:ZsAt w v4 Z) (hz:∀z∈Z,z.natAbs<256^64) (hl:Z.length=N.vars.length) (hc:N.chk=0) (Hw:c<256^128) :
  Calls Tryz.prog 101 #[.agg #[v1,v2,v3],.string (E c),v4] w fun e w'=>∃v,e=.returned v∧NOwn w' w.heap.size v (N.msgs c Z)∧Bw w w':=by
 obtain⟨i0,js,hQ,hR,hU⟩:=info_parts info_nat;have jK:=Kh js;have jL:=Kh hQ;have jM:=Kh hR;have jN:=Kh hU;clear js hQ hR hU;obtain⟨a4,c4,rfl⟩:=hZ.form;have jt:=Kh hz;have HL:=Kh hl;have jO:=Kh hc;have ju:=Kh Hw;have jP:Hid (∀w,Calls Tryz.prog 100 #[.string (E c)] w fun e w'=>e=.returned (.agg #[.bool false,.string (E c)])∧Bw w w'):=fun w=>fromN c w Hw
 obtain⟨sn,HI⟩:∃s,s=sg (-(c:Int)):=⟨_,rfl⟩;have jQ:Hid (∀w,Calls Tryz.prog 150 #[.agg #[.bool false,.string (E c)]] w fun e w'=>e=.returned (.agg #[.bool sn,.string (E c)])∧Bw w w'):=fun w=>by rw[HI];exact negN c w Hw
 have jR:=Kh HI;rw[hl]at hZ ⊢;clear hz hl hc Hw HI;obtain⟨a1,c1,a2,c2,a3,c3,rfl,rfl,rfl⟩:=hS.forms;obtain⟨n1,Hx⟩:∃n,n=N.grps.length:=⟨_,rfl⟩;obtain⟨n2,Hy⟩:∃n,n=N.vars.length:=⟨_,rfl⟩;obtain⟨n3,Hz⟩:∃n,n=N.eqs.length:=⟨_,rfl⟩;have jS:=Kh Hx;have jv:=Kh Hy;have jw:=Kh Hz;have l1:n1≤10:=by rw[Hx];exact hm.ng
 have l2:n2≤12:=by rw[Hy];exact hm.nv
 have l3:n3≤12:=by rw[Hz];exact hm.ne
 have HM:=Kh hm;rw[←Hx,←Hy,←Hz]at hS ⊢;clear hm Hx Hy Hz;rw[←jv.out]at hZ;obtain⟨hP,hV⟩:=blk1 w #[.slice a1 n1 c1,.slice a2 n2 c2,.slice a3 n3 c3] 29;replace hS:=hS.after hV;replace hZ:=hZ.after hV;obtain⟨HJ,HK,HN,HO,HP,HQ⟩:=hP.x3;go_enter Tryz.func101,Tryz.ntmps101
 go_wp2;clear HJ HK HN HO HP HQ;generalize jT:w.alloc (.cells #[.slice a1 n1 c1,.slice a2 n2 c2,.slice a3 n3 c3] 29)=w1 at hP hV hS hZ;replace hP:Blk w1 w.heap.size 29 [.slice a1 n1 c1,.slice a2 n2 c2,.slice a3 n3 c3]:=hP;clear jT;go_loopw [7,20] (fun v7 i wr=>∃k:Nat,k≤n3∧i=.int .i64 k∧NOwn wr w1.heap.size v7 ((N.msgs c Z).take k)∧Bw w1 wr) (fun _ i _=>n3-(intOf i).toNat)
 case atStart=>exact⟨0,by omega,rfl,World.ownsRow_nil _ _ _ _,Br⟩
 case round =>
  obtain⟨k,hk,rfl,hO,hW⟩:=hrel;obtain⟨wp,jU⟩:∃wp,wp=wr:=⟨_,rfl⟩;subst jU;have HR:=hS.after hW;have HA:=hP.after hW;have jx:=hZ.after hW;have HS:=bt hV hW;by_cases hlt:k<n3
  ·have hM:k<N.eqs.length:=by rw[←jw.out];exact hlt
   have hX:=Kh (HM.out.e _ (Gm hM));have hd:=Kh (chk_elem jO.out k hM hX.out.1);have jy:=Kh (msgX_lt HM.out c Z ju.out jt.out _ (Gm hM));have HT:=Kh (msgs_step N c Z k hM);obtain⟨b,o,tv,rfl,jV,x1,x2,x3,hY⟩:=HR.eat hM;generalize (N.eqs[k]'hM)=q at x1 x2 x3 hY hX hd jy HT;have hh:=hX.out.1;have jW:q.grp<n1:=by rw[jS.out];exact hh
   have jz:=Kh (gp_at N q hh);have hf:=Kh (HM.out.g _ (Gm hh));have HU:Hid (msgQ N c Z q=pw (prs (N.grps[q.grp]'hh).1 (msgB q) (msgX c Z q)) 0%(N.grps[q.grp]'hh).1):=by rw[Hid,msgQ,jz.out]
   obtain⟨b',o',rfl,hw,y1,y2⟩:=HR.gat hh;generalize (N.grps[q.grp]'hh)=gg at y1 y2 hf hd HU;clear hh jz;obtain⟨p,qq⟩:=gg;simp only[]at y1 y2;obtain⟨to_,tc,rfl⟩:=hY.form;obtain⟨n4,HB⟩:∃n,n=q.trms.length:=⟨_,rfl⟩;have HC:=Kh HB;have l4:n4≤12:=by rw[HB];exact hX.out.2.2.1
   rw[←HB]at x3 hY;clear HB;have h0:Hid (2≤p):=grp_gt hd.out.1;have jA:Hid (prodK p (msgB q) (msgX c Z q) 1=powI q.tgt (-(c:Int)) p):=prodK_one (has_lt hd.out.2.1)
   have jB:Hid (∀j,j≤n4→hasB p qq (prodK p (msgB q) (msgX c Z q) (j+1))=true):=fun j hj=>prodK_has h0.out (msg_len c Z q)
    (fun x hx=>(List.mem_cons.1 hx).elim (fun h=>h ▸ hd.out.2.1) (fun h=>hd.out.2.2 x h)) _ (by rw[HC.out]at hj;simp[msgB,imgB];omega)
   have jC:Hid (prodK p (msgB q) (msgX c Z q) (n4+1)=msgQ N c Z q):=by
    rw[Hid,HU.out];exact prodK_end (by rw[HC.out];simp[msgB,imgB]) (by rw[HC.out];simp[msgX,imgX])
   have HV:Hid (∀w,Calls Tryz.prog 108 #[.agg #[.string (E p),.string (E qq)],.string (E q.tgt),.agg #[.bool sn,.string (E c)]] w fun e w'=>e=.returned (.tuple #[.string (E (prodK p (msgB q) (msgX c Z q) 1)),.int .i64 0])∧Bw w w'):=fun w=>by
    rw[jR.out,jA.out];exact expN p qq q.tgt c w hf.out.1 (lt128 hf.out.2) hd.out.1 hd.out.2.1 ju.out
   obtain⟨qg,jD⟩:∃g,g=q.grp:=⟨_,rfl⟩;obtain⟨qt,jE⟩:∃g,g=q.tgt:=⟨_,rfl⟩;rw[←jD]at x1 y1 y2 jW;rw[←jE]at x2 HV;clear jD jE HU jA;have Jc:(0:Int)≤(k:Int):=by omega
   have Jd:(k:Int)<(n3:Int):=by omega
   have Je:(0:Int)≤(qg:Int):=by omega
   have Jf:(qg:Int)<(n1:Int):=by omega
   obtain⟨hB,hG,hb9⟩:=blk2 wp #[.int .i64 (qg:Int),.string (E qt),.slice to_ n4 tc] #[.string (E p),.string (E qq)] 131 86;have jX:=((b1 wp (.cells #[.int .i64 (qg:Int),.string (E qt),.slice to_ n4 tc] 131)).cell (p:=⟨b',o'+qg*2,none⟩) hw).trans y1;have jY:=((b1 wp (.cells #[.int .i64 (qg:Int),.string (E qt),.slice to_ n4 tc] 131)).cell (p:=⟨b',o'+qg*2+1,none⟩) hw).trans y2;have HW:=HA.lt;obtain⟨hi,hn,ho,hp,hq,hr⟩:=HA.x3;go_upto_region 6 with fail
   clear hi hn ho hp hq hr;clear HW;have h1:=own_after hO hb9;have h2:=jx.after hb9;have h3:=hY.after hb9;have he:=bt hW hb9;clear x1 x2 x3 y1 y2 jX jY jV hw HR hO HA jx hY;generalize (wp.alloc (.cells #[.int .i64 (qg:Int),.string (E qt),.slice to_ n4 tc] 131)).alloc (.cells #[.string (E p),.string (E qq)] 86)=wa at hB hG hb9 h1 h2 h3 he ⊢;obtain⟨ge,jF⟩:∃g,wp.heap.size=g:=⟨_,rfl⟩;rw[jF]at hB hG ⊢;clear jF hb9;replace hB:Blk wa ge 131 [.int .i64 (qg:Int),.string (E qt),.slice to_ n4 tc]:=hB;replace hG:Blk wa (ge+1) 86 [.string (E p),.string (E qq)]:=hG;have jZ:=hB.lt;have j0:=hG.lt;obtain⟨hy,hA,hC,hD,hE,hF⟩:=hB.x3;obtain⟨HX,HY,HZ,H0⟩:=hG.x2;have H1:=hB.gcell 0;have H2:=hB.gcell 1;have H3:=hB.gcell 2;have H4:=hG.gcell 0;have H5:=hG.gcell 1;go_wp2_with fail
   refine wp_region_gw (by kernel_rfl) (by kernel_rfl) ?_;repeat (go_big_quiet_step (first | (go_at_call 100;exact gw_of (jP.out _)) | (go_at_call 150;exact gw_of (jQ.out _)) | (go_at_call 108;exact gw_of (HV.out _))))
   refine wpQuiet_nil ?_;rintro w9 ⟨xw9,rfl⟩;have hb9:=gw_below xw9;generalize gw xw9=w9 at hb9;clear hy hA hC hD hE hF;clear HX HY HZ H0;clear H1 H2 H3;clear H4 H5;clear HV jZ j0;replace hB:=hB.after hb9;replace hG:=hG.after hb9;replace h1:=own_after h1 hb9;replace h2:=h2.after hb9;replace h3:=h3.after hb9;replace he:=bt he hb9;clear hb9;obtain⟨hy,hA,hC,hD,hE,hF⟩:=hB.x3;go_wp2;clear hy hA hC hD hE hF;go_loopw [11,43] (fun v11 i wr=>∃j:Nat,j≤n4∧i=.int .i64 j∧v11=.string (E (prodK p (msgB q) (msgX c Z q) (j+1)))∧Bw w9 wr) (fun _ i _=>n4-(intOf i).toNat)
   case atStart=>exact⟨0,by omega,rfl,rfl,Br⟩
   case round =>
    obtain⟨j,hj,rfl,rfl,hH⟩:=hrel;obtain⟨wu,j1⟩:∃wu,wu=wr:=⟨_,rfl⟩;subst j1;have H6:=hG.after hH;by_cases j2:j<n4
    ·have hb:j<q.trms.length:=by rw[←HC.out];exact j2
     have h4:=Kh (hX.out.2.2.2 _ (Gm hb));have hI:Hid (hasB p qq (q.trms[j]'hb).base=true):=hd.out.2.2 _ (List.mem_map_of_mem (Gm hb));have ht:Hid (prodK p (msgB q) (msgX c Z q) (j+1)*powI (powI (q.trms[j]'hb).base (q.trms[j]'hb).coef p) (Z.getD (q.trms[j]'hb).var 0) p%p=prodK p (msgB q) (msgX c Z q) (j+2)):=msg_stepK hb h0.out (has_lt hI.out) (has_coprime h0.out hI.out);have hu:(q.trms[j]'hb).var<Z.length:=by rw[HL.out];exact h4.out.2.1
     obtain⟨bt_,ot,rfl,j3,t1,t2,t3,t4⟩:=(h3.after hH).at_ hb;obtain⟨bz,oz,rfl,HD,z1,z2⟩:=(h2.after hH).at_ hu;have jG:(q.trms[j]'hb).var<n2:=by rw[jv.out,←HL.out];exact hu
     have H7:Hid ((Z[(q.trms[j]'hb).var]'hu).natAbs<256^128):=lt64 (jt.out _ (Gm hu));have jH:Hid (Z.getD (q.trms[j]'hb).var 0=Z[(q.trms[j]'hb).var]'hu):=by rw[Hid,List.getD_eq_getElem?_getD,List.getElem?_eq_getElem hu];rfl
     rw[jH.out]at ht;generalize Z[(q.trms[j]'hb).var]'hu=zr at z1 z2 H7 ht;clear jH hu;generalize (q.trms[j]'hb)=tt at t1 t2 t3 t4 h4 hI ht jG z1 z2;obtain⟨tb,tv,tz⟩:=tt;simp only[]at t1 t2 t3 t4 h4 hI ht jG z1 z2;have H8:Hid (∀w,Calls Tryz.prog 108 #[.agg #[.string (E p),.string (E qq)],.string (E tb),.agg #[.bool (sg (tz)),.string (E (tz).natAbs)]] w fun e w'=>e=.returned (.tuple #[.string (E (powI tb tz p)),.int .i64 0])∧Bw w w'):=fun w=>pexp_c p qq tb tz w hf.out.1 (lt128 hf.out.2) hd.out.1 hI.out (Nl h4.out.2.2 P8)
     have HE:Hid (hasB p qq (powI tb tz p)=true):=has_powIq tz h0.out hI.out;generalize powI tb tz p=ya at H8 HE ht;have H9:Hid (∀w,Calls Tryz.prog 108 #[.agg #[.string (E p),.string (E qq)],.string (E ya),.agg #[.bool (sg (zr)),.string (E (zr).natAbs)]] w fun e w'=>e=.returned (.tuple #[.string (E (powI ya zr p)),.int .i64 0])∧Bw w w'):=fun w=>pexp_c p qq ya zr w hf.out.1 (lt128 hf.out.2) hd.out.1 HE.out H7.out
     have ja:Hid (hasB p qq (powI ya zr p)=true):=has_powIq zr h0.out HE.out;generalize powI ya zr p=yb at H9 ja ht
     have HF:Hid (∀w,Calls Tryz.prog 109 #[.agg #[.string (E p),.string (E qq)],.string (E (prodK p (msgB q) (msgX c Z q) (j+1))),.string (E yb)] w fun e w'=>e=.returned (.tuple #[.string (E (prodK p (msgB q) (msgX c Z q) (j+1+1))),.int .i64 0])∧Bw w w'):=fun w=>by
      rw[show j+1+1=j+2 from rfl,←ht.out];exact pmul_c p qq _ yb w hf.out.1 (lt128 hf.out.2) hd.out.1 (jB.out j (by omega)) ja.out
     clear ht HE ja hI h4 H7;obtain⟨xb,jb⟩:∃x,x=prodK p (msgB q) (msgX c Z q) (j+1+1):=⟨_,rfl⟩;have j4:=Kh jb;rw[←jb]at HF;clear jb;generalize prodK p (msgB q) (msgX c Z q) (j+1)=xa at HF;have Jg:(0:Int)≤(j:Int):=by omega
     have Jh:(j:Int)<(n4:Int):=by omega
     have Ji:(0:Int)≤(tv:Int):=by omega
     have Jj:(tv:Int)<(n2:Int):=by omega
     obtain⟨hT,jc⟩:=blk1 wu #[.string (E tb),.int .i64 (tv:Int),.bool (sg tz),.string (E tz.natAbs)] 133;have jd:=H6.after jc;obtain⟨je,jf,jg,jh,ji,jj,jk,jl⟩:=hT.x4;obtain⟨h5,h6,h7,h8⟩:=jd.x2;go_wp2_with fail
     refine (H8.out _).mono ?_;rintro e w2 ⟨rfl,HG⟩;clear je jf jg jh ji jj jk jl;clear h5 h6 h7 h8;have hg:=bt jc HG;have hJ:=hT.after HG;have hN:=jd.after HG;have zz1:=(hg.cell (p:=⟨bz,oz+tv*2,none⟩) HD).trans z1;have zz2:=(hg.cell (p:=⟨bz,oz+tv*2+1,none⟩) HD).trans z2;have hK:=Nl HD hg.size;have g1:=gcl (a:=⟨bz,oz+tv*2,none⟩) hK zz1;have g2:=gcl (a:=⟨bz,oz+tv*2+1,none⟩) hK zz2;have jm:=hJ.lt;have jn:=hN.lt;clear hT jd HG jc t1 t2 t3 t4 z1 z2 j3 HD H8;obtain⟨h9,Ha,Hb,Hc,Hd,He,Hf,Hg⟩:=hJ.x4;obtain⟨Hh,Hi,Hj,Hk⟩:=hN.x2;have Hl:=hJ.gcell 0;have Hm:=hJ.gcell 1;have Hn:=hJ.gcell 2;have Ho:=hJ.gcell 3;have Hp:=hN.gcell 0;have Hq:=hN.gcell 1;go_upto_region 11 with fail
     go_wp2_with fail
     refine wp_region_gw (by kernel_rfl) (by kernel_rfl) ?_;repeat (go_big_quiet_step (first | (go_at_call 108;exact gw_of (H9.out _))))
     refine wpQuiet_nil ?_;rintro w4 ⟨xw4,rfl⟩;have hb4:=gw_below xw4;generalize gw xw4=w4 at hb4;clear h9 Ha Hb Hc Hd He Hf Hg;clear Hh Hi Hj Hk;clear Hl Hm Hn Ho;clear Hp Hq;clear g1 g2 zz1 zz2 hK jm jn;have jI:=hN.after hb4;obtain⟨Hr,Hs,Ht,Hu⟩:=jI.x2;go_wp2_with fail
     refine (HF.out _).mono ?_;rintro e w5 ⟨rfl,j5⟩;clear Hr Hs Ht Hu;have j6:=bt (bt (bt hH hg) hb4) j5;clear jI hN hJ H6 HF H9;go_wp2;go_roundw
     case rel=>exact⟨j+1,by omega,by go_num,by rw[←j4.out],j6⟩
     case measure=>simp[intOf];omega
    ·obtain rfl:n4=j:=by omega
     have HH:=own_after h1 hH;have hL:=bt he hH;rw[jC.out];have jo:Hid (((N.msgs c Z).take k).length=k):=by rw[Hid,List.length_take,NSta.msgs,List.length_map];omega
     rw[jo.out]at HH;have jp:=Kh HT.out;clear jB jC H6 hB hG h2 h3 h1 he HT hd jy hH;generalize msgQ N c Z q=iv at jp ⊢;generalize (N.msgs c Z).take k=LI at HH jp jo;have jq:wu.ownsRow w1.heap.size 22 1 u7 k (strs LI):=HH;clear HH;have j7:=hL.size;go_wp2_with (at_builtin;refine wpList_append_lies _ rfl (.tmp 75) (.tmp 77) _ rfl w1.heap.size 22 i0 _ 1 16 Tryz.underlying31 jK.out jL.out jM.out jN.out rfl (by omega) u7 k (strs LI) rfl (own_after jq (b1 _ (.cells #[.string (E iv)] 22))) ⟨wu.heap.size,0,none⟩ 1 1 [.string (E iv)] rfl rfl (Blk.new wu #[.string (E iv)] 22).cells (by simp[Value.oneCell']) (by omega) (by simp only[maxLen];omega) (by omega) (by rw[World.size_alloc];omega) (wu.heap.size+1) (by simp) ?_;intro ga ca wz Hv hv j8 jr)
     have jJ:NOwn wz w1.heap.size (.slice (some ⟨ga,0,none⟩) (k+1) ca) (LI++[iv]):=by rw[NOwn,List.length_append,jo.out,←strs_app];exact Hv
     rw[←jp.out]at jJ;have j9:=(ba hL (.cells #[.string (E iv)] 22)).grown hv (by rw[World.size_alloc];omega) (fun x hx=>(own_lt jq hx).2);clear Hv hv j8 jr jq hL;go_wp2;go_roundw
     case rel=>exact⟨k+1,by omega,by go_num,jJ,j9⟩
     case measure=>simp[intOf];omega
  ·have Ja:Hid ((N.msgs c Z).take k=N.msgs c Z):=List.take_of_length_le (by rw[NSta.msgs,List.length_map,←jw.out];omega);rw[Ja.out]at hO;have Jb:=hV.size;obtain⟨hi,hn,ho,hp,hq,hr⟩:=HA.x3;go_wp2;go_ret
   exact⟨_,rfl,own_mono hO Jb,HS⟩
end
section
open Go.RowKit Go.Shelf
def FPost (w:World) (k:Nat) (L:List Nat) (e:Ending) (w':World):Prop:=∃v,e=.returned (.tuple #[v,.int .i64 k])∧NOwn w' w.heap.size v L∧Bw w w'
theorem fpost_err {w w':World} {k:Nat} {L:List Nat} (hL:L=[]) (h:Bw w w'):FPost w k L (.returned (.tuple #[.slice none 0 0,.int .i64 k])) w':=⟨_,rfl,by rw[hL];exact World.ownsRow_nil _ _ _ _,h⟩
def blM (N:NSta) (C K:Nat) (Z:List Int) (j:Nat):Bool:=blw (N.vars.getD j 0) (Z.getD j 0) (lim N.ord C K (N.vars.getD j 0)).1
theorem blM_at (N:NSta) (C K:Nat) (Z:List Int) (j:Nat) (h:j<N.vars.length) (h2:j<Z.length):blM N C K Z j=blw N.vars[j] Z[j] (lim N.ord C K N.vars[j]).1:=by
 unfold blM;simp only[List.getD_eq_getElem?_getD,List.getElem?_eq_getElem h,List.getElem?_eq_getElem h2,Option.getD_some]
def NSta.fir (N:NSta) (C K c:Nat) (Z:List Int):Nat:=if C≤c then 2 else if Z.length≠N.vars.length then 6 else if ra N.vars.length (blJ N C K Z)=false then 2 else 0
def NSta.firL (N:NSta) (C K c:Nat) (Z:List Int):List Nat:=if N.fir C K c Z=0 then N.msgs c Z else []
theorem fir_a {N:NSta} {C K c:Nat} {Z:List Int} (h:C≤c):N.fir C K c Z=2∧N.firL C K c Z=[]:=by
 have:N.fir C K c Z=2:=by unfold NSta.fir;rw[if_pos h]
 exact⟨this,by unfold NSta.firL;rw[this];rfl⟩
theorem fir_b {N:NSta} {C K c:Nat} {Z:List Int} (h:c<C) (h2:Z.length≠N.vars.length):N.fir C K c Z=6∧N.firL C K c Z=[]:=by
 have:N.fir C K c Z=6:=by unfold NSta.fir;rw[if_neg (by omega),if_pos h2]
 exact⟨this,by unfold NSta.firL;rw[this];rfl⟩
theorem fir_c {N:NSta} {C K c:Nat} {Z:List Int} (h:c<C) (h2:Z.length=N.vars.length) (h3:ra N.vars.length (blJ N C K Z)=false):N.fir C K c Z=2∧N.firL C K c Z=[]:=by
 have:N.fir C K c Z=2:=by unfold NSta.fir;rw[if_neg (by omega),if_neg (by omega),if_pos h3]
 exact⟨this,by unfold NSta.firL;rw[this];rfl⟩
theorem fir_d {N:NSta} {C K c:Nat} {Z:List Int} (h:c<C) (h2:Z.length=N.vars.length) (h3:ra N.vars.length (blJ N C K Z)=true):N.fir C K c Z=0∧N.firL C K c Z=N.msgs c Z:=by
 have:N.fir C K c Z=0:=by unfold NSta.fir;rw[if_neg (by omega),if_neg (by omega),if_neg (by rw[h3];decide)]
 exact⟨this,by unfold NSta.firL;rw[this];rfl⟩
theorem lims_lt {N:NSta} (hm:NOk N) {C K:Nat} (hC:C<256^16) (hK:K<256^16) (k:Nat) (hk:k<N.vars.length):(lim N.ord C K N.vars[k]).1<256^64∧(lim N.ord C K N.vars[k]).2<256^64:=by
 unfold lim;split
 ·exact⟨Nl (ord_lt hm) P8,Nl (ord_lt hm) P8⟩
 ·have h:=Nl (lt_mul3 hC hK (hm.v _ (Gm hk))).2 (show 256^48≤256^64 from Nat.pow_le_pow_right (by decide) (by decide));exact⟨h,Nat.lt_of_le_of_lt (Nat.sub_le _ _) h⟩
theorem sfirst_num (N:NSta) (C K c:Nat) (Z:List Int) (v1 v2 v3 v4:Value) (w:World) (hC:C<256^16) (hK:K<256^16) (hW:c<256^128) (hm:NOk N) (hS:NAt w v1 v2 v3 N) (h0:N.chk=0) (hZ:ZsAt w v4 Z) (hz:∀z∈Z,z.natAbs<256^64) (Hg:Z.length≤1000)
  (Hh:∀w',Bw w w'→Calls Tryz.prog 33 #[.agg #[.string (E C),.string (E K)],.agg #[v1,v2,v3]] w' (B2Post w' (N.lims C K))) :
  Calls Tryz.prog 93 #[.agg #[.string (E C),.string (E K)],.agg #[v1,v2,v3],.string (E c),v4] w (FPost w (N.fir C K c Z) (N.firL C K c Z)):=by
 obtain⟨r,hr⟩:∃r:Nat,r=N.fir C K c Z:=⟨_,rfl⟩;obtain⟨rl,h3⟩:∃r,r=N.firL C K c Z:=⟨_,rfl⟩;have hn:=Kh hr;have hX:=Kh h3;rw[←hr,←h3];clear hr h3;have Hi:=Kh Hh
 have h4:Hid (∀w',Bw w w'→Calls Tryz.prog 113 #[v4] w' fun e w''=>e=.returned (.bool true)∧Bw w' w''):=fun w' hb=>by
  have h:=sints_c (Z.map zI) v4 w' (by simpa using Hg) (by
   intro x hx;obtain⟨z,h5,rfl⟩:=List.mem_map.1 hx;have:=sz z.natAbs (lt64 (hz z h5));simp only[zI];omega) (hZ.after hb)
  rwa [sints_num Z (fun z h5=>lt64 (hz z h5))]at h
 have hN:Hid (Z.length=N.vars.length→∀w',Bw w w'→Calls Tryz.prog 101 #[.agg #[v1,v2,v3],.string (E c),v4] w' fun e w''=>∃v,e=.returned v∧NOwn w'' w'.heap.size v (N.msgs c Z)∧Bw w' w''):=fun hl w' hb=>messages_c N c Z v1 v2 v3 v4 w' hm (hS.after hb) (hZ.after hb) hz hl h0 hW
 have Hj:Hid (∀w,Calls Tryz.prog 79 #[.string (E c)] w fun e w'=>e=.returned (.bool true)∧w=w'):=fun w=>validE_c c w hW
 have h6:Hid (∀w,Calls Tryz.prog 34 #[.string (E c),.string (E C)] w fun e w'=>e=.returned (.int .i64 (cmpN c C))∧w=w'):=fun w=>cmp_c c C w hW (lt128' hC (by decide))
 obtain⟨q1,h7⟩:∃q:Int,q=cmpN c C:=⟨_,rfl⟩;rw[←h7]at h6;have Hk:=Kh h7;have Hw:=Kh (lims_lt hm hC hK);have Hx:=Kh hz;obtain⟨a4,c4,rfl⟩:=hZ.form;obtain⟨nz,h8⟩:∃n,n=Z.length:=⟨_,rfl⟩;have h9:=Kh h8;rw[←h8]at hZ Hg h4 hN ⊢;obtain⟨a1,c1,a2,c2,a3,c3,rfl,rfl,rfl⟩:=hS.forms;obtain⟨n1,Hl⟩:∃n,n=N.grps.length:=⟨_,rfl⟩;obtain⟨n2,hY⟩:∃n,n=N.vars.length:=⟨_,rfl⟩;obtain⟨n3,Hm⟩:∃n,n=N.eqs.length:=⟨_,rfl⟩;have hO:=Kh hY;have l2:n2≤12:=by rw[hY];exact hm.nv
 rw[←Hl,←hY,←Hm]at hS Hi hN ⊢;clear hm Hl hY Hm hC hK hW h0 hz Hh h8 h7;obtain⟨hR,hP,hc⟩:=blk2 w #[.string (E C),.string (E K)] #[.slice a1 n1 c1,.slice a2 n2 c2,.slice a3 n3 c3] 24 29;replace hS:=hS.after hc;replace hZ:=hZ.after hc;obtain⟨hy,hA,hB,hD⟩:=hR.x2;obtain⟨ho,hp,hq,ht,hu,hv⟩:=hP.x3;go_enter Tryz.func93,Tryz.ntmps93
 go_wp2_with fail
 refine (Hi.out _ hc).mono ?_;rintro e w2 ⟨mv,uv,rfl,Ha,Hn,hG⟩;clear hy hA hB hD;clear ho hp hq ht hu hv;have hQ:=Hn.ss;clear Ha Hn;obtain⟨a6,c6,rfl⟩:=RAt.form hQ;have Ho:Hid ((((N.lims C K).map (·.2)).map E).length=n2):=by rw[Hid,List.length_map,List.length_map,NSta.lims,List.length_map,hO.out]
 rw[Ho.out]at hQ ⊢;replace hR:=hR.after hG;replace hP:=hP.after hG;replace hS:=hS.after hG;replace hZ:=hZ.after hG;replace hc:=bt hc hG;clear hG;go_wp2_with fail
 refine (Hj.out _).mono ?_;rintro e w' ⟨rfl,rfl⟩;go_wp2_with fail
 refine (h4.out _ hc).mono ?_;rintro e w3 ⟨rfl,hE⟩;replace hR:=hR.after hE;replace hP:=hP.after hE;replace hS:=hS.after hE;replace hZ:=hZ.after hE;replace hQ:=SsAt.after hQ hE;replace hc:=bt hc hE;clear hE h4 Hj;obtain⟨hy,hA,hB,hD⟩:=hR.x2;go_wp2_with fail
 refine (h6.out _).mono ?_;rintro e w' ⟨rfl,rfl⟩;clear hy hA hB hD;clear h6;by_cases h1:C≤c
 ·have Hy:decide (0≤q1)=true:=Dt (by rw[Hk.out];have:=cmp_nneg c C h1;omega);have HX:=Kh (fir_a (N:=N) (K:=K) (Z:=Z) h1);clear h1;go_wp2;go_ret2
  rw[hn.out,hX.out,HX.out.1,HX.out.2];exact fpost_err rfl hc
 ·have Hy:decide (0≤q1)=false:=decide_eq_false (by rw[Hk.out];have:=cmp_neg c C (by omega);omega);have Hb:Hid (c<C):=by rw[Hid];omega
  clear h1;by_cases Hc:nz=n2
  ·have Hp:Hid (Z.length=N.vars.length):=by rw[Hid,←h9.out,←hO.out];exact Hc
   subst Hc;have hM:=hN.out rfl;have Hz:=Kh hM;clear hM hN;obtain⟨ho,hp,hq,ht,hu,hv⟩:=hP.x3;go_wp2;clear ho hp hq ht hu hv;go_loopw [47] (fun i wr=>∃k:Nat,k≤nz∧i=.int .i64 k∧Hid (ra k (blJ N C K Z)=true)∧Bw w3 wr) (fun i _=>nz-(intOf i).toNat)
   case atStart=>exact⟨0,by omega,rfl,rfl,Br⟩
   case round =>
    obtain⟨k,hk,rfl,Hq,hH⟩:=hrel;obtain⟨wp,HA⟩:∃wp,wp=wr:=⟨_,rfl⟩;subst HA;have hF:=bt hc hH;have Hr:=hP.after hH;by_cases hlt:k<nz
    ·have hw:k<N.vars.length:=by rw[←hO.out];exact hlt
     have hI:k<Z.length:=by rw[←h9.out];exact hlt
     have HB:k<(((N.lims C K).map (·.2)).map E).length:=by rw[Ho.out];exact hlt
     obtain⟨bv,ov,rfl,HC,x1⟩:=(hS.after hH).vat hw;obtain⟨bz,oz,rfl,hJ,z1,z2⟩:=(hZ.after hH).at_ hI;obtain⟨bu,ou,rfl,h2,y1⟩:=SsAt.at_ (SsAt.after hQ hH) HB;rw[show (((N.lims C K).map (·.2)).map E)[k]=E (lim N.ord C K (N.vars[k]'hw)).2 by simp[NSta.lims]]at y1
     have hL:Hid (∀w,Calls Tryz.prog 118 #[.agg #[.string (E (N.vars[k]'hw))],.string (E (lim N.ord C K (N.vars[k]'hw)).2),.agg #[.bool (sg (Z[k]'hI)),.string (E (Z[k]'hI).natAbs)]] w fun e w'=>e=.returned (.bool (blJ N C K Z k))∧Bw w w'):=fun w=>by
      rw[blJ_at N C K Z k hw hI];exact admits_c _ _ _ w (lt64 (Hw.out k hw).2) (lt64 (Hx.out _ (Gm hI)))
     have Hs:Hid (ra (k+1) (blJ N C K Z)=blJ N C K Z k):=by rw[Hid,ra_succ,Hq.out];rfl
     have Ht:Hid (blJ N C K Z k=false→ra N.vars.length (blJ N C K Z)=false):=fun h=>ra_false hw h
     generalize (lim N.ord C K (N.vars[k]'hw)).2=mk at y1 hL;generalize (N.vars[k]'hw)=vb at x1 hL;generalize (Z[k]'hI)=lz at z1 z2 hL;generalize blJ N C K Z k=bl at hL Hs Ht;have HH:(0:Int)≤(k:Int):=by omega
     have HI:(k:Int)<(nz:Int):=by omega
     obtain⟨hV,hd⟩:=blk1 wp #[.string (E vb)] 71;have zz1:=(hd.cell (p:=⟨bz,oz+k*2,none⟩) hJ).trans z1;have zz2:=(hd.cell (p:=⟨bz,oz+k*2+1,none⟩) hJ).trans z2;have yy1:=(hd.cell (p:=⟨bu,ou+k,none⟩) h2).trans y1;have g1:=gcl (a:=⟨bz,oz+k*2,none⟩) (Nl hJ hd.size) zz1;have g2:=gcl (a:=⟨bz,oz+k*2+1,none⟩) (Nl hJ hd.size) zz2;have g3:=gcl (a:=⟨bu,ou+k,none⟩) (Nl h2 hd.size) yy1;have hT:=Nl hJ hd.size;have hU:=Nl h2 hd.size;obtain⟨he,hf,hg,hh,hi,hj⟩:=Hr.x3;go_upto_region 13 with fail
     clear he hf hg hh hi hj;clear x1 y1 z1 z2 HC;generalize wp.alloc (.cells #[.string (E vb)] 71)=wv at hV hd zz1 zz2 yy1 g1 g2 g3 hT hU ⊢;obtain⟨gv,Hu⟩:∃g,wp.heap.size=g:=⟨_,rfl⟩;have HD:=bt hH hd;clear hd hJ h2;rw[Hu]at hV ⊢;clear Hu;replace hV:Blk wv gv 71 [.string (E vb)]:=hV;have HE:=hV.lt;obtain⟨Hd,He⟩:=hV.x1;have Hf:=hV.gcell 0;go_wp2_with fail
     refine wp_region_gw (by kernel_rfl) (by kernel_rfl) ?_;repeat (go_big_quiet_step (first | (go_at_call 118;exact gw_of (hL.out _))))
     refine wpQuiet_nil ?_;rintro w9 ⟨xw9,rfl⟩;have hb9:=gw_below xw9;generalize gw xw9=w9 at hb9;clear Hd He;clear Hf;clear g1 g2 g3 zz1 zz2 yy1 hT hU HE hV hL;have Hv:=bt HD hb9;cases bl
     ·have HX:=Kh (fir_c Hb.out Hp.out (Ht.out rfl));go_wp2;go_ret2
      rw[hn.out,hX.out,HX.out.1,HX.out.2];exact fpost_err rfl (bt hc Hv)
     ·go_wp2;go_roundw
      case rel=>exact⟨k+1,by omega,by go_num,Hs,Hv⟩
      case measure=>simp[intOf];omega
    ·obtain rfl:nz=k:=by omega
     have HX:=Kh (fir_d Hb.out Hp.out (by rw[←hO.out];exact Hq.out));obtain⟨he,hf,hg,hh,hi,hj⟩:=Hr.x3;go_wp2_with fail
     refine (Hz.out _ hF).mono ?_;rintro e w4 ⟨mo,rfl,Ha,hb4⟩;clear he hf hg hh hi hj;have HF:=hF.size;go_wp2;go_ret2
     rw[hn.out,hX.out,HX.out.1,HX.out.2];exact⟨_,rfl,own_mono Ha HF,bt hF hb4⟩
  ·have HG:¬ (nz:Int)=(n2:Int):=by omega
   have HX:=Kh (fir_b (K:=K) Hb.out (show Z.length≠N.vars.length by rw[←h9.out,←hO.out];exact Hc));clear hN;obtain⟨ho,hp,hq,ht,hu,hv⟩:=hP.x3;go_wp2;go_ret2
   rw[hn.out,hX.out,HX.out.1,HX.out.2];exact fpost_err rfl hc
end
section
open Go.RowKit Go.Shelf
theorem up65 {x:Nat} (h:x<256^65):x<256^128:=Nl h P8
theorem add65 {z:Int} {m:Nat} (hz:z.natAbs<256^64) (hm:m<256^64):(z+(m:Int)).natAbs<256^65:=by
 have:(256:Nat)^64+256^64≤256^65:=by decide
 omega
theorem sub1_65 {z:Int} (hz:z.natAbs<256^65):(z-1).natAbs<256^128:=by
 have:(256:Nat)^65+1≤256^128:=by decide
 omega
theorem coin_step (N:NSta) (C K:Nat) (Z:List Int) (k:Nat) (h:k<N.vars.length) (h2:k<Z.length):(N.coinL C K Z).take (k+1)=(N.coinL C K Z).take k++[coinN N.vars[k] (lim N.ord C K N.vars[k]).1 Z[k]]:=by
 unfold NSta.coinL;rw[←List.map_take,List.take_succ_eq_append_getElem (by simpa using h),List.map_append,List.map_take];simp only[List.getElem_range,List.map_cons,List.map_nil,coinJ,List.getD_eq_getElem?_getD,List.getElem?_eq_getElem h,List.getElem?_eq_getElem h2,Option.getD_some]
def NSta.coi (N:NSta) (C K:Nat) (Z:List Int):Nat:=if Z.length≠N.vars.length then 6 else if ra N.vars.length (blM N C K Z)=false then 2 else 0
def NSta.coins (N:NSta) (C K:Nat) (Z:List Int):List Nat:=if N.coi C K Z=0 then N.coinL C K Z else []
theorem coi_b {N:NSta} {C K:Nat} {Z:List Int} (h2:Z.length≠N.vars.length):N.coi C K Z=6∧N.coins C K Z=[]:=by
 have:N.coi C K Z=6:=by unfold NSta.coi;rw[if_pos h2]
 exact⟨this,by unfold NSta.coins;rw[this];rfl⟩
theorem coi_c {N:NSta} {C K:Nat} {Z:List Int} (h2:Z.length=N.vars.length) (h3:ra N.vars.length (blM N C K Z)=false):N.coi C K Z=2∧N.coins C K Z=[]:=by
 have:N.coi C K Z=2:=by unfold NSta.coi;rw[if_neg (by omega),if_pos h3]
 exact⟨this,by unfold NSta.coins;rw[this];rfl⟩
theorem coi_d {N:NSta} {C K:Nat} {Z:List Int} (h2:Z.length=N.vars.length) (h3:ra N.vars.length (blM N C K Z)=true):N.coi C K Z=0∧N.coins C K Z=N.coinL C K Z:=by
 have:N.coi C K Z=0:=by unfold NSta.coi;rw[if_neg (by omega),if_neg (by rw[h3];decide)]
 exact⟨this,by unfold NSta.coins;rw[this];rfl⟩
theorem scoins_num (N:NSta) (C K:Nat) (Z:List Int) (v1 v2 v3 v4:Value) (w:World) (hC:C<256^16) (hK:K<256^16) (hm:NOk N) (hS:NAt w v1 v2 v3 N) (hZ:ZsAt w v4 Z) (hz:∀z∈Z,z.natAbs<256^64) (ja:Z.length≤1000)
  (jb:∀w',Bw w w'→Calls Tryz.prog 33 #[.agg #[.string (E C),.string (E K)],.agg #[v1,v2,v3]] w' (B2Post w' (N.lims C K))) :
  Calls Tryz.prog 32 #[.agg #[.string (E C),.string (E K)],.agg #[v1,v2,v3],v4] w (FPost w (N.coi C K Z) (N.coins C K Z)):=by
 obtain⟨i0,jc,h9,Ha,Hb⟩:=info_parts info_nat;have jd:=Kh jc;have je:=Kh h9;have jf:=Kh Ha;have jg:=Kh Hb;clear jc h9 Ha Hb;obtain⟨r,hr⟩:∃r:Nat,r=N.coi C K Z:=⟨_,rfl⟩;obtain⟨rl,HF⟩:∃r,r=N.coins C K Z:=⟨_,rfl⟩;have hT:=Kh hr;have HG:=Kh HF;rw[←hr,←HF];clear hr HF;have jh:=Kh jb
 have HH:Hid (∀w',Bw w w'→Calls Tryz.prog 113 #[v4] w' fun e w''=>e=.returned (.bool true)∧Bw w' w''):=fun w' hb=>by
  have h:=sints_c (Z.map zI) v4 w' (by simpa using ja) (by
   intro x hx;obtain⟨z,HI,rfl⟩:=List.mem_map.1 hx;have:=sz z.natAbs (lt64 (hz z HI));simp only[zI];omega) (hZ.after hb)
  rwa [sints_num Z (fun z HI=>lt64 (hz z HI))]at h
 have jz:=Kh (lims_lt hm hC hK);have jA:=Kh hz;obtain⟨a4,c4,rfl⟩:=hZ.form;obtain⟨nz,HJ⟩:∃n,n=Z.length:=⟨_,rfl⟩;have HK:=Kh HJ;rw[←HJ]at hZ ja HH ⊢;obtain⟨a1,c1,a2,c2,a3,c3,rfl,rfl,rfl⟩:=hS.forms;obtain⟨n1,ji⟩:∃n,n=N.grps.length:=⟨_,rfl⟩;obtain⟨n2,HB⟩:∃n,n=N.vars.length:=⟨_,rfl⟩;obtain⟨n3,jj⟩:∃n,n=N.eqs.length:=⟨_,rfl⟩;have h2:=Kh HB;have l2:n2≤12:=by rw[HB];exact hm.nv
 rw[←ji,←HB,←jj]at hS jh ⊢;clear hm ji HB jj hC hK hz jb HJ;obtain⟨hR,hP,hh⟩:=blk2 w #[.string (E C),.string (E K)] #[.slice a1 n1 c1,.slice a2 n2 c2,.slice a3 n3 c3] 24 29;replace hS:=hS.after hh;replace hZ:=hZ.after hh;obtain⟨HL,HM,HN,HO⟩:=hR.x2;obtain⟨hy,hA,hB,hD,hE,hF⟩:=hP.x3;go_enter Tryz.func32,Tryz.ntmps32
 go_wp2_with fail
 refine (jh.out _ hh).mono ?_;rintro e w2 ⟨mv,uv,rfl,jk,jB,Hc⟩;clear HL HM HN HO;clear hy hA hB hD hE hF;have Hd:=jk.ss;clear jk jB;obtain⟨a6,c6,rfl⟩:=RAt.form Hd;have jl:Hid ((((N.lims C K).map (·.1)).map E).length=n2):=by rw[Hid,List.length_map,List.length_map,NSta.lims,List.length_map,h2.out]
 rw[jl.out]at Hd ⊢;clear hR;replace hP:=hP.after Hc;replace hS:=hS.after Hc;replace hZ:=hZ.after Hc;replace hh:=bt hh Hc;clear Hc;go_wp2_with fail
 refine (HH.out _ hh).mono ?_;rintro e w3 ⟨rfl,h3⟩;replace hP:=hP.after h3;replace hS:=hS.after h3;replace hZ:=hZ.after h3;replace Hd:=SsAt.after Hd h3;replace hh:=bt hh h3;clear h3 HH;by_cases HP:nz=n2
 ·have jm:Hid (Z.length=N.vars.length):=by rw[Hid,←HK.out,←h2.out];exact HP
  subst HP;obtain⟨hy,hA,hB,hD,hE,hF⟩:=hP.x3;go_wp2;clear hy hA hB hD hE hF;go_loopw [11,37] (fun v11 i wr=>∃k:Nat,k≤nz∧i=.int .i64 k∧Hid (ra k (blM N C K Z)=true)∧NOwn wr w3.heap.size v11 ((N.coinL C K Z).take k)∧Bw w3 wr) (fun _ i _=>nz-(intOf i).toNat)
  case atStart=>exact⟨0,by omega,rfl,rfl,World.ownsRow_nil _ _ _ _,Br⟩
  case round =>
   obtain⟨k,hk,rfl,jn,hO,h4⟩:=hrel;obtain⟨wp,jC⟩:∃wp,wp=wr:=⟨_,rfl⟩;subst jC;have HQ:=bt hh h4;have jD:=hP.after h4;by_cases hlt:k<nz
   ·have hw:k<N.vars.length:=by rw[←h2.out];exact hlt
    have hU:k<Z.length:=by rw[←HK.out];exact hlt
    have jE:k<(((N.lims C K).map (·.1)).map E).length:=by rw[jl.out];exact hlt
    have hi:=Kh (coin_step N C K Z k hw hU);obtain⟨bv,ov,rfl,jF,x1⟩:=(hS.after h4).vat hw;obtain⟨bz,oz,rfl,HC,z1,z2⟩:=(hZ.after h4).at_ hU;obtain⟨bu,ou,rfl,HR,y1⟩:=SsAt.at_ (SsAt.after Hd h4) jE;rw[show (((N.lims C K).map (·.1)).map E)[k]=E (lim N.ord C K (N.vars[k]'hw)).1 by simp[NSta.lims]]at y1;have HD:=Kh (jA.out _ (Gm hU));have He:=Kh (jz.out k hw).1
    have h5:Hid (∀w,Calls Tryz.prog 118 #[.agg #[.string (E (N.vars[k]'hw))],.string (E (lim N.ord C K (N.vars[k]'hw)).1),.agg #[.bool (sg (Z[k]'hU)),.string (E (Z[k]'hU).natAbs)]] w fun e w'=>e=.returned (.bool (blM N C K Z k))∧Bw w w'):=fun w=>by
     rw[blM_at N C K Z k hw hU];exact admits_c _ _ _ w (lt64 He.out) (lt64 HD.out)
    have HS:Hid (ra (k+1) (blM N C K Z)=blM N C K Z k):=by rw[Hid,ra_succ,jn.out];rfl
    have jo:Hid (blM N C K Z k=false→ra N.vars.length (blM N C K Z)=false):=fun h=>ra_false hw h
    generalize (lim N.ord C K (N.vars[k]'hw)).1=mk at y1 h5 He hi;generalize (N.vars[k]'hw)=vb at x1 h5 hi;generalize (Z[k]'hU)=lz at z1 z2 h5 HD hi;generalize blM N C K Z k=bl at h5 HS jo;have Hf:Hid (((N.coinL C K Z).take k).length=k):=by rw[Hid,List.length_take,NSta.coinL,List.length_map,List.length_range];omega
    have jR:(0:Int)≤(k:Int):=by omega
    have jS:(k:Int)<(nz:Int):=by omega
    obtain⟨hV,hG⟩:=blk1 wp #[.string (E vb)] 71;have zz1:=(hG.cell (p:=⟨bz,oz+k*2,none⟩) HC).trans z1;have zz2:=(hG.cell (p:=⟨bz,oz+k*2+1,none⟩) HC).trans z2;have yy1:=(hG.cell (p:=⟨bu,ou+k,none⟩) HR).trans y1;have hd:=Nl HC hG.size;have hj:=Nl HR hG.size;have g1:=gcl (a:=⟨bz,oz+k*2,none⟩) hd zz1;have g2:=gcl (a:=⟨bz,oz+k*2+1,none⟩) hd zz2;have g3:=gcl (a:=⟨bu,ou+k,none⟩) hj yy1;have HT:=own_after hO hG;obtain⟨Hg,Hh,Hi,Hj,Hk,Hl⟩:=jD.x3;go_upto_region 12 with fail
    clear Hg Hh Hi Hj Hk Hl;clear x1 y1 z1 z2 jF hO;generalize wp.alloc (.cells #[.string (E vb)] 71)=wv at hV hG zz1 zz2 yy1 g1 g2 g3 hd hj HT ⊢;obtain⟨gv,jp⟩:∃g,wp.heap.size=g:=⟨_,rfl⟩;have jq:=bt h4 hG;clear hG HC HR;rw[jp]at hV ⊢;clear jp;replace hV:Blk wv gv 71 [.string (E vb)]:=hV;have jG:=hV.lt;obtain⟨HU,HV⟩:=hV.x1;have HW:=hV.gcell 0;go_wp2_with fail
    refine wp_region_gw (by kernel_rfl) (by kernel_rfl) ?_;repeat (go_big_quiet_step (first | (go_at_call 118;exact gw_of (h5.out _))))
    refine wpQuiet_nil ?_;rintro w9 ⟨xw9,rfl⟩;have hb9:=gw_below xw9;generalize gw xw9=w9 at hb9;clear HU HV;clear HW;clear g1 g2 g3 jG h5;have HY:=bt jq hb9;cases bl
    ·have HX:=Kh (coi_c jm.out (jo.out rfl));go_wp2;go_ret2
     rw[hT.out,HG.out,HX.out.1,HX.out.2];exact fpost_err rfl (bt hh HY)
    ·have jH:=hV.after hb9;have h6:=own_after HT hb9;have q1:=(hb9.cell (p:=⟨bz,oz+k*2,none⟩) hd).trans zz1;have q2:=(hb9.cell (p:=⟨bz,oz+k*2+1,none⟩) hd).trans zz2;have q3:=(hb9.cell (p:=⟨bu,ou+k,none⟩) hj).trans yy1;have jI:=Nl hd hb9.size;have Hm:=Nl hj hb9.size;replace h6:w9.ownsRow w3.heap.size 22 1 u11 k (strs ((N.coinL C K Z).take k)):=by have h:w9.ownsRow _ _ _ _ _ _:=h6;rw[Hf.out]at h;exact h
     clear hV HT zz1 zz2 yy1 hd hj hb9 jq;obtain⟨hX,hH⟩:=blk1 w9 #[.bool (sg lz),.string (E lz.natAbs)] 74;have Hn:=jH.after hH;have HZ:=Hn.lt;by_cases h7:vb=0
     ·have jJ:=zE h7;have Ho:Hid (coinN vb mk lz=lz.natAbs):=if_pos h7;rw[Ho.out]at hi;clear h7 Ho;obtain⟨hl,hn⟩:=Hn.x1;obtain⟨hI,hJ,hL,hM⟩:=hX.x2;go_upto_region 18 with fail
      clear hl hn;clear hI hJ hL hM;generalize w9.alloc (.cells #[.bool (sg lz),.string (E lz.natAbs)] 74)=wo at hX hH Hn ⊢;obtain⟨gx,h8⟩:∃g,w9.heap.size=g:=⟨_,rfl⟩;rw[h8]at hX ⊢;clear h8;replace hX:Blk wo gx 74 [.bool (sg lz),.string (E lz.natAbs)]:=hX;have jK:=hX.lt;obtain⟨hI,hJ,hL,hM⟩:=hX.x2;have hN:(wo).ownsRow w3.heap.size 22 1 u11 k (strs ((N.coinL C K Z).take k)):=own_after h6 hH;have he:=bt HY hH;generalize (N.coinL C K Z).take k=LI at hN h6 hi Hf;have H0:=he.size;go_wp2_with (at_builtin;refine wpList_append_lies _ rfl (.tmp 76) (.tmp 79) _ rfl w3.heap.size 22 i0 _ 1 16 Tryz.underlying31 jd.out je.out jf.out jg.out rfl (by omega) u11 k (strs LI) rfl (own_after hN (b1 _ (.cells #[.string (E lz.natAbs)] 22))) ⟨(wo).heap.size,0,none⟩ 1 1 [.string (E lz.natAbs)] rfl rfl (Blk.new (wo) #[.string (E lz.natAbs)] 22).cells (by simp[Value.oneCell']) (by omega) (by simp only[maxLen];omega) (by omega) (by rw[World.size_alloc];omega) ((wo).heap.size+1) (by simp) ?_;intro ga ca wz ho hc H1 hW)
      have Hp:NOwn wz w3.heap.size (.slice (some ⟨ga,0,none⟩) (k+1) ca) (LI++[lz.natAbs]):=by rw[NOwn,List.length_append,Hf.out,←strs_app];exact ho
      rw[←hi.out]at Hp;have H2:=(ba he (.cells #[.string (E lz.natAbs)] 22)).grown hc (by rw[World.size_alloc];omega) (fun x hx=>(own_lt hN hx).2);clear ho hc H1 hW hN he;go_wp2;go_roundw
      case rel=>exact⟨k+1,by omega,by go_num,HS,Hp,H2⟩
      case measure=>simp[intOf];omega
     ·have jJ:=nzE (Nat.pos_of_ne_zero h7);have Ho:Hid (coinN vb mk lz=(lz+(mk:Int)-1).natAbs):=if_neg h7;rw[Ho.out]at hi;have q3X:=(hH.cell (p:=⟨bu,ou+k,none⟩) Hm).trans q3;have hY:=Nl Hm hH.size;clear h7 Ho;have jr:Hid (∀w,Calls Tryz.prog 100 #[.string (E mk)] w fun e w'=>e=.returned (.agg #[.bool false,.string (E mk)])∧Bw w w'):=fun w=>fromN mk w (lt64 He.out)
      have H3:Hid ((lz+(mk:Int)).natAbs<256^65):=add65 HD.out He.out
      have h0:Hid (∀w,Calls Tryz.prog 119 #[.agg #[.bool (sg (lz)),.string (E (lz).natAbs)],.agg #[.bool false,.string (E mk)]] w fun e w'=>e=.returned (.tuple #[.agg #[.bool (sg (lz+(mk:Int))),.string (E (lz+(mk:Int)).natAbs)],.int .i64 0])∧Bw w w'):=fun w=>by
       have h:=iadd_c (x:=lz) (y:=(mk:Int)) (w:=w) (lt64 HD.out) (by rw[Int.natAbs_natCast];exact lt64 He.out) (up65 H3.out);rwa [Int.natAbs_natCast,sg_nat]at h
      have hp:Hid (∀w,Calls Tryz.prog 115 #[.agg #[.bool (sg (lz+(mk:Int))),.string (E (lz+(mk:Int)).natAbs)],.agg #[.bool (sg ((1:Int))),.string (E ((1:Int)).natAbs)]] w fun e w'=>e=.returned (.tuple #[.agg #[.bool (sg (lz+(mk:Int)-1)),.string (E (lz+(mk:Int)-1).natAbs)],.int .i64 0])∧Bw w w'):=fun w=>isub_c (x:=lz+(mk:Int)) (y:=1) (w:=w) (up65 H3.out) (by decide) (sub1_65 H3.out)
      have Hq:Hid (∀w,Calls Tryz.prog 120 #[.int .i64 1] w fun e w'=>e=.returned (.agg #[.bool (sg ((1:Int))),.string (E ((1:Int)).natAbs)])∧Bw w w'):=fun w=>iof_c 1 w (by decide) (by decide)
      generalize lz+(mk:Int)=s1 at h0 hp hi;generalize s1-1=s2 at hp hi;obtain⟨o1,H4⟩:∃o:Int,o=1:=⟨_,rfl⟩;rw[←H4]at hp;have hQ:Hid (∀w,Calls Tryz.prog 120 #[.int .i64 1] w fun e w'=>e=.returned (.agg #[.bool (sg (o1)),.string (E (o1).natAbs)])∧Bw w w'):=by rw[H4];exact Hq.out
      clear H4 Hq;obtain⟨hl,hn⟩:=Hn.x1;obtain⟨hI,hJ,hL,hM⟩:=hX.x2;go_upto_region 16 with fail
      clear hl hn;clear hI hJ hL hM;generalize w9.alloc (.cells #[.bool (sg lz),.string (E lz.natAbs)] 74)=wx at hX hH Hn q3X hY HZ ⊢;obtain⟨gx,h8⟩:∃g,w9.heap.size=g:=⟨_,rfl⟩;have HE:Hid (w9.heap.size≤gx):=by rw[Hid,h8];exact Nat.le_refl _
      rw[h8]at hX ⊢;clear h8;replace hX:Blk wx gx 74 [.bool (sg lz),.string (E lz.natAbs)]:=hX;have js:=hX.lt;have h1:=hX.drew;obtain⟨hq,ht,hu,hv⟩:=h1.x2;have q0:wx.drew.cell? ⟨bu,ou+k,none⟩=some (.string (E mk)):=q3X;have k0:gx<wx.drew.heap.size:=js;have k1:bu<wx.drew.heap.size:=hY;go_wp2_with fail
      go_cut [60] (fun s60 wc'=>Blk wc' gx 74 [.bool (sg s1),.string (E s1.natAbs)]∧Bw w9 wc')
      case first =>
       go_region_with (first | (go_at_call 100;(with_reducible refine (jr.out _).mono ?_);rintro e wf ⟨rfl,Hr⟩;have hf:=h1.after Hr;have Hs:=hf.cell 0;have Ht:=hf.free 0;have Hu:=hf.cell 1;have Hv:=hf.free 1;have H5:=hf.lt;have H6:=bt hH ((Below.drew Br).trans Hr)) | (go_at_call 119;(with_reducible refine (h0.out _).mono ?_);rintro e wd ⟨rfl,hbd⟩;have hg:=hf.after hbd;have Hw:=hg.cell 0;have Hx:=hg.free 0;have Hy:=hg.cell 1;have Hz:=hg.free 1;have H7:=hg.lt;have H8:=bt H6 hbd))
       all_goals
        go_wp2_with fail
        go_meet
        exact⟨(hg.set 0 _).set 1 _,(H8.setCell (p:=⟨gx,0,none⟩) HE.out _).setCell (p:=⟨gx,1,none⟩) HE.out _⟩
      case rest =>
      clear hq ht hu hv;clear q0 k0 k1 q3X hY js jr h0 hX h1 hH;obtain⟨H9,jt⟩:=hcut;obtain⟨wt,jL⟩:∃wx,wx=wc:=⟨_,rfl⟩;subst jL;have h1:=H9.drew;have HA:=H9.lt;have k0:gx<wt.drew.heap.size:=HA;obtain⟨hq,ht,hu,hv⟩:=h1.x2;go_wp2_with fail
      go_cut [70] (fun s70 wc'=>Blk wc' gx 74 [.bool (sg s2),.string (E s2.natAbs)]∧Bw w9 wc')
      case first =>
       go_region_with (first | (go_at_call 120;(with_reducible refine (hQ.out _).mono ?_);rintro e wf ⟨rfl,Hr⟩;have hf:=h1.after Hr;have Hs:=hf.cell 0;have Ht:=hf.free 0;have Hu:=hf.cell 1;have Hv:=hf.free 1;have H5:=hf.lt;have H6:=bt jt ((Below.drew Br).trans Hr)) | (go_at_call 115;(with_reducible refine (hp.out _).mono ?_);rintro e wd ⟨rfl,hbd⟩;have hg:=hf.after hbd;have Hw:=hg.cell 0;have Hx:=hg.free 0;have Hy:=hg.cell 1;have Hz:=hg.free 1;have H7:=hg.lt;have H8:=bt H6 hbd))
       all_goals
        go_wp2_with fail
        go_meet
        exact⟨(hg.set 0 _).set 1 _,(H8.setCell (p:=⟨gx,0,none⟩) HE.out _).setCell (p:=⟨gx,1,none⟩) HE.out _⟩
      case rest =>
      clear hq ht hu hv;clear k0 HA hQ hp H9 h1 jt;obtain⟨jM,ju⟩:=hcut;obtain⟨wo,jN⟩:∃wx,wx=wc:=⟨_,rfl⟩;subst jN;obtain⟨jv,jw,jx,jy⟩:=jM.x2;have hN:(wo).ownsRow w3.heap.size 22 1 u11 k (strs ((N.coinL C K Z).take k)):=own_after h6 ju;have he:=bt HY ju;generalize (N.coinL C K Z).take k=LI at hN h6 hi Hf;have H0:=he.size;go_wp2_with (at_builtin;refine wpList_append_lies _ rfl (.tmp 76) (.tmp 79) _ rfl w3.heap.size 22 i0 _ 1 16 Tryz.underlying31 jd.out je.out jf.out jg.out rfl (by omega) u11 k (strs LI) rfl (own_after hN (b1 _ (.cells #[.string (E s2.natAbs)] 22))) ⟨(wo).heap.size,0,none⟩ 1 1 [.string (E s2.natAbs)] rfl rfl (Blk.new (wo) #[.string (E s2.natAbs)] 22).cells (by simp[Value.oneCell']) (by omega) (by simp only[maxLen];omega) (by omega) (by rw[World.size_alloc];omega) ((wo).heap.size+1) (by simp) ?_;intro ga ca wz ho hc H1 hW)
      have Hp:NOwn wz w3.heap.size (.slice (some ⟨ga,0,none⟩) (k+1) ca) (LI++[s2.natAbs]):=by rw[NOwn,List.length_append,Hf.out,←strs_app];exact ho
      rw[←hi.out]at Hp;have H2:=(ba he (.cells #[.string (E s2.natAbs)] 22)).grown hc (by rw[World.size_alloc];omega) (fun x hx=>(own_lt hN hx).2);clear ho hc H1 hW hN he;go_wp2;go_roundw
      case rel=>exact⟨k+1,by omega,by go_num,HS,Hp,H2⟩
      case measure=>simp[intOf];omega
   ·obtain rfl:nz=k:=by omega
    have HX:=Kh (coi_d jm.out (by rw[←h2.out];exact jn.out));have jO:Hid ((N.coinL C K Z).take nz=N.coinL C K Z):=List.take_of_length_le (by rw[NSta.coinL,List.length_map,List.length_range,←h2.out];exact Nat.le_refl _);rw[jO.out]at hO;have jP:=hh.size;go_wp2;go_ret2
    rw[hT.out,HG.out,HX.out.1,HX.out.2];exact⟨_,rfl,own_mono hO jP,HQ⟩
 ·have jQ:¬ (nz:Int)=(n2:Int):=by omega
  have HX:=Kh (coi_b (C:=C) (K:=K) (show Z.length≠N.vars.length by rw[←HK.out,←h2.out];exact HP));obtain⟨hy,hA,hB,hD,hE,hF⟩:=hP.x3;go_wp2;go_ret2
  rw[hT.out,HG.out,HX.out.1,HX.out.2];exact fpost_err rfl hh
end
section
open Go.RowKit Go.Shelf
end
section
open Go.RowKit Go.Shelf
theorem exp_step (N:NSta) (c:Nat) (Y Z:List Int) (k:Nat) (h:k<N.vars.length) (h2:k<Y.length) (h3:k<Z.length):(N.expL c Y Z).take (k+1)=(N.expL c Y Z).take k++[expI N.ord N.vars[k] c Y[k] Z[k]]:=by
 unfold NSta.expL;rw[←List.map_take,List.take_succ_eq_append_getElem (by simpa using h),List.map_append,List.map_take];simp only[List.getElem_range,List.map_cons,List.map_nil,expJ,List.getD_eq_getElem?_getD,List.getElem?_eq_getElem h,List.getElem?_eq_getElem h2,List.getElem?_eq_getElem h3,Option.getD_some]
def NSta.exE (N:NSta) (Z:List Int):Nat:=if N.hldE Z≠0 then N.hldE Z else if N.hldB Z=false then 18 else 0
def NSta.exL (N:NSta) (c:Nat) (Y Z:List Int):List Int:=if N.exE Z=0 then N.expL c Y Z else []
theorem ex_a {N:NSta} {c:Nat} {Y Z:List Int} (h:N.hldE Z≠0):N.exE Z=N.hldE Z∧N.exL c Y Z=[]:=by
 have:N.exE Z=N.hldE Z:=by unfold NSta.exE;rw[if_pos h]
 exact⟨this,by unfold NSta.exL;rw[this,if_neg h]⟩
theorem ex_b {N:NSta} {c:Nat} {Y Z:List Int} (h:N.hldE Z=0) (h2:N.hldB Z=false):N.exE Z=18∧N.exL c Y Z=[]:=by
 have:N.exE Z=18:=by unfold NSta.exE;rw[if_neg (by omega),if_pos h2]
 exact⟨this,by unfold NSta.exL;rw[this];rfl⟩
theorem ex_c {N:NSta} {c:Nat} {Y Z:List Int} (h:N.hldE Z=0) (h2:N.hldB Z=true):N.exE Z=0∧N.exL c Y Z=N.expL c Y Z:=by
 have:N.exE Z=0:=by unfold NSta.exE;rw[if_neg (by omega),if_neg (by rw[h2];decide)]
 exact⟨this,by unfold NSta.exL;rw[this];rfl⟩
theorem hld_inv {N:NSta} {Z:List Int} (h:N.hldB Z=true):Z.length=N.vars.length∧ra N.vars.length (inJ N Z)=true:=by
 unfold NSta.hldB at h;simp only[Bool.and_eq_true,decide_eq_true_eq]at h;exact⟨h.1,h.2.1⟩
theorem lt71 {c n:Nat} (h1:c<256^8) (h2:n<256^63):c*n<256^71:=by
 have h:=Nat.mul_lt_mul'' h1 h2;rwa [←Nat.pow_add]at h
theorem sub71 {y p:Int} (h1:y.natAbs<256^64) (h2:p.natAbs<256^71):(y-p).natAbs<256^128:=by
 have:(256:Nat)^64+256^71≤256^128:=by decide
 omega
theorem sexp_num (N:NSta) (C K c:Nat) (Y Z:List Int) (v1 v2 v3 v4 f rs:Value) (w:World) (hC:C<256^16) (hK:K<256^16) (hm:NOk N) (hS:NAt w v1 v2 v3 N) (h0:N.chk=0) (hZ:ZsAt w v4 Z) (hz:∀z∈Z,z.natAbs<256^63) (H5:Z.length≤1000)
  (jC:c<256^8) (hY:ZsAt w rs Y) (H6:Y.length=N.vars.length) (hy:∀y∈Y,y.natAbs<256^64) (jD:∀(j:Nat) (h:j<N.vars.length) (h2:j<Y.length),N.vars[j]=0→0<N.ord∧Y[j].natAbs<256^8)
  (jE:∀w',Bw w w'→Calls Tryz.prog 33 #[.agg #[.string (E C),.string (E K)],.agg #[v1,v2,v3]] w' (B2Post w' (N.lims C K)))
  (hv:∀w',Bw w w'→Calls Tryz.prog 28 #[.agg #[.string (E C),.string (E K)],.agg #[v1,v2,v3],.agg #[f,.string (E c),rs]] w' fun e w''=>e=.returned (.int .i64 0)∧Bw w' w'') :
  Calls Tryz.prog 31 #[.agg #[.string (E C),.string (E K)],.agg #[v1,v2,v3],v4,.agg #[f,.string (E c),rs]] w (EPost w (N.exE Z) (N.exL c Y Z)):=by
 obtain⟨i1,jF,Hf,Hg,Hh⟩:=info_parts info_Int;have jG:=Kh jF;have jH:=Kh Hf;have jI:=Kh Hg;have jJ:=Kh Hh;clear jF Hf Hg Hh;obtain⟨r,hr⟩:∃r:Nat,r=N.exE Z:=⟨_,rfl⟩;obtain⟨rl,H7⟩:∃r,r=N.exL c Y Z:=⟨_,rfl⟩;have hQ:=Kh hr;have H8:=Kh H7;rw[←hr,←H7];clear hr H7;have hE:∀z∈Z,z.natAbs<256^64:=fun z h=>Nl (hz z h) P8
 have jK:=Kh jE;have HV:=Kh hv
 have H9:Hid (∀w',Bw w w'→Calls Tryz.prog 113 #[v4] w' fun e w''=>e=.returned (.bool true)∧Bw w' w''):=fun w' hb=>by
  have h:=sints_c (Z.map zI) v4 w' (by simpa using H5) (by
   intro x hx;obtain⟨z,ja,rfl⟩:=List.mem_map.1 hx;have:=sz z.natAbs (lt64 (hE z ja));simp only[zI];omega) (hZ.after hb)
  rwa [sints_num Z (fun z ja=>lt64 (hE z ja))]at h
 have HU:Hid (∀w',Bw w w'→Calls Tryz.prog 30 #[.agg #[v1,v2,v3],v4] w' fun e w''=>e=.returned (.tuple #[.bool (N.hldB Z),.int .i64 (N.hldE Z:Nat)])∧Bw w' w''):=fun w' hb=>holds_c N Z v1 v2 v3 v4 w' hm (hS.after hb) (hZ.after hb) hE H5 h0
 have Jb:=Kh hz;have Jc:=Kh hy;have Jd:=Kh jD;have HW:=Kh jC;have Je:=Kh (ord_lt hm);obtain⟨a4,c4,rfl⟩:=hZ.form;obtain⟨a5,c5,rfl⟩:=hY.form;obtain⟨nz,jb⟩:∃n,n=Z.length:=⟨_,rfl⟩;have jL:=Kh jb;rw[←jb]at hZ H5 H9 HU ⊢;have Jf:=Kh H6;rw[H6]at hY HV ⊢;obtain⟨a1,c1,a2,c2,a3,c3,rfl,rfl,rfl⟩:=hS.forms;obtain⟨n1,jM⟩:∃n,n=N.grps.length:=⟨_,rfl⟩;obtain⟨n2,Hi⟩:∃n,n=N.vars.length:=⟨_,rfl⟩;obtain⟨n3,jN⟩:∃n,n=N.eqs.length:=⟨_,rfl⟩;have HY:=Kh Hi;have l2:n2≤12:=by rw[Hi];exact hm.nv
 rw[←jM,←Hi,←jN]at hS jK HU HV ⊢;rw[←Hi]at hY;clear hm jM Hi jN jb hC hK h0 hz hE jE hv hy jD H6 jC;obtain⟨hR,hP,hF,hc⟩:=blk3 w #[.string (E C),.string (E K)] #[.slice a1 n1 c1,.slice a2 n2 c2,.slice a3 n3 c3] #[f,.string (E c),.slice a5 n2 c5] 24 29 40;replace hS:=hS.after hc;replace hZ:=hZ.after hc;replace hY:=hY.after hc;obtain⟨hT,hU,hV,hW⟩:=hR.x2;obtain⟨he,hf,hg,hh,hi,hj⟩:=hP.x3;go_enter Tryz.func31,Tryz.ntmps31
 go_wp2_with fail
 refine (jK.out _ hc).mono ?_;rintro e w2 ⟨mv,uv,rfl,jO,Jg,hM⟩;clear hT hU hV hW;clear he hf hg hh hi hj;have hG:=jO.ss;clear jO Jg;obtain⟨a6,c6,rfl⟩:=RAt.form hG;have jP:Hid ((((N.lims C K).map (·.1)).map E).length=n2):=by rw[Hid,List.length_map,List.length_map,NSta.lims,List.length_map,HY.out]
 rw[jP.out]at hG ⊢;replace hR:=hR.after hM;replace hP:=hP.after hM;replace hF:=hF.after hM;replace hS:=hS.after hM;replace hZ:=hZ.after hM;replace hY:=hY.after hM;replace hc:=bt hc hM;clear hM;go_wp2_with fail
 refine (H9.out _ hc).mono ?_;rintro e w3 ⟨rfl,hH⟩;replace hG:=SsAt.after hG hH;replace hR:=hR.after hH;replace hP:=hP.after hH;replace hF:=hF.after hH;replace hS:=hS.after hH;replace hZ:=hZ.after hH;replace hY:=hY.after hH;replace hc:=bt hc hH;clear hH;clear H9;obtain⟨hT,hU,hV,hW⟩:=hR.x2;obtain⟨he,hf,hg,hh,hi,hj⟩:=hP.x3;obtain⟨jc,jd,je,jf,jg,jh⟩:=hF.x3;go_wp2_with fail
 refine (HV.out _ hc).mono ?_;rintro e w4 ⟨rfl,hb4⟩;clear hT hU hV hW;clear he hf hg hh hi hj;clear jc jd je jf jg jh;replace hG:=SsAt.after hG hb4;replace hR:=hR.after hb4;replace hP:=hP.after hb4;replace hF:=hF.after hb4;replace hS:=hS.after hb4;replace hZ:=hZ.after hb4;replace hY:=hY.after hb4;replace hc:=bt hc hb4;clear hb4;clear HV;obtain⟨he,hf,hg,hh,hi,hj⟩:=hP.x3;go_wp2_with fail
 refine (HU.out _ hc).mono ?_;rintro e w5 ⟨rfl,hI⟩;clear he hf hg hh hi hj;replace hG:=SsAt.after hG hI;replace hR:=hR.after hI;replace hP:=hP.after hI;replace hF:=hF.after hI;replace hS:=hS.after hI;replace hZ:=hZ.after hI;replace hY:=hY.after hI;replace hc:=bt hc hI;clear hI;clear HU hR;by_cases hJ:N.hldE Z=0
 ·cases Hj:N.hldB Z
  ·have HX:=Kh (ex_b (c:=c) (Y:=Y) hJ Hj);rw[hJ];clear hJ Hj;go_wp2;go_ret2
   rw[hQ.out,H8.out,HX.out.1,HX.out.2];exact epost_err rfl hc
  ·have HX:=Kh (ex_c (c:=c) (Y:=Y) hJ Hj);have jQ:=Kh (hld_inv Hj);rw[hJ];clear hJ Hj;have Jh:nz=n2:=by rw[jL.out,HY.out];exact jQ.out.1
   subst Jh;obtain⟨he,hf,hg,hh,hi,hj⟩:=hP.x3;go_wp2;clear he hf hg hh hi hj;go_loopw [15,57] (fun v15 i wr=>∃k:Nat,k≤nz∧i=.int .i64 k∧ZOwn wr w5.heap.size v15 ((N.expL c Y Z).take k)∧Bw w5 wr) (fun _ i _=>nz-(intOf i).toNat)
   case atStart=>exact⟨0,by omega,rfl,World.ownsRow_nil _ _ _ _,Br⟩
   case round =>
    obtain⟨k,hk,rfl,hO,hN⟩:=hrel;obtain⟨wp,Ji⟩:∃wp,wp=wr:=⟨_,rfl⟩;subst Ji;have ji:=bt hc hN;have jR:=hP.after hN;have jj:=hF.after hN;by_cases hlt:k<nz
    ·have hw:k<N.vars.length:=by rw[←HY.out];exact hlt
     have Hk:k<Z.length:=by rw[←jL.out];exact hlt
     have Hl:k<Y.length:=by rw[Jf.out];exact hw
     have Jj:k<(((N.lims C K).map (·.1)).map E).length:=by rw[jP.out];exact hlt
     have hu:=Kh (exp_step N c Y Z k hw Hl Hk);obtain⟨bv,ov,rfl,jS,x1⟩:=(hS.after hN).vat hw;obtain⟨bz,oz,rfl,Hm,z1,z2⟩:=(hZ.after hN).at_ Hk;obtain⟨by_,oy,rfl,Hn,y1,y2⟩:=(hY.after hN).at_ Hl;obtain⟨bu,ou,rfl,HZ,u1⟩:=SsAt.at_ (SsAt.after hG hN) Jj;rw[show (((N.lims C K).map (·.1)).map E)[k]=E (lim N.ord C K (N.vars[k]'hw)).1 by simp[NSta.lims]]at u1;have jk:=Kh (Jb.out _ (Gm Hk));have jl:=Kh (Jc.out _ (Gm Hl));have jm:=Kh (Jd.out k hw Hl);have H0:Hid (inJ N Z k=true):=ra_at jQ.out.2 hw;rw[inJ_at N Z k hw Hk]at H0;have jn:Hid (N.vars[k]'hw=0→(lim N.ord C K (N.vars[k]'hw)).1=N.ord):=fun h=>by rw[lim,if_pos h]
     generalize (lim N.ord C K (N.vars[k]'hw)).1=mk at u1 jn;generalize (N.vars[k]'hw)=vb at x1 hu jm H0 jn;generalize (Z[k]'Hk)=lz at z1 z2 jk hu H0;generalize (Y[k]'Hl)=ly at y1 y2 jl hu jm;have H1:Hid (((N.expL c Y Z).take k).length=k):=by rw[Hid,List.length_take,NSta.expL,List.length_map,List.length_range];omega
     generalize (N.expL c Y Z).take k=LI at hO hu H1;replace hO:wp.ownsRow w5.heap.size 74 2 u15 k (ics (LI.map zI)):=by have h:wp.ownsRow _ _ _ _ _ _:=hO;rw[H1.out]at h;exact h
     have Jt:(0:Int)≤(k:Int):=by omega
     have Ju:(k:Int)<(nz:Int):=by omega
     obtain⟨H2,ho⟩:=blk1 wp #[.string (E vb)] 71;have hp:=jj.after ho;have h1:=own_after hO ho;have zz1:=(ho.cell (p:=⟨bz,oz+k*2,none⟩) Hm).trans z1;have zz2:=(ho.cell (p:=⟨bz,oz+k*2+1,none⟩) Hm).trans z2;have yy1:=(ho.cell (p:=⟨by_,oy+k*2,none⟩) Hn).trans y1;have yy2:=(ho.cell (p:=⟨by_,oy+k*2+1,none⟩) Hn).trans y2;have uu1:=(ho.cell (p:=⟨bu,ou+k,none⟩) HZ).trans u1;have kz:=Nl Hm ho.size;have ky:=Nl Hn ho.size;have ku:=Nl HZ ho.size;have h3:=bt hN ho;by_cases hL:vb=0
     ·have Jk:=zE hL;have hq:=jn.out hL;subst hq;have hl:=Kh (jm.out hL)
      have h4:Hid (lz.natAbs<N.ord):=by
       have h:=H0.out;rw[if_pos hL]at h;simp only[blw,Bool.and_eq_true,decide_eq_true_eq]at h;exact h.1
      obtain⟨q,hq⟩:∃q,q=N.ord:=⟨_,rfl⟩;have Ha:Hid (q<256^8):=by rw[Hid,hq];exact Je.out
      rw[←hq]at uu1 hl h4 hu;have Ho:Hid (∀w,Calls Tryz.prog 116 #[.string (E c),.string (E lz.natAbs),.string (E q)] w fun e w'=>e=.returned (.tuple #[.string (E (c*lz.natAbs%q)),.int .i64 0])∧Bw w w'):=fun w=>mmul_c _ _ _ w HW.out (Nat.lt_trans h4.out Ha.out) Ha.out hl.out.1
      have Hb:Hid (∀w,Calls Tryz.prog 117 #[.string (E ly.natAbs),.string (E (c*lz.natAbs%q)),.string (E q)] w fun e w'=>e=.returned (.tuple #[.string (E (subM ly.natAbs (c*lz.natAbs%q) q)),.int .i64 0])∧Bw w w'):=fun w=>msub_c _ _ _ w hl.out.2 (Nat.lt_trans (Nat.mod_lt _ hl.out.1) Ha.out) Ha.out hl.out.1
      have jT:Hid (subM ly.natAbs (c*lz.natAbs%q) q<256^128):=lt128 (Nat.lt_trans (Nat.mod_lt _ hl.out.1) Ha.out);have Hp:Hid (expI q vb c ly lz=((subM ly.natAbs (c*lz.natAbs%q) q:Nat):Int)):=if_pos hL;rw[Hp.out]at hu;generalize subM ly.natAbs (c*lz.natAbs%q) q=sx at Hb jT hu;generalize c*lz.natAbs%q=mx at Ho Hb;have jo:Hid (∀w,Calls Tryz.prog 100 #[.string (E sx)] w fun e w'=>e=.returned (.agg #[.bool false,.string (E sx)])∧Bw w w'):=fun w=>fromN sx w jT.out
      clear hL h4 hl Hp hq Ha;have g1:=gcl (a:=⟨bz,oz+k*2+1,none⟩) kz zz2;have Hq:=hp.lt;obtain⟨hA,hB⟩:=H2.x1;go_upto_region 23 with fail
      clear hA hB;clear x1 z1 z2 y1 y2 u1 jS Hm Hn HZ hO jj jR H2;generalize wp.alloc (.cells #[.string (E vb)] 71)=wv at hp ho zz1 zz2 yy1 yy2 uu1 kz ky ku h1 h3 g1 Hq ⊢;obtain⟨Hr,Hs,Ht,Hu,Hv,Hw⟩:=hp.x3;have Hx:=hp.gcell 0;have Hy:=hp.gcell 1;have Hz:=hp.gcell 2;go_wp2_with fail
      refine wp_region_gw (by kernel_rfl) (by kernel_rfl) ?_;repeat (go_big_quiet_step (first | (go_at_call 116;exact gw_of (Ho.out _))))
      refine wpQuiet_nil ?_;rintro w9 ⟨xw9,rfl⟩;have hb9:=gw_below xw9;generalize gw xw9=w9 at hb9;clear Hr Hs Ht Hu Hv Hw;clear Hx Hy Hz;have jU:=hp.after hb9;have q1:=(hb9.cell (p:=⟨by_,oy+k*2+1,none⟩) ky).trans yy2;have ky9:=Nl ky hb9.size;have jV:=own_after h1 hb9;have HA:=bt h3 hb9;clear g1 zz1 zz2 yy1 yy2 uu1 kz ky ku hb9 hp h1 h3 ho Hq;obtain⟨HB,HC,HD,HE,HF,HG⟩:=jU.x3;go_wp2_with fail
      refine (Hb.out _).mono ?_;rintro e w10 ⟨rfl,h5⟩;clear HB HC HD HE HF HG;have jW:=own_after jV h5;have HH:=bt HA h5;clear jV HA h5 jU q1 ky9;go_wp2_with fail
      refine (jo.out _).mono ?_;rintro e w11 ⟨rfl,h6⟩;have jp:=own_after jW h6;have jq:=bt HH h6;clear jW HH h6;have Jl:Hid (ics [zI ((sx:Nat):Int)]=[.bool false,.string (E sx)]):=by rw[Hid];simp[ics,zI,sg_nat]
      have h7:(w11).ownsRow w5.heap.size 74 2 u15 k (ics (LI.map zI)):=jp;have hn:=jq;have jr:=hn.size;go_wp2_with (at_builtin;refine wpList_append_lies _ rfl (.tmp 118) (.tmp 121) _ rfl w5.heap.size 74 i1 _ 2 24 Tryz.underlying30 jG.out jH.out jI.out jJ.out rfl (by omega) u15 k (ics (LI.map zI)) rfl (own_after h7 (b1 _ (.cells #[.bool false,.string (E sx)] 74))) ⟨(w11).heap.size,0,none⟩ 1 1 [.bool false,.string (E sx)] rfl rfl (Blk.new (w11) #[.bool false,.string (E sx)] 74).cells (by simp[Value.oneCell']) (by omega) (by simp only[maxLen];omega) (by omega) (by rw[World.size_alloc];omega) ((w11).heap.size+1) (by simp) ?_;intro ga ca' wz hD hd js h8)
      have HI:ZOwn wz w5.heap.size (.slice (some ⟨ga,0,none⟩) (k+1) ca') (LI++[((sx:Nat):Int)]):=by rw[ZOwn,List.length_append,H1.out,←ics_app];have h:=hD;rw[←Jl.out]at h;exact h
      rw[←hu.out]at HI;have jt:=(ba hn (.cells #[.bool false,.string (E sx)] 74)).grown hd (by rw[World.size_alloc];omega) (fun x hx=>(own_lt h7 hx).2);clear hD hd js h8 h7 hn;go_wp2;go_roundw
      case rel=>exact⟨k+1,by omega,by go_num,HI,jt⟩
      case measure=>simp[intOf];omega
     ·have Jk:=nzE (Nat.pos_of_ne_zero hL);have Hp:Hid (expI N.ord vb c ly lz=ly-(c:Int)*lz):=if_neg hL;rw[Hp.out]at hu;have jo:Hid (∀w,Calls Tryz.prog 100 #[.string (E c)] w fun e w'=>e=.returned (.agg #[.bool false,.string (E c)])∧Bw w w'):=fun w=>fromN c w (lt128 HW.out)
      have ju:Hid (c*lz.natAbs<256^71):=lt71 HW.out jk.out;have H3:Hid (((c:Int)*lz).natAbs<256^71):=by rw[Hid,Int.natAbs_mul,Int.natAbs_natCast];exact ju.out
      have Ho:Hid (∀w,Calls Tryz.prog 114 #[.agg #[.bool false,.string (E c)],.agg #[.bool (sg (lz)),.string (E (lz).natAbs)]] w fun e w'=>e=.returned (.tuple #[.agg #[.bool (sg ((c:Int)*lz)),.string (E ((c:Int)*lz).natAbs)],.int .i64 0])∧Bw w w'):=fun w=>by
       have h:=imul_c (c:Int) lz w (by rw[Int.natAbs_natCast];exact lt128 HW.out) (Nl jk.out P8) (by rw[Int.natAbs_natCast];exact Nl ju.out P8);rwa [Int.natAbs_natCast,sg_nat]at h
      generalize (c:Int)*lz=pz at Ho H3 hu;have Hb:Hid (∀w,Calls Tryz.prog 115 #[.agg #[.bool (sg (ly)),.string (E (ly).natAbs)],.agg #[.bool (sg (pz)),.string (E (pz).natAbs)]] w fun e w'=>e=.returned (.tuple #[.agg #[.bool (sg (ly-pz)),.string (E (ly-pz).natAbs)],.int .i64 0])∧Bw w w'):=fun w=>isub_c (x:=ly) (y:=pz) (w:=w) (lt64 jl.out) (Nl H3.out P8) (sub71 jl.out H3.out)
      generalize ly-pz=dz at Hb hu;clear hL Hp ju H3;obtain⟨hA,hB⟩:=H2.x1;go_upto_region 19 with fail
      clear hA hB;clear x1 z1 z2 y1 y2 u1 jS Hm Hn HZ hO jj jR H2;generalize wp.alloc (.cells #[.string (E vb)] 71)=wv at hp ho zz1 zz2 yy1 yy2 uu1 kz ky ku h1 h3 ⊢;obtain⟨cl,jX⟩:∃l:List (Addr × Value),l=[(⟨w.heap.size+1+1,1,none⟩,.string (E c)),(⟨bz,oz+k*2,none⟩,.bool (sg lz)),(⟨bz,oz+k*2+1,none⟩,.string (E lz.natAbs))]:=⟨_,rfl⟩;have jv:=Kh jX;clear jX
      have hC:CA wv cl:=by
       rw[jv.out];exact CA.cons hp.lt (hp.cell 1) (CA.cons kz zz1 (CA.cons kz zz2 (CA.nil _)))
      have HJ:=fun x hx=>Nat.ne_of_lt (hC x hx).1
      go_cut [18] (fun s18 wx=>ZBx wv (.bool (sg pz)) (.string (E pz.natAbs)) s18 wx)
      case first =>
       clear zz1 zz2 yy1 yy2 uu1 kz ky ku h1 h3 hp
       go_region_held3 (fun w'=>w'.cell? ⟨w.heap.size+1+1,1,none⟩=some (.string (E c))∧w'.cell? ⟨bz,oz+k*2,none⟩=some (.bool (sg lz))∧w'.cell? ⟨bz,oz+k*2+1,none⟩=some (.string (E lz.natAbs))) ((refine CA.k3 ?_;rw[←jv.out];repeat (first | (with_reducible exact jY) | (with_reducible exact H4) | (with_reducible exact hC) | (with_reducible refine CA.drew ?_) | (with_reducible refine CA.alloc ?_ _) | (refine CA.set ?_ _ _ _ HJ) | (refine CA.set ?_ _ _ _ (fun x hx=>Nat.ne_of_lt (H4 x hx).1)) | (refine CA.set ?_ _ _ _ (fun x hx=>Nat.ne_of_lt (jY x hx).1)))))
        (first | (go_at_call 100;(with_reducible refine (jo.out _).mono ?_);rintro e wf ⟨rfl,Hc⟩;have H4:CA wf cl:=(by first | exact hC.drew.after Hc | exact (hC.alloc _).drew.after Hc | exact (hC.drew.alloc _).after Hc);(try (have Hd:Bw wv wf:=(Below.drew Br).trans Hc));(try (have Hd:Bw wv wf:=bt ((b1 wv _).drew) Hc));(try (have kA:=(Blk.new wv #[.bool false,.string { data:=#[] }] 74).drew.after Hc))) | (go_at_call 114;(with_reducible refine (Ho.out _).mono ?_);rintro e wd ⟨rfl,hbd⟩;have jY:CA wd cl:=(by first | exact H4.after hbd | exact (H4.alloc _).after hbd);(try (have h9:Bw wv wd:=bt Hd hbd));(try (have h9:Bw wv wd:=bt (ba Hd _) hbd));(try (have kD:=kA.after hbd;have kDc0:=kD.cell 0;have kDc1:=kD.cell 1;have kDf0:=kD.free 0;have kDf1:=kD.free 1));(try (have kE:=(Blk.new wf #[.bool false,.string { data:=#[] }] 74).after hbd;have kEc0:=kE.cell 0;have kEc1:=kE.cell 1;have kEf0:=kE.free 0;have kEf1:=kE.free 1))))
       all_goals
        go_wp2_with fail
        go_meet
        first
         | exact⟨_,rfl,Blk.new _ _ _,h9.size,ba h9 _⟩
         | exact⟨_,rfl,(kD.set 0 _).set 1 _,Nat.le_refl _,(h9.setCell (by simp) _).setCell (by simp) _⟩
         | exact⟨_,rfl,(kE.set 0 _).set 1 _,Hd.size,(h9.setCell (by have:=Hd.size;simp;omega) _).setCell (by have:=Hd.size;simp;omega) _⟩
      case rest =>
       clear hC HJ jv;obtain⟨gx,rfl,hX,jZ,ht⟩:=hcut;have j0:=Kh jZ;clear jZ;obtain⟨wy,Jm⟩:∃wy,wy=wc:=⟨_,rfl⟩;subst Jm;have jw:=hp.after ht;have q1:=(ht.cell (p:=⟨by_,oy+k*2,none⟩) ky).trans yy1;have q2:=(ht.cell (p:=⟨by_,oy+k*2+1,none⟩) ky).trans yy2;have ky9:=Nl ky ht.size;have jx:=hX.drew;have j1:=jw.drew;have jy:gx<wy.drew.heap.size:=hX.lt;have jz:w.heap.size+1+1<wy.drew.heap.size:=jw.lt;have q1':wy.drew.cell? ⟨by_,oy+k*2,none⟩=some (.bool (sg ly)):=q1;have q2':wy.drew.cell? ⟨by_,oy+k*2+1,none⟩=some (.string (E ly.natAbs)):=q2;have ky':by_<wy.drew.heap.size:=ky9;clear zz1 zz2 yy1 yy2 uu1 kz ky ku hp q1 q2 ky9;obtain⟨HK,HL,HM,HN⟩:=jx.x2;obtain⟨HO,HP,HQ,HR,HS,HT⟩:=j1.x3;go_wp2_with fail
       go_cut [76] (fun s76 wc'=>Blk wc' gx 74 [.bool (sg dz),.string (E dz.natAbs)]∧Bw wv wc')
       case first =>
        go_region_with (go_at_call 115;(with_reducible refine (Hb.out _).mono ?_);rintro e wd ⟨rfl,hbd⟩;have He:=jx.after hbd;have j2:=He.cell 0;have j3:=He.free 0;have j4:=He.cell 1;have j5:=He.free 1;have Jn:=He.lt;have h9:=bt ht ((Below.drew Br).trans hbd))
        all_goals
         go_wp2_with fail
         go_meet
         exact⟨(He.set 0 _).set 1 _,(h9.setCell (p:=⟨gx,0,none⟩) j0.out _).setCell (p:=⟨gx,1,none⟩) j0.out _⟩
       case rest =>
       clear HK HL HM HN;clear HO HP HQ HR HS HT;clear jx j1 jy jz q1' q2' ky' hX jw ht;obtain⟨j6,jA⟩:=hcut;obtain⟨wo,Jo⟩:∃wx,wx=wc:=⟨_,rfl⟩;subst Jo;have jp:=own_after h1 jA;have jq:=bt h3 jA;clear h1 h3 jA;have Jp:=j6.lt;obtain⟨j7,j8,j9,Ja⟩:=j6.x2;have h7:(wo).ownsRow w5.heap.size 74 2 u15 k (ics (LI.map zI)):=jp;have hn:=jq;have jr:=hn.size;go_wp2_with (at_builtin;refine wpList_append_lies _ rfl (.tmp 86) (.tmp 88) _ rfl w5.heap.size 74 i1 _ 2 24 Tryz.underlying30 jG.out jH.out jI.out jJ.out rfl (by omega) u15 k (ics (LI.map zI)) rfl (own_after h7 (b1 _ (.cells #[.bool (sg dz),.string (E dz.natAbs)] 74))) ⟨(wo).heap.size,0,none⟩ 1 1 [.bool (sg dz),.string (E dz.natAbs)] rfl rfl (Blk.new (wo) #[.bool (sg dz),.string (E dz.natAbs)] 74).cells (by simp[Value.oneCell']) (by omega) (by simp only[maxLen];omega) (by omega) (by rw[World.size_alloc];omega) ((wo).heap.size+1) (by simp) ?_;intro ga ca' wz hD hd js h8)
       have HI:ZOwn wz w5.heap.size (.slice (some ⟨ga,0,none⟩) (k+1) ca') (LI++[dz]):=by rw[ZOwn,List.length_append,H1.out,←ics_app];exact hD
       rw[←hu.out]at HI;have jt:=(ba hn (.cells #[.bool (sg dz),.string (E dz.natAbs)] 74)).grown hd (by rw[World.size_alloc];omega) (fun x hx=>(own_lt h7 hx).2);clear hD hd js h8 h7 hn;go_wp2;go_roundw
       case rel=>exact⟨k+1,by omega,by go_num,HI,jt⟩
       case measure=>simp[intOf];omega
    ·obtain rfl:nz=k:=by omega
     have Jq:Hid ((N.expL c Y Z).take nz=N.expL c Y Z):=List.take_of_length_le (by rw[NSta.expL,List.length_map,List.length_range,←HY.out];exact Nat.le_refl _);rw[Jq.out]at hO;have Jr:=hc.size;go_wp2;go_ret2
     rw[hQ.out,H8.out,HX.out.1,HX.out.2];exact⟨_,rfl,own_mono hO Jr,ji⟩
 ·have HX:=Kh (ex_a (c:=c) (Y:=Y) hJ);obtain⟨e6,jB⟩:∃n,n=N.hldE Z:=⟨_,rfl⟩;have Js:=Kh jB;rw[←jB]at hJ ⊢;have Jv:((e6:Int) != 0)=true:=by rw[bne_iff_ne];omega
  clear hJ jB;go_wp2;go_ret2
  rw[H8.out,hQ.out,HX.out.1,HX.out.2,←Js.out];exact epost_err rfl hc
end
end Go.Proofs.YtihjpddbjhcbmaaGreatDoor
