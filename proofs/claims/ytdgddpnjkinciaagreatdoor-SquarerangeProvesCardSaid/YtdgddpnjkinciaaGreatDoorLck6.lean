import Derived.Test.YtdgddpnjkinciaaGreatDoorLck5
set_option linter.all false
set_option maxRecDepth 100000
set_option maxHeartbeats 16000000
namespace Go.Proofs.YtdgddpnjkinciaaGreatDoor
open Go.RowKit
def badT (N:NSta) (g:Nat × Nat) (t:NTrm):Bool:=N.tz t&&vz g.2
theorem badT_any (N:NSta) (g:Nat × Nat) (l:List NTrm):l.any (badT N g)=(vz g.2&&l.any N.tz):=by
 induction l with
 | nil=>simp
 | cons x t ih=>rw[List.any_cons,List.any_cons,ih];simp only[badT];cases vz g.2 <;> cases N.tz x <;> simp
theorem gq_eq (n:Nat) (g:Nat × Nat):gq n g=(!(vz g.2)&&g.2 != n):=rfl
theorem rtyped_c (N:NSta) (v1 v2 v3:Value) (w:World) (hm:NOk N) (hS:NAt w v1 v2 v3 N) :
  Calls Tryz.prog 111 #[.agg #[v1,v2,v3]] w fun e w'=>e=.returned (.bool N.typ)∧Bw w w':=by
 obtain⟨r,hr⟩:∃r:Bool,r=N.typ:=⟨_,rfl⟩;have hp:=Kh hr;rw[←hr];clear hr;obtain⟨a1,c1,a2,c2,a3,c3,rfl,rfl,rfl⟩:=hS.forms;obtain⟨n1,hV⟩:∃n,n=N.grps.length:=⟨_,rfl⟩;obtain⟨n2,hW⟩:∃n,n=N.vars.length:=⟨_,rfl⟩;obtain⟨n3,hX⟩:∃n,n=N.eqs.length:=⟨_,rfl⟩;have h4:=Kh hV;have h5:=Kh hW;have Hg:=Kh hX;have l1:n1≤10:=by rw[hV];exact hm.ng
 have l2:n2≤12:=by rw[hW];exact hm.nv
 have l3:n3≤12:=by rw[hX];exact hm.ne
 have HM:=Kh hm;rw[←hV,←hW,←hX]at hS ⊢;clear hm hV hW hX;obtain⟨hP,hi⟩:=blk1 w #[.slice a1 n1 c1,.slice a2 n2 c2,.slice a3 n3 c3] 43;replace hS:=hS.after hi;obtain⟨hb,hc,hd,he,hf,hg⟩:=hP.x3;go_enter Tryz.func111,Tryz.ntmps111
 go_wp2;clear hb hc hd he hf hg;generalize w.alloc (.cells #[.slice a1 n1 c1,.slice a2 n2 c2,.slice a3 n3 c3] 43)=w1 at hP hi hS;replace hP:Blk w1 w.heap.size 43 [.slice a1 n1 c1,.slice a2 n2 c2,.slice a3 n3 c3]:=hP;go_loopw [3,4] (fun s i wr=>∃k:Nat,∃sb:Bool,k≤n2∧i=.int .i64 k∧s=.bool sb∧Hid (sb=(N.vars.take k).any vz)∧Bw w1 wr) (fun _ i _=>n2-(intOf i).toNat)
 case atStart=>exact⟨0,false,by omega,rfl,rfl,rfl,Br⟩
 case round =>
  obtain⟨k,sb,hk,rfl,rfl,HA,hh⟩:=hrel;obtain⟨wp,Hn⟩:∃wp,wp=wr:=⟨_,rfl⟩;subst Hn;replace hS:=hS.after hh;replace hP:=hP.after hh;replace hi:=bt hi hh;by_cases hlt:k<n2
  ·have hl:k<N.vars.length:=by rw[←h5.out];exact hlt
   have HT:=Kh (any_take vz N.vars k hl);obtain⟨b,o,rfl,Hh,x1⟩:=hS.vat hl;have HV:Hid (vz (N.vars[k]'hl)=vz (N.vars[k]'hl)):=rfl;generalize (N.vars[k]'hl)=s1 at x1 HT;have Hi:(0:Int)≤(k:Int):=by omega
   have Hj:(k:Int)<(n2:Int):=by omega
   have hv:=hP.lt;cases sb
   ·rcases Nat.eq_zero_or_pos s1 with rfl | h0
    ·have hz:=zE (n:=0) rfl;have HX:Hid (true=(N.vars.take (k+1)).any vz):=by rw[Hid,HT.out,←HA.out];rfl
     obtain⟨hb,hc,hd,he,hf,hg⟩:=hP.x3;go_wp2;go_roundw
     case rel=>exact⟨k+1,true,by omega,by go_num,rfl,HX,hh⟩
     case measure=>simp[intOf];omega
    ·have hz:=nzE h0;have HX:Hid (false=(N.vars.take (k+1)).any vz):=by rw[Hid,HT.out,←HA.out,vz_pos h0];rfl
     clear h0;obtain⟨hb,hc,hd,he,hf,hg⟩:=hP.x3;go_wp2;go_roundw
     case rel=>exact⟨k+1,false,by omega,by go_num,rfl,HX,hh⟩
     case measure=>simp[intOf];omega
   ·have HX:Hid (true=(N.vars.take (k+1)).any vz):=by rw[Hid,HT.out,←HA.out];rfl
    obtain⟨hb,hc,hd,he,hf,hg⟩:=hP.x3;go_wp2;go_roundw
    case rel=>exact⟨k+1,true,by omega,by go_num,rfl,HX,hh⟩
    case measure=>simp[intOf];omega
  ·have h6:Hid (sb=N.vars.any vz):=by
    have h:(N.vars.take k).any vz=N.vars.any vz:=by rw[List.take_of_length_le (by rw[←h5.out];omega)]
    rw[Hid,HA.out,h]
   clear hh HA;cases sb
   ·have HF:=Kh (typ_vars N h6.out.symm);obtain⟨hb,hc,hd,he,hf,hg⟩:=hP.x3;go_wp2;go_ret
    exact⟨by rw[hp.out,HF.out];rfl,hi⟩
   ·have h7:Hid (N.vars.any vz=true):=h6.out.symm;clear h6;have hv:=hP.lt;obtain⟨hb,hc,hd,he,hf,hg⟩:=hP.x3;go_wp2_with fail
    refine (rorder15_c N _ _ _ _ HM.out hS).mono ?_;rintro e w3 ⟨rfl,hY⟩;clear hb hc hd he hf hg;replace hP:=hP.after hY;replace hS:=hS.after hY;replace hi:=bt hi hY;clear hY hv;have hv:=hP.lt;by_cases ho:N.ord=0
    ·have hz:=zE ho;have HF:=Kh (typ_ord N h7.out ho);clear ho;obtain⟨hb,hc,hd,he,hf,hg⟩:=hP.x3;go_wp2;go_ret
     exact⟨by rw[hp.out,HF.out];rfl,hi⟩
    ·have hz:=nzE (Nat.pos_of_ne_zero ho);have HO:=Kh ho;clear ho;obtain⟨hb,hc,hd,he,hf,hg⟩:=hP.x3;go_wp2;clear hb hc hd he hf hg;clear hz;go_loopw [6] (fun i wr=>∃k:Nat,k≤n1∧i=.int .i64 k∧Hid ((N.grps.take k).any (gq N.ord)=false)∧Bw w3 wr) (fun i _=>n1-(intOf i).toNat)
     case atStart=>exact⟨0,by omega,rfl,rfl,Br⟩
     case round =>
      obtain⟨k,hk,rfl,HA,hh⟩:=hrel;obtain⟨wq,Ho⟩:∃wq,wq=wr:=⟨_,rfl⟩;subst Ho;replace hS:=hS.after hh;replace hP:=hP.after hh;replace hi:=bt hi hh;clear hv;have hv:=hP.lt;by_cases hlt:k<n1
      ·have hl:k<N.grps.length:=by rw[←h4.out];exact hlt
       have HT:=Kh (any_take (gq N.ord) N.grps k hl);have hn:Hid (gq N.ord (N.grps[k]'hl)=true→N.typ=false):=fun h=>typ_gq N h7.out (any_hit _ _ k hl h)
       have hA:=Kh (gq_eq N.ord (N.grps[k]'hl));obtain⟨b,o,rfl,Hh,x1,x2⟩:=hS.gat hl;generalize gq N.ord (N.grps[k]'hl)=gk at HT hn hA;generalize (N.grps[k]'hl).2=s2 at x2 hA;have Hi:(0:Int)≤(k:Int):=by omega
       have Hj:(k:Int)<(n1:Int):=by omega
       rcases Nat.eq_zero_or_pos s2 with rfl | h0
       ·have hz:=zE (n:=0) rfl;have HX:Hid ((N.grps.take (k+1)).any (gq N.ord)=false):=by rw[Hid,HT.out,HA.out,hA.out];rfl
        clear hn;obtain⟨hb,hc,hd,he,hf,hg⟩:=hP.x3;go_wp2;go_roundw
        case rel=>exact⟨k+1,by omega,by go_num,HX,hh⟩
        case measure=>simp[intOf];omega
       ·have hz:=nzE h0;by_cases hq:s2=N.ord
        ·have h1:=eqT hq;have h2:=eqE hq;have HX:Hid ((N.grps.take (k+1)).any (gq N.ord)=false):=by rw[Hid,HT.out,HA.out,hA.out,hq];simp
         clear hn hq h0;obtain⟨hb,hc,hd,he,hf,hg⟩:=hP.x3;go_wp2;go_roundw
         case rel=>exact⟨k+1,by omega,by go_num,HX,hh⟩
         case measure=>simp[intOf];omega
        ·have h1:=eqF hq;have h2:=neE hq;have HF:Hid (N.typ=false):=hn.out (by rw[hA.out,vz_pos h0];simp[hq]);clear hn hq h0;obtain⟨hb,hc,hd,he,hf,hg⟩:=hP.x3;go_wp2;go_ret
         exact⟨by rw[hp.out,HF.out];rfl,hi⟩
      ·have hA:Hid (N.grps.any (gq N.ord)=false):=any_end _ _ k (by rw[←h4.out];omega) HA.out;clear hh HA;obtain⟨hb,hc,hd,he,hf,hg⟩:=hP.x3;go_wp2;clear hb hc hd he hf hg;go_loopw [7] (fun i wr=>∃k:Nat,k≤n3∧i=.int .i64 k∧Hid ((N.eqs.take k).all (kindQ N)=true)∧Bw wq wr) (fun i _=>n3-(intOf i).toNat)
       case atStart=>exact⟨0,by omega,rfl,rfl,Br⟩
       case round =>
        obtain⟨k,hk,rfl,HA,hh⟩:=hrel;obtain⟨wt,Hp⟩:∃wt,wt=wr:=⟨_,rfl⟩;subst Hp;replace hS:=hS.after hh;replace hP:=hP.after hh;replace hi:=bt hi hh;clear hv;have hv:=hP.lt;by_cases hlt:k<n3
        ·have hl:k<N.eqs.length:=by rw[←Hg.out];exact hlt
         have HT:=Kh (all_take (kindQ N) N.eqs k hl);have hn:=Kh (typ_kind N h7.out k hl);have hM:=Kh (HM.out.e _ (Gm hl));obtain⟨b,o,tv,rfl,Hh,x1,x2,x3,ht⟩:=hS.eat hl;generalize (N.eqs[k]'hl)=q at x1 x2 x3 ht hM HT hn;have hJ:=hM.out.1;have Hq:q.grp<n1:=by rw[h4.out];exact hJ
         have Hk:=Kh (gp_at N q hJ);obtain⟨b',o',rfl,h8,y1,y2⟩:=hS.gat hJ;have hK:Hid (kindQ N q=(!(q.trms.any (badT N (N.grps[q.grp]'hJ))))):=by rw[Hid,kindQ,Hk.out,badT_any,Bool.not_and]
         generalize kindQ N q=ek at HT hn hK;generalize (N.grps[q.grp]'hJ)=gg at y1 y2 hK;clear hJ Hk;obtain⟨qg,qt,qs⟩:=q;simp only[]at x1 x2 x3 ht hM hK Hq y1 y2;obtain⟨to_,tc,rfl⟩:=ht.form;obtain⟨n4,h9⟩:∃n,n=qs.length:=⟨_,rfl⟩;have Ha:=Kh h9;rw[←h9]at x3 ht;clear h9;obtain⟨p,qq⟩:=gg;simp only[]at y1 y2 hK;have l4:n4≤12:=by rw[Ha.out];exact hM.out.2.2.1
         have hB:=Blk.new wt #[.int .i64 (qg:Int),.string (E qt),.slice to_ n4 tc] 87;have Hi:(0:Int)≤(k:Int):=by omega
         have Hj:(k:Int)<(n3:Int):=by omega
         have Ht:(0:Int)≤(qg:Int):=by omega
         have Hu:(qg:Int)<(n1:Int):=by omega
         obtain⟨hb,hc,hd,he,hf,hg⟩:=hP.x3;go_wp2;clear hb hc hd he hf hg;replace hP:=hP.alloc (.cells #[.int .i64 (qg:Int),.string (E qt),.slice to_ n4 tc] 87);replace ht:=ht.after (b1 _ (.cells #[.int .i64 (qg:Int),.string (E qt),.slice to_ n4 tc] 87));have hZ:=hS.after (b1 _ (.cells #[.int .i64 (qg:Int),.string (E qt),.slice to_ n4 tc] 87));replace hi:=ba hi (.cells #[.int .i64 (qg:Int),.string (E qt),.slice to_ n4 tc] 87);replace hh:=ba hh (.cells #[.int .i64 (qg:Int),.string (E qt),.slice to_ n4 tc] 87);have y2':(wt.alloc (.cells #[.int .i64 (qg:Int),.string (E qt),.slice to_ n4 tc] 87)).cell? ⟨b',o'+qg*2+1,none⟩=some (.string (E qq)):=((b1 wt (.cells #[.int .i64 (qg:Int),.string (E qt),.slice to_ n4 tc] 87)).cell (p:=⟨b',o'+qg*2+1,none⟩) h8).trans y2;have hC:b'<(wt.alloc (.cells #[.int .i64 (qg:Int),.string (E qt),.slice to_ n4 tc] 87)).heap.size:=by simp;omega
         clear hS hv y1 y2 x1 x2 x3;generalize wt.alloc (.cells #[.int .i64 (qg:Int),.string (E qt),.slice to_ n4 tc] 87)=wu at hP ht hZ hi hh hB y2' hC;replace hB:Blk wu wt.heap.size 87 [.int .i64 (qg:Int),.string (E qt),.slice to_ n4 tc]:=hB;go_loopw [9] (fun i wr=>∃k:Nat,k≤n4∧i=.int .i64 k∧Hid ((qs.take k).any (badT N (p,qq))=false)∧Bw wu wr) (fun i _=>n4-(intOf i).toNat)
         case atStart=>exact⟨0,by omega,rfl,rfl,Br⟩
         case round =>
          obtain⟨j,hj,rfl,HJ,hu⟩:=hrel;obtain⟨wv,Hr⟩:∃wv,wv=wr:=⟨_,rfl⟩;subst Hr;replace hP:=hP.after hu;replace hB:=hB.after hu;replace ht:=ht.after hu;replace hZ:=hZ.after hu;replace hi:=bt hi hu;have y3:=(hu.cell (p:=⟨b',o'+qg*2+1,none⟩) hC).trans y2';have Hb:=Nl hC hu.size;have hv:=hP.lt;have Hv:=hB.lt;by_cases Hc:j<n4
          ·have hw:j<qs.length:=by rw[←Ha.out];exact Hc
           have Hl:=Kh (hM.out.2.2.2 _ (Gm hw)).2.1;have Hd:=Kh (any_take (badT N (p,qq)) qs j hw);have Hm:Hid (badT N (p,qq) (qs[j]'hw)=true→N.typ=false):=fun h=>hn.out (by rw[hK.out,any_hit _ qs j hw h];rfl)
           have h3:Hid (badT N (p,qq) (qs[j]'hw)=(vz (N.vars.getD (qs[j]'hw).var 0)&&vz qq)):=rfl;obtain⟨b4,o4,rfl,He,z1,z2,z3,z4⟩:=ht.at_ hw;generalize badT N (p,qq) (qs[j]'hw)=bk at Hd Hm h3;generalize (qs[j]'hw).var=vv at z2 Hl h3;have hL:=Hl.out;obtain⟨b5,o5,rfl,Hf,u1⟩:=hZ.vat hL
           have hx:Hid (bk=(vz (N.vars[vv]'hL)&&vz qq)):=by
            rw[Hid,h3.out,List.getD_eq_getElem?_getD,List.getElem?_eq_getElem hL];rfl
           generalize (N.vars[vv]'hL)=sv at u1 hx;have Hw:vv<n2:=by rw[h5.out];exact hL
           have Hx:(0:Int)≤(j:Int):=by omega
           have Hy:(j:Int)<(n4:Int):=by omega
           have Hz:(0:Int)≤(vv:Int):=by omega
           have HB:(vv:Int)<(n2:Int):=by omega
           clear hL h3;have g1:=gcl (a:=⟨b4,o4+j*4+1,none⟩) He z2;have g2:=gcl (a:=⟨b5,o5+vv,none⟩) Hf u1;have g3:=gcl (a:=⟨b',o'+qg*2+1,none⟩) Hb y3;rcases Nat.eq_zero_or_pos sv with rfl | h0
           ·have hz:=zE (n:=0) rfl;rcases Nat.eq_zero_or_pos qq with rfl | h1
            ·have HF:Hid (N.typ=false):=Hm.out (by rw[hx.out];rfl);obtain⟨hb,hc,hd,he,hf,hg⟩:=hP.x3;obtain⟨hD,hE,hF,hG,hH,hI⟩:=hB.x3;have hN:=hP.gcell 0;have hO:=hP.gcell 1;have hQ:=hP.gcell 2;have hR:=hB.gcell 0;have hT:=hB.gcell 1;have hU:=hB.gcell 2;go_wp2_with fail
             refine wp_region_gw (by kernel_rfl) (by kernel_rfl) ?_;repeat (go_big_quiet_step (first | (fail)))
             refine wpQuiet_nil ?_;rintro w5 ⟨xw5,rfl⟩;have hy:=gw_below xw5;generalize gw xw5=w5 at hy;go_wp2;go_ret
             exact⟨by rw[hp.out,HF.out];rfl,bt hi hy⟩
            ·have HC:=nzE h1;have HX:Hid ((qs.take (j+1)).any (badT N (p,qq))=false):=by rw[Hid,Hd.out,HJ.out,hx.out,vz_pos h1];rfl
             clear h1;obtain⟨hb,hc,hd,he,hf,hg⟩:=hP.x3;obtain⟨hD,hE,hF,hG,hH,hI⟩:=hB.x3;have hN:=hP.gcell 0;have hO:=hP.gcell 1;have hQ:=hP.gcell 2;have hR:=hB.gcell 0;have hT:=hB.gcell 1;have hU:=hB.gcell 2;go_wp2_with fail
             refine wp_region_gw (by kernel_rfl) (by kernel_rfl) ?_;repeat (go_big_quiet_step (first | (fail)))
             refine wpQuiet_nil ?_;rintro w5 ⟨xw5,rfl⟩;have hy:=gw_below xw5;generalize gw xw5=w5 at hy;go_wp2;go_roundw
             case rel=>exact⟨j+1,by omega,by go_num,HX,bt hu hy⟩
             case measure=>simp[intOf];omega
           ·have hz:=nzE h0;have HX:Hid ((qs.take (j+1)).any (badT N (p,qq))=false):=by rw[Hid,Hd.out,HJ.out,hx.out,vz_pos h0];rfl
            clear h0;obtain⟨hb,hc,hd,he,hf,hg⟩:=hP.x3;obtain⟨hD,hE,hF,hG,hH,hI⟩:=hB.x3;have hN:=hP.gcell 0;have hO:=hP.gcell 1;have hQ:=hP.gcell 2;have hR:=hB.gcell 0;have hT:=hB.gcell 1;have hU:=hB.gcell 2;go_wp2_with fail
            refine wp_region_gw (by kernel_rfl) (by kernel_rfl) ?_;repeat (go_big_quiet_step (first | (fail)))
            refine wpQuiet_nil ?_;rintro w5 ⟨xw5,rfl⟩;have hy:=gw_below xw5;generalize gw xw5=w5 at hy;go_wp2;go_roundw
            case rel=>exact⟨j+1,by omega,by go_num,HX,bt hu hy⟩
            case measure=>simp[intOf];omega
          ·have Hs:Hid (qs.any (badT N (p,qq))=false):=any_end _ qs j (by rw[←Ha.out];omega) HJ.out;have HX:Hid ((N.eqs.take (k+1)).all (kindQ N)=true):=by rw[Hid,HT.out,HA.out,hK.out,Hs.out];rfl
           obtain⟨hb,hc,hd,he,hf,hg⟩:=hP.x3;obtain⟨hD,hE,hF,hG,hH,hI⟩:=hB.x3;go_wp2;go_roundw
           case rel=>exact⟨k+1,by omega,by go_num,HX,bt hh hu⟩
           case measure=>simp[intOf];omega
        ·have HE:Hid (N.eqs.all (kindQ N)=true):=all_end (kindQ N) N.eqs k (by rw[←Hg.out];omega) HA.out;have HF:=Kh (typ_ok N HO.out hA.out HE.out);obtain⟨hb,hc,hd,he,hf,hg⟩:=hP.x3;go_wp2;go_ret
         exact⟨by rw[hp.out,HF.out];rfl,hi⟩
theorem rmany0 (N:NSta) (v1 v2 v3:Value) (w:World) (r:Bool) (hm:NOk N) (hS:NAt w v1 v2 v3 N) (h:decide (8<N.grps.length)=r) :
  Calls Tryz.prog 109 #[.agg #[v1,v2,v3]] w fun e w'=>e=.returned (.bool r)∧Bw w w':=by
 rw[←h];exact rmany_c N v1 v2 v3 w hm hS
theorem relements0 (N:NSta) (v1 v2 v3:Value) (w:World) (r:Bool) (hm:NOk N) (hS:NAt w v1 v2 v3 N) (h:N.elem=r) :
  Calls Tryz.prog 110 #[.agg #[v1,v2,v3]] w fun e w'=>e=.returned (.bool r)∧Bw w w':=by
 rw[←h];exact relements_c N v1 v2 v3 w hm hS
theorem rtyped0 (N:NSta) (v1 v2 v3:Value) (w:World) (r:Bool) (hm:NOk N) (hS:NAt w v1 v2 v3 N) (h:N.typ=r) :
  Calls Tryz.prog 111 #[.agg #[v1,v2,v3]] w fun e w'=>e=.returned (.bool r)∧Bw w w':=by
 rw[←h];exact rtyped_c N v1 v2 v3 w hm hS
theorem rrest_c (N:NSta) (v1 v2 v3:Value) (w:World) (hm:NOk N) (hS:NAt w v1 v2 v3 N) :
  Calls Tryz.prog 65 #[.agg #[v1,v2,v3]] w fun e w'=>e=.returned (.int .i64 (N.chk:Nat))∧Bw w w':=by
 obtain⟨r,hr⟩:∃r:Nat,r=N.chk:=⟨_,rfl⟩;have hi:=Kh hr;rw[←hr];clear hr;obtain⟨a1,c1,a2,c2,a3,c3,rfl,rfl,rfl⟩:=hS.forms;obtain⟨n1,hq⟩:∃n,n=N.grps.length:=⟨_,rfl⟩;obtain⟨n2,ht⟩:∃n,n=N.vars.length:=⟨_,rfl⟩;obtain⟨n3,hu⟩:∃n,n=N.eqs.length:=⟨_,rfl⟩;have hw:=Kh hq;have hx:=Kh ht;have hy:=Kh hu;have l1:n1≤10:=by rw[hq];exact hm.ng
 have l2:n2≤12:=by rw[ht];exact hm.nv
 have l3:n3≤12:=by rw[hu];exact hm.ne
 have HM:=Kh hm;rw[←hq,←ht,←hu]at hS ⊢;clear hm hq ht hu;obtain⟨hP,hh⟩:=blk1 w #[.slice a1 n1 c1,.slice a2 n2 c2,.slice a3 n3 c3] 43;replace hS:=hS.after hh;by_cases h8:8<N.grps.length
 ·have HR:=Kh (Dt h8);have HF:Hid (r=6):=by rw[Hid,hi.out,chk_6 h8]
  clear h8;obtain⟨hb,hc,hd,he,hf,hg⟩:=hP.x3;go_enter Tryz.func65,Tryz.ntmps65
  go_wp2_with fail
  refine (rmany0 N _ _ _ _ _ HM.out hS HR.out).mono ?_;rintro e w2 ⟨rfl,hl⟩;go_wp2;go_ret
  exact⟨by rw[HF.out];rfl,bt hh hl⟩
 ·have HR:=Kh (decide_eq_false h8);have H8:=Kh h8;clear h8;obtain⟨hb,hc,hd,he,hf,hg⟩:=hP.x3;go_enter Tryz.func65,Tryz.ntmps65
  go_wp2_with fail
  refine (rmany0 N _ _ _ _ _ HM.out hS HR.out).mono ?_;rintro e w2 ⟨rfl,hl⟩;clear hb hc hd he hf hg;replace hP:=hP.after hl;replace hS:=hS.after hl;replace hh:=bt hh hl;clear hl;have hk:=hP.lt;cases ho:N.elem
  ·have HF:Hid (r=13):=by rw[Hid,hi.out,chk_13 H8.out ho]
   have hp:=Kh ho;clear ho;obtain⟨hb,hc,hd,he,hf,hg⟩:=hP.x3;go_wp2_with fail
   refine (relements0 N _ _ _ _ _ HM.out hS hp.out).mono ?_;rintro e w3 ⟨rfl,hj⟩;clear hb hc hd he hf hg;replace hP:=hP.after hj;replace hS:=hS.after hj;replace hh:=bt hh hj;clear hj;clear hk;have hk:=hP.lt;obtain⟨hb,hc,hd,he,hf,hg⟩:=hP.x3;go_wp2;go_ret
   exact⟨by rw[HF.out];rfl,hh⟩
  ·have hp:=Kh ho;clear ho;obtain⟨hb,hc,hd,he,hf,hg⟩:=hP.x3;go_wp2_with fail
   refine (relements0 N _ _ _ _ _ HM.out hS hp.out).mono ?_;rintro e w3 ⟨rfl,hj⟩;clear hb hc hd he hf hg;replace hP:=hP.after hj;replace hS:=hS.after hj;replace hh:=bt hh hj;clear hj;clear hk;have hk:=hP.lt;cases hn:N.typ
   ·have HF:Hid (r=10):=by rw[Hid,hi.out,chk_10 H8.out hp.out hn]
    have hv:=Kh hn;clear hn;obtain⟨hb,hc,hd,he,hf,hg⟩:=hP.x3;go_wp2_with fail
    refine (rtyped0 N _ _ _ _ _ HM.out hS hv.out).mono ?_;rintro e w4 ⟨rfl,hb4⟩;clear hb hc hd he hf hg;replace hP:=hP.after hb4;replace hS:=hS.after hb4;replace hh:=bt hh hb4;clear hb4;clear hk;have hk:=hP.lt;obtain⟨hb,hc,hd,he,hf,hg⟩:=hP.x3;go_wp2;go_ret
    exact⟨by rw[HF.out];rfl,hh⟩
   ·have HF:Hid (r=0):=by rw[Hid,hi.out,chk_0 H8.out hp.out hn]
    have hv:=Kh hn;clear hn;obtain⟨hb,hc,hd,he,hf,hg⟩:=hP.x3;go_wp2_with fail
    refine (rtyped0 N _ _ _ _ _ HM.out hS hv.out).mono ?_;rintro e w4 ⟨rfl,hb4⟩;clear hb hc hd he hf hg;replace hP:=hP.after hb4;replace hS:=hS.after hb4;replace hh:=bt hh hb4;clear hb4;clear hk;have hk:=hP.lt;obtain⟨hb,hc,hd,he,hf,hg⟩:=hP.x3;go_wp2;go_ret
    exact⟨by rw[HF.out];rfl,hh⟩
theorem rformed1_c (S:Sta) (v1 v2 v3:Value) (w:World) (b:Bool) (hm:SSm S) (hS:StAt w v1 v2 v3 S) (h:formB S=b) :
  Calls Tryz.prog 64 #[.agg #[v1,v2,v3]] w fun e w'=>e=.returned (.bool b)∧Bw w w':=by
 rw[←h];exact rformed_c S v1 v2 v3 w hm hS
theorem rcheck15_c (N:NSta) (Z:List Int) (v1 v2 v3 v4:Value) (w:World) (hm:NOk N) (hS:NAt w v1 v2 v3 N) (hZ:ZsAt w v4 Z) (hz:∀z∈Z,z.natAbs<256^128) (hl:Z.length=N.vars.length) (hc:N.chk=0) :
  Calls Tryz.prog 24 #[.agg #[v1,v2,v3],v4] w fun e w'=>e=.returned (.int .i64 0)∧Bw w w':=by
 obtain⟨a4,c4,rfl⟩:=hZ.form;rw[hl]at hZ ⊢;have hw:=Kh hz;have HL:=Kh hl;have hx:=Kh hc;clear hz hl hc;obtain⟨a1,c1,a2,c2,a3,c3,rfl,rfl,rfl⟩:=hS.forms;obtain⟨n1,ho⟩:∃n,n=N.grps.length:=⟨_,rfl⟩;obtain⟨n2,hp⟩:∃n,n=N.vars.length:=⟨_,rfl⟩;obtain⟨n3,hq⟩:∃n,n=N.eqs.length:=⟨_,rfl⟩;have hD:=Kh ho;have ht:=Kh hp;have hE:=Kh hq;have l1:n1≤10:=by rw[ho];exact hm.ng
 have l2:n2≤12:=by rw[hp];exact hm.nv
 have l3:n3≤12:=by rw[hq];exact hm.ne
 have HM:=Kh hm;rw[←ho,←hp,←hq]at hS ⊢;clear hm ho hp hq;rw[←ht.out]at hZ;obtain⟨hP,hi⟩:=blk1 w #[.slice a1 n1 c1,.slice a2 n2 c2,.slice a3 n3 c3] 43;replace hS:=hS.after hi;replace hZ:=hZ.after (b1 w (.cells #[.slice a1 n1 c1,.slice a2 n2 c2,.slice a3 n3 c3] 43));obtain⟨hb,hd,he,hf,hg,hh⟩:=hP.x3;go_enter Tryz.func24,Tryz.ntmps24
 go_wp2_with fail
 refine (rformed1_c N.s _ _ _ _ true HM.out.ssm hS HM.out.form).mono ?_;rintro e w2 ⟨rfl,hn⟩;clear hb hd he hf hg hh;replace hP:=hP.after hn;replace hS:=hS.after hn;replace hZ:=hZ.after hn;replace hi:=bt hi hn;clear hn;have hu:=hP.lt;go_wp2;go_loopw [5] (fun i wr=>∃k:Nat,k≤n2∧i=.int .i64 k∧Bw w2 wr) (fun i _=>n2-(intOf i).toNat)
 case atStart=>exact⟨0,by omega,rfl,Br⟩
 case round =>
  obtain⟨k,hk,rfl,hj⟩:=hrel;obtain⟨wp,hy⟩:∃wp,wp=wr:=⟨_,rfl⟩;subst hy;replace hP:=hP.after hj;replace hS:=hS.after hj;replace hZ:=hZ.after hj;replace hi:=bt hi hj;clear hu;have hu:=hP.lt;by_cases hlt:k<n2
  ·have hr:k<Z.length:=by rw[HL.out,←ht.out];exact hlt
   have hv:=Kh (hw.out _ (Gm hr));obtain⟨b,o,rfl,hF,x1,x2⟩:=hZ.at_ hr;generalize (Z[k]'hr)=z at x1 x2 hv;have hG:(0:Int)≤(k:Int):=by omega
   have hH:(k:Int)<(n2:Int):=by omega
   go_wp2_with fail
   refine (rivalidI_c z _ hv.out).mono ?_;rintro e w3 ⟨rfl,hA⟩;go_wp2;go_roundw
   case rel=>exact⟨k+1,by omega,by go_num,bt hj hA⟩
   case measure=>simp[intOf];omega
  ·clear hj
   have hB:Hid (Calls Tryz.prog 65 #[.agg #[.slice a1 n1 c1,.slice a2 n2 c2,.slice a3 n3 c3]] wp fun e w'=>e=.returned (.int .i64 0)∧Bw wp w'):=by
    have h:=rrest_c N _ _ _ wp HM.out hS;rw[hx.out]at h;exact h
   obtain⟨hb,hd,he,hf,hg,hh⟩:=hP.x3;go_wp2_with fail
   refine hB.out.mono ?_;rintro e w4 ⟨rfl,hb4⟩;clear hb hd he hf hg hh;replace hP:=hP.after hb4;have hC:=hP.lt;obtain⟨hb,hd,he,hf,hg,hh⟩:=hP.x3;go_wp2;go_ret
   exact⟨rfl,bt hi hb4⟩
end Go.Proofs.YtdgddpnjkinciaaGreatDoor
