import Derived.Test.YteahlbhjhjhljaaGreatDoorLck5
set_option linter.unusedVariables false
set_option linter.unusedSimpArgs false
set_option maxRecDepth 100000
set_option maxHeartbeats 16000000
namespace Go.Proofs.YteahlbhjhjhljaaGreatDoor
open Go.RowKit
def badT (N:NSta) (g:Nat × Nat) (t:NTrm):Bool:=N.tz t&&vz g.2
theorem badT_any (N:NSta) (g:Nat × Nat) (l:List NTrm):l.any (badT N g)=(vz g.2&&l.any N.tz):=by
 induction l with
 | nil=>simp
 | cons x t ih=>rw [List.any_cons,List.any_cons,ih];simp only [badT];cases vz g.2 <;> cases N.tz x <;> simp
theorem gq_eq (n:Nat) (g:Nat × Nat):gq n g=(!(vz g.2)&&g.2 != n):=rfl
theorem rtyped_c (N:NSta) (v1 v2 v3:Value) (w:World) (hm:NOk N) (hS:NAt w v1 v2 v3 N) :
  Calls Tryz.prog 182 #[.agg #[v1,v2,v3]] w fun e w'=>e=.returned (.bool N.typ)∧Below w.heap.size w w':=by
 obtain ⟨r,hr⟩:∃r:Bool,r=N.typ:=⟨_,rfl⟩;have HRES:=Lib.hid hr;rw [←hr];clear hr;obtain ⟨a1,c1,a2,c2,a3,c3,rfl,rfl,rfl⟩:=hS.forms;obtain ⟨n1,hn1⟩:∃n,n=N.grps.length:=⟨_,rfl⟩;obtain ⟨n2,hn2⟩:∃n,n=N.vars.length:=⟨_,rfl⟩;obtain ⟨n3,hn3⟩:∃n,n=N.eqs.length:=⟨_,rfl⟩;have HN1:=Lib.hid hn1;have HN2:=Lib.hid hn2;have HN3:=Lib.hid hn3;have l1:n1≤10:=by rw [hn1];exact hm.ng
 have l2:n2≤12:=by rw [hn2];exact hm.nv
 have l3:n3≤12:=by rw [hn3];exact hm.ne
 have HM:=Lib.hid hm;rw [←hn1,←hn2,←hn3] at hS ⊢;clear hm hn1 hn2 hn3;have hP:=Blk.new w #[.slice a1 n1 c1,.slice a2 n2 c2,.slice a3 n3 c3] 43;have hBW:=b1 w (.cells #[.slice a1 n1 c1,.slice a2 n2 c2,.slice a3 n3 c3] 43);replace hS:=hS.after hBW;obtain ⟨hPc0,hPf0,hPc1,hPf1,hPc2,hPf2⟩:=hP.x3;go_enter Tryz.func182,Tryz.ntmps182
 go_wp2;clear hPc0 hPf0 hPc1 hPf1 hPc2 hPf2;generalize w.alloc (.cells #[.slice a1 n1 c1,.slice a2 n2 c2,.slice a3 n3 c3] 43)=w1 at hP hBW hS;replace hP:Blk w1 w.heap.size 43 [.slice a1 n1 c1,.slice a2 n2 c2,.slice a3 n3 c3]:=hP;go_loopw [3,4] (fun s i wr=>∃k:Nat,∃sb:Bool,k≤n2∧i=.int .i64 k∧s=.bool sb∧Hid (sb=(N.vars.take k).any vz)∧Below w1.heap.size w1 wr) (fun _ i _=>n2-(intOf i).toNat)
 case atStart=>exact ⟨0,false,by omega,rfl,rfl,rfl,Below.refl _ _⟩
 case round =>
  obtain ⟨k,sb,hk,rfl,rfl,HA,hbr⟩:=hrel;obtain ⟨wp,hwp⟩:∃wp,wp=wr:=⟨_,rfl⟩;subst hwp;replace hS:=hS.after hbr;replace hP:=hP.after hbr;replace hBW:=bt hBW hbr;by_cases hlt:k<n2
  ·have hkl:k<N.vars.length:=by rw [←HN2.out];exact hlt
   have HT:=Lib.hid (any_take vz N.vars k hkl);obtain ⟨b,o,rfl,hbl,x1⟩:=hS.vat hkl;have HV:Hid (vz (N.vars[k]'hkl)=vz (N.vars[k]'hkl)):=rfl;generalize (N.vars[k]'hkl)=s1 at x1 HT;have h0k:(0:Int)≤(k:Int):=by omega
   have h1k:(k:Int)<(n2:Int):=by omega
   have hPl:=hP.lt;cases sb
   ·rcases Nat.eq_zero_or_pos s1 with rfl | h0
    ·have hz:=zE (n:=0) rfl;have HX:Hid (true=(N.vars.take (k+1)).any vz):=by rw [Hid,HT.out,←HA.out];rfl
     obtain ⟨hPc0,hPf0,hPc1,hPf1,hPc2,hPf2⟩:=hP.x3;go_wp2;go_roundw
     case rel=>exact ⟨k+1,true,by omega,by go_num,rfl,HX,hbr⟩
     case measure=>simp [intOf];omega
    ·have hz:=nzE h0;have HX:Hid (false=(N.vars.take (k+1)).any vz):=by rw [Hid,HT.out,←HA.out,vz_pos h0];rfl
     clear h0;obtain ⟨hPc0,hPf0,hPc1,hPf1,hPc2,hPf2⟩:=hP.x3;go_wp2;go_roundw
     case rel=>exact ⟨k+1,false,by omega,by go_num,rfl,HX,hbr⟩
     case measure=>simp [intOf];omega
   ·have HX:Hid (true=(N.vars.take (k+1)).any vz):=by rw [Hid,HT.out,←HA.out];rfl
    obtain ⟨hPc0,hPf0,hPc1,hPf1,hPc2,hPf2⟩:=hP.x3;go_wp2;go_roundw
    case rel=>exact ⟨k+1,true,by omega,by go_num,rfl,HX,hbr⟩
    case measure=>simp [intOf];omega
  ·have HAV:Hid (sb=N.vars.any vz):=by
    have h:(N.vars.take k).any vz=N.vars.any vz:=by rw [List.take_of_length_le (by rw [←HN2.out];omega)]
    rw [Hid,HA.out,h]
   clear hbr HA;cases sb
   ·have HF:=Lib.hid (typ_vars N HAV.out.symm);obtain ⟨hPc0,hPf0,hPc1,hPf1,hPc2,hPf2⟩:=hP.x3;go_wp2;go_ret
    exact ⟨by rw [HRES.out,HF.out];rfl,hBW⟩
   ·have HVT:Hid (N.vars.any vz=true):=HAV.out.symm;clear HAV;have hPl:=hP.lt;obtain ⟨hPc0,hPf0,hPc1,hPf1,hPc2,hPf2⟩:=hP.x3;go_wp2_with fail
    refine (rorder15_c N _ _ _ _ HM.out hS).mono ?_;rintro e w3 ⟨rfl,hb3⟩;clear hPc0 hPf0 hPc1 hPf1 hPc2 hPf2;replace hP:=hP.after hb3;replace hS:=hS.after hb3;replace hBW:=bt hBW hb3;clear hb3 hPl;have hPl:=hP.lt;by_cases ho:N.ord=0
    ·have hz:=zE ho;have HF:=Lib.hid (typ_ord N HVT.out ho);clear ho;obtain ⟨hPc0,hPf0,hPc1,hPf1,hPc2,hPf2⟩:=hP.x3;go_wp2;go_ret
     exact ⟨by rw [HRES.out,HF.out];rfl,hBW⟩
    ·have hz:=nzE (Nat.pos_of_ne_zero ho);have HO:=Lib.hid ho;clear ho;obtain ⟨hPc0,hPf0,hPc1,hPf1,hPc2,hPf2⟩:=hP.x3;go_wp2;clear hPc0 hPf0 hPc1 hPf1 hPc2 hPf2;clear hz;go_loopw [6] (fun i wr=>∃k:Nat,k≤n1∧i=.int .i64 k∧Hid ((N.grps.take k).any (gq N.ord)=false)∧Below w3.heap.size w3 wr) (fun i _=>n1-(intOf i).toNat)
     case atStart=>exact ⟨0,by omega,rfl,rfl,Below.refl _ _⟩
     case round =>
      obtain ⟨k,hk,rfl,HA,hbr⟩:=hrel;obtain ⟨wq,hwq⟩:∃wq,wq=wr:=⟨_,rfl⟩;subst hwq;replace hS:=hS.after hbr;replace hP:=hP.after hbr;replace hBW:=bt hBW hbr;clear hPl;have hPl:=hP.lt;by_cases hlt:k<n1
      ·have hkl:k<N.grps.length:=by rw [←HN1.out];exact hlt
       have HT:=Lib.hid (any_take (gq N.ord) N.grps k hkl);have HBAD:Hid (gq N.ord (N.grps[k]'hkl)=true→N.typ=false):=fun h=>typ_gq N HVT.out (any_hit _ _ k hkl h)
       have HGQ:=Lib.hid (gq_eq N.ord (N.grps[k]'hkl));obtain ⟨b,o,rfl,hbl,x1,x2⟩:=hS.gat hkl;generalize gq N.ord (N.grps[k]'hkl)=gk at HT HBAD HGQ;generalize (N.grps[k]'hkl).2=s2 at x2 HGQ;have h0k:(0:Int)≤(k:Int):=by omega
       have h1k:(k:Int)<(n1:Int):=by omega
       rcases Nat.eq_zero_or_pos s2 with rfl | h0
       ·have hz:=zE (n:=0) rfl;have HX:Hid ((N.grps.take (k+1)).any (gq N.ord)=false):=by rw [Hid,HT.out,HA.out,HGQ.out];rfl
        clear HBAD;obtain ⟨hPc0,hPf0,hPc1,hPf1,hPc2,hPf2⟩:=hP.x3;go_wp2;go_roundw
        case rel=>exact ⟨k+1,by omega,by go_num,HX,hbr⟩
        case measure=>simp [intOf];omega
       ·have hz:=nzE h0;by_cases hq:s2=N.ord
        ·have h1:=eqT hq;have h2:=eqE hq;have HX:Hid ((N.grps.take (k+1)).any (gq N.ord)=false):=by rw [Hid,HT.out,HA.out,HGQ.out,hq];simp
         clear HBAD hq h0;obtain ⟨hPc0,hPf0,hPc1,hPf1,hPc2,hPf2⟩:=hP.x3;go_wp2;go_roundw
         case rel=>exact ⟨k+1,by omega,by go_num,HX,hbr⟩
         case measure=>simp [intOf];omega
        ·have h1:=eqF hq;have h2:=neE hq;have HF:Hid (N.typ=false):=HBAD.out (by rw [HGQ.out,vz_pos h0];simp [hq]);clear HBAD hq h0;obtain ⟨hPc0,hPf0,hPc1,hPf1,hPc2,hPf2⟩:=hP.x3;go_wp2;go_ret
         exact ⟨by rw [HRES.out,HF.out];rfl,hBW⟩
      ·have HGQ:Hid (N.grps.any (gq N.ord)=false):=any_end _ _ k (by rw [←HN1.out];omega) HA.out;clear hbr HA;obtain ⟨hPc0,hPf0,hPc1,hPf1,hPc2,hPf2⟩:=hP.x3;go_wp2;clear hPc0 hPf0 hPc1 hPf1 hPc2 hPf2;go_loopw [7] (fun i wr=>∃k:Nat,k≤n3∧i=.int .i64 k∧Hid ((N.eqs.take k).all (kindQ N)=true)∧Below wq.heap.size wq wr) (fun i _=>n3-(intOf i).toNat)
       case atStart=>exact ⟨0,by omega,rfl,rfl,Below.refl _ _⟩
       case round =>
        obtain ⟨k,hk,rfl,HA,hbr⟩:=hrel;obtain ⟨wt,hwt⟩:∃wt,wt=wr:=⟨_,rfl⟩;subst hwt;replace hS:=hS.after hbr;replace hP:=hP.after hbr;replace hBW:=bt hBW hbr;clear hPl;have hPl:=hP.lt;by_cases hlt:k<n3
        ·have hkl:k<N.eqs.length:=by rw [←HN3.out];exact hlt
         have HT:=Lib.hid (all_take (kindQ N) N.eqs k hkl);have HBAD:=Lib.hid (typ_kind N HVT.out k hkl);have HSZ:=Lib.hid (HM.out.e _ (List.getElem_mem hkl));obtain ⟨b,o,tv,rfl,hbl,x1,x2,x3,hTs⟩:=hS.eat hkl;generalize (N.eqs[k]'hkl)=q at x1 x2 x3 hTs HSZ HT HBAD;have hgl:=HSZ.out.1;have hgn:q.grp<n1:=by rw [HN1.out];exact hgl
         have HGP:=Lib.hid (gp_at N q hgl);obtain ⟨b',o',rfl,hbl',y1,y2⟩:=hS.gat hgl;have HEQ:Hid (kindQ N q=(!(q.trms.any (badT N (N.grps[q.grp]'hgl))))):=by rw [Hid,kindQ,HGP.out,badT_any,Bool.not_and]
         generalize kindQ N q=ek at HT HBAD HEQ;generalize (N.grps[q.grp]'hgl)=gg at y1 y2 HEQ;clear hgl HGP;obtain ⟨qg,qt,qs⟩:=q;simp only [] at x1 x2 x3 hTs HSZ HEQ hgn y1 y2;obtain ⟨to_,tc,rfl⟩:=hTs.form;obtain ⟨n4,hn4⟩:∃n,n=qs.length:=⟨_,rfl⟩;have HN4:=Lib.hid hn4;rw [←hn4] at x3 hTs;clear hn4;obtain ⟨p,qq⟩:=gg;simp only [] at y1 y2 HEQ;have l4:n4≤12:=by rw [HN4.out];exact HSZ.out.2.2.1
         have hB:=Blk.new wt #[.int .i64 (qg:Int),.string (E qt),.slice to_ n4 tc] 120;have h0k:(0:Int)≤(k:Int):=by omega
         have h1k:(k:Int)<(n3:Int):=by omega
         have h0g:(0:Int)≤(qg:Int):=by omega
         have h1g:(qg:Int)<(n1:Int):=by omega
         obtain ⟨hPc0,hPf0,hPc1,hPf1,hPc2,hPf2⟩:=hP.x3;go_wp2;clear hPc0 hPf0 hPc1 hPf1 hPc2 hPf2;replace hP:=hP.alloc (.cells #[.int .i64 (qg:Int),.string (E qt),.slice to_ n4 tc] 120);replace hTs:=hTs.after (b1 _ (.cells #[.int .i64 (qg:Int),.string (E qt),.slice to_ n4 tc] 120));have hS2:=hS.after (b1 _ (.cells #[.int .i64 (qg:Int),.string (E qt),.slice to_ n4 tc] 120));replace hBW:=ba hBW (.cells #[.int .i64 (qg:Int),.string (E qt),.slice to_ n4 tc] 120);replace hbr:=ba hbr (.cells #[.int .i64 (qg:Int),.string (E qt),.slice to_ n4 tc] 120);have y2':(wt.alloc (.cells #[.int .i64 (qg:Int),.string (E qt),.slice to_ n4 tc] 120)).cell? ⟨b',o'+qg*2+1,none⟩=some (.string (E qq)):=((b1 wt (.cells #[.int .i64 (qg:Int),.string (E qt),.slice to_ n4 tc] 120)).cell (p:=⟨b',o'+qg*2+1,none⟩) hbl').trans y2;have hbl2:b'<(wt.alloc (.cells #[.int .i64 (qg:Int),.string (E qt),.slice to_ n4 tc] 120)).heap.size:=by simp;omega
         clear hS hPl y1 y2 x1 x2 x3;generalize wt.alloc (.cells #[.int .i64 (qg:Int),.string (E qt),.slice to_ n4 tc] 120)=wu at hP hTs hS2 hBW hbr hB y2' hbl2;replace hB:Blk wu wt.heap.size 120 [.int .i64 (qg:Int),.string (E qt),.slice to_ n4 tc]:=hB;go_loopw [9] (fun i wr=>∃k:Nat,k≤n4∧i=.int .i64 k∧Hid ((qs.take k).any (badT N (p,qq))=false)∧Below wu.heap.size wu wr) (fun i _=>n4-(intOf i).toNat)
         case atStart=>exact ⟨0,by omega,rfl,rfl,Below.refl _ _⟩
         case round =>
          obtain ⟨j,hj,rfl,HJ,hbs⟩:=hrel;obtain ⟨wv,hwv⟩:∃wv,wv=wr:=⟨_,rfl⟩;subst hwv;replace hP:=hP.after hbs;replace hB:=hB.after hbs;replace hTs:=hTs.after hbs;replace hS2:=hS2.after hbs;replace hBW:=bt hBW hbs;have y3:=(hbs.cell (p:=⟨b',o'+qg*2+1,none⟩) hbl2).trans y2';have hbl3:=Nat.lt_of_lt_of_le hbl2 hbs.size;have hPl:=hP.lt;have hBl:=hB.lt;by_cases hltj:j<n4
          ·have hjl:j<qs.length:=by rw [←HN4.out];exact hltj
           have HSJ:=Lib.hid (HSZ.out.2.2.2 _ (List.getElem_mem hjl)).2.1;have HTJ:=Lib.hid (any_take (badT N (p,qq)) qs j hjl);have HBJ:Hid (badT N (p,qq) (qs[j]'hjl)=true→N.typ=false):=fun h=>HBAD.out (by rw [HEQ.out,any_hit _ qs j hjl h];rfl)
           have HTZ:Hid (badT N (p,qq) (qs[j]'hjl)=(vz (N.vars.getD (qs[j]'hjl).var 0)&&vz qq)):=rfl;obtain ⟨b4,o4,rfl,hbl4,z1,z2,z3,z4⟩:=hTs.at_ hjl;generalize badT N (p,qq) (qs[j]'hjl)=bk at HTJ HBJ HTZ;generalize (qs[j]'hjl).var=vv at z2 HSJ HTZ;have hvl:=HSJ.out;obtain ⟨b5,o5,rfl,hbl5,u1⟩:=hS2.vat hvl
           have HTZ2:Hid (bk=(vz (N.vars[vv]'hvl)&&vz qq)):=by
            rw [Hid,HTZ.out,List.getD_eq_getElem?_getD,List.getElem?_eq_getElem hvl];rfl
           generalize (N.vars[vv]'hvl)=sv at u1 HTZ2;have hvn:vv<n2:=by rw [HN2.out];exact hvl
           have h0j:(0:Int)≤(j:Int):=by omega
           have h1j:(j:Int)<(n4:Int):=by omega
           have h0v:(0:Int)≤(vv:Int):=by omega
           have h1v:(vv:Int)<(n2:Int):=by omega
           clear hvl HTZ;have g1:=gcl (a:=⟨b4,o4+j*4+1,none⟩) hbl4 z2;have g2:=gcl (a:=⟨b5,o5+vv,none⟩) hbl5 u1;have g3:=gcl (a:=⟨b',o'+qg*2+1,none⟩) hbl3 y3;rcases Nat.eq_zero_or_pos sv with rfl | h0
           ·have hz:=zE (n:=0) rfl;rcases Nat.eq_zero_or_pos qq with rfl | h1
            ·have HF:Hid (N.typ=false):=HBJ.out (by rw [HTZ2.out];rfl);obtain ⟨hPc0,hPf0,hPc1,hPf1,hPc2,hPf2⟩:=hP.x3;obtain ⟨hBc0,hBf0,hBc1,hBf1,hBc2,hBf2⟩:=hB.x3;have hPg0:=hP.gcell 0;have hPg1:=hP.gcell 1;have hPg2:=hP.gcell 2;have hBg0:=hB.gcell 0;have hBg1:=hB.gcell 1;have hBg2:=hB.gcell 2;go_wp2_with fail
             refine wp_region_gw (by kernel_rfl) (by kernel_rfl) ?_;repeat (go_big_quiet_step (first | (fail)))
             refine wpQuiet_nil ?_;rintro w5 ⟨xw5,rfl⟩;have hb5:=gw_below xw5;generalize gw xw5=w5 at hb5;go_wp2;go_ret
             exact ⟨by rw [HRES.out,HF.out];rfl,bt hBW hb5⟩
            ·have hz1:=nzE h1;have HX:Hid ((qs.take (j+1)).any (badT N (p,qq))=false):=by rw [Hid,HTJ.out,HJ.out,HTZ2.out,vz_pos h1];rfl
             clear h1;obtain ⟨hPc0,hPf0,hPc1,hPf1,hPc2,hPf2⟩:=hP.x3;obtain ⟨hBc0,hBf0,hBc1,hBf1,hBc2,hBf2⟩:=hB.x3;have hPg0:=hP.gcell 0;have hPg1:=hP.gcell 1;have hPg2:=hP.gcell 2;have hBg0:=hB.gcell 0;have hBg1:=hB.gcell 1;have hBg2:=hB.gcell 2;go_wp2_with fail
             refine wp_region_gw (by kernel_rfl) (by kernel_rfl) ?_;repeat (go_big_quiet_step (first | (fail)))
             refine wpQuiet_nil ?_;rintro w5 ⟨xw5,rfl⟩;have hb5:=gw_below xw5;generalize gw xw5=w5 at hb5;go_wp2;go_roundw
             case rel=>exact ⟨j+1,by omega,by go_num,HX,bt hbs hb5⟩
             case measure=>simp [intOf];omega
           ·have hz:=nzE h0;have HX:Hid ((qs.take (j+1)).any (badT N (p,qq))=false):=by rw [Hid,HTJ.out,HJ.out,HTZ2.out,vz_pos h0];rfl
            clear h0;obtain ⟨hPc0,hPf0,hPc1,hPf1,hPc2,hPf2⟩:=hP.x3;obtain ⟨hBc0,hBf0,hBc1,hBf1,hBc2,hBf2⟩:=hB.x3;have hPg0:=hP.gcell 0;have hPg1:=hP.gcell 1;have hPg2:=hP.gcell 2;have hBg0:=hB.gcell 0;have hBg1:=hB.gcell 1;have hBg2:=hB.gcell 2;go_wp2_with fail
            refine wp_region_gw (by kernel_rfl) (by kernel_rfl) ?_;repeat (go_big_quiet_step (first | (fail)))
            refine wpQuiet_nil ?_;rintro w5 ⟨xw5,rfl⟩;have hb5:=gw_below xw5;generalize gw xw5=w5 at hb5;go_wp2;go_roundw
            case rel=>exact ⟨j+1,by omega,by go_num,HX,bt hbs hb5⟩
            case measure=>simp [intOf];omega
          ·have HE4:Hid (qs.any (badT N (p,qq))=false):=any_end _ qs j (by rw [←HN4.out];omega) HJ.out;have HX:Hid ((N.eqs.take (k+1)).all (kindQ N)=true):=by rw [Hid,HT.out,HA.out,HEQ.out,HE4.out];rfl
           obtain ⟨hPc0,hPf0,hPc1,hPf1,hPc2,hPf2⟩:=hP.x3;obtain ⟨hBc0,hBf0,hBc1,hBf1,hBc2,hBf2⟩:=hB.x3;go_wp2;go_roundw
           case rel=>exact ⟨k+1,by omega,by go_num,HX,bt hbr hbs⟩
           case measure=>simp [intOf];omega
        ·have HE:Hid (N.eqs.all (kindQ N)=true):=all_end (kindQ N) N.eqs k (by rw [←HN3.out];omega) HA.out;have HF:=Lib.hid (typ_ok N HO.out HGQ.out HE.out);obtain ⟨hPc0,hPf0,hPc1,hPf1,hPc2,hPf2⟩:=hP.x3;go_wp2;go_ret
         exact ⟨by rw [HRES.out,HF.out];rfl,hBW⟩
theorem rmany0 (N:NSta) (v1 v2 v3:Value) (w:World) (r:Bool) (hm:NOk N) (hS:NAt w v1 v2 v3 N) (h:decide (8<N.grps.length)=r) :
  Calls Tryz.prog 180 #[.agg #[v1,v2,v3]] w fun e w'=>e=.returned (.bool r)∧Below w.heap.size w w':=by
 rw [←h];exact rmany_c N v1 v2 v3 w hm hS
theorem relements0 (N:NSta) (v1 v2 v3:Value) (w:World) (r:Bool) (hm:NOk N) (hS:NAt w v1 v2 v3 N) (h:N.elem=r) :
  Calls Tryz.prog 181 #[.agg #[v1,v2,v3]] w fun e w'=>e=.returned (.bool r)∧Below w.heap.size w w':=by
 rw [←h];exact relements_c N v1 v2 v3 w hm hS
theorem rtyped0 (N:NSta) (v1 v2 v3:Value) (w:World) (r:Bool) (hm:NOk N) (hS:NAt w v1 v2 v3 N) (h:N.typ=r) :
  Calls Tryz.prog 182 #[.agg #[v1,v2,v3]] w fun e w'=>e=.returned (.bool r)∧Below w.heap.size w w':=by
 rw [←h];exact rtyped_c N v1 v2 v3 w hm hS
theorem rrest_c (N:NSta) (v1 v2 v3:Value) (w:World) (hm:NOk N) (hS:NAt w v1 v2 v3 N) :
  Calls Tryz.prog 120 #[.agg #[v1,v2,v3]] w fun e w'=>e=.returned (.int .i64 (N.chk:Nat))∧Below w.heap.size w w':=by
 obtain ⟨r,hr⟩:∃r:Nat,r=N.chk:=⟨_,rfl⟩;have HRES:=Lib.hid hr;rw [←hr];clear hr;obtain ⟨a1,c1,a2,c2,a3,c3,rfl,rfl,rfl⟩:=hS.forms;obtain ⟨n1,hn1⟩:∃n,n=N.grps.length:=⟨_,rfl⟩;obtain ⟨n2,hn2⟩:∃n,n=N.vars.length:=⟨_,rfl⟩;obtain ⟨n3,hn3⟩:∃n,n=N.eqs.length:=⟨_,rfl⟩;have HN1:=Lib.hid hn1;have HN2:=Lib.hid hn2;have HN3:=Lib.hid hn3;have l1:n1≤10:=by rw [hn1];exact hm.ng
 have l2:n2≤12:=by rw [hn2];exact hm.nv
 have l3:n3≤12:=by rw [hn3];exact hm.ne
 have HM:=Lib.hid hm;rw [←hn1,←hn2,←hn3] at hS ⊢;clear hm hn1 hn2 hn3;have hP:=Blk.new w #[.slice a1 n1 c1,.slice a2 n2 c2,.slice a3 n3 c3] 43;have hBW:=b1 w (.cells #[.slice a1 n1 c1,.slice a2 n2 c2,.slice a3 n3 c3] 43);replace hS:=hS.after hBW;by_cases h8:8<N.grps.length
 ·have HR:=Lib.hid (decide_eq_true h8);have HF:Hid (r=6):=by rw [Hid,HRES.out,chk_6 h8]
  clear h8;obtain ⟨hPc0,hPf0,hPc1,hPf1,hPc2,hPf2⟩:=hP.x3;go_enter Tryz.func120,Tryz.ntmps120
  go_wp2_with fail
  refine (rmany0 N _ _ _ _ _ HM.out hS HR.out).mono ?_;rintro e w2 ⟨rfl,hb2⟩;go_wp2;go_ret
  exact ⟨by rw [HF.out];rfl,bt hBW hb2⟩
 ·have HR:=Lib.hid (decide_eq_false h8);have H8:=Lib.hid h8;clear h8;obtain ⟨hPc0,hPf0,hPc1,hPf1,hPc2,hPf2⟩:=hP.x3;go_enter Tryz.func120,Tryz.ntmps120
  go_wp2_with fail
  refine (rmany0 N _ _ _ _ _ HM.out hS HR.out).mono ?_;rintro e w2 ⟨rfl,hb2⟩;clear hPc0 hPf0 hPc1 hPf1 hPc2 hPf2;replace hP:=hP.after hb2;replace hS:=hS.after hb2;replace hBW:=bt hBW hb2;clear hb2;have hPl:=hP.lt;cases h13:N.elem
  ·have HF:Hid (r=13):=by rw [Hid,HRES.out,chk_13 H8.out h13]
   have HR2:=Lib.hid h13;clear h13;obtain ⟨hPc0,hPf0,hPc1,hPf1,hPc2,hPf2⟩:=hP.x3;go_wp2_with fail
   refine (relements0 N _ _ _ _ _ HM.out hS HR2.out).mono ?_;rintro e w3 ⟨rfl,hb3⟩;clear hPc0 hPf0 hPc1 hPf1 hPc2 hPf2;replace hP:=hP.after hb3;replace hS:=hS.after hb3;replace hBW:=bt hBW hb3;clear hb3;clear hPl;have hPl:=hP.lt;obtain ⟨hPc0,hPf0,hPc1,hPf1,hPc2,hPf2⟩:=hP.x3;go_wp2;go_ret
   exact ⟨by rw [HF.out];rfl,hBW⟩
  ·have HR2:=Lib.hid h13;clear h13;obtain ⟨hPc0,hPf0,hPc1,hPf1,hPc2,hPf2⟩:=hP.x3;go_wp2_with fail
   refine (relements0 N _ _ _ _ _ HM.out hS HR2.out).mono ?_;rintro e w3 ⟨rfl,hb3⟩;clear hPc0 hPf0 hPc1 hPf1 hPc2 hPf2;replace hP:=hP.after hb3;replace hS:=hS.after hb3;replace hBW:=bt hBW hb3;clear hb3;clear hPl;have hPl:=hP.lt;cases h10:N.typ
   ·have HF:Hid (r=10):=by rw [Hid,HRES.out,chk_10 H8.out HR2.out h10]
    have HR3:=Lib.hid h10;clear h10;obtain ⟨hPc0,hPf0,hPc1,hPf1,hPc2,hPf2⟩:=hP.x3;go_wp2_with fail
    refine (rtyped0 N _ _ _ _ _ HM.out hS HR3.out).mono ?_;rintro e w4 ⟨rfl,hb4⟩;clear hPc0 hPf0 hPc1 hPf1 hPc2 hPf2;replace hP:=hP.after hb4;replace hS:=hS.after hb4;replace hBW:=bt hBW hb4;clear hb4;clear hPl;have hPl:=hP.lt;obtain ⟨hPc0,hPf0,hPc1,hPf1,hPc2,hPf2⟩:=hP.x3;go_wp2;go_ret
    exact ⟨by rw [HF.out];rfl,hBW⟩
   ·have HF:Hid (r=0):=by rw [Hid,HRES.out,chk_0 H8.out HR2.out h10]
    have HR3:=Lib.hid h10;clear h10;obtain ⟨hPc0,hPf0,hPc1,hPf1,hPc2,hPf2⟩:=hP.x3;go_wp2_with fail
    refine (rtyped0 N _ _ _ _ _ HM.out hS HR3.out).mono ?_;rintro e w4 ⟨rfl,hb4⟩;clear hPc0 hPf0 hPc1 hPf1 hPc2 hPf2;replace hP:=hP.after hb4;replace hS:=hS.after hb4;replace hBW:=bt hBW hb4;clear hb4;clear hPl;have hPl:=hP.lt;obtain ⟨hPc0,hPf0,hPc1,hPf1,hPc2,hPf2⟩:=hP.x3;go_wp2;go_ret
    exact ⟨by rw [HF.out];rfl,hBW⟩
theorem rformed1_c (S:Sta) (v1 v2 v3:Value) (w:World) (b:Bool) (hm:SSm S) (hS:StAt w v1 v2 v3 S) (h:formB S=b) :
  Calls Tryz.prog 119 #[.agg #[v1,v2,v3]] w fun e w'=>e=.returned (.bool b)∧Below w.heap.size w w':=by
 rw [←h];exact rformed_c S v1 v2 v3 w hm hS
theorem rcheck15_c (N:NSta) (Z:List Int) (v1 v2 v3 v4:Value) (w:World) (hm:NOk N) (hS:NAt w v1 v2 v3 N) (hZ:ZsAt w v4 Z) (hz:∀z∈Z,z.natAbs<256^128) (hl:Z.length=N.vars.length) (hc:N.chk=0) :
  Calls Tryz.prog 51 #[.agg #[v1,v2,v3],v4] w fun e w'=>e=.returned (.int .i64 0)∧Below w.heap.size w w':=by
 obtain ⟨a4,c4,rfl⟩:=hZ.form;rw [hl] at hZ ⊢;have HZZ:=Lib.hid hz;have HL:=Lib.hid hl;have HCK:=Lib.hid hc;clear hz hl hc;obtain ⟨a1,c1,a2,c2,a3,c3,rfl,rfl,rfl⟩:=hS.forms;obtain ⟨n1,hn1⟩:∃n,n=N.grps.length:=⟨_,rfl⟩;obtain ⟨n2,hn2⟩:∃n,n=N.vars.length:=⟨_,rfl⟩;obtain ⟨n3,hn3⟩:∃n,n=N.eqs.length:=⟨_,rfl⟩;have HN1:=Lib.hid hn1;have HN2:=Lib.hid hn2;have HN3:=Lib.hid hn3;have l1:n1≤10:=by rw [hn1];exact hm.ng
 have l2:n2≤12:=by rw [hn2];exact hm.nv
 have l3:n3≤12:=by rw [hn3];exact hm.ne
 have HM:=Lib.hid hm;rw [←hn1,←hn2,←hn3] at hS ⊢;clear hm hn1 hn2 hn3;rw [←HN2.out] at hZ;have hP:=Blk.new w #[.slice a1 n1 c1,.slice a2 n2 c2,.slice a3 n3 c3] 43;have hBW:=b1 w (.cells #[.slice a1 n1 c1,.slice a2 n2 c2,.slice a3 n3 c3] 43);replace hS:=hS.after hBW;replace hZ:=hZ.after (b1 w (.cells #[.slice a1 n1 c1,.slice a2 n2 c2,.slice a3 n3 c3] 43));obtain ⟨hPc0,hPf0,hPc1,hPf1,hPc2,hPf2⟩:=hP.x3;go_enter Tryz.func51,Tryz.ntmps51
 go_wp2_with fail
 refine (rformed1_c N.s _ _ _ _ true HM.out.ssm hS HM.out.form).mono ?_;rintro e w2 ⟨rfl,hb2⟩;clear hPc0 hPf0 hPc1 hPf1 hPc2 hPf2;replace hP:=hP.after hb2;replace hS:=hS.after hb2;replace hZ:=hZ.after hb2;replace hBW:=bt hBW hb2;clear hb2;have hPl:=hP.lt;go_wp2;go_loopw [5] (fun i wr=>∃k:Nat,k≤n2∧i=.int .i64 k∧Below w2.heap.size w2 wr) (fun i _=>n2-(intOf i).toNat)
 case atStart=>exact ⟨0,by omega,rfl,Below.refl _ _⟩
 case round =>
  obtain ⟨k,hk,rfl,hbr⟩:=hrel;obtain ⟨wp,hwp⟩:∃wp,wp=wr:=⟨_,rfl⟩;subst hwp;replace hP:=hP.after hbr;replace hS:=hS.after hbr;replace hZ:=hZ.after hbr;replace hBW:=bt hBW hbr;clear hPl;have hPl:=hP.lt;by_cases hlt:k<n2
  ·have hkl:k<Z.length:=by rw [HL.out,←HN2.out];exact hlt
   have HZ1:=Lib.hid (HZZ.out _ (List.getElem_mem hkl));obtain ⟨b,o,rfl,hbl,x1,x2⟩:=hZ.at_ hkl;generalize (Z[k]'hkl)=z at x1 x2 HZ1;have h0k:(0:Int)≤(k:Int):=by omega
   have h1k:(k:Int)<(n2:Int):=by omega
   go_wp2_with fail
   refine (rivalidI_c z _ HZ1.out).mono ?_;rintro e w3 ⟨rfl,hb3⟩;go_wp2;go_roundw
   case rel=>exact ⟨k+1,by omega,by go_num,bt hbr hb3⟩
   case measure=>simp [intOf];omega
  ·clear hbr
   have HCC:Hid (Calls Tryz.prog 120 #[.agg #[.slice a1 n1 c1,.slice a2 n2 c2,.slice a3 n3 c3]] wp fun e w'=>e=.returned (.int .i64 0)∧Below wp.heap.size wp w'):=by
    have h:=rrest_c N _ _ _ wp HM.out hS;rw [HCK.out] at h;exact h
   obtain ⟨hPc0,hPf0,hPc1,hPf1,hPc2,hPf2⟩:=hP.x3;go_wp2_with fail
   refine HCC.out.mono ?_;rintro e w4 ⟨rfl,hb4⟩;clear hPc0 hPf0 hPc1 hPf1 hPc2 hPf2;replace hP:=hP.after hb4;have hPl2:=hP.lt;obtain ⟨hPc0,hPf0,hPc1,hPf1,hPc2,hPf2⟩:=hP.x3;go_wp2;go_ret
   exact ⟨rfl,bt hBW hb4⟩
end Go.Proofs.YteahlbhjhjhljaaGreatDoor
