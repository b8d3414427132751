/- SquarerangeWitnesses: the law. -/
import Derived.Test.YtfgandecbkbleaaGreatDoorRfs
import Derived.Test.YtfgandecbkbleaaGreatDoorLck5
import Derived.Test.YtfgandecbkbleaaGreatDoorAwk27
import Derived.Test.YtfgandecbkbleaaGreatDoorRw27
import Derived.Test.YtfgandecbkbleaaGreatDoorLc27
set_option linter.unusedVariables false
set_option linter.unusedSimpArgs false
set_option maxRecDepth 100000
set_option maxHeartbeats 16000000
namespace Go.Proofs.YtfgandecbkbleaaGreatDoor
section
/- dominoref15.Same at equal statements. -/
open Go.RowKit Go.Shelf
theorem sameSta_c (S:Sta) (u1 u2 u3 v1 v2 v3:Value) (w:World) (h1:S.grps.length≤1000) (h2:S.vars.length≤1000) (h3:S.eqs.length≤1000) (h4:∀q∈S.eqs,q.trms.length≤1000) (hA:StAt w u1 u2 u3 S) (hB:StAt w v1 v2 v3 S) :
  Calls Tryz.prog 22 #[.agg #[u1,u2,u3],.agg #[v1,v2,v3]] w fun e w'=>e=.returned (.bool true)∧Below w.heap.size w w':=by
 obtain ⟨a1,c1,rfl⟩:=RAt.form hA.g;obtain ⟨a2,c2,rfl⟩:=RAt.form hA.v;obtain ⟨a3,c3,rfl⟩:=RAt.form hA.e;obtain ⟨b1,d1,rfl⟩:=RAt.form hB.g;obtain ⟨b2,d2,rfl⟩:=RAt.form hB.v;obtain ⟨b3,d3,rfl⟩:=RAt.form hB.e;obtain ⟨n1,hn1⟩:∃n,n=S.grps.length:=⟨_,rfl⟩;obtain ⟨n2,hn2⟩:∃n,n=S.vars.length:=⟨_,rfl⟩;obtain ⟨n3,hn3⟩:∃n,n=S.eqs.length:=⟨_,rfl⟩;have HN1:=Lib.hid hn1;have HN2:=Lib.hid hn2;have HN3:=Lib.hid hn3;have HT:=Lib.hid h4;rw [←hn1,←hn2,←hn3] at hA hB ⊢;rw [←hn1] at h1;rw [←hn2] at h2;rw [←hn3] at h3;clear hn1 hn2 hn3 h4;have hx1:((n1:Int) != (n1:Int))=false:=by simp
 have hx2:((n2:Int) != (n2:Int))=false:=by simp
 have hx3:((n3:Int) != (n3:Int))=false:=by simp
 have hP:=blk2a w #[.slice a1 n1 c1,.slice a2 n2 c2,.slice a3 n3 c3] #[.slice b1 n1 d1,.slice b2 n2 d2,.slice b3 n3 d3] 61 61;have hQ:=blk2b w #[.slice a1 n1 c1,.slice a2 n2 c2,.slice a3 n3 c3] #[.slice b1 n1 d1,.slice b2 n2 d2,.slice b3 n3 d3] 61 61;have hBW:=Go.Proofs.YtfgandecbkbleaaGreatDoor.b2 w (.cells #[.slice a1 n1 c1,.slice a2 n2 c2,.slice a3 n3 c3] 61) (.cells #[.slice b1 n1 d1,.slice b2 n2 d2,.slice b3 n3 d3] 61);replace hA:=hA.after hBW;replace hB:=hB.after hBW;obtain ⟨hPc0,hPf0,hPc1,hPf1,hPc2,hPf2⟩:=hP.x3;obtain ⟨hQc0,hQf0,hQc1,hQf1,hQc2,hQf2⟩:=hQ.x3;go_enter Tryz.func22,Tryz.ntmps22
 go_upto_region 3 with fail
 clear hPc0 hPf0 hPc1 hPf1 hPc2 hPf2;clear hQc0 hQf0 hQc1 hQf1 hQc2 hQf2;generalize (w.alloc (.cells #[.slice a1 n1 c1,.slice a2 n2 c2,.slice a3 n3 c3] 61)).alloc (.cells #[.slice b1 n1 d1,.slice b2 n2 d2,.slice b3 n3 d3] 61)=w1 at hP hQ hBW hA hB ⊢;obtain ⟨gQ,hgQ⟩:∃g,w.heap.size+1=g:=⟨_,rfl⟩;rw [hgQ] at hQ ⊢;replace hP:Blk w1 w.heap.size 61 [.slice a1 n1 c1,.slice a2 n2 c2,.slice a3 n3 c3]:=hP;replace hQ:Blk w1 gQ 61 [.slice b1 n1 d1,.slice b2 n2 d2,.slice b3 n3 d3]:=hQ;clear hgQ;go_wp2;go_loopw [5] (fun i wr=>∃k:Nat,k≤n1∧i=.int .i64 k∧Below w1.heap.size w1 wr) (fun i _=>n1-(intOf i).toNat)
 case atStart=>exact ⟨0,by omega,rfl,Below.refl _ _⟩
 case round =>
  obtain ⟨k,hk,rfl,hbr⟩:=hrel;obtain ⟨wp,hwp⟩:∃wp,wp=wr:=⟨_,rfl⟩;subst hwp;replace hA:=hA.after hbr;replace hB:=hB.after hbr;replace hP:=hP.after hbr;replace hQ:=hQ.after hbr;by_cases hlt:k<n1
  ·have hkz:k<S.grps.length:=by rw [←HN1.out];exact hlt
   obtain ⟨b,o,rfl,hbl,x1,x2⟩:=GsAt.at_ hA.g hkz;obtain ⟨b',o',rfl,hbl',y1,y2⟩:=GsAt.at_ hB.g hkz;generalize (S.grps[k]'hkz)=z at x1 x2 y1 y2;have h0k:(0:Int)≤(k:Int):=by omega
   have h1k:(k:Int)<(n1:Int):=by omega
   have g1:=gcl (a:=⟨b,o+k*2,none⟩) hbl x1;have g2:=gcl (a:=⟨b,o+k*2+1,none⟩) hbl x2;have g3:=gcl (a:=⟨b',o'+k*2,none⟩) hbl' y1;have g4:=gcl (a:=⟨b',o'+k*2+1,none⟩) hbl' y2;obtain ⟨hPc0,hPf0,hPc1,hPf1,hPc2,hPf2⟩:=hP.x3;go_upto_region 6 with fail
   clear hPc0 hPf0 hPc1 hPf1 hPc2 hPf2;have hPg0:=hP.gcell 0;have hPg1:=hP.gcell 1;have hPg2:=hP.gcell 2;have hQg0:=hQ.gcell 0;have hQg1:=hQ.gcell 1;have hQg2:=hQ.gcell 2;go_wp2_with fail
   refine wp_region_gw (by kernel_rfl) (by kernel_rfl) ?_;repeat (go_big_quiet_step (first | (fail)))
   refine wpQuiet_nil ?_;rintro w5 ⟨xw5,rfl⟩;have hb5:=gw_below xw5;generalize gw xw5=w5 at hb5;go_wp2;go_roundw
   case rel=>exact ⟨k+1,by omega,by go_num,bt hbr hb5⟩
   case measure=>simp [intOf];omega
  ·have hBW2:=bt hBW hbr;clear hBW hbr;obtain ⟨hPc0,hPf0,hPc1,hPf1,hPc2,hPf2⟩:=hP.x3;go_upto_region 8 with fail
   clear hPc0 hPf0 hPc1 hPf1 hPc2 hPf2;go_wp2;clear hlt hk;go_loopw [6] (fun i wr=>∃k:Nat,k≤n2∧i=.int .i64 k∧Below wp.heap.size wp wr) (fun i _=>n2-(intOf i).toNat)
   case atStart=>exact ⟨0,by omega,rfl,Below.refl _ _⟩
   case round =>
    obtain ⟨k2,hk,rfl,hbr⟩:=hrel;obtain ⟨wq,hwq⟩:∃wq,wq=wr:=⟨_,rfl⟩;subst hwq;replace hA:=hA.after hbr;replace hB:=hB.after hbr;replace hP:=hP.after hbr;replace hQ:=hQ.after hbr;by_cases hlt:k2<n2
    ·have hkz:k2<S.vars.length:=by rw [←HN2.out];exact hlt
     obtain ⟨b,o,rfl,hbl,x1⟩:=SsAt.at_ hA.v hkz;obtain ⟨b',o',rfl,hbl',y1⟩:=SsAt.at_ hB.v hkz;generalize (S.vars[k2]'hkz)=z at x1 y1;have h0k:(0:Int)≤(k2:Int):=by omega
     have h1k:(k2:Int)<(n2:Int):=by omega
     have g1:=gcl (a:=⟨b,o+k2,none⟩) hbl x1;have g3:=gcl (a:=⟨b',o'+k2,none⟩) hbl' y1;obtain ⟨hPc0,hPf0,hPc1,hPf1,hPc2,hPf2⟩:=hP.x3;go_upto_region 11 with fail
     clear hPc0 hPf0 hPc1 hPf1 hPc2 hPf2;have hPg0:=hP.gcell 0;have hPg1:=hP.gcell 1;have hPg2:=hP.gcell 2;have hQg0:=hQ.gcell 0;have hQg1:=hQ.gcell 1;have hQg2:=hQ.gcell 2;go_wp2_with fail
     refine wp_region_gw (by kernel_rfl) (by kernel_rfl) ?_;repeat (go_big_quiet_step (first | (fail)))
     refine wpQuiet_nil ?_;rintro w5 ⟨xw5,rfl⟩;have hb5:=gw_below xw5;generalize gw xw5=w5 at hb5;go_wp2;go_roundw
     case rel=>exact ⟨k2+1,by omega,by go_num,bt hbr hb5⟩
     case measure=>simp [intOf];omega
    ·have hBW3:=bt hBW2 hbr;clear hBW2 hbr;obtain ⟨hPc0,hPf0,hPc1,hPf1,hPc2,hPf2⟩:=hP.x3;go_upto_region 13 with fail
     clear hPc0 hPf0 hPc1 hPf1 hPc2 hPf2;go_wp2;clear hlt hk;go_loopw [7] (fun i wr=>∃k:Nat,k≤n3∧i=.int .i64 k∧Below wq.heap.size wq wr) (fun i _=>n3-(intOf i).toNat)
     case atStart=>exact ⟨0,by omega,rfl,Below.refl _ _⟩
     case round =>
      obtain ⟨k3,hk,rfl,hbr⟩:=hrel;obtain ⟨wz,hwz⟩:∃wz,wz=wr:=⟨_,rfl⟩;subst hwz;replace hA:=hA.after hbr;replace hB:=hB.after hbr;replace hP:=hP.after hbr;replace hQ:=hQ.after hbr;by_cases hlt:k3<n3
      ·have hkz:k3<S.eqs.length:=by rw [←HN3.out];exact hlt
       have HTL:Hid ((S.eqs[k3]'hkz).trms.length≤1000):=HT.out _ (List.getElem_mem hkz);obtain ⟨b,o,tv,rfl,hbl,x1,x2,x3,hT1⟩:=EsAt.at_ hA.e hkz;obtain ⟨b',o',tv',rfl,hbl',y1,y2,y3,hT2⟩:=EsAt.at_ hB.e hkz;generalize (S.eqs[k3]'hkz)=z at x1 x2 x3 y1 y2 y3 hT1 hT2 HTL;obtain ⟨z1,z2,L⟩:=z;obtain ⟨at1,ct1,rfl⟩:=RAt.form hT1;obtain ⟨at2,ct2,rfl⟩:=RAt.form hT2;obtain ⟨m,hm⟩:∃m,m=L.length:=⟨_,rfl⟩;have HM:=Lib.hid hm;replace HTL:Hid (m≤1000):=by rw [Hid,hm];exact HTL.out
       replace hT1:TsAt wz (.slice at1 L.length ct1) L:=hT1;replace hT2:TsAt wz (.slice at2 L.length ct2) L:=hT2;replace x1:wz.cell? ⟨b,o+k3*3,none⟩=some (.int .i64 z1):=x1;replace x2:wz.cell? ⟨b,o+k3*3+1,none⟩=some (.string z2):=x2;replace x3:wz.cell? ⟨b,o+k3*3+2,none⟩=some (.slice at1 L.length ct1):=x3;replace y1:wz.cell? ⟨b',o'+k3*3,none⟩=some (.int .i64 z1):=y1;replace y2:wz.cell? ⟨b',o'+k3*3+1,none⟩=some (.string z2):=y2;replace y3:wz.cell? ⟨b',o'+k3*3+2,none⟩=some (.slice at2 L.length ct2):=y3;rw [←hm] at hT1 hT2 x3 y3;clear hm;have hm1:=HTL.out;have hy1:((m:Int) != (m:Int))=false:=by simp
       have h0k:(0:Int)≤(k3:Int):=by omega
       have h1k:(k3:Int)<(n3:Int):=by omega
       have hPl:=hP.lt;have hQl:=hQ.lt;obtain ⟨hPc0,hPf0,hPc1,hPf1,hPc2,hPf2⟩:=hP.x3;obtain ⟨hQc0,hQf0,hQc1,hQf1,hQc2,hQf2⟩:=hQ.x3;go_upto_region 16 with fail
       go_cut [8,9] (fun s8 s9 wy=>∃g1 g2,s8=.pointer (some ⟨g1,0,none⟩)∧s9=.pointer (some ⟨g2,0,none⟩)∧Blk wy g1 115 [.int .i64 z1,.string z2,.slice at1 m ct1]∧Blk wy g2 115 [.int .i64 z1,.string z2,.slice at2 m ct2]∧Below wz.heap.size wz wy)
       case first =>
        go_region
        all_goals
         go_wp2_with fail
         go_meet
         first
          | exact ⟨_,_,rfl,rfl,(blk2a wz #[.int .i64 z1,.string z2,.slice at1 m ct1] #[.int .i64 z1,.string z2,.slice at2 m ct2] 115 115).drew,(blk2b wz #[.int .i64 z1,.string z2,.slice at1 m ct1] #[.int .i64 z1,.string z2,.slice at2 m ct2] 115 115).drew,(Go.Proofs.YtfgandecbkbleaaGreatDoor.b2 wz _ _).drew⟩
          | exact ⟨_,_,rfl,rfl,(blk2b wz #[.int .i64 z1,.string z2,.slice at2 m ct2] #[.int .i64 z1,.string z2,.slice at1 m ct1] 115 115).drew,(blk2a wz #[.int .i64 z1,.string z2,.slice at2 m ct2] #[.int .i64 z1,.string z2,.slice at1 m ct1] 115 115).drew,(Go.Proofs.YtfgandecbkbleaaGreatDoor.b2 wz _ _).drew⟩
       case rest =>
        obtain ⟨g1,g2,rfl,rfl,hX,hY,hbc⟩:=hcut;obtain ⟨wy,hwy⟩:∃wy,wy=wc:=⟨_,rfl⟩;subst hwy;replace hT1:=TsAt.after hT1 hbc;replace hT2:=TsAt.after hT2 hbc;have hbr2:=bt hbr hbc;clear hbl hbl' x1 x2 x3 y1 y2 y3 hbr hbc hPl hQl;clear hPc0 hPf0 hPc1 hPf1 hPc2 hPf2;clear hQc0 hQf0 hQc1 hQf1 hQc2 hQf2;obtain ⟨hXc0,hXf0,hXc1,hXf1,hXc2,hXf2⟩:=hX.x3;obtain ⟨hYc0,hYf0,hYc1,hYf1,hYc2,hYf2⟩:=hY.x3;go_upto_region 19 with fail
        clear hXc0 hXf0 hXc1 hXf1 hXc2 hXf2;clear hYc0 hYf0 hYc1 hYf1 hYc2 hYf2;go_wp2;go_loopw [10] (fun i wr=>∃k:Nat,k≤m∧i=.int .i64 k∧Below wy.heap.size wy wr) (fun i _=>m-(intOf i).toNat)
        case atStart=>exact ⟨0,by omega,rfl,Below.refl _ _⟩
        case round =>
         obtain ⟨k4,hk4,rfl,hbr⟩:=hrel;obtain ⟨wv,hwv⟩:∃wv,wv=wr:=⟨_,rfl⟩;subst hwv;replace hT1:=TsAt.after hT1 hbr;replace hT2:=TsAt.after hT2 hbr;replace hX:=hX.after hbr;replace hY:=hY.after hbr;by_cases hlt4:k4<m
         ·have hkz:k4<L.length:=by rw [←HM.out];exact hlt4
          obtain ⟨b,o,rfl,hbl,x1,x2,x3,x4⟩:=TsAt.at_ hT1 hkz;obtain ⟨b',o',rfl,hbl',y1,y2,y3,y4⟩:=TsAt.at_ hT2 hkz;generalize (L[k4]'hkz)=z at x1 x2 x3 x4 y1 y2 y3 y4;have h0k:(0:Int)≤(k4:Int):=by omega
          have h1k:(k4:Int)<(m:Int):=by omega
          have g11:=gcl (a:=⟨b,o+k4*4,none⟩) hbl x1;have g12:=gcl (a:=⟨b,o+k4*4+1,none⟩) hbl x2;have g13:=gcl (a:=⟨b,o+k4*4+2,none⟩) hbl x3;have g14:=gcl (a:=⟨b,o+k4*4+3,none⟩) hbl x4;have g21:=gcl (a:=⟨b',o'+k4*4,none⟩) hbl' y1;have g22:=gcl (a:=⟨b',o'+k4*4+1,none⟩) hbl' y2;have g23:=gcl (a:=⟨b',o'+k4*4+2,none⟩) hbl' y3;have g24:=gcl (a:=⟨b',o'+k4*4+3,none⟩) hbl' y4;obtain ⟨hXc0,hXf0,hXc1,hXf1,hXc2,hXf2⟩:=hX.x3;go_upto_region 22 with fail
          clear hXc0 hXf0 hXc1 hXf1 hXc2 hXf2;have hXg0:=hX.gcell 0;have hXg1:=hX.gcell 1;have hXg2:=hX.gcell 2;have hYg0:=hY.gcell 0;have hYg1:=hY.gcell 1;have hYg2:=hY.gcell 2;go_wp2_with fail
          refine wp_region_gw (by kernel_rfl) (by kernel_rfl) ?_;repeat (go_big_quiet_step (first | (fail)))
          refine wpQuiet_nil ?_;rintro w5 ⟨xw5,rfl⟩;have hb5:=gw_below xw5;generalize gw xw5=w5 at hb5;go_wp2;go_roundw
          case rel=>exact ⟨k4+1,by omega,by go_num,bt hbr hb5⟩
          case measure=>simp [intOf];omega
         ·
          have hbr4:=bt hbr2 hbr;obtain ⟨hXc0,hXf0,hXc1,hXf1,hXc2,hXf2⟩:=hX.x3;go_wp2;go_roundw
          case rel=>exact ⟨k3+1,by omega,by go_num,hbr4⟩
          case measure=>simp [intOf];omega
      ·
       obtain ⟨hPc0,hPf0,hPc1,hPf1,hPc2,hPf2⟩:=hP.x3;go_wp2;go_ret
       exact ⟨rfl,bt hBW3 hbr⟩
end
section
open Go.RowKit Go.Shelf
theorem ofw_inv {P:List Opn} (h:ofw P=true):P.length≤6∧∀o∈P,o.va.size≤12∧o.ra.size≤12:=by
 simp only [ofw,szO,Bool.and_eq_true,List.all_eq_true,decide_eq_true_eq] at h;exact ⟨h.2,h.1⟩
theorem kfw_inv {a b c d:ByteArray} (h:kfw a b c d=true):a.size≤8∧b.size≤8∧c.size≤12∧d.size≤12:=by
 simp only [kfw,Bool.and_eq_true,decide_eq_true_eq] at h;exact ⟨h.1.1.1,h.1.1.2,h.1.2,h.2⟩
theorem witR_len (a b c d:ByteArray) (vn:Bool) (va:ByteArray) (rn:Bool) (ra:ByteArray) (P:List Opn) (hP:P.length≤6):(witR a b c d vn va rn ra P).2.length≤1000:=by
 unfold witR;split
 ·simp
 ·split
  ·simp
  ·have:(oZ P).length=P.length*2:=by
    clear hP;rename_i h1 h2;clear h1 h2;unfold oZ;induction P with
    | nil=>rfl
    | cons x t ih=>rw [List.flatMap_cons,List.length_append,ih,List.length_cons];simp;omega
   simp only [List.length_append,List.length_cons,List.length_nil,this];omega
theorem wi_walk (a b c d:ByteArray) (lo:Int) (vn:Bool) (va:ByteArray) (rn:Bool) (ra vl rd:ByteArray) (po:Option Addr) (np pc:Nat) (w:World) (ob:Bool) (G:Prop)
  (hs:∀w':World,Calls Tryz.prog 8 #[.agg #[.string a,.string b,.string c,.string d,.int .i64 lo,.bool vn,.string va,.bool rn,.string ra,.string vl,.string rd]] w' fun e w2=>GateP G w' w2 e)
  (ho:∀w',Below w.heap.size w w'→Calls Tryz.prog 9 #[.slice po np pc] w' fun e w2=>e=.returned (.bool ob)∧Below w'.heap.size w' w2)
  (hg:G→ob=true→∃(k:Nat) (Z:List Int),Z.length≤1000∧∀w',Below w.heap.size w w' →
   Calls Tryz.prog 11 #[.agg #[.string a,.string b,.string c,.string d],.int .i64 lo,.agg #[.bool vn,.string va,.bool rn,.string ra],.slice po np pc] w' (WtPost w' (k,Z)) ∧
   Calls Tryz.prog 12 #[.agg #[.string a,.string b,.string c,.string d],.int .i64 lo,.agg #[.bool vn,.string va,.bool rn,.string ra],.slice po np pc] w' (WtPost w' (k,Z))) :
  Calls Tryz.prog 3 #[.agg #[.string a,.string b,.string c,.string d,.int .i64 lo,.bool vn,.string va,.bool rn,.string ra,.string vl,.string rd],.slice po np pc] w fun e w'=>e=.returned (.bool true)∧Below w.heap.size w w':=by
 have HS:=Lib.hid hs;have HO:=Lib.hid ho;have HG:=Lib.hid hg;have HW:=Lib.hid (fun w=>awake27_c w);clear hs ho hg;have hB:=Blk.new w #[.string a,.string b,.string c,.string d,.int .i64 lo,.bool vn,.string va,.bool rn,.string ra,.string vl,.string rd] 32;have hBW:=b1 w (.cells #[.string a,.string b,.string c,.string d,.int .i64 lo,.bool vn,.string va,.bool rn,.string ra,.string vl,.string rd] 32);obtain ⟨hBc0,hBf0,hBc1,hBf1,hBc2,hBf2,hBc3,hBf3,hBc4,hBf4,hBc5,hBf5,hBc6,hBf6,hBc7,hBf7,hBc8,hBf8,hBc9,hBf9,hBc10,hBf10⟩:=hB.x11;go_enter Tryz.func3,Tryz.ntmps3
 go_wp2_with fail
 refine (HS.out _).mono ?_;rintro e w1 ⟨r,rfl,hr,hb1⟩;have HR:=Lib.hid hr;clear hr;clear hBc0 hBf0 hBc1 hBf1 hBc2 hBf2 hBc3 hBf3 hBc4 hBf4 hBc5 hBf5 hBc6 hBf6 hBc7 hBf7 hBc8 hBf8 hBc9 hBf9 hBc10 hBf10;replace hB:=hB.after hb1;replace hBW:=bt hBW hb1;obtain ⟨hBc0,hBf0,hBc1,hBf1,hBc2,hBf2,hBc3,hBf3,hBc4,hBf4,hBc5,hBf5,hBc6,hBf6,hBc7,hBf7,hBc8,hBf8,hBc9,hBf9,hBc10,hBf10⟩:=hB.x11;cases r
 ·
  go_wp2_with fail
  refine (HW.out _).mono ?_;rintro e w2 ⟨rfl,hb2⟩;go_wp2;go_ret
  exact ⟨rfl,bt hBW hb2⟩
 go_wp2_with fail
 refine (HO.out _ hBW).mono ?_;rintro e w2 ⟨rfl,hb2⟩;clear hBc0 hBf0 hBc1 hBf1 hBc2 hBf2 hBc3 hBf3 hBc4 hBf4 hBc5 hBf5 hBc6 hBf6 hBc7 hBf7 hBc8 hBf8 hBc9 hBf9 hBc10 hBf10;replace hB:=hB.after hb2;replace hBW:=bt hBW hb2;obtain ⟨hBc0,hBf0,hBc1,hBf1,hBc2,hBf2,hBc3,hBf3,hBc4,hBf4,hBc5,hBf5,hBc6,hBf6,hBc7,hBf7,hBc8,hBf8,hBc9,hBf9,hBc10,hBf10⟩:=hB.x11;cases ob
 ·
  go_wp2_with fail
  refine (HW.out _).mono ?_;rintro e w3 ⟨rfl,hb3⟩;go_wp2;go_ret
  exact ⟨rfl,bt hBW hb3⟩
 obtain ⟨k,Z,hZ,hgo⟩:=HG.out (HR.out (by trivial)) (by trivial);have HX:=Lib.hid hgo;have HZ:=Lib.hid hZ;clear hgo hZ HG HR;go_wp2_with fail
 refine (HX.out _ hBW).1.mono ?_;rintro e w3 ⟨v1,rfl,hz1,hb3⟩;clear hBc0 hBf0 hBc1 hBf1 hBc2 hBf2 hBc3 hBf3 hBc4 hBf4 hBc5 hBf5 hBc6 hBf6 hBc7 hBf7 hBc8 hBf8 hBc9 hBf9 hBc10 hBf10;replace hB:=hB.after hb3;replace hBW:=bt hBW hb3;obtain ⟨hBc0,hBf0,hBc1,hBf1,hBc2,hBf2,hBc3,hBf3,hBc4,hBf4,hBc5,hBf5,hBc6,hBf6,hBc7,hBf7,hBc8,hBf8,hBc9,hBf9,hBc10,hBf10⟩:=hB.x11;go_wp2_with fail
 refine (HX.out _ hBW).2.mono ?_;rintro e w4 ⟨v2,rfl,hz2,hb4⟩;replace hz1:=ZsAt.after hz1 hb4;replace hBW:=bt hBW hb4;clear hBc0 hBf0 hBc1 hBf1 hBc2 hBf2 hBc3 hBf3 hBc4 hBf4 hBc5 hBf5 hBc6 hBf6 hBc7 hBf7 hBc8 hBf8 hBc9 hBf9 hBc10 hBf10;clear hB;go_wp2_with fail
 refine (HW.out _).mono ?_;rintro e w5 ⟨rfl,hb5⟩;replace hz1:=ZsAt.after hz1 hb5;replace hz2:=ZsAt.after hz2 hb5;replace hBW:=bt hBW hb5;go_wp2_with fail
 refine (sameInts_c Z v1 v2 _ HZ.out hz1 hz2).mono ?_;rintro e w6 ⟨rfl,hb6⟩;have hk:((k:Int)==(k:Int))=true:=by rw [beq_iff_eq]
 go_wp2;go_ret
 exact ⟨rfl,bt hBW hb6⟩
theorem wi27_c (a b c d:ByteArray) (lo:Int) (vn:Bool) (va:ByteArray) (rn:Bool) (ra vl rd:ByteArray) (P:List Opn) (po:Option Addr) (np pc:Nat) (w:World)
  (hva:va.size≤9223372036854775807) (hra:ra.size≤9223372036854775807) (hPl:P.length≤9223372036854775807) (hPs:∀x∈P,x.va.size≤9223372036854775807∧x.ra.size≤9223372036854775807) (hO:OsAt w (.slice po np pc) P) :
  Calls Tryz.prog 3 #[.agg #[.string a,.string b,.string c,.string d,.int .i64 lo,.bool vn,.string va,.bool rn,.string ra,.string vl,.string rd],.slice po np pc] w fun e w'=>e=.returned (.bool true)∧Below w.heap.size w w':=by
 refine wi_walk a b c d lo vn va rn ra vl rd po np pc w (ofw P) (gate27 a b c d lo va ra vl rd) (fun w'=>l27small_c a b c d lo vn va rn ra vl rd w' hva hra) (fun w' hb=>l27openings_c P _ w' hPl hPs (hO.after hb)) (fun hg ho=>?_);obtain ⟨hk,h1,h2,_⟩:=hg;obtain ⟨k1,k2,k3,k4⟩:=kfw_inv hk;obtain ⟨p1,p2⟩:=ofw_inv ho;refine ⟨(witR a b c d vn va rn ra P).1,(witR a b c d vn va rn ra P).2,witR_len a b c d vn va rn ra P p1,fun w' hb=>⟨?_,?_⟩⟩
 ·exact sqwit_c a b c d lo vn va rn ra P _ w' k1 (by omega) (by omega) (by omega) h1 h2 p1 p2 (hO.after hb)
 ·exact rwit_c a b c d lo vn va rn ra P _ w' k1 (by omega) (by omega) (by omega) h1 h2 p1 p2 (hO.after hb)
end
end Go.Proofs.YtfgandecbkbleaaGreatDoor
