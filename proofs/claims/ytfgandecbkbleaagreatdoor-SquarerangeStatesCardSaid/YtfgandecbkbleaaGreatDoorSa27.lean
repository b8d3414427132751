/- SquarerangeStates: the law. -/
import Derived.Test.YtfgandecbkbleaaGreatDoorSq27
import Derived.Test.YtfgandecbkbleaaGreatDoorRq27
import Derived.Test.YtfgandecbkbleaaGreatDoorWi27
set_option linter.unusedVariables false
set_option linter.unusedSimpArgs false
set_option maxRecDepth 100000
set_option maxHeartbeats 16000000
namespace Go.Proofs.YtfgandecbkbleaaGreatDoor
open Go.RowKit Go.Shelf
def shortN (N:NSta):Prop:=N.s.grps.length≤1000∧N.s.vars.length≤1000∧N.s.eqs.length≤1000∧∀q∈N.s.eqs,q.trms.length≤1000
theorem shortN_nil:shortN nilN:=⟨by decide,by decide,by decide,fun q hq=>by cases hq⟩
theorem shortN_stN (p g h:Nat) (lo:Int) (c:Nat) (P:List Nat) (vb rb:Nat):shortN (stN p g h lo c P vb rb):=by
 refine ⟨(by decide:1≤1000),(by decide:9≤1000),(by decide:5≤1000),fun q hq=>?_⟩;have hq:q∈(stQ g h P 4++[stL h (shiftN p c g (-lo)) P]).map NEqn.q:=hq;obtain ⟨y,hy,rfl⟩:=List.mem_map.1 hq;rcases List.mem_append.1 hy with hy | hy
 ·unfold stQ at hy;obtain ⟨j,_,rfl⟩:=List.mem_map.1 hy;exact (by decide:2≤1000)
 ·rw [List.mem_singleton.1 hy];exact (by decide:5≤1000)
theorem shortN_stR (a b c d:ByteArray) (lo:Int) (cc:ByteArray) (P:List ByteArray) (vl rd:ByteArray):shortN (stR a b c d lo cc P vl rd).2:=by
 unfold stR;split;exact shortN_nil
 split;exact shortN_nil
 split;exact shortN_nil
 split;exact shortN_nil
 exact shortN_stN ..
theorem NAt.sl {w:World} {v1 v2 v3:Value} {N:NSta} (h:NAt w v1 v2 v3 N):(∃a n c,v1=.slice a n c)∧(∃a n c,v2=.slice a n c)∧∃a n c,v3=.slice a n c:=by
 obtain ⟨a1,c1,a2,c2,a3,c3,rfl,rfl,rfl⟩:=h.forms;exact ⟨⟨_,_,_,rfl⟩,⟨_,_,_,rfl⟩,⟨_,_,_,rfl⟩⟩
theorem sa_walk (a b c d:ByteArray) (lo:Int) (vn:Bool) (va:ByteArray) (rn:Bool) (ra vl rd cc:ByteArray) (P:List ByteArray) (po:Option Addr) (np pc:Nat) (w:World) (G:Prop) (hnp:np=P.length) (hV:SsAt w (.slice po np pc) P)
  (hs:∀w':World,Calls Tryz.prog 8 #[.agg #[.string a,.string b,.string c,.string d,.int .i64 lo,.bool vn,.string va,.bool rn,.string ra,.string vl,.string rd]] w' fun e w2=>GateP G w' w2 e)
  (hg:G→cc.size≤12→np≤8→(∀x∈P,x.size≤12)→∃(k:Nat) (N:NSta),shortN N∧∀w',Below w.heap.size w w' →
   Calls Tryz.prog 20 #[.agg #[.string a,.string b,.string c,.string d],.int .i64 lo,.string cc,.slice po np pc,.string vl,.string rd] w' (StPost w' (k,N)) ∧
   Calls Tryz.prog 21 #[.agg #[.string a,.string b,.string c,.string d],.int .i64 lo,.string cc,.slice po np pc,.string vl,.string rd] w' (StPost w' (k,N))) :
  Calls Tryz.prog 5 #[.agg #[.string a,.string b,.string c,.string d,.int .i64 lo,.bool vn,.string va,.bool rn,.string ra,.string vl,.string rd],.string cc,.slice po np pc] w fun e w'=>e=.returned (.bool true)∧Below w.heap.size w w':=by
 have HS:=Lib.hid hs;have HG:=Lib.hid hg;have HNP:=Lib.hid hnp;have HW:=Lib.hid (fun w=>awake27_c w);clear hs hg hnp;have hB:=Blk.new w #[.string a,.string b,.string c,.string d,.int .i64 lo,.bool vn,.string va,.bool rn,.string ra,.string vl,.string rd] 32;have hBW:=b1 w (.cells #[.string a,.string b,.string c,.string d,.int .i64 lo,.bool vn,.string va,.bool rn,.string ra,.string vl,.string rd] 32);obtain ⟨t1,ht1⟩:∃t:Bool,t=decide ((12:Int)<(cc.size:Int)):=⟨_,rfl⟩;obtain ⟨t2,ht2⟩:∃t:Bool,t=decide ((8:Int)<(np:Int)):=⟨_,rfl⟩;have HC1:Hid (t1=false→cc.size≤12):=fun h=>by rw [h] at ht1;have:=of_decide_eq_false ht1.symm;omega
 have HC2:Hid (t2=false→np≤8):=fun h=>by rw [h] at ht2;have:=of_decide_eq_false ht2.symm;omega
 have ht1':=ht1.symm;have ht2':=ht2.symm;clear ht1 ht2;obtain ⟨hBc0,hBf0,hBc1,hBf1,hBc2,hBf2,hBc3,hBf3,hBc4,hBf4,hBc5,hBf5,hBc6,hBf6,hBc7,hBf7,hBc8,hBf8,hBc9,hBf9,hBc10,hBf10⟩:=hB.x11;go_enter Tryz.func5,Tryz.ntmps5
 go_wp2_with fail
 refine (HS.out _).mono ?_;rintro e w1 ⟨r,rfl,hr,hb1⟩;have HR:=Lib.hid hr;clear hr;clear hBc0 hBf0 hBc1 hBf1 hBc2 hBf2 hBc3 hBf3 hBc4 hBf4 hBc5 hBf5 hBc6 hBf6 hBc7 hBf7 hBc8 hBf8 hBc9 hBf9 hBc10 hBf10;replace hB:=hB.after hb1;replace hBW:=bt hBW hb1;cases r
 case false =>
  obtain ⟨hBc0,hBf0,hBc1,hBf1,hBc2,hBf2,hBc3,hBf3,hBc4,hBf4,hBc5,hBf5,hBc6,hBf6,hBc7,hBf7,hBc8,hBf8,hBc9,hBf9,hBc10,hBf10⟩:=hB.x11;go_wp2_with fail
  refine (HW.out _).mono ?_;rintro e w2 ⟨rfl,hb2⟩;go_wp2;go_ret
  exact ⟨rfl,bt hBW hb2⟩
 case true =>
  cases t1
  case true =>
   obtain ⟨hBc0,hBf0,hBc1,hBf1,hBc2,hBf2,hBc3,hBf3,hBc4,hBf4,hBc5,hBf5,hBc6,hBf6,hBc7,hBf7,hBc8,hBf8,hBc9,hBf9,hBc10,hBf10⟩:=hB.x11;go_wp2_with fail
   refine (HW.out _).mono ?_;rintro e w2 ⟨rfl,hb2⟩;go_wp2;go_ret
   exact ⟨rfl,bt hBW hb2⟩
  case false =>
   cases t2
   case true =>
    obtain ⟨hBc0,hBf0,hBc1,hBf1,hBc2,hBf2,hBc3,hBf3,hBc4,hBf4,hBc5,hBf5,hBc6,hBf6,hBc7,hBf7,hBc8,hBf8,hBc9,hBf9,hBc10,hBf10⟩:=hB.x11;go_wp2_with fail
    refine (HW.out _).mono ?_;rintro e w2 ⟨rfl,hb2⟩;go_wp2;go_ret
    exact ⟨rfl,bt hBW hb2⟩
   case false =>
    have hg1:=HG.out (HR.out rfl) (HC1.out rfl) (HC2.out rfl);have HGP:=Lib.hid hg1;have hn8:np≤8:=HC2.out rfl;clear HG HR HC1 HC2 hg1;go_upto_region 3 with fail
    obtain ⟨wx,hwx⟩:∃wx,wx=w1:=⟨_,rfl⟩;subst hwx;replace hV:=SsAt.after hV hBW;go_wp2;go_loopw [7] (fun i wr=>∃k:Nat,k≤np∧i=.int .i64 k∧Hid (∀x∈P.take k,x.size≤12)∧wr=wx) (fun i _=>np-(intOf i).toNat)
    case atStart=>exact ⟨0,by omega,rfl,(by intro x hx;simp at hx),rfl⟩
    case round =>
     obtain ⟨k,hk,rfl,HJ,rfl⟩:=hrel;by_cases hlt:k<np
     ·have hkl:k<P.length:=by rw [←HNP.out];exact hlt
      obtain ⟨bo,oo,rfl,hbo,x1⟩:=SsAt.at_ hV hkl;have HT:Hid (P.take (k+1)=P.take k++[P[k]'hkl]):=take_snoc P k hkl;generalize (P[k]'hkl)=o at x1 HT;have h0k:(0:Int)≤(k:Int):=by omega
      have h1k:(k:Int)<(np:Int):=by omega
      obtain ⟨t3,ht3⟩:∃t:Bool,t=decide ((12:Int)<(o.size:Int)):=⟨_,rfl⟩;have HO:Hid (t3=false→o.size≤12):=fun h=>by rw [h] at ht3;have:=of_decide_eq_false ht3.symm;omega
      have ht3':=ht3.symm;clear ht3;cases t3
      case true =>
       go_wp2_with fail
       refine (HW.out _).mono ?_;rintro e w2 ⟨rfl,hb2⟩;go_wp2;go_ret
       exact ⟨rfl,bt hBW hb2⟩
      case false =>
       have HX:Hid (∀x∈P.take (k+1),x.size≤12):=fun x hx=>by
        rw [HT.out] at hx;rcases List.mem_append.1 hx with hx | hx
        ·exact HJ.out x hx
        ·rw [List.mem_singleton.1 hx];exact HO.out rfl
       go_wp2;go_roundw
       case rel=>exact ⟨k+1,by omega,by go_num,HX,by trivial⟩
       case measure=>simp [intOf];omega
     ·obtain rfl:np=k:=by omega
      have HAL:Hid (∀x∈P,x.size≤12):=fun x hx=>HJ.out x (by rw [List.take_of_length_le (by rw [←HNP.out];omega)];exact hx)
      obtain ⟨kk,N,hsh,hgo⟩:=HGP.out HAL.out;have HX:=Lib.hid hgo;have HSH:=Lib.hid hsh;clear hgo hsh HGP HAL HJ hlt hk;obtain ⟨hBc0,hBf0,hBc1,hBf1,hBc2,hBf2,hBc3,hBf3,hBc4,hBf4,hBc5,hBf5,hBc6,hBf6,hBc7,hBf7,hBc8,hBf8,hBc9,hBf9,hBc10,hBf10⟩:=hB.x11;go_wp2_with fail
      refine (HX.out _ hBW).1.mono ?_;rintro e w3 ⟨v1,v2,v3,rfl,hN1,hb3⟩;clear hBc0 hBf0 hBc1 hBf1 hBc2 hBf2 hBc3 hBf3 hBc4 hBf4 hBc5 hBf5 hBc6 hBf6 hBc7 hBf7 hBc8 hBf8 hBc9 hBf9 hBc10 hBf10;replace hB:=hB.after hb3;replace hBW:=bt hBW hb3;obtain ⟨⟨a1,m1,c1,rfl⟩,⟨a2,m2,c2,rfl⟩,⟨a3,m3,c3,rfl⟩⟩:=hN1.sl;have hM1:=Blk.new w3 #[.slice a1 m1 c1,.slice a2 m2 c2,.slice a3 m3 c3] 61;have hbM:=b1 w3 (.cells #[.slice a1 m1 c1,.slice a2 m2 c2,.slice a3 m3 c3] 61);replace hN1:=hN1.after hbM;replace hB:=hB.after hbM;replace hBW:=bt hBW hbM;have hbl:=hB.lt;obtain ⟨hBc0,hBf0,hBc1,hBf1,hBc2,hBf2,hBc3,hBf3,hBc4,hBf4,hBc5,hBf5,hBc6,hBf6,hBc7,hBf7,hBc8,hBf8,hBc9,hBf9,hBc10,hBf10⟩:=hB.x11;go_wp2_with fail
      refine (HX.out _ hBW).2.mono ?_;rintro e w4 ⟨u1,u2,u3,rfl,hN2,hb4⟩;clear hBc0 hBf0 hBc1 hBf1 hBc2 hBf2 hBc3 hBf3 hBc4 hBf4 hBc5 hBf5 hBc6 hBf6 hBc7 hBf7 hBc8 hBf8 hBc9 hBf9 hBc10 hBf10;clear hB hbM;replace hN1:=hN1.after hb4;replace hM1:=hM1.after hb4;replace hBW:=bt hBW hb4;obtain ⟨⟨d1,k1,e1,rfl⟩,⟨d2,k2,e2,rfl⟩,⟨d3,k3,e3,rfl⟩⟩:=hN2.sl;have hM2:=Blk.new w4 #[.slice d1 k1 e1,.slice d2 k2 e2,.slice d3 k3 e3] 61;have hbM:=b1 w4 (.cells #[.slice d1 k1 e1,.slice d2 k2 e2,.slice d3 k3 e3] 61);replace hN1:=hN1.after hbM;replace hN2:=hN2.after hbM;replace hM1:=hM1.after hbM;replace hBW:=bt hBW hbM;go_wp2_with fail
      refine (HW.out _).mono ?_;rintro e w5 ⟨rfl,hb5⟩;replace hN1:=hN1.after hb5;replace hN2:=hN2.after hb5;replace hM1:=hM1.after hb5;replace hM2:=hM2.after hb5;replace hBW:=bt hBW hb5;have hl1:=hM1.lt;have hl2:=hM2.lt;obtain ⟨hM1c0,hM1f0,hM1c1,hM1f1,hM1c2,hM1f2⟩:=hM1.x3;obtain ⟨hM2c0,hM2f0,hM2c1,hM2f1,hM2c2,hM2f2⟩:=hM2.x3;go_wp2_with fail
      refine (sameSta_c N.s _ _ _ _ _ _ _ HSH.out.1 HSH.out.2.1 HSH.out.2.2.1 HSH.out.2.2.2 hN1 hN2).mono ?_;rintro e w6 ⟨rfl,hb6⟩;have hk:((kk:Int)==(kk:Int))=true:=by rw [beq_iff_eq]
      go_wp2;go_ret
      exact ⟨rfl,bt hBW hb6⟩
theorem sa27_c (a b c d:ByteArray) (lo:Int) (vn:Bool) (va:ByteArray) (rn:Bool) (ra vl rd cc:ByteArray) (P:List ByteArray) (po:Option Addr) (np pc:Nat) (w:World)
  (hva:va.size≤9223372036854775807) (hra:ra.size≤9223372036854775807) (hO:SsAt w (.slice po np pc) P) :
  Calls Tryz.prog 5 #[.agg #[.string a,.string b,.string c,.string d,.int .i64 lo,.bool vn,.string va,.bool rn,.string ra,.string vl,.string rd],.string cc,.slice po np pc] w fun e w'=>e=.returned (.bool true)∧Below w.heap.size w w':=by
 obtain ⟨a',c',he⟩:=RAt.form hO;injection he with he1 he2 he3
 refine sa_walk a b c d lo vn va rn ra vl rd cc P po np pc w (gate27 a b c d lo va ra vl rd) he2 hO (fun w'=>l27small_c a b c d lo vn va rn ra vl rd w' hva hra) (fun hg h1 h2 h3=>?_);obtain ⟨hk,_,_,h4,h5,h6,h7⟩:=hg;obtain ⟨k1,k2,k3,k4⟩:=kfw_inv hk;rw [he2] at h2
 exact ⟨(stR a b c d lo cc P vl rd).1,(stR a b c d lo cc P vl rd).2,shortN_stR a b c d lo cc P vl rd,fun w' hb =>
  ⟨sqstat_c a b c d lo cc P vl rd _ w' k1 (by omega) (by omega) (by omega) h1 h2 h3 h4 h5 h6 h7 (SsAt.after hO hb),rstat_c a b c d lo cc P vl rd _ w' k1 (by omega) (by omega) (by omega) h1 h2 h3 h4 h5 h6 h7 (SsAt.after hO hb)⟩⟩
end Go.Proofs.YtfgandecbkbleaaGreatDoor
