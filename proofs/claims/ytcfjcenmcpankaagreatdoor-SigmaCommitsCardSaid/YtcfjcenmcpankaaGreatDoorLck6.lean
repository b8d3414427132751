import Derived.Test.YtcfjcenmcpankaaGreatDoorIdx
import Derived.Test.YtcfjcenmcpankaaGreatDoorPow2
import Derived.Test.YtcfjcenmcpankaaGreatDoorRPow1
import Derived.Test.YtcfjcenmcpankaaGreatDoorRInt2
set_option linter.unusedVariables false
set_option linter.unusedSimpArgs false
set_option maxRecDepth 100000
set_option maxHeartbeats 16000000
namespace Go.Proofs.YtcfjcenmcpankaaGreatDoor
section
open Go.RowKit
theorem eqF {a b:Nat} (h:a≠b):((E a).toList != (E b).toList)=true:=by rw [bne,neE h];rfl
theorem eqT {a b:Nat} (h:a=b):((E a).toList != (E b).toList)=false:=by rw [bne,eqE h];rfl
theorem vz_pos {n:Nat} (h:0<n):vz n=false:=by simp [vz];omega
theorem grpE_13 {p q:Nat} (h:grpE p q≠0):grpE p q=13:=by
 unfold grpE at *;split
 ·split
  ·rename_i h1 h2;rw [if_pos h1,if_pos h2] at h;exact absurd rfl h
  ·rfl
 ·split
  ·rename_i h1 h2;rw [if_neg h1,if_pos h2] at h;exact absurd rfl h
  ·rfl
theorem siz1_c (g:Int) (t:ByteArray) (ao:Option Addr) (n c:Nat) (w:World) (hn:n≤64) :
  Calls Tryz.prog 182 #[.agg #[.int .i64 g,.string t,.slice ao n c]] w fun e w'=>e=.returned (.bool false)∧Below w.heap.size w w':=by
 have h:decide ((64:Int)<(n:Int))=false:=decide_eq_false (by omega);go_enter Tryz.func182,Tryz.ntmps182
 go_wp2;go_ret
 exact ⟨rfl,b1 _ _⟩
theorem elt1_c (p q bg x:Nat) (v:Int) (s:Bool) (a:ByteArray) (w:World) (hp:p<256^8) (hq:q<256^128) (hg:grpE p q=0) (hx:x<256^128) (hB:Blk w bg 90 [.string (E p),.string (E q)]) :
  Calls Tryz.prog 184 #[.agg #[.string (E x),.int .i64 v,.bool s,.string a],.pointer (some ⟨bg,0,none⟩)] w fun e w'=>e=.returned (.bool (!hasB p q x))∧Below w.heap.size w w':=by
 have HC:=Lib.hid (fun w=>pHas_c p q x w hp hq hg hx);have hBl:=hB.lt;clear hp hq hg hx;obtain ⟨hBc0,hBf0,hBc1,hBf1⟩:=hB.x2;go_enter Tryz.func184,Tryz.ntmps184
 go_wp2_with fail
 refine (HC.out _).mono ?_;rintro e w1 ⟨rfl,hb1⟩;go_wp2;go_ret
 exact ⟨rfl,bt (b1 _ _) hb1⟩
theorem knv1_c (x:Nat) (w:World):Calls Tryz.prog 186 #[.agg #[.string (E x)]] w fun e w'=>e=.returned (.bool (vz x))∧Below w.heap.size w w':=by
 rcases Nat.eq_zero_or_pos x with rfl | h0
 ·have hz:=zE (n:=0) rfl;go_enter Tryz.func186,Tryz.ntmps186
  go_wp2;go_ret
  exact ⟨rfl,b1 _ _⟩
 ·have hz:=nzE h0;rw [vz_pos h0];clear h0;go_enter Tryz.func186,Tryz.ntmps186
  go_wp2;go_ret
  exact ⟨rfl,b1 _ _⟩
theorem kng1_c (m x n bn:Nat) (w:World) (hB:Blk w bn 22 [.string (E n)]):Calls Tryz.prog 188 #[.agg #[.string (E m),.string (E x)],.pointer (some ⟨bn,0,none⟩)] w fun e w'=>e=.returned (.bool (gq n (m,x)))∧Below w.heap.size w w':=by
 have hBl:=hB.lt;have hr:gq n (m,x)=(x != 0&&x != n):=rfl;rcases Nat.eq_zero_or_pos x with rfl | h0
 ·have hz:=zE (n:=0) rfl;rw [hr];clear hr;obtain ⟨hBc0,hBf0⟩:=hB.x1;go_enter Tryz.func188,Tryz.ntmps188
  go_wp2;go_ret
  exact ⟨rfl,b1 _ _⟩
 ·have hz:=nzE h0;by_cases h:x=n
  ·have h1:=eqT h;have h2:=eqE h;rw [hr,show (x != 0&&x != n)=false by rw [h];simp];clear hr h0 h;obtain ⟨hBc0,hBf0⟩:=hB.x1;go_enter Tryz.func188,Tryz.ntmps188
   go_wp2;go_ret
   exact ⟨rfl,b1 _ _⟩
  ·have h1:=eqF h;have h2:=neE h;rw [hr,show (x != 0&&x != n)=true by simp [h];omega];clear hr h0 h;obtain ⟨hBc0,hBf0⟩:=hB.x1;go_enter Tryz.func188,Tryz.ntmps188
   go_wp2;go_ret
   exact ⟨rfl,b1 _ _⟩
theorem knt1_c (N:NSta) (k bs n c:Nat) (ao:Option Addr) (v1 v3:Value) (b:ByteArray) (s:Bool) (a:ByteArray) (w:World) (hn:n=N.vars.length) (hn2:n≤12) (hk:k<N.vars.length) (hS:NAt w v1 (.slice ao n c) v3 N) (hB:Blk w bs 29 [v1,.slice ao n c,v3]) :
  Calls Tryz.prog 189 #[.agg #[.string b,.int .i64 (k:Int),.bool s,.string a],.pointer (some ⟨bs,0,none⟩)] w fun e w'=>e=.returned (.bool (vz (N.vars[k]'hk)))∧Below w.heap.size w w':=by
 have hBl:=hB.lt;have hkn:k<n:=by omega
 have h0k:(0:Int)≤(k:Int):=by omega
 have h1k:(k:Int)<(n:Int):=by omega
 obtain ⟨b1',o,rfl,hbl,x1⟩:=hS.vat hk;generalize (N.vars[k]'hk)=x at x1;clear hn hk hS;rcases Nat.eq_zero_or_pos x with rfl | h0
 ·have hz:=zE (n:=0) rfl;obtain ⟨hBc0,hBf0,hBc1,hBf1,hBc2,hBf2⟩:=hB.x3;go_enter Tryz.func189,Tryz.ntmps189
  go_wp2;go_ret
  exact ⟨rfl,b1 _ _⟩
 ·have hz:=nzE h0;rw [vz_pos h0];clear h0;obtain ⟨hBc0,hBf0,hBc1,hBf1,hBc2,hBf2⟩:=hB.x3;go_enter Tryz.func189,Tryz.ntmps189
  go_wp2;go_ret
  exact ⟨rfl,b1 _ _⟩
def og (g:Nat × Nat):Bool:=vz g.2
theorem ord_hit (N:NSta) (k:Nat) (h:k<N.grps.length) (ha:(N.grps.take k).all og=true) (h0:N.grps[k].2≠0):N.ord=N.grps[k].2:=by
 have e:N.grps=N.grps.take k++N.grps[k] :: N.grps.drop (k+1):=by
  rw [List.getElem_cons_drop,List.take_append_drop]
 have hf:((N.grps.take k).map (·.2)).find? (· != 0)=none:=by
  rw [List.find?_eq_none];intro x hx;obtain ⟨g,hg,rfl⟩:=List.mem_map.1 hx;have:=List.all_eq_true.1 ha g hg;simpa [og,vz] using this
 unfold NSta.ord
 have h1:N.grps.map (·.2)=(N.grps.take k).map (·.2)++N.grps[k].2 :: (N.grps.drop (k+1)).map (·.2):=by
  conv=>lhs;rw [e]
  rw [List.map_append,List.map_cons]
 rw [h1,List.find?_append,hf,List.find?_cons_of_pos (by simpa using h0)];rfl
theorem ord_none (N:NSta) (ha:N.grps.all og=true):N.ord=0:=by
 unfold NSta.ord
 have hf:(N.grps.map (·.2)).find? (· != 0)=none:=by
  rw [List.find?_eq_none];intro x hx;obtain ⟨g,hg,rfl⟩:=List.mem_map.1 hx;have:=List.all_eq_true.1 ha g hg;simpa [og,vz] using this
 rw [hf];rfl
theorem order_c (N:NSta) (v1 v2 v3:Value) (w:World) (hm:NOk N) (hS:NAt w v1 v2 v3 N) :
  Calls Tryz.prog 166 #[.agg #[v1,v2,v3]] w fun e w'=>e=.returned (.string (E N.ord))∧Below w.heap.size w w':=by
 obtain ⟨a1,c1,a2,c2,a3,c3,rfl,rfl,rfl⟩:=hS.forms;obtain ⟨n1,hn1⟩:∃n,n=N.grps.length:=⟨_,rfl⟩;obtain ⟨n2,hn2⟩:∃n,n=N.vars.length:=⟨_,rfl⟩;obtain ⟨n3,hn3⟩:∃n,n=N.eqs.length:=⟨_,rfl⟩;have HN1:=Lib.hid hn1;have HN2:=Lib.hid hn2;have HN3:=Lib.hid hn3;have l1:n1≤10:=by rw [hn1];exact hm.ng
 have l2:n2≤12:=by rw [hn2];exact hm.nv
 have l3:n3≤12:=by rw [hn3];exact hm.ne
 have HM:=Lib.hid hm;rw [←hn1,←hn2,←hn3] at hS ⊢;clear hm hn1 hn2 hn3;have hP:=Blk.new w #[.slice a1 n1 c1,.slice a2 n2 c2,.slice a3 n3 c3] 29;have hBW:=b1 w (.cells #[.slice a1 n1 c1,.slice a2 n2 c2,.slice a3 n3 c3] 29);replace hS:=hS.after hBW;obtain ⟨hPc0,hPf0,hPc1,hPf1,hPc2,hPf2⟩:=hP.x3;go_enter Tryz.func166,Tryz.ntmps166
 go_wp2;clear hPc0 hPf0 hPc1 hPf1 hPc2 hPf2;generalize w.alloc (.cells #[.slice a1 n1 c1,.slice a2 n2 c2,.slice a3 n3 c3] 29)=w1 at hP hBW hS;replace hP:Blk w1 w.heap.size 29 [.slice a1 n1 c1,.slice a2 n2 c2,.slice a3 n3 c3]:=hP;go_loopw [8] (fun i wr=>∃k:Nat,k≤n1∧i=.int .i64 k∧Hid ((N.grps.take k).all og=true)∧Below w1.heap.size w1 wr) (fun i _=>n1-(intOf i).toNat)
 case atStart=>exact ⟨0,by omega,rfl,rfl,Below.refl _ _⟩
 case round =>
  obtain ⟨k,hk,rfl,HA,hbr⟩:=hrel;obtain ⟨wp,hwp⟩:∃wp,wp=wr:=⟨_,rfl⟩;subst hwp;replace hS:=hS.after hbr;replace hP:=hP.after hbr;replace hBW:=bt hBW hbr;by_cases hlt:k<n1
  ·have hkl:k<N.grps.length:=by rw [←HN1.out];exact hlt
   have HT:=Lib.hid (all_take og N.grps k hkl);have HO:=Lib.hid (ord_hit N k hkl HA.out);have HOG:Hid (og (N.grps[k]'hkl)=vz (N.grps[k]'hkl).2):=rfl;obtain ⟨b,o,rfl,hbl,x1,x2⟩:=hS.gat hkl;generalize og (N.grps[k]'hkl)=ok at HT HOG;generalize (N.grps[k]'hkl).1=s1 at x1;generalize (N.grps[k]'hkl).2=s2 at x2 HO HOG;have h0k:(0:Int)≤(k:Int):=by omega
   have h1k:(k:Int)<(n1:Int):=by omega
   have hPl:=hP.lt;have hB:=Blk.new wp #[.string (E s1),.string (E s2)] 90;rcases Nat.eq_zero_or_pos s2 with rfl | h0
   ·have hz:=zE (n:=0) rfl;have HX:Hid ((N.grps.take (k+1)).all og=true):=by rw [Hid,HT.out,HA.out,HOG.out];rfl
    clear HO;obtain ⟨hPc0,hPf0,hPc1,hPf1,hPc2,hPf2⟩:=hP.x3;obtain ⟨hBc0,hBf0,hBc1,hBf1⟩:=hB.x2;go_wp2;go_roundw
    case rel=>exact ⟨k+1,by omega,by go_num,HX,ba hbr _⟩
    case measure=>simp [intOf];omega
   ·have hz:=nzE h0;have HF:=Lib.hid (HO.out (by omega));clear HO h0;obtain ⟨hPc0,hPf0,hPc1,hPf1,hPc2,hPf2⟩:=hP.x3;obtain ⟨hBc0,hBf0,hBc1,hBf1⟩:=hB.x2;go_wp2;go_ret
    exact ⟨by rw [HF.out];rfl,ba hBW _⟩
  ·have HF:=Lib.hid (ord_none N (all_end og N.grps k (by rw [←HN1.out];omega) HA.out));obtain ⟨hPc0,hPf0,hPc1,hPf1,hPc2,hPf2⟩:=hP.x3;go_wp2;go_ret
   exact ⟨by rw [HF.out];rfl,hBW⟩
theorem sorder_c (N:NSta) (v1 v2 v3:Value) (w:World) (hm:NOk N) (hS:NAt w v1 v2 v3 N) :
  Calls Tryz.prog 95 #[.agg #[v1,v2,v3]] w fun e w'=>e=.returned (.string (E N.ord))∧Below w.heap.size w w':=by
 obtain ⟨a1,c1,a2,c2,a3,c3,rfl,rfl,rfl⟩:=hS.forms;obtain ⟨n1,hn1⟩:∃n,n=N.grps.length:=⟨_,rfl⟩;obtain ⟨n2,hn2⟩:∃n,n=N.vars.length:=⟨_,rfl⟩;obtain ⟨n3,hn3⟩:∃n,n=N.eqs.length:=⟨_,rfl⟩;have HN1:=Lib.hid hn1;have HN2:=Lib.hid hn2;have HN3:=Lib.hid hn3;have l1:n1≤10:=by rw [hn1];exact hm.ng
 have l2:n2≤12:=by rw [hn2];exact hm.nv
 have l3:n3≤12:=by rw [hn3];exact hm.ne
 have HM:=Lib.hid hm;rw [←hn1,←hn2,←hn3] at hS ⊢;clear hm hn1 hn2 hn3;have hP:=Blk.new w #[.slice a1 n1 c1,.slice a2 n2 c2,.slice a3 n3 c3] 29;have hBW:=b1 w (.cells #[.slice a1 n1 c1,.slice a2 n2 c2,.slice a3 n3 c3] 29);replace hS:=hS.after hBW;obtain ⟨hPc0,hPf0,hPc1,hPf1,hPc2,hPf2⟩:=hP.x3;go_enter Tryz.func95,Tryz.ntmps95
 go_wp2;clear hPc0 hPf0 hPc1 hPf1 hPc2 hPf2;generalize w.alloc (.cells #[.slice a1 n1 c1,.slice a2 n2 c2,.slice a3 n3 c3] 29)=w1 at hP hBW hS;replace hP:Blk w1 w.heap.size 29 [.slice a1 n1 c1,.slice a2 n2 c2,.slice a3 n3 c3]:=hP;go_loopw [8] (fun i wr=>∃k:Nat,k≤n1∧i=.int .i64 k∧Hid ((N.grps.take k).all og=true)∧Below w1.heap.size w1 wr) (fun i _=>n1-(intOf i).toNat)
 case atStart=>exact ⟨0,by omega,rfl,rfl,Below.refl _ _⟩
 case round =>
  obtain ⟨k,hk,rfl,HA,hbr⟩:=hrel;obtain ⟨wp,hwp⟩:∃wp,wp=wr:=⟨_,rfl⟩;subst hwp;replace hS:=hS.after hbr;replace hP:=hP.after hbr;replace hBW:=bt hBW hbr;by_cases hlt:k<n1
  ·have hkl:k<N.grps.length:=by rw [←HN1.out];exact hlt
   have HT:=Lib.hid (all_take og N.grps k hkl);have HO:=Lib.hid (ord_hit N k hkl HA.out);have HOG:Hid (og (N.grps[k]'hkl)=vz (N.grps[k]'hkl).2):=rfl;obtain ⟨b,o,rfl,hbl,x1,x2⟩:=hS.gat hkl;generalize og (N.grps[k]'hkl)=ok at HT HOG;generalize (N.grps[k]'hkl).1=s1 at x1;generalize (N.grps[k]'hkl).2=s2 at x2 HO HOG;have h0k:(0:Int)≤(k:Int):=by omega
   have h1k:(k:Int)<(n1:Int):=by omega
   have hPl:=hP.lt;have hB:=Blk.new wp #[.string (E s1),.string (E s2)] 90;rcases Nat.eq_zero_or_pos s2 with rfl | h0
   ·have hz:=zE (n:=0) rfl;have HX:Hid ((N.grps.take (k+1)).all og=true):=by rw [Hid,HT.out,HA.out,HOG.out];rfl
    clear HO;obtain ⟨hPc0,hPf0,hPc1,hPf1,hPc2,hPf2⟩:=hP.x3;obtain ⟨hBc0,hBf0,hBc1,hBf1⟩:=hB.x2;go_wp2;go_roundw
    case rel=>exact ⟨k+1,by omega,by go_num,HX,ba hbr _⟩
    case measure=>simp [intOf];omega
   ·have hz:=nzE h0;have HF:=Lib.hid (HO.out (by omega));clear HO h0;obtain ⟨hPc0,hPf0,hPc1,hPf1,hPc2,hPf2⟩:=hP.x3;obtain ⟨hBc0,hBf0,hBc1,hBf1⟩:=hB.x2;go_wp2;go_ret
    exact ⟨by rw [HF.out];rfl,ba hBW _⟩
  ·have HF:=Lib.hid (ord_none N (all_end og N.grps k (by rw [←HN1.out];omega) HA.out));obtain ⟨hPc0,hPf0,hPc1,hPf1,hPc2,hPf2⟩:=hP.x3;go_wp2;go_ret
   exact ⟨by rw [HF.out];rfl,hBW⟩
theorem rorder15_c (N:NSta) (v1 v2 v3:Value) (w:World) (hm:NOk N) (hS:NAt w v1 v2 v3 N) :
  Calls Tryz.prog 124 #[.agg #[v1,v2,v3]] w fun e w'=>e=.returned (.string (E N.ord))∧Below w.heap.size w w':=by
 obtain ⟨a1,c1,a2,c2,a3,c3,rfl,rfl,rfl⟩:=hS.forms;obtain ⟨n1,hn1⟩:∃n,n=N.grps.length:=⟨_,rfl⟩;obtain ⟨n2,hn2⟩:∃n,n=N.vars.length:=⟨_,rfl⟩;obtain ⟨n3,hn3⟩:∃n,n=N.eqs.length:=⟨_,rfl⟩;have HN1:=Lib.hid hn1;have HN2:=Lib.hid hn2;have HN3:=Lib.hid hn3;have l1:n1≤10:=by rw [hn1];exact hm.ng
 have l2:n2≤12:=by rw [hn2];exact hm.nv
 have l3:n3≤12:=by rw [hn3];exact hm.ne
 have HM:=Lib.hid hm;rw [←hn1,←hn2,←hn3] at hS ⊢;clear hm hn1 hn2 hn3;have hP:=Blk.new w #[.slice a1 n1 c1,.slice a2 n2 c2,.slice a3 n3 c3] 29;have hBW:=b1 w (.cells #[.slice a1 n1 c1,.slice a2 n2 c2,.slice a3 n3 c3] 29);replace hS:=hS.after hBW;obtain ⟨hPc0,hPf0,hPc1,hPf1,hPc2,hPf2⟩:=hP.x3;go_enter Tryz.func124,Tryz.ntmps124
 go_wp2;clear hPc0 hPf0 hPc1 hPf1 hPc2 hPf2;generalize w.alloc (.cells #[.slice a1 n1 c1,.slice a2 n2 c2,.slice a3 n3 c3] 29)=w1 at hP hBW hS;replace hP:Blk w1 w.heap.size 29 [.slice a1 n1 c1,.slice a2 n2 c2,.slice a3 n3 c3]:=hP;go_loopw [3] (fun i wr=>∃k:Nat,k≤n1∧i=.int .i64 k∧Hid ((N.grps.take k).all og=true)∧Below w1.heap.size w1 wr) (fun i _=>n1-(intOf i).toNat)
 case atStart=>exact ⟨0,by omega,rfl,rfl,Below.refl _ _⟩
 case round =>
  obtain ⟨k,hk,rfl,HA,hbr⟩:=hrel;obtain ⟨wp,hwp⟩:∃wp,wp=wr:=⟨_,rfl⟩;subst hwp;replace hS:=hS.after hbr;replace hP:=hP.after hbr;replace hBW:=bt hBW hbr;by_cases hlt:k<n1
  ·have hkl:k<N.grps.length:=by rw [←HN1.out];exact hlt
   have HT:=Lib.hid (all_take og N.grps k hkl);have HO:=Lib.hid (ord_hit N k hkl HA.out);have HOG:Hid (og (N.grps[k]'hkl)=vz (N.grps[k]'hkl).2):=rfl;obtain ⟨b,o,rfl,hbl,x1,x2⟩:=hS.gat hkl;generalize og (N.grps[k]'hkl)=ok at HT HOG;generalize (N.grps[k]'hkl).1=s1 at x1;generalize (N.grps[k]'hkl).2=s2 at x2 HO HOG;have h0k:(0:Int)≤(k:Int):=by omega
   have h1k:(k:Int)<(n1:Int):=by omega
   have hPl:=hP.lt;have hB:=Blk.new wp #[.string (E s1),.string (E s2)] 90;rcases Nat.eq_zero_or_pos s2 with rfl | h0
   ·have hz:=zE (n:=0) rfl;have HX:Hid ((N.grps.take (k+1)).all og=true):=by rw [Hid,HT.out,HA.out,HOG.out];rfl
    clear HO;obtain ⟨hPc0,hPf0,hPc1,hPf1,hPc2,hPf2⟩:=hP.x3;obtain ⟨hBc0,hBf0,hBc1,hBf1⟩:=hB.x2;go_wp2;go_roundw
    case rel=>exact ⟨k+1,by omega,by go_num,HX,hbr⟩
    case measure=>simp [intOf];omega
   ·have hz:=nzE h0;have HF:=Lib.hid (HO.out (by omega));clear HO h0;obtain ⟨hPc0,hPf0,hPc1,hPf1,hPc2,hPf2⟩:=hP.x3;obtain ⟨hBc0,hBf0,hBc1,hBf1⟩:=hB.x2;go_wp2;go_ret
    exact ⟨by rw [HF.out];rfl,hBW⟩
  ·have HF:=Lib.hid (ord_none N (all_end og N.grps k (by rw [←HN1.out];omega) HA.out));obtain ⟨hPc0,hPf0,hPc1,hPf1,hPc2,hPf2⟩:=hP.x3;go_wp2;go_ret
   exact ⟨by rw [HF.out];rfl,hBW⟩
theorem rorder16_c (N:NSta) (v1 v2 v3:Value) (w:World) (hm:NOk N) (hS:NAt w v1 v2 v3 N) :
  Calls Tryz.prog 45 #[.agg #[v1,v2,v3]] w fun e w'=>e=.returned (.string (E N.ord))∧Below w.heap.size w w':=by
 obtain ⟨a1,c1,a2,c2,a3,c3,rfl,rfl,rfl⟩:=hS.forms;obtain ⟨n1,hn1⟩:∃n,n=N.grps.length:=⟨_,rfl⟩;obtain ⟨n2,hn2⟩:∃n,n=N.vars.length:=⟨_,rfl⟩;obtain ⟨n3,hn3⟩:∃n,n=N.eqs.length:=⟨_,rfl⟩;have HN1:=Lib.hid hn1;have HN2:=Lib.hid hn2;have HN3:=Lib.hid hn3;have l1:n1≤10:=by rw [hn1];exact hm.ng
 have l2:n2≤12:=by rw [hn2];exact hm.nv
 have l3:n3≤12:=by rw [hn3];exact hm.ne
 have HM:=Lib.hid hm;rw [←hn1,←hn2,←hn3] at hS ⊢;clear hm hn1 hn2 hn3;have hP:=Blk.new w #[.slice a1 n1 c1,.slice a2 n2 c2,.slice a3 n3 c3] 29;have hBW:=b1 w (.cells #[.slice a1 n1 c1,.slice a2 n2 c2,.slice a3 n3 c3] 29);replace hS:=hS.after hBW;obtain ⟨hPc0,hPf0,hPc1,hPf1,hPc2,hPf2⟩:=hP.x3;go_enter Tryz.func45,Tryz.ntmps45
 go_wp2;clear hPc0 hPf0 hPc1 hPf1 hPc2 hPf2;generalize w.alloc (.cells #[.slice a1 n1 c1,.slice a2 n2 c2,.slice a3 n3 c3] 29)=w1 at hP hBW hS;replace hP:Blk w1 w.heap.size 29 [.slice a1 n1 c1,.slice a2 n2 c2,.slice a3 n3 c3]:=hP;go_loopw [3] (fun i wr=>∃k:Nat,k≤n1∧i=.int .i64 k∧Hid ((N.grps.take k).all og=true)∧Below w1.heap.size w1 wr) (fun i _=>n1-(intOf i).toNat)
 case atStart=>exact ⟨0,by omega,rfl,rfl,Below.refl _ _⟩
 case round =>
  obtain ⟨k,hk,rfl,HA,hbr⟩:=hrel;obtain ⟨wp,hwp⟩:∃wp,wp=wr:=⟨_,rfl⟩;subst hwp;replace hS:=hS.after hbr;replace hP:=hP.after hbr;replace hBW:=bt hBW hbr;by_cases hlt:k<n1
  ·have hkl:k<N.grps.length:=by rw [←HN1.out];exact hlt
   have HT:=Lib.hid (all_take og N.grps k hkl);have HO:=Lib.hid (ord_hit N k hkl HA.out);have HOG:Hid (og (N.grps[k]'hkl)=vz (N.grps[k]'hkl).2):=rfl;obtain ⟨b,o,rfl,hbl,x1,x2⟩:=hS.gat hkl;generalize og (N.grps[k]'hkl)=ok at HT HOG;generalize (N.grps[k]'hkl).1=s1 at x1;generalize (N.grps[k]'hkl).2=s2 at x2 HO HOG;have h0k:(0:Int)≤(k:Int):=by omega
   have h1k:(k:Int)<(n1:Int):=by omega
   have hPl:=hP.lt;have hB:=Blk.new wp #[.string (E s1),.string (E s2)] 90;rcases Nat.eq_zero_or_pos s2 with rfl | h0
   ·have hz:=zE (n:=0) rfl;have HX:Hid ((N.grps.take (k+1)).all og=true):=by rw [Hid,HT.out,HA.out,HOG.out];rfl
    clear HO;obtain ⟨hPc0,hPf0,hPc1,hPf1,hPc2,hPf2⟩:=hP.x3;obtain ⟨hBc0,hBf0,hBc1,hBf1⟩:=hB.x2;go_wp2;go_roundw
    case rel=>exact ⟨k+1,by omega,by go_num,HX,hbr⟩
    case measure=>simp [intOf];omega
   ·have hz:=nzE h0;have HF:=Lib.hid (HO.out (by omega));clear HO h0;obtain ⟨hPc0,hPf0,hPc1,hPf1,hPc2,hPf2⟩:=hP.x3;obtain ⟨hBc0,hBf0,hBc1,hBf1⟩:=hB.x2;go_wp2;go_ret
    exact ⟨by rw [HF.out];rfl,hBW⟩
  ·have HF:=Lib.hid (ord_none N (all_end og N.grps k (by rw [←HN1.out];omega) HA.out));obtain ⟨hPc0,hPf0,hPc1,hPf1,hPc2,hPf2⟩:=hP.x3;go_wp2;go_ret
   exact ⟨by rw [HF.out];rfl,hBW⟩
end
section
open Go.RowKit
theorem any_false {α:Type} (l:List α):l.any (fun _=>false)=false:=by induction l <;> simp_all
theorem sizes_c (N:NSta) (v1 v2 v3:Value) (w:World) (hm:NOk N) (hS:NAt w v1 v2 v3 N) :
  Calls Tryz.prog 143 #[.agg #[v1,v2,v3]] w fun e w'=>e=.returned (.int .i64 (if 8<N.grps.length then 6 else 0))∧Below w.heap.size w w':=by
 obtain ⟨r,hr⟩:∃r:Int,r=if 8<N.grps.length then 6 else 0:=⟨_,rfl⟩
 have HRES:=Lib.hid hr;rw [←hr];clear hr;obtain ⟨a1,c1,a2,c2,a3,c3,rfl,rfl,rfl⟩:=hS.forms;obtain ⟨n1,hn1⟩:∃n,n=N.grps.length:=⟨_,rfl⟩;obtain ⟨n2,hn2⟩:∃n,n=N.vars.length:=⟨_,rfl⟩;obtain ⟨n3,hn3⟩:∃n,n=N.eqs.length:=⟨_,rfl⟩;have HN1:=Lib.hid hn1;have HN2:=Lib.hid hn2;have HN3:=Lib.hid hn3;have l1:n1≤10:=by rw [hn1];exact hm.ng
 have l2:n2≤12:=by rw [hn2];exact hm.nv
 have l3:n3≤12:=by rw [hn3];exact hm.ne
 have HM:=Lib.hid hm;rw [←hn1,←hn2,←hn3] at hS ⊢;clear hm hn1 hn2 hn3;have hP:=Blk.new w #[.slice a1 n1 c1,.slice a2 n2 c2,.slice a3 n3 c3] 29;have hBW:=b1 w (.cells #[.slice a1 n1 c1,.slice a2 n2 c2,.slice a3 n3 c3] 29);replace hS:=hS.after hBW;have e2:decide ((64:Int)<(n2:Int))=false:=decide_eq_false (by omega);have e3:decide ((64:Int)<(n3:Int))=false:=decide_eq_false (by omega);by_cases h8:8<n1
 ·have e1:decide ((8:Int)<(n1:Int))=true:=decide_eq_true (by omega);have HF:Hid (r=6):=by rw [Hid,HRES.out,if_pos (by rw [←HN1.out];exact h8)]
  clear h8;obtain ⟨hPc0,hPf0,hPc1,hPf1,hPc2,hPf2⟩:=hP.x3;go_enter Tryz.func143,Tryz.ntmps143
  go_wp2;go_ret
  exact ⟨by rw [HF.out];rfl,hBW⟩
 ·have e1:decide ((8:Int)<(n1:Int))=false:=decide_eq_false (by omega);have HF:Hid (r=0):=by rw [Hid,HRES.out,if_neg (by rw [←HN1.out];exact h8)]
  have HC:Hid (∀w',Below (w.alloc (.cells #[.slice a1 n1 c1,.slice a2 n2 c2,.slice a3 n3 c3] 29)).heap.size (w.alloc (.cells #[.slice a1 n1 c1,.slice a2 n2 c2,.slice a3 n3 c3] 29)) w'→Calls Tryz.prog 181 #[.slice a3 n3 c3,.func (.func 182) #[] #[]] w' fun e w''=>e=.returned (.bool false)∧Below w'.heap.size w' w''):=by
   intro w' hb';have hS':=(hS.after hb').e;refine cont_siz N.s.eqs (fun _=>false) false _ w' (by simp only [NSta.s,List.length_map];rw [←HN3.out];omega) hS' (any_false _) ?_;intro k hk w2 tv hb2 ht;obtain ⟨to_,tc,rfl⟩:=RAt.form ht;refine siz1_c _ _ _ _ _ _ ?_;have hq:=HM.out.ssm.e _ (List.getElem_mem hk);have hk':k<N.eqs.length:=by simpa [NSta.s] using hk
   have:=(HM.out.e _ (List.getElem_mem hk')).2.2.1;simp only [NSta.s,List.getElem_map,NEqn.q,List.length_map];omega
  clear h8;obtain ⟨hPc0,hPf0,hPc1,hPf1,hPc2,hPf2⟩:=hP.x3;go_enter Tryz.func143,Tryz.ntmps143
  go_wp2_with fail
  refine (HC.out _ (Below.refl _ _)).mono ?_;rintro e w2 ⟨rfl,hb2⟩;go_wp2;go_ret
  exact ⟨by rw [HF.out];rfl,bt hBW hb2⟩
theorem elem_any (g:Nat × Nat) (l:List NTrm):(l.map NTrm.t).any (fun t=>!hasB g.1 g.2 (val t.base.data.toList))=!(l.all (hasQ g)):=by
 rw [List.any_map];induction l with
 | nil=>rfl
 | cons x t ih=>rw [List.any_cons,List.all_cons,ih,Bool.not_and];simp only [Function.comp,NTrm.t,val_E,hasQ]
theorem gp_at (N:NSta) (q:NEqn) (h:q.grp<N.grps.length):N.gp q=N.grps[q.grp]:=by
 unfold NSta.gp;rw [List.getD_eq_getElem?_getD,List.getElem?_eq_getElem h];rfl
theorem elements_c (N:NSta) (v1 v2 v3:Value) (w:World) (hm:NOk N) (hS:NAt w v1 v2 v3 N) :
  Calls Tryz.prog 144 #[.agg #[v1,v2,v3]] w fun e w'=>e=.returned (.int .i64 (if N.elem then 0 else 13))∧Below w.heap.size w w':=by
 obtain ⟨r,hr⟩:∃r:Int,r=if N.elem then 0 else 13:=⟨_,rfl⟩
 have HRES:=Lib.hid hr;rw [←hr];clear hr;obtain ⟨a1,c1,a2,c2,a3,c3,rfl,rfl,rfl⟩:=hS.forms;obtain ⟨n1,hn1⟩:∃n,n=N.grps.length:=⟨_,rfl⟩;obtain ⟨n2,hn2⟩:∃n,n=N.vars.length:=⟨_,rfl⟩;obtain ⟨n3,hn3⟩:∃n,n=N.eqs.length:=⟨_,rfl⟩;have HN1:=Lib.hid hn1;have HN2:=Lib.hid hn2;have HN3:=Lib.hid hn3;have l1:n1≤10:=by rw [hn1];exact hm.ng
 have l2:n2≤12:=by rw [hn2];exact hm.nv
 have l3:n3≤12:=by rw [hn3];exact hm.ne
 have HM:=Lib.hid hm;rw [←hn1,←hn2,←hn3] at hS ⊢;clear hm hn1 hn2 hn3;have hP:=Blk.new w #[.slice a1 n1 c1,.slice a2 n2 c2,.slice a3 n3 c3] 29;have hBW:=b1 w (.cells #[.slice a1 n1 c1,.slice a2 n2 c2,.slice a3 n3 c3] 29);replace hS:=hS.after hBW;obtain ⟨hPc0,hPf0,hPc1,hPf1,hPc2,hPf2⟩:=hP.x3;go_enter Tryz.func144,Tryz.ntmps144
 go_wp2;clear hPc0 hPf0 hPc1 hPf1 hPc2 hPf2;generalize w.alloc (.cells #[.slice a1 n1 c1,.slice a2 n2 c2,.slice a3 n3 c3] 29)=w1 at hP hBW hS;replace hP:Blk w1 w.heap.size 29 [.slice a1 n1 c1,.slice a2 n2 c2,.slice a3 n3 c3]:=hP;go_loopw [11] (fun i wr=>∃k:Nat,k≤n1∧i=.int .i64 k∧Hid ((N.grps.take k).all gr0=true)∧Below w1.heap.size w1 wr) (fun i _=>n1-(intOf i).toNat)
 case atStart=>exact ⟨0,by omega,rfl,rfl,Below.refl _ _⟩
 case round =>
  obtain ⟨k,hk,rfl,HA,hbr⟩:=hrel;obtain ⟨wp,hwp⟩:∃wp,wp=wr:=⟨_,rfl⟩;subst hwp;replace hS:=hS.after hbr;replace hP:=hP.after hbr;replace hBW:=bt hBW hbr;by_cases hlt:k<n1
  ·have hkl:k<N.grps.length:=by rw [←HN1.out];exact hlt
   have HSZ:=Lib.hid (HM.out.g _ (List.getElem_mem hkl));have HT:=Lib.hid (all_take gr0 N.grps k hkl);have HBAD:Hid (gr0 (N.grps[k]'hkl)=false→N.elem=false):=fun h=>by unfold NSta.elem;rw [all_bad gr0 N.grps k hkl h];rfl
   have HOG:Hid (gr0 (N.grps[k]'hkl)=(grpE (N.grps[k]'hkl).1 (N.grps[k]'hkl).2==0)):=rfl;obtain ⟨b,o,rfl,hbl,x1,x2⟩:=hS.gat hkl;generalize gr0 (N.grps[k]'hkl)=ok at HT HOG HBAD;generalize (N.grps[k]'hkl).1=s1 at x1 HSZ HOG;generalize (N.grps[k]'hkl).2=s2 at x2 HSZ HOG;have h0k:(0:Int)≤(k:Int):=by omega
   have h1k:(k:Int)<(n1:Int):=by omega
   have hPl:=hP.lt;have hB:=Blk.new wp #[.string (E s1),.string (E s2)] 90;by_cases hg:grpE s1 s2=0
   ·have HG:=Lib.hid hg;have HX:Hid ((N.grps.take (k+1)).all gr0=true):=by rw [Hid,HT.out,HA.out,HOG.out,hg];rfl
    clear HBAD hg;obtain ⟨hPc0,hPf0,hPc1,hPf1,hPc2,hPf2⟩:=hP.x3;obtain ⟨hBc0,hBf0,hBc1,hBf1⟩:=hB.x2;go_wp2_with fail
    refine (pcheckV_c s1 s2 0 _ HSZ.out.1 (lt128 HSZ.out.2) HG.out).mono ?_;rintro e w2 ⟨rfl,hb2⟩;go_wp2;go_roundw
    case rel=>exact ⟨k+1,by omega,by go_num,HX,bt (ba hbr _) hb2⟩
    case measure=>simp [intOf];omega
   ·have HG:=Lib.hid (grpE_13 hg);have HF:Hid (N.elem=false):=HBAD.out (by rw [HOG.out];simpa using hg);clear HBAD hg;obtain ⟨hPc0,hPf0,hPc1,hPf1,hPc2,hPf2⟩:=hP.x3;obtain ⟨hBc0,hBf0,hBc1,hBf1⟩:=hB.x2;go_wp2_with fail
    refine (pcheckV_c s1 s2 13 _ HSZ.out.1 (lt128 HSZ.out.2) HG.out).mono ?_;rintro e w2 ⟨rfl,hb2⟩;go_wp2;go_ret
    exact ⟨by rw [HRES.out,HF.out];rfl,bt (ba hBW _) hb2⟩
  ·have HG:Hid (N.grps.all gr0=true):=all_end gr0 N.grps k (by rw [←HN1.out];omega) HA.out;clear hbr;obtain ⟨hPc0,hPf0,hPc1,hPf1,hPc2,hPf2⟩:=hP.x3;go_wp2;clear hPc0 hPf0 hPc1 hPf1 hPc2 hPf2;clear HA hlt hk;go_loopw [22] (fun i wr=>∃k:Nat,k≤n3∧i=.int .i64 k∧Hid ((N.eqs.take k).all (elemQ N)=true)∧Below wp.heap.size wp wr) (fun i _=>n3-(intOf i).toNat)
   case atStart=>exact ⟨0,by omega,rfl,rfl,Below.refl _ _⟩
   case round =>
    obtain ⟨k,hk,rfl,HA,hbr⟩:=hrel;obtain ⟨wt,hwp⟩:∃wp,wp=wr:=⟨_,rfl⟩;subst hwp;replace hS:=hS.after hbr;replace hP:=hP.after hbr;replace hBW:=bt hBW hbr;by_cases hlt:k<n3
    ·have hkl:k<N.eqs.length:=by rw [←HN3.out];exact hlt
     have HT:=Lib.hid (all_take (elemQ N) N.eqs k hkl);have HBAD:Hid (elemQ N (N.eqs[k]'hkl)=false→N.elem=false):=fun h=>by unfold NSta.elem;rw [all_bad (elemQ N) N.eqs k hkl h];simp
     have HSZ:=Lib.hid (HM.out.e _ (List.getElem_mem hkl));obtain ⟨b,o,tv,rfl,hbl,x1,x2,x3,hTs⟩:=hS.eat hkl;generalize (N.eqs[k]'hkl)=q at x1 x2 x3 hTs HSZ HT HBAD;have hgl:=HSZ.out.1;have hgn:q.grp<n1:=by rw [HN1.out];exact hgl
     have HGP:=Lib.hid (gp_at N q hgl);have HGO:Hid (gr0 (N.grps[q.grp]'hgl)=true):=List.all_eq_true.1 HG.out _ (List.getElem_mem hgl);have HGZ:=Lib.hid (HM.out.g _ (List.getElem_mem hgl));obtain ⟨b',o',rfl,hbl',y1,y2⟩:=hS.gat hgl;have HG0:Hid (grpE (N.grps[q.grp]'hgl).1 (N.grps[q.grp]'hgl).2=0):=by have:=HGO.out;unfold Hid;simpa [gr0] using this
     have HEQ:Hid (elemQ N q=(hasB (N.grps[q.grp]'hgl).1 (N.grps[q.grp]'hgl).2 q.tgt&&q.trms.all (hasQ (N.grps[q.grp]'hgl)))):=by rw [Hid,elemQ,HGP.out]
     generalize elemQ N q=ek at HT HBAD HEQ;generalize (N.grps[q.grp]'hgl)=gg at y1 y2 HGZ HG0 HEQ;clear hgl HGP HGO;obtain ⟨qg,qt,qs⟩:=q;simp only [] at x1 x2 x3 hTs HSZ HEQ hgn y1 y2;obtain ⟨to_,tc,rfl⟩:=hTs.form;obtain ⟨n4,hn4⟩:∃n,n=qs.length:=⟨_,rfl⟩;have HN4:=Lib.hid hn4;rw [←hn4] at x3 hTs;clear hn4;obtain ⟨p,qq⟩:=gg;simp only [] at y1 y2 HGZ HG0 HEQ;have hB:=Blk.new wt #[.int .i64 (qg:Int),.string (E qt),.slice to_ n4 tc] 84;have hC:=Blk.new (wt.alloc (.cells #[.int .i64 (qg:Int),.string (E qt),.slice to_ n4 tc] 84)) #[.string (E p),.string (E qq)] 90;have h0k:(0:Int)≤(k:Int):=by omega
     have h1k:(k:Int)<(n3:Int):=by omega
     have h0g:(0:Int)≤(qg:Int):=by omega
     have h1g:(qg:Int)<(n1:Int):=by omega
     have hPl:=hP.lt;have hBl:=hB.lt;have hCl:=hC.lt;cases hh:hasB p qq qt
     ·have HF:Hid (N.elem=false):=HBAD.out (by rw [HEQ.out,hh];rfl);have HH:=Lib.hid hh;clear hh;obtain ⟨hPc0,hPf0,hPc1,hPf1,hPc2,hPf2⟩:=hP.x3;go_wp2_with fail
      refine (pHasV_c p qq qt false _ HGZ.out.1 (lt128 HGZ.out.2) HG0.out (Nat.lt_of_lt_of_le HSZ.out.2.1 (by decide)) HH.out).mono ?_;rintro e w2 ⟨rfl,hb2⟩;go_wp2;go_ret
      exact ⟨by rw [HRES.out,HF.out];rfl,bt (ba (ba hBW _) _) hb2⟩
     ·have HH:=Lib.hid hh;have hTs2:=hTs.after (b2 wt (.cells #[.int .i64 (qg:Int),.string (E qt),.slice to_ n4 tc] 84) (.cells #[.string (E p),.string (E qq)] 90));have hC':Blk ((wt.alloc (.cells #[.int .i64 (qg:Int),.string (E qt),.slice to_ n4 tc] 84)).alloc (.cells #[.string (E p),.string (E qq)] 90)) (wt.heap.size+1) 90 [.string (E p),.string (E qq)]:=by simpa using hC
      have HCF:Hid (∀w',Below ((wt.alloc (.cells #[.int .i64 (qg:Int),.string (E qt),.slice to_ n4 tc] 84)).alloc (.cells #[.string (E p),.string (E qq)] 90)).heap.size ((wt.alloc (.cells #[.int .i64 (qg:Int),.string (E qt),.slice to_ n4 tc] 84)).alloc (.cells #[.string (E p),.string (E qq)] 90)) w' →
        Calls Tryz.prog 183 #[.slice to_ n4 tc,.func (.func 184) #[] #[.pointer (some ⟨wt.heap.size+1,0,none⟩)]] w' fun e w''=>e=.returned (.bool (!(qs.all (hasQ (p,qq)))))∧Below w'.heap.size w' w''):=by
       intro w' hb';refine cont_elt (qs.map NTrm.t) (fun t=>!hasB p qq (val t.base.data.toList)) _ _ (wt.heap.size+1) w' (by have:=HSZ.out.2.2.1;simp;omega) (by have:=hTs2.after hb';exact this) (elem_any (p,qq) qs) ?_;intro j hj w3 hb3;have hj':j<qs.length:=by simpa using hj
       have hz:=HSZ.out.2.2.2 _ (List.getElem_mem hj');simp only [List.getElem_map,NTrm.t,val_E];exact elt1_c p qq _ _ _ _ _ w3 HGZ.out.1 (lt128 HGZ.out.2) HG0.out (Nat.lt_of_lt_of_le hz.1 (by decide)) ((hC'.after hb').after hb3)
      clear hC hC' hTs2 hh hTs;have hP2:=(hP.alloc (.cells #[.int .i64 (qg:Int),.string (E qt),.slice to_ n4 tc] 84)).alloc (.cells #[.string (E p),.string (E qq)] 90);have hB2:=hB.alloc (.cells #[.string (E p),.string (E qq)] 90);cases ha:qs.all (hasQ (p,qq))
      ·have HF:Hid (N.elem=false):=HBAD.out (by rw [HEQ.out,ha];simp);rw [ha] at HCF;clear ha;obtain ⟨hPc0,hPf0,hPc1,hPf1,hPc2,hPf2⟩:=hP.x3;go_wp2_with fail
       refine (pHasV_c p qq qt true _ HGZ.out.1 (lt128 HGZ.out.2) HG0.out (Nat.lt_of_lt_of_le HSZ.out.2.1 (by decide)) HH.out).mono ?_;rintro e w2 ⟨rfl,hb2⟩;have hB3:=hB2.after hb2;have hBl3:=hB3.lt;obtain ⟨hB3c0,hB3f0,hB3c1,hB3f1,hB3c2,hB3f2⟩:=hB3.x3;go_wp2_with fail
       refine (HCF.out _ hb2).mono ?_;rintro e w3 ⟨rfl,hb3⟩;go_wp2;go_ret
       exact ⟨by rw [HRES.out,HF.out];rfl,bt (bt (ba (ba hBW _) _) hb2) hb3⟩
      ·have HX:Hid ((N.eqs.take (k+1)).all (elemQ N)=true):=by rw [Hid,HT.out,HA.out,HEQ.out,HH.out,ha];rfl
       rw [ha] at HCF;clear ha;obtain ⟨hPc0,hPf0,hPc1,hPf1,hPc2,hPf2⟩:=hP.x3;go_wp2_with fail
       refine (pHasV_c p qq qt true _ HGZ.out.1 (lt128 HGZ.out.2) HG0.out (Nat.lt_of_lt_of_le HSZ.out.2.1 (by decide)) HH.out).mono ?_;rintro e w2 ⟨rfl,hb2⟩;have hB3:=hB2.after hb2;have hBl3:=hB3.lt;obtain ⟨hB3c0,hB3f0,hB3c1,hB3f1,hB3c2,hB3f2⟩:=hB3.x3;go_wp2_with fail
       refine (HCF.out _ hb2).mono ?_;rintro e w3 ⟨rfl,hb3⟩;go_wp2;go_roundw
       case rel=>exact ⟨k+1,by omega,by go_num,HX,bt (bt (ba (ba hbr _) _) hb2) hb3⟩
       case measure=>simp [intOf];omega
    ·have HE:Hid (N.eqs.all (elemQ N)=true):=all_end (elemQ N) N.eqs k (by rw [←HN3.out];omega) HA.out;have HF:Hid (N.elem=true):=by unfold Hid NSta.elem;rw [HG.out,HE.out];rfl
     obtain ⟨hPc0,hPf0,hPc1,hPf1,hPc2,hPf2⟩:=hP.x3;go_wp2;go_ret
     exact ⟨by rw [HRES.out,HF.out];rfl,hBW⟩
end
section
open Go.RowKit
theorem knv_any (l:List Nat):(l.map E).any (fun s=>vz (val s.data.toList))=l.any vz:=by
 rw [List.any_map];simp only [Function.comp_def,val_E]
theorem kng_any (n:Nat) (l:List (Nat × Nat)):(l.map gE).any (fun g=>gq n (val g.1.data.toList,val g.2.data.toList))=l.any (gq n):=by
 rw [List.any_map];simp only [Function.comp_def,gE,val_E]
theorem knt_any (N:NSta) (l:List NTrm):(l.map NTrm.t).any (fun t=>vz (N.vars.getD t.var.toNat 0))=l.any N.tz:=by
 rw [List.any_map];simp only [Function.comp_def,NTrm.t,Int.toNat_natCast];rfl
theorem typ_vars (N:NSta) (h:N.vars.any vz=false):N.typ=true:=by unfold NSta.typ;rw [h];rfl
theorem typ_ord (N:NSta) (h:N.vars.any vz=true) (h0:N.ord=0):N.typ=false:=by unfold NSta.typ;rw [h,h0];rfl
theorem typ_gq (N:NSta) (h:N.vars.any vz=true) (h0:N.grps.any (gq N.ord)=true):N.typ=false:=by unfold NSta.typ;rw [h,h0];simp
theorem typ_kind (N:NSta) (h:N.vars.any vz=true) (k:Nat) (hk:k<N.eqs.length) (h0:kindQ N N.eqs[k]=false):N.typ=false:=by unfold NSta.typ;rw [h,all_bad (kindQ N) N.eqs k hk h0];simp
theorem typ_ok (N:NSta) (h1:N.ord≠0) (h2:N.grps.any (gq N.ord)=false) (h3:N.eqs.all (kindQ N)=true):N.typ=true:=by
 unfold NSta.typ;rw [h2,h3,show vz N.ord=false by simpa [vz] using h1];simp
theorem kinds_c (N:NSta) (v1 v2 v3:Value) (w:World) (hm:NOk N) (hS:NAt w v1 v2 v3 N) :
  Calls Tryz.prog 145 #[.agg #[v1,v2,v3]] w fun e w'=>e=.returned (.int .i64 (if N.typ then 0 else 10))∧Below w.heap.size w w':=by
 obtain ⟨r,hr⟩:∃r:Int,r=if N.typ then 0 else 10:=⟨_,rfl⟩
 have HRES:=Lib.hid hr;rw [←hr];clear hr;obtain ⟨a1,c1,a2,c2,a3,c3,rfl,rfl,rfl⟩:=hS.forms;obtain ⟨n1,hn1⟩:∃n,n=N.grps.length:=⟨_,rfl⟩;obtain ⟨n2,hn2⟩:∃n,n=N.vars.length:=⟨_,rfl⟩;obtain ⟨n3,hn3⟩:∃n,n=N.eqs.length:=⟨_,rfl⟩;have HN1:=Lib.hid hn1;have HN2:=Lib.hid hn2;have HN3:=Lib.hid hn3;have l1:n1≤10:=by rw [hn1];exact hm.ng
 have l2:n2≤12:=by rw [hn2];exact hm.nv
 have l3:n3≤12:=by rw [hn3];exact hm.ne
 have HM:=Lib.hid hm;rw [←hn1,←hn2,←hn3] at hS ⊢;clear hm hn1 hn2 hn3;have hP:=Blk.new w #[.slice a1 n1 c1,.slice a2 n2 c2,.slice a3 n3 c3] 29;have hBW:=b1 w (.cells #[.slice a1 n1 c1,.slice a2 n2 c2,.slice a3 n3 c3] 29);replace hS:=hS.after hBW;generalize hw1:w.alloc (.cells #[.slice a1 n1 c1,.slice a2 n2 c2,.slice a3 n3 c3] 29)=w1 at hP hBW hS;replace hP:Blk w1 w.heap.size 29 [.slice a1 n1 c1,.slice a2 n2 c2,.slice a3 n3 c3]:=hP
 have HCV:Hid (Calls Tryz.prog 185 #[.slice a2 n2 c2,.func (.func 186) #[] #[]] w1 fun e w''=>e=.returned (.bool (N.vars.any vz))∧Below w1.heap.size w1 w''):=by
  refine cont_knv N.s.vars (fun s=>vz (val s.data.toList)) _ _ w1 (by simp only [NSta.s,List.length_map];rw [←HN2.out];omega) hS.v (knv_any _) ?_;intro k hk w2 hb2;simp only [NSta.s,List.getElem_map,val_E];exact knv1_c _ _
 obtain ⟨av,hav⟩:∃b,b=N.vars.any vz:=⟨_,rfl⟩;rw [←hav] at HCV;have HAV:=Lib.hid hav;clear hav;subst hw1;cases av
 ·have HF:=Lib.hid (typ_vars N HAV.out.symm);obtain ⟨hPc0,hPf0,hPc1,hPf1,hPc2,hPf2⟩:=hP.x3;go_enter Tryz.func145,Tryz.ntmps145
  go_wp2_with fail
  refine HCV.out.mono ?_;rintro e w2 ⟨rfl,hb2⟩;go_wp2;go_ret
  exact ⟨by rw [HRES.out,HF.out];rfl,bt hBW hb2⟩
 ·have HVT:Hid (N.vars.any vz=true):=HAV.out.symm;obtain ⟨hPc0,hPf0,hPc1,hPf1,hPc2,hPf2⟩:=hP.x3;go_enter Tryz.func145,Tryz.ntmps145
  go_wp2_with fail
  refine HCV.out.mono ?_;rintro e w2 ⟨rfl,hb2⟩;clear hPc0 hPf0 hPc1 hPf1 hPc2 hPf2;clear HCV HAV;replace hP:=hP.after hb2;replace hS:=hS.after hb2;replace hBW:=bt hBW hb2;clear hb2;have hPl:=hP.lt;obtain ⟨hPc0,hPf0,hPc1,hPf1,hPc2,hPf2⟩:=hP.x3;go_wp2_with fail
  refine (order_c N _ _ _ _ HM.out hS).mono ?_;rintro e w3 ⟨rfl,hb3⟩;clear hPc0 hPf0 hPc1 hPf1 hPc2 hPf2;replace hP:=hP.after hb3;replace hS:=hS.after hb3;replace hBW:=bt hBW hb3;clear hb3 hPl;have hPl:=hP.lt;have hD:=Blk.new w3 #[.string (E N.ord)] 22;by_cases ho:N.ord=0
  ·have hz:=zE ho;have HF:=Lib.hid (typ_ord N HVT.out ho);clear ho;obtain ⟨hPc0,hPf0,hPc1,hPf1,hPc2,hPf2⟩:=hP.x3;go_wp2;go_ret
   exact ⟨by rw [HRES.out,HF.out];rfl,ba hBW _⟩
  ·have hz:=nzE (Nat.pos_of_ne_zero ho);have HO:=Lib.hid ho;clear ho;have hS4:=hS.after (b1 w3 (.cells #[.string (E N.ord)] 22))
   have HCG:Hid (Calls Tryz.prog 187 #[.slice a1 n1 c1,.func (.func 188) #[] #[.pointer (some ⟨w3.heap.size,0,none⟩)]] (w3.alloc (.cells #[.string (E N.ord)] 22)) fun e w''=>e=.returned (.bool (N.grps.any (gq N.ord)))∧Below (w3.alloc (.cells #[.string (E N.ord)] 22)).heap.size (w3.alloc (.cells #[.string (E N.ord)] 22)) w''):=by
    have hg:=hS4.g;refine cont_kng N.s.grps (fun g=>gq N.ord (val g.1.data.toList,val g.2.data.toList)) _ _ w3.heap.size _ (by simp only [NSta.s,List.length_map];rw [←HN1.out];omega) hg (kng_any _ _) ?_;intro k hk w5 hb5;simp only [NSta.s,List.getElem_map,gE,val_E];exact kng1_c _ _ _ _ _ (hD.after hb5)
   obtain ⟨ag,hag⟩:∃b,b=N.grps.any (gq N.ord):=⟨_,rfl⟩;rw [←hag] at HCG;have HAG:=Lib.hid hag;clear hag;cases ag
   ·have HGQ:Hid (N.grps.any (gq N.ord)=false):=HAG.out.symm;obtain ⟨hPc0,hPf0,hPc1,hPf1,hPc2,hPf2⟩:=hP.x3;go_wp2_with fail
    refine HCG.out.mono ?_;rintro e w5 ⟨rfl,hb5⟩;clear hPc0 hPf0 hPc1 hPf1 hPc2 hPf2;clear HCG HAG hD hS;replace hP:=(hP.alloc (.cells #[.string (E N.ord)] 22)).after hb5;replace hS4:=hS4.after hb5;replace hBW:=bt (ba hBW _) hb5;clear hb5 hPl;have hPl:=hP.lt;obtain ⟨hPc0,hPf0,hPc1,hPf1,hPc2,hPf2⟩:=hP.x3;go_wp2;clear hPc0 hPf0 hPc1 hPf1 hPc2 hPf2;go_loopw [23] (fun i wr=>∃k:Nat,k≤n3∧i=.int .i64 k∧Hid ((N.eqs.take k).all (kindQ N)=true)∧Below w5.heap.size w5 wr) (fun i _=>n3-(intOf i).toNat)
    case atStart=>exact ⟨0,by omega,rfl,rfl,Below.refl _ _⟩
    case round =>
     obtain ⟨k,hk,rfl,HA,hbr⟩:=hrel;obtain ⟨wt,hwp⟩:∃wp,wp=wr:=⟨_,rfl⟩;subst hwp;replace hS4:=hS4.after hbr;replace hP:=hP.after hbr;replace hBW:=bt hBW hbr;by_cases hlt:k<n3
     ·have hkl:k<N.eqs.length:=by rw [←HN3.out];exact hlt
      have HT:=Lib.hid (all_take (kindQ N) N.eqs k hkl);have HBAD:=Lib.hid (typ_kind N HVT.out k hkl);have HSZ:=Lib.hid (HM.out.e _ (List.getElem_mem hkl));obtain ⟨b,o,tv,rfl,hbl,x1,x2,x3,hTs⟩:=hS4.eat hkl;generalize (N.eqs[k]'hkl)=q at x1 x2 x3 hTs HSZ HT HBAD;have hgl:=HSZ.out.1;have hgn:q.grp<n1:=by rw [HN1.out];exact hgl
      have HGP:=Lib.hid (gp_at N q hgl);obtain ⟨b',o',rfl,hbl',y1,y2⟩:=hS4.gat hgl;have HEQ:Hid (kindQ N q=(!(vz (N.grps[q.grp]'hgl).2) || !(q.trms.any N.tz))):=by rw [Hid,kindQ,HGP.out]
      generalize kindQ N q=ek at HT HBAD HEQ;generalize (N.grps[q.grp]'hgl)=gg at y1 y2 HEQ;clear hgl HGP;obtain ⟨qg,qt,qs⟩:=q;simp only [] at x1 x2 x3 hTs HSZ HEQ hgn y1 y2;obtain ⟨to_,tc,rfl⟩:=hTs.form;obtain ⟨n4,hn4⟩:∃n,n=qs.length:=⟨_,rfl⟩;have HN4:=Lib.hid hn4;rw [←hn4] at x3 hTs;clear hn4;obtain ⟨p,qq⟩:=gg;simp only [] at y1 y2 HEQ;have hB:=Blk.new wt #[.int .i64 (qg:Int),.string (E qt),.slice to_ n4 tc] 84;have h0k:(0:Int)≤(k:Int):=by omega
      have h1k:(k:Int)<(n3:Int):=by omega
      have h0g:(0:Int)≤(qg:Int):=by omega
      have h1g:(qg:Int)<(n1:Int):=by omega
      have hPl:=hP.lt;have hBl:=hB.lt;rcases Nat.eq_zero_or_pos qq with rfl | h0
      ·have hz:=zE (n:=0) rfl;have hTs2:=hTs.after (b1 wt (.cells #[.int .i64 (qg:Int),.string (E qt),.slice to_ n4 tc] 84));have hS5:=hS4.after (b1 wt (.cells #[.int .i64 (qg:Int),.string (E qt),.slice to_ n4 tc] 84));have hP5:=hP.alloc (.cells #[.int .i64 (qg:Int),.string (E qt),.slice to_ n4 tc] 84)
       have HCT:Hid (Calls Tryz.prog 183 #[.slice to_ n4 tc,.func (.func 189) #[] #[.pointer (some ⟨w.heap.size,0,none⟩)]] (wt.alloc (.cells #[.int .i64 (qg:Int),.string (E qt),.slice to_ n4 tc] 84)) fun e w''=>e=.returned (.bool (qs.any N.tz))∧Below (wt.alloc (.cells #[.int .i64 (qg:Int),.string (E qt),.slice to_ n4 tc] 84)).heap.size (wt.alloc (.cells #[.int .i64 (qg:Int),.string (E qt),.slice to_ n4 tc] 84)) w''):=by
        refine cont_knt (qs.map NTrm.t) (fun t=>vz (N.vars.getD t.var.toNat 0)) _ _ w.heap.size _ (by have:=HSZ.out.2.2.1;simp;omega) (by have:=hTs2;exact this) (knt_any N qs) ?_;intro j hj w6 hb6;have hj':j<qs.length:=by simpa using hj
        have hz:=HSZ.out.2.2.2 _ (List.getElem_mem hj');have hq:=knt1_c N (qs[j]'hj').var w.heap.size n2 c2 a2 (.slice (some ⟨b',o',none⟩) n1 c1) (.slice (some ⟨b,o,none⟩) n3 c3) (E (qs[j]'hj').base) (sg (qs[j]'hj').coef) (E (qs[j]'hj').coef.natAbs) w6 HN2.out (by omega) hz.2.1 (hS5.after hb6) (hP5.after hb6);simp only [List.getElem_map,NTrm.t,Int.toNat_natCast,List.getD_eq_getElem?_getD,List.getElem?_eq_getElem hz.2.1,Option.getD_some];exact hq
       clear hTs hTs2 hS5;cases ha:qs.any N.tz
       ·have HX:Hid ((N.eqs.take (k+1)).all (kindQ N)=true):=by rw [Hid,HT.out,HA.out,HEQ.out,ha];rfl
        rw [ha] at HCT;clear ha HBAD;obtain ⟨hPc0,hPf0,hPc1,hPf1,hPc2,hPf2⟩:=hP.x3;go_wp2_with fail
        refine HCT.out.mono ?_;rintro e w6 ⟨rfl,hb6⟩;go_wp2;go_roundw
        case rel=>exact ⟨k+1,by omega,by go_num,HX,bt (ba hbr _) hb6⟩
        case measure=>simp [intOf];omega
       ·have HF:Hid (N.typ=false):=HBAD.out (by rw [HEQ.out,ha];rfl);rw [ha] at HCT;clear ha HBAD;obtain ⟨hPc0,hPf0,hPc1,hPf1,hPc2,hPf2⟩:=hP.x3;go_wp2_with fail
        refine HCT.out.mono ?_;rintro e w6 ⟨rfl,hb6⟩;go_wp2;go_ret
        exact ⟨by rw [HRES.out,HF.out];rfl,bt (ba hBW _) hb6⟩
      ·have hz:=nzE h0;have HX:Hid ((N.eqs.take (k+1)).all (kindQ N)=true):=by rw [Hid,HT.out,HA.out,HEQ.out,vz_pos h0];rfl
       clear HBAD h0 hTs;obtain ⟨hPc0,hPf0,hPc1,hPf1,hPc2,hPf2⟩:=hP.x3;go_wp2;go_roundw
       case rel=>exact ⟨k+1,by omega,by go_num,HX,ba hbr _⟩
       case measure=>simp [intOf];omega
     ·have HE:Hid (N.eqs.all (kindQ N)=true):=all_end (kindQ N) N.eqs k (by rw [←HN3.out];omega) HA.out;have HF:=Lib.hid (typ_ok N HO.out HGQ.out HE.out);go_wp2;go_ret
      exact ⟨by rw [HRES.out,HF.out];rfl,hBW⟩
   ·have HF:=Lib.hid (typ_gq N HVT.out HAG.out.symm);obtain ⟨hPc0,hPf0,hPc1,hPf1,hPc2,hPf2⟩:=hP.x3;go_wp2_with fail
    refine HCG.out.mono ?_;rintro e w5 ⟨rfl,hb5⟩;go_wp2;go_ret
    exact ⟨by rw [HRES.out,HF.out];rfl,bt (ba hBW _) hb5⟩
end
section
open Go.RowKit
theorem run_index_agg {P:Program} {w:World} (t e:TypeId) (n:Nat) (cs:Array Value) (k:IntKind) (i:Int) (v:Value) (h:P.underlying t=some (.array n e)) (h0:0≤i) (h1:i<n)
  (hi:(P.info? e).map (fun i=>i.size)=some 1) (ha:(isAgg e).run P w=.ok false w) (hn:cs[i.toNat]?=some v):(Instr.index t (.agg cs) (.int k i)).run P w=.ok v w:=by
 have hb:0≤i∧i<(n:Int):=⟨h0,h1⟩;cases hx:P.info? e with
 | none=>rw [hx] at hi;cases hi
 | some i0 =>
  rw [hx] at hi;have hz:i0.size=1:=by simpa using hi
  simp [Instr.index,run_underlying h,asIntOf,hb,go_sem,part,sizeOf,typeInfo,hx,hz,hn,ha]
theorem agg_fn1 (w:World):(isAgg 152).run Tryz.prog w=.ok false w:=by
 simp [isAgg,run_underlying Tryz.underlying152,go_sem]
theorem info_fn1:(Tryz.prog.info? 152).map (fun i=>i.size)=some 1:=by kernel_rfl
theorem ix4 (i:Nat) (hi:i<4) (v:Value) (cs:Array Value) (hn:cs[i]?=some v) (w:World):(Instr.index 184 (.agg cs) (.int .i64 (i:Int))).run Tryz.prog w=.ok v w:=
 run_index_agg 184 152 4 cs .i64 i v Tryz.underlying184 (by omega) (by omega) info_fn1 (agg_fn1 w) (by simpa using hn)
theorem form0_c (N:NSta) (v1 v2 v3:Value) (w:World) (hm:NOk N) (hS:NAt w v1 v2 v3 N) :
  Calls Tryz.prog 142 #[.agg #[v1,v2,v3]] w fun e w'=>e=.returned (.int .i64 0)∧Below w.heap.size w w':=by
 have h:=form_c N.s v1 v2 v3 w hm.ssm hS;rw [hm.form] at h;exact h
theorem sizes0_c (N:NSta) (v1 v2 v3:Value) (w:World) (r:Int) (hm:NOk N) (hS:NAt w v1 v2 v3 N) (h:(if 8<N.grps.length then 6 else 0)=r) :
  Calls Tryz.prog 143 #[.agg #[v1,v2,v3]] w fun e w'=>e=.returned (.int .i64 r)∧Below w.heap.size w w':=by
 rw [←h];exact sizes_c N v1 v2 v3 w hm hS
theorem elements0_c (N:NSta) (v1 v2 v3:Value) (w:World) (r:Int) (hm:NOk N) (hS:NAt w v1 v2 v3 N) (h:(if N.elem then 0 else 13)=r) :
  Calls Tryz.prog 144 #[.agg #[v1,v2,v3]] w fun e w'=>e=.returned (.int .i64 r)∧Below w.heap.size w w':=by
 rw [←h];exact elements_c N v1 v2 v3 w hm hS
theorem kinds0_c (N:NSta) (v1 v2 v3:Value) (w:World) (r:Int) (hm:NOk N) (hS:NAt w v1 v2 v3 N) (h:(if N.typ then 0 else 10)=r) :
  Calls Tryz.prog 145 #[.agg #[v1,v2,v3]] w fun e w'=>e=.returned (.int .i64 r)∧Below w.heap.size w w':=by
 rw [←h];exact kinds_c N v1 v2 v3 w hm hS
def ckS (N:NSta) (k:Nat):Prop:=(2≤k→¬ 8<N.grps.length)∧(3≤k→N.elem=true)∧(4≤k→N.typ=true)
theorem chk_6 {N:NSta} (h:8<N.grps.length):N.chk=6:=by unfold NSta.chk;rw [if_pos h]
theorem chk_13 {N:NSta} (h:¬ 8<N.grps.length) (h2:N.elem=false):N.chk=13:=by unfold NSta.chk;rw [if_neg h,if_pos h2]
theorem chk_10 {N:NSta} (h:¬ 8<N.grps.length) (h2:N.elem=true) (h3:N.typ=false):N.chk=10:=by unfold NSta.chk;rw [if_neg h,if_neg (by simp [h2]),if_pos h3]
theorem chk_0 {N:NSta} (h:¬ 8<N.grps.length) (h2:N.elem=true) (h3:N.typ=true):N.chk=0:=by unfold NSta.chk;rw [if_neg h,if_neg (by simp [h2]),if_neg (by simp [h3])]
theorem chk_inv {N:NSta} (h:N.chk=0):¬ 8<N.grps.length∧N.elem=true∧N.typ=true:=by
 unfold NSta.chk at h;by_cases h1:8<N.grps.length
 ·rw [if_pos h1] at h;cases h
 ·rw [if_neg h1] at h;cases h2:N.elem
  ·rw [if_pos h2] at h;cases h
  ·rw [if_neg (by simp [h2])] at h;cases h3:N.typ
   ·rw [if_pos h3] at h;cases h
   ·exact ⟨h1,rfl,rfl⟩
theorem check_c (N:NSta) (v1 v2 v3:Value) (w:World) (hm:NOk N) (hS:NAt w v1 v2 v3 N) :
  Calls Tryz.prog 94 #[.agg #[v1,v2,v3]] w fun e w'=>e=.returned (.int .i64 (N.chk:Nat))∧Below w.heap.size w w':=by
 obtain ⟨r,hr⟩:∃r:Nat,r=N.chk:=⟨_,rfl⟩;have HRES:=Lib.hid hr;rw [←hr];clear hr;obtain ⟨a1,c1,a2,c2,a3,c3,rfl,rfl,rfl⟩:=hS.forms;obtain ⟨n1,hn1⟩:∃n,n=N.grps.length:=⟨_,rfl⟩;obtain ⟨n2,hn2⟩:∃n,n=N.vars.length:=⟨_,rfl⟩;obtain ⟨n3,hn3⟩:∃n,n=N.eqs.length:=⟨_,rfl⟩;have HN1:=Lib.hid hn1;have HN2:=Lib.hid hn2;have HN3:=Lib.hid hn3;have l1:n1≤10:=by rw [hn1];exact hm.ng
 have l2:n2≤12:=by rw [hn2];exact hm.nv
 have l3:n3≤12:=by rw [hn3];exact hm.ne
 have HM:=Lib.hid hm;rw [←hn1,←hn2,←hn3] at hS ⊢;clear hm hn1 hn2 hn3;have hP:=Blk.new w #[.slice a1 n1 c1,.slice a2 n2 c2,.slice a3 n3 c3] 29;have hBW:=b1 w (.cells #[.slice a1 n1 c1,.slice a2 n2 c2,.slice a3 n3 c3] 29);replace hS:=hS.after hBW;obtain ⟨hPc0,hPf0,hPc1,hPf1,hPc2,hPf2⟩:=hP.x3;go_enter Tryz.func94,Tryz.ntmps94
 go_wp2;clear hPc0 hPf0 hPc1 hPf1 hPc2 hPf2;generalize w.alloc (.cells #[.slice a1 n1 c1,.slice a2 n2 c2,.slice a3 n3 c3] 29)=w1 at hP hBW hS;replace hP:Blk w1 w.heap.size 29 [.slice a1 n1 c1,.slice a2 n2 c2,.slice a3 n3 c3]:=hP;go_loopw [7] (fun i wr=>∃k:Nat,k≤4∧i=.int .i64 k∧Hid (ckS N k)∧Below w1.heap.size w1 wr) (fun i _=>4-(intOf i).toNat)
 case atStart=>exact ⟨0,by omega,rfl,⟨by omega,by omega,by omega⟩,Below.refl _ _⟩
 case round =>
  obtain ⟨k,hk,rfl,HA,hbr⟩:=hrel;obtain ⟨wp,hwp⟩:∃wp,wp=wr:=⟨_,rfl⟩;subst hwp;replace hS:=hS.after hbr;replace hP:=hP.after hbr;replace hBW:=bt hBW hbr;by_cases hlt:k<4
  ·have hPl:=hP.lt;obtain rfl | rfl | rfl | rfl:k=0∨k=1∨k=2∨k=3:=by omega
   ·clear HA;obtain ⟨hPc0,hPf0,hPc1,hPf1,hPc2,hPf2⟩:=hP.x3;have hix:∀w,(Instr.index 184 (.agg #[.func (.func 142) #[] #[],.func (.func 143) #[] #[],.func (.func 144) #[] #[],.func (.func 145) #[] #[]]) (.int .i64 0)).run Tryz.prog w=.ok (.func (.func 142) #[] #[]) w:=fun w=>ix4 0 (by decide) _ _ rfl w
    go_wp2_with fail
    refine (form0_c N _ _ _ _ HM.out hS).mono ?_;rintro e w2 ⟨rfl,hb2⟩;go_wp2;go_roundw
    case rel=>exact ⟨1,by omega,rfl,⟨by omega,by omega,by omega⟩,bt hbr hb2⟩
    case measure=>simp [intOf]
   ·clear HA;by_cases h8:8<N.grps.length
    ·have HR:Hid ((if 8<N.grps.length then 6 else 0)=(6:Int)):=if_pos h8;have HF:Hid (r=6):=by rw [Hid,HRES.out,chk_6 h8]
     clear h8;obtain ⟨hPc0,hPf0,hPc1,hPf1,hPc2,hPf2⟩:=hP.x3;have hix:∀w,(Instr.index 184 (.agg #[.func (.func 142) #[] #[],.func (.func 143) #[] #[],.func (.func 144) #[] #[],.func (.func 145) #[] #[]]) (.int .i64 1)).run Tryz.prog w=.ok (.func (.func 143) #[] #[]) w:=fun w=>ix4 1 (by decide) _ _ rfl w
     go_wp2_with fail
     refine (sizes0_c N _ _ _ _ 6 HM.out hS HR.out).mono ?_;rintro e w2 ⟨rfl,hb2⟩;go_wp2;go_ret
     exact ⟨by rw [HF.out];rfl,bt hBW hb2⟩
    ·have HR:Hid ((if 8<N.grps.length then 6 else 0)=(0:Int)):=if_neg h8;have HX:Hid (ckS N 2):=⟨fun _=>h8,by omega,by omega⟩;clear h8;obtain ⟨hPc0,hPf0,hPc1,hPf1,hPc2,hPf2⟩:=hP.x3;have hix:∀w,(Instr.index 184 (.agg #[.func (.func 142) #[] #[],.func (.func 143) #[] #[],.func (.func 144) #[] #[],.func (.func 145) #[] #[]]) (.int .i64 1)).run Tryz.prog w=.ok (.func (.func 143) #[] #[]) w:=fun w=>ix4 1 (by decide) _ _ rfl w
     go_wp2_with fail
     refine (sizes0_c N _ _ _ _ 0 HM.out hS HR.out).mono ?_;rintro e w2 ⟨rfl,hb2⟩;go_wp2;go_roundw
     case rel=>exact ⟨2,by omega,rfl,HX,bt hbr hb2⟩
     case measure=>simp [intOf]
   ·cases h8:N.elem
    ·have HR:Hid ((if N.elem then 0 else 13)=(13:Int)):=if_neg (by rw [h8];simp);have HF:Hid (r=13):=by rw [Hid,HRES.out,chk_13 (HA.out.1 (by omega)) h8]
     clear h8 HA;obtain ⟨hPc0,hPf0,hPc1,hPf1,hPc2,hPf2⟩:=hP.x3;have hix:∀w,(Instr.index 184 (.agg #[.func (.func 142) #[] #[],.func (.func 143) #[] #[],.func (.func 144) #[] #[],.func (.func 145) #[] #[]]) (.int .i64 2)).run Tryz.prog w=.ok (.func (.func 144) #[] #[]) w:=fun w=>ix4 2 (by decide) _ _ rfl w
     go_wp2_with fail
     refine (elements0_c N _ _ _ _ 13 HM.out hS HR.out).mono ?_;rintro e w2 ⟨rfl,hb2⟩;go_wp2;go_ret
     exact ⟨by rw [HF.out];rfl,bt hBW hb2⟩
    ·have HR:Hid ((if N.elem then 0 else 13)=(0:Int)):=if_pos h8;have HX:Hid (ckS N 3):=⟨fun _=>HA.out.1 (by omega),fun _=>h8,by omega⟩;clear h8 HA;obtain ⟨hPc0,hPf0,hPc1,hPf1,hPc2,hPf2⟩:=hP.x3;have hix:∀w,(Instr.index 184 (.agg #[.func (.func 142) #[] #[],.func (.func 143) #[] #[],.func (.func 144) #[] #[],.func (.func 145) #[] #[]]) (.int .i64 2)).run Tryz.prog w=.ok (.func (.func 144) #[] #[]) w:=fun w=>ix4 2 (by decide) _ _ rfl w
     go_wp2_with fail
     refine (elements0_c N _ _ _ _ 0 HM.out hS HR.out).mono ?_;rintro e w2 ⟨rfl,hb2⟩;go_wp2;go_roundw
     case rel=>exact ⟨3,by omega,rfl,HX,bt hbr hb2⟩
     case measure=>simp [intOf]
   ·cases h8:N.typ
    ·have HR:Hid ((if N.typ then 0 else 10)=(10:Int)):=if_neg (by rw [h8];simp);have HF:Hid (r=10):=by rw [Hid,HRES.out,chk_10 (HA.out.1 (by omega)) (HA.out.2.1 (by omega)) h8]
     clear h8 HA;obtain ⟨hPc0,hPf0,hPc1,hPf1,hPc2,hPf2⟩:=hP.x3;have hix:∀w,(Instr.index 184 (.agg #[.func (.func 142) #[] #[],.func (.func 143) #[] #[],.func (.func 144) #[] #[],.func (.func 145) #[] #[]]) (.int .i64 3)).run Tryz.prog w=.ok (.func (.func 145) #[] #[]) w:=fun w=>ix4 3 (by decide) _ _ rfl w
     go_wp2_with fail
     refine (kinds0_c N _ _ _ _ 10 HM.out hS HR.out).mono ?_;rintro e w2 ⟨rfl,hb2⟩;go_wp2;go_ret
     exact ⟨by rw [HF.out];rfl,bt hBW hb2⟩
    ·have HR:Hid ((if N.typ then 0 else 10)=(0:Int)):=if_pos h8;have HX:Hid (ckS N 4):=⟨fun _=>HA.out.1 (by omega),fun _=>HA.out.2.1 (by omega),fun _=>h8⟩;clear h8 HA;obtain ⟨hPc0,hPf0,hPc1,hPf1,hPc2,hPf2⟩:=hP.x3;have hix:∀w,(Instr.index 184 (.agg #[.func (.func 142) #[] #[],.func (.func 143) #[] #[],.func (.func 144) #[] #[],.func (.func 145) #[] #[]]) (.int .i64 3)).run Tryz.prog w=.ok (.func (.func 145) #[] #[]) w:=fun w=>ix4 3 (by decide) _ _ rfl w
     go_wp2_with fail
     refine (kinds0_c N _ _ _ _ 0 HM.out hS HR.out).mono ?_;rintro e w2 ⟨rfl,hb2⟩;go_wp2;go_roundw
     case rel=>exact ⟨4,by omega,rfl,HX,bt hbr hb2⟩
     case measure=>simp [intOf]
  ·obtain rfl:k=4:=by omega
   have HF:Hid (r=0):=by rw [Hid,HRES.out,chk_0 (HA.out.1 (by omega)) (HA.out.2.1 (by omega)) (HA.out.2.2 (by omega))]
   clear HA;go_wp2;go_ret
   exact ⟨by rw [HF.out];rfl,hBW⟩
theorem check_bad (S:Sta) (v1 v2 v3:Value) (w:World) (hm:SSm S) (hS:StAt w v1 v2 v3 S) (hf:formB S=false) :
  Calls Tryz.prog 94 #[.agg #[v1,v2,v3]] w fun e w'=>e=.returned (.int .i64 3)∧Below w.heap.size w w':=by
 have HC:Hid (∀w',Below w.heap.size w w'→Calls Tryz.prog 142 #[.agg #[v1,v2,v3]] w' fun e w''=>e=.returned (.int .i64 3)∧Below w'.heap.size w' w''):=by
  intro w' hb';have h:=form_c S v1 v2 v3 w' hm (hS.after hb');rw [hf] at h;exact h
 have hBW:=b1 w (.cells #[v1,v2,v3] 29);have hP:=Blk.new w #[v1,v2,v3] 29;obtain ⟨a1,c1,e1⟩:=hS.g.form;obtain ⟨a2,c2,e2⟩:=hS.v.form;obtain ⟨a3,c3,e3⟩:=hS.e.form;generalize S.grps.length=n1 at e1;generalize S.vars.length=n2 at e2;generalize S.eqs.length=n3 at e3;subst e1 e2 e3;clear hS hf hm;obtain ⟨hPc0,hPf0,hPc1,hPf1,hPc2,hPf2⟩:=hP.x3;go_enter Tryz.func94,Tryz.ntmps94
 go_wp2;clear hPc0 hPf0 hPc1 hPf1 hPc2 hPf2;generalize hw1:w.alloc (.cells #[.slice a1 n1 c1,.slice a2 n2 c2,.slice a3 n3 c3] 29)=w1 at hP hBW;replace hP:Blk w1 w.heap.size 29 [.slice a1 n1 c1,.slice a2 n2 c2,.slice a3 n3 c3]:=hP;go_loopw [7] (fun i wr=>i=.int .i64 0∧Below w1.heap.size w1 wr) (fun i _=>0)
 case atStart=>exact ⟨rfl,Below.refl _ _⟩
 case round =>
  obtain ⟨rfl,hbr⟩:=hrel;obtain ⟨wp,hwp⟩:∃wp,wp=wr:=⟨_,rfl⟩;subst hwp;replace hP:=hP.after hbr;replace hBW:=bt hBW hbr;have hPl:=hP.lt;obtain ⟨hPc0,hPf0,hPc1,hPf1,hPc2,hPf2⟩:=hP.x3;have hix:∀w,(Instr.index 184 (.agg #[.func (.func 142) #[] #[],.func (.func 143) #[] #[],.func (.func 144) #[] #[],.func (.func 145) #[] #[]]) (.int .i64 0)).run Tryz.prog w=.ok (.func (.func 142) #[] #[]) w:=fun w=>ix4 0 (by decide) _ _ rfl w
  go_wp2_with fail
  refine (HC.out _ hBW).mono ?_;rintro e w2 ⟨rfl,hb2⟩;go_wp2;go_ret
  exact ⟨rfl,bt hBW hb2⟩
def zI (z:Int):Bool × ByteArray:=(sg z,E z.natAbs)
def ZsAt (w:World) (v:Value) (l:List Int):Prop:=IsAt w v (l.map zI)
theorem ZsAt.after {w w':World} {v:Value} {l:List Int} (h:ZsAt w v l) (hb:Below w.heap.size w w'):ZsAt w' v l:=IsAt.after h hb
theorem ZsAt.form {w:World} {v:Value} {l:List Int} (h:ZsAt w v l):∃a c,v=.slice a l.length c:=by
 obtain ⟨a1,c1,h1⟩:=RAt.form h;exact ⟨a1,c1,by rw [h1];simp⟩
theorem ZsAt.at_ {w:World} {ao:Option Addr} {n c k:Nat} {l:List Int} (h:ZsAt w (.slice ao n c) l) (hk:k<l.length):∃b o,ao=some ⟨b,o,none⟩∧b<w.heap.size∧w.cell? ⟨b,o+k*2,none⟩=some (.bool (sg l[k]))∧w.cell? ⟨b,o+k*2+1,none⟩=some (.string (E l[k].natAbs)):=by
 have hk':k<(l.map zI).length:=by simpa using hk
 obtain ⟨b,o,h1,h2,h3,h4⟩:=IsAt.at_ h hk';simp only [List.getElem_map,zI] at h3 h4;exact ⟨b,o,h1,h2,h3,h4⟩
theorem rdi1_c (z:Int) (w:World) (hz:z.natAbs<256^128) :
  Calls Tryz.prog 157 #[.agg #[.bool (sg z),.string (E z.natAbs)]] w fun e w'=>e=.returned (.bool false)∧Below w.heap.size w w':=by
 have HZ:=Lib.hid hz;clear hz;go_enter Tryz.func157,Tryz.ntmps157
 go_wp2_with fail
 refine (ivalidI_c z _ HZ.out).mono ?_;rintro e w1 ⟨rfl,hb1⟩;go_wp2;go_ret
 exact ⟨rfl,bt (b1 _ _) hb1⟩
theorem ready_c (N:NSta) (Z:List Int) (v1 v2 v3 v4:Value) (w:World) (hm:NOk N) (hS:NAt w v1 v2 v3 N) (hZ:ZsAt w v4 Z) (hz:∀z∈Z,z.natAbs<256^128) (hl:Z.length=N.vars.length) (hc:N.chk=0) :
  Calls Tryz.prog 111 #[.agg #[v1,v2,v3],v4] w fun e w'=>e=.returned (.int .i64 0)∧Below w.heap.size w w':=by
 obtain ⟨a4,c4,rfl⟩:=hZ.form;rw [hl] at hZ ⊢;have HZZ:=Lib.hid hz;have HL:=Lib.hid hl;have HCK:=Lib.hid hc;clear hz hl hc;obtain ⟨a1,c1,a2,c2,a3,c3,rfl,rfl,rfl⟩:=hS.forms;obtain ⟨n1,hn1⟩:∃n,n=N.grps.length:=⟨_,rfl⟩;obtain ⟨n2,hn2⟩:∃n,n=N.vars.length:=⟨_,rfl⟩;obtain ⟨n3,hn3⟩:∃n,n=N.eqs.length:=⟨_,rfl⟩;have HN1:=Lib.hid hn1;have HN2:=Lib.hid hn2;have HN3:=Lib.hid hn3;have l1:n1≤10:=by rw [hn1];exact hm.ng
 have l2:n2≤12:=by rw [hn2];exact hm.nv
 have l3:n3≤12:=by rw [hn3];exact hm.ne
 have HM:=Lib.hid hm;rw [←hn1,←hn2,←hn3] at hS ⊢;clear hm hn1 hn2 hn3;rw [←HN2.out] at hZ;have hP:=Blk.new w #[.slice a1 n1 c1,.slice a2 n2 c2,.slice a3 n3 c3] 29;have hBW:=b1 w (.cells #[.slice a1 n1 c1,.slice a2 n2 c2,.slice a3 n3 c3] 29);replace hS:=hS.after hBW;replace hZ:=hZ.after (b1 w (.cells #[.slice a1 n1 c1,.slice a2 n2 c2,.slice a3 n3 c3] 29));obtain ⟨hPc0,hPf0,hPc1,hPf1,hPc2,hPf2⟩:=hP.x3;go_enter Tryz.func111,Tryz.ntmps111
 go_wp2_with fail
 refine (form0_c N _ _ _ _ HM.out hS).mono ?_;rintro e w2 ⟨rfl,hb2⟩;clear hPc0 hPf0 hPc1 hPf1 hPc2 hPf2;replace hP:=hP.after hb2;replace hS:=hS.after hb2;replace hZ:=hZ.after hb2;replace hBW:=bt hBW hb2;clear hb2;have hPl:=hP.lt
 have HCI:Hid (Calls Tryz.prog 58 #[.slice a4 n2 c4,.func (.func 157) #[] #[]] w2 fun e w''=>e=.returned (.bool false)∧Below w2.heap.size w2 w''):=by
  refine cont_rdi (Z.map zI) (fun _=>false) _ _ w2 (by rw [List.length_map,HL.out,←HN2.out];omega) hZ (any_false _) ?_;intro k hk w5 hb5;have hk':k<Z.length:=by simpa using hk
  simp only [List.getElem_map,zI];exact rdi1_c _ _ (HZZ.out _ (List.getElem_mem hk'))
 obtain ⟨hPc0,hPf0,hPc1,hPf1,hPc2,hPf2⟩:=hP.x3;go_wp2_with fail
 refine HCI.out.mono ?_;rintro e w3 ⟨rfl,hb3⟩;clear hPc0 hPf0 hPc1 hPf1 hPc2 hPf2;clear HCI;replace hP:=hP.after hb3;replace hS:=hS.after hb3;replace hBW:=bt hBW hb3;clear hb3 hPl;have hPl:=hP.lt
 have HCC:Hid (Calls Tryz.prog 94 #[.agg #[.slice a1 n1 c1,.slice a2 n2 c2,.slice a3 n3 c3]] w3 fun e w'=>e=.returned (.int .i64 0)∧Below w3.heap.size w3 w'):=by
  have h:=check_c N _ _ _ w3 HM.out hS;rw [HCK.out] at h;exact h
 obtain ⟨hPc0,hPf0,hPc1,hPf1,hPc2,hPf2⟩:=hP.x3;go_wp2_with fail
 refine HCC.out.mono ?_;rintro e w4 ⟨rfl,hb4⟩;clear hPc0 hPf0 hPc1 hPf1 hPc2 hPf2;replace hP:=hP.after hb4;have hPl2:=hP.lt;obtain ⟨hPc0,hPf0,hPc1,hPf1,hPc2,hPf2⟩:=hP.x3;go_wp2;go_ret
 exact ⟨rfl,bt hBW hb4⟩
end
section
open Go.RowKit
theorem rvalB_c (s:ByteArray) (b:Bool) (w:World) (hs:s.size≤1000) (h:vldB s=b):Calls Tryz.prog 43 #[.string s] w fun e w'=>e=.returned (.bool b)∧w'=w:=by
 rw [←h];exact (rvalid_c s w (by omega)).mono fun _ _ h=>⟨h.1,h.2.symm⟩
theorem rivalB_c (n:Bool) (s:ByteArray) (b:Bool) (w:World) (hs:s.size≤1000) (h:ivB n s=b):Calls Tryz.prog 77 #[.agg #[.bool n,.string s]] w fun e w'=>e=.returned (.bool b)∧Below w.heap.size w w':=by
 rw [←h];exact rivalid_c n s w (by omega)
theorem rformed_c (S:Sta) (v1 v2 v3:Value) (w:World) (hm:SSm S) (hS:StAt w v1 v2 v3 S) :
  Calls Tryz.prog 79 #[.agg #[v1,v2,v3]] w fun e w'=>e=.returned (.bool (formB S))∧Below w.heap.size w w':=by
 obtain ⟨r,hr⟩:∃r:Bool,r=formB S:=⟨_,rfl⟩;have HRES:=Lib.hid hr;rw [←hr];clear hr;obtain ⟨a1,c1,rfl⟩:=hS.g.form;obtain ⟨a2,c2,rfl⟩:=hS.v.form;obtain ⟨a3,c3,rfl⟩:=hS.e.form;have HM:=Lib.hid hm;obtain ⟨n1,hn1⟩:∃n,n=S.grps.length:=⟨_,rfl⟩;obtain ⟨n2,hn2⟩:∃n,n=S.vars.length:=⟨_,rfl⟩;obtain ⟨n3,hn3⟩:∃n,n=S.eqs.length:=⟨_,rfl⟩;have HN1:=Lib.hid hn1;have HN2:=Lib.hid hn2;have HN3:=Lib.hid hn3;have l1:n1≤1000:=by rw [hn1];exact hm.ng
 have l2:n2≤1000:=by rw [hn2];exact hm.nv
 have l3:n3≤1000:=by rw [hn3];exact hm.ne
 rw [←hn1,←hn2,←hn3] at hS ⊢;clear hm hn1 hn2 hn3;have hP:=Blk.new w #[.slice a1 n1 c1,.slice a2 n2 c2,.slice a3 n3 c3] 29;have hBW:=b1 w (.cells #[.slice a1 n1 c1,.slice a2 n2 c2,.slice a3 n3 c3] 29);replace hS:=hS.after hBW;go_enter Tryz.func79,Tryz.ntmps79
 go_wp2;generalize w.alloc (.cells #[.slice a1 n1 c1,.slice a2 n2 c2,.slice a3 n3 c3] 29)=w1 at hP hBW hS;replace hP:Blk w1 w.heap.size 29 [.slice a1 n1 c1,.slice a2 n2 c2,.slice a3 n3 c3]:=hP;go_loopw [3] (fun i wr=>∃k:Nat,k≤n1∧i=.int .i64 k∧Hid ((S.grps.take k).all gokB=true)∧Below w1.heap.size w1 wr) (fun i _=>n1-(intOf i).toNat)
 case atStart=>exact ⟨0,by omega,rfl,rfl,Below.refl _ _⟩
 case round =>
  obtain ⟨k,hk,rfl,HA,hbr⟩:=hrel;obtain ⟨wp,hwp⟩:∃wp,wp=wr:=⟨_,rfl⟩;subst hwp;replace hS:=hS.after hbr;replace hP:=hP.after hbr;replace hBW:=bt hBW hbr;by_cases hlt:k<n1
  ·have hkl:k<S.grps.length:=by rw [←HN1.out];exact hlt
   have HSZ:=Lib.hid (HM.out.g _ (List.getElem_mem hkl));have HT:=Lib.hid (all_take gokB S.grps k hkl);have HBAD:Hid (gokB S.grps[k]=false→formB S=false):=fun h=>by unfold formB;rw [all_bad gokB S.grps k hkl h];rfl
   obtain ⟨b,o,rfl,hbl,x1,x2⟩:=hS.g.at_ hkl;have HG:Hid (gokB S.grps[k]=(vldB S.grps[k].1&&vldB S.grps[k].2)):=rfl;generalize gokB (S.grps[k]'hkl)=gk at HT HBAD HG;generalize (S.grps[k]'hkl).1=s1 at x1 HSZ HG;generalize (S.grps[k]'hkl).2=s2 at x2 HSZ HG;have h0k:(0:Int)≤(k:Int):=by omega
   have h1k:(k:Int)<(n1:Int):=by omega
   cases hv1:vldB s1
   ·have HF:Hid (formB S=false):=HBAD.out (by rw [HG.out,hv1];rfl);obtain ⟨hPc0,hPf0,hPc1,hPf1,hPc2,hPf2⟩:=hP.x3;go_wp2_with fail
    refine (rvalB_c s1 false _ HSZ.out.1 hv1).mono ?_;rintro e w' ⟨rfl,hw'⟩;subst w';go_wp2;go_ret
    exact ⟨by rw [HRES.out,HF.out];rfl,hBW⟩
   ·cases hv2:vldB s2
    ·have HF:Hid (formB S=false):=HBAD.out (by rw [HG.out,hv1,hv2];rfl);obtain ⟨hPc0,hPf0,hPc1,hPf1,hPc2,hPf2⟩:=hP.x3;go_wp2_with fail
     refine (rvalB_c s1 true _ HSZ.out.1 hv1).mono ?_;rintro e w' ⟨rfl,hw'⟩;subst w';go_wp2_with fail
     refine (rvalB_c s2 false _ HSZ.out.2 hv2).mono ?_;rintro e w' ⟨rfl,hw'⟩;subst w';go_wp2;go_ret
     exact ⟨by rw [HRES.out,HF.out];rfl,hBW⟩
    ·have HX:Hid ((S.grps.take (k+1)).all gokB=true):=by rw [Hid,HT.out,HA.out,HG.out,hv1,hv2];rfl
     obtain ⟨hPc0,hPf0,hPc1,hPf1,hPc2,hPf2⟩:=hP.x3;go_wp2_with fail
     refine (rvalB_c s1 true _ HSZ.out.1 hv1).mono ?_;rintro e w' ⟨rfl,hw'⟩;subst w';go_wp2_with fail
     refine (rvalB_c s2 true _ HSZ.out.2 hv2).mono ?_;rintro e w' ⟨rfl,hw'⟩;subst w';go_wp2;go_roundw
     case rel=>exact ⟨k+1,by omega,by go_num,HX,hbr⟩
     case measure=>simp [intOf];omega
  ·have HG:Hid (S.grps.all gokB=true):=all_end gokB S.grps k (by rw [←HN1.out];omega) HA.out;clear hbr;obtain ⟨hPc0,hPf0,hPc1,hPf1,hPc2,hPf2⟩:=hP.x3;go_wp2;clear hPc0 hPf0 hPc1 hPf1 hPc2 hPf2;go_loopw [4] (fun i wr=>∃k:Nat,k≤n2∧i=.int .i64 k∧Hid ((S.vars.take k).all vldB=true)∧Below wp.heap.size wp wr) (fun i _=>n2-(intOf i).toNat)
   case atStart=>exact ⟨0,by omega,rfl,rfl,Below.refl _ _⟩
   case round =>
    clear HA hlt hk;obtain ⟨k,hk,rfl,HA,hbr⟩:=hrel;obtain ⟨wq,hwq⟩:∃wq,wq=wr:=⟨_,rfl⟩;subst hwq;replace hS:=hS.after hbr;replace hP:=hP.after hbr;replace hBW:=bt hBW hbr;by_cases hlt:k<n2
    ·have hkl:k<S.vars.length:=by rw [←HN2.out];exact hlt
     have HSZ:=Lib.hid (HM.out.v _ (List.getElem_mem hkl));have HT:=Lib.hid (all_take vldB S.vars k hkl);have HBAD:Hid (vldB S.vars[k]=false→formB S=false):=fun h=>by unfold formB;rw [all_bad vldB S.vars k hkl h];simp
     obtain ⟨b,o,rfl,hbl,x1⟩:=hS.v.at_ hkl;generalize S.vars[k]'hkl=s1 at x1 HSZ HT HBAD;have h0k:(0:Int)≤(k:Int):=by omega
     have h1k:(k:Int)<(n2:Int):=by omega
     cases hv1:vldB s1
     ·have HF:Hid (formB S=false):=HBAD.out hv1;obtain ⟨hPc0,hPf0,hPc1,hPf1,hPc2,hPf2⟩:=hP.x3;go_wp2_with fail
      refine (rvalB_c s1 false _ HSZ.out hv1).mono ?_;rintro e w' ⟨rfl,hw'⟩;subst w';go_wp2;go_ret
      exact ⟨by rw [HRES.out,HF.out];rfl,hBW⟩
     ·have HX:Hid ((S.vars.take (k+1)).all vldB=true):=by rw [Hid,HT.out,HA.out,hv1];rfl
      obtain ⟨hPc0,hPf0,hPc1,hPf1,hPc2,hPf2⟩:=hP.x3;go_wp2_with fail
      refine (rvalB_c s1 true _ HSZ.out hv1).mono ?_;rintro e w' ⟨rfl,hw'⟩;subst w';go_wp2;go_roundw
      case rel=>exact ⟨k+1,by omega,by go_num,HX,hbr⟩
      case measure=>simp [intOf];omega
    ·have HV:Hid (S.vars.all vldB=true):=all_end vldB S.vars k (by rw [←HN2.out];omega) HA.out;clear hbr;obtain ⟨hPc0,hPf0,hPc1,hPf1,hPc2,hPf2⟩:=hP.x3;go_wp2;clear hPc0 hPf0 hPc1 hPf1 hPc2 hPf2;clear HA hlt hk;go_loopw [5] (fun i wr=>∃k:Nat,k≤n3∧i=.int .i64 k∧Hid ((S.eqs.take k).all (eokB n1 n2)=true)∧Below wq.heap.size wq wr) (fun i _=>n3-(intOf i).toNat)
     case atStart=>exact ⟨0,by omega,rfl,rfl,Below.refl _ _⟩
     case round =>
      obtain ⟨k,hk,rfl,HA,hbr⟩:=hrel;obtain ⟨wt,hwt⟩:∃wt,wt=wr:=⟨_,rfl⟩;subst hwt;replace hS:=hS.after hbr;replace hP:=hP.after hbr;replace hBW:=bt hBW hbr;by_cases hlt:k<n3
      ·have hkl:k<S.eqs.length:=by rw [←HN3.out];exact hlt
       have HSZ:=Lib.hid (HM.out.e _ (List.getElem_mem hkl));have HT:=Lib.hid (all_take (eokB n1 n2) S.eqs k hkl);have HBAD:Hid (eokB n1 n2 S.eqs[k]=false→formB S=false):=fun h=>by unfold formB;rw [←HN1.out,←HN2.out,all_bad (eokB n1 n2) S.eqs k hkl h];simp
       obtain ⟨b,o,tv,rfl,hbl,x1,x2,x3,hTs⟩:=hS.e.at_ hkl;generalize S.eqs[k]'hkl=q at x1 x2 x3 hTs HSZ HT HBAD;obtain ⟨qg,qt,qs⟩:=q;simp only [] at x1 x2 x3 hTs;obtain ⟨to_,tc,rfl⟩:=RAt.form hTs;obtain ⟨n4,hn4⟩:∃n,n=qs.length:=⟨_,rfl⟩;have HN4:=Lib.hid hn4;rw [←hn4] at x3 hTs;clear hn4;have hB:=Blk.new wt #[.int .i64 qg,.string qt,.slice to_ n4 tc] 84;have h0k:(0:Int)≤(k:Int):=by omega
       have h1k:(k:Int)<(n3:Int):=by omega
       have hPl:=hP.lt;have HQ:Hid (eokB n1 n2 ⟨qg,qt,qs⟩=(decide (0≤qg)&&decide (qg<(n1:Int))&&vldB qt&&qs.all (tokB n2))):=rfl;generalize eokB n1 n2 ⟨qg,qt,qs⟩=ek at HT HBAD HQ;cases hv:vldB qt
       ·have HF:Hid (formB S=false):=HBAD.out (by rw [HQ.out,hv];simp);obtain ⟨hPc0,hPf0,hPc1,hPf1,hPc2,hPf2⟩:=hP.x3;go_wp2_with fail
        refine (rvalB_c qt false _ HSZ.out.1 hv).mono ?_;rintro e w' ⟨rfl,hw'⟩;subst w';go_wp2;go_ret
        exact ⟨by rw [HRES.out,HF.out];rfl,ba hBW _⟩
       ·cases hd1:decide (qg<0)
        ·cases hd2:decide ((n1:Int)≤qg)
         ·have hx1:decide (0≤qg)=true:=decide_eq_true (by have:=of_decide_eq_false hd1;omega);have hx2:decide (qg<(n1:Int))=true:=decide_eq_true (by have:=of_decide_eq_false hd2;omega);obtain ⟨hPc0,hPf0,hPc1,hPf1,hPc2,hPf2⟩:=hP.x3;go_wp2_with fail
          refine (rvalB_c qt true _ HSZ.out.1 hv).mono ?_;rintro e w' ⟨rfl,hw'⟩;subst w';go_wp2;clear hPc0 hPf0 hPc1 hPf1 hPc2 hPf2;replace hP:=hP.alloc (.cells #[.int .i64 qg,.string qt,.slice to_ n4 tc] 84);replace hTs:=TsAt.after hTs (b1 _ (.cells #[.int .i64 qg,.string qt,.slice to_ n4 tc] 84));replace hBW:=ba hBW (.cells #[.int .i64 qg,.string qt,.slice to_ n4 tc] 84);replace hbr:=ba hbr (.cells #[.int .i64 qg,.string qt,.slice to_ n4 tc] 84);have l4:n4≤1000:=by rw [HN4.out];exact HSZ.out.2.1
          generalize wt.alloc (.cells #[.int .i64 qg,.string qt,.slice to_ n4 tc] 84)=wu at hP hTs hBW hbr hB;replace hB:Blk wu wt.heap.size 84 [.int .i64 qg,.string qt,.slice to_ n4 tc]:=hB;clear hS;go_loopw [7] (fun i wr=>∃k:Nat,k≤n4∧i=.int .i64 k∧Hid ((qs.take k).all (tokB n2)=true)∧Below wu.heap.size wu wr) (fun i _=>n4-(intOf i).toNat)
          case atStart=>exact ⟨0,by omega,rfl,rfl,Below.refl _ _⟩
          case round =>
           obtain ⟨j,hj,rfl,HJ,hbs⟩:=hrel;obtain ⟨wv,hwv⟩:∃wv,wv=wr:=⟨_,rfl⟩;subst hwv;replace hP:=hP.after hbs;replace hB:=hB.after hbs;replace hTs:=TsAt.after hTs hbs;replace hBW:=bt hBW hbs;have hBl:=hB.lt;by_cases hltj:j<n4
           ·have hjl:j<qs.length:=by rw [←HN4.out];exact hltj
            have HSJ:=Lib.hid (HSZ.out.2.2 _ (List.getElem_mem hjl));have HTJ:=Lib.hid (all_take (tokB n2) qs j hjl);have HBJ:Hid (tokB n2 qs[j]=false→formB S=false):=fun h=>HBAD.out (by rw [HQ.out,all_bad (tokB n2) qs j hjl h];simp)
            obtain ⟨b4,o4,rfl,hbl4,y1,y2,y3,y4⟩:=TsAt.at_ hTs hjl;generalize qs[j]'hjl=t at y1 y2 y3 y4 HSJ HTJ HBJ;obtain ⟨tb,tv,tn,ta⟩:=t;simp only [] at y1 y2 y3 y4;have hB4:=Blk.new wv #[.string tb,.int .i64 tv,.bool tn,.string ta] 86;have h0j:(0:Int)≤(j:Int):=by omega
            have h1j:(j:Int)<(n4:Int):=by omega
            have hPl4:=hP.lt;have HTK:Hid (tokB n2 ⟨tb,tv,tn,ta⟩=(decide (0≤tv)&&decide (tv<(n2:Int))&&vldB tb&&ivB tn ta)):=rfl;generalize tokB n2 ⟨tb,tv,tn,ta⟩=tk at HTJ HBJ HTK;cases hv3:vldB tb
            ·have HF:Hid (formB S=false):=HBJ.out (by rw [HTK.out,hv3];simp);obtain ⟨hPc0,hPf0,hPc1,hPf1,hPc2,hPf2⟩:=hP.x3;obtain ⟨hBc0,hBf0,hBc1,hBf1,hBc2,hBf2⟩:=hB.x3;go_wp2_with fail
             refine (rvalB_c tb false _ HSJ.out.1 hv3).mono ?_;rintro e w' ⟨rfl,hw'⟩;subst w';go_wp2;go_ret
             exact ⟨by rw [HRES.out,HF.out];rfl,ba hBW _⟩
            ·cases hv4:ivB tn ta
             ·have HF:Hid (formB S=false):=HBJ.out (by rw [HTK.out,hv4];simp);obtain ⟨hPc0,hPf0,hPc1,hPf1,hPc2,hPf2⟩:=hP.x3;obtain ⟨hBc0,hBf0,hBc1,hBf1,hBc2,hBf2⟩:=hB.x3;go_wp2_with fail
              refine (rvalB_c tb true _ HSJ.out.1 hv3).mono ?_;rintro e w' ⟨rfl,hw'⟩;subst w';go_wp2_with fail
              refine (rivalB_c tn ta false _ HSJ.out.2 hv4).mono ?_;rintro e w7 ⟨rfl,hb7⟩;go_wp2;go_ret
              exact ⟨by rw [HRES.out,HF.out];rfl,bt (ba hBW _) hb7⟩
             ·have hPl5:=hP.lt;obtain ⟨hPc0,hPf0,hPc1,hPf1,hPc2,hPf2⟩:=hP.x3;obtain ⟨hBc0,hBf0,hBc1,hBf1,hBc2,hBf2⟩:=hB.x3;go_wp2_with fail
              refine (rvalB_c tb true _ HSJ.out.1 hv3).mono ?_;rintro e w' ⟨rfl,hw'⟩;subst w';go_wp2_with fail
              refine (rivalB_c tn ta true _ HSJ.out.2 hv4).mono ?_;rintro e w7 ⟨rfl,hb7⟩;clear hPc0 hPf0 hPc1 hPf1 hPc2 hPf2;clear hBc0 hBf0 hBc1 hBf1 hBc2 hBf2;have hP7:=(hP.alloc (.cells #[.string tb,.int .i64 tv,.bool tn,.string ta] 86)).after hb7;have hB7:=hB4.after hb7;have hP7l:=hP7.lt;have hB7l:=hB7.lt;obtain ⟨hP7c0,hP7f0,hP7c1,hP7f1,hP7c2,hP7f2⟩:=hP7.x3;obtain ⟨hB7c0,hB7f0,hB7c1,hB7f1,hB7c2,hB7f2,hB7c3,hB7f3⟩:=hB7.x4;cases hd3:decide (tv<0)
              ·cases hd4:decide ((n2:Int)≤tv)
               ·have hx3:decide (0≤tv)=true:=decide_eq_true (by have:=of_decide_eq_false hd3;omega);have hx4:decide (tv<(n2:Int))=true:=decide_eq_true (by have:=of_decide_eq_false hd4;omega);have HX:Hid ((qs.take (j+1)).all (tokB n2)=true):=by rw [Hid,HTJ.out,HJ.out,HTK.out,hv3,hx3,hx4,hv4];rfl
                go_wp2;go_roundw
                case rel=>exact ⟨j+1,by omega,by go_num,HX,bt (ba hbs _) hb7⟩
                case measure=>simp [intOf];omega
               ·have HF:Hid (formB S=false):=HBJ.out (by rw [HTK.out,decide_eq_false (show ¬ tv<(n2:Int) by have:=of_decide_eq_true hd4;omega)];simp);go_wp2;go_ret
                exact ⟨by rw [HRES.out,HF.out];rfl,bt (ba hBW _) hb7⟩
              ·have HF:Hid (formB S=false):=HBJ.out (by rw [HTK.out,decide_eq_false (show ¬ 0≤tv by have:=of_decide_eq_true hd3;omega)];simp);go_wp2;go_ret
               exact ⟨by rw [HRES.out,HF.out];rfl,bt (ba hBW _) hb7⟩
           ·have HE4:Hid (qs.all (tokB n2)=true):=all_end (tokB n2) qs j (by rw [←HN4.out];omega) HJ.out;have HX:Hid ((S.eqs.take (k+1)).all (eokB n1 n2)=true):=by rw [Hid,HT.out,HA.out,HQ.out,hv,hx1,hx2,HE4.out];rfl
            obtain ⟨hPc0,hPf0,hPc1,hPf1,hPc2,hPf2⟩:=hP.x3;obtain ⟨hBc0,hBf0,hBc1,hBf1,hBc2,hBf2⟩:=hB.x3;go_wp2;go_roundw
            case rel=>exact ⟨k+1,by omega,by go_num,HX,bt hbr hbs⟩
            case measure=>simp [intOf];omega
         ·have HF:Hid (formB S=false):=HBAD.out (by rw [HQ.out,decide_eq_false (show ¬ qg<(n1:Int) by have:=of_decide_eq_true hd2;omega)];simp);obtain ⟨hPc0,hPf0,hPc1,hPf1,hPc2,hPf2⟩:=hP.x3;go_wp2_with fail
          refine (rvalB_c qt true _ HSZ.out.1 hv).mono ?_;rintro e w' ⟨rfl,hw'⟩;subst w';go_wp2;go_ret
          exact ⟨by rw [HRES.out,HF.out];rfl,ba hBW _⟩
        ·have HF:Hid (formB S=false):=HBAD.out (by rw [HQ.out,decide_eq_false (show ¬ 0≤qg by have:=of_decide_eq_true hd1;omega)];simp);obtain ⟨hPc0,hPf0,hPc1,hPf1,hPc2,hPf2⟩:=hP.x3;go_wp2_with fail
         refine (rvalB_c qt true _ HSZ.out.1 hv).mono ?_;rintro e w' ⟨rfl,hw'⟩;subst w';go_wp2;go_ret
         exact ⟨by rw [HRES.out,HF.out];rfl,ba hBW _⟩
      ·have HE:Hid (S.eqs.all (eokB n1 n2)=true):=all_end (eokB n1 n2) S.eqs k (by rw [←HN3.out];omega) HA.out;have HF:Hid (formB S=true):=by unfold Hid formB;rw [HG.out,HV.out,←HN1.out,←HN2.out,HE.out];rfl
       obtain ⟨hPc0,hPf0,hPc1,hPf1,hPc2,hPf2⟩:=hP.x3;go_wp2;go_ret
       exact ⟨by rw [HRES.out,HF.out];rfl,hBW⟩
end
section
open Go.RowKit
theorem gcl {w:World} {a:Addr} {v:Value} (hb:a.block<w.heap.size) (h:w.cell? a=some v):∀x:GW w,(Proofs.YtcfjcenmcpankaaGreatDoor.gw x).cell? a=some v:=fun x=>((gw_below x).cell hb).trans h
theorem rmany_c (N:NSta) (v1 v2 v3:Value) (w:World) (hm:NOk N) (hS:NAt w v1 v2 v3 N) :
  Calls Tryz.prog 125 #[.agg #[v1,v2,v3]] w fun e w'=>e=.returned (.bool (decide (8<N.grps.length)))∧Below w.heap.size w w':=by
 obtain ⟨r,hr⟩:∃r:Bool,r=decide (8<N.grps.length):=⟨_,rfl⟩;have HRES:=Lib.hid hr;rw [←hr];clear hr;obtain ⟨a1,c1,a2,c2,a3,c3,rfl,rfl,rfl⟩:=hS.forms;obtain ⟨n1,hn1⟩:∃n,n=N.grps.length:=⟨_,rfl⟩;obtain ⟨n2,hn2⟩:∃n,n=N.vars.length:=⟨_,rfl⟩;obtain ⟨n3,hn3⟩:∃n,n=N.eqs.length:=⟨_,rfl⟩;have HN1:=Lib.hid hn1;have HN2:=Lib.hid hn2;have HN3:=Lib.hid hn3;have l1:n1≤10:=by rw [hn1];exact hm.ng
 have l2:n2≤12:=by rw [hn2];exact hm.nv
 have l3:n3≤12:=by rw [hn3];exact hm.ne
 have HM:=Lib.hid hm;rw [←hn1,←hn2,←hn3] at hS ⊢;clear hm hn1 hn2 hn3;have hP:=Blk.new w #[.slice a1 n1 c1,.slice a2 n2 c2,.slice a3 n3 c3] 29;have hBW:=b1 w (.cells #[.slice a1 n1 c1,.slice a2 n2 c2,.slice a3 n3 c3] 29);replace hS:=hS.after hBW;obtain ⟨hPc0,hPf0,hPc1,hPf1,hPc2,hPf2⟩:=hP.x3;go_enter Tryz.func125,Tryz.ntmps125
 go_wp2;clear hPc0 hPf0 hPc1 hPf1 hPc2 hPf2;generalize w.alloc (.cells #[.slice a1 n1 c1,.slice a2 n2 c2,.slice a3 n3 c3] 29)=w1 at hP hBW hS;replace hP:Blk w1 w.heap.size 29 [.slice a1 n1 c1,.slice a2 n2 c2,.slice a3 n3 c3]:=hP;go_loopw [3] (fun i wr=>∃k:Nat,k≤n3∧i=.int .i64 k∧Below w1.heap.size w1 wr) (fun i _=>n3-(intOf i).toNat)
 case atStart=>exact ⟨0,by omega,rfl,Below.refl _ _⟩
 case round =>
  obtain ⟨k,hk,rfl,hbr⟩:=hrel;obtain ⟨wp,hwp⟩:∃wp,wp=wr:=⟨_,rfl⟩;subst hwp;replace hS:=hS.after hbr;replace hP:=hP.after hbr;replace hBW:=bt hBW hbr;by_cases hlt:k<n3
  ·have hkl:k<N.eqs.length:=by rw [←HN3.out];exact hlt
   have HSZ:=Lib.hid (HM.out.e _ (List.getElem_mem hkl)).2.2.1;obtain ⟨b,o,tv,rfl,hbl,x1,x2,x3,hTs⟩:=hS.eat hkl;obtain ⟨to_,tc,rfl⟩:=hTs.form;generalize (N.eqs[k]'hkl).trms.length=n4 at x3 HSZ;have l4:n4≤12:=HSZ.out;have h4:decide ((64:Int)<(n4:Int))=false:=decide_eq_false (by omega);have h0k:(0:Int)≤(k:Int):=by omega
   have h1k:(k:Int)<(n3:Int):=by omega
   have hPl:=hP.lt;obtain ⟨hPc0,hPf0,hPc1,hPf1,hPc2,hPf2⟩:=hP.x3;go_wp2;go_roundw
   case rel=>exact ⟨k+1,by omega,by go_num,hbr⟩
   case measure=>simp [intOf];omega
  ·have e2:decide ((64:Int)<(n2:Int))=false:=decide_eq_false (by omega);have e3:decide ((64:Int)<(n3:Int))=false:=decide_eq_false (by omega);by_cases h8:8<n1
   ·have e1:decide ((8:Int)<(n1:Int))=true:=decide_eq_true (by omega);have HF:Hid (r=true):=by rw [Hid,HRES.out];exact decide_eq_true (by rw [←HN1.out];exact h8)
    clear h8;obtain ⟨hPc0,hPf0,hPc1,hPf1,hPc2,hPf2⟩:=hP.x3;go_wp2;go_ret
    exact ⟨by rw [HF.out];rfl,hBW⟩
   ·have e1:decide ((8:Int)<(n1:Int))=false:=decide_eq_false (by omega);have HF:Hid (r=false):=by rw [Hid,HRES.out];exact decide_eq_false (by rw [←HN1.out];exact h8)
    clear h8;obtain ⟨hPc0,hPf0,hPc1,hPf1,hPc2,hPf2⟩:=hP.x3;go_wp2;go_ret
    exact ⟨by rw [HF.out];rfl,hBW⟩
theorem relements_c (N:NSta) (v1 v2 v3:Value) (w:World) (hm:NOk N) (hS:NAt w v1 v2 v3 N) :
  Calls Tryz.prog 126 #[.agg #[v1,v2,v3]] w fun e w'=>e=.returned (.bool N.elem)∧Below w.heap.size w w':=by
 obtain ⟨r,hr⟩:∃r:Bool,r=N.elem:=⟨_,rfl⟩;have HRES:=Lib.hid hr;rw [←hr];clear hr;obtain ⟨a1,c1,a2,c2,a3,c3,rfl,rfl,rfl⟩:=hS.forms;obtain ⟨n1,hn1⟩:∃n,n=N.grps.length:=⟨_,rfl⟩;obtain ⟨n2,hn2⟩:∃n,n=N.vars.length:=⟨_,rfl⟩;obtain ⟨n3,hn3⟩:∃n,n=N.eqs.length:=⟨_,rfl⟩;have HN1:=Lib.hid hn1;have HN2:=Lib.hid hn2;have HN3:=Lib.hid hn3;have l1:n1≤10:=by rw [hn1];exact hm.ng
 have l2:n2≤12:=by rw [hn2];exact hm.nv
 have l3:n3≤12:=by rw [hn3];exact hm.ne
 have HM:=Lib.hid hm;rw [←hn1,←hn2,←hn3] at hS ⊢;clear hm hn1 hn2 hn3;have hP:=Blk.new w #[.slice a1 n1 c1,.slice a2 n2 c2,.slice a3 n3 c3] 29;have hBW:=b1 w (.cells #[.slice a1 n1 c1,.slice a2 n2 c2,.slice a3 n3 c3] 29);replace hS:=hS.after hBW;obtain ⟨hPc0,hPf0,hPc1,hPf1,hPc2,hPf2⟩:=hP.x3;go_enter Tryz.func126,Tryz.ntmps126
 go_wp2;clear hPc0 hPf0 hPc1 hPf1 hPc2 hPf2;generalize w.alloc (.cells #[.slice a1 n1 c1,.slice a2 n2 c2,.slice a3 n3 c3] 29)=w1 at hP hBW hS;replace hP:Blk w1 w.heap.size 29 [.slice a1 n1 c1,.slice a2 n2 c2,.slice a3 n3 c3]:=hP;go_loopw [3] (fun i wr=>∃k:Nat,k≤n1∧i=.int .i64 k∧Hid ((N.grps.take k).all gr0=true)∧Below w1.heap.size w1 wr) (fun i _=>n1-(intOf i).toNat)
 case atStart=>exact ⟨0,by omega,rfl,rfl,Below.refl _ _⟩
 case round =>
  obtain ⟨k,hk,rfl,HA,hbr⟩:=hrel;obtain ⟨wp,hwp⟩:∃wp,wp=wr:=⟨_,rfl⟩;subst hwp;replace hS:=hS.after hbr;replace hP:=hP.after hbr;replace hBW:=bt hBW hbr;by_cases hlt:k<n1
  ·have hkl:k<N.grps.length:=by rw [←HN1.out];exact hlt
   have HSZ:=Lib.hid (HM.out.g _ (List.getElem_mem hkl));have HT:=Lib.hid (all_take gr0 N.grps k hkl);have HBAD:Hid (gr0 (N.grps[k]'hkl)=false→N.elem=false):=fun h=>by unfold NSta.elem;rw [all_bad gr0 N.grps k hkl h];rfl
   have HOG:Hid (gr0 (N.grps[k]'hkl)=(grpE (N.grps[k]'hkl).1 (N.grps[k]'hkl).2==0)):=rfl;obtain ⟨b,o,rfl,hbl,x1,x2⟩:=hS.gat hkl;generalize gr0 (N.grps[k]'hkl)=ok at HT HOG HBAD;generalize (N.grps[k]'hkl).1=s1 at x1 HSZ HOG;generalize (N.grps[k]'hkl).2=s2 at x2 HSZ HOG;have h0k:(0:Int)≤(k:Int):=by omega
   have h1k:(k:Int)<(n1:Int):=by omega
   have hPl:=hP.lt;by_cases hg:grpE s1 s2=0
   ·have HG:=Lib.hid hg;have HX:Hid ((N.grps.take (k+1)).all gr0=true):=by rw [Hid,HT.out,HA.out,HOG.out,hg];rfl
    clear HBAD hg;obtain ⟨hPc0,hPf0,hPc1,hPf1,hPc2,hPf2⟩:=hP.x3;go_wp2_with fail
    refine (rpcheckV_c s1 s2 0 _ HSZ.out.1 (lt128 HSZ.out.2) HG.out).mono ?_;rintro e w2 ⟨rfl,hb2⟩;go_wp2;go_roundw
    case rel=>exact ⟨k+1,by omega,by go_num,HX,bt hbr hb2⟩
    case measure=>simp [intOf];omega
   ·have HG:=Lib.hid (grpE_13 hg);have HF:Hid (N.elem=false):=HBAD.out (by rw [HOG.out];simpa using hg);clear HBAD hg;obtain ⟨hPc0,hPf0,hPc1,hPf1,hPc2,hPf2⟩:=hP.x3;go_wp2_with fail
    refine (rpcheckV_c s1 s2 13 _ HSZ.out.1 (lt128 HSZ.out.2) HG.out).mono ?_;rintro e w2 ⟨rfl,hb2⟩;go_wp2;go_ret
    exact ⟨by rw [HRES.out,HF.out];rfl,bt hBW hb2⟩
  ·have HG:Hid (N.grps.all gr0=true):=all_end gr0 N.grps k (by rw [←HN1.out];omega) HA.out;clear hbr;obtain ⟨hPc0,hPf0,hPc1,hPf1,hPc2,hPf2⟩:=hP.x3;go_wp2;clear hPc0 hPf0 hPc1 hPf1 hPc2 hPf2;clear HA hlt hk;go_loopw [4] (fun i wr=>∃k:Nat,k≤n3∧i=.int .i64 k∧Hid ((N.eqs.take k).all (elemQ N)=true)∧Below wp.heap.size wp wr) (fun i _=>n3-(intOf i).toNat)
   case atStart=>exact ⟨0,by omega,rfl,rfl,Below.refl _ _⟩
   case round =>
    obtain ⟨k,hk,rfl,HA,hbr⟩:=hrel;obtain ⟨wt,hwp⟩:∃wp,wp=wr:=⟨_,rfl⟩;subst hwp;replace hS:=hS.after hbr;replace hP:=hP.after hbr;replace hBW:=bt hBW hbr;by_cases hlt:k<n3
    ·have hkl:k<N.eqs.length:=by rw [←HN3.out];exact hlt
     have HT:=Lib.hid (all_take (elemQ N) N.eqs k hkl);have HBAD:Hid (elemQ N (N.eqs[k]'hkl)=false→N.elem=false):=fun h=>by unfold NSta.elem;rw [all_bad (elemQ N) N.eqs k hkl h];simp
     have HSZ:=Lib.hid (HM.out.e _ (List.getElem_mem hkl));obtain ⟨b,o,tv,rfl,hbl,x1,x2,x3,hTs⟩:=hS.eat hkl;generalize (N.eqs[k]'hkl)=q at x1 x2 x3 hTs HSZ HT HBAD;have hgl:=HSZ.out.1;have hgn:q.grp<n1:=by rw [HN1.out];exact hgl
     have HGP:=Lib.hid (gp_at N q hgl);have HGO:Hid (gr0 (N.grps[q.grp]'hgl)=true):=List.all_eq_true.1 HG.out _ (List.getElem_mem hgl);have HGZ:=Lib.hid (HM.out.g _ (List.getElem_mem hgl));obtain ⟨b',o',rfl,hbl',y1,y2⟩:=hS.gat hgl;have HG0:Hid (grpE (N.grps[q.grp]'hgl).1 (N.grps[q.grp]'hgl).2=0):=by have:=HGO.out;unfold Hid;simpa [gr0] using this
     have HEQ:Hid (elemQ N q=(hasB (N.grps[q.grp]'hgl).1 (N.grps[q.grp]'hgl).2 q.tgt&&q.trms.all (hasQ (N.grps[q.grp]'hgl)))):=by rw [Hid,elemQ,HGP.out]
     generalize elemQ N q=ek at HT HBAD HEQ;generalize (N.grps[q.grp]'hgl)=gg at y1 y2 HGZ HG0 HEQ;clear hgl HGP HGO;obtain ⟨qg,qt,qs⟩:=q;simp only [] at x1 x2 x3 hTs HSZ HEQ hgn y1 y2;obtain ⟨to_,tc,rfl⟩:=hTs.form;obtain ⟨n4,hn4⟩:∃n,n=qs.length:=⟨_,rfl⟩;have HN4:=Lib.hid hn4;rw [←hn4] at x3 hTs;clear hn4;obtain ⟨p,qq⟩:=gg;simp only [] at y1 y2 HGZ HG0 HEQ;have hB:=Blk.new wt #[.int .i64 (qg:Int),.string (E qt),.slice to_ n4 tc] 84;have hC:=Blk.new (wt.alloc (.cells #[.int .i64 (qg:Int),.string (E qt),.slice to_ n4 tc] 84)) #[.string (E p),.string (E qq)] 90;have h0k:(0:Int)≤(k:Int):=by omega
     have h1k:(k:Int)<(n3:Int):=by omega
     have h0g:(0:Int)≤(qg:Int):=by omega
     have h1g:(qg:Int)<(n1:Int):=by omega
     have hPl:=hP.lt;have hBl:=hB.lt;have hCl:=hC.lt;cases hh:hasB p qq qt
     ·have HF:Hid (N.elem=false):=HBAD.out (by rw [HEQ.out,hh];rfl);have HH:=Lib.hid hh;clear hh;obtain ⟨hPc0,hPf0,hPc1,hPf1,hPc2,hPf2⟩:=hP.x3;go_wp2_with fail
      refine (rHasV_c p qq qt false _ HGZ.out.1 (lt128 HGZ.out.2) HG0.out (Nat.lt_of_lt_of_le HSZ.out.2.1 (by decide)) HH.out).mono ?_;rintro e w2 ⟨rfl,hb2⟩;go_wp2;go_ret
      exact ⟨by rw [HRES.out,HF.out];rfl,bt (ba (ba hBW _) _) hb2⟩
     ·have HH:=Lib.hid hh;have hB2:=hB.alloc (.cells #[.string (E p),.string (E qq)] 90);have hC2:Blk ((wt.alloc (.cells #[.int .i64 (qg:Int),.string (E qt),.slice to_ n4 tc] 84)).alloc (.cells #[.string (E p),.string (E qq)] 90)) (wt.heap.size+1) 90 [.string (E p),.string (E qq)]:=by simpa using hC
      replace hTs:=hTs.after (b2 wt (.cells #[.int .i64 (qg:Int),.string (E qt),.slice to_ n4 tc] 84) (.cells #[.string (E p),.string (E qq)] 90));have hP2:=(hP.alloc (.cells #[.int .i64 (qg:Int),.string (E qt),.slice to_ n4 tc] 84)).alloc (.cells #[.string (E p),.string (E qq)] 90);have hBW2:=ba (ba hBW (.cells #[.int .i64 (qg:Int),.string (E qt),.slice to_ n4 tc] 84)) (.cells #[.string (E p),.string (E qq)] 90);have hbr2:=ba (ba hbr (.cells #[.int .i64 (qg:Int),.string (E qt),.slice to_ n4 tc] 84)) (.cells #[.string (E p),.string (E qq)] 90);clear hh;obtain ⟨hPc0,hPf0,hPc1,hPf1,hPc2,hPf2⟩:=hP.x3;go_wp2_with fail
      refine (rHasV_c p qq qt true _ HGZ.out.1 (lt128 HGZ.out.2) HG0.out (Nat.lt_of_lt_of_le HSZ.out.2.1 (by decide)) HH.out).mono ?_;rintro e w2 ⟨rfl,hb2⟩;clear hPc0 hPf0 hPc1 hPf1 hPc2 hPf2;clear hP hB hC hBl hCl hPl;replace hB2:=hB2.after hb2;replace hC2:=hC2.after hb2;replace hP2:=hP2.after hb2;replace hTs:=hTs.after hb2;replace hBW2:=bt hBW2 hb2;replace hbr2:=bt hbr2 hb2;clear hb2 hBW hbr hS;have hBl:=hB2.lt;have hCl:=hC2.lt;obtain ⟨hB2c0,hB2f0,hB2c1,hB2f1,hB2c2,hB2f2⟩:=hB2.x3;go_wp2;clear hB2c0 hB2f0 hB2c1 hB2f1 hB2c2 hB2f2;have l4:n4≤12:=by rw [HN4.out];exact HSZ.out.2.2.1
      go_loopw [7] (fun i wr=>∃k:Nat,k≤n4∧i=.int .i64 k∧Hid ((qs.take k).all (hasQ (p,qq))=true)∧Below w2.heap.size w2 wr) (fun i _=>n4-(intOf i).toNat)
      case atStart=>exact ⟨0,by omega,rfl,rfl,Below.refl _ _⟩
      case round =>
       obtain ⟨j,hj,rfl,HJ,hbs⟩:=hrel;obtain ⟨wv,hwv⟩:∃wv,wv=wr:=⟨_,rfl⟩;subst hwv;replace hB2:=hB2.after hbs;replace hC2:=hC2.after hbs;replace hTs:=hTs.after hbs;replace hBW2:=bt hBW2 hbs;have hBl:=hB2.lt;have hCl:=hC2.lt;by_cases hltj:j<n4
       ·have hjl:j<qs.length:=by rw [←HN4.out];exact hltj
        have HSJ:=Lib.hid (HSZ.out.2.2.2 _ (List.getElem_mem hjl)).1;have HTJ:=Lib.hid (all_take (hasQ (p,qq)) qs j hjl);have HBJ:Hid (hasQ (p,qq) (qs[j]'hjl)=false→N.elem=false):=fun h=>HBAD.out (by rw [HEQ.out,all_bad (hasQ (p,qq)) qs j hjl h];simp)
        obtain ⟨b4,o4,rfl,hbl4,z1,z2,z3,z4⟩:=hTs.at_ hjl;have HHQ:Hid (hasQ (p,qq) (qs[j]'hjl)=hasB p qq (qs[j]'hjl).base):=rfl;generalize hasQ (p,qq) (qs[j]'hjl)=hk0 at HTJ HBJ HHQ;generalize (qs[j]'hjl).base=tb at z1 HSJ HHQ;have h0j:(0:Int)≤(j:Int):=by omega
        have h1j:(j:Int)<(n4:Int):=by omega
        cases hh:hasB p qq tb
        ·have HF:Hid (N.elem=false):=HBJ.out (by rw [HHQ.out,hh]);have HH2:=Lib.hid hh;clear hh;have g1:=gcl (a:=⟨b4,o4+j*4,none⟩) hbl4 z1;obtain ⟨hB2c0,hB2f0,hB2c1,hB2f1,hB2c2,hB2f2⟩:=hB2.x3;obtain ⟨hC2c0,hC2f0,hC2c1,hC2f1⟩:=hC2.x2;have hB2g0:=hB2.gcell 0;have hB2g1:=hB2.gcell 1;have hB2g2:=hB2.gcell 2;have hC2g0:=hC2.gcell 0;have hC2g1:=hC2.gcell 1;go_wp2_with fail
         refine wp_region_gw (by kernel_rfl) (by kernel_rfl) ?_;repeat (go_big_quiet_step (first | (go_at_call 66;exact gw_of (rHasV_c p qq tb false _ HGZ.out.1 (lt128 HGZ.out.2) HG0.out (Nat.lt_of_lt_of_le HSJ.out (by decide)) HH2.out))))
         refine wpQuiet_nil ?_;rintro w5 ⟨xw5,rfl⟩;have hb5:=gw_below xw5;generalize gw xw5=w5 at hb5;go_wp2;go_ret
         exact ⟨by rw [HRES.out,HF.out];rfl,bt hBW2 hb5⟩
        ·have HX:Hid ((qs.take (j+1)).all (hasQ (p,qq))=true):=by rw [Hid,HTJ.out,HJ.out,HHQ.out,hh];rfl
         have HH2:=Lib.hid hh;clear hh;have g1:=gcl (a:=⟨b4,o4+j*4,none⟩) hbl4 z1;obtain ⟨hB2c0,hB2f0,hB2c1,hB2f1,hB2c2,hB2f2⟩:=hB2.x3;obtain ⟨hC2c0,hC2f0,hC2c1,hC2f1⟩:=hC2.x2;have hB2g0:=hB2.gcell 0;have hB2g1:=hB2.gcell 1;have hB2g2:=hB2.gcell 2;have hC2g0:=hC2.gcell 0;have hC2g1:=hC2.gcell 1;go_wp2_with fail
         refine wp_region_gw (by kernel_rfl) (by kernel_rfl) ?_;repeat (go_big_quiet_step (first | (go_at_call 66;exact gw_of (rHasV_c p qq tb true _ HGZ.out.1 (lt128 HGZ.out.2) HG0.out (Nat.lt_of_lt_of_le HSJ.out (by decide)) HH2.out))))
         refine wpQuiet_nil ?_;rintro w5 ⟨xw5,rfl⟩;have hb5:=gw_below xw5;generalize gw xw5=w5 at hb5;go_wp2;go_roundw
         case rel=>exact ⟨j+1,by omega,by go_num,HX,bt hbs hb5⟩
         case measure=>simp [intOf];omega
       ·have HE4:Hid (qs.all (hasQ (p,qq))=true):=all_end (hasQ (p,qq)) qs j (by rw [←HN4.out];omega) HJ.out;have HX:Hid ((N.eqs.take (k+1)).all (elemQ N)=true):=by rw [Hid,HT.out,HA.out,HEQ.out,HH.out,HE4.out];rfl
        obtain ⟨hB2c0,hB2f0,hB2c1,hB2f1,hB2c2,hB2f2⟩:=hB2.x3;go_wp2;go_roundw
        case rel=>exact ⟨k+1,by omega,by go_num,HX,bt hbr2 hbs⟩
        case measure=>simp [intOf];omega
    ·have HE:Hid (N.eqs.all (elemQ N)=true):=all_end (elemQ N) N.eqs k (by rw [←HN3.out];omega) HA.out;have HF:Hid (N.elem=true):=by unfold Hid NSta.elem;rw [HG.out,HE.out];rfl
     obtain ⟨hPc0,hPf0,hPc1,hPf1,hPc2,hPf2⟩:=hP.x3;go_wp2;go_ret
     exact ⟨by rw [HRES.out,HF.out];rfl,hBW⟩
end
section
open Go.RowKit
def badT (N:NSta) (g:Nat × Nat) (t:NTrm):Bool:=N.tz t&&vz g.2
theorem badT_any (N:NSta) (g:Nat × Nat) (l:List NTrm):l.any (badT N g)=(vz g.2&&l.any N.tz):=by
 induction l with
 | nil=>simp
 | cons x t ih=>rw [List.any_cons,List.any_cons,ih];simp only [badT];cases vz g.2 <;> cases N.tz x <;> simp
theorem gq_eq (n:Nat) (g:Nat × Nat):gq n g=(!(vz g.2)&&g.2 != n):=rfl
theorem rtyped_c (N:NSta) (v1 v2 v3:Value) (w:World) (hm:NOk N) (hS:NAt w v1 v2 v3 N) :
  Calls Tryz.prog 127 #[.agg #[v1,v2,v3]] w fun e w'=>e=.returned (.bool N.typ)∧Below w.heap.size w w':=by
 obtain ⟨r,hr⟩:∃r:Bool,r=N.typ:=⟨_,rfl⟩;have HRES:=Lib.hid hr;rw [←hr];clear hr;obtain ⟨a1,c1,a2,c2,a3,c3,rfl,rfl,rfl⟩:=hS.forms;obtain ⟨n1,hn1⟩:∃n,n=N.grps.length:=⟨_,rfl⟩;obtain ⟨n2,hn2⟩:∃n,n=N.vars.length:=⟨_,rfl⟩;obtain ⟨n3,hn3⟩:∃n,n=N.eqs.length:=⟨_,rfl⟩;have HN1:=Lib.hid hn1;have HN2:=Lib.hid hn2;have HN3:=Lib.hid hn3;have l1:n1≤10:=by rw [hn1];exact hm.ng
 have l2:n2≤12:=by rw [hn2];exact hm.nv
 have l3:n3≤12:=by rw [hn3];exact hm.ne
 have HM:=Lib.hid hm;rw [←hn1,←hn2,←hn3] at hS ⊢;clear hm hn1 hn2 hn3;have hP:=Blk.new w #[.slice a1 n1 c1,.slice a2 n2 c2,.slice a3 n3 c3] 29;have hBW:=b1 w (.cells #[.slice a1 n1 c1,.slice a2 n2 c2,.slice a3 n3 c3] 29);replace hS:=hS.after hBW;obtain ⟨hPc0,hPf0,hPc1,hPf1,hPc2,hPf2⟩:=hP.x3;go_enter Tryz.func127,Tryz.ntmps127
 go_wp2;clear hPc0 hPf0 hPc1 hPf1 hPc2 hPf2;generalize w.alloc (.cells #[.slice a1 n1 c1,.slice a2 n2 c2,.slice a3 n3 c3] 29)=w1 at hP hBW hS;replace hP:Blk w1 w.heap.size 29 [.slice a1 n1 c1,.slice a2 n2 c2,.slice a3 n3 c3]:=hP;go_loopw [3,4] (fun s i wr=>∃k:Nat,∃sb:Bool,k≤n2∧i=.int .i64 k∧s=.bool sb∧Hid (sb=(N.vars.take k).any vz)∧Below w1.heap.size w1 wr) (fun _ i _=>n2-(intOf i).toNat)
 case atStart=>exact ⟨0,false,by omega,rfl,rfl,rfl,Below.refl _ _⟩
 case round =>
  obtain ⟨k,sb,hk,rfl,rfl,HA,hbr⟩:=hrel;obtain ⟨wp,hwp⟩:∃wp,wp=wr:=⟨_,rfl⟩;subst hwp;replace hS:=hS.after hbr;replace hP:=hP.after hbr;replace hBW:=bt hBW hbr;by_cases hlt:k<n2
  ·have hkl:k<N.vars.length:=by rw [←HN2.out];exact hlt
   have HT:=Lib.hid (any_take vz N.vars k hkl);obtain ⟨b,o,rfl,hbl,x1⟩:=hS.vat hkl;have HV:Hid (vz (N.vars[k]'hkl)=vz (N.vars[k]'hkl)):=rfl;generalize (N.vars[k]'hkl)=s1 at x1 HT;have h0k:(0:Int)≤(k:Int):=by omega
   have h1k:(k:Int)<(n2:Int):=by omega
   have hPl:=hP.lt;cases sb
   ·rcases Nat.eq_zero_or_pos s1 with rfl | h0
    ·have hz:=zE (n:=0) rfl;have HX:Hid (true=(N.vars.take (k+1)).any vz):=by rw [Hid,HT.out,←HA.out];rfl
     obtain ⟨hPc0,hPf0,hPc1,hPf1,hPc2,hPf2⟩:=hP.x3;go_wp2;go_roundw
     case rel=>exact ⟨k+1,true,by omega,by go_num,rfl,HX,hbr⟩
     case measure=>simp [intOf];omega
    ·have hz:=nzE h0;have HX:Hid (false=(N.vars.take (k+1)).any vz):=by rw [Hid,HT.out,←HA.out,vz_pos h0];rfl
     clear h0;obtain ⟨hPc0,hPf0,hPc1,hPf1,hPc2,hPf2⟩:=hP.x3;go_wp2;go_roundw
     case rel=>exact ⟨k+1,false,by omega,by go_num,rfl,HX,hbr⟩
     case measure=>simp [intOf];omega
   ·have HX:Hid (true=(N.vars.take (k+1)).any vz):=by rw [Hid,HT.out,←HA.out];rfl
    obtain ⟨hPc0,hPf0,hPc1,hPf1,hPc2,hPf2⟩:=hP.x3;go_wp2;go_roundw
    case rel=>exact ⟨k+1,true,by omega,by go_num,rfl,HX,hbr⟩
    case measure=>simp [intOf];omega
  ·have HAV:Hid (sb=N.vars.any vz):=by
    have h:(N.vars.take k).any vz=N.vars.any vz:=by rw [List.take_of_length_le (by rw [←HN2.out];omega)]
    rw [Hid,HA.out,h]
   clear hbr HA;cases sb
   ·have HF:=Lib.hid (typ_vars N HAV.out.symm);obtain ⟨hPc0,hPf0,hPc1,hPf1,hPc2,hPf2⟩:=hP.x3;go_wp2;go_ret
    exact ⟨by rw [HRES.out,HF.out];rfl,hBW⟩
   ·have HVT:Hid (N.vars.any vz=true):=HAV.out.symm;clear HAV;have hPl:=hP.lt;obtain ⟨hPc0,hPf0,hPc1,hPf1,hPc2,hPf2⟩:=hP.x3;go_wp2_with fail
    refine (rorder15_c N _ _ _ _ HM.out hS).mono ?_;rintro e w3 ⟨rfl,hb3⟩;clear hPc0 hPf0 hPc1 hPf1 hPc2 hPf2;replace hP:=hP.after hb3;replace hS:=hS.after hb3;replace hBW:=bt hBW hb3;clear hb3 hPl;have hPl:=hP.lt;by_cases ho:N.ord=0
    ·have hz:=zE ho;have HF:=Lib.hid (typ_ord N HVT.out ho);clear ho;obtain ⟨hPc0,hPf0,hPc1,hPf1,hPc2,hPf2⟩:=hP.x3;go_wp2;go_ret
     exact ⟨by rw [HRES.out,HF.out];rfl,hBW⟩
    ·have hz:=nzE (Nat.pos_of_ne_zero ho);have HO:=Lib.hid ho;clear ho;obtain ⟨hPc0,hPf0,hPc1,hPf1,hPc2,hPf2⟩:=hP.x3;go_wp2;clear hPc0 hPf0 hPc1 hPf1 hPc2 hPf2;clear hz;go_loopw [6] (fun i wr=>∃k:Nat,k≤n1∧i=.int .i64 k∧Hid ((N.grps.take k).any (gq N.ord)=false)∧Below w3.heap.size w3 wr) (fun i _=>n1-(intOf i).toNat)
     case atStart=>exact ⟨0,by omega,rfl,rfl,Below.refl _ _⟩
     case round =>
      obtain ⟨k,hk,rfl,HA,hbr⟩:=hrel;obtain ⟨wq,hwq⟩:∃wq,wq=wr:=⟨_,rfl⟩;subst hwq;replace hS:=hS.after hbr;replace hP:=hP.after hbr;replace hBW:=bt hBW hbr;clear hPl;have hPl:=hP.lt;by_cases hlt:k<n1
      ·have hkl:k<N.grps.length:=by rw [←HN1.out];exact hlt
       have HT:=Lib.hid (any_take (gq N.ord) N.grps k hkl);have HBAD:Hid (gq N.ord (N.grps[k]'hkl)=true→N.typ=false):=fun h=>typ_gq N HVT.out (any_hit _ _ k hkl h)
       have HGQ:=Lib.hid (gq_eq N.ord (N.grps[k]'hkl));obtain ⟨b,o,rfl,hbl,x1,x2⟩:=hS.gat hkl;generalize gq N.ord (N.grps[k]'hkl)=gk at HT HBAD HGQ;generalize (N.grps[k]'hkl).2=s2 at x2 HGQ;have h0k:(0:Int)≤(k:Int):=by omega
       have h1k:(k:Int)<(n1:Int):=by omega
       rcases Nat.eq_zero_or_pos s2 with rfl | h0
       ·have hz:=zE (n:=0) rfl;have HX:Hid ((N.grps.take (k+1)).any (gq N.ord)=false):=by rw [Hid,HT.out,HA.out,HGQ.out];rfl
        clear HBAD;obtain ⟨hPc0,hPf0,hPc1,hPf1,hPc2,hPf2⟩:=hP.x3;go_wp2;go_roundw
        case rel=>exact ⟨k+1,by omega,by go_num,HX,hbr⟩
        case measure=>simp [intOf];omega
       ·have hz:=nzE h0;by_cases hq:s2=N.ord
        ·have h1:=eqT hq;have h2:=eqE hq;have HX:Hid ((N.grps.take (k+1)).any (gq N.ord)=false):=by rw [Hid,HT.out,HA.out,HGQ.out,hq];simp
         clear HBAD hq h0;obtain ⟨hPc0,hPf0,hPc1,hPf1,hPc2,hPf2⟩:=hP.x3;go_wp2;go_roundw
         case rel=>exact ⟨k+1,by omega,by go_num,HX,hbr⟩
         case measure=>simp [intOf];omega
        ·have h1:=eqF hq;have h2:=neE hq;have HF:Hid (N.typ=false):=HBAD.out (by rw [HGQ.out,vz_pos h0];simp [hq]);clear HBAD hq h0;obtain ⟨hPc0,hPf0,hPc1,hPf1,hPc2,hPf2⟩:=hP.x3;go_wp2;go_ret
         exact ⟨by rw [HRES.out,HF.out];rfl,hBW⟩
      ·have HGQ:Hid (N.grps.any (gq N.ord)=false):=any_end _ _ k (by rw [←HN1.out];omega) HA.out;clear hbr HA;obtain ⟨hPc0,hPf0,hPc1,hPf1,hPc2,hPf2⟩:=hP.x3;go_wp2;clear hPc0 hPf0 hPc1 hPf1 hPc2 hPf2;go_loopw [7] (fun i wr=>∃k:Nat,k≤n3∧i=.int .i64 k∧Hid ((N.eqs.take k).all (kindQ N)=true)∧Below wq.heap.size wq wr) (fun i _=>n3-(intOf i).toNat)
       case atStart=>exact ⟨0,by omega,rfl,rfl,Below.refl _ _⟩
       case round =>
        obtain ⟨k,hk,rfl,HA,hbr⟩:=hrel;obtain ⟨wt,hwt⟩:∃wt,wt=wr:=⟨_,rfl⟩;subst hwt;replace hS:=hS.after hbr;replace hP:=hP.after hbr;replace hBW:=bt hBW hbr;clear hPl;have hPl:=hP.lt;by_cases hlt:k<n3
        ·have hkl:k<N.eqs.length:=by rw [←HN3.out];exact hlt
         have HT:=Lib.hid (all_take (kindQ N) N.eqs k hkl);have HBAD:=Lib.hid (typ_kind N HVT.out k hkl);have HSZ:=Lib.hid (HM.out.e _ (List.getElem_mem hkl));obtain ⟨b,o,tv,rfl,hbl,x1,x2,x3,hTs⟩:=hS.eat hkl;generalize (N.eqs[k]'hkl)=q at x1 x2 x3 hTs HSZ HT HBAD;have hgl:=HSZ.out.1;have hgn:q.grp<n1:=by rw [HN1.out];exact hgl
         have HGP:=Lib.hid (gp_at N q hgl);obtain ⟨b',o',rfl,hbl',y1,y2⟩:=hS.gat hgl;have HEQ:Hid (kindQ N q=(!(q.trms.any (badT N (N.grps[q.grp]'hgl))))):=by rw [Hid,kindQ,HGP.out,badT_any,Bool.not_and]
         generalize kindQ N q=ek at HT HBAD HEQ;generalize (N.grps[q.grp]'hgl)=gg at y1 y2 HEQ;clear hgl HGP;obtain ⟨qg,qt,qs⟩:=q;simp only [] at x1 x2 x3 hTs HSZ HEQ hgn y1 y2;obtain ⟨to_,tc,rfl⟩:=hTs.form;obtain ⟨n4,hn4⟩:∃n,n=qs.length:=⟨_,rfl⟩;have HN4:=Lib.hid hn4;rw [←hn4] at x3 hTs;clear hn4;obtain ⟨p,qq⟩:=gg;simp only [] at y1 y2 HEQ;have l4:n4≤12:=by rw [HN4.out];exact HSZ.out.2.2.1
         have hB:=Blk.new wt #[.int .i64 (qg:Int),.string (E qt),.slice to_ n4 tc] 84;have h0k:(0:Int)≤(k:Int):=by omega
         have h1k:(k:Int)<(n3:Int):=by omega
         have h0g:(0:Int)≤(qg:Int):=by omega
         have h1g:(qg:Int)<(n1:Int):=by omega
         obtain ⟨hPc0,hPf0,hPc1,hPf1,hPc2,hPf2⟩:=hP.x3;go_wp2;clear hPc0 hPf0 hPc1 hPf1 hPc2 hPf2;replace hP:=hP.alloc (.cells #[.int .i64 (qg:Int),.string (E qt),.slice to_ n4 tc] 84);replace hTs:=hTs.after (b1 _ (.cells #[.int .i64 (qg:Int),.string (E qt),.slice to_ n4 tc] 84));have hS2:=hS.after (b1 _ (.cells #[.int .i64 (qg:Int),.string (E qt),.slice to_ n4 tc] 84));replace hBW:=ba hBW (.cells #[.int .i64 (qg:Int),.string (E qt),.slice to_ n4 tc] 84);replace hbr:=ba hbr (.cells #[.int .i64 (qg:Int),.string (E qt),.slice to_ n4 tc] 84);have y2':(wt.alloc (.cells #[.int .i64 (qg:Int),.string (E qt),.slice to_ n4 tc] 84)).cell? ⟨b',o'+qg*2+1,none⟩=some (.string (E qq)):=((b1 wt (.cells #[.int .i64 (qg:Int),.string (E qt),.slice to_ n4 tc] 84)).cell (p:=⟨b',o'+qg*2+1,none⟩) hbl').trans y2;have hbl2:b'<(wt.alloc (.cells #[.int .i64 (qg:Int),.string (E qt),.slice to_ n4 tc] 84)).heap.size:=by simp;omega
         clear hS hPl y1 y2 x1 x2 x3;generalize wt.alloc (.cells #[.int .i64 (qg:Int),.string (E qt),.slice to_ n4 tc] 84)=wu at hP hTs hS2 hBW hbr hB y2' hbl2;replace hB:Blk wu wt.heap.size 84 [.int .i64 (qg:Int),.string (E qt),.slice to_ n4 tc]:=hB;go_loopw [9] (fun i wr=>∃k:Nat,k≤n4∧i=.int .i64 k∧Hid ((qs.take k).any (badT N (p,qq))=false)∧Below wu.heap.size wu wr) (fun i _=>n4-(intOf i).toNat)
         case atStart=>exact ⟨0,by omega,rfl,rfl,Below.refl _ _⟩
         case round =>
          obtain ⟨j,hj,rfl,HJ,hbs⟩:=hrel;obtain ⟨wv,hwv⟩:∃wv,wv=wr:=⟨_,rfl⟩;subst hwv;replace hP:=hP.after hbs;replace hB:=hB.after hbs;replace hTs:=hTs.after hbs;replace hS2:=hS2.after hbs;replace hBW:=bt hBW hbs;have y3:=(hbs.cell (p:=⟨b',o'+qg*2+1,none⟩) hbl2).trans y2';have hbl3:=Nat.lt_of_lt_of_le hbl2 hbs.size;have hPl:=hP.lt;have hBl:=hB.lt;by_cases hltj:j<n4
          ·have hjl:j<qs.length:=by rw [←HN4.out];exact hltj
           have HSJ:=Lib.hid (HSZ.out.2.2.2 _ (List.getElem_mem hjl)).2.1;have HTJ:=Lib.hid (any_take (badT N (p,qq)) qs j hjl);have HBJ:Hid (badT N (p,qq) (qs[j]'hjl)=true→N.typ=false):=fun h=>HBAD.out (by rw [HEQ.out,any_hit _ qs j hjl h];rfl)
           have HTZ:Hid (badT N (p,qq) (qs[j]'hjl)=(vz (N.vars.getD (qs[j]'hjl).var 0)&&vz qq)):=rfl;obtain ⟨b4,o4,rfl,hbl4,z1,z2,z3,z4⟩:=hTs.at_ hjl;generalize badT N (p,qq) (qs[j]'hjl)=bk at HTJ HBJ HTZ;generalize (qs[j]'hjl).var=vv at z2 HSJ HTZ;have hvl:=HSJ.out;obtain ⟨b5,o5,rfl,hbl5,u1⟩:=hS2.vat hvl
           have HTZ2:Hid (bk=(vz (N.vars[vv]'hvl)&&vz qq)):=by
            rw [Hid,HTZ.out,List.getD_eq_getElem?_getD,List.getElem?_eq_getElem hvl];rfl
           generalize (N.vars[vv]'hvl)=sv at u1 HTZ2;have hvn:vv<n2:=by rw [HN2.out];exact hvl
           have h0j:(0:Int)≤(j:Int):=by omega
           have h1j:(j:Int)<(n4:Int):=by omega
           have h0v:(0:Int)≤(vv:Int):=by omega
           have h1v:(vv:Int)<(n2:Int):=by omega
           clear hvl HTZ;have g1:=gcl (a:=⟨b4,o4+j*4+1,none⟩) hbl4 z2;have g2:=gcl (a:=⟨b5,o5+vv,none⟩) hbl5 u1;have g3:=gcl (a:=⟨b',o'+qg*2+1,none⟩) hbl3 y3;rcases Nat.eq_zero_or_pos sv with rfl | h0
           ·have hz:=zE (n:=0) rfl;rcases Nat.eq_zero_or_pos qq with rfl | h1
            ·have HF:Hid (N.typ=false):=HBJ.out (by rw [HTZ2.out];rfl);obtain ⟨hPc0,hPf0,hPc1,hPf1,hPc2,hPf2⟩:=hP.x3;obtain ⟨hBc0,hBf0,hBc1,hBf1,hBc2,hBf2⟩:=hB.x3;have hPg0:=hP.gcell 0;have hPg1:=hP.gcell 1;have hPg2:=hP.gcell 2;have hBg0:=hB.gcell 0;have hBg1:=hB.gcell 1;have hBg2:=hB.gcell 2;go_wp2_with fail
             refine wp_region_gw (by kernel_rfl) (by kernel_rfl) ?_;repeat (go_big_quiet_step (first | (fail)))
             refine wpQuiet_nil ?_;rintro w5 ⟨xw5,rfl⟩;have hb5:=gw_below xw5;generalize gw xw5=w5 at hb5;go_wp2;go_ret
             exact ⟨by rw [HRES.out,HF.out];rfl,bt hBW hb5⟩
            ·have hz1:=nzE h1;have HX:Hid ((qs.take (j+1)).any (badT N (p,qq))=false):=by rw [Hid,HTJ.out,HJ.out,HTZ2.out,vz_pos h1];rfl
             clear h1;obtain ⟨hPc0,hPf0,hPc1,hPf1,hPc2,hPf2⟩:=hP.x3;obtain ⟨hBc0,hBf0,hBc1,hBf1,hBc2,hBf2⟩:=hB.x3;have hPg0:=hP.gcell 0;have hPg1:=hP.gcell 1;have hPg2:=hP.gcell 2;have hBg0:=hB.gcell 0;have hBg1:=hB.gcell 1;have hBg2:=hB.gcell 2;go_wp2_with fail
             refine wp_region_gw (by kernel_rfl) (by kernel_rfl) ?_;repeat (go_big_quiet_step (first | (fail)))
             refine wpQuiet_nil ?_;rintro w5 ⟨xw5,rfl⟩;have hb5:=gw_below xw5;generalize gw xw5=w5 at hb5;go_wp2;go_roundw
             case rel=>exact ⟨j+1,by omega,by go_num,HX,bt hbs hb5⟩
             case measure=>simp [intOf];omega
           ·have hz:=nzE h0;have HX:Hid ((qs.take (j+1)).any (badT N (p,qq))=false):=by rw [Hid,HTJ.out,HJ.out,HTZ2.out,vz_pos h0];rfl
            clear h0;obtain ⟨hPc0,hPf0,hPc1,hPf1,hPc2,hPf2⟩:=hP.x3;obtain ⟨hBc0,hBf0,hBc1,hBf1,hBc2,hBf2⟩:=hB.x3;have hPg0:=hP.gcell 0;have hPg1:=hP.gcell 1;have hPg2:=hP.gcell 2;have hBg0:=hB.gcell 0;have hBg1:=hB.gcell 1;have hBg2:=hB.gcell 2;go_wp2_with fail
            refine wp_region_gw (by kernel_rfl) (by kernel_rfl) ?_;repeat (go_big_quiet_step (first | (fail)))
            refine wpQuiet_nil ?_;rintro w5 ⟨xw5,rfl⟩;have hb5:=gw_below xw5;generalize gw xw5=w5 at hb5;go_wp2;go_roundw
            case rel=>exact ⟨j+1,by omega,by go_num,HX,bt hbs hb5⟩
            case measure=>simp [intOf];omega
          ·have HE4:Hid (qs.any (badT N (p,qq))=false):=any_end _ qs j (by rw [←HN4.out];omega) HJ.out;have HX:Hid ((N.eqs.take (k+1)).all (kindQ N)=true):=by rw [Hid,HT.out,HA.out,HEQ.out,HE4.out];rfl
           obtain ⟨hPc0,hPf0,hPc1,hPf1,hPc2,hPf2⟩:=hP.x3;obtain ⟨hBc0,hBf0,hBc1,hBf1,hBc2,hBf2⟩:=hB.x3;go_wp2;go_roundw
           case rel=>exact ⟨k+1,by omega,by go_num,HX,bt hbr hbs⟩
           case measure=>simp [intOf];omega
        ·have HE:Hid (N.eqs.all (kindQ N)=true):=all_end (kindQ N) N.eqs k (by rw [←HN3.out];omega) HA.out;have HF:=Lib.hid (typ_ok N HO.out HGQ.out HE.out);obtain ⟨hPc0,hPf0,hPc1,hPf1,hPc2,hPf2⟩:=hP.x3;go_wp2;go_ret
         exact ⟨by rw [HRES.out,HF.out];rfl,hBW⟩
theorem rmany0 (N:NSta) (v1 v2 v3:Value) (w:World) (r:Bool) (hm:NOk N) (hS:NAt w v1 v2 v3 N) (h:decide (8<N.grps.length)=r) :
  Calls Tryz.prog 125 #[.agg #[v1,v2,v3]] w fun e w'=>e=.returned (.bool r)∧Below w.heap.size w w':=by
 rw [←h];exact rmany_c N v1 v2 v3 w hm hS
theorem relements0 (N:NSta) (v1 v2 v3:Value) (w:World) (r:Bool) (hm:NOk N) (hS:NAt w v1 v2 v3 N) (h:N.elem=r) :
  Calls Tryz.prog 126 #[.agg #[v1,v2,v3]] w fun e w'=>e=.returned (.bool r)∧Below w.heap.size w w':=by
 rw [←h];exact relements_c N v1 v2 v3 w hm hS
theorem rtyped0 (N:NSta) (v1 v2 v3:Value) (w:World) (r:Bool) (hm:NOk N) (hS:NAt w v1 v2 v3 N) (h:N.typ=r) :
  Calls Tryz.prog 127 #[.agg #[v1,v2,v3]] w fun e w'=>e=.returned (.bool r)∧Below w.heap.size w w':=by
 rw [←h];exact rtyped_c N v1 v2 v3 w hm hS
theorem rrest_c (N:NSta) (v1 v2 v3:Value) (w:World) (hm:NOk N) (hS:NAt w v1 v2 v3 N) :
  Calls Tryz.prog 80 #[.agg #[v1,v2,v3]] w fun e w'=>e=.returned (.int .i64 (N.chk:Nat))∧Below w.heap.size w w':=by
 obtain ⟨r,hr⟩:∃r:Nat,r=N.chk:=⟨_,rfl⟩;have HRES:=Lib.hid hr;rw [←hr];clear hr;obtain ⟨a1,c1,a2,c2,a3,c3,rfl,rfl,rfl⟩:=hS.forms;obtain ⟨n1,hn1⟩:∃n,n=N.grps.length:=⟨_,rfl⟩;obtain ⟨n2,hn2⟩:∃n,n=N.vars.length:=⟨_,rfl⟩;obtain ⟨n3,hn3⟩:∃n,n=N.eqs.length:=⟨_,rfl⟩;have HN1:=Lib.hid hn1;have HN2:=Lib.hid hn2;have HN3:=Lib.hid hn3;have l1:n1≤10:=by rw [hn1];exact hm.ng
 have l2:n2≤12:=by rw [hn2];exact hm.nv
 have l3:n3≤12:=by rw [hn3];exact hm.ne
 have HM:=Lib.hid hm;rw [←hn1,←hn2,←hn3] at hS ⊢;clear hm hn1 hn2 hn3;have hP:=Blk.new w #[.slice a1 n1 c1,.slice a2 n2 c2,.slice a3 n3 c3] 29;have hBW:=b1 w (.cells #[.slice a1 n1 c1,.slice a2 n2 c2,.slice a3 n3 c3] 29);replace hS:=hS.after hBW;by_cases h8:8<N.grps.length
 ·have HR:=Lib.hid (decide_eq_true h8);have HF:Hid (r=6):=by rw [Hid,HRES.out,chk_6 h8]
  clear h8;obtain ⟨hPc0,hPf0,hPc1,hPf1,hPc2,hPf2⟩:=hP.x3;go_enter Tryz.func80,Tryz.ntmps80
  go_wp2_with fail
  refine (rmany0 N _ _ _ _ _ HM.out hS HR.out).mono ?_;rintro e w2 ⟨rfl,hb2⟩;go_wp2;go_ret
  exact ⟨by rw [HF.out];rfl,bt hBW hb2⟩
 ·have HR:=Lib.hid (decide_eq_false h8);have H8:=Lib.hid h8;clear h8;obtain ⟨hPc0,hPf0,hPc1,hPf1,hPc2,hPf2⟩:=hP.x3;go_enter Tryz.func80,Tryz.ntmps80
  go_wp2_with fail
  refine (rmany0 N _ _ _ _ _ HM.out hS HR.out).mono ?_;rintro e w2 ⟨rfl,hb2⟩;clear hPc0 hPf0 hPc1 hPf1 hPc2 hPf2;replace hP:=hP.after hb2;replace hS:=hS.after hb2;replace hBW:=bt hBW hb2;clear hb2;have hPl:=hP.lt;cases h13:N.elem
  ·have HF:Hid (r=13):=by rw [Hid,HRES.out,chk_13 H8.out h13]
   have HR2:=Lib.hid h13;clear h13;obtain ⟨hPc0,hPf0,hPc1,hPf1,hPc2,hPf2⟩:=hP.x3;go_wp2_with fail
   refine (relements0 N _ _ _ _ _ HM.out hS HR2.out).mono ?_;rintro e w3 ⟨rfl,hb3⟩;clear hPc0 hPf0 hPc1 hPf1 hPc2 hPf2;replace hP:=hP.after hb3;replace hS:=hS.after hb3;replace hBW:=bt hBW hb3;clear hb3;clear hPl;have hPl:=hP.lt;obtain ⟨hPc0,hPf0,hPc1,hPf1,hPc2,hPf2⟩:=hP.x3;go_wp2;go_ret
   exact ⟨by rw [HF.out];rfl,hBW⟩
  ·have HR2:=Lib.hid h13;clear h13;obtain ⟨hPc0,hPf0,hPc1,hPf1,hPc2,hPf2⟩:=hP.x3;go_wp2_with fail
   refine (relements0 N _ _ _ _ _ HM.out hS HR2.out).mono ?_;rintro e w3 ⟨rfl,hb3⟩;clear hPc0 hPf0 hPc1 hPf1 hPc2 hPf2;replace hP:=hP.after hb3;replace hS:=hS.after hb3;replace hBW:=bt hBW hb3;clear hb3;clear hPl;have hPl:=hP.lt;cases h10:N.typ
   ·have HF:Hid (r=10):=by rw [Hid,HRES.out,chk_10 H8.out HR2.out h10]
    have HR3:=Lib.hid h10;clear h10;obtain ⟨hPc0,hPf0,hPc1,hPf1,hPc2,hPf2⟩:=hP.x3;go_wp2_with fail
    refine (rtyped0 N _ _ _ _ _ HM.out hS HR3.out).mono ?_;rintro e w4 ⟨rfl,hb4⟩;clear hPc0 hPf0 hPc1 hPf1 hPc2 hPf2;replace hP:=hP.after hb4;replace hS:=hS.after hb4;replace hBW:=bt hBW hb4;clear hb4;clear hPl;have hPl:=hP.lt;obtain ⟨hPc0,hPf0,hPc1,hPf1,hPc2,hPf2⟩:=hP.x3;go_wp2;go_ret
    exact ⟨by rw [HF.out];rfl,hBW⟩
   ·have HF:Hid (r=0):=by rw [Hid,HRES.out,chk_0 H8.out HR2.out h10]
    have HR3:=Lib.hid h10;clear h10;obtain ⟨hPc0,hPf0,hPc1,hPf1,hPc2,hPf2⟩:=hP.x3;go_wp2_with fail
    refine (rtyped0 N _ _ _ _ _ HM.out hS HR3.out).mono ?_;rintro e w4 ⟨rfl,hb4⟩;clear hPc0 hPf0 hPc1 hPf1 hPc2 hPf2;replace hP:=hP.after hb4;replace hS:=hS.after hb4;replace hBW:=bt hBW hb4;clear hb4;clear hPl;have hPl:=hP.lt;obtain ⟨hPc0,hPf0,hPc1,hPf1,hPc2,hPf2⟩:=hP.x3;go_wp2;go_ret
    exact ⟨by rw [HF.out];rfl,hBW⟩
theorem rformed1_c (S:Sta) (v1 v2 v3:Value) (w:World) (b:Bool) (hm:SSm S) (hS:StAt w v1 v2 v3 S) (h:formB S=b) :
  Calls Tryz.prog 79 #[.agg #[v1,v2,v3]] w fun e w'=>e=.returned (.bool b)∧Below w.heap.size w w':=by
 rw [←h];exact rformed_c S v1 v2 v3 w hm hS
theorem rCheck_c (N:NSta) (v1 v2 v3:Value) (w:World) (hm:NOk N) (hS:NAt w v1 v2 v3 N) :
  Calls Tryz.prog 33 #[.agg #[v1,v2,v3]] w fun e w'=>e=.returned (.int .i64 (N.chk:Nat))∧Below w.heap.size w w':=by
 obtain ⟨a1,c1,a2,c2,a3,c3,rfl,rfl,rfl⟩:=hS.forms;obtain ⟨n1,hn1⟩:∃n,n=N.grps.length:=⟨_,rfl⟩;obtain ⟨n2,hn2⟩:∃n,n=N.vars.length:=⟨_,rfl⟩;obtain ⟨n3,hn3⟩:∃n,n=N.eqs.length:=⟨_,rfl⟩;have HN1:=Lib.hid hn1;have HN2:=Lib.hid hn2;have HN3:=Lib.hid hn3;have l1:n1≤10:=by rw [hn1];exact hm.ng
 have l2:n2≤12:=by rw [hn2];exact hm.nv
 have l3:n3≤12:=by rw [hn3];exact hm.ne
 have HM:=Lib.hid hm;rw [←hn1,←hn2,←hn3] at hS ⊢;clear hm hn1 hn2 hn3;have hP:=Blk.new w #[.slice a1 n1 c1,.slice a2 n2 c2,.slice a3 n3 c3] 29;have hBW:=b1 w (.cells #[.slice a1 n1 c1,.slice a2 n2 c2,.slice a3 n3 c3] 29);replace hS:=hS.after hBW;obtain ⟨hPc0,hPf0,hPc1,hPf1,hPc2,hPf2⟩:=hP.x3;go_enter Tryz.func33,Tryz.ntmps33
 go_wp2_with fail
 refine (rformed1_c N.s _ _ _ _ true HM.out.ssm hS HM.out.form).mono ?_;rintro e w2 ⟨rfl,hb2⟩;clear hPc0 hPf0 hPc1 hPf1 hPc2 hPf2;replace hP:=hP.after hb2;replace hS:=hS.after hb2;replace hBW:=bt hBW hb2;clear hb2;have hPl:=hP.lt;obtain ⟨hPc0,hPf0,hPc1,hPf1,hPc2,hPf2⟩:=hP.x3;go_wp2_with fail
 refine (rrest_c N _ _ _ _ HM.out hS).mono ?_;rintro e w3 ⟨rfl,hb3⟩;go_wp2;go_ret
 exact ⟨rfl,bt hBW hb3⟩
theorem rCheck_bad (S:Sta) (v1 v2 v3:Value) (w:World) (hm:SSm S) (hS:StAt w v1 v2 v3 S) (hf:formB S=false) :
  Calls Tryz.prog 33 #[.agg #[v1,v2,v3]] w fun e w'=>e=.returned (.int .i64 3)∧Below w.heap.size w w':=by
 have hBW:=b1 w (.cells #[v1,v2,v3] 29);have HC:=Lib.hid (rformed1_c S v1 v2 v3 _ false hm (hS.after hBW) hf);have hP:=Blk.new w #[v1,v2,v3] 29;obtain ⟨a1,c1,e1⟩:=hS.g.form;obtain ⟨a2,c2,e2⟩:=hS.v.form;obtain ⟨a3,c3,e3⟩:=hS.e.form;generalize S.grps.length=n1 at e1;generalize S.vars.length=n2 at e2;generalize S.eqs.length=n3 at e3;subst e1 e2 e3;clear hS hf hm;obtain ⟨hPc0,hPf0,hPc1,hPf1,hPc2,hPf2⟩:=hP.x3;go_enter Tryz.func33,Tryz.ntmps33
 go_wp2_with fail
 refine HC.out.mono ?_;rintro e w2 ⟨rfl,hb2⟩;go_wp2;go_ret
 exact ⟨rfl,bt hBW hb2⟩
theorem rcheck15_c (N:NSta) (Z:List Int) (v1 v2 v3 v4:Value) (w:World) (hm:NOk N) (hS:NAt w v1 v2 v3 N) (hZ:ZsAt w v4 Z) (hz:∀z∈Z,z.natAbs<256^128) (hl:Z.length=N.vars.length) (hc:N.chk=0) :
  Calls Tryz.prog 116 #[.agg #[v1,v2,v3],v4] w fun e w'=>e=.returned (.int .i64 0)∧Below w.heap.size w w':=by
 obtain ⟨a4,c4,rfl⟩:=hZ.form;rw [hl] at hZ ⊢;have HZZ:=Lib.hid hz;have HL:=Lib.hid hl;have HCK:=Lib.hid hc;clear hz hl hc;obtain ⟨a1,c1,a2,c2,a3,c3,rfl,rfl,rfl⟩:=hS.forms;obtain ⟨n1,hn1⟩:∃n,n=N.grps.length:=⟨_,rfl⟩;obtain ⟨n2,hn2⟩:∃n,n=N.vars.length:=⟨_,rfl⟩;obtain ⟨n3,hn3⟩:∃n,n=N.eqs.length:=⟨_,rfl⟩;have HN1:=Lib.hid hn1;have HN2:=Lib.hid hn2;have HN3:=Lib.hid hn3;have l1:n1≤10:=by rw [hn1];exact hm.ng
 have l2:n2≤12:=by rw [hn2];exact hm.nv
 have l3:n3≤12:=by rw [hn3];exact hm.ne
 have HM:=Lib.hid hm;rw [←hn1,←hn2,←hn3] at hS ⊢;clear hm hn1 hn2 hn3;rw [←HN2.out] at hZ;have hP:=Blk.new w #[.slice a1 n1 c1,.slice a2 n2 c2,.slice a3 n3 c3] 29;have hBW:=b1 w (.cells #[.slice a1 n1 c1,.slice a2 n2 c2,.slice a3 n3 c3] 29);replace hS:=hS.after hBW;replace hZ:=hZ.after (b1 w (.cells #[.slice a1 n1 c1,.slice a2 n2 c2,.slice a3 n3 c3] 29));obtain ⟨hPc0,hPf0,hPc1,hPf1,hPc2,hPf2⟩:=hP.x3;go_enter Tryz.func116,Tryz.ntmps116
 go_wp2_with fail
 refine (rformed1_c N.s _ _ _ _ true HM.out.ssm hS HM.out.form).mono ?_;rintro e w2 ⟨rfl,hb2⟩;clear hPc0 hPf0 hPc1 hPf1 hPc2 hPf2;replace hP:=hP.after hb2;replace hS:=hS.after hb2;replace hZ:=hZ.after hb2;replace hBW:=bt hBW hb2;clear hb2;have hPl:=hP.lt;go_wp2;go_loopw [5] (fun i wr=>∃k:Nat,k≤n2∧i=.int .i64 k∧Below w2.heap.size w2 wr) (fun i _=>n2-(intOf i).toNat)
 case atStart=>exact ⟨0,by omega,rfl,Below.refl _ _⟩
 case round =>
  obtain ⟨k,hk,rfl,hbr⟩:=hrel;obtain ⟨wp,hwp⟩:∃wp,wp=wr:=⟨_,rfl⟩;subst hwp;replace hP:=hP.after hbr;replace hS:=hS.after hbr;replace hZ:=hZ.after hbr;replace hBW:=bt hBW hbr;clear hPl;have hPl:=hP.lt;by_cases hlt:k<n2
  ·have hkl:k<Z.length:=by rw [HL.out,←HN2.out];exact hlt
   have HZ1:=Lib.hid (HZZ.out _ (List.getElem_mem hkl));obtain ⟨b,o,rfl,hbl,x1,x2⟩:=hZ.at_ hkl;generalize (Z[k]'hkl)=z at x1 x2 HZ1;have h0k:(0:Int)≤(k:Int):=by omega
   have h1k:(k:Int)<(n2:Int):=by omega
   go_wp2_with fail
   refine (rivalidI_c z _ HZ1.out).mono ?_;rintro e w3 ⟨rfl,hb3⟩;go_wp2;go_roundw
   case rel=>exact ⟨k+1,by omega,by go_num,bt hbr hb3⟩
   case measure=>simp [intOf];omega
  ·clear hbr
   have HCC:Hid (Calls Tryz.prog 80 #[.agg #[.slice a1 n1 c1,.slice a2 n2 c2,.slice a3 n3 c3]] wp fun e w'=>e=.returned (.int .i64 0)∧Below wp.heap.size wp w'):=by
    have h:=rrest_c N _ _ _ wp HM.out hS;rw [HCK.out] at h;exact h
   obtain ⟨hPc0,hPf0,hPc1,hPf1,hPc2,hPf2⟩:=hP.x3;go_wp2_with fail
   refine HCC.out.mono ?_;rintro e w4 ⟨rfl,hb4⟩;clear hPc0 hPf0 hPc1 hPf1 hPc2 hPf2;replace hP:=hP.after hb4;have hPl2:=hP.lt;obtain ⟨hPc0,hPf0,hPc1,hPf1,hPc2,hPf2⟩:=hP.x3;go_wp2;go_ret
   exact ⟨rfl,bt hBW hb4⟩
end
end Go.Proofs.YtcfjcenmcpankaaGreatDoor
