import Derived.Test.YtihjpddbjhcbmaaGreatDoorIdx
import Derived.Test.YtihjpddbjhcbmaaGreatDoorRPow1
set_option linter.unusedVariables false
set_option linter.unusedSimpArgs false
set_option maxRecDepth 100000
set_option maxHeartbeats 16000000
namespace Go.Proofs.YtihjpddbjhcbmaaGreatDoor
section
open Go.RowKit
theorem eqF {a b:Nat} (h:a≠b):((E a).toList != (E b).toList)=true:=by rw[bne,neE h];rfl
theorem eqT {a b:Nat} (h:a=b):((E a).toList != (E b).toList)=false:=by rw[bne,eqE h];rfl
theorem vz_pos {n:Nat} (h:0<n):vz n=false:=by simp[vz];omega
theorem grpE_13 {p q:Nat} (h:grpE p q≠0):grpE p q=13:=by
 unfold grpE at *;split
 ·split
  ·rename_i h1 h2;rw[if_pos h1,if_pos h2]at h;exact absurd rfl h
  ·rfl
 ·split
  ·rename_i h1 h2;rw[if_neg h1,if_pos h2]at h;exact absurd rfl h
  ·rfl
theorem siz1_c (g:Int) (t:ByteArray) (ao:Option Addr) (n c:Nat) (w:World) (hn:n≤64) :
  Calls Tryz.prog 298 #[.agg #[.int .i64 g,.string t,.slice ao n c]] w fun e w'=>e=.returned (.bool false)∧Bw w w':=by
 have h:decide ((64:Int)<(n:Int))=false:=decide_eq_false (by omega);go_enter Tryz.func298,Tryz.ntmps298
 go_wp2;go_ret
 exact⟨rfl,b1 _ _⟩
theorem elt1_c (p q bg x:Nat) (v:Int) (s:Bool) (a:ByteArray) (w:World) (hp:p<256^8) (hq:q<256^128) (hg:grpE p q=0) (hx:x<256^128) (hB:Blk w bg 86 [.string (E p),.string (E q)]) :
  Calls Tryz.prog 300 #[.agg #[.string (E x),.int .i64 v,.bool s,.string a],.pointer (some ⟨bg,0,none⟩)] w fun e w'=>e=.returned (.bool (!hasB p q x))∧Bw w w':=by
 have HC:=Kh (fun w=>pHas_c p q x w hp hq hg hx);have hh:=hB.lt;clear hp hq hg hx;obtain⟨hb,hc,hd,he⟩:=hB.x2;go_enter Tryz.func300,Tryz.ntmps300
 go_wp2_with fail
 refine (HC.out _).mono ?_;rintro e w1 ⟨rfl,hf⟩;go_wp2;go_ret
 exact⟨rfl,bt (b1 _ _) hf⟩
theorem knv1_c (x:Nat) (w:World):Calls Tryz.prog 302 #[.agg #[.string (E x)]] w fun e w'=>e=.returned (.bool (vz x))∧Bw w w':=by
 rcases Nat.eq_zero_or_pos x with rfl | h0
 ·have hz:=zE (n:=0) rfl;go_enter Tryz.func302,Tryz.ntmps302
  go_wp2;go_ret
  exact⟨rfl,b1 _ _⟩
 ·have hz:=nzE h0;rw[vz_pos h0];clear h0;go_enter Tryz.func302,Tryz.ntmps302
  go_wp2;go_ret
  exact⟨rfl,b1 _ _⟩
theorem kng1_c (m x n bn:Nat) (w:World) (hB:Blk w bn 22 [.string (E n)]):Calls Tryz.prog 304 #[.agg #[.string (E m),.string (E x)],.pointer (some ⟨bn,0,none⟩)] w fun e w'=>e=.returned (.bool (gq n (m,x)))∧Bw w w':=by
 have hd:=hB.lt;have hr:gq n (m,x)=(x != 0&&x != n):=rfl;rcases Nat.eq_zero_or_pos x with rfl | h0
 ·have hz:=zE (n:=0) rfl;rw[hr];clear hr;obtain⟨hb,hc⟩:=hB.x1;go_enter Tryz.func304,Tryz.ntmps304
  go_wp2;go_ret
  exact⟨rfl,b1 _ _⟩
 ·have hz:=nzE h0;by_cases h:x=n
  ·have h1:=eqT h;have h2:=eqE h;rw[hr,show (x != 0&&x != n)=false by rw[h];simp];clear hr h0 h;obtain⟨hb,hc⟩:=hB.x1;go_enter Tryz.func304,Tryz.ntmps304
   go_wp2;go_ret
   exact⟨rfl,b1 _ _⟩
  ·have h1:=eqF h;have h2:=neE h;rw[hr,show (x != 0&&x != n)=true by simp[h];omega];clear hr h0 h;obtain⟨hb,hc⟩:=hB.x1;go_enter Tryz.func304,Tryz.ntmps304
   go_wp2;go_ret
   exact⟨rfl,b1 _ _⟩
theorem knt1_c (N:NSta) (k bs n c:Nat) (ao:Option Addr) (v1 v3:Value) (b:ByteArray) (s:Bool) (a:ByteArray) (w:World) (hn:n=N.vars.length) (hh:n≤12) (hk:k<N.vars.length) (hS:NAt w v1 (.slice ao n c) v3 N) (hB:Blk w bs 29 [v1,.slice ao n c,v3]) :
  Calls Tryz.prog 305 #[.agg #[.string b,.int .i64 (k:Int),.bool s,.string a],.pointer (some ⟨bs,0,none⟩)] w fun e w'=>e=.returned (.bool (vz (N.vars[k]'hk)))∧Bw w w':=by
 have hi:=hB.lt;have hj:k<n:=by omega
 have hl:(0:Int)≤(k:Int):=by omega
 have hm:(k:Int)<(n:Int):=by omega
 obtain⟨b1',o,rfl,ho,x1⟩:=hS.vat hk;generalize (N.vars[k]'hk)=x at x1;clear hn hk hS;rcases Nat.eq_zero_or_pos x with rfl | h0
 ·have hz:=zE (n:=0) rfl;obtain⟨hb,hc,hd,he,hf,hg⟩:=hB.x3;go_enter Tryz.func305,Tryz.ntmps305
  go_wp2;go_ret
  exact⟨rfl,b1 _ _⟩
 ·have hz:=nzE h0;rw[vz_pos h0];clear h0;obtain⟨hb,hc,hd,he,hf,hg⟩:=hB.x3;go_enter Tryz.func305,Tryz.ntmps305
  go_wp2;go_ret
  exact⟨rfl,b1 _ _⟩
def og (g:Nat × Nat):Bool:=vz g.2
theorem ord_hit (N:NSta) (k:Nat) (h:k<N.grps.length) (ha:(N.grps.take k).all og=true) (h0:N.grps[k].2≠0):N.ord=N.grps[k].2:=by
 have e:N.grps=N.grps.take k++N.grps[k] :: N.grps.drop (k+1):=by
  rw[List.getElem_cons_drop,List.take_append_drop]
 have hf:((N.grps.take k).map (·.2)).find? (· != 0)=none:=by
  rw[List.find?_eq_none];intro x hx;obtain⟨g,hg,rfl⟩:=List.mem_map.1 hx;have:=List.all_eq_true.1 ha g hg;simpa [og,vz] using this
 unfold NSta.ord
 have h1:N.grps.map (·.2)=(N.grps.take k).map (·.2)++N.grps[k].2 :: (N.grps.drop (k+1)).map (·.2):=by
  conv=>lhs;rw[e]
  rw[List.map_append,List.map_cons]
 rw[h1,List.find?_append,hf,List.find?_cons_of_pos (by simpa using h0)];rfl
theorem ord_none (N:NSta) (ha:N.grps.all og=true):N.ord=0:=by
 unfold NSta.ord
 have hf:(N.grps.map (·.2)).find? (· != 0)=none:=by
  rw[List.find?_eq_none];intro x hx;obtain⟨g,hg,rfl⟩:=List.mem_map.1 hx;have:=List.all_eq_true.1 ha g hg;simpa [og,vz] using this
 rw[hf];rfl
theorem order_c (N:NSta) (v1 v2 v3:Value) (w:World) (hm:NOk N) (hS:NAt w v1 v2 v3 N) :
  Calls Tryz.prog 207 #[.agg #[v1,v2,v3]] w fun e w'=>e=.returned (.string (E N.ord))∧Bw w w':=by
 obtain⟨a1,c1,a2,c2,a3,c3,rfl,rfl,rfl⟩:=hS.forms;obtain⟨n1,hj⟩:∃n,n=N.grps.length:=⟨_,rfl⟩;obtain⟨n2,hl⟩:∃n,n=N.vars.length:=⟨_,rfl⟩;obtain⟨n3,hn⟩:∃n,n=N.eqs.length:=⟨_,rfl⟩;have hv:=Kh hj;have hx:=Kh hl;have hy:=Kh hn;have l1:n1≤10:=by rw[hj];exact hm.ng
 have l2:n2≤12:=by rw[hl];exact hm.nv
 have l3:n3≤12:=by rw[hn];exact hm.ne
 have HM:=Kh hm;rw[←hj,←hl,←hn]at hS ⊢;clear hm hj hl hn;obtain⟨hP,hi⟩:=blk1 w #[.slice a1 n1 c1,.slice a2 n2 c2,.slice a3 n3 c3] 29;replace hS:=hS.after hi;obtain⟨hb,hc,hd,he,hf,hg⟩:=hP.x3;go_enter Tryz.func207,Tryz.ntmps207
 go_wp2;clear hb hc hd he hf hg;generalize w.alloc (.cells #[.slice a1 n1 c1,.slice a2 n2 c2,.slice a3 n3 c3] 29)=w1 at hP hi hS;replace hP:Blk w1 w.heap.size 29 [.slice a1 n1 c1,.slice a2 n2 c2,.slice a3 n3 c3]:=hP;go_loopw [8] (fun i wr=>∃k:Nat,k≤n1∧i=.int .i64 k∧Hid ((N.grps.take k).all og=true)∧Bw w1 wr) (fun i _=>n1-(intOf i).toNat)
 case atStart=>exact⟨0,by omega,rfl,rfl,Br⟩
 case round =>
  obtain⟨k,hk,rfl,HA,ho⟩:=hrel;obtain⟨wp,hw⟩:∃wp,wp=wr:=⟨_,rfl⟩;subst hw;replace hS:=hS.after ho;replace hP:=hP.after ho;replace hi:=bt hi ho;by_cases hlt:k<n1
  ·have hh:k<N.grps.length:=by rw[←hv.out];exact hlt
   have HT:=Kh (all_take og N.grps k hh);have HO:=Kh (ord_hit N k hh HA.out);have hp:Hid (og (N.grps[k]'hh)=vz (N.grps[k]'hh).2):=rfl;obtain⟨b,o,rfl,hA,x1,x2⟩:=hS.gat hh;generalize og (N.grps[k]'hh)=ok at HT hp;generalize (N.grps[k]'hh).1=s1 at x1;generalize (N.grps[k]'hh).2=s2 at x2 HO hp;have hC:(0:Int)≤(k:Int):=by omega
   have hD:(k:Int)<(n1:Int):=by omega
   have hE:=hP.lt;have hB:=Blk.new wp #[.string (E s1),.string (E s2)] 86;rcases Nat.eq_zero_or_pos s2 with rfl | h0
   ·have hz:=zE (n:=0) rfl;have HX:Hid ((N.grps.take (k+1)).all og=true):=by rw[Hid,HT.out,HA.out,hp.out];rfl
    clear HO;obtain⟨hb,hc,hd,he,hf,hg⟩:=hP.x3;obtain⟨hq,hr,ht,hu⟩:=hB.x2;go_wp2;go_roundw
    case rel=>exact⟨k+1,by omega,by go_num,HX,ba ho _⟩
    case measure=>simp[intOf];omega
   ·have hz:=nzE h0;have HF:=Kh (HO.out (by omega));clear HO h0;obtain⟨hb,hc,hd,he,hf,hg⟩:=hP.x3;obtain⟨hq,hr,ht,hu⟩:=hB.x2;go_wp2;go_ret
    exact⟨by rw[HF.out];rfl,ba hi _⟩
  ·have HF:=Kh (ord_none N (all_end og N.grps k (by rw[←hv.out];omega) HA.out));obtain⟨hb,hc,hd,he,hf,hg⟩:=hP.x3;go_wp2;go_ret
   exact⟨by rw[HF.out];rfl,hi⟩
theorem sorder_c (N:NSta) (v1 v2 v3:Value) (w:World) (hm:NOk N) (hS:NAt w v1 v2 v3 N) :
  Calls Tryz.prog 178 #[.agg #[v1,v2,v3]] w fun e w'=>e=.returned (.string (E N.ord))∧Bw w w':=by
 obtain⟨a1,c1,a2,c2,a3,c3,rfl,rfl,rfl⟩:=hS.forms;obtain⟨n1,hj⟩:∃n,n=N.grps.length:=⟨_,rfl⟩;obtain⟨n2,hl⟩:∃n,n=N.vars.length:=⟨_,rfl⟩;obtain⟨n3,hn⟩:∃n,n=N.eqs.length:=⟨_,rfl⟩;have hv:=Kh hj;have hx:=Kh hl;have hy:=Kh hn;have l1:n1≤10:=by rw[hj];exact hm.ng
 have l2:n2≤12:=by rw[hl];exact hm.nv
 have l3:n3≤12:=by rw[hn];exact hm.ne
 have HM:=Kh hm;rw[←hj,←hl,←hn]at hS ⊢;clear hm hj hl hn;obtain⟨hP,hi⟩:=blk1 w #[.slice a1 n1 c1,.slice a2 n2 c2,.slice a3 n3 c3] 29;replace hS:=hS.after hi;obtain⟨hb,hc,hd,he,hf,hg⟩:=hP.x3;go_enter Tryz.func178,Tryz.ntmps178
 go_wp2;clear hb hc hd he hf hg;generalize w.alloc (.cells #[.slice a1 n1 c1,.slice a2 n2 c2,.slice a3 n3 c3] 29)=w1 at hP hi hS;replace hP:Blk w1 w.heap.size 29 [.slice a1 n1 c1,.slice a2 n2 c2,.slice a3 n3 c3]:=hP;go_loopw [8] (fun i wr=>∃k:Nat,k≤n1∧i=.int .i64 k∧Hid ((N.grps.take k).all og=true)∧Bw w1 wr) (fun i _=>n1-(intOf i).toNat)
 case atStart=>exact⟨0,by omega,rfl,rfl,Br⟩
 case round =>
  obtain⟨k,hk,rfl,HA,ho⟩:=hrel;obtain⟨wp,hw⟩:∃wp,wp=wr:=⟨_,rfl⟩;subst hw;replace hS:=hS.after ho;replace hP:=hP.after ho;replace hi:=bt hi ho;by_cases hlt:k<n1
  ·have hh:k<N.grps.length:=by rw[←hv.out];exact hlt
   have HT:=Kh (all_take og N.grps k hh);have HO:=Kh (ord_hit N k hh HA.out);have hp:Hid (og (N.grps[k]'hh)=vz (N.grps[k]'hh).2):=rfl;obtain⟨b,o,rfl,hA,x1,x2⟩:=hS.gat hh;generalize og (N.grps[k]'hh)=ok at HT hp;generalize (N.grps[k]'hh).1=s1 at x1;generalize (N.grps[k]'hh).2=s2 at x2 HO hp;have hC:(0:Int)≤(k:Int):=by omega
   have hD:(k:Int)<(n1:Int):=by omega
   have hE:=hP.lt;have hB:=Blk.new wp #[.string (E s1),.string (E s2)] 86;rcases Nat.eq_zero_or_pos s2 with rfl | h0
   ·have hz:=zE (n:=0) rfl;have HX:Hid ((N.grps.take (k+1)).all og=true):=by rw[Hid,HT.out,HA.out,hp.out];rfl
    clear HO;obtain⟨hb,hc,hd,he,hf,hg⟩:=hP.x3;obtain⟨hq,hr,ht,hu⟩:=hB.x2;go_wp2;go_roundw
    case rel=>exact⟨k+1,by omega,by go_num,HX,ba ho _⟩
    case measure=>simp[intOf];omega
   ·have hz:=nzE h0;have HF:=Kh (HO.out (by omega));clear HO h0;obtain⟨hb,hc,hd,he,hf,hg⟩:=hP.x3;obtain⟨hq,hr,ht,hu⟩:=hB.x2;go_wp2;go_ret
    exact⟨by rw[HF.out];rfl,ba hi _⟩
  ·have HF:=Kh (ord_none N (all_end og N.grps k (by rw[←hv.out];omega) HA.out));obtain⟨hb,hc,hd,he,hf,hg⟩:=hP.x3;go_wp2;go_ret
   exact⟨by rw[HF.out];rfl,hi⟩
theorem rorder15_c (N:NSta) (v1 v2 v3:Value) (w:World) (hm:NOk N) (hS:NAt w v1 v2 v3 N) :
  Calls Tryz.prog 160 #[.agg #[v1,v2,v3]] w fun e w'=>e=.returned (.string (E N.ord))∧Bw w w':=by
 obtain⟨a1,c1,a2,c2,a3,c3,rfl,rfl,rfl⟩:=hS.forms;obtain⟨n1,hj⟩:∃n,n=N.grps.length:=⟨_,rfl⟩;obtain⟨n2,hl⟩:∃n,n=N.vars.length:=⟨_,rfl⟩;obtain⟨n3,hn⟩:∃n,n=N.eqs.length:=⟨_,rfl⟩;have hv:=Kh hj;have hx:=Kh hl;have hy:=Kh hn;have l1:n1≤10:=by rw[hj];exact hm.ng
 have l2:n2≤12:=by rw[hl];exact hm.nv
 have l3:n3≤12:=by rw[hn];exact hm.ne
 have HM:=Kh hm;rw[←hj,←hl,←hn]at hS ⊢;clear hm hj hl hn;obtain⟨hP,hi⟩:=blk1 w #[.slice a1 n1 c1,.slice a2 n2 c2,.slice a3 n3 c3] 29;replace hS:=hS.after hi;obtain⟨hb,hc,hd,he,hf,hg⟩:=hP.x3;go_enter Tryz.func160,Tryz.ntmps160
 go_wp2;clear hb hc hd he hf hg;generalize w.alloc (.cells #[.slice a1 n1 c1,.slice a2 n2 c2,.slice a3 n3 c3] 29)=w1 at hP hi hS;replace hP:Blk w1 w.heap.size 29 [.slice a1 n1 c1,.slice a2 n2 c2,.slice a3 n3 c3]:=hP;go_loopw [3] (fun i wr=>∃k:Nat,k≤n1∧i=.int .i64 k∧Hid ((N.grps.take k).all og=true)∧Bw w1 wr) (fun i _=>n1-(intOf i).toNat)
 case atStart=>exact⟨0,by omega,rfl,rfl,Br⟩
 case round =>
  obtain⟨k,hk,rfl,HA,ho⟩:=hrel;obtain⟨wp,hw⟩:∃wp,wp=wr:=⟨_,rfl⟩;subst hw;replace hS:=hS.after ho;replace hP:=hP.after ho;replace hi:=bt hi ho;by_cases hlt:k<n1
  ·have hh:k<N.grps.length:=by rw[←hv.out];exact hlt
   have HT:=Kh (all_take og N.grps k hh);have HO:=Kh (ord_hit N k hh HA.out);have hp:Hid (og (N.grps[k]'hh)=vz (N.grps[k]'hh).2):=rfl;obtain⟨b,o,rfl,hA,x1,x2⟩:=hS.gat hh;generalize og (N.grps[k]'hh)=ok at HT hp;generalize (N.grps[k]'hh).1=s1 at x1;generalize (N.grps[k]'hh).2=s2 at x2 HO hp;have hC:(0:Int)≤(k:Int):=by omega
   have hD:(k:Int)<(n1:Int):=by omega
   have hE:=hP.lt;have hB:=Blk.new wp #[.string (E s1),.string (E s2)] 86;rcases Nat.eq_zero_or_pos s2 with rfl | h0
   ·have hz:=zE (n:=0) rfl;have HX:Hid ((N.grps.take (k+1)).all og=true):=by rw[Hid,HT.out,HA.out,hp.out];rfl
    clear HO;obtain⟨hb,hc,hd,he,hf,hg⟩:=hP.x3;obtain⟨hq,hr,ht,hu⟩:=hB.x2;go_wp2;go_roundw
    case rel=>exact⟨k+1,by omega,by go_num,HX,ho⟩
    case measure=>simp[intOf];omega
   ·have hz:=nzE h0;have HF:=Kh (HO.out (by omega));clear HO h0;obtain⟨hb,hc,hd,he,hf,hg⟩:=hP.x3;obtain⟨hq,hr,ht,hu⟩:=hB.x2;go_wp2;go_ret
    exact⟨by rw[HF.out];rfl,hi⟩
  ·have HF:=Kh (ord_none N (all_end og N.grps k (by rw[←hv.out];omega) HA.out));obtain⟨hb,hc,hd,he,hf,hg⟩:=hP.x3;go_wp2;go_ret
   exact⟨by rw[HF.out];rfl,hi⟩
theorem rorder16_c (N:NSta) (v1 v2 v3:Value) (w:World) (hm:NOk N) (hS:NAt w v1 v2 v3 N) :
  Calls Tryz.prog 185 #[.agg #[v1,v2,v3]] w fun e w'=>e=.returned (.string (E N.ord))∧Bw w w':=by
 obtain⟨a1,c1,a2,c2,a3,c3,rfl,rfl,rfl⟩:=hS.forms;obtain⟨n1,hj⟩:∃n,n=N.grps.length:=⟨_,rfl⟩;obtain⟨n2,hl⟩:∃n,n=N.vars.length:=⟨_,rfl⟩;obtain⟨n3,hn⟩:∃n,n=N.eqs.length:=⟨_,rfl⟩;have hv:=Kh hj;have hx:=Kh hl;have hy:=Kh hn;have l1:n1≤10:=by rw[hj];exact hm.ng
 have l2:n2≤12:=by rw[hl];exact hm.nv
 have l3:n3≤12:=by rw[hn];exact hm.ne
 have HM:=Kh hm;rw[←hj,←hl,←hn]at hS ⊢;clear hm hj hl hn;obtain⟨hP,hi⟩:=blk1 w #[.slice a1 n1 c1,.slice a2 n2 c2,.slice a3 n3 c3] 29;replace hS:=hS.after hi;obtain⟨hb,hc,hd,he,hf,hg⟩:=hP.x3;go_enter Tryz.func185,Tryz.ntmps185
 go_wp2;clear hb hc hd he hf hg;generalize w.alloc (.cells #[.slice a1 n1 c1,.slice a2 n2 c2,.slice a3 n3 c3] 29)=w1 at hP hi hS;replace hP:Blk w1 w.heap.size 29 [.slice a1 n1 c1,.slice a2 n2 c2,.slice a3 n3 c3]:=hP;go_loopw [3] (fun i wr=>∃k:Nat,k≤n1∧i=.int .i64 k∧Hid ((N.grps.take k).all og=true)∧Bw w1 wr) (fun i _=>n1-(intOf i).toNat)
 case atStart=>exact⟨0,by omega,rfl,rfl,Br⟩
 case round =>
  obtain⟨k,hk,rfl,HA,ho⟩:=hrel;obtain⟨wp,hw⟩:∃wp,wp=wr:=⟨_,rfl⟩;subst hw;replace hS:=hS.after ho;replace hP:=hP.after ho;replace hi:=bt hi ho;by_cases hlt:k<n1
  ·have hh:k<N.grps.length:=by rw[←hv.out];exact hlt
   have HT:=Kh (all_take og N.grps k hh);have HO:=Kh (ord_hit N k hh HA.out);have hp:Hid (og (N.grps[k]'hh)=vz (N.grps[k]'hh).2):=rfl;obtain⟨b,o,rfl,hA,x1,x2⟩:=hS.gat hh;generalize og (N.grps[k]'hh)=ok at HT hp;generalize (N.grps[k]'hh).1=s1 at x1;generalize (N.grps[k]'hh).2=s2 at x2 HO hp;have hC:(0:Int)≤(k:Int):=by omega
   have hD:(k:Int)<(n1:Int):=by omega
   have hE:=hP.lt;have hB:=Blk.new wp #[.string (E s1),.string (E s2)] 86;rcases Nat.eq_zero_or_pos s2 with rfl | h0
   ·have hz:=zE (n:=0) rfl;have HX:Hid ((N.grps.take (k+1)).all og=true):=by rw[Hid,HT.out,HA.out,hp.out];rfl
    clear HO;obtain⟨hb,hc,hd,he,hf,hg⟩:=hP.x3;obtain⟨hq,hr,ht,hu⟩:=hB.x2;go_wp2;go_roundw
    case rel=>exact⟨k+1,by omega,by go_num,HX,ho⟩
    case measure=>simp[intOf];omega
   ·have hz:=nzE h0;have HF:=Kh (HO.out (by omega));clear HO h0;obtain⟨hb,hc,hd,he,hf,hg⟩:=hP.x3;obtain⟨hq,hr,ht,hu⟩:=hB.x2;go_wp2;go_ret
    exact⟨by rw[HF.out];rfl,hi⟩
  ·have HF:=Kh (ord_none N (all_end og N.grps k (by rw[←hv.out];omega) HA.out));obtain⟨hb,hc,hd,he,hf,hg⟩:=hP.x3;go_wp2;go_ret
   exact⟨by rw[HF.out];rfl,hi⟩
end
section
open Go.RowKit
theorem any_false {α:Type} (l:List α):l.any (fun _=>false)=false:=by induction l <;> simp_all
theorem sizes_c (N:NSta) (v1 v2 v3:Value) (w:World) (hm:NOk N) (hS:NAt w v1 v2 v3 N) :
  Calls Tryz.prog 253 #[.agg #[v1,v2,v3]] w fun e w'=>e=.returned (.int .i64 (if 8<N.grps.length then 6 else 0))∧Bw w w':=by
 obtain⟨r,hr⟩:∃r:Int,r=if 8<N.grps.length then 6 else 0:=⟨_,rfl⟩
 have hb:=Kh hr;rw[←hr];clear hr;obtain⟨a1,c1,a2,c2,a3,c3,rfl,rfl,rfl⟩:=hS.forms;obtain⟨n1,hc⟩:∃n,n=N.grps.length:=⟨_,rfl⟩;obtain⟨n2,hd⟩:∃n,n=N.vars.length:=⟨_,rfl⟩;obtain⟨n3,he⟩:∃n,n=N.eqs.length:=⟨_,rfl⟩;have ho:=Kh hc;have hy:=Kh hd;have hu:=Kh he;have l1:n1≤10:=by rw[hc];exact hm.ng
 have l2:n2≤12:=by rw[hd];exact hm.nv
 have l3:n3≤12:=by rw[he];exact hm.ne
 have HM:=Kh hm;rw[←hc,←hd,←he]at hS ⊢;clear hm hc hd he;obtain⟨hP,hf⟩:=blk1 w #[.slice a1 n1 c1,.slice a2 n2 c2,.slice a3 n3 c3] 29;replace hS:=hS.after hf;have e2:decide ((64:Int)<(n2:Int))=false:=decide_eq_false (by omega);have e3:decide ((64:Int)<(n3:Int))=false:=decide_eq_false (by omega);by_cases h8:8<n1
 ·have e1:decide ((8:Int)<(n1:Int))=true:=Dt (by omega);have HF:Hid (r=6):=by rw[Hid,hb.out,if_pos (by rw[←ho.out];exact h8)]
  clear h8;obtain⟨hg,hh,hi,hj,hl,hn⟩:=hP.x3;go_enter Tryz.func253,Tryz.ntmps253
  go_wp2;go_ret
  exact⟨by rw[HF.out];rfl,hf⟩
 ·have e1:decide ((8:Int)<(n1:Int))=false:=decide_eq_false (by omega);have HF:Hid (r=0):=by rw[Hid,hb.out,if_neg (by rw[←ho.out];exact h8)]
  have HC:Hid (∀w',Below (w.alloc (.cells #[.slice a1 n1 c1,.slice a2 n2 c2,.slice a3 n3 c3] 29)).heap.size (w.alloc (.cells #[.slice a1 n1 c1,.slice a2 n2 c2,.slice a3 n3 c3] 29)) w'→Calls Tryz.prog 297 #[.slice a3 n3 c3,.func (.func 298) #[] #[]] w' fun e w''=>e=.returned (.bool false)∧Bw w' w''):=by
   intro w' hv;have hw:=(hS.after hv).e;refine cont_siz N.s.eqs (fun _=>false) false _ w' (by simp only[NSta.s,List.length_map];rw[←hu.out];omega) hw (any_false _) ?_;intro k hk w2 tv hp ht;obtain⟨to_,tc,rfl⟩:=RAt.form ht;refine siz1_c _ _ _ _ _ _ ?_;have hq:=HM.out.ssm.e _ (Gm hk);have hx:k<N.eqs.length:=by simpa [NSta.s] using hk
   have:=(HM.out.e _ (Gm hx)).2.2.1;simp only[NSta.s,List.getElem_map,NEqn.q,List.length_map];omega
  clear h8;obtain⟨hg,hh,hi,hj,hl,hn⟩:=hP.x3;go_enter Tryz.func253,Tryz.ntmps253
  go_wp2_with fail
  refine (HC.out _ Br).mono ?_;rintro e w2 ⟨rfl,hp⟩;go_wp2;go_ret
  exact⟨by rw[HF.out];rfl,bt hf hp⟩
theorem elem_any (g:Nat × Nat) (l:List NTrm):(l.map NTrm.t).any (fun t=>!hasB g.1 g.2 (val t.base.data.toList))=!(l.all (hasQ g)):=by
 rw[List.any_map];induction l with
 | nil=>rfl
 | cons x t ih=>rw[List.any_cons,List.all_cons,ih,Bool.not_and];simp only[Function.comp,NTrm.t,val_E,hasQ]
theorem gp_at (N:NSta) (q:NEqn) (h:q.grp<N.grps.length):N.gp q=N.grps[q.grp]:=by
 unfold NSta.gp;rw[List.getD_eq_getElem?_getD,List.getElem?_eq_getElem h];rfl
theorem elements_c (N:NSta) (v1 v2 v3:Value) (w:World) (hm:NOk N) (hS:NAt w v1 v2 v3 N) :
  Calls Tryz.prog 254 #[.agg #[v1,v2,v3]] w fun e w'=>e=.returned (.int .i64 (if N.elem then 0 else 13))∧Bw w w':=by
 obtain⟨r,hr⟩:∃r:Int,r=if N.elem then 0 else 13:=⟨_,rfl⟩
 have hw:=Kh hr;rw[←hr];clear hr;obtain⟨a1,c1,a2,c2,a3,c3,rfl,rfl,rfl⟩:=hS.forms;obtain⟨n1,hN⟩:∃n,n=N.grps.length:=⟨_,rfl⟩;obtain⟨n2,hO⟩:∃n,n=N.vars.length:=⟨_,rfl⟩;obtain⟨n3,hQ⟩:∃n,n=N.eqs.length:=⟨_,rfl⟩;have hT:=Kh hN;have He:=Kh hO;have h1:=Kh hQ;have l1:n1≤10:=by rw[hN];exact hm.ng
 have l2:n2≤12:=by rw[hO];exact hm.nv
 have l3:n3≤12:=by rw[hQ];exact hm.ne
 have HM:=Kh hm;rw[←hN,←hO,←hQ]at hS ⊢;clear hm hN hO hQ;obtain⟨hP,ht⟩:=blk1 w #[.slice a1 n1 c1,.slice a2 n2 c2,.slice a3 n3 c3] 29;replace hS:=hS.after ht;obtain⟨hb,hc,hd,he,hf,hi⟩:=hP.x3;go_enter Tryz.func254,Tryz.ntmps254
 go_wp2;clear hb hc hd he hf hi;generalize w.alloc (.cells #[.slice a1 n1 c1,.slice a2 n2 c2,.slice a3 n3 c3] 29)=w1 at hP ht hS;replace hP:Blk w1 w.heap.size 29 [.slice a1 n1 c1,.slice a2 n2 c2,.slice a3 n3 c3]:=hP;go_loopw [11] (fun i wr=>∃k:Nat,k≤n1∧i=.int .i64 k∧Hid ((N.grps.take k).all gr0=true)∧Bw w1 wr) (fun i _=>n1-(intOf i).toNat)
 case atStart=>exact⟨0,by omega,rfl,rfl,Br⟩
 case round =>
  obtain⟨k,hk,rfl,HA,hu⟩:=hrel;obtain⟨wp,hU⟩:∃wp,wp=wr:=⟨_,rfl⟩;subst hU;replace hS:=hS.after hu;replace hP:=hP.after hu;replace ht:=bt ht hu;by_cases hlt:k<n1
  ·have hn:k<N.grps.length:=by rw[←hT.out];exact hlt
   have ho:=Kh (HM.out.g _ (Gm hn));have HT:=Kh (all_take gr0 N.grps k hn);have hl:Hid (gr0 (N.grps[k]'hn)=false→N.elem=false):=fun h=>by unfold NSta.elem;rw[all_bad gr0 N.grps k hn h];rfl
   have hD:Hid (gr0 (N.grps[k]'hn)=(grpE (N.grps[k]'hn).1 (N.grps[k]'hn).2==0)):=rfl;obtain⟨b,o,rfl,h7,x1,x2⟩:=hS.gat hn;generalize gr0 (N.grps[k]'hn)=ok at HT hD hl;generalize (N.grps[k]'hn).1=s1 at x1 ho hD;generalize (N.grps[k]'hn).2=s2 at x2 ho hD;have h8:(0:Int)≤(k:Int):=by omega
   have h9:(k:Int)<(n1:Int):=by omega
   have Ha:=hP.lt;have hB:=Blk.new wp #[.string (E s1),.string (E s2)] 86;by_cases hg:grpE s1 s2=0
   ·have HG:=Kh hg;have HX:Hid ((N.grps.take (k+1)).all gr0=true):=by rw[Hid,HT.out,HA.out,hD.out,hg];rfl
    clear hl hg;obtain⟨hb,hc,hd,he,hf,hi⟩:=hP.x3;obtain⟨hV,hW,hX,hY⟩:=hB.x2;go_wp2_with fail
    refine (pcheckV_c s1 s2 0 _ ho.out.1 (lt128 ho.out.2) HG.out).mono ?_;rintro e w2 ⟨rfl,hp⟩;go_wp2;go_roundw
    case rel=>exact⟨k+1,by omega,by go_num,HX,bt (ba hu _) hp⟩
    case measure=>simp[intOf];omega
   ·have HG:=Kh (grpE_13 hg);have HF:Hid (N.elem=false):=hl.out (by rw[hD.out];simpa using hg);clear hl hg;obtain⟨hb,hc,hd,he,hf,hi⟩:=hP.x3;obtain⟨hV,hW,hX,hY⟩:=hB.x2;go_wp2_with fail
    refine (pcheckV_c s1 s2 13 _ ho.out.1 (lt128 ho.out.2) HG.out).mono ?_;rintro e w2 ⟨rfl,hp⟩;go_wp2;go_ret
    exact⟨by rw[hw.out,HF.out];rfl,bt (ba ht _) hp⟩
  ·have HG:Hid (N.grps.all gr0=true):=all_end gr0 N.grps k (by rw[←hT.out];omega) HA.out;clear hu;obtain⟨hb,hc,hd,he,hf,hi⟩:=hP.x3;go_wp2;clear hb hc hd he hf hi;clear HA hlt hk;go_loopw [22] (fun i wr=>∃k:Nat,k≤n3∧i=.int .i64 k∧Hid ((N.eqs.take k).all (elemQ N)=true)∧Bw wp wr) (fun i _=>n3-(intOf i).toNat)
   case atStart=>exact⟨0,by omega,rfl,rfl,Br⟩
   case round =>
    obtain⟨k,hk,rfl,HA,hu⟩:=hrel;obtain⟨wt,hU⟩:∃wp,wp=wr:=⟨_,rfl⟩;subst hU;replace hS:=hS.after hu;replace hP:=hP.after hu;replace ht:=bt ht hu;by_cases hlt:k<n3
    ·have hn:k<N.eqs.length:=by rw[←h1.out];exact hlt
     have HT:=Kh (all_take (elemQ N) N.eqs k hn);have hl:Hid (elemQ N (N.eqs[k]'hn)=false→N.elem=false):=fun h=>by unfold NSta.elem;rw[all_bad (elemQ N) N.eqs k hn h];simp
     have ho:=Kh (HM.out.e _ (Gm hn));obtain⟨b,o,tv,rfl,h7,x1,x2,x3,hy⟩:=hS.eat hn;generalize (N.eqs[k]'hn)=q at x1 x2 x3 hy ho HT hl;have hq:=ho.out.1;have Hb:q.grp<n1:=by rw[hT.out];exact hq
     have h2:=Kh (gp_at N q hq);have h3:Hid (gr0 (N.grps[q.grp]'hq)=true):=List.all_eq_true.1 HG.out _ (Gm hq);have hv:=Kh (HM.out.g _ (Gm hq));obtain⟨b',o',rfl,Hc,y1,y2⟩:=hS.gat hq;have hA:Hid (grpE (N.grps[q.grp]'hq).1 (N.grps[q.grp]'hq).2=0):=by have:=h3.out;unfold Hid;simpa [gr0] using this
     have hx:Hid (elemQ N q=(hasB (N.grps[q.grp]'hq).1 (N.grps[q.grp]'hq).2 q.tgt&&q.trms.all (hasQ (N.grps[q.grp]'hq)))):=by rw[Hid,elemQ,h2.out]
     generalize elemQ N q=ek at HT hl hx;generalize (N.grps[q.grp]'hq)=gg at y1 y2 hv hA hx;clear hq h2 h3;obtain⟨qg,qt,qs⟩:=q;simp only[]at x1 x2 x3 hy ho hx Hb y1 y2;obtain⟨to_,tc,rfl⟩:=hy.form;obtain⟨n4,hZ⟩:∃n,n=qs.length:=⟨_,rfl⟩;have Hf:=Kh hZ;rw[←hZ]at x3 hy;clear hZ;obtain⟨p,qq⟩:=gg;simp only[]at y1 y2 hv hA hx;have hB:=Blk.new wt #[.int .i64 (qg:Int),.string (E qt),.slice to_ n4 tc] 131;have hC:=Blk.new (wt.alloc (.cells #[.int .i64 (qg:Int),.string (E qt),.slice to_ n4 tc] 131)) #[.string (E p),.string (E qq)] 86;have h8:(0:Int)≤(k:Int):=by omega
     have h9:(k:Int)<(n3:Int):=by omega
     have Hg:(0:Int)≤(qg:Int):=by omega
     have Hh:(qg:Int)<(n1:Int):=by omega
     have Ha:=hP.lt;have Hi:=hB.lt;have Hj:=hC.lt;cases hh:hasB p qq qt
     ·have HF:Hid (N.elem=false):=hl.out (by rw[hx.out,hh];rfl);have HH:=Kh hh;clear hh;obtain⟨hb,hc,hd,he,hf,hi⟩:=hP.x3;go_wp2_with fail
      refine (pHasV_c p qq qt false _ hv.out.1 (lt128 hv.out.2) hA.out (Nl ho.out.2.1 (by decide)) HH.out).mono ?_;rintro e w2 ⟨rfl,hp⟩;go_wp2;go_ret
      exact⟨by rw[hw.out,HF.out];rfl,bt (ba (ba ht _) _) hp⟩
     ·have HH:=Kh hh;have hE:=hy.after (b2 wt (.cells #[.int .i64 (qg:Int),.string (E qt),.slice to_ n4 tc] 131) (.cells #[.string (E p),.string (E qq)] 86));have h4:Blk ((wt.alloc (.cells #[.int .i64 (qg:Int),.string (E qt),.slice to_ n4 tc] 131)).alloc (.cells #[.string (E p),.string (E qq)] 86)) (wt.heap.size+1) 86 [.string (E p),.string (E qq)]:=by simpa using hC
      have hR:Hid (∀w',Below ((wt.alloc (.cells #[.int .i64 (qg:Int),.string (E qt),.slice to_ n4 tc] 131)).alloc (.cells #[.string (E p),.string (E qq)] 86)).heap.size ((wt.alloc (.cells #[.int .i64 (qg:Int),.string (E qt),.slice to_ n4 tc] 131)).alloc (.cells #[.string (E p),.string (E qq)] 86)) w' →
        Calls Tryz.prog 299 #[.slice to_ n4 tc,.func (.func 300) #[] #[.pointer (some ⟨wt.heap.size+1,0,none⟩)]] w' fun e w''=>e=.returned (.bool (!(qs.all (hasQ (p,qq)))))∧Bw w' w''):=by
       intro w' h5;refine cont_elt (qs.map NTrm.t) (fun t=>!hasB p qq (val t.base.data.toList)) _ _ (wt.heap.size+1) w' (by have:=ho.out.2.2.1;simp;omega) (by have:=hE.after h5;exact this) (elem_any (p,qq) qs) ?_;intro j hj w3 hF;have Hd:j<qs.length:=by simpa using hj
       have hz:=ho.out.2.2.2 _ (Gm Hd);simp only[List.getElem_map,NTrm.t,val_E];exact elt1_c p qq _ _ _ _ _ w3 hv.out.1 (lt128 hv.out.2) hA.out (Nl hz.1 (by decide)) ((h4.after h5).after hF)
      clear hC h4 hE hh hy;have Hk:=(hP.alloc (.cells #[.int .i64 (qg:Int),.string (E qt),.slice to_ n4 tc] 131)).alloc (.cells #[.string (E p),.string (E qq)] 86);have h6:=hB.alloc (.cells #[.string (E p),.string (E qq)] 86);cases ha:qs.all (hasQ (p,qq))
      ·have HF:Hid (N.elem=false):=hl.out (by rw[hx.out,ha];simp);rw[ha]at hR;clear ha;obtain⟨hb,hc,hd,he,hf,hi⟩:=hP.x3;go_wp2_with fail
       refine (pHasV_c p qq qt true _ hv.out.1 (lt128 hv.out.2) hA.out (Nl ho.out.2.1 (by decide)) HH.out).mono ?_;rintro e w2 ⟨rfl,hp⟩;have hG:=h6.after hp;have h0:=hG.lt;obtain⟨hH,hI,hJ,hK,hL,hM⟩:=hG.x3;go_wp2_with fail
       refine (hR.out _ hp).mono ?_;rintro e w3 ⟨rfl,hF⟩;go_wp2;go_ret
       exact⟨by rw[hw.out,HF.out];rfl,bt (bt (ba (ba ht _) _) hp) hF⟩
      ·have HX:Hid ((N.eqs.take (k+1)).all (elemQ N)=true):=by rw[Hid,HT.out,HA.out,hx.out,HH.out,ha];rfl
       rw[ha]at hR;clear ha;obtain⟨hb,hc,hd,he,hf,hi⟩:=hP.x3;go_wp2_with fail
       refine (pHasV_c p qq qt true _ hv.out.1 (lt128 hv.out.2) hA.out (Nl ho.out.2.1 (by decide)) HH.out).mono ?_;rintro e w2 ⟨rfl,hp⟩;have hG:=h6.after hp;have h0:=hG.lt;obtain⟨hH,hI,hJ,hK,hL,hM⟩:=hG.x3;go_wp2_with fail
       refine (hR.out _ hp).mono ?_;rintro e w3 ⟨rfl,hF⟩;go_wp2;go_roundw
       case rel=>exact⟨k+1,by omega,by go_num,HX,bt (bt (ba (ba hu _) _) hp) hF⟩
       case measure=>simp[intOf];omega
    ·have HE:Hid (N.eqs.all (elemQ N)=true):=all_end (elemQ N) N.eqs k (by rw[←h1.out];omega) HA.out;have HF:Hid (N.elem=true):=by unfold Hid NSta.elem;rw[HG.out,HE.out];rfl
     obtain⟨hb,hc,hd,he,hf,hi⟩:=hP.x3;go_wp2;go_ret
     exact⟨by rw[hw.out,HF.out];rfl,ht⟩
end
section
open Go.RowKit
theorem knv_any (l:List Nat):(l.map E).any (fun s=>vz (val s.data.toList))=l.any vz:=by
 rw[List.any_map];simp only[Function.comp_def,val_E]
theorem kng_any (n:Nat) (l:List (Nat × Nat)):(l.map gE).any (fun g=>gq n (val g.1.data.toList,val g.2.data.toList))=l.any (gq n):=by
 rw[List.any_map];simp only[Function.comp_def,gE,val_E]
theorem knt_any (N:NSta) (l:List NTrm):(l.map NTrm.t).any (fun t=>vz (N.vars.getD t.var.toNat 0))=l.any N.tz:=by
 rw[List.any_map];simp only[Function.comp_def,NTrm.t,Int.toNat_natCast];rfl
theorem typ_vars (N:NSta) (h:N.vars.any vz=false):N.typ=true:=by unfold NSta.typ;rw[h];rfl
theorem typ_ord (N:NSta) (h:N.vars.any vz=true) (h0:N.ord=0):N.typ=false:=by unfold NSta.typ;rw[h,h0];rfl
theorem typ_gq (N:NSta) (h:N.vars.any vz=true) (h0:N.grps.any (gq N.ord)=true):N.typ=false:=by unfold NSta.typ;rw[h,h0];simp
theorem typ_kind (N:NSta) (h:N.vars.any vz=true) (k:Nat) (hk:k<N.eqs.length) (h0:kindQ N N.eqs[k]=false):N.typ=false:=by unfold NSta.typ;rw[h,all_bad (kindQ N) N.eqs k hk h0];simp
theorem typ_ok (N:NSta) (h1:N.ord≠0) (h2:N.grps.any (gq N.ord)=false) (h3:N.eqs.all (kindQ N)=true):N.typ=true:=by
 unfold NSta.typ;rw[h2,h3,show vz N.ord=false by simpa [vz] using h1];simp
theorem kinds_c (N:NSta) (v1 v2 v3:Value) (w:World) (hm:NOk N) (hS:NAt w v1 v2 v3 N) :
  Calls Tryz.prog 255 #[.agg #[v1,v2,v3]] w fun e w'=>e=.returned (.int .i64 (if N.typ then 0 else 10))∧Bw w w':=by
 obtain⟨r,hr⟩:∃r:Int,r=if N.typ then 0 else 10:=⟨_,rfl⟩
 have hn:=Kh hr;rw[←hr];clear hr;obtain⟨a1,c1,a2,c2,a3,c3,rfl,rfl,rfl⟩:=hS.forms;obtain⟨n1,hI⟩:∃n,n=N.grps.length:=⟨_,rfl⟩;obtain⟨n2,hJ⟩:∃n,n=N.vars.length:=⟨_,rfl⟩;obtain⟨n3,hK⟩:∃n,n=N.eqs.length:=⟨_,rfl⟩;have hX:=Kh hI;have hY:=Kh hJ;have hZ:=Kh hK;have l1:n1≤10:=by rw[hI];exact hm.ng
 have l2:n2≤12:=by rw[hJ];exact hm.nv
 have l3:n3≤12:=by rw[hK];exact hm.ne
 have HM:=Kh hm;rw[←hI,←hJ,←hK]at hS ⊢;clear hm hI hJ hK;obtain⟨hP,hi⟩:=blk1 w #[.slice a1 n1 c1,.slice a2 n2 c2,.slice a3 n3 c3] 29;replace hS:=hS.after hi;generalize h3:w.alloc (.cells #[.slice a1 n1 c1,.slice a2 n2 c2,.slice a3 n3 c3] 29)=w1 at hP hi hS;replace hP:Blk w1 w.heap.size 29 [.slice a1 n1 c1,.slice a2 n2 c2,.slice a3 n3 c3]:=hP
 have hL:Hid (Calls Tryz.prog 301 #[.slice a2 n2 c2,.func (.func 302) #[] #[]] w1 fun e w''=>e=.returned (.bool (N.vars.any vz))∧Bw w1 w''):=by
  refine cont_knv N.s.vars (fun s=>vz (val s.data.toList)) _ _ w1 (by simp only[NSta.s,List.length_map];rw[←hY.out];omega) hS.v (knv_any _) ?_;intro k hk w2 hu;simp only[NSta.s,List.getElem_map,val_E];exact knv1_c _ _
 obtain⟨av,hQ⟩:∃b,b=N.vars.any vz:=⟨_,rfl⟩;rw[←hQ]at hL;have hR:=Kh hQ;clear hQ;subst h3;cases av
 ·have HF:=Kh (typ_vars N hR.out.symm);obtain⟨hb,hc,hd,he,hf,hh⟩:=hP.x3;go_enter Tryz.func255,Tryz.ntmps255
  go_wp2_with fail
  refine hL.out.mono ?_;rintro e w2 ⟨rfl,hu⟩;go_wp2;go_ret
  exact⟨by rw[hn.out,HF.out];rfl,bt hi hu⟩
 ·have hT:Hid (N.vars.any vz=true):=hR.out.symm;obtain⟨hb,hc,hd,he,hf,hh⟩:=hP.x3;go_enter Tryz.func255,Tryz.ntmps255
  go_wp2_with fail
  refine hL.out.mono ?_;rintro e w2 ⟨rfl,hu⟩;clear hb hc hd he hf hh;clear hL hR;replace hP:=hP.after hu;replace hS:=hS.after hu;replace hi:=bt hi hu;clear hu;have hA:=hP.lt;obtain⟨hb,hc,hd,he,hf,hh⟩:=hP.x3;go_wp2_with fail
  refine (order_c N _ _ _ _ HM.out hS).mono ?_;rintro e w3 ⟨rfl,hM⟩;clear hb hc hd he hf hh;replace hP:=hP.after hM;replace hS:=hS.after hM;replace hi:=bt hi hM;clear hM hA;have hA:=hP.lt;have hD:=Blk.new w3 #[.string (E N.ord)] 22;by_cases ho:N.ord=0
  ·have hz:=zE ho;have HF:=Kh (typ_ord N hT.out ho);clear ho;obtain⟨hb,hc,hd,he,hf,hh⟩:=hP.x3;go_wp2;go_ret
   exact⟨by rw[hn.out,HF.out];rfl,ba hi _⟩
  ·have hz:=nzE (Nat.pos_of_ne_zero ho);have HO:=Kh ho;clear ho;have hp:=hS.after (b1 w3 (.cells #[.string (E N.ord)] 22))
   have hN:Hid (Calls Tryz.prog 303 #[.slice a1 n1 c1,.func (.func 304) #[] #[.pointer (some ⟨w3.heap.size,0,none⟩)]] (w3.alloc (.cells #[.string (E N.ord)] 22)) fun e w''=>e=.returned (.bool (N.grps.any (gq N.ord)))∧Below (w3.alloc (.cells #[.string (E N.ord)] 22)).heap.size (w3.alloc (.cells #[.string (E N.ord)] 22)) w''):=by
    have hg:=hp.g;refine cont_kng N.s.grps (fun g=>gq N.ord (val g.1.data.toList,val g.2.data.toList)) _ _ w3.heap.size _ (by simp only[NSta.s,List.length_map];rw[←hX.out];omega) hg (kng_any _ _) ?_;intro k hk w5 ht;simp only[NSta.s,List.getElem_map,gE,val_E];exact kng1_c _ _ _ _ _ (hD.after ht)
   obtain⟨ag,hU⟩:∃b,b=N.grps.any (gq N.ord):=⟨_,rfl⟩;rw[←hU]at hN;have hV:=Kh hU;clear hU;cases ag
   ·have h4:Hid (N.grps.any (gq N.ord)=false):=hV.out.symm;obtain⟨hb,hc,hd,he,hf,hh⟩:=hP.x3;go_wp2_with fail
    refine hN.out.mono ?_;rintro e w5 ⟨rfl,ht⟩;clear hb hc hd he hf hh;clear hN hV hD hS;replace hP:=(hP.alloc (.cells #[.string (E N.ord)] 22)).after ht;replace hp:=hp.after ht;replace hi:=bt (ba hi _) ht;clear ht hA;have hA:=hP.lt;obtain⟨hb,hc,hd,he,hf,hh⟩:=hP.x3;go_wp2;clear hb hc hd he hf hh;go_loopw [23] (fun i wr=>∃k:Nat,k≤n3∧i=.int .i64 k∧Hid ((N.eqs.take k).all (kindQ N)=true)∧Bw w5 wr) (fun i _=>n3-(intOf i).toNat)
    case atStart=>exact⟨0,by omega,rfl,rfl,Br⟩
    case round =>
     obtain⟨k,hk,rfl,HA,hC⟩:=hrel;obtain⟨wt,h5⟩:∃wp,wp=wr:=⟨_,rfl⟩;subst h5;replace hp:=hp.after hC;replace hP:=hP.after hC;replace hi:=bt hi hC;by_cases hlt:k<n3
     ·have hE:k<N.eqs.length:=by rw[←hZ.out];exact hlt
      have HT:=Kh (all_take (kindQ N) N.eqs k hE);have hl:=Kh (typ_kind N hT.out k hE);have hF:=Kh (HM.out.e _ (Gm hE));obtain⟨b,o,tv,rfl,h9,x1,x2,x3,hv⟩:=hp.eat hE;generalize (N.eqs[k]'hE)=q at x1 x2 x3 hv hF HT hl;have hx:=hF.out.1;have h6:q.grp<n1:=by rw[hX.out];exact hx
      have h1:=Kh (gp_at N q hx);obtain⟨b',o',rfl,h7,y1,y2⟩:=hp.gat hx;have hw:Hid (kindQ N q=(!(vz (N.grps[q.grp]'hx).2) || !(q.trms.any N.tz))):=by rw[Hid,kindQ,h1.out]
      generalize kindQ N q=ek at HT hl hw;generalize (N.grps[q.grp]'hx)=gg at y1 y2 hw;clear hx h1;obtain⟨qg,qt,qs⟩:=q;simp only[]at x1 x2 x3 hv hF hw h6 y1 y2;obtain⟨to_,tc,rfl⟩:=hv.form;obtain⟨n4,hW⟩:∃n,n=qs.length:=⟨_,rfl⟩;have Ha:=Kh hW;rw[←hW]at x3 hv;clear hW;obtain⟨p,qq⟩:=gg;simp only[]at y1 y2 hw;have hB:=Blk.new wt #[.int .i64 (qg:Int),.string (E qt),.slice to_ n4 tc] 131;have Hb:(0:Int)≤(k:Int):=by omega
      have Hc:(k:Int)<(n3:Int):=by omega
      have Hd:(0:Int)≤(qg:Int):=by omega
      have He:(qg:Int)<(n1:Int):=by omega
      have hA:=hP.lt;have Hf:=hB.lt;rcases Nat.eq_zero_or_pos qq with rfl | h0
      ·have hz:=zE (n:=0) rfl;have hG:=hv.after (b1 wt (.cells #[.int .i64 (qg:Int),.string (E qt),.slice to_ n4 tc] 131));have h2:=hp.after (b1 wt (.cells #[.int .i64 (qg:Int),.string (E qt),.slice to_ n4 tc] 131));have h8:=hP.alloc (.cells #[.int .i64 (qg:Int),.string (E qt),.slice to_ n4 tc] 131)
       have hO:Hid (Calls Tryz.prog 299 #[.slice to_ n4 tc,.func (.func 305) #[] #[.pointer (some ⟨w.heap.size,0,none⟩)]] (wt.alloc (.cells #[.int .i64 (qg:Int),.string (E qt),.slice to_ n4 tc] 131)) fun e w''=>e=.returned (.bool (qs.any N.tz))∧Below (wt.alloc (.cells #[.int .i64 (qg:Int),.string (E qt),.slice to_ n4 tc] 131)).heap.size (wt.alloc (.cells #[.int .i64 (qg:Int),.string (E qt),.slice to_ n4 tc] 131)) w''):=by
        refine cont_knt (qs.map NTrm.t) (fun t=>vz (N.vars.getD t.var.toNat 0)) _ _ w.heap.size _ (by have:=hF.out.2.2.1;simp;omega) (by have:=hG;exact this) (knt_any N qs) ?_;intro j hj w6 hy;have hH:j<qs.length:=by simpa using hj
        have hz:=hF.out.2.2.2 _ (Gm hH);have hq:=knt1_c N (qs[j]'hH).var w.heap.size n2 c2 a2 (.slice (some ⟨b',o',none⟩) n1 c1) (.slice (some ⟨b,o,none⟩) n3 c3) (E (qs[j]'hH).base) (sg (qs[j]'hH).coef) (E (qs[j]'hH).coef.natAbs) w6 hY.out (by omega) hz.2.1 (h2.after hy) (h8.after hy);simp only[List.getElem_map,NTrm.t,Int.toNat_natCast,List.getD_eq_getElem?_getD,List.getElem?_eq_getElem hz.2.1,Option.getD_some];exact hq
       clear hv hG h2;cases ha:qs.any N.tz
       ·have HX:Hid ((N.eqs.take (k+1)).all (kindQ N)=true):=by rw[Hid,HT.out,HA.out,hw.out,ha];rfl
        rw[ha]at hO;clear ha hl;obtain⟨hb,hc,hd,he,hf,hh⟩:=hP.x3;go_wp2_with fail
        refine hO.out.mono ?_;rintro e w6 ⟨rfl,hy⟩;go_wp2;go_roundw
        case rel=>exact⟨k+1,by omega,by go_num,HX,bt (ba hC _) hy⟩
        case measure=>simp[intOf];omega
       ·have HF:Hid (N.typ=false):=hl.out (by rw[hw.out,ha];rfl);rw[ha]at hO;clear ha hl;obtain⟨hb,hc,hd,he,hf,hh⟩:=hP.x3;go_wp2_with fail
        refine hO.out.mono ?_;rintro e w6 ⟨rfl,hy⟩;go_wp2;go_ret
        exact⟨by rw[hn.out,HF.out];rfl,bt (ba hi _) hy⟩
      ·have hz:=nzE h0;have HX:Hid ((N.eqs.take (k+1)).all (kindQ N)=true):=by rw[Hid,HT.out,HA.out,hw.out,vz_pos h0];rfl
       clear hl h0 hv;obtain⟨hb,hc,hd,he,hf,hh⟩:=hP.x3;go_wp2;go_roundw
       case rel=>exact⟨k+1,by omega,by go_num,HX,ba hC _⟩
       case measure=>simp[intOf];omega
     ·have HE:Hid (N.eqs.all (kindQ N)=true):=all_end (kindQ N) N.eqs k (by rw[←hZ.out];omega) HA.out;have HF:=Kh (typ_ok N HO.out h4.out HE.out);go_wp2;go_ret
      exact⟨by rw[hn.out,HF.out];rfl,hi⟩
   ·have HF:=Kh (typ_gq N hT.out hV.out.symm);obtain⟨hb,hc,hd,he,hf,hh⟩:=hP.x3;go_wp2_with fail
    refine hN.out.mono ?_;rintro e w5 ⟨rfl,ht⟩;go_wp2;go_ret
    exact⟨by rw[hn.out,HF.out];rfl,bt (ba hi _) ht⟩
end
section
open Go.RowKit
theorem run_index_agg {P:Program} {w:World} (t e:TypeId) (n:Nat) (cs:Array Value) (k:IntKind) (i:Int) (v:Value) (h:P.underlying t=some (.array n e)) (h0:0≤i) (h1:i<n)
  (hi:(P.info? e).map (fun i=>i.size)=some 1) (ha:(isAgg e).run P w=.ok false w) (hn:cs[i.toNat]?=some v):(Instr.index t (.agg cs) (.int k i)).run P w=.ok v w:=by
 have hb:0≤i∧i<(n:Int):=⟨h0,h1⟩;cases hx:P.info? e with
 | none=>rw[hx]at hi;cases hi
 | some i0 =>
  rw[hx]at hi;have hz:i0.size=1:=by simpa using hi
  simp[Instr.index,run_underlying h,asIntOf,hb,go_sem,part,sizeOf,typeInfo,hx,hz,hn,ha]
theorem agg_fn1 (w:World):(isAgg 222).run Tryz.prog w=.ok false w:=by
 simp[isAgg,run_underlying Tryz.underlying222,go_sem]
theorem info_fn1:(Tryz.prog.info? 222).map (fun i=>i.size)=some 1:=by kernel_rfl
theorem ix4 (i:Nat) (hi:i<4) (v:Value) (cs:Array Value) (hn:cs[i]?=some v) (w:World):(Instr.index 276 (.agg cs) (.int .i64 (i:Int))).run Tryz.prog w=.ok v w:=
 run_index_agg 276 222 4 cs .i64 i v Tryz.underlying276 (by omega) (by omega) info_fn1 (agg_fn1 w) (by simpa using hn)
theorem form0_c (N:NSta) (v1 v2 v3:Value) (w:World) (hm:NOk N) (hS:NAt w v1 v2 v3 N) :
  Calls Tryz.prog 205 #[.agg #[v1,v2,v3]] w fun e w'=>e=.returned (.int .i64 0)∧Bw w w':=by
 have h:=form_c N.s v1 v2 v3 w hm.ssm hS;rw[hm.form]at h;exact h
theorem sizes0_c (N:NSta) (v1 v2 v3:Value) (w:World) (r:Int) (hm:NOk N) (hS:NAt w v1 v2 v3 N) (h:(if 8<N.grps.length then 6 else 0)=r) :
  Calls Tryz.prog 253 #[.agg #[v1,v2,v3]] w fun e w'=>e=.returned (.int .i64 r)∧Bw w w':=by
 rw[←h];exact sizes_c N v1 v2 v3 w hm hS
theorem elements0_c (N:NSta) (v1 v2 v3:Value) (w:World) (r:Int) (hm:NOk N) (hS:NAt w v1 v2 v3 N) (h:(if N.elem then 0 else 13)=r) :
  Calls Tryz.prog 254 #[.agg #[v1,v2,v3]] w fun e w'=>e=.returned (.int .i64 r)∧Bw w w':=by
 rw[←h];exact elements_c N v1 v2 v3 w hm hS
theorem kinds0_c (N:NSta) (v1 v2 v3:Value) (w:World) (r:Int) (hm:NOk N) (hS:NAt w v1 v2 v3 N) (h:(if N.typ then 0 else 10)=r) :
  Calls Tryz.prog 255 #[.agg #[v1,v2,v3]] w fun e w'=>e=.returned (.int .i64 r)∧Bw w w':=by
 rw[←h];exact kinds_c N v1 v2 v3 w hm hS
def ckS (N:NSta) (k:Nat):Prop:=(2≤k→¬ 8<N.grps.length)∧(3≤k→N.elem=true)∧(4≤k→N.typ=true)
theorem chk_6 {N:NSta} (h:8<N.grps.length):N.chk=6:=by unfold NSta.chk;rw[if_pos h]
theorem chk_13 {N:NSta} (h:¬ 8<N.grps.length) (h2:N.elem=false):N.chk=13:=by unfold NSta.chk;rw[if_neg h,if_pos h2]
theorem chk_10 {N:NSta} (h:¬ 8<N.grps.length) (h2:N.elem=true) (h3:N.typ=false):N.chk=10:=by unfold NSta.chk;rw[if_neg h,if_neg (by simp[h2]),if_pos h3]
theorem chk_0 {N:NSta} (h:¬ 8<N.grps.length) (h2:N.elem=true) (h3:N.typ=true):N.chk=0:=by unfold NSta.chk;rw[if_neg h,if_neg (by simp[h2]),if_neg (by simp[h3])]
theorem chk_inv {N:NSta} (h:N.chk=0):¬ 8<N.grps.length∧N.elem=true∧N.typ=true:=by
 unfold NSta.chk at h;by_cases h1:8<N.grps.length
 ·rw[if_pos h1]at h;cases h
 ·rw[if_neg h1]at h;cases h2:N.elem
  ·rw[if_pos h2]at h;cases h
  ·rw[if_neg (by simp[h2])]at h;cases h3:N.typ
   ·rw[if_pos h3]at h;cases h
   ·exact⟨h1,rfl,rfl⟩
theorem check_c (N:NSta) (v1 v2 v3:Value) (w:World) (hm:NOk N) (hS:NAt w v1 v2 v3 N) :
  Calls Tryz.prog 177 #[.agg #[v1,v2,v3]] w fun e w'=>e=.returned (.int .i64 (N.chk:Nat))∧Bw w w':=by
 obtain⟨r,hr⟩:∃r:Nat,r=N.chk:=⟨_,rfl⟩;have hi:=Kh hr;rw[←hr];clear hr;obtain⟨a1,c1,a2,c2,a3,c3,rfl,rfl,rfl⟩:=hS.forms;obtain⟨n1,ho⟩:∃n,n=N.grps.length:=⟨_,rfl⟩;obtain⟨n2,hp⟩:∃n,n=N.vars.length:=⟨_,rfl⟩;obtain⟨n3,hq⟩:∃n,n=N.eqs.length:=⟨_,rfl⟩;have hu:=Kh ho;have hv:=Kh hp;have hw:=Kh hq;have l1:n1≤10:=by rw[ho];exact hm.ng
 have l2:n2≤12:=by rw[hp];exact hm.nv
 have l3:n3≤12:=by rw[hq];exact hm.ne
 have HM:=Kh hm;rw[←ho,←hp,←hq]at hS ⊢;clear hm ho hp hq;obtain⟨hP,hj⟩:=blk1 w #[.slice a1 n1 c1,.slice a2 n2 c2,.slice a3 n3 c3] 29;replace hS:=hS.after hj;obtain⟨hb,hc,hd,he,hf,hg⟩:=hP.x3;go_enter Tryz.func177,Tryz.ntmps177
 go_wp2;clear hb hc hd he hf hg;generalize w.alloc (.cells #[.slice a1 n1 c1,.slice a2 n2 c2,.slice a3 n3 c3] 29)=w1 at hP hj hS;replace hP:Blk w1 w.heap.size 29 [.slice a1 n1 c1,.slice a2 n2 c2,.slice a3 n3 c3]:=hP;go_loopw [7] (fun i wr=>∃k:Nat,k≤4∧i=.int .i64 k∧Hid (ckS N k)∧Bw w1 wr) (fun i _=>4-(intOf i).toNat)
 case atStart=>exact⟨0,by omega,rfl,⟨by omega,by omega,by omega⟩,Br⟩
 case round =>
  obtain⟨k,hk,rfl,HA,hl⟩:=hrel;obtain⟨wp,ht⟩:∃wp,wp=wr:=⟨_,rfl⟩;subst ht;replace hS:=hS.after hl;replace hP:=hP.after hl;replace hj:=bt hj hl;by_cases hlt:k<4
  ·have hx:=hP.lt;obtain rfl | rfl | rfl | rfl:k=0∨k=1∨k=2∨k=3:=by omega
   ·clear HA;obtain⟨hb,hc,hd,he,hf,hg⟩:=hP.x3;have hn:∀w,(Instr.index 276 (.agg #[.func (.func 205) #[] #[],.func (.func 253) #[] #[],.func (.func 254) #[] #[],.func (.func 255) #[] #[]]) (.int .i64 0)).run Tryz.prog w=.ok (.func (.func 205) #[] #[]) w:=fun w=>ix4 0 (by decide) _ _ rfl w
    go_wp2_with fail
    refine (form0_c N _ _ _ _ HM.out hS).mono ?_;rintro e w2 ⟨rfl,hh⟩;go_wp2;go_roundw
    case rel=>exact⟨1,by omega,rfl,⟨by omega,by omega,by omega⟩,bt hl hh⟩
    case measure=>simp[intOf]
   ·clear HA;by_cases h8:8<N.grps.length
    ·have HR:Hid ((if 8<N.grps.length then 6 else 0)=(6:Int)):=if_pos h8;have HF:Hid (r=6):=by rw[Hid,hi.out,chk_6 h8]
     clear h8;obtain⟨hb,hc,hd,he,hf,hg⟩:=hP.x3;have hn:∀w,(Instr.index 276 (.agg #[.func (.func 205) #[] #[],.func (.func 253) #[] #[],.func (.func 254) #[] #[],.func (.func 255) #[] #[]]) (.int .i64 1)).run Tryz.prog w=.ok (.func (.func 253) #[] #[]) w:=fun w=>ix4 1 (by decide) _ _ rfl w
     go_wp2_with fail
     refine (sizes0_c N _ _ _ _ 6 HM.out hS HR.out).mono ?_;rintro e w2 ⟨rfl,hh⟩;go_wp2;go_ret
     exact⟨by rw[HF.out];rfl,bt hj hh⟩
    ·have HR:Hid ((if 8<N.grps.length then 6 else 0)=(0:Int)):=if_neg h8;have HX:Hid (ckS N 2):=⟨fun _=>h8,by omega,by omega⟩;clear h8;obtain⟨hb,hc,hd,he,hf,hg⟩:=hP.x3;have hn:∀w,(Instr.index 276 (.agg #[.func (.func 205) #[] #[],.func (.func 253) #[] #[],.func (.func 254) #[] #[],.func (.func 255) #[] #[]]) (.int .i64 1)).run Tryz.prog w=.ok (.func (.func 253) #[] #[]) w:=fun w=>ix4 1 (by decide) _ _ rfl w
     go_wp2_with fail
     refine (sizes0_c N _ _ _ _ 0 HM.out hS HR.out).mono ?_;rintro e w2 ⟨rfl,hh⟩;go_wp2;go_roundw
     case rel=>exact⟨2,by omega,rfl,HX,bt hl hh⟩
     case measure=>simp[intOf]
   ·cases h8:N.elem
    ·have HR:Hid ((if N.elem then 0 else 13)=(13:Int)):=if_neg (by rw[h8];simp);have HF:Hid (r=13):=by rw[Hid,hi.out,chk_13 (HA.out.1 (by omega)) h8]
     clear h8 HA;obtain⟨hb,hc,hd,he,hf,hg⟩:=hP.x3;have hn:∀w,(Instr.index 276 (.agg #[.func (.func 205) #[] #[],.func (.func 253) #[] #[],.func (.func 254) #[] #[],.func (.func 255) #[] #[]]) (.int .i64 2)).run Tryz.prog w=.ok (.func (.func 254) #[] #[]) w:=fun w=>ix4 2 (by decide) _ _ rfl w
     go_wp2_with fail
     refine (elements0_c N _ _ _ _ 13 HM.out hS HR.out).mono ?_;rintro e w2 ⟨rfl,hh⟩;go_wp2;go_ret
     exact⟨by rw[HF.out];rfl,bt hj hh⟩
    ·have HR:Hid ((if N.elem then 0 else 13)=(0:Int)):=if_pos h8;have HX:Hid (ckS N 3):=⟨fun _=>HA.out.1 (by omega),fun _=>h8,by omega⟩;clear h8 HA;obtain⟨hb,hc,hd,he,hf,hg⟩:=hP.x3;have hn:∀w,(Instr.index 276 (.agg #[.func (.func 205) #[] #[],.func (.func 253) #[] #[],.func (.func 254) #[] #[],.func (.func 255) #[] #[]]) (.int .i64 2)).run Tryz.prog w=.ok (.func (.func 254) #[] #[]) w:=fun w=>ix4 2 (by decide) _ _ rfl w
     go_wp2_with fail
     refine (elements0_c N _ _ _ _ 0 HM.out hS HR.out).mono ?_;rintro e w2 ⟨rfl,hh⟩;go_wp2;go_roundw
     case rel=>exact⟨3,by omega,rfl,HX,bt hl hh⟩
     case measure=>simp[intOf]
   ·cases h8:N.typ
    ·have HR:Hid ((if N.typ then 0 else 10)=(10:Int)):=if_neg (by rw[h8];simp);have HF:Hid (r=10):=by rw[Hid,hi.out,chk_10 (HA.out.1 (by omega)) (HA.out.2.1 (by omega)) h8]
     clear h8 HA;obtain⟨hb,hc,hd,he,hf,hg⟩:=hP.x3;have hn:∀w,(Instr.index 276 (.agg #[.func (.func 205) #[] #[],.func (.func 253) #[] #[],.func (.func 254) #[] #[],.func (.func 255) #[] #[]]) (.int .i64 3)).run Tryz.prog w=.ok (.func (.func 255) #[] #[]) w:=fun w=>ix4 3 (by decide) _ _ rfl w
     go_wp2_with fail
     refine (kinds0_c N _ _ _ _ 10 HM.out hS HR.out).mono ?_;rintro e w2 ⟨rfl,hh⟩;go_wp2;go_ret
     exact⟨by rw[HF.out];rfl,bt hj hh⟩
    ·have HR:Hid ((if N.typ then 0 else 10)=(0:Int)):=if_pos h8;have HX:Hid (ckS N 4):=⟨fun _=>HA.out.1 (by omega),fun _=>HA.out.2.1 (by omega),fun _=>h8⟩;clear h8 HA;obtain⟨hb,hc,hd,he,hf,hg⟩:=hP.x3;have hn:∀w,(Instr.index 276 (.agg #[.func (.func 205) #[] #[],.func (.func 253) #[] #[],.func (.func 254) #[] #[],.func (.func 255) #[] #[]]) (.int .i64 3)).run Tryz.prog w=.ok (.func (.func 255) #[] #[]) w:=fun w=>ix4 3 (by decide) _ _ rfl w
     go_wp2_with fail
     refine (kinds0_c N _ _ _ _ 0 HM.out hS HR.out).mono ?_;rintro e w2 ⟨rfl,hh⟩;go_wp2;go_roundw
     case rel=>exact⟨4,by omega,rfl,HX,bt hl hh⟩
     case measure=>simp[intOf]
  ·obtain rfl:k=4:=by omega
   have HF:Hid (r=0):=by rw[Hid,hi.out,chk_0 (HA.out.1 (by omega)) (HA.out.2.1 (by omega)) (HA.out.2.2 (by omega))]
   clear HA;go_wp2;go_ret
   exact⟨by rw[HF.out];rfl,hj⟩
theorem check_bad (S:Sta) (v1 v2 v3:Value) (w:World) (hm:SSm S) (hS:StAt w v1 v2 v3 S) (hf:formB S=false) :
  Calls Tryz.prog 177 #[.agg #[v1,v2,v3]] w fun e w'=>e=.returned (.int .i64 3)∧Bw w w':=by
 have HC:Hid (∀w',Bw w w'→Calls Tryz.prog 205 #[.agg #[v1,v2,v3]] w' fun e w''=>e=.returned (.int .i64 3)∧Bw w' w''):=by
  intro w' hk;have h:=form_c S v1 v2 v3 w' hm (hS.after hk);rw[hf]at h;exact h
 have hb:=b1 w (.cells #[v1,v2,v3] 29);have hP:=Blk.new w #[v1,v2,v3] 29;obtain⟨a1,c1,e1⟩:=hS.g.form;obtain⟨a2,c2,e2⟩:=hS.v.form;obtain⟨a3,c3,e3⟩:=hS.e.form;generalize S.grps.length=n1 at e1;generalize S.vars.length=n2 at e2;generalize S.eqs.length=n3 at e3;subst e1 e2 e3;clear hS hf hm;obtain⟨hc,hd,he,hg,hh,hi⟩:=hP.x3;go_enter Tryz.func177,Tryz.ntmps177
 go_wp2;clear hc hd he hg hh hi;generalize ho:w.alloc (.cells #[.slice a1 n1 c1,.slice a2 n2 c2,.slice a3 n3 c3] 29)=w1 at hP hb;replace hP:Blk w1 w.heap.size 29 [.slice a1 n1 c1,.slice a2 n2 c2,.slice a3 n3 c3]:=hP;go_loopw [7] (fun i wr=>i=.int .i64 0∧Bw w1 wr) (fun i _=>0)
 case atStart=>exact⟨rfl,Br⟩
 case round =>
  obtain⟨rfl,hj⟩:=hrel;obtain⟨wp,hl⟩:∃wp,wp=wr:=⟨_,rfl⟩;subst hl;replace hP:=hP.after hj;replace hb:=bt hb hj;have hp:=hP.lt;obtain⟨hc,hd,he,hg,hh,hi⟩:=hP.x3;have hq:∀w,(Instr.index 276 (.agg #[.func (.func 205) #[] #[],.func (.func 253) #[] #[],.func (.func 254) #[] #[],.func (.func 255) #[] #[]]) (.int .i64 0)).run Tryz.prog w=.ok (.func (.func 205) #[] #[]) w:=fun w=>ix4 0 (by decide) _ _ rfl w
  go_wp2_with fail
  refine (HC.out _ hb).mono ?_;rintro e w2 ⟨rfl,hn⟩;go_wp2;go_ret
  exact⟨rfl,bt hb hn⟩
def zI (z:Int):Bool × ByteArray:=(sg z,E z.natAbs)
def ZsAt (w:World) (v:Value) (l:List Int):Prop:=IsAt w v (l.map zI)
theorem ZsAt.after {w w':World} {v:Value} {l:List Int} (h:ZsAt w v l) (hb:Bw w w'):ZsAt w' v l:=IsAt.after h hb
theorem ZsAt.form {w:World} {v:Value} {l:List Int} (h:ZsAt w v l):∃a c,v=.slice a l.length c:=by
 obtain⟨a1,c1,h1⟩:=RAt.form h;exact⟨a1,c1,by rw[h1];simp⟩
theorem ZsAt.at_ {w:World} {ao:Option Addr} {n c k:Nat} {l:List Int} (h:ZsAt w (.slice ao n c) l) (hk:k<l.length):∃b o,ao=some ⟨b,o,none⟩∧b<w.heap.size∧w.cell? ⟨b,o+k*2,none⟩=some (.bool (sg l[k]))∧w.cell? ⟨b,o+k*2+1,none⟩=some (.string (E l[k].natAbs)):=by
 have hb:k<(l.map zI).length:=by simpa using hk
 obtain⟨b,o,h1,h2,h3,h4⟩:=IsAt.at_ h hb;simp only[List.getElem_map,zI]at h3 h4;exact⟨b,o,h1,h2,h3,h4⟩
theorem rdi1_c (z:Int) (w:World) (hz:z.natAbs<256^128) :
  Calls Tryz.prog 206 #[.agg #[.bool (sg z),.string (E z.natAbs)]] w fun e w'=>e=.returned (.bool false)∧Bw w w':=by
 have HZ:=Kh hz;clear hz;go_enter Tryz.func206,Tryz.ntmps206
 go_wp2_with fail
 refine (ivalidI_c z _ HZ.out).mono ?_;rintro e w1 ⟨rfl,hb⟩;go_wp2;go_ret
 exact⟨rfl,bt (b1 _ _) hb⟩
theorem ready_c (N:NSta) (Z:List Int) (v1 v2 v3 v4:Value) (w:World) (hm:NOk N) (hS:NAt w v1 v2 v3 N) (hZ:ZsAt w v4 Z) (hz:∀z∈Z,z.natAbs<256^128) (hl:Z.length=N.vars.length) (hc:N.chk=0) :
  Calls Tryz.prog 110 #[.agg #[v1,v2,v3],v4] w fun e w'=>e=.returned (.int .i64 0)∧Bw w w':=by
 obtain⟨a4,c4,rfl⟩:=hZ.form;rw[hl]at hZ ⊢;have hv:=Kh hz;have HL:=Kh hl;have hw:=Kh hc;clear hz hl hc;obtain⟨a1,c1,a2,c2,a3,c3,rfl,rfl,rfl⟩:=hS.forms;obtain⟨n1,hn⟩:∃n,n=N.grps.length:=⟨_,rfl⟩;obtain⟨n2,ho⟩:∃n,n=N.vars.length:=⟨_,rfl⟩;obtain⟨n3,hp⟩:∃n,n=N.eqs.length:=⟨_,rfl⟩;have hB:=Kh hn;have hr:=Kh ho;have hC:=Kh hp;have l1:n1≤10:=by rw[hn];exact hm.ng
 have l2:n2≤12:=by rw[ho];exact hm.nv
 have l3:n3≤12:=by rw[hp];exact hm.ne
 have HM:=Kh hm;rw[←hn,←ho,←hp]at hS ⊢;clear hm hn ho hp;rw[←hr.out]at hZ;obtain⟨hP,hi⟩:=blk1 w #[.slice a1 n1 c1,.slice a2 n2 c2,.slice a3 n3 c3] 29;replace hS:=hS.after hi;replace hZ:=hZ.after (b1 w (.cells #[.slice a1 n1 c1,.slice a2 n2 c2,.slice a3 n3 c3] 29));obtain⟨hb,hd,he,hf,hg,hh⟩:=hP.x3;go_enter Tryz.func110,Tryz.ntmps110
 go_wp2_with fail
 refine (form0_c N _ _ _ _ HM.out hS).mono ?_;rintro e w2 ⟨rfl,hj⟩;clear hb hd he hf hg hh;replace hP:=hP.after hj;replace hS:=hS.after hj;replace hZ:=hZ.after hj;replace hi:=bt hi hj;clear hj;have ht:=hP.lt
 have hu:Hid (Calls Tryz.prog 173 #[.slice a4 n2 c4,.func (.func 206) #[] #[]] w2 fun e w''=>e=.returned (.bool false)∧Bw w2 w''):=by
  refine cont_rdi (Z.map zI) (fun _=>false) _ _ w2 (by rw[List.length_map,HL.out,←hr.out];omega) hZ (any_false _) ?_;intro k hk w5 hD;have hx:k<Z.length:=by simpa using hk
  simp only[List.getElem_map,zI];exact rdi1_c _ _ (hv.out _ (Gm hx))
 obtain⟨hb,hd,he,hf,hg,hh⟩:=hP.x3;go_wp2_with fail
 refine hu.out.mono ?_;rintro e w3 ⟨rfl,hq⟩;clear hb hd he hf hg hh;clear hu;replace hP:=hP.after hq;replace hS:=hS.after hq;replace hi:=bt hi hq;clear hq ht;have ht:=hP.lt
 have hy:Hid (Calls Tryz.prog 177 #[.agg #[.slice a1 n1 c1,.slice a2 n2 c2,.slice a3 n3 c3]] w3 fun e w'=>e=.returned (.int .i64 0)∧Bw w3 w'):=by
  have h:=check_c N _ _ _ w3 HM.out hS;rw[hw.out]at h;exact h
 obtain⟨hb,hd,he,hf,hg,hh⟩:=hP.x3;go_wp2_with fail
 refine hy.out.mono ?_;rintro e w4 ⟨rfl,hb4⟩;clear hb hd he hf hg hh;replace hP:=hP.after hb4;have hA:=hP.lt;obtain⟨hb,hd,he,hf,hg,hh⟩:=hP.x3;go_wp2;go_ret
 exact⟨rfl,bt hi hb4⟩
end
section
open Go.RowKit
theorem rvalB_c (s:ByteArray) (b:Bool) (w:World) (hs:s.size≤1000) (h:vldB s=b):Calls Tryz.prog 86 #[.string s] w fun e w'=>e=.returned (.bool b)∧w'=w:=by
 rw[←h];exact (rvalid_c s w (by omega)).mono fun _ _ h=>⟨h.1,h.2.symm⟩
theorem rivalB_c (n:Bool) (s:ByteArray) (b:Bool) (w:World) (hs:s.size≤1000) (h:ivB n s=b):Calls Tryz.prog 162 #[.agg #[.bool n,.string s]] w fun e w'=>e=.returned (.bool b)∧Bw w w':=by
 rw[←h];exact rivalid_c n s w (by omega)
theorem rformed_c (S:Sta) (v1 v2 v3:Value) (w:World) (hm:SSm S) (hS:StAt w v1 v2 v3 S) :
  Calls Tryz.prog 243 #[.agg #[v1,v2,v3]] w fun e w'=>e=.returned (.bool (formB S))∧Bw w w':=by
 obtain⟨r,hr⟩:∃r:Bool,r=formB S:=⟨_,rfl⟩;have hl:=Kh hr;rw[←hr];clear hr;obtain⟨a1,c1,rfl⟩:=hS.g.form;obtain⟨a2,c2,rfl⟩:=hS.v.form;obtain⟨a3,c3,rfl⟩:=hS.e.form;have HM:=Kh hm;obtain⟨n1,hK⟩:∃n,n=S.grps.length:=⟨_,rfl⟩;obtain⟨n2,hL⟩:∃n,n=S.vars.length:=⟨_,rfl⟩;obtain⟨n3,hM⟩:∃n,n=S.eqs.length:=⟨_,rfl⟩;have hN:=Kh hK;have hO:=Kh hL;have hX:=Kh hM;have l1:n1≤1000:=by rw[hK];exact hm.ng
 have l2:n2≤1000:=by rw[hL];exact hm.nv
 have l3:n3≤1000:=by rw[hM];exact hm.ne
 rw[←hK,←hL,←hM]at hS ⊢;clear hm hK hL hM;obtain⟨hP,hi⟩:=blk1 w #[.slice a1 n1 c1,.slice a2 n2 c2,.slice a3 n3 c3] 29;replace hS:=hS.after hi;go_enter Tryz.func243,Tryz.ntmps243
 go_wp2;generalize w.alloc (.cells #[.slice a1 n1 c1,.slice a2 n2 c2,.slice a3 n3 c3] 29)=w1 at hP hi hS;replace hP:Blk w1 w.heap.size 29 [.slice a1 n1 c1,.slice a2 n2 c2,.slice a3 n3 c3]:=hP;go_loopw [3] (fun i wr=>∃k:Nat,k≤n1∧i=.int .i64 k∧Hid ((S.grps.take k).all gokB=true)∧Bw w1 wr) (fun i _=>n1-(intOf i).toNat)
 case atStart=>exact⟨0,by omega,rfl,rfl,Br⟩
 case round =>
  obtain⟨k,hk,rfl,HA,hn⟩:=hrel;obtain⟨wp,Hl⟩:∃wp,wp=wr:=⟨_,rfl⟩;subst Hl;replace hS:=hS.after hn;replace hP:=hP.after hn;replace hi:=bt hi hn;by_cases hlt:k<n1
  ·have ho:k<S.grps.length:=by rw[←hN.out];exact hlt
   have hp:=Kh (HM.out.g _ (Gm ho));have HT:=Kh (all_take gokB S.grps k ho);have hh:Hid (gokB S.grps[k]=false→formB S=false):=fun h=>by unfold formB;rw[all_bad gokB S.grps k ho h];rfl
   obtain⟨b,o,rfl,hY,x1,x2⟩:=hS.g.at_ ho;have HG:Hid (gokB S.grps[k]=(vldB S.grps[k].1&&vldB S.grps[k].2)):=rfl;generalize gokB (S.grps[k]'ho)=gk at HT hh HG;generalize (S.grps[k]'ho).1=s1 at x1 hp HG;generalize (S.grps[k]'ho).2=s2 at x2 hp HG;have hZ:(0:Int)≤(k:Int):=by omega
   have h0:(k:Int)<(n1:Int):=by omega
   cases ht:vldB s1
   ·have HF:Hid (formB S=false):=hh.out (by rw[HG.out,ht];rfl);obtain⟨hb,hc,hd,he,hf,hg⟩:=hP.x3;go_wp2_with fail
    refine (rvalB_c s1 false _ hp.out.1 ht).mono ?_;rintro e w' ⟨rfl,hq⟩;subst w';go_wp2;go_ret
    exact⟨by rw[hl.out,HF.out];rfl,hi⟩
   ·cases hQ:vldB s2
    ·have HF:Hid (formB S=false):=hh.out (by rw[HG.out,ht,hQ];rfl);obtain⟨hb,hc,hd,he,hf,hg⟩:=hP.x3;go_wp2_with fail
     refine (rvalB_c s1 true _ hp.out.1 ht).mono ?_;rintro e w' ⟨rfl,hq⟩;subst w';go_wp2_with fail
     refine (rvalB_c s2 false _ hp.out.2 hQ).mono ?_;rintro e w' ⟨rfl,hq⟩;subst w';go_wp2;go_ret
     exact⟨by rw[hl.out,HF.out];rfl,hi⟩
    ·have HX:Hid ((S.grps.take (k+1)).all gokB=true):=by rw[Hid,HT.out,HA.out,HG.out,ht,hQ];rfl
     obtain⟨hb,hc,hd,he,hf,hg⟩:=hP.x3;go_wp2_with fail
     refine (rvalB_c s1 true _ hp.out.1 ht).mono ?_;rintro e w' ⟨rfl,hq⟩;subst w';go_wp2_with fail
     refine (rvalB_c s2 true _ hp.out.2 hQ).mono ?_;rintro e w' ⟨rfl,hq⟩;subst w';go_wp2;go_roundw
     case rel=>exact⟨k+1,by omega,by go_num,HX,hn⟩
     case measure=>simp[intOf];omega
  ·have HG:Hid (S.grps.all gokB=true):=all_end gokB S.grps k (by rw[←hN.out];omega) HA.out;clear hn;obtain⟨hb,hc,hd,he,hf,hg⟩:=hP.x3;go_wp2;clear hb hc hd he hf hg;go_loopw [4] (fun i wr=>∃k:Nat,k≤n2∧i=.int .i64 k∧Hid ((S.vars.take k).all vldB=true)∧Bw wp wr) (fun i _=>n2-(intOf i).toNat)
   case atStart=>exact⟨0,by omega,rfl,rfl,Br⟩
   case round =>
    clear HA hlt hk;obtain⟨k,hk,rfl,HA,hn⟩:=hrel;obtain⟨wq,Hm⟩:∃wq,wq=wr:=⟨_,rfl⟩;subst Hm;replace hS:=hS.after hn;replace hP:=hP.after hn;replace hi:=bt hi hn;by_cases hlt:k<n2
    ·have ho:k<S.vars.length:=by rw[←hO.out];exact hlt
     have hp:=Kh (HM.out.v _ (Gm ho));have HT:=Kh (all_take vldB S.vars k ho);have hh:Hid (vldB S.vars[k]=false→formB S=false):=fun h=>by unfold formB;rw[all_bad vldB S.vars k ho h];simp
     obtain⟨b,o,rfl,hY,x1⟩:=hS.v.at_ ho;generalize S.vars[k]'ho=s1 at x1 hp HT hh;have hZ:(0:Int)≤(k:Int):=by omega
     have h0:(k:Int)<(n2:Int):=by omega
     cases ht:vldB s1
     ·have HF:Hid (formB S=false):=hh.out ht;obtain⟨hb,hc,hd,he,hf,hg⟩:=hP.x3;go_wp2_with fail
      refine (rvalB_c s1 false _ hp.out ht).mono ?_;rintro e w' ⟨rfl,hq⟩;subst w';go_wp2;go_ret
      exact⟨by rw[hl.out,HF.out];rfl,hi⟩
     ·have HX:Hid ((S.vars.take (k+1)).all vldB=true):=by rw[Hid,HT.out,HA.out,ht];rfl
      obtain⟨hb,hc,hd,he,hf,hg⟩:=hP.x3;go_wp2_with fail
      refine (rvalB_c s1 true _ hp.out ht).mono ?_;rintro e w' ⟨rfl,hq⟩;subst w';go_wp2;go_roundw
      case rel=>exact⟨k+1,by omega,by go_num,HX,hn⟩
      case measure=>simp[intOf];omega
    ·have HV:Hid (S.vars.all vldB=true):=all_end vldB S.vars k (by rw[←hO.out];omega) HA.out;clear hn;obtain⟨hb,hc,hd,he,hf,hg⟩:=hP.x3;go_wp2;clear hb hc hd he hf hg;clear HA hlt hk;go_loopw [5] (fun i wr=>∃k:Nat,k≤n3∧i=.int .i64 k∧Hid ((S.eqs.take k).all (eokB n1 n2)=true)∧Bw wq wr) (fun i _=>n3-(intOf i).toNat)
     case atStart=>exact⟨0,by omega,rfl,rfl,Br⟩
     case round =>
      obtain⟨k,hk,rfl,HA,hn⟩:=hrel;obtain⟨wt,Hn⟩:∃wt,wt=wr:=⟨_,rfl⟩;subst Hn;replace hS:=hS.after hn;replace hP:=hP.after hn;replace hi:=bt hi hn;by_cases hlt:k<n3
      ·have ho:k<S.eqs.length:=by rw[←hX.out];exact hlt
       have hp:=Kh (HM.out.e _ (Gm ho));have HT:=Kh (all_take (eokB n1 n2) S.eqs k ho);have hh:Hid (eokB n1 n2 S.eqs[k]=false→formB S=false):=fun h=>by unfold formB;rw[←hN.out,←hO.out,all_bad (eokB n1 n2) S.eqs k ho h];simp
       obtain⟨b,o,tv,rfl,hY,x1,x2,x3,hu⟩:=hS.e.at_ ho;generalize S.eqs[k]'ho=q at x1 x2 x3 hu hp HT hh;obtain⟨qg,qt,qs⟩:=q;simp only[]at x1 x2 x3 hu;obtain⟨to_,tc,rfl⟩:=RAt.form hu;obtain⟨n4,hT⟩:∃n,n=qs.length:=⟨_,rfl⟩;have hU:=Kh hT;rw[←hT]at x3 hu;clear hT;have hB:=Blk.new wt #[.int .i64 qg,.string qt,.slice to_ n4 tc] 131;have hZ:(0:Int)≤(k:Int):=by omega
       have h0:(k:Int)<(n3:Int):=by omega
       have Hz:=hP.lt;have HQ:Hid (eokB n1 n2 ⟨qg,qt,qs⟩=(decide (0≤qg)&&decide (qg<(n1:Int))&&vldB qt&&qs.all (tokB n2))):=rfl;generalize eokB n1 n2 ⟨qg,qt,qs⟩=ek at HT hh HQ;cases hv:vldB qt
       ·have HF:Hid (formB S=false):=hh.out (by rw[HQ.out,hv];simp);obtain⟨hb,hc,hd,he,hf,hg⟩:=hP.x3;go_wp2_with fail
        refine (rvalB_c qt false _ hp.out.1 hv).mono ?_;rintro e w' ⟨rfl,hq⟩;subst w';go_wp2;go_ret
        exact⟨by rw[hl.out,HF.out];rfl,ba hi _⟩
       ·cases h1:decide (qg<0)
        ·cases h2:decide ((n1:Int)≤qg)
         ·have hx1:decide (0≤qg)=true:=Dt (by have:=of_decide_eq_false h1;omega);have Ho:decide (qg<(n1:Int))=true:=Dt (by have:=of_decide_eq_false h2;omega);obtain⟨hb,hc,hd,he,hf,hg⟩:=hP.x3;go_wp2_with fail
          refine (rvalB_c qt true _ hp.out.1 hv).mono ?_;rintro e w' ⟨rfl,hq⟩;subst w';go_wp2;clear hb hc hd he hf hg;replace hP:=hP.alloc (.cells #[.int .i64 qg,.string qt,.slice to_ n4 tc] 131);replace hu:=TsAt.after hu (b1 _ (.cells #[.int .i64 qg,.string qt,.slice to_ n4 tc] 131));replace hi:=ba hi (.cells #[.int .i64 qg,.string qt,.slice to_ n4 tc] 131);replace hn:=ba hn (.cells #[.int .i64 qg,.string qt,.slice to_ n4 tc] 131);have l4:n4≤1000:=by rw[hU.out];exact hp.out.2.1
          generalize wt.alloc (.cells #[.int .i64 qg,.string qt,.slice to_ n4 tc] 131)=wu at hP hu hi hn hB;replace hB:Blk wu wt.heap.size 131 [.int .i64 qg,.string qt,.slice to_ n4 tc]:=hB;clear hS;go_loopw [7] (fun i wr=>∃k:Nat,k≤n4∧i=.int .i64 k∧Hid ((qs.take k).all (tokB n2)=true)∧Bw wu wr) (fun i _=>n4-(intOf i).toNat)
          case atStart=>exact⟨0,by omega,rfl,rfl,Br⟩
          case round =>
           obtain⟨j,hj,rfl,HJ,hE⟩:=hrel;obtain⟨wv,Hp⟩:∃wv,wv=wr:=⟨_,rfl⟩;subst Hp;replace hP:=hP.after hE;replace hB:=hB.after hE;replace hu:=TsAt.after hu hE;replace hi:=bt hi hE;have HB:=hB.lt;by_cases hV:j<n4
           ·have hI:j<qs.length:=by rw[←hU.out];exact hV
            have hF:=Kh (hp.out.2.2 _ (Gm hI));have hW:=Kh (all_take (tokB n2) qs j hI);have hG:Hid (tokB n2 qs[j]=false→formB S=false):=fun h=>hh.out (by rw[HQ.out,all_bad (tokB n2) qs j hI h];simp)
            obtain⟨b4,o4,rfl,Hq,y1,y2,y3,y4⟩:=TsAt.at_ hu hI;generalize qs[j]'hI=t at y1 y2 y3 y4 hF hW hG;obtain⟨tb,tv,tn,ta⟩:=t;simp only[]at y1 y2 y3 y4;have Hr:=Blk.new wv #[.string tb,.int .i64 tv,.bool tn,.string ta] 133;have HC:(0:Int)≤(j:Int):=by omega
            have HD:(j:Int)<(n4:Int):=by omega
            have Hs:=hP.lt;have hH:Hid (tokB n2 ⟨tb,tv,tn,ta⟩=(decide (0≤tv)&&decide (tv<(n2:Int))&&vldB tb&&ivB tn ta)):=rfl;generalize tokB n2 ⟨tb,tv,tn,ta⟩=tk at hW hG hH;cases hJ:vldB tb
            ·have HF:Hid (formB S=false):=hG.out (by rw[hH.out,hJ];simp);obtain⟨hb,hc,hd,he,hf,hg⟩:=hP.x3;obtain⟨hw,hx,hy,hz,hA,hC⟩:=hB.x3;go_wp2_with fail
             refine (rvalB_c tb false _ hF.out.1 hJ).mono ?_;rintro e w' ⟨rfl,hq⟩;subst w';go_wp2;go_ret
             exact⟨by rw[hl.out,HF.out];rfl,ba hi _⟩
            ·cases hR:ivB tn ta
             ·have HF:Hid (formB S=false):=hG.out (by rw[hH.out,hR];simp);obtain⟨hb,hc,hd,he,hf,hg⟩:=hP.x3;obtain⟨hw,hx,hy,hz,hA,hC⟩:=hB.x3;go_wp2_with fail
              refine (rvalB_c tb true _ hF.out.1 hJ).mono ?_;rintro e w' ⟨rfl,hq⟩;subst w';go_wp2_with fail
              refine (rivalB_c tn ta false _ hF.out.2 hR).mono ?_;rintro e w7 ⟨rfl,hD⟩;go_wp2;go_ret
              exact⟨by rw[hl.out,HF.out];rfl,bt (ba hi _) hD⟩
             ·have Ht:=hP.lt;obtain⟨hb,hc,hd,he,hf,hg⟩:=hP.x3;obtain⟨hw,hx,hy,hz,hA,hC⟩:=hB.x3;go_wp2_with fail
              refine (rvalB_c tb true _ hF.out.1 hJ).mono ?_;rintro e w' ⟨rfl,hq⟩;subst w';go_wp2_with fail
              refine (rivalB_c tn ta true _ hF.out.2 hR).mono ?_;rintro e w7 ⟨rfl,hD⟩;clear hb hc hd he hf hg;clear hw hx hy hz hA hC;have h3:=(hP.alloc (.cells #[.string tb,.int .i64 tv,.bool tn,.string ta] 133)).after hD;have h4:=Hr.after hD;have Hu:=h3.lt;have Hv:=h4.lt;obtain⟨h5,h6,h7,h8,h9,Ha⟩:=h3.x3;obtain⟨Hb,Hc,Hd,He,Hf,Hg,Hh,Hi⟩:=h4.x4;cases Hj:decide (tv<0)
              ·cases Hk:decide ((n2:Int)≤tv)
               ·have Hw:decide (0≤tv)=true:=Dt (by have:=of_decide_eq_false Hj;omega);have Hx:decide (tv<(n2:Int))=true:=Dt (by have:=of_decide_eq_false Hk;omega);have HX:Hid ((qs.take (j+1)).all (tokB n2)=true):=by rw[Hid,hW.out,HJ.out,hH.out,hJ,Hw,Hx,hR];rfl
                go_wp2;go_roundw
                case rel=>exact⟨j+1,by omega,by go_num,HX,bt (ba hE _) hD⟩
                case measure=>simp[intOf];omega
               ·have HF:Hid (formB S=false):=hG.out (by rw[hH.out,decide_eq_false (show ¬ tv<(n2:Int) by have:=of_decide_eq_true Hk;omega)];simp);go_wp2;go_ret
                exact⟨by rw[hl.out,HF.out];rfl,bt (ba hi _) hD⟩
              ·have HF:Hid (formB S=false):=hG.out (by rw[hH.out,decide_eq_false (show ¬ 0≤tv by have:=of_decide_eq_true Hj;omega)];simp);go_wp2;go_ret
               exact⟨by rw[hl.out,HF.out];rfl,bt (ba hi _) hD⟩
           ·have Hy:Hid (qs.all (tokB n2)=true):=all_end (tokB n2) qs j (by rw[←hU.out];omega) HJ.out;have HX:Hid ((S.eqs.take (k+1)).all (eokB n1 n2)=true):=by rw[Hid,HT.out,HA.out,HQ.out,hv,hx1,Ho,Hy.out];rfl
            obtain⟨hb,hc,hd,he,hf,hg⟩:=hP.x3;obtain⟨hw,hx,hy,hz,hA,hC⟩:=hB.x3;go_wp2;go_roundw
            case rel=>exact⟨k+1,by omega,by go_num,HX,bt hn hE⟩
            case measure=>simp[intOf];omega
         ·have HF:Hid (formB S=false):=hh.out (by rw[HQ.out,decide_eq_false (show ¬ qg<(n1:Int) by have:=of_decide_eq_true h2;omega)];simp);obtain⟨hb,hc,hd,he,hf,hg⟩:=hP.x3;go_wp2_with fail
          refine (rvalB_c qt true _ hp.out.1 hv).mono ?_;rintro e w' ⟨rfl,hq⟩;subst w';go_wp2;go_ret
          exact⟨by rw[hl.out,HF.out];rfl,ba hi _⟩
        ·have HF:Hid (formB S=false):=hh.out (by rw[HQ.out,decide_eq_false (show ¬ 0≤qg by have:=of_decide_eq_true h1;omega)];simp);obtain⟨hb,hc,hd,he,hf,hg⟩:=hP.x3;go_wp2_with fail
         refine (rvalB_c qt true _ hp.out.1 hv).mono ?_;rintro e w' ⟨rfl,hq⟩;subst w';go_wp2;go_ret
         exact⟨by rw[hl.out,HF.out];rfl,ba hi _⟩
      ·have HE:Hid (S.eqs.all (eokB n1 n2)=true):=all_end (eokB n1 n2) S.eqs k (by rw[←hX.out];omega) HA.out;have HF:Hid (formB S=true):=by unfold Hid formB;rw[HG.out,HV.out,←hN.out,←hO.out,HE.out];rfl
       obtain⟨hb,hc,hd,he,hf,hg⟩:=hP.x3;go_wp2;go_ret
       exact⟨by rw[hl.out,HF.out];rfl,hi⟩
end
section
open Go.RowKit
theorem gcl {w:World} {a:Addr} {v:Value} (hb:a.block<w.heap.size) (h:w.cell? a=some v):∀x:GW w,(Proofs.YtihjpddbjhcbmaaGreatDoor.gw x).cell? a=some v:=fun x=>((gw_below x).cell hb).trans h
theorem rmany_c (N:NSta) (v1 v2 v3:Value) (w:World) (hm:NOk N) (hS:NAt w v1 v2 v3 N) :
  Calls Tryz.prog 288 #[.agg #[v1,v2,v3]] w fun e w'=>e=.returned (.bool (decide (8<N.grps.length)))∧Bw w w':=by
 obtain⟨r,hr⟩:∃r:Bool,r=decide (8<N.grps.length):=⟨_,rfl⟩;have hi:=Kh hr;rw[←hr];clear hr;obtain⟨a1,c1,a2,c2,a3,c3,rfl,rfl,rfl⟩:=hS.forms;obtain⟨n1,hj⟩:∃n,n=N.grps.length:=⟨_,rfl⟩;obtain⟨n2,hl⟩:∃n,n=N.vars.length:=⟨_,rfl⟩;obtain⟨n3,hn⟩:∃n,n=N.eqs.length:=⟨_,rfl⟩;have hq:=Kh hj;have hx:=Kh hl;have hu:=Kh hn;have l1:n1≤10:=by rw[hj];exact hm.ng
 have l2:n2≤12:=by rw[hl];exact hm.nv
 have l3:n3≤12:=by rw[hn];exact hm.ne
 have HM:=Kh hm;rw[←hj,←hl,←hn]at hS ⊢;clear hm hj hl hn;obtain⟨hP,hh⟩:=blk1 w #[.slice a1 n1 c1,.slice a2 n2 c2,.slice a3 n3 c3] 29;replace hS:=hS.after hh;obtain⟨hb,hc,hd,he,hf,hg⟩:=hP.x3;go_enter Tryz.func288,Tryz.ntmps288
 go_wp2;clear hb hc hd he hf hg;generalize w.alloc (.cells #[.slice a1 n1 c1,.slice a2 n2 c2,.slice a3 n3 c3] 29)=w1 at hP hh hS;replace hP:Blk w1 w.heap.size 29 [.slice a1 n1 c1,.slice a2 n2 c2,.slice a3 n3 c3]:=hP;go_loopw [3] (fun i wr=>∃k:Nat,k≤n3∧i=.int .i64 k∧Bw w1 wr) (fun i _=>n3-(intOf i).toNat)
 case atStart=>exact⟨0,by omega,rfl,Br⟩
 case round =>
  obtain⟨k,hk,rfl,ho⟩:=hrel;obtain⟨wp,hv⟩:∃wp,wp=wr:=⟨_,rfl⟩;subst hv;replace hS:=hS.after ho;replace hP:=hP.after ho;replace hh:=bt hh ho;by_cases hlt:k<n3
  ·have hp:k<N.eqs.length:=by rw[←hu.out];exact hlt
   have ht:=Kh (HM.out.e _ (Gm hp)).2.2.1;obtain⟨b,o,tv,rfl,hy,x1,x2,x3,hw⟩:=hS.eat hp;obtain⟨to_,tc,rfl⟩:=hw.form;generalize (N.eqs[k]'hp).trms.length=n4 at x3 ht;have l4:n4≤12:=ht.out;have h4:decide ((64:Int)<(n4:Int))=false:=decide_eq_false (by omega);have hz:(0:Int)≤(k:Int):=by omega
   have hA:(k:Int)<(n3:Int):=by omega
   have hB:=hP.lt;obtain⟨hb,hc,hd,he,hf,hg⟩:=hP.x3;go_wp2;go_roundw
   case rel=>exact⟨k+1,by omega,by go_num,ho⟩
   case measure=>simp[intOf];omega
  ·have e2:decide ((64:Int)<(n2:Int))=false:=decide_eq_false (by omega);have e3:decide ((64:Int)<(n3:Int))=false:=decide_eq_false (by omega);by_cases h8:8<n1
   ·have e1:decide ((8:Int)<(n1:Int))=true:=Dt (by omega);have HF:Hid (r=true):=by rw[Hid,hi.out];exact Dt (by rw[←hq.out];exact h8)
    clear h8;obtain⟨hb,hc,hd,he,hf,hg⟩:=hP.x3;go_wp2;go_ret
    exact⟨by rw[HF.out];rfl,hh⟩
   ·have e1:decide ((8:Int)<(n1:Int))=false:=decide_eq_false (by omega);have HF:Hid (r=false):=by rw[Hid,hi.out];exact decide_eq_false (by rw[←hq.out];exact h8)
    clear h8;obtain⟨hb,hc,hd,he,hf,hg⟩:=hP.x3;go_wp2;go_ret
    exact⟨by rw[HF.out];rfl,hh⟩
theorem relements_c (N:NSta) (v1 v2 v3:Value) (w:World) (hm:NOk N) (hS:NAt w v1 v2 v3 N) :
  Calls Tryz.prog 289 #[.agg #[v1,v2,v3]] w fun e w'=>e=.returned (.bool N.elem)∧Bw w w':=by
 obtain⟨r,hr⟩:∃r:Bool,r=N.elem:=⟨_,rfl⟩;have hI:=Kh hr;rw[←hr];clear hr;obtain⟨a1,c1,a2,c2,a3,c3,rfl,rfl,rfl⟩:=hS.forms;obtain⟨n1,h2⟩:∃n,n=N.grps.length:=⟨_,rfl⟩;obtain⟨n2,h3⟩:∃n,n=N.vars.length:=⟨_,rfl⟩;obtain⟨n3,h4⟩:∃n,n=N.eqs.length:=⟨_,rfl⟩;have h6:=Kh h2;have Ht:=Kh h3;have Hf:=Kh h4;have l1:n1≤10:=by rw[h2];exact hm.ng
 have l2:n2≤12:=by rw[h3];exact hm.nv
 have l3:n3≤12:=by rw[h4];exact hm.ne
 have HM:=Kh hm;rw[←h2,←h3,←h4]at hS ⊢;clear hm h2 h3 h4;obtain⟨hP,hD⟩:=blk1 w #[.slice a1 n1 c1,.slice a2 n2 c2,.slice a3 n3 c3] 29;replace hS:=hS.after hD;obtain⟨hb,hc,hd,he,hf,hi⟩:=hP.x3;go_enter Tryz.func289,Tryz.ntmps289
 go_wp2;clear hb hc hd he hf hi;generalize w.alloc (.cells #[.slice a1 n1 c1,.slice a2 n2 c2,.slice a3 n3 c3] 29)=w1 at hP hD hS;replace hP:Blk w1 w.heap.size 29 [.slice a1 n1 c1,.slice a2 n2 c2,.slice a3 n3 c3]:=hP;go_loopw [3] (fun i wr=>∃k:Nat,k≤n1∧i=.int .i64 k∧Hid ((N.grps.take k).all gr0=true)∧Bw w1 wr) (fun i _=>n1-(intOf i).toNat)
 case atStart=>exact⟨0,by omega,rfl,rfl,Br⟩
 case round =>
  obtain⟨k,hk,rfl,HA,hE⟩:=hrel;obtain⟨wp,h7⟩:∃wp,wp=wr:=⟨_,rfl⟩;subst h7;replace hS:=hS.after hE;replace hP:=hP.after hE;replace hD:=bt hD hE;by_cases hlt:k<n1
  ·have hn:k<N.grps.length:=by rw[←h6.out];exact hlt
   have hp:=Kh (HM.out.g _ (Gm hn));have HT:=Kh (all_take gr0 N.grps k hn);have hl:Hid (gr0 (N.grps[k]'hn)=false→N.elem=false):=fun h=>by unfold NSta.elem;rw[all_bad gr0 N.grps k hn h];rfl
   have hO:Hid (gr0 (N.grps[k]'hn)=(grpE (N.grps[k]'hn).1 (N.grps[k]'hn).2==0)):=rfl;obtain⟨b,o,rfl,Hm,x1,x2⟩:=hS.gat hn;generalize gr0 (N.grps[k]'hn)=ok at HT hO hl;generalize (N.grps[k]'hn).1=s1 at x1 hp hO;generalize (N.grps[k]'hn).2=s2 at x2 hp hO;have Hn:(0:Int)≤(k:Int):=by omega
   have Ho:(k:Int)<(n1:Int):=by omega
   have Hg:=hP.lt;by_cases hg:grpE s1 s2=0
   ·have HG:=Kh hg;have HX:Hid ((N.grps.take (k+1)).all gr0=true):=by rw[Hid,HT.out,HA.out,hO.out,hg];rfl
    clear hl hg;obtain⟨hb,hc,hd,he,hf,hi⟩:=hP.x3;go_wp2_with fail
    refine (rpcheckV_c s1 s2 0 _ hp.out.1 (lt128 hp.out.2) HG.out).mono ?_;rintro e w2 ⟨rfl,hy⟩;go_wp2;go_roundw
    case rel=>exact⟨k+1,by omega,by go_num,HX,bt hE hy⟩
    case measure=>simp[intOf];omega
   ·have HG:=Kh (grpE_13 hg);have HF:Hid (N.elem=false):=hl.out (by rw[hO.out];simpa using hg);clear hl hg;obtain⟨hb,hc,hd,he,hf,hi⟩:=hP.x3;go_wp2_with fail
    refine (rpcheckV_c s1 s2 13 _ hp.out.1 (lt128 hp.out.2) HG.out).mono ?_;rintro e w2 ⟨rfl,hy⟩;go_wp2;go_ret
    exact⟨by rw[hI.out,HF.out];rfl,bt hD hy⟩
  ·have HG:Hid (N.grps.all gr0=true):=all_end gr0 N.grps k (by rw[←h6.out];omega) HA.out;clear hE;obtain⟨hb,hc,hd,he,hf,hi⟩:=hP.x3;go_wp2;clear hb hc hd he hf hi;clear HA hlt hk;go_loopw [4] (fun i wr=>∃k:Nat,k≤n3∧i=.int .i64 k∧Hid ((N.eqs.take k).all (elemQ N)=true)∧Bw wp wr) (fun i _=>n3-(intOf i).toNat)
   case atStart=>exact⟨0,by omega,rfl,rfl,Br⟩
   case round =>
    obtain⟨k,hk,rfl,HA,hE⟩:=hrel;obtain⟨wt,h7⟩:∃wp,wp=wr:=⟨_,rfl⟩;subst h7;replace hS:=hS.after hE;replace hP:=hP.after hE;replace hD:=bt hD hE;by_cases hlt:k<n3
    ·have hn:k<N.eqs.length:=by rw[←Hf.out];exact hlt
     have HT:=Kh (all_take (elemQ N) N.eqs k hn);have hl:Hid (elemQ N (N.eqs[k]'hn)=false→N.elem=false):=fun h=>by unfold NSta.elem;rw[all_bad (elemQ N) N.eqs k hn h];simp
     have hp:=Kh (HM.out.e _ (Gm hn));obtain⟨b,o,tv,rfl,Hm,x1,x2,x3,hF⟩:=hS.eat hn;generalize (N.eqs[k]'hn)=q at x1 x2 x3 hF hp HT hl;have hz:=hp.out.1;have Hp:q.grp<n1:=by rw[h6.out];exact hz
     have Hh:=Kh (gp_at N q hz);have Hi:Hid (gr0 (N.grps[q.grp]'hz)=true):=List.all_eq_true.1 HG.out _ (Gm hz);have hH:=Kh (HM.out.g _ (Gm hz));obtain⟨b',o',rfl,Hq,y1,y2⟩:=hS.gat hz;have hM:Hid (grpE (N.grps[q.grp]'hz).1 (N.grps[q.grp]'hz).2=0):=by have:=Hi.out;unfold Hid;simpa [gr0] using this
     have hK:Hid (elemQ N q=(hasB (N.grps[q.grp]'hz).1 (N.grps[q.grp]'hz).2 q.tgt&&q.trms.all (hasQ (N.grps[q.grp]'hz)))):=by rw[Hid,elemQ,Hh.out]
     generalize elemQ N q=ek at HT hl hK;generalize (N.grps[q.grp]'hz)=gg at y1 y2 hH hM hK;clear hz Hh Hi;obtain⟨qg,qt,qs⟩:=q;simp only[]at x1 x2 x3 hF hp hK Hp y1 y2;obtain⟨to_,tc,rfl⟩:=hF.form;obtain⟨n4,h8⟩:∃n,n=qs.length:=⟨_,rfl⟩;have h9:=Kh h8;rw[←h8]at x3 hF;clear h8;obtain⟨p,qq⟩:=gg;simp only[]at y1 y2 hH hM hK;have hB:=Blk.new wt #[.int .i64 (qg:Int),.string (E qt),.slice to_ n4 tc] 131;have hC:=Blk.new (wt.alloc (.cells #[.int .i64 (qg:Int),.string (E qt),.slice to_ n4 tc] 131)) #[.string (E p),.string (E qq)] 86;have Hn:(0:Int)≤(k:Int):=by omega
     have Ho:(k:Int)<(n3:Int):=by omega
     have Hu:(0:Int)≤(qg:Int):=by omega
     have Hv:(qg:Int)<(n1:Int):=by omega
     have Hg:=hP.lt;have Ha:=hB.lt;have Hb:=hC.lt;cases hh:hasB p qq qt
     ·have HF:Hid (N.elem=false):=hl.out (by rw[hK.out,hh];rfl);have HH:=Kh hh;clear hh;obtain⟨hb,hc,hd,he,hf,hi⟩:=hP.x3;go_wp2_with fail
      refine (rHasV_c p qq qt false _ hH.out.1 (lt128 hH.out.2) hM.out (Nl hp.out.2.1 (by decide)) HH.out).mono ?_;rintro e w2 ⟨rfl,hy⟩;go_wp2;go_ret
      exact⟨by rw[hI.out,HF.out];rfl,bt (ba (ba hD _) _) hy⟩
     ·have HH:=Kh hh;have ho:=hB.alloc (.cells #[.string (E p),.string (E qq)] 86);have hA:Blk ((wt.alloc (.cells #[.int .i64 (qg:Int),.string (E qt),.slice to_ n4 tc] 131)).alloc (.cells #[.string (E p),.string (E qq)] 86)) (wt.heap.size+1) 86 [.string (E p),.string (E qq)]:=by simpa using hC
      replace hF:=hF.after (b2 wt (.cells #[.int .i64 (qg:Int),.string (E qt),.slice to_ n4 tc] 131) (.cells #[.string (E p),.string (E qq)] 86));have Hj:=(hP.alloc (.cells #[.int .i64 (qg:Int),.string (E qt),.slice to_ n4 tc] 131)).alloc (.cells #[.string (E p),.string (E qq)] 86);have hG:=ba (ba hD (.cells #[.int .i64 (qg:Int),.string (E qt),.slice to_ n4 tc] 131)) (.cells #[.string (E p),.string (E qq)] 86);have hL:=ba (ba hE (.cells #[.int .i64 (qg:Int),.string (E qt),.slice to_ n4 tc] 131)) (.cells #[.string (E p),.string (E qq)] 86);clear hh;obtain⟨hb,hc,hd,he,hf,hi⟩:=hP.x3;go_wp2_with fail
      refine (rHasV_c p qq qt true _ hH.out.1 (lt128 hH.out.2) hM.out (Nl hp.out.2.1 (by decide)) HH.out).mono ?_;rintro e w2 ⟨rfl,hy⟩;clear hb hc hd he hf hi;clear hP hB hC Ha Hb Hg;replace ho:=ho.after hy;replace hA:=hA.after hy;replace Hj:=Hj.after hy;replace hF:=hF.after hy;replace hG:=bt hG hy;replace hL:=bt hL hy;clear hy hD hE hS;have Ha:=ho.lt;have Hb:=hA.lt;obtain⟨hq,ht,hu,hv,hw,hx⟩:=ho.x3;go_wp2;clear hq ht hu hv hw hx;have l4:n4≤12:=by rw[h9.out];exact hp.out.2.2.1
      go_loopw [7] (fun i wr=>∃k:Nat,k≤n4∧i=.int .i64 k∧Hid ((qs.take k).all (hasQ (p,qq))=true)∧Bw w2 wr) (fun i _=>n4-(intOf i).toNat)
      case atStart=>exact⟨0,by omega,rfl,rfl,Br⟩
      case round =>
       obtain⟨j,hj,rfl,HJ,hN⟩:=hrel;obtain⟨wv,Hr⟩:∃wv,wv=wr:=⟨_,rfl⟩;subst Hr;replace ho:=ho.after hN;replace hA:=hA.after hN;replace hF:=hF.after hN;replace hG:=bt hG hN;have Ha:=ho.lt;have Hb:=hA.lt;by_cases Hc:j<n4
       ·have hJ:j<qs.length:=by rw[←h9.out];exact Hc
        have Hd:=Kh (hp.out.2.2.2 _ (Gm hJ)).1;have Hk:=Kh (all_take (hasQ (p,qq)) qs j hJ);have Hl:Hid (hasQ (p,qq) (qs[j]'hJ)=false→N.elem=false):=fun h=>hl.out (by rw[hK.out,all_bad (hasQ (p,qq)) qs j hJ h];simp)
        obtain⟨b4,o4,rfl,hQ,z1,z2,z3,z4⟩:=hF.at_ hJ;have h5:Hid (hasQ (p,qq) (qs[j]'hJ)=hasB p qq (qs[j]'hJ).base):=rfl;generalize hasQ (p,qq) (qs[j]'hJ)=Hw at Hk Hl h5;generalize (qs[j]'hJ).base=tb at z1 Hd h5;have Hx:(0:Int)≤(j:Int):=by omega
        have Hy:(j:Int)<(n4:Int):=by omega
        cases hh:hasB p qq tb
        ·have HF:Hid (N.elem=false):=Hl.out (by rw[h5.out,hh]);have He:=Kh hh;clear hh;have g1:=gcl (a:=⟨b4,o4+j*4,none⟩) hQ z1;obtain⟨hq,ht,hu,hv,hw,hx⟩:=ho.x3;obtain⟨hR,hT,hU,hV⟩:=hA.x2;have hW:=ho.gcell 0;have hX:=ho.gcell 1;have hY:=ho.gcell 2;have hZ:=hA.gcell 0;have h0:=hA.gcell 1;go_wp2_with fail
         refine wp_region_gw (by kernel_rfl) (by kernel_rfl) ?_;repeat (go_big_quiet_step (first | (go_at_call 151;exact gw_of (rHasV_c p qq tb false _ hH.out.1 (lt128 hH.out.2) hM.out (Nl Hd.out (by decide)) He.out))))
         refine wpQuiet_nil ?_;rintro w5 ⟨xw5,rfl⟩;have h1:=gw_below xw5;generalize gw xw5=w5 at h1;go_wp2;go_ret
         exact⟨by rw[hI.out,HF.out];rfl,bt hG h1⟩
        ·have HX:Hid ((qs.take (j+1)).all (hasQ (p,qq))=true):=by rw[Hid,Hk.out,HJ.out,h5.out,hh];rfl
         have He:=Kh hh;clear hh;have g1:=gcl (a:=⟨b4,o4+j*4,none⟩) hQ z1;obtain⟨hq,ht,hu,hv,hw,hx⟩:=ho.x3;obtain⟨hR,hT,hU,hV⟩:=hA.x2;have hW:=ho.gcell 0;have hX:=ho.gcell 1;have hY:=ho.gcell 2;have hZ:=hA.gcell 0;have h0:=hA.gcell 1;go_wp2_with fail
         refine wp_region_gw (by kernel_rfl) (by kernel_rfl) ?_;repeat (go_big_quiet_step (first | (go_at_call 151;exact gw_of (rHasV_c p qq tb true _ hH.out.1 (lt128 hH.out.2) hM.out (Nl Hd.out (by decide)) He.out))))
         refine wpQuiet_nil ?_;rintro w5 ⟨xw5,rfl⟩;have h1:=gw_below xw5;generalize gw xw5=w5 at h1;go_wp2;go_roundw
         case rel=>exact⟨j+1,by omega,by go_num,HX,bt hN h1⟩
         case measure=>simp[intOf];omega
       ·have Hs:Hid (qs.all (hasQ (p,qq))=true):=all_end (hasQ (p,qq)) qs j (by rw[←h9.out];omega) HJ.out;have HX:Hid ((N.eqs.take (k+1)).all (elemQ N)=true):=by rw[Hid,HT.out,HA.out,hK.out,HH.out,Hs.out];rfl
        obtain⟨hq,ht,hu,hv,hw,hx⟩:=ho.x3;go_wp2;go_roundw
        case rel=>exact⟨k+1,by omega,by go_num,HX,bt hL hN⟩
        case measure=>simp[intOf];omega
    ·have HE:Hid (N.eqs.all (elemQ N)=true):=all_end (elemQ N) N.eqs k (by rw[←Hf.out];omega) HA.out;have HF:Hid (N.elem=true):=by unfold Hid NSta.elem;rw[HG.out,HE.out];rfl
     obtain⟨hb,hc,hd,he,hf,hi⟩:=hP.x3;go_wp2;go_ret
     exact⟨by rw[hI.out,HF.out];rfl,hD⟩
end
section
open Go.RowKit
def badT (N:NSta) (g:Nat × Nat) (t:NTrm):Bool:=N.tz t&&vz g.2
theorem badT_any (N:NSta) (g:Nat × Nat) (l:List NTrm):l.any (badT N g)=(vz g.2&&l.any N.tz):=by
 induction l with
 | nil=>simp
 | cons x t ih=>rw[List.any_cons,List.any_cons,ih];simp only[badT];cases vz g.2 <;> cases N.tz x <;> simp
theorem gq_eq (n:Nat) (g:Nat × Nat):gq n g=(!(vz g.2)&&g.2 != n):=rfl
theorem rtyped_c (N:NSta) (v1 v2 v3:Value) (w:World) (hm:NOk N) (hS:NAt w v1 v2 v3 N) :
  Calls Tryz.prog 290 #[.agg #[v1,v2,v3]] w fun e w'=>e=.returned (.bool N.typ)∧Bw w w':=by
 obtain⟨r,hr⟩:∃r:Bool,r=N.typ:=⟨_,rfl⟩;have hp:=Kh hr;rw[←hr];clear hr;obtain⟨a1,c1,a2,c2,a3,c3,rfl,rfl,rfl⟩:=hS.forms;obtain⟨n1,hV⟩:∃n,n=N.grps.length:=⟨_,rfl⟩;obtain⟨n2,hW⟩:∃n,n=N.vars.length:=⟨_,rfl⟩;obtain⟨n3,hX⟩:∃n,n=N.eqs.length:=⟨_,rfl⟩;have h4:=Kh hV;have h5:=Kh hW;have Hg:=Kh hX;have l1:n1≤10:=by rw[hV];exact hm.ng
 have l2:n2≤12:=by rw[hW];exact hm.nv
 have l3:n3≤12:=by rw[hX];exact hm.ne
 have HM:=Kh hm;rw[←hV,←hW,←hX]at hS ⊢;clear hm hV hW hX;obtain⟨hP,hi⟩:=blk1 w #[.slice a1 n1 c1,.slice a2 n2 c2,.slice a3 n3 c3] 29;replace hS:=hS.after hi;obtain⟨hb,hc,hd,he,hf,hg⟩:=hP.x3;go_enter Tryz.func290,Tryz.ntmps290
 go_wp2;clear hb hc hd he hf hg;generalize w.alloc (.cells #[.slice a1 n1 c1,.slice a2 n2 c2,.slice a3 n3 c3] 29)=w1 at hP hi hS;replace hP:Blk w1 w.heap.size 29 [.slice a1 n1 c1,.slice a2 n2 c2,.slice a3 n3 c3]:=hP;go_loopw [3,4] (fun s i wr=>∃k:Nat,∃sb:Bool,k≤n2∧i=.int .i64 k∧s=.bool sb∧Hid (sb=(N.vars.take k).any vz)∧Bw w1 wr) (fun _ i _=>n2-(intOf i).toNat)
 case atStart=>exact⟨0,false,by omega,rfl,rfl,rfl,Br⟩
 case round =>
  obtain⟨k,sb,hk,rfl,rfl,HA,hh⟩:=hrel;obtain⟨wp,Hn⟩:∃wp,wp=wr:=⟨_,rfl⟩;subst Hn;replace hS:=hS.after hh;replace hP:=hP.after hh;replace hi:=bt hi hh;by_cases hlt:k<n2
  ·have hl:k<N.vars.length:=by rw[←h5.out];exact hlt
   have HT:=Kh (any_take vz N.vars k hl);obtain⟨b,o,rfl,Hh,x1⟩:=hS.vat hl;have HV:Hid (vz (N.vars[k]'hl)=vz (N.vars[k]'hl)):=rfl;generalize (N.vars[k]'hl)=s1 at x1 HT;have Hi:(0:Int)≤(k:Int):=by omega
   have Hj:(k:Int)<(n2:Int):=by omega
   have hv:=hP.lt;cases sb
   ·rcases Nat.eq_zero_or_pos s1 with rfl | h0
    ·have hz:=zE (n:=0) rfl;have HX:Hid (true=(N.vars.take (k+1)).any vz):=by rw[Hid,HT.out,←HA.out];rfl
     obtain⟨hb,hc,hd,he,hf,hg⟩:=hP.x3;go_wp2;go_roundw
     case rel=>exact⟨k+1,true,by omega,by go_num,rfl,HX,hh⟩
     case measure=>simp[intOf];omega
    ·have hz:=nzE h0;have HX:Hid (false=(N.vars.take (k+1)).any vz):=by rw[Hid,HT.out,←HA.out,vz_pos h0];rfl
     clear h0;obtain⟨hb,hc,hd,he,hf,hg⟩:=hP.x3;go_wp2;go_roundw
     case rel=>exact⟨k+1,false,by omega,by go_num,rfl,HX,hh⟩
     case measure=>simp[intOf];omega
   ·have HX:Hid (true=(N.vars.take (k+1)).any vz):=by rw[Hid,HT.out,←HA.out];rfl
    obtain⟨hb,hc,hd,he,hf,hg⟩:=hP.x3;go_wp2;go_roundw
    case rel=>exact⟨k+1,true,by omega,by go_num,rfl,HX,hh⟩
    case measure=>simp[intOf];omega
  ·have h6:Hid (sb=N.vars.any vz):=by
    have h:(N.vars.take k).any vz=N.vars.any vz:=by rw[List.take_of_length_le (by rw[←h5.out];omega)]
    rw[Hid,HA.out,h]
   clear hh HA;cases sb
   ·have HF:=Kh (typ_vars N h6.out.symm);obtain⟨hb,hc,hd,he,hf,hg⟩:=hP.x3;go_wp2;go_ret
    exact⟨by rw[hp.out,HF.out];rfl,hi⟩
   ·have h7:Hid (N.vars.any vz=true):=h6.out.symm;clear h6;have hv:=hP.lt;obtain⟨hb,hc,hd,he,hf,hg⟩:=hP.x3;go_wp2_with fail
    refine (rorder15_c N _ _ _ _ HM.out hS).mono ?_;rintro e w3 ⟨rfl,hY⟩;clear hb hc hd he hf hg;replace hP:=hP.after hY;replace hS:=hS.after hY;replace hi:=bt hi hY;clear hY hv;have hv:=hP.lt;by_cases ho:N.ord=0
    ·have hz:=zE ho;have HF:=Kh (typ_ord N h7.out ho);clear ho;obtain⟨hb,hc,hd,he,hf,hg⟩:=hP.x3;go_wp2;go_ret
     exact⟨by rw[hp.out,HF.out];rfl,hi⟩
    ·have hz:=nzE (Nat.pos_of_ne_zero ho);have HO:=Kh ho;clear ho;obtain⟨hb,hc,hd,he,hf,hg⟩:=hP.x3;go_wp2;clear hb hc hd he hf hg;clear hz;go_loopw [6] (fun i wr=>∃k:Nat,k≤n1∧i=.int .i64 k∧Hid ((N.grps.take k).any (gq N.ord)=false)∧Bw w3 wr) (fun i _=>n1-(intOf i).toNat)
     case atStart=>exact⟨0,by omega,rfl,rfl,Br⟩
     case round =>
      obtain⟨k,hk,rfl,HA,hh⟩:=hrel;obtain⟨wq,Ho⟩:∃wq,wq=wr:=⟨_,rfl⟩;subst Ho;replace hS:=hS.after hh;replace hP:=hP.after hh;replace hi:=bt hi hh;clear hv;have hv:=hP.lt;by_cases hlt:k<n1
      ·have hl:k<N.grps.length:=by rw[←h4.out];exact hlt
       have HT:=Kh (any_take (gq N.ord) N.grps k hl);have hn:Hid (gq N.ord (N.grps[k]'hl)=true→N.typ=false):=fun h=>typ_gq N h7.out (any_hit _ _ k hl h)
       have hA:=Kh (gq_eq N.ord (N.grps[k]'hl));obtain⟨b,o,rfl,Hh,x1,x2⟩:=hS.gat hl;generalize gq N.ord (N.grps[k]'hl)=gk at HT hn hA;generalize (N.grps[k]'hl).2=s2 at x2 hA;have Hi:(0:Int)≤(k:Int):=by omega
       have Hj:(k:Int)<(n1:Int):=by omega
       rcases Nat.eq_zero_or_pos s2 with rfl | h0
       ·have hz:=zE (n:=0) rfl;have HX:Hid ((N.grps.take (k+1)).any (gq N.ord)=false):=by rw[Hid,HT.out,HA.out,hA.out];rfl
        clear hn;obtain⟨hb,hc,hd,he,hf,hg⟩:=hP.x3;go_wp2;go_roundw
        case rel=>exact⟨k+1,by omega,by go_num,HX,hh⟩
        case measure=>simp[intOf];omega
       ·have hz:=nzE h0;by_cases hq:s2=N.ord
        ·have h1:=eqT hq;have h2:=eqE hq;have HX:Hid ((N.grps.take (k+1)).any (gq N.ord)=false):=by rw[Hid,HT.out,HA.out,hA.out,hq];simp
         clear hn hq h0;obtain⟨hb,hc,hd,he,hf,hg⟩:=hP.x3;go_wp2;go_roundw
         case rel=>exact⟨k+1,by omega,by go_num,HX,hh⟩
         case measure=>simp[intOf];omega
        ·have h1:=eqF hq;have h2:=neE hq;have HF:Hid (N.typ=false):=hn.out (by rw[hA.out,vz_pos h0];simp[hq]);clear hn hq h0;obtain⟨hb,hc,hd,he,hf,hg⟩:=hP.x3;go_wp2;go_ret
         exact⟨by rw[hp.out,HF.out];rfl,hi⟩
      ·have hA:Hid (N.grps.any (gq N.ord)=false):=any_end _ _ k (by rw[←h4.out];omega) HA.out;clear hh HA;obtain⟨hb,hc,hd,he,hf,hg⟩:=hP.x3;go_wp2;clear hb hc hd he hf hg;go_loopw [7] (fun i wr=>∃k:Nat,k≤n3∧i=.int .i64 k∧Hid ((N.eqs.take k).all (kindQ N)=true)∧Bw wq wr) (fun i _=>n3-(intOf i).toNat)
       case atStart=>exact⟨0,by omega,rfl,rfl,Br⟩
       case round =>
        obtain⟨k,hk,rfl,HA,hh⟩:=hrel;obtain⟨wt,Hp⟩:∃wt,wt=wr:=⟨_,rfl⟩;subst Hp;replace hS:=hS.after hh;replace hP:=hP.after hh;replace hi:=bt hi hh;clear hv;have hv:=hP.lt;by_cases hlt:k<n3
        ·have hl:k<N.eqs.length:=by rw[←Hg.out];exact hlt
         have HT:=Kh (all_take (kindQ N) N.eqs k hl);have hn:=Kh (typ_kind N h7.out k hl);have hM:=Kh (HM.out.e _ (Gm hl));obtain⟨b,o,tv,rfl,Hh,x1,x2,x3,ht⟩:=hS.eat hl;generalize (N.eqs[k]'hl)=q at x1 x2 x3 ht hM HT hn;have hJ:=hM.out.1;have Hq:q.grp<n1:=by rw[h4.out];exact hJ
         have Hk:=Kh (gp_at N q hJ);obtain⟨b',o',rfl,h8,y1,y2⟩:=hS.gat hJ;have hK:Hid (kindQ N q=(!(q.trms.any (badT N (N.grps[q.grp]'hJ))))):=by rw[Hid,kindQ,Hk.out,badT_any,Bool.not_and]
         generalize kindQ N q=ek at HT hn hK;generalize (N.grps[q.grp]'hJ)=gg at y1 y2 hK;clear hJ Hk;obtain⟨qg,qt,qs⟩:=q;simp only[]at x1 x2 x3 ht hM hK Hq y1 y2;obtain⟨to_,tc,rfl⟩:=ht.form;obtain⟨n4,h9⟩:∃n,n=qs.length:=⟨_,rfl⟩;have Ha:=Kh h9;rw[←h9]at x3 ht;clear h9;obtain⟨p,qq⟩:=gg;simp only[]at y1 y2 hK;have l4:n4≤12:=by rw[Ha.out];exact hM.out.2.2.1
         have hB:=Blk.new wt #[.int .i64 (qg:Int),.string (E qt),.slice to_ n4 tc] 131;have Hi:(0:Int)≤(k:Int):=by omega
         have Hj:(k:Int)<(n3:Int):=by omega
         have Ht:(0:Int)≤(qg:Int):=by omega
         have Hu:(qg:Int)<(n1:Int):=by omega
         obtain⟨hb,hc,hd,he,hf,hg⟩:=hP.x3;go_wp2;clear hb hc hd he hf hg;replace hP:=hP.alloc (.cells #[.int .i64 (qg:Int),.string (E qt),.slice to_ n4 tc] 131);replace ht:=ht.after (b1 _ (.cells #[.int .i64 (qg:Int),.string (E qt),.slice to_ n4 tc] 131));have hZ:=hS.after (b1 _ (.cells #[.int .i64 (qg:Int),.string (E qt),.slice to_ n4 tc] 131));replace hi:=ba hi (.cells #[.int .i64 (qg:Int),.string (E qt),.slice to_ n4 tc] 131);replace hh:=ba hh (.cells #[.int .i64 (qg:Int),.string (E qt),.slice to_ n4 tc] 131);have y2':(wt.alloc (.cells #[.int .i64 (qg:Int),.string (E qt),.slice to_ n4 tc] 131)).cell? ⟨b',o'+qg*2+1,none⟩=some (.string (E qq)):=((b1 wt (.cells #[.int .i64 (qg:Int),.string (E qt),.slice to_ n4 tc] 131)).cell (p:=⟨b',o'+qg*2+1,none⟩) h8).trans y2;have hC:b'<(wt.alloc (.cells #[.int .i64 (qg:Int),.string (E qt),.slice to_ n4 tc] 131)).heap.size:=by simp;omega
         clear hS hv y1 y2 x1 x2 x3;generalize wt.alloc (.cells #[.int .i64 (qg:Int),.string (E qt),.slice to_ n4 tc] 131)=wu at hP ht hZ hi hh hB y2' hC;replace hB:Blk wu wt.heap.size 131 [.int .i64 (qg:Int),.string (E qt),.slice to_ n4 tc]:=hB;go_loopw [9] (fun i wr=>∃k:Nat,k≤n4∧i=.int .i64 k∧Hid ((qs.take k).any (badT N (p,qq))=false)∧Bw wu wr) (fun i _=>n4-(intOf i).toNat)
         case atStart=>exact⟨0,by omega,rfl,rfl,Br⟩
         case round =>
          obtain⟨j,hj,rfl,HJ,hu⟩:=hrel;obtain⟨wv,Hr⟩:∃wv,wv=wr:=⟨_,rfl⟩;subst Hr;replace hP:=hP.after hu;replace hB:=hB.after hu;replace ht:=ht.after hu;replace hZ:=hZ.after hu;replace hi:=bt hi hu;have y3:=(hu.cell (p:=⟨b',o'+qg*2+1,none⟩) hC).trans y2';have Hb:=Nl hC hu.size;have hv:=hP.lt;have Hv:=hB.lt;by_cases Hc:j<n4
          ·have hw:j<qs.length:=by rw[←Ha.out];exact Hc
           have Hl:=Kh (hM.out.2.2.2 _ (Gm hw)).2.1;have Hd:=Kh (any_take (badT N (p,qq)) qs j hw);have Hm:Hid (badT N (p,qq) (qs[j]'hw)=true→N.typ=false):=fun h=>hn.out (by rw[hK.out,any_hit _ qs j hw h];rfl)
           have h3:Hid (badT N (p,qq) (qs[j]'hw)=(vz (N.vars.getD (qs[j]'hw).var 0)&&vz qq)):=rfl;obtain⟨b4,o4,rfl,He,z1,z2,z3,z4⟩:=ht.at_ hw;generalize badT N (p,qq) (qs[j]'hw)=bk at Hd Hm h3;generalize (qs[j]'hw).var=vv at z2 Hl h3;have hL:=Hl.out;obtain⟨b5,o5,rfl,Hf,u1⟩:=hZ.vat hL
           have hx:Hid (bk=(vz (N.vars[vv]'hL)&&vz qq)):=by
            rw[Hid,h3.out,List.getD_eq_getElem?_getD,List.getElem?_eq_getElem hL];rfl
           generalize (N.vars[vv]'hL)=sv at u1 hx;have Hw:vv<n2:=by rw[h5.out];exact hL
           have Hx:(0:Int)≤(j:Int):=by omega
           have Hy:(j:Int)<(n4:Int):=by omega
           have Hz:(0:Int)≤(vv:Int):=by omega
           have HB:(vv:Int)<(n2:Int):=by omega
           clear hL h3;have g1:=gcl (a:=⟨b4,o4+j*4+1,none⟩) He z2;have g2:=gcl (a:=⟨b5,o5+vv,none⟩) Hf u1;have g3:=gcl (a:=⟨b',o'+qg*2+1,none⟩) Hb y3;rcases Nat.eq_zero_or_pos sv with rfl | h0
           ·have hz:=zE (n:=0) rfl;rcases Nat.eq_zero_or_pos qq with rfl | h1
            ·have HF:Hid (N.typ=false):=Hm.out (by rw[hx.out];rfl);obtain⟨hb,hc,hd,he,hf,hg⟩:=hP.x3;obtain⟨hD,hE,hF,hG,hH,hI⟩:=hB.x3;have hN:=hP.gcell 0;have hO:=hP.gcell 1;have hQ:=hP.gcell 2;have hR:=hB.gcell 0;have hT:=hB.gcell 1;have hU:=hB.gcell 2;go_wp2_with fail
             refine wp_region_gw (by kernel_rfl) (by kernel_rfl) ?_;repeat (go_big_quiet_step (first | (fail)))
             refine wpQuiet_nil ?_;rintro w5 ⟨xw5,rfl⟩;have hy:=gw_below xw5;generalize gw xw5=w5 at hy;go_wp2;go_ret
             exact⟨by rw[hp.out,HF.out];rfl,bt hi hy⟩
            ·have HC:=nzE h1;have HX:Hid ((qs.take (j+1)).any (badT N (p,qq))=false):=by rw[Hid,Hd.out,HJ.out,hx.out,vz_pos h1];rfl
             clear h1;obtain⟨hb,hc,hd,he,hf,hg⟩:=hP.x3;obtain⟨hD,hE,hF,hG,hH,hI⟩:=hB.x3;have hN:=hP.gcell 0;have hO:=hP.gcell 1;have hQ:=hP.gcell 2;have hR:=hB.gcell 0;have hT:=hB.gcell 1;have hU:=hB.gcell 2;go_wp2_with fail
             refine wp_region_gw (by kernel_rfl) (by kernel_rfl) ?_;repeat (go_big_quiet_step (first | (fail)))
             refine wpQuiet_nil ?_;rintro w5 ⟨xw5,rfl⟩;have hy:=gw_below xw5;generalize gw xw5=w5 at hy;go_wp2;go_roundw
             case rel=>exact⟨j+1,by omega,by go_num,HX,bt hu hy⟩
             case measure=>simp[intOf];omega
           ·have hz:=nzE h0;have HX:Hid ((qs.take (j+1)).any (badT N (p,qq))=false):=by rw[Hid,Hd.out,HJ.out,hx.out,vz_pos h0];rfl
            clear h0;obtain⟨hb,hc,hd,he,hf,hg⟩:=hP.x3;obtain⟨hD,hE,hF,hG,hH,hI⟩:=hB.x3;have hN:=hP.gcell 0;have hO:=hP.gcell 1;have hQ:=hP.gcell 2;have hR:=hB.gcell 0;have hT:=hB.gcell 1;have hU:=hB.gcell 2;go_wp2_with fail
            refine wp_region_gw (by kernel_rfl) (by kernel_rfl) ?_;repeat (go_big_quiet_step (first | (fail)))
            refine wpQuiet_nil ?_;rintro w5 ⟨xw5,rfl⟩;have hy:=gw_below xw5;generalize gw xw5=w5 at hy;go_wp2;go_roundw
            case rel=>exact⟨j+1,by omega,by go_num,HX,bt hu hy⟩
            case measure=>simp[intOf];omega
          ·have Hs:Hid (qs.any (badT N (p,qq))=false):=any_end _ qs j (by rw[←Ha.out];omega) HJ.out;have HX:Hid ((N.eqs.take (k+1)).all (kindQ N)=true):=by rw[Hid,HT.out,HA.out,hK.out,Hs.out];rfl
           obtain⟨hb,hc,hd,he,hf,hg⟩:=hP.x3;obtain⟨hD,hE,hF,hG,hH,hI⟩:=hB.x3;go_wp2;go_roundw
           case rel=>exact⟨k+1,by omega,by go_num,HX,bt hh hu⟩
           case measure=>simp[intOf];omega
        ·have HE:Hid (N.eqs.all (kindQ N)=true):=all_end (kindQ N) N.eqs k (by rw[←Hg.out];omega) HA.out;have HF:=Kh (typ_ok N HO.out hA.out HE.out);obtain⟨hb,hc,hd,he,hf,hg⟩:=hP.x3;go_wp2;go_ret
         exact⟨by rw[hp.out,HF.out];rfl,hi⟩
theorem rmany0 (N:NSta) (v1 v2 v3:Value) (w:World) (r:Bool) (hm:NOk N) (hS:NAt w v1 v2 v3 N) (h:decide (8<N.grps.length)=r) :
  Calls Tryz.prog 288 #[.agg #[v1,v2,v3]] w fun e w'=>e=.returned (.bool r)∧Bw w w':=by
 rw[←h];exact rmany_c N v1 v2 v3 w hm hS
theorem relements0 (N:NSta) (v1 v2 v3:Value) (w:World) (r:Bool) (hm:NOk N) (hS:NAt w v1 v2 v3 N) (h:N.elem=r) :
  Calls Tryz.prog 289 #[.agg #[v1,v2,v3]] w fun e w'=>e=.returned (.bool r)∧Bw w w':=by
 rw[←h];exact relements_c N v1 v2 v3 w hm hS
theorem rtyped0 (N:NSta) (v1 v2 v3:Value) (w:World) (r:Bool) (hm:NOk N) (hS:NAt w v1 v2 v3 N) (h:N.typ=r) :
  Calls Tryz.prog 290 #[.agg #[v1,v2,v3]] w fun e w'=>e=.returned (.bool r)∧Bw w w':=by
 rw[←h];exact rtyped_c N v1 v2 v3 w hm hS
theorem rrest_c (N:NSta) (v1 v2 v3:Value) (w:World) (hm:NOk N) (hS:NAt w v1 v2 v3 N) :
  Calls Tryz.prog 244 #[.agg #[v1,v2,v3]] w fun e w'=>e=.returned (.int .i64 (N.chk:Nat))∧Bw w w':=by
 obtain⟨r,hr⟩:∃r:Nat,r=N.chk:=⟨_,rfl⟩;have hi:=Kh hr;rw[←hr];clear hr;obtain⟨a1,c1,a2,c2,a3,c3,rfl,rfl,rfl⟩:=hS.forms;obtain⟨n1,hq⟩:∃n,n=N.grps.length:=⟨_,rfl⟩;obtain⟨n2,ht⟩:∃n,n=N.vars.length:=⟨_,rfl⟩;obtain⟨n3,hu⟩:∃n,n=N.eqs.length:=⟨_,rfl⟩;have hw:=Kh hq;have hx:=Kh ht;have hy:=Kh hu;have l1:n1≤10:=by rw[hq];exact hm.ng
 have l2:n2≤12:=by rw[ht];exact hm.nv
 have l3:n3≤12:=by rw[hu];exact hm.ne
 have HM:=Kh hm;rw[←hq,←ht,←hu]at hS ⊢;clear hm hq ht hu;obtain⟨hP,hh⟩:=blk1 w #[.slice a1 n1 c1,.slice a2 n2 c2,.slice a3 n3 c3] 29;replace hS:=hS.after hh;by_cases h8:8<N.grps.length
 ·have HR:=Kh (Dt h8);have HF:Hid (r=6):=by rw[Hid,hi.out,chk_6 h8]
  clear h8;obtain⟨hb,hc,hd,he,hf,hg⟩:=hP.x3;go_enter Tryz.func244,Tryz.ntmps244
  go_wp2_with fail
  refine (rmany0 N _ _ _ _ _ HM.out hS HR.out).mono ?_;rintro e w2 ⟨rfl,hl⟩;go_wp2;go_ret
  exact⟨by rw[HF.out];rfl,bt hh hl⟩
 ·have HR:=Kh (decide_eq_false h8);have H8:=Kh h8;clear h8;obtain⟨hb,hc,hd,he,hf,hg⟩:=hP.x3;go_enter Tryz.func244,Tryz.ntmps244
  go_wp2_with fail
  refine (rmany0 N _ _ _ _ _ HM.out hS HR.out).mono ?_;rintro e w2 ⟨rfl,hl⟩;clear hb hc hd he hf hg;replace hP:=hP.after hl;replace hS:=hS.after hl;replace hh:=bt hh hl;clear hl;have hk:=hP.lt;cases ho:N.elem
  ·have HF:Hid (r=13):=by rw[Hid,hi.out,chk_13 H8.out ho]
   have hp:=Kh ho;clear ho;obtain⟨hb,hc,hd,he,hf,hg⟩:=hP.x3;go_wp2_with fail
   refine (relements0 N _ _ _ _ _ HM.out hS hp.out).mono ?_;rintro e w3 ⟨rfl,hj⟩;clear hb hc hd he hf hg;replace hP:=hP.after hj;replace hS:=hS.after hj;replace hh:=bt hh hj;clear hj;clear hk;have hk:=hP.lt;obtain⟨hb,hc,hd,he,hf,hg⟩:=hP.x3;go_wp2;go_ret
   exact⟨by rw[HF.out];rfl,hh⟩
  ·have hp:=Kh ho;clear ho;obtain⟨hb,hc,hd,he,hf,hg⟩:=hP.x3;go_wp2_with fail
   refine (relements0 N _ _ _ _ _ HM.out hS hp.out).mono ?_;rintro e w3 ⟨rfl,hj⟩;clear hb hc hd he hf hg;replace hP:=hP.after hj;replace hS:=hS.after hj;replace hh:=bt hh hj;clear hj;clear hk;have hk:=hP.lt;cases hn:N.typ
   ·have HF:Hid (r=10):=by rw[Hid,hi.out,chk_10 H8.out hp.out hn]
    have hv:=Kh hn;clear hn;obtain⟨hb,hc,hd,he,hf,hg⟩:=hP.x3;go_wp2_with fail
    refine (rtyped0 N _ _ _ _ _ HM.out hS hv.out).mono ?_;rintro e w4 ⟨rfl,hb4⟩;clear hb hc hd he hf hg;replace hP:=hP.after hb4;replace hS:=hS.after hb4;replace hh:=bt hh hb4;clear hb4;clear hk;have hk:=hP.lt;obtain⟨hb,hc,hd,he,hf,hg⟩:=hP.x3;go_wp2;go_ret
    exact⟨by rw[HF.out];rfl,hh⟩
   ·have HF:Hid (r=0):=by rw[Hid,hi.out,chk_0 H8.out hp.out hn]
    have hv:=Kh hn;clear hn;obtain⟨hb,hc,hd,he,hf,hg⟩:=hP.x3;go_wp2_with fail
    refine (rtyped0 N _ _ _ _ _ HM.out hS hv.out).mono ?_;rintro e w4 ⟨rfl,hb4⟩;clear hb hc hd he hf hg;replace hP:=hP.after hb4;replace hS:=hS.after hb4;replace hh:=bt hh hb4;clear hb4;clear hk;have hk:=hP.lt;obtain⟨hb,hc,hd,he,hf,hg⟩:=hP.x3;go_wp2;go_ret
    exact⟨by rw[HF.out];rfl,hh⟩
theorem rformed1_c (S:Sta) (v1 v2 v3:Value) (w:World) (b:Bool) (hm:SSm S) (hS:StAt w v1 v2 v3 S) (h:formB S=b) :
  Calls Tryz.prog 243 #[.agg #[v1,v2,v3]] w fun e w'=>e=.returned (.bool b)∧Bw w w':=by
 rw[←h];exact rformed_c S v1 v2 v3 w hm hS
theorem rCheck_c (N:NSta) (v1 v2 v3:Value) (w:World) (hm:NOk N) (hS:NAt w v1 v2 v3 N) :
  Calls Tryz.prog 184 #[.agg #[v1,v2,v3]] w fun e w'=>e=.returned (.int .i64 (N.chk:Nat))∧Bw w w':=by
 obtain⟨a1,c1,a2,c2,a3,c3,rfl,rfl,rfl⟩:=hS.forms;obtain⟨n1,hh⟩:∃n,n=N.grps.length:=⟨_,rfl⟩;obtain⟨n2,hi⟩:∃n,n=N.vars.length:=⟨_,rfl⟩;obtain⟨n3,hj⟩:∃n,n=N.eqs.length:=⟨_,rfl⟩;have ho:=Kh hh;have hp:=Kh hi;have hq:=Kh hj;have l1:n1≤10:=by rw[hh];exact hm.ng
 have l2:n2≤12:=by rw[hi];exact hm.nv
 have l3:n3≤12:=by rw[hj];exact hm.ne
 have HM:=Kh hm;rw[←hh,←hi,←hj]at hS ⊢;clear hm hh hi hj;obtain⟨hP,hk⟩:=blk1 w #[.slice a1 n1 c1,.slice a2 n2 c2,.slice a3 n3 c3] 29;replace hS:=hS.after hk;obtain⟨hb,hc,hd,he,hf,hg⟩:=hP.x3;go_enter Tryz.func184,Tryz.ntmps184
 go_wp2_with fail
 refine (rformed1_c N.s _ _ _ _ true HM.out.ssm hS HM.out.form).mono ?_;rintro e w2 ⟨rfl,hl⟩;clear hb hc hd he hf hg;replace hP:=hP.after hl;replace hS:=hS.after hl;replace hk:=bt hk hl;clear hl;have hr:=hP.lt;obtain⟨hb,hc,hd,he,hf,hg⟩:=hP.x3;go_wp2_with fail
 refine (rrest_c N _ _ _ _ HM.out hS).mono ?_;rintro e w3 ⟨rfl,hn⟩;go_wp2;go_ret
 exact⟨rfl,bt hk hn⟩
theorem rCheck_bad (S:Sta) (v1 v2 v3:Value) (w:World) (hm:SSm S) (hS:StAt w v1 v2 v3 S) (hf:formB S=false) :
  Calls Tryz.prog 184 #[.agg #[v1,v2,v3]] w fun e w'=>e=.returned (.int .i64 3)∧Bw w w':=by
 have hb:=b1 w (.cells #[v1,v2,v3] 29);have HC:=Kh (rformed1_c S v1 v2 v3 _ false hm (hS.after hb) hf);have hP:=Blk.new w #[v1,v2,v3] 29;obtain⟨a1,c1,e1⟩:=hS.g.form;obtain⟨a2,c2,e2⟩:=hS.v.form;obtain⟨a3,c3,e3⟩:=hS.e.form;generalize S.grps.length=n1 at e1;generalize S.vars.length=n2 at e2;generalize S.eqs.length=n3 at e3;subst e1 e2 e3;clear hS hf hm;obtain⟨hc,hd,he,hg,hh,hi⟩:=hP.x3;go_enter Tryz.func184,Tryz.ntmps184
 go_wp2_with fail
 refine HC.out.mono ?_;rintro e w2 ⟨rfl,hj⟩;go_wp2;go_ret
 exact⟨rfl,bt hb hj⟩
theorem rcheck15_c (N:NSta) (Z:List Int) (v1 v2 v3 v4:Value) (w:World) (hm:NOk N) (hS:NAt w v1 v2 v3 N) (hZ:ZsAt w v4 Z) (hz:∀z∈Z,z.natAbs<256^128) (hl:Z.length=N.vars.length) (hc:N.chk=0) :
  Calls Tryz.prog 158 #[.agg #[v1,v2,v3],v4] w fun e w'=>e=.returned (.int .i64 0)∧Bw w w':=by
 obtain⟨a4,c4,rfl⟩:=hZ.form;rw[hl]at hZ ⊢;have hw:=Kh hz;have HL:=Kh hl;have hx:=Kh hc;clear hz hl hc;obtain⟨a1,c1,a2,c2,a3,c3,rfl,rfl,rfl⟩:=hS.forms;obtain⟨n1,ho⟩:∃n,n=N.grps.length:=⟨_,rfl⟩;obtain⟨n2,hp⟩:∃n,n=N.vars.length:=⟨_,rfl⟩;obtain⟨n3,hq⟩:∃n,n=N.eqs.length:=⟨_,rfl⟩;have hD:=Kh ho;have ht:=Kh hp;have hE:=Kh hq;have l1:n1≤10:=by rw[ho];exact hm.ng
 have l2:n2≤12:=by rw[hp];exact hm.nv
 have l3:n3≤12:=by rw[hq];exact hm.ne
 have HM:=Kh hm;rw[←ho,←hp,←hq]at hS ⊢;clear hm ho hp hq;rw[←ht.out]at hZ;obtain⟨hP,hi⟩:=blk1 w #[.slice a1 n1 c1,.slice a2 n2 c2,.slice a3 n3 c3] 29;replace hS:=hS.after hi;replace hZ:=hZ.after (b1 w (.cells #[.slice a1 n1 c1,.slice a2 n2 c2,.slice a3 n3 c3] 29));obtain⟨hb,hd,he,hf,hg,hh⟩:=hP.x3;go_enter Tryz.func158,Tryz.ntmps158
 go_wp2_with fail
 refine (rformed1_c N.s _ _ _ _ true HM.out.ssm hS HM.out.form).mono ?_;rintro e w2 ⟨rfl,hn⟩;clear hb hd he hf hg hh;replace hP:=hP.after hn;replace hS:=hS.after hn;replace hZ:=hZ.after hn;replace hi:=bt hi hn;clear hn;have hu:=hP.lt;go_wp2;go_loopw [5] (fun i wr=>∃k:Nat,k≤n2∧i=.int .i64 k∧Bw w2 wr) (fun i _=>n2-(intOf i).toNat)
 case atStart=>exact⟨0,by omega,rfl,Br⟩
 case round =>
  obtain⟨k,hk,rfl,hj⟩:=hrel;obtain⟨wp,hy⟩:∃wp,wp=wr:=⟨_,rfl⟩;subst hy;replace hP:=hP.after hj;replace hS:=hS.after hj;replace hZ:=hZ.after hj;replace hi:=bt hi hj;clear hu;have hu:=hP.lt;by_cases hlt:k<n2
  ·have hr:k<Z.length:=by rw[HL.out,←ht.out];exact hlt
   have hv:=Kh (hw.out _ (Gm hr));obtain⟨b,o,rfl,hF,x1,x2⟩:=hZ.at_ hr;generalize (Z[k]'hr)=z at x1 x2 hv;have hG:(0:Int)≤(k:Int):=by omega
   have hH:(k:Int)<(n2:Int):=by omega
   go_wp2_with fail
   refine (rivalidI_c z _ hv.out).mono ?_;rintro e w3 ⟨rfl,hA⟩;go_wp2;go_roundw
   case rel=>exact⟨k+1,by omega,by go_num,bt hj hA⟩
   case measure=>simp[intOf];omega
  ·clear hj
   have hB:Hid (Calls Tryz.prog 244 #[.agg #[.slice a1 n1 c1,.slice a2 n2 c2,.slice a3 n3 c3]] wp fun e w'=>e=.returned (.int .i64 0)∧Bw wp w'):=by
    have h:=rrest_c N _ _ _ wp HM.out hS;rw[hx.out]at h;exact h
   obtain⟨hb,hd,he,hf,hg,hh⟩:=hP.x3;go_wp2_with fail
   refine hB.out.mono ?_;rintro e w4 ⟨rfl,hb4⟩;clear hb hd he hf hg hh;replace hP:=hP.after hb4;have hC:=hP.lt;obtain⟨hb,hd,he,hf,hg,hh⟩:=hP.x3;go_wp2;go_ret
   exact⟨rfl,bt hi hb4⟩
end
end Go.Proofs.YtihjpddbjhcbmaaGreatDoor
