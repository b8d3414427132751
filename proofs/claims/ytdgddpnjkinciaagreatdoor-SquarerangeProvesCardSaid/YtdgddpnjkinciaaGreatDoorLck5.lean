import Derived.Test.YtdgddpnjkinciaaGreatDoorLck3
import Derived.Test.YtdgddpnjkinciaaGreatDoorLc27
set_option linter.all false
set_option maxRecDepth 100000
set_option maxHeartbeats 16000000
namespace Go.Proofs.YtdgddpnjkinciaaGreatDoor
section
open Go.RowKit
theorem run_index_agg {P:Program} {w:World} (t e:TypeId) (n:Nat) (cs:Array Value) (k:IntKind) (i:Int) (v:Value) (h:P.underlying t=some (.array n e)) (h0:0≤i) (h1:i<n)
  (hi:(P.info? e).map (fun i=>i.size)=some 1) (ha:(isAgg e).run P w=.ok false w) (hn:cs[i.toNat]?=some v):(Instr.index t (.agg cs) (.int k i)).run P w=.ok v w:=by
 have hb:0≤i∧i<(n:Int):=⟨h0,h1⟩;cases hx:P.info? e with
 | none=>rw[hx]at hi;cases hi
 | some i0 =>
  rw[hx]at hi;have hz:i0.size=1:=by simpa using hi
  simp[Instr.index,run_underlying h,asIntOf,hb,go_sem,part,sizeOf,typeInfo,hx,hz,hn,ha]
theorem agg_fn1 (w:World):(isAgg 139).run Tryz.prog w=.ok false w:=by
 simp[isAgg,run_underlying Tryz.underlying139,go_sem]
theorem info_fn1:(Tryz.prog.info? 139).map (fun i=>i.size)=some 1:=by kernel_rfl
theorem ix4 (i:Nat) (hi:i<4) (v:Value) (cs:Array Value) (hn:cs[i]?=some v) (w:World):(Instr.index 170 (.agg cs) (.int .i64 (i:Int))).run Tryz.prog w=.ok v w:=
 run_index_agg 170 139 4 cs .i64 i v Tryz.underlying170 (by omega) (by omega) info_fn1 (agg_fn1 w) (by simpa using hn)
theorem form0_c (N:NSta) (v1 v2 v3:Value) (w:World) (hm:NOk N) (hS:NAt w v1 v2 v3 N) :
  Calls Tryz.prog 114 #[.agg #[v1,v2,v3]] w fun e w'=>e=.returned (.int .i64 0)∧Bw w w':=by
 have h:=form_c N.s v1 v2 v3 w hm.ssm hS;rw[hm.form]at h;exact h
theorem sizes0_c (N:NSta) (v1 v2 v3:Value) (w:World) (r:Int) (hm:NOk N) (hS:NAt w v1 v2 v3 N) (h:(if 8<N.grps.length then 6 else 0)=r) :
  Calls Tryz.prog 115 #[.agg #[v1,v2,v3]] w fun e w'=>e=.returned (.int .i64 r)∧Bw w w':=by
 rw[←h];exact sizes_c N v1 v2 v3 w hm hS
theorem elements0_c (N:NSta) (v1 v2 v3:Value) (w:World) (r:Int) (hm:NOk N) (hS:NAt w v1 v2 v3 N) (h:(if N.elem then 0 else 13)=r) :
  Calls Tryz.prog 116 #[.agg #[v1,v2,v3]] w fun e w'=>e=.returned (.int .i64 r)∧Bw w w':=by
 rw[←h];exact elements_c N v1 v2 v3 w hm hS
theorem kinds0_c (N:NSta) (v1 v2 v3:Value) (w:World) (r:Int) (hm:NOk N) (hS:NAt w v1 v2 v3 N) (h:(if N.typ then 0 else 10)=r) :
  Calls Tryz.prog 117 #[.agg #[v1,v2,v3]] w fun e w'=>e=.returned (.int .i64 r)∧Bw w w':=by
 rw[←h];exact kinds_c N v1 v2 v3 w hm hS
def ckS (N:NSta) (k:Nat):Prop:=(2≤k→¬ 8<N.grps.length)∧(3≤k→N.elem=true)∧(4≤k→N.typ=true)
theorem chk_6 {N:NSta} (h:8<N.grps.length):N.chk=6:=by unfold NSta.chk;rw[if_pos h]
theorem chk_13 {N:NSta} (h:¬ 8<N.grps.length) (h2:N.elem=false):N.chk=13:=by unfold NSta.chk;rw[if_neg h,if_pos h2]
theorem chk_10 {N:NSta} (h:¬ 8<N.grps.length) (h2:N.elem=true) (h3:N.typ=false):N.chk=10:=by unfold NSta.chk;rw[if_neg h,if_neg (by simp[h2]),if_pos h3]
theorem chk_0 {N:NSta} (h:¬ 8<N.grps.length) (h2:N.elem=true) (h3:N.typ=true):N.chk=0:=by unfold NSta.chk;rw[if_neg h,if_neg (by simp[h2]),if_neg (by simp[h3])]
theorem chk_inv {N:NSta} (h:N.chk=0):¬ 8<N.grps.length∧N.elem=true∧N.typ=true:=by
 unfold NSta.chk at h;by_cases h1:8<N.grps.length
 ·rw[if_pos h1]at h;cases h
 ·rw[if_neg h1]at h;cases h2:N.elem
  ·rw[if_pos h2]at h;cases h
  ·rw[if_neg (by simp[h2])]at h;cases h3:N.typ
   ·rw[if_pos h3]at h;cases h
   ·exact⟨h1,rfl,rfl⟩
theorem check_c (N:NSta) (v1 v2 v3:Value) (w:World) (hm:NOk N) (hS:NAt w v1 v2 v3 N) :
  Calls Tryz.prog 69 #[.agg #[v1,v2,v3]] w fun e w'=>e=.returned (.int .i64 (N.chk:Nat))∧Bw w w':=by
 obtain⟨r,hr⟩:∃r:Nat,r=N.chk:=⟨_,rfl⟩;have hi:=Kh hr;rw[←hr];clear hr;obtain⟨a1,c1,a2,c2,a3,c3,rfl,rfl,rfl⟩:=hS.forms;obtain⟨n1,ho⟩:∃n,n=N.grps.length:=⟨_,rfl⟩;obtain⟨n2,hp⟩:∃n,n=N.vars.length:=⟨_,rfl⟩;obtain⟨n3,hq⟩:∃n,n=N.eqs.length:=⟨_,rfl⟩;have hu:=Kh ho;have hv:=Kh hp;have hw:=Kh hq;have l1:n1≤10:=by rw[ho];exact hm.ng
 have l2:n2≤12:=by rw[hp];exact hm.nv
 have l3:n3≤12:=by rw[hq];exact hm.ne
 have HM:=Kh hm;rw[←ho,←hp,←hq]at hS ⊢;clear hm ho hp hq;obtain⟨hP,hj⟩:=blk1 w #[.slice a1 n1 c1,.slice a2 n2 c2,.slice a3 n3 c3] 43;replace hS:=hS.after hj;obtain⟨hb,hc,hd,he,hf,hg⟩:=hP.x3;go_enter Tryz.func69,Tryz.ntmps69
 go_wp2;clear hb hc hd he hf hg;generalize w.alloc (.cells #[.slice a1 n1 c1,.slice a2 n2 c2,.slice a3 n3 c3] 43)=w1 at hP hj hS;replace hP:Blk w1 w.heap.size 43 [.slice a1 n1 c1,.slice a2 n2 c2,.slice a3 n3 c3]:=hP;go_loopw [7] (fun i wr=>∃k:Nat,k≤4∧i=.int .i64 k∧Hid (ckS N k)∧Bw w1 wr) (fun i _=>4-(intOf i).toNat)
 case atStart=>exact⟨0,by omega,rfl,⟨by omega,by omega,by omega⟩,Br⟩
 case round =>
  obtain⟨k,hk,rfl,HA,hl⟩:=hrel;obtain⟨wp,ht⟩:∃wp,wp=wr:=⟨_,rfl⟩;subst ht;replace hS:=hS.after hl;replace hP:=hP.after hl;replace hj:=bt hj hl;by_cases hlt:k<4
  ·have hx:=hP.lt;obtain rfl | rfl | rfl | rfl:k=0∨k=1∨k=2∨k=3:=by omega
   ·clear HA;obtain⟨hb,hc,hd,he,hf,hg⟩:=hP.x3;have hn:∀w,(Instr.index 170 (.agg #[.func (.func 114) #[] #[],.func (.func 115) #[] #[],.func (.func 116) #[] #[],.func (.func 117) #[] #[]]) (.int .i64 0)).run Tryz.prog w=.ok (.func (.func 114) #[] #[]) w:=fun w=>ix4 0 (by decide) _ _ rfl w
    go_wp2_with fail
    refine (form0_c N _ _ _ _ HM.out hS).mono ?_;rintro e w2 ⟨rfl,hh⟩;go_wp2;go_roundw
    case rel=>exact⟨1,by omega,rfl,⟨by omega,by omega,by omega⟩,bt hl hh⟩
    case measure=>simp[intOf]
   ·clear HA;by_cases h8:8<N.grps.length
    ·have HR:Hid ((if 8<N.grps.length then 6 else 0)=(6:Int)):=if_pos h8;have HF:Hid (r=6):=by rw[Hid,hi.out,chk_6 h8]
     clear h8;obtain⟨hb,hc,hd,he,hf,hg⟩:=hP.x3;have hn:∀w,(Instr.index 170 (.agg #[.func (.func 114) #[] #[],.func (.func 115) #[] #[],.func (.func 116) #[] #[],.func (.func 117) #[] #[]]) (.int .i64 1)).run Tryz.prog w=.ok (.func (.func 115) #[] #[]) w:=fun w=>ix4 1 (by decide) _ _ rfl w
     go_wp2_with fail
     refine (sizes0_c N _ _ _ _ 6 HM.out hS HR.out).mono ?_;rintro e w2 ⟨rfl,hh⟩;go_wp2;go_ret
     exact⟨by rw[HF.out];rfl,bt hj hh⟩
    ·have HR:Hid ((if 8<N.grps.length then 6 else 0)=(0:Int)):=if_neg h8;have HX:Hid (ckS N 2):=⟨fun _=>h8,by omega,by omega⟩;clear h8;obtain⟨hb,hc,hd,he,hf,hg⟩:=hP.x3;have hn:∀w,(Instr.index 170 (.agg #[.func (.func 114) #[] #[],.func (.func 115) #[] #[],.func (.func 116) #[] #[],.func (.func 117) #[] #[]]) (.int .i64 1)).run Tryz.prog w=.ok (.func (.func 115) #[] #[]) w:=fun w=>ix4 1 (by decide) _ _ rfl w
     go_wp2_with fail
     refine (sizes0_c N _ _ _ _ 0 HM.out hS HR.out).mono ?_;rintro e w2 ⟨rfl,hh⟩;go_wp2;go_roundw
     case rel=>exact⟨2,by omega,rfl,HX,bt hl hh⟩
     case measure=>simp[intOf]
   ·cases h8:N.elem
    ·have HR:Hid ((if N.elem then 0 else 13)=(13:Int)):=if_neg (by rw[h8];simp);have HF:Hid (r=13):=by rw[Hid,hi.out,chk_13 (HA.out.1 (by omega)) h8]
     clear h8 HA;obtain⟨hb,hc,hd,he,hf,hg⟩:=hP.x3;have hn:∀w,(Instr.index 170 (.agg #[.func (.func 114) #[] #[],.func (.func 115) #[] #[],.func (.func 116) #[] #[],.func (.func 117) #[] #[]]) (.int .i64 2)).run Tryz.prog w=.ok (.func (.func 116) #[] #[]) w:=fun w=>ix4 2 (by decide) _ _ rfl w
     go_wp2_with fail
     refine (elements0_c N _ _ _ _ 13 HM.out hS HR.out).mono ?_;rintro e w2 ⟨rfl,hh⟩;go_wp2;go_ret
     exact⟨by rw[HF.out];rfl,bt hj hh⟩
    ·have HR:Hid ((if N.elem then 0 else 13)=(0:Int)):=if_pos h8;have HX:Hid (ckS N 3):=⟨fun _=>HA.out.1 (by omega),fun _=>h8,by omega⟩;clear h8 HA;obtain⟨hb,hc,hd,he,hf,hg⟩:=hP.x3;have hn:∀w,(Instr.index 170 (.agg #[.func (.func 114) #[] #[],.func (.func 115) #[] #[],.func (.func 116) #[] #[],.func (.func 117) #[] #[]]) (.int .i64 2)).run Tryz.prog w=.ok (.func (.func 116) #[] #[]) w:=fun w=>ix4 2 (by decide) _ _ rfl w
     go_wp2_with fail
     refine (elements0_c N _ _ _ _ 0 HM.out hS HR.out).mono ?_;rintro e w2 ⟨rfl,hh⟩;go_wp2;go_roundw
     case rel=>exact⟨3,by omega,rfl,HX,bt hl hh⟩
     case measure=>simp[intOf]
   ·cases h8:N.typ
    ·have HR:Hid ((if N.typ then 0 else 10)=(10:Int)):=if_neg (by rw[h8];simp);have HF:Hid (r=10):=by rw[Hid,hi.out,chk_10 (HA.out.1 (by omega)) (HA.out.2.1 (by omega)) h8]
     clear h8 HA;obtain⟨hb,hc,hd,he,hf,hg⟩:=hP.x3;have hn:∀w,(Instr.index 170 (.agg #[.func (.func 114) #[] #[],.func (.func 115) #[] #[],.func (.func 116) #[] #[],.func (.func 117) #[] #[]]) (.int .i64 3)).run Tryz.prog w=.ok (.func (.func 117) #[] #[]) w:=fun w=>ix4 3 (by decide) _ _ rfl w
     go_wp2_with fail
     refine (kinds0_c N _ _ _ _ 10 HM.out hS HR.out).mono ?_;rintro e w2 ⟨rfl,hh⟩;go_wp2;go_ret
     exact⟨by rw[HF.out];rfl,bt hj hh⟩
    ·have HR:Hid ((if N.typ then 0 else 10)=(0:Int)):=if_pos h8;have HX:Hid (ckS N 4):=⟨fun _=>HA.out.1 (by omega),fun _=>HA.out.2.1 (by omega),fun _=>h8⟩;clear h8 HA;obtain⟨hb,hc,hd,he,hf,hg⟩:=hP.x3;have hn:∀w,(Instr.index 170 (.agg #[.func (.func 114) #[] #[],.func (.func 115) #[] #[],.func (.func 116) #[] #[],.func (.func 117) #[] #[]]) (.int .i64 3)).run Tryz.prog w=.ok (.func (.func 117) #[] #[]) w:=fun w=>ix4 3 (by decide) _ _ rfl w
     go_wp2_with fail
     refine (kinds0_c N _ _ _ _ 0 HM.out hS HR.out).mono ?_;rintro e w2 ⟨rfl,hh⟩;go_wp2;go_roundw
     case rel=>exact⟨4,by omega,rfl,HX,bt hl hh⟩
     case measure=>simp[intOf]
  ·obtain rfl:k=4:=by omega
   have HF:Hid (r=0):=by rw[Hid,hi.out,chk_0 (HA.out.1 (by omega)) (HA.out.2.1 (by omega)) (HA.out.2.2 (by omega))]
   clear HA;go_wp2;go_ret
   exact⟨by rw[HF.out];rfl,hj⟩
def zI (z:Int):Bool × ByteArray:=(sg z,E z.natAbs)
def ZsAt (w:World) (v:Value) (l:List Int):Prop:=IsAt w v (l.map zI)
theorem ZsAt.after {w w':World} {v:Value} {l:List Int} (h:ZsAt w v l) (hb:Bw w w'):ZsAt w' v l:=IsAt.after h hb
theorem ZsAt.form {w:World} {v:Value} {l:List Int} (h:ZsAt w v l):∃a c,v=.slice a l.length c:=by
 obtain⟨a1,c1,h1⟩:=RAt.form h;exact⟨a1,c1,by rw[h1];simp⟩
theorem ZsAt.at_ {w:World} {ao:Option Addr} {n c k:Nat} {l:List Int} (h:ZsAt w (.slice ao n c) l) (hk:k<l.length):∃b o,ao=some ⟨b,o,none⟩∧b<w.heap.size∧w.cell? ⟨b,o+k*2,none⟩=some (.bool (sg l[k]))∧w.cell? ⟨b,o+k*2+1,none⟩=some (.string (E l[k].natAbs)):=by
 have hb:k<(l.map zI).length:=by simpa using hk
 obtain⟨b,o,h1,h2,h3,h4⟩:=IsAt.at_ h hb;simp only[List.getElem_map,zI]at h3 h4;exact⟨b,o,h1,h2,h3,h4⟩
theorem rdi1_c (z:Int) (w:World) (hz:z.natAbs<256^128) :
  Calls Tryz.prog 123 #[.agg #[.bool (sg z),.string (E z.natAbs)]] w fun e w'=>e=.returned (.bool false)∧Bw w w':=by
 have HZ:=Kh hz;clear hz;go_enter Tryz.func123,Tryz.ntmps123
 go_wp2_with fail
 refine (ivalidI_c z _ HZ.out).mono ?_;rintro e w1 ⟨rfl,hb⟩;go_wp2;go_ret
 exact⟨rfl,bt (b1 _ _) hb⟩
theorem ready_c (N:NSta) (Z:List Int) (v1 v2 v3 v4:Value) (w:World) (hm:NOk N) (hS:NAt w v1 v2 v3 N) (hZ:ZsAt w v4 Z) (hz:∀z∈Z,z.natAbs<256^128) (hl:Z.length=N.vars.length) (hc:N.chk=0) :
  Calls Tryz.prog 77 #[.agg #[v1,v2,v3],v4] w fun e w'=>e=.returned (.int .i64 0)∧Bw w w':=by
 obtain⟨a4,c4,rfl⟩:=hZ.form;rw[hl]at hZ ⊢;have hv:=Kh hz;have HL:=Kh hl;have hw:=Kh hc;clear hz hl hc;obtain⟨a1,c1,a2,c2,a3,c3,rfl,rfl,rfl⟩:=hS.forms;obtain⟨n1,hn⟩:∃n,n=N.grps.length:=⟨_,rfl⟩;obtain⟨n2,ho⟩:∃n,n=N.vars.length:=⟨_,rfl⟩;obtain⟨n3,hp⟩:∃n,n=N.eqs.length:=⟨_,rfl⟩;have hB:=Kh hn;have hr:=Kh ho;have hC:=Kh hp;have l1:n1≤10:=by rw[hn];exact hm.ng
 have l2:n2≤12:=by rw[ho];exact hm.nv
 have l3:n3≤12:=by rw[hp];exact hm.ne
 have HM:=Kh hm;rw[←hn,←ho,←hp]at hS ⊢;clear hm hn ho hp;rw[←hr.out]at hZ;obtain⟨hP,hi⟩:=blk1 w #[.slice a1 n1 c1,.slice a2 n2 c2,.slice a3 n3 c3] 43;replace hS:=hS.after hi;replace hZ:=hZ.after (b1 w (.cells #[.slice a1 n1 c1,.slice a2 n2 c2,.slice a3 n3 c3] 43));obtain⟨hb,hd,he,hf,hg,hh⟩:=hP.x3;go_enter Tryz.func77,Tryz.ntmps77
 go_wp2_with fail
 refine (form0_c N _ _ _ _ HM.out hS).mono ?_;rintro e w2 ⟨rfl,hj⟩;clear hb hd he hf hg hh;replace hP:=hP.after hj;replace hS:=hS.after hj;replace hZ:=hZ.after hj;replace hi:=bt hi hj;clear hj;have ht:=hP.lt
 have hu:Hid (Calls Tryz.prog 122 #[.slice a4 n2 c4,.func (.func 123) #[] #[]] w2 fun e w''=>e=.returned (.bool false)∧Bw w2 w''):=by
  refine cont_rdi (Z.map zI) (fun _=>false) _ _ w2 (by rw[List.length_map,HL.out,←hr.out];omega) hZ (any_false _) ?_;intro k hk w5 hD;have hx:k<Z.length:=by simpa using hk
  simp only[List.getElem_map,zI];exact rdi1_c _ _ (hv.out _ (Gm hx))
 obtain⟨hb,hd,he,hf,hg,hh⟩:=hP.x3;go_wp2_with fail
 refine hu.out.mono ?_;rintro e w3 ⟨rfl,hq⟩;clear hb hd he hf hg hh;clear hu;replace hP:=hP.after hq;replace hS:=hS.after hq;replace hi:=bt hi hq;clear hq ht;have ht:=hP.lt
 have hy:Hid (Calls Tryz.prog 69 #[.agg #[.slice a1 n1 c1,.slice a2 n2 c2,.slice a3 n3 c3]] w3 fun e w'=>e=.returned (.int .i64 0)∧Bw w3 w'):=by
  have h:=check_c N _ _ _ w3 HM.out hS;rw[hw.out]at h;exact h
 obtain⟨hb,hd,he,hf,hg,hh⟩:=hP.x3;go_wp2_with fail
 refine hy.out.mono ?_;rintro e w4 ⟨rfl,hb4⟩;clear hb hd he hf hg hh;replace hP:=hP.after hb4;have hA:=hP.lt;obtain⟨hb,hd,he,hf,hg,hh⟩:=hP.x3;go_wp2;go_ret
 exact⟨rfl,bt hi hb4⟩
end
section
open Go.RowKit
theorem gcl {w:World} {a:Addr} {v:Value} (hb:a.block<w.heap.size) (h:w.cell? a=some v):∀x:GW w,(Proofs.YtdgddpnjkinciaaGreatDoor.gw x).cell? a=some v:=fun x=>((gw_below x).cell hb).trans h
theorem rmany_c (N:NSta) (v1 v2 v3:Value) (w:World) (hm:NOk N) (hS:NAt w v1 v2 v3 N) :
  Calls Tryz.prog 109 #[.agg #[v1,v2,v3]] w fun e w'=>e=.returned (.bool (decide (8<N.grps.length)))∧Bw w w':=by
 obtain⟨r,hr⟩:∃r:Bool,r=decide (8<N.grps.length):=⟨_,rfl⟩;have hi:=Kh hr;rw[←hr];clear hr;obtain⟨a1,c1,a2,c2,a3,c3,rfl,rfl,rfl⟩:=hS.forms;obtain⟨n1,hj⟩:∃n,n=N.grps.length:=⟨_,rfl⟩;obtain⟨n2,hl⟩:∃n,n=N.vars.length:=⟨_,rfl⟩;obtain⟨n3,hn⟩:∃n,n=N.eqs.length:=⟨_,rfl⟩;have hq:=Kh hj;have hx:=Kh hl;have hu:=Kh hn;have l1:n1≤10:=by rw[hj];exact hm.ng
 have l2:n2≤12:=by rw[hl];exact hm.nv
 have l3:n3≤12:=by rw[hn];exact hm.ne
 have HM:=Kh hm;rw[←hj,←hl,←hn]at hS ⊢;clear hm hj hl hn;obtain⟨hP,hh⟩:=blk1 w #[.slice a1 n1 c1,.slice a2 n2 c2,.slice a3 n3 c3] 43;replace hS:=hS.after hh;obtain⟨hb,hc,hd,he,hf,hg⟩:=hP.x3;go_enter Tryz.func109,Tryz.ntmps109
 go_wp2;clear hb hc hd he hf hg;generalize w.alloc (.cells #[.slice a1 n1 c1,.slice a2 n2 c2,.slice a3 n3 c3] 43)=w1 at hP hh hS;replace hP:Blk w1 w.heap.size 43 [.slice a1 n1 c1,.slice a2 n2 c2,.slice a3 n3 c3]:=hP;go_loopw [3] (fun i wr=>∃k:Nat,k≤n3∧i=.int .i64 k∧Bw w1 wr) (fun i _=>n3-(intOf i).toNat)
 case atStart=>exact⟨0,by omega,rfl,Br⟩
 case round =>
  obtain⟨k,hk,rfl,ho⟩:=hrel;obtain⟨wp,hv⟩:∃wp,wp=wr:=⟨_,rfl⟩;subst hv;replace hS:=hS.after ho;replace hP:=hP.after ho;replace hh:=bt hh ho;by_cases hlt:k<n3
  ·have hp:k<N.eqs.length:=by rw[←hu.out];exact hlt
   have ht:=Kh (HM.out.e _ (Gm hp)).2.2.1;obtain⟨b,o,tv,rfl,hy,x1,x2,x3,hw⟩:=hS.eat hp;obtain⟨to_,tc,rfl⟩:=hw.form;generalize (N.eqs[k]'hp).trms.length=n4 at x3 ht;have l4:n4≤12:=ht.out;have h4:decide ((64:Int)<(n4:Int))=false:=decide_eq_false (by omega);have hz:(0:Int)≤(k:Int):=by omega
   have hA:(k:Int)<(n3:Int):=by omega
   have hB:=hP.lt;obtain⟨hb,hc,hd,he,hf,hg⟩:=hP.x3;go_wp2;go_roundw
   case rel=>exact⟨k+1,by omega,by go_num,ho⟩
   case measure=>simp[intOf];omega
  ·have e2:decide ((64:Int)<(n2:Int))=false:=decide_eq_false (by omega);have e3:decide ((64:Int)<(n3:Int))=false:=decide_eq_false (by omega);by_cases h8:8<n1
   ·have e1:decide ((8:Int)<(n1:Int))=true:=Dt (by omega);have HF:Hid (r=true):=by rw[Hid,hi.out];exact Dt (by rw[←hq.out];exact h8)
    clear h8;obtain⟨hb,hc,hd,he,hf,hg⟩:=hP.x3;go_wp2;go_ret
    exact⟨by rw[HF.out];rfl,hh⟩
   ·have e1:decide ((8:Int)<(n1:Int))=false:=decide_eq_false (by omega);have HF:Hid (r=false):=by rw[Hid,hi.out];exact decide_eq_false (by rw[←hq.out];exact h8)
    clear h8;obtain⟨hb,hc,hd,he,hf,hg⟩:=hP.x3;go_wp2;go_ret
    exact⟨by rw[HF.out];rfl,hh⟩
theorem relements_c (N:NSta) (v1 v2 v3:Value) (w:World) (hm:NOk N) (hS:NAt w v1 v2 v3 N) :
  Calls Tryz.prog 110 #[.agg #[v1,v2,v3]] w fun e w'=>e=.returned (.bool N.elem)∧Bw w w':=by
 obtain⟨r,hr⟩:∃r:Bool,r=N.elem:=⟨_,rfl⟩;have hI:=Kh hr;rw[←hr];clear hr;obtain⟨a1,c1,a2,c2,a3,c3,rfl,rfl,rfl⟩:=hS.forms;obtain⟨n1,h3⟩:∃n,n=N.grps.length:=⟨_,rfl⟩;obtain⟨n2,h4⟩:∃n,n=N.vars.length:=⟨_,rfl⟩;obtain⟨n3,h5⟩:∃n,n=N.eqs.length:=⟨_,rfl⟩;have h7:=Kh h3;have Hu:=Kh h4;have Hg:=Kh h5;have l1:n1≤10:=by rw[h3];exact hm.ng
 have l2:n2≤12:=by rw[h4];exact hm.nv
 have l3:n3≤12:=by rw[h5];exact hm.ne
 have HM:=Kh hm;rw[←h3,←h4,←h5]at hS ⊢;clear hm h3 h4 h5;obtain⟨hP,hD⟩:=blk1 w #[.slice a1 n1 c1,.slice a2 n2 c2,.slice a3 n3 c3] 43;replace hS:=hS.after hD;obtain⟨hb,hc,hd,he,hf,hi⟩:=hP.x3;go_enter Tryz.func110,Tryz.ntmps110
 go_wp2;clear hb hc hd he hf hi;generalize w.alloc (.cells #[.slice a1 n1 c1,.slice a2 n2 c2,.slice a3 n3 c3] 43)=w1 at hP hD hS;replace hP:Blk w1 w.heap.size 43 [.slice a1 n1 c1,.slice a2 n2 c2,.slice a3 n3 c3]:=hP;go_loopw [3] (fun i wr=>∃k:Nat,k≤n1∧i=.int .i64 k∧Hid ((N.grps.take k).all gr0=true)∧Bw w1 wr) (fun i _=>n1-(intOf i).toNat)
 case atStart=>exact⟨0,by omega,rfl,rfl,Br⟩
 case round =>
  obtain⟨k,hk,rfl,HA,hE⟩:=hrel;obtain⟨wp,h8⟩:∃wp,wp=wr:=⟨_,rfl⟩;subst h8;replace hS:=hS.after hE;replace hP:=hP.after hE;replace hD:=bt hD hE;by_cases hlt:k<n1
  ·have hn:k<N.grps.length:=by rw[←h7.out];exact hlt
   have hp:=Kh (HM.out.g _ (Gm hn));have HT:=Kh (all_take gr0 N.grps k hn);have hl:Hid (gr0 (N.grps[k]'hn)=false→N.elem=false):=fun h=>by unfold NSta.elem;rw[all_bad gr0 N.grps k hn h];rfl
   have hO:Hid (gr0 (N.grps[k]'hn)=(grpE (N.grps[k]'hn).1 (N.grps[k]'hn).2==0)):=rfl;obtain⟨b,o,rfl,Hn,x1,x2⟩:=hS.gat hn;generalize gr0 (N.grps[k]'hn)=ok at HT hO hl;generalize (N.grps[k]'hn).1=s1 at x1 hp hO;generalize (N.grps[k]'hn).2=s2 at x2 hp hO;have Ho:(0:Int)≤(k:Int):=by omega
   have Hp:(k:Int)<(n1:Int):=by omega
   have Hh:=hP.lt;by_cases hg:grpE s1 s2=0
   ·have HG:=Kh hg;have HX:Hid ((N.grps.take (k+1)).all gr0=true):=by rw[Hid,HT.out,HA.out,hO.out,hg];rfl
    clear hl hg;obtain⟨hb,hc,hd,he,hf,hi⟩:=hP.x3;go_wp2_with fail
    refine (rpcheckV_c s1 s2 0 _ hp.out.1 (lt128 hp.out.2) HG.out).mono ?_;rintro e w2 ⟨rfl,hy⟩;go_wp2;go_roundw
    case rel=>exact⟨k+1,by omega,by go_num,HX,bt hE hy⟩
    case measure=>simp[intOf];omega
   ·have HG:=Kh (grpE_13 hg);have HF:Hid (N.elem=false):=hl.out (by rw[hO.out];simpa using hg);clear hl hg;obtain⟨hb,hc,hd,he,hf,hi⟩:=hP.x3;go_wp2_with fail
    refine (rpcheckV_c s1 s2 13 _ hp.out.1 (lt128 hp.out.2) HG.out).mono ?_;rintro e w2 ⟨rfl,hy⟩;go_wp2;go_ret
    exact⟨by rw[hI.out,HF.out];rfl,bt hD hy⟩
  ·have HG:Hid (N.grps.all gr0=true):=all_end gr0 N.grps k (by rw[←h7.out];omega) HA.out;clear hE;obtain⟨hb,hc,hd,he,hf,hi⟩:=hP.x3;go_wp2;clear hb hc hd he hf hi;clear HA hlt hk;go_loopw [4] (fun i wr=>∃k:Nat,k≤n3∧i=.int .i64 k∧Hid ((N.eqs.take k).all (elemQ N)=true)∧Bw wp wr) (fun i _=>n3-(intOf i).toNat)
   case atStart=>exact⟨0,by omega,rfl,rfl,Br⟩
   case round =>
    obtain⟨k,hk,rfl,HA,hE⟩:=hrel;obtain⟨wt,h8⟩:∃wp,wp=wr:=⟨_,rfl⟩;subst h8;replace hS:=hS.after hE;replace hP:=hP.after hE;replace hD:=bt hD hE;by_cases hlt:k<n3
    ·have hn:k<N.eqs.length:=by rw[←Hg.out];exact hlt
     have HT:=Kh (all_take (elemQ N) N.eqs k hn);have hl:Hid (elemQ N (N.eqs[k]'hn)=false→N.elem=false):=fun h=>by unfold NSta.elem;rw[all_bad (elemQ N) N.eqs k hn h];simp
     have hp:=Kh (HM.out.e _ (Gm hn));obtain⟨b,o,tv,rfl,Hn,x1,x2,x3,hF⟩:=hS.eat hn;generalize (N.eqs[k]'hn)=q at x1 x2 x3 hF hp HT hl;have hz:=hp.out.1;have Hq:q.grp<n1:=by rw[h7.out];exact hz
     have Hi:=Kh (gp_at N q hz);have Hj:Hid (gr0 (N.grps[q.grp]'hz)=true):=List.all_eq_true.1 HG.out _ (Gm hz);have hH:=Kh (HM.out.g _ (Gm hz));obtain⟨b',o',rfl,Hr,y1,y2⟩:=hS.gat hz;have hM:Hid (grpE (N.grps[q.grp]'hz).1 (N.grps[q.grp]'hz).2=0):=by have:=Hj.out;unfold Hid;simpa [gr0] using this
     have hK:Hid (elemQ N q=(hasB (N.grps[q.grp]'hz).1 (N.grps[q.grp]'hz).2 q.tgt&&q.trms.all (hasQ (N.grps[q.grp]'hz)))):=by rw[Hid,elemQ,Hi.out]
     generalize elemQ N q=ek at HT hl hK;generalize (N.grps[q.grp]'hz)=gg at y1 y2 hH hM hK;clear hz Hi Hj;obtain⟨qg,qt,qs⟩:=q;simp only[]at x1 x2 x3 hF hp hK Hq y1 y2;obtain⟨to_,tc,rfl⟩:=hF.form;obtain⟨n4,h9⟩:∃n,n=qs.length:=⟨_,rfl⟩;have Ha:=Kh h9;rw[←h9]at x3 hF;clear h9;obtain⟨p,qq⟩:=gg;simp only[]at y1 y2 hH hM hK;have hB:=Blk.new wt #[.int .i64 (qg:Int),.string (E qt),.slice to_ n4 tc] 87;have hC:=Blk.new (wt.alloc (.cells #[.int .i64 (qg:Int),.string (E qt),.slice to_ n4 tc] 87)) #[.string (E p),.string (E qq)] 24;have Ho:(0:Int)≤(k:Int):=by omega
     have Hp:(k:Int)<(n3:Int):=by omega
     have Hv:(0:Int)≤(qg:Int):=by omega
     have Hw:(qg:Int)<(n1:Int):=by omega
     have Hh:=hP.lt;have Hb:=hB.lt;have Hc:=hC.lt;cases hh:hasB p qq qt
     ·have HF:Hid (N.elem=false):=hl.out (by rw[hK.out,hh];rfl);have HH:=Kh hh;clear hh;obtain⟨hb,hc,hd,he,hf,hi⟩:=hP.x3;go_wp2_with fail
      refine (rHasV_c p qq qt false _ hH.out.1 (lt128 hH.out.2) hM.out (Nl hp.out.2.1 (by decide)) HH.out).mono ?_;rintro e w2 ⟨rfl,hy⟩;go_wp2;go_ret
      exact⟨by rw[hI.out,HF.out];rfl,bt (ba (ba hD _) _) hy⟩
     ·have HH:=Kh hh;have ho:=hB.alloc (.cells #[.string (E p),.string (E qq)] 24);have hA:Blk ((wt.alloc (.cells #[.int .i64 (qg:Int),.string (E qt),.slice to_ n4 tc] 87)).alloc (.cells #[.string (E p),.string (E qq)] 24)) (wt.heap.size+1) 24 [.string (E p),.string (E qq)]:=by simpa using hC
      replace hF:=hF.after (b2 wt (.cells #[.int .i64 (qg:Int),.string (E qt),.slice to_ n4 tc] 87) (.cells #[.string (E p),.string (E qq)] 24));have Hk:=(hP.alloc (.cells #[.int .i64 (qg:Int),.string (E qt),.slice to_ n4 tc] 87)).alloc (.cells #[.string (E p),.string (E qq)] 24);have hG:=ba (ba hD (.cells #[.int .i64 (qg:Int),.string (E qt),.slice to_ n4 tc] 87)) (.cells #[.string (E p),.string (E qq)] 24);have hL:=ba (ba hE (.cells #[.int .i64 (qg:Int),.string (E qt),.slice to_ n4 tc] 87)) (.cells #[.string (E p),.string (E qq)] 24);clear hh;obtain⟨hb,hc,hd,he,hf,hi⟩:=hP.x3;go_wp2_with fail
      refine (rHasV_c p qq qt true _ hH.out.1 (lt128 hH.out.2) hM.out (Nl hp.out.2.1 (by decide)) HH.out).mono ?_;rintro e w2 ⟨rfl,hy⟩;clear hb hc hd he hf hi;clear hP hB hC Hb Hc Hh;replace ho:=ho.after hy;replace hA:=hA.after hy;replace Hk:=Hk.after hy;replace hF:=hF.after hy;replace hG:=bt hG hy;replace hL:=bt hL hy;clear hy hD hE hS;have Hb:=ho.lt;have Hc:=hA.lt;obtain⟨hq,ht,hu,hv,hw,hx⟩:=ho.x3;go_wp2;clear hq ht hu hv hw hx;have l4:n4≤12:=by rw[Ha.out];exact hp.out.2.2.1
      go_loopw [7] (fun i wr=>∃k:Nat,k≤n4∧i=.int .i64 k∧Hid ((qs.take k).all (hasQ (p,qq))=true)∧Bw w2 wr) (fun i _=>n4-(intOf i).toNat)
      case atStart=>exact⟨0,by omega,rfl,rfl,Br⟩
      case round =>
       obtain⟨j,hj,rfl,HJ,hN⟩:=hrel;obtain⟨wv,Hs⟩:∃wv,wv=wr:=⟨_,rfl⟩;subst Hs;replace ho:=ho.after hN;replace hA:=hA.after hN;replace hF:=hF.after hN;replace hG:=bt hG hN;have Hb:=ho.lt;have Hc:=hA.lt;by_cases Hd:j<n4
       ·have hJ:j<qs.length:=by rw[←Ha.out];exact Hd
        have He:=Kh (hp.out.2.2.2 _ (Gm hJ)).1;have Hl:=Kh (all_take (hasQ (p,qq)) qs j hJ);have Hm:Hid (hasQ (p,qq) (qs[j]'hJ)=false→N.elem=false):=fun h=>hl.out (by rw[hK.out,all_bad (hasQ (p,qq)) qs j hJ h];simp)
        obtain⟨b4,o4,rfl,hQ,z1,z2,z3,z4⟩:=hF.at_ hJ;have h6:Hid (hasQ (p,qq) (qs[j]'hJ)=hasB p qq (qs[j]'hJ).base):=rfl;generalize hasQ (p,qq) (qs[j]'hJ)=Hx at Hl Hm h6;generalize (qs[j]'hJ).base=tb at z1 He h6;have Hy:(0:Int)≤(j:Int):=by omega
        have Hz:(j:Int)<(n4:Int):=by omega
        cases hh:hasB p qq tb
        ·have HF:Hid (N.elem=false):=Hm.out (by rw[h6.out,hh]);have Hf:=Kh hh;clear hh;have g1:=gcl (a:=⟨b4,o4+j*4,none⟩) hQ z1;obtain⟨hq,ht,hu,hv,hw,hx⟩:=ho.x3;obtain⟨hR,hT,hU,hV⟩:=hA.x2;have hW:=ho.gcell 0;have hX:=ho.gcell 1;have hY:=ho.gcell 2;have hZ:=hA.gcell 0;have h0:=hA.gcell 1;go_wp2_with fail
         refine wp_region_gw (by kernel_rfl) (by kernel_rfl) ?_;repeat (go_big_quiet_step (first | (go_at_call 104;exact gw_of (rHasV_c p qq tb false _ hH.out.1 (lt128 hH.out.2) hM.out (Nl He.out (by decide)) Hf.out))))
         refine wpQuiet_nil ?_;rintro w5 ⟨xw5,rfl⟩;have h2:=gw_below xw5;generalize gw xw5=w5 at h2;go_wp2;go_ret
         exact⟨by rw[hI.out,HF.out];rfl,bt hG h2⟩
        ·have HX:Hid ((qs.take (j+1)).all (hasQ (p,qq))=true):=by rw[Hid,Hl.out,HJ.out,h6.out,hh];rfl
         have Hf:=Kh hh;clear hh;have g1:=gcl (a:=⟨b4,o4+j*4,none⟩) hQ z1;obtain⟨hq,ht,hu,hv,hw,hx⟩:=ho.x3;obtain⟨hR,hT,hU,hV⟩:=hA.x2;have hW:=ho.gcell 0;have hX:=ho.gcell 1;have hY:=ho.gcell 2;have hZ:=hA.gcell 0;have h0:=hA.gcell 1;go_wp2_with fail
         refine wp_region_gw (by kernel_rfl) (by kernel_rfl) ?_;repeat (go_big_quiet_step (first | (go_at_call 104;exact gw_of (rHasV_c p qq tb true _ hH.out.1 (lt128 hH.out.2) hM.out (Nl He.out (by decide)) Hf.out))))
         refine wpQuiet_nil ?_;rintro w5 ⟨xw5,rfl⟩;have h2:=gw_below xw5;generalize gw xw5=w5 at h2;go_wp2;go_roundw
         case rel=>exact⟨j+1,by omega,by go_num,HX,bt hN h2⟩
         case measure=>simp[intOf];omega
       ·have Ht:Hid (qs.all (hasQ (p,qq))=true):=all_end (hasQ (p,qq)) qs j (by rw[←Ha.out];omega) HJ.out;have HX:Hid ((N.eqs.take (k+1)).all (elemQ N)=true):=by rw[Hid,HT.out,HA.out,hK.out,HH.out,Ht.out];rfl
        obtain⟨hq,ht,hu,hv,hw,hx⟩:=ho.x3;go_wp2;go_roundw
        case rel=>exact⟨k+1,by omega,by go_num,HX,bt hL hN⟩
        case measure=>simp[intOf];omega
    ·have HE:Hid (N.eqs.all (elemQ N)=true):=all_end (elemQ N) N.eqs k (by rw[←Hg.out];omega) HA.out;have HF:Hid (N.elem=true):=by unfold Hid NSta.elem;rw[HG.out,HE.out];rfl
     obtain⟨hb,hc,hd,he,hf,hi⟩:=hP.x3;go_wp2;go_ret
     exact⟨by rw[hI.out,HF.out];rfl,hD⟩
end
end Go.Proofs.YtdgddpnjkinciaaGreatDoor
