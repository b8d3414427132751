import Derived.Test.YtihjpddbjhcbmaaGreatDoorCo4
set_option linter.unusedVariables false
set_option linter.unusedSimpArgs false
set_option maxRecDepth 100000
set_option maxHeartbeats 16000000
namespace Go.Proofs.YtihjpddbjhcbmaaGreatDoor
section
theorem Ext.bounds {a b r0 r1:Nat} {x0 x1 y0 y1:Int} {u0 u1 v0 v1:Nat} {s:Int} (h:Ext a b r0 r1 x0 x1 y0 y1 u0 u1 v0 v1 s) (h0:0<r1) :
  u0≤b∧v0≤a∧(r1≤r0→u1≤b∧v1≤a):=by
 have e1:=h.bu;have e2:=h.av;have k1:u0*1≤u0*r1:=Nat.mul_le_mul_left _ h0;have k2:v0*1≤v0*r1:=Nat.mul_le_mul_left _ h0;refine⟨by omega,by omega,fun hr=>?_⟩;have k3:u1*1≤u1*r0:=Nat.mul_le_mul_left _ (by omega);have k4:v1*1≤v1*r0:=Nat.mul_le_mul_left _ (by omega);omega
end
section
open Go.RowKit
def subM (a b m:Nat):Nat:=(a%m+m-b%m)%m
end
section
open Go.RowKit
theorem mplus_c (a b m:Nat) (w:World) (ha:a<m) (hb:b≤m) (hm:m<256^8) :
  Calls Tryz.prog 215 #[.string (E a),.string (E b),.string (E m)] w fun e w'=>e=.returned (.string (E ((a+b)%m)))∧Bw w w':=by
 have HM:=Kh (lt128 hm);have HB:=Kh hb;have HA:=Kh (lt128 (Nat.lt_trans ha hm));have hg:=Kh (lt128 (Nat.lt_of_le_of_lt hb hm));have hf:=Kh (lt128 (Nat.lt_of_le_of_lt (Nat.sub_le m b) hm));rcases Nat.lt_or_ge a (m-b) with h | h
 ·have hc:=cmp_neg a (m-b) h;have hs:a+b<256^8:=by omega
  have HS:=Kh (lt128 hs);have HE:Hid ((a+b)%m=a+b):=Nat.mod_eq_of_lt (by omega);clear ha hb hm h hs;go_enter Tryz.func215,Tryz.ntmps215
  go_wp2_with fail
  refine (sub_c m b _ HM.out HB.out).mono ?_;rintro e w1 ⟨rfl,hd⟩;go_wp2_with fail
  refine (cmp_c a (m-b) _ HA.out hf.out).mono ?_;rintro e w' ⟨rfl,rfl⟩;go_wp2_with fail
  refine (add_c a b _ HA.out hg.out HS.out).mono ?_;rintro e w2 ⟨rfl,he⟩;go_wp2;go_ret
  exact⟨rE HE.out.symm,bt hd he⟩
 ·have hc:=cmp_nneg a (m-b) h;have HH:=Kh h
  have HE:Hid ((a+b)%m=a-(m-b)):=by
   have e:a+b=a-(m-b)+m:=by omega
   rw[Hid,e,Nat.add_mod_right,Nat.mod_eq_of_lt (by omega)]
  clear ha hb hm h;go_enter Tryz.func215,Tryz.ntmps215
  go_wp2_with fail
  refine (sub_c m b _ HM.out HB.out).mono ?_;rintro e w1 ⟨rfl,hd⟩;go_wp2_with fail
  refine (cmp_c a (m-b) _ HA.out hf.out).mono ?_;rintro e w' ⟨rfl,rfl⟩;go_wp2_with fail
  refine (sub_c a (m-b) _ HA.out HH.out).mono ?_;rintro e w2 ⟨rfl,he⟩;go_wp2;go_ret
  exact⟨rE HE.out.symm,bt hd he⟩
theorem subM_zero (a b m:Nat) (h0:0<m) (h:b%m=0):a%m=subM a b m:=by
 unfold subM;rw[h,Nat.sub_zero,Nat.add_mod_right,Nat.mod_mod]
theorem subM_pos (a b m:Nat) (h0:0<m):(a+(m-b%m))%m=subM a b m:=by
 unfold subM;have:=Nat.mod_lt b h0;rw[Nat.add_sub_assoc (Nat.le_of_lt this),Nat.mod_add_mod]
theorem msub_c (a b m:Nat) (w:World) (ha:a<256^8) (hb:b<256^8) (hm:m<256^8) (h0:0<m) :
  Calls Tryz.prog 117 #[.string (E a),.string (E b),.string (E m)] w fun e w'=>e=.returned (.tuple #[.string (E (subM a b m)),.int .i64 0])∧Bw w w':=by
 have HC:=Kh (mcheck_c w.heap.size (w.heap.size+1) [a,b] m ((w.alloc (.cells #[.string (E a),.string (E b)] 22)).alloc (.cells #[.string (E m)] 22)) (by simp) (by simp) (by simp[lt128 ha,lt128 hb]) (lt128 hm) h0 (blk2a _ _ _ _ _) (blk2b _ _ _ _ _));have HA:=Kh ha;have HB:=Kh hb;have HM:=Kh (lt128 hm);have H0:=Kh h0;by_cases hz:b%m=0
 ·have hf:=zE hz;have HS:=Kh (subM_zero a b m h0 hz);clear ha hb hm h0 hz;go_enter Tryz.func117,Tryz.ntmps117
  go_wp2_with fail
  refine (HC.out).mono ?_;rintro e w1 ⟨rfl,hc⟩;go_wp2_with fail
  refine (mreduced_c a m _ HA.out HM.out H0.out).mono ?_;rintro e w2 ⟨rfl,hd⟩;go_wp2_with fail
  refine (mreduced_c b m _ HB.out HM.out H0.out).mono ?_;rintro e w3 ⟨rfl,he⟩;go_wp2;go_ret2
  exact⟨r2 (vE HS.out) rfl,bt (bt (bt (b2 _ _ _) hc) hd) he⟩
 ·have hf:=nzE (Nat.pos_of_ne_zero hz);have HS:=Kh (subM_pos a b m h0);have hg:=Kh (Nat.mod_lt a h0);have hh:=Kh (Nat.le_of_lt (Nat.mod_lt b h0));have hi:=Kh (Nat.sub_le m (b%m));have hj:=Kh hm;clear ha hb hm h0 hz;go_enter Tryz.func117,Tryz.ntmps117
  go_wp2_with fail
  refine (HC.out).mono ?_;rintro e w1 ⟨rfl,hc⟩;go_wp2_with fail
  refine (mreduced_c a m _ HA.out HM.out H0.out).mono ?_;rintro e w2 ⟨rfl,hd⟩;go_wp2_with fail
  refine (mreduced_c b m _ HB.out HM.out H0.out).mono ?_;rintro e w3 ⟨rfl,he⟩;go_wp2_with fail
  refine (sub_c m (b%m) _ HM.out hh.out).mono ?_;rintro e w4 ⟨rfl,hb4⟩;go_wp2_with fail
  refine (mplus_c (a%m) (m-b%m) m _ hg.out hi.out hj.out).mono ?_;rintro e w5 ⟨rfl,hk⟩;go_wp2;go_ret2
  exact⟨r2 (vE HS.out) rfl,bt (bt (bt (bt (bt (b2 _ _ _) hc) hd) he) hb4) hk⟩
end
section
open Go.RowKit
def StrsAt (w:World) (ao:Option Addr) (C:List ByteArray):Prop:=C.length=0∨∃b,ao=some ⟨b,0,none⟩∧b<w.heap.size∧∀j (h:j<C.length),w.cell? ⟨b,j,none⟩=some (.string C[j])
theorem StrsAt.after {w w':World} {ao:Option Addr} {C:List ByteArray} (h:StrsAt w ao C) (hb:Bw w w'):StrsAt w' ao C:=by
 rcases h with h | ⟨b,h1,h2,h3⟩
 ·exact .inl h
 ·exact .inr ⟨b,h1,Nl h2 hb.size,fun j hj=>(hb.cell (p:=⟨b,j,none⟩) h2).trans (h3 j hj)⟩
theorem StrsAt.at_ {w:World} {ao:Option Addr} {C:List ByteArray} (h:StrsAt w ao C) {k:Nat} (hk:k<C.length):∃b,ao=some ⟨b,0,none⟩∧w.cell? ⟨b,k,none⟩=some (.string C[k]):=by
 rcases h with h | ⟨b,h1,h2,h3⟩
 ·omega
 ·exact⟨b,h1,h3 k hk⟩
end
section
open Go.RowKit Go.Shelf
theorem CA.k1 {w:World} {a0:Addr} {v0:Value} (h:CA w [(a0,v0)]):w.cell? a0=some v0:=(h (a0,v0) (by simp)).2
end
section
open Go.RowKit Go.Shelf
theorem sBounds_err (C K:ByteArray) (v1 v2 v3:Value) (k:Nat) (w:World) (hk:k≠0)
  (hb:∀w',Bw w w'→Calls Tryz.prog 77 #[.agg #[.string C,.string K],.agg #[v1,v2,v3]] w' fun e w''=>e=.returned (.tuple #[.slice none 0 0,.int .i64 k])∧Bw w' w'') :
  Calls Tryz.prog 33 #[.agg #[.string C,.string K],.agg #[v1,v2,v3]] w fun e w'=>e=.returned (.tuple #[.slice none 0 0,.slice none 0 0,.int .i64 k])∧Bw w w':=by
 have hd:=Kh hb;have hq:((k:Int) != 0)=true:=by rw[bne_iff_ne];omega
 obtain⟨hR,hP,hc⟩:=blk2 w #[.string C,.string K] #[v1,v2,v3] 24 29;clear hb hk;obtain⟨he,hf,hg,hh⟩:=hR.x2;obtain⟨hi,hj,hl,hm,hn,ho⟩:=hP.x3;go_enter Tryz.func33,Tryz.ntmps33
 go_wp2_with fail
 refine (hd.out _ hc).mono ?_;rintro e w2 ⟨rfl,hp⟩;go_wp2;go_ret3
 exact⟨rfl,bt hc hp⟩
theorem bnd16 (S:Sta) (C K:ByteArray) (v1 v2 v3:Value) (w:World) (hC:C.size≤16) (hK:K.size≤16) (hf:fewB S=true) (hS:StAt w v1 v2 v3 S) :
  (∃k:Nat,k≠0∧(∀w',Bw w w'→Calls Tryz.prog 33 #[.agg #[.string C,.string K],.agg #[v1,v2,v3]] w' fun e w''=>e=.returned (.tuple #[.slice none 0 0,.slice none 0 0,.int .i64 k])∧Bw w' w'') ∧
   (∀w',Bw w w'→Calls Tryz.prog 84 #[.agg #[.string C,.string K],.agg #[v1,v2,v3]] w' fun e w''=>e=.returned (.tuple #[.slice none 0 0,.slice none 0 0,.int .i64 k])∧Bw w' w'')) ∨
  (∃(N:NSta) (c k:Nat),C=E c∧K=E k∧c<256^16∧k<256^16∧NOk N∧NAt w v1 v2 v3 N∧N.chk=0 ∧
   2≤c∧2≤k∧(N.vars.any vz=true→c≤N.ord) ∧
   (∀w',Bw w w'→Calls Tryz.prog 33 #[.agg #[.string (E c),.string (E k)],.agg #[v1,v2,v3]] w' (B2Post w' (N.lims c k))) ∧
   (∀w',Bw w w'→Calls Tryz.prog 84 #[.agg #[.string (E c),.string (E k)],.agg #[v1,v2,v3]] w' (B2Post w' (N.lims c k)))):=by
 obtain⟨k,hk,h1,h2⟩ | ⟨N,c,k,rfl,rfl,hc,hk,rfl,hm,h0,c2,k2,hv⟩:=bnd_two S C K v1 v2 v3 w hC hK hf hS
 ·exact .inl ⟨k,hk,fun w' hb=>sBounds_err C K v1 v2 v3 k w' hk (fun w2 hd=>h1 w2 (bt hb hd)),h2⟩
 ·have hN:NAt w v1 v2 v3 N:=hS
  exact .inr ⟨N,c,k,rfl,rfl,hc,hk,hm,hN,h0,c2,k2,hv,fun w' hb=>sBounds_c N c k v1 v2 v3 w' hm.nv (fun w2 hd=>bounds_ok N c k v1 v2 v3 w2 hc hk c2 k2 hv hm (hN.after (bt hb hd)) h0),
   fun w' hb=>rbounds_ok N c k v1 v2 v3 w' hc hk c2 k2 hv hm (hN.after hb) h0⟩
def BB (w:World) (k:Nat) (L M:List Nat) (e:Ending) (w':World):Prop:=∃v u,e=.returned (.tuple #[v,u,.int .i64 k])∧NOwn w' w.heap.size v L∧NOwn w' w.heap.size u M∧Bw w w'
theorem bb_err {w:World} {k:Nat} {e:Ending} {w':World} (h:e=.returned (.tuple #[.slice none 0 0,.slice none 0 0,.int .i64 k])∧Bw w w'):BB w k [] [] e w':=⟨_,_,h.1,World.ownsRow_nil _ _ _ _,World.ownsRow_nil _ _ _ _,h.2⟩
theorem bb_num {w:World} {L:List (Nat × Nat)} {e:Ending} {w':World} (h:B2Post w L e w'):BB w 0 (L.map (·.1)) (L.map (·.2)) e w':=h
end
section
open Go.RowKit Go.Shelf
theorem negN (c:Nat) (w:World) (hc:c<256^128):Calls Tryz.prog 150 #[.agg #[.bool false,.string (E c)]] w fun e w'=>e=.returned (.agg #[.bool (sg (-(c:Int))),.string (E c)])∧Bw w w':=by
 have h:=inegS_c (c:Int) w (by rw[Int.natAbs_natCast];exact hc);rwa [Int.natAbs_natCast,sg_nat]at h
theorem expN (p q x c:Nat) (w:World) (hp:p<256^8) (hq:q<256^128) (he:grpE p q=0) (hx:hasB p q x=true) (hc:c<256^128) :
  Calls Tryz.prog 108 #[.agg #[.string (E p),.string (E q)],.string (E x),.agg #[.bool (sg (-(c:Int))),.string (E c)]] w fun e w'=>e=.returned (.tuple #[.string (E (powI x (-(c:Int)) p)),.int .i64 0])∧Bw w w':=by
 have h:=pexp_c p q x (-(c:Int)) w hp hq he hx (by rw[Int.natAbs_neg,Int.natAbs_natCast];exact hc);rwa [Int.natAbs_neg,Int.natAbs_natCast]at h
end
section
open Go.RowKit Go.Shelf
theorem Tp.on_zero (T:Tp):T.on 0=T:=by cases T;simp[Tp.on]
theorem TAt.after {w w':World} {v:Value} {T:Tp} (h:TAt w v T) (hb:Bw w w'):TAt w' v T:=by
 obtain⟨u,h1,h2⟩:=h;exact⟨u,h1,SsAt.after h2 hb⟩
end
end Go.Proofs.YtihjpddbjhcbmaaGreatDoor
