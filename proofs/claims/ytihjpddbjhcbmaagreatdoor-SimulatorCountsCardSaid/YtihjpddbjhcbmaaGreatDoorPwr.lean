import Derived.Test.YtihjpddbjhcbmaaGreatDoorPow4
set_option linter.unusedVariables false
set_option linter.unusedSimpArgs false
set_option maxRecDepth 100000
set_option maxHeartbeats 16000000
namespace Go.Proofs.YtihjpddbjhcbmaaGreatDoor
open Go.RowKit
theorem nats1 {w:World} {b c:Nat} {T:TypeId} (h:Blk w b T [.string (E c)]):NatsAt w b [c]:=NatsAt.of_blk (T:=T) h
theorem ints1 {w:World} {b:Nat} {x:Int} {T:TypeId} (h:Blk w b T [.bool (sg x),.string (E x.natAbs)]):IntsAt w b [x]:=by
 refine⟨h.lt,fun j hj=>?_⟩;match j,hj with
 | 0,_=>exact⟨h.cell 0,h.cell 1⟩
theorem nats2 {w:World} {b c g:Nat} {T:TypeId} (h:Blk w b T [.string (E c),.string (E g)]):NatsAt w b [c,g]:=NatsAt.of_blk (T:=T) h
theorem pw1_eq {p x:Nat} (z:Int) (hx:x<p):pw (prs p [x] [z]) 0%p=powI x z p:=by
 unfold powI prs bse;simp only[List.zipWith_cons_cons,List.zipWith_nil_left,pw,Nat.pow_zero,Nat.div_one,Nat.mul_one];rw[Nat.mod_eq_of_lt hx];split <;> rfl
theorem product1_c (p q c:Nat) (z:Int) (bl bz:Nat) (w:World) (hp:p<256^8) (hq:q<256^128) (he:grpE p q=0) (hc:hasB p q c=true) (hz:z.natAbs<256^128)
  (hL:Blk w bl 22 [.string (E c)]) (hZ:Blk w bz 74 [.bool (sg z),.string (E z.natAbs)]) :
  Calls Tryz.prog 203 #[.agg #[.string (E p),.string (E q)],.slice (some ⟨bl,0,none⟩) 1 1,.slice (some ⟨bz,0,none⟩) 1 1] w fun e w'=>e=.returned (.tuple #[.string (E (powI c z p)),.int .i64 0])∧Bw w w':=by
 rw[←pw1_eq z (has_lt hc)]
 exact product_c p q bl bz 1 1 1 [c] [z] w hp hq he rfl rfl (by omega) (by omega) (by omega) (by omega) (by omega)
  (by intro x hx;simp at hx;subst hx;assumption) (by intro y hy;simp at hy;subst hy;assumption) (nats1 hL) (ints1 hZ)
theorem pexp_c (p q x:Nat) (z:Int) (w:World) (hp:p<256^8) (hq:q<256^128) (he:grpE p q=0) (hx:hasB p q x=true) (hz:z.natAbs<256^128) :
  Calls Tryz.prog 108 #[.agg #[.string (E p),.string (E q)],.string (E x),.agg #[.bool (sg (z)),.string (E (z).natAbs)]] w fun e w'=>e=.returned (.tuple #[.string (E (powI x z p)),.int .i64 0])∧Bw w w':=by
 have hL:=blk4c w (.cells #[Value.string (E p),Value.string (E q)] 86) (.cells #[.bool (sg z),.string (E z.natAbs)] 74) (.cells #[.bool (sg z),.string (E z.natAbs)] 74) #[.string (E x)] 22;have hZ:=blk4d w (.cells #[Value.string (E p),Value.string (E q)] 86) (.cells #[.bool (sg z),.string (E z.natAbs)] 74) (.cells #[.string (E x)] 22) #[.bool (sg z),.string (E z.natAbs)] 74;have hb:=Kh (product1_c p q x z _ _ _ hp hq he hx hz hL hZ);clear hp hq he hx hz hL hZ;generalize powI x z p=y at hb;go_enter Tryz.func108,Tryz.ntmps108
 go_wp2_with fail
 refine (hb.out).mono ?_;rintro e w1 ⟨rfl,hc⟩;go_wp2;go_ret2
 exact⟨rfl,bt (ba (b3 _ _ _ _) _) hc⟩
theorem pmul_c (p q a b:Nat) (w:World) (hp:p<256^8) (hq:q<256^128) (he:grpE p q=0) (ha:hasB p q a=true) (hb:hasB p q b=true) :
  Calls Tryz.prog 109 #[.agg #[.string (E p),.string (E q)],.string (E a),.string (E b)] w fun e w'=>e=.returned (.tuple #[.string (E (a*b%p)),.int .i64 0])∧Bw w w':=by
 have hL:=blk2b w #[Value.string (E p),Value.string (E q)] #[.string (E a),.string (E b)] 86 22
 have HC:=Kh (checked_c p q (w.heap.size+1) 2 2 0 0 none [a,b] [] _ hp hq he rfl rfl (by omega) (by omega) (by omega) (by omega) (by omega) (by omega)
  (by intro x hx;simp at hx;rcases hx with rfl | rfl <;> assumption) (by intro y hy;cases hy) (nats2 hL) (.inl rfl))
 have hc:=Nat.lt_trans (has_lt ha) hp;have hd:=Nat.lt_trans (has_lt hb) hp;have HM:=Kh (fun w=>mmul_c a b p w hc hd hp (by have:=grp_gt he;omega));have hB:=blk2a w #[Value.string (E p),Value.string (E q)] #[.string (E a),.string (E b)] 86 22;clear hp hq he ha hb hL hc hd;generalize a*b%p=y at HM;go_enter Tryz.func109,Tryz.ntmps109
 go_wp2_with fail
 refine (HC.out).mono ?_;rintro e w1 ⟨rfl,hf⟩;replace hB:=hB.after hf;obtain⟨hg,hh,hi,hj⟩:=hB.x2;go_wp2_with fail
 refine (HM.out _).mono ?_;rintro e w2 ⟨rfl,hk⟩;go_wp2;go_ret2
 exact⟨rfl,bt (bt (b2 _ _ _) hf) hk⟩
end Go.Proofs.YtihjpddbjhcbmaaGreatDoor
