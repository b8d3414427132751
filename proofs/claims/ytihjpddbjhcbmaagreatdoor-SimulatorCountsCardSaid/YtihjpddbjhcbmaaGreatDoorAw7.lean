import Derived.Test.YtihjpddbjhcbmaaGreatDoorSm6
set_option linter.unusedVariables false
set_option linter.unusedSimpArgs false
set_option maxRecDepth 100000
set_option maxHeartbeats 16000000
namespace Go.Proofs.YtihjpddbjhcbmaaGreatDoor
open Go.RowKit Go.Shelf
theorem row1 {α:Type} {Q:World→α→List Value→Prop} {size:Nat} {w:World} {b:Nat} {T:TypeId} {cs:List Value} {x:α} (h:Blk w b T cs) (hq:Q w x cs):RAt Q size w (.slice (some ⟨b,0,none⟩) 1 1) [x]:=by
 refine⟨_,_,rfl,.inr ⟨b,0,rfl,h.lt,fun j hj=>⟨cs,?_,fun i _=>?_⟩⟩⟩
 ·obtain rfl:j=0:=by simpa using hj
  exact hq
 ·obtain rfl:j=0:=by simpa using hj
  rw[show 0+0*size+i=i by omega];exact h.cell i
theorem z1row {w:World} {b:Nat} {T:TypeId} {z:Int} {s:ByteArray} (h:Blk w b T [.bool false,.string s]) (hz:zI z=(false,s)):ZsAt w (.slice (some ⟨b,0,none⟩) 1 1) [z]:=
 row1 (x:=zI z) h (by show _=_;rw[hz])
def exS (b:Nat):NSta:=⟨[(23,11)],[b],[⟨0,18,[⟨4,0,1⟩]⟩]⟩
theorem exS_ok (b:Nat) (h:b<256^16):NOk (exS b) where
 ng:=by simp[exS]
 nv:=by simp[exS]
 ne:=by simp[exS]
 g:=by intro x hx;simp[exS]at hx;subst hx;decide
 v:=by intro x hx;simp[exS]at hx;subst hx;exact h
 e:=by
  intro x hx;simp[exS]at hx;subst hx;refine⟨by simp[exS],by decide,by simp,fun t ht=>?_⟩;simp at ht;subst ht;refine⟨by decide,by simp[exS],by decide⟩
def SPost (w:World) (N:NSta) (e:Ending) (w':World):Prop:=
 ∃v1 v2 v3,e=.returned (.agg #[v1,v2,v3])∧NAt w' v1 v2 v3 N∧Bw w w'
theorem example_c (b:Nat) (w:World):Calls Tryz.prog 94 #[.string (E b)] w (SPost w (exS b)):=by
 go_enter Tryz.func94,Tryz.ntmps94
 go_upto_region 1 with fail
 obtain⟨hR,hj⟩:=blk1 w #[.slice none 0 0,.slice none 0 0,.slice none 0 0] 29;generalize w.alloc (.cells #[.slice none 0 0,.slice none 0 0,.slice none 0 0] 29)=w1 at hR hj ⊢;replace hR:Blk w1 w.heap.size 29 [.slice none 0 0,.slice none 0 0,.slice none 0 0]:=hR;obtain⟨g,hg⟩:∃g,w.heap.size=g:=⟨_,rfl⟩;rw[hg]at hR ⊢;have HG:=Kh hg;clear hg;have hk:=hR.lt;have n1:¬ w1.heap.size=g:=by omega
 have n2:¬ w1.heap.size+1=g:=by omega
 have n3:¬ w1.heap.size+1+1=g:=by omega
 have n4:¬ w1.heap.size+1+1+1=g:=by omega
 have hl:=(((hR.alloc (.cells #[.string { data:=#[23] },.string { data:=#[11] }] 86)).alloc (.cells #[.string (E b)] 71)).alloc (.cells #[.string { data:=#[4] },.int .i64 0,.bool false,.string { data:=#[1] }] 133)).alloc (.cells #[.int .i64 0,.string { data:=#[18] },.slice (some ⟨w1.heap.size+1+1,0,none⟩) 1 1] 131);have hm:=(((Blk.new w1 #[.string { data:=#[23] },.string { data:=#[11] }] 86).alloc (.cells #[.string (E b)] 71)).alloc (.cells #[.string { data:=#[4] },.int .i64 0,.bool false,.string { data:=#[1] }] 133)).alloc (.cells #[.int .i64 0,.string { data:=#[18] },.slice (some ⟨w1.heap.size+1+1,0,none⟩) 1 1] 131);have hn:=((Blk.new (w1.alloc (.cells #[.string { data:=#[23] },.string { data:=#[11] }] 86)) #[.string (E b)] 71).alloc (.cells #[.string { data:=#[4] },.int .i64 0,.bool false,.string { data:=#[1] }] 133)).alloc (.cells #[.int .i64 0,.string { data:=#[18] },.slice (some ⟨w1.heap.size+1+1,0,none⟩) 1 1] 131);have ho:=(Blk.new ((w1.alloc (.cells #[.string { data:=#[23] },.string { data:=#[11] }] 86)).alloc (.cells #[.string (E b)] 71)) #[.string { data:=#[4] },.int .i64 0,.bool false,.string { data:=#[1] }] 133).alloc (.cells #[.int .i64 0,.string { data:=#[18] },.slice (some ⟨w1.heap.size+1+1,0,none⟩) 1 1] 131);have hp:=Blk.new (((w1.alloc (.cells #[.string { data:=#[23] },.string { data:=#[11] }] 86)).alloc (.cells #[.string (E b)] 71)).alloc (.cells #[.string { data:=#[4] },.int .i64 0,.bool false,.string { data:=#[1] }] 133)) #[.int .i64 0,.string { data:=#[18] },.slice (some ⟨w1.heap.size+1+1,0,none⟩) 1 1] 131;have hq:=ba (ba (ba (ba hj (.cells #[.string { data:=#[23] },.string { data:=#[11] }] 86)) (.cells #[.string (E b)] 71)) (.cells #[.string { data:=#[4] },.int .i64 0,.bool false,.string { data:=#[1] }] 133)) (.cells #[.int .i64 0,.string { data:=#[18] },.slice (some ⟨w1.heap.size+1+1,0,none⟩) 1 1] 131);clear hk n1 n2 n3 n4;obtain⟨hb,hc,hd,he,hf,hh⟩:=hl.x3;go_wp2;clear hb hc hd he hf hh;have hk:=hR.lt;have n1:¬ w1.heap.size=g:=by omega
 have n2:¬ w1.heap.size+1=g:=by omega
 have n3:¬ w1.heap.size+1+1=g:=by omega
 have n4:¬ w1.heap.size+1+1+1=g:=by omega
 simp only[World.size_alloc]at hm hn ho hp;have hi:=((hl.set 0 (.slice (some ⟨w1.heap.size,0,none⟩) 1 1)).set 1 (.slice (some ⟨w1.heap.size+1,0,none⟩) 1 1)).set 2 (.slice (some ⟨w1.heap.size+1+1+1,0,none⟩) 1 1);have c0:=hi.cell 0;have c1:=hi.cell 1;have c2:=hi.cell 2;refine bodyPost_ret (v:=.agg #[.slice (some ⟨w1.heap.size,0,none⟩) 1 1,.slice (some ⟨w1.heap.size+1,0,none⟩) 1 1,.slice (some ⟨w1.heap.size+1+1+1,0,none⟩) 1 1]) ?_ rfl ⟨_,_,_,rfl,StAt.mk ?_ ?_ ?_,?_⟩
 ·simp at c0 c1 c2;simp[results,Tryz.results94,go_sem,c0,c1,c2]
 ·exact row1 (((hm.other _ _ n1).other _ _ n1).other _ _ n1) rfl
 ·exact row1 (((hn.other _ _ n2).other _ _ n2).other _ _ n2) rfl
 ·exact row1 (((hp.other _ _ n4).other _ _ n4).other _ _ n4) ⟨_,rfl,row1 (((ho.other _ _ n3).other _ _ n3).other _ _ n3) rfl⟩
 ·exact ((hq.setCell (by rw[HG.out];exact Nat.le_refl _) _).setCell (by rw[HG.out];exact Nat.le_refl _) _).setCell (by rw[HG.out];exact Nat.le_refl _) _
def HEx (b:ByteArray) (N:NSta):Prop:=∀w,Calls Tryz.prog 94 #[.string b] w fun e w'=>∃a1 a2 a3 n1 n2 n3 c1 c2 c3,e=.returned (.agg #[.slice a1 n1 c1,.slice a2 n2 c2,.slice a3 n3 c3])∧NAt w' (.slice a1 n1 c1) (.slice a2 n2 c2) (.slice a3 n3 c3) N∧Bw w w'
def HFi (k2 k1:ByteArray) (N:NSta) (Z:List Int) (F:List ByteArray) (er:Int):Prop:=∀(w:World) (s1 s2 s3 xl:Option Addr) (m1 m2 m3 d1 d2 d3 nl pl:Nat),NAt w (.slice s1 m1 d1) (.slice s2 m2 d2) (.slice s3 m3 d3) N→ZsAt w (.slice xl nl pl) Z →
 Calls Tryz.prog 93 #[.agg #[.string k2,.string k2],.agg #[.slice s1 m1 d1,.slice s2 m2 d2,.slice s3 m3 d3],.string k1,.slice xl nl pl] w fun e w'=>∃a n c,e=.returned (.tuple #[.slice a n c,.int .i64 er])∧SsAt w' (.slice a n c) F∧Bw w w'
def HXp (k2 k1:ByteArray) (N:NSta) (W Y M:List Int) (F:List ByteArray):Prop:=∀(w:World) (s1 s2 s3 xw xf xl:Option Addr) (m1 m2 m3 d1 d2 d3 nw pw nf pf nl pl:Nat),NAt w (.slice s1 m1 d1) (.slice s2 m2 d2) (.slice s3 m3 d3) N→ZsAt w (.slice xw nw pw) W→SsAt w (.slice xf nf pf) F→ZsAt w (.slice xl nl pl) Y →
 Calls Tryz.prog 31 #[.agg #[.string k2,.string k2],.agg #[.slice s1 m1 d1,.slice s2 m2 d2,.slice s3 m3 d3],.slice xw nw pw,.agg #[.slice xf nf pf,.string k1,.slice xl nl pl]] w fun e w'=>∃a n c,e=.returned (.tuple #[.slice a n c,.int .i64 0])∧ZsAt w' (.slice a n c) M∧Bw w w'
def HCo (k2:ByteArray) (N:NSta) (M:List Int) (F:List ByteArray):Prop:=∀(w:World) (s1 s2 s3 xl:Option Addr) (m1 m2 m3 d1 d2 d3 nl pl:Nat),NAt w (.slice s1 m1 d1) (.slice s2 m2 d2) (.slice s3 m3 d3) N→ZsAt w (.slice xl nl pl) M →
 Calls Tryz.prog 32 #[.agg #[.string k2,.string k2],.agg #[.slice s1 m1 d1,.slice s2 m2 d2,.slice s3 m3 d3],.slice xl nl pl] w fun e w'=>∃a n c,e=.returned (.tuple #[.slice a n c,.int .i64 0])∧SsAt w' (.slice a n c) F∧Bw w w'
def HEn (F:List ByteArray):Prop:=∀(w:World) (u v:Value),SsAt w u F→SsAt w v F→Calls Tryz.prog 74 #[u,v] w fun e w'=>e=.returned (.bool true)∧Bw w w'
def HEz (Z:List Int):Prop:=∀(w:World) (u v:Value),ZsAt w u Z→ZsAt w v Z→Calls Tryz.prog 75 #[u,v] w fun e w'=>e=.returned (.bool true)∧Bw w w'
theorem awake_l (k0 k1 k2 k4 k5 k3 k13 k16 k17:ByteArray) (N0 N4:NSta) (w:World) (z5 z3 z2 z13:Int)
  (l0:k0={ data:=#[] }) (l1:k1={ data:=#[1] }) (l2:k2={ data:=#[2] }) (l4:k4={ data:=#[4] }) (l5:zI z5=(false,{ data:=#[5] })) (l3:zI z3=(false,{ data:=#[3] })) (l22:zI z2=(false,{ data:=#[2] })) (l13:zI z13=(false,{ data:=#[13] })) (l16:k16={ data:=#[16] }) (l17:k17={ data:=#[17] })
  (e0:HEx k0 N0) (e4:HEx k4 N4) (f1:HFi k2 k1 N0 [z5] [k16] 0) (x1:HXp k2 k1 N0 [z3] [z5] [z2] [k16]) (x2:HXp k2 k1 N4 [z3] [z5] [z2] [k16]) (c1:HCo k2 N4 [z2] [k17]) (f2:HFi k2 k1 N4 [z13] [] 2)
  (q1:HEn [k16]) (q2:HEz [z2]) (q3:HEn [k17]) :
  Calls Tryz.prog 23 #[] w fun e w'=>e=.returned (.bool true)∧Bw w w':=by
 unfold HEx at e0 e4;unfold HFi at f1 f2;unfold HXp at x1 x2;unfold HCo at c1;unfold HEn at q1 q3;unfold HEz at q2;subst l0 l1 l2 l4 l16 l17;have Hh:=Kh e0;have Hg:=Kh e4;have Hl:=Kh f1;have Hi:=Kh f2;have Hm:=Kh x1;have Hn:=Kh x2;have Ho:=Kh c1;have Hp:=Kh q1;have Hq:=Kh q2;have Ht:=Kh q3;have L5:=Kh l5;have L3:=Kh l3;have L22:=Kh l22;have L13:=Kh l13;clear e0 e4 f1 f2 x1 x2 c1 q1 q2 q3 l5 l3 l22 l13;go_enter Tryz.func23,Tryz.ntmps23
 go_upto_region 2 with fail
 obtain⟨hR,hb⟩:=blk1 w #[.string { data:=#[2] },.string { data:=#[2] }] 24;generalize w.alloc (.cells #[.string { data:=#[2] },.string { data:=#[2] }] 24)=w1 at hR hb ⊢;replace hR:Blk w1 w.heap.size 24 [.string { data:=#[2] },.string { data:=#[2] }]:=hR;obtain⟨g,hg⟩:∃g,w.heap.size=g:=⟨_,rfl⟩;rw[hg]at hR ⊢;clear hg;go_upto_region 3 with fail
 have hU:=Blk.new w1 #[.bool false,.string { data:=#[5] }] 74;replace hR:=hR.alloc (.cells #[.bool false,.string { data:=#[5] }] 74);replace hb:=ba hb (.cells #[.bool false,.string { data:=#[5] }] 74);have h5:ZsAt (w1.alloc (.cells #[.bool false,.string { data:=#[5] }] 74)) (.slice (some ⟨w1.heap.size,0,none⟩) 1 1) [z5]:=z1row hU L5.out;generalize w1.alloc (.cells #[.bool false,.string { data:=#[5] }] 74)=w2 at hR hb h5 ⊢;obtain⟨g5,Hr⟩:∃g,w1.heap.size=g:=⟨_,rfl⟩;rw[Hr]at h5 ⊢;clear Hr hU;go_upto_region 4 with fail
 have hU:=Blk.new w2 #[.bool false,.string { data:=#[3] }] 74;replace hR:=hR.alloc (.cells #[.bool false,.string { data:=#[3] }] 74);replace hb:=ba hb (.cells #[.bool false,.string { data:=#[3] }] 74);replace h5:=ZsAt.after h5 (b1 w2 (.cells #[.bool false,.string { data:=#[3] }] 74));have h3:ZsAt (w2.alloc (.cells #[.bool false,.string { data:=#[3] }] 74)) (.slice (some ⟨w2.heap.size,0,none⟩) 1 1) [z3]:=z1row hU L3.out;generalize w2.alloc (.cells #[.bool false,.string { data:=#[3] }] 74)=w3 at hR hb h5 h3 ⊢;obtain⟨g3,Hs⟩:∃g,w2.heap.size=g:=⟨_,rfl⟩;rw[Hs]at h3 ⊢;clear Hs hU;have hC:CA w3 [(⟨g,0,none⟩,.string { data:=#[2] }),(⟨g,1,none⟩,.string { data:=#[2] })]:=CA.cons hR.lt (hR.cell 0) (CA.cons hR.lt (hR.cell 1) (CA.nil _));clear hR;go_wp2_with fail
 go_region_held3 (fun w'=>w'.cell? ⟨g,0,none⟩=some (.string { data:=#[2] })∧w'.cell? ⟨g,1,none⟩=some (.string { data:=#[2] })) ((refine CA.k2 ?_;repeat (first | (with_reducible exact ht) | (with_reducible exact hu) | (with_reducible exact hC) | (with_reducible refine CA.drew ?_) | (with_reducible refine CA.alloc ?_ _))))
  (first | (go_at_call 94;(with_reducible refine (Hh.out _).mono ?_);rintro e wea ⟨a1a,a2a,a3a,n1a,n2a,n3a,c1a,c2a,c3a,rfl,hN,hn⟩;have hu:CA wea [(⟨g,0,none⟩,.string { data:=#[2] }),(⟨g,1,none⟩,.string { data:=#[2] })]:=hC.drew.after hn;have hO:Bw w3 wea:=Below.trans (Below.drew (Below.refl w3.heap.size w3)) hn;have hv:=ZsAt.after h5 (Below.trans (Below.drew (Below.refl w3.heap.size w3)) hn);have hP:=ZsAt.after h3 (Below.trans (Below.drew (Below.refl w3.heap.size w3)) hn)) | (go_at_call 93;(with_reducible refine (Hl.out _ _ _ _ _ _ _ _ _ _ _ _ _ hN hv).mono ?_);rintro e wda ⟨xf,nf,pf,rfl,f6,ho⟩;have ht:CA wda [(⟨g,0,none⟩,.string { data:=#[2] }),(⟨g,1,none⟩,.string { data:=#[2] })]:=hu.after ho;have hQ:=bt hO ho;have hS:=ZsAt.after hv ho;have hT:=ZsAt.after hP ho))
 replace hb:=bt hb hQ;clear hC h5 h3;have hC:=ht;have h5:=hS;have h3:=hT;clear ht hS hT hu hO hN hn hv hP ho hQ;go_wp2_with fail
 go_region_held3 (fun w'=>w'.cell? ⟨g,0,none⟩=some (.string { data:=#[2] })∧w'.cell? ⟨g,1,none⟩=some (.string { data:=#[2] })) ((refine CA.k2 ?_;repeat (first | (with_reducible exact hw) | (with_reducible exact hx) | (with_reducible exact hC) | (with_reducible refine CA.drew ?_) | (with_reducible refine CA.alloc ?_ _))))
  (first | (go_at_call 94;(with_reducible refine (Hh.out _).mono ?_);rintro e web ⟨a1b,a2b,a3b,n1b,n2b,n3b,c1b,c2b,c3b,rfl,hV,hf⟩;have hx:CA web [(⟨g,0,none⟩,.string { data:=#[2] }),(⟨g,1,none⟩,.string { data:=#[2] })]:=hC.drew.after hf;have hW:Bw wda web:=Below.trans (Below.drew (Below.refl wda.heap.size wda)) hf;have hy:=ZsAt.after h5 (Below.trans (Below.drew (Below.refl wda.heap.size wda)) hf);have hz:=ZsAt.after h3 (Below.trans (Below.drew (Below.refl wda.heap.size wda)) hf);have f6eb:=SsAt.after f6 (Below.trans (Below.drew (Below.refl wda.heap.size wda)) hf)) | (go_at_call 31;(with_reducible refine (Hm.out _ _ _ _ _ _ _ _ _ _ _ _ _ _ _ _ _ _ _ hV hz f6eb hy).mono ?_);rintro e wdb ⟨xhm,nhm,phm,rfl,hm,hh⟩;have hw:CA wdb [(⟨g,0,none⟩,.string { data:=#[2] }),(⟨g,1,none⟩,.string { data:=#[2] })]:=hx.after hh;have hX:=bt hW hh;have hY:=ZsAt.after hy hh;have hZ:=ZsAt.after hz hh;have f6db:=SsAt.after f6eb hh))
 replace hb:=bt hb hX;clear hC h5 h3 f6;have hC:=hw;have h5:=hY;have h3:=hZ;have f6:=f6db;clear hw hY hZ f6db hx hW hV hf hy hz f6eb hh hX;go_wp2_with fail
 go_region_held3 (fun w'=>w'.cell? ⟨g,0,none⟩=some (.string { data:=#[2] })∧w'.cell? ⟨g,1,none⟩=some (.string { data:=#[2] })) ((refine CA.k2 ?_;repeat (first | (with_reducible exact hB) | (with_reducible exact hD) | (with_reducible exact hC) | (with_reducible refine CA.drew ?_) | (with_reducible refine CA.alloc ?_ _))))
  (first | (go_at_call 94;(with_reducible refine (Hg.out _).mono ?_);rintro e wec ⟨a1c,a2c,a3c,n1c,n2c,n3c,c1c,c2c,c3c,rfl,h0,hc⟩;have hD:CA wec [(⟨g,0,none⟩,.string { data:=#[2] }),(⟨g,1,none⟩,.string { data:=#[2] })]:=hC.drew.after hc;have h1:Bw wdb wec:=Below.trans (Below.drew (Below.refl wdb.heap.size wdb)) hc;have hE:=ZsAt.after h5 (Below.trans (Below.drew (Below.refl wdb.heap.size wdb)) hc);have hF:=ZsAt.after h3 (Below.trans (Below.drew (Below.refl wdb.heap.size wdb)) hc);have f6ec:=SsAt.after f6 (Below.trans (Below.drew (Below.refl wdb.heap.size wdb)) hc);have h2:=ZsAt.after hm (Below.trans (Below.drew (Below.refl wdb.heap.size wdb)) hc)) | (go_at_call 31;(with_reducible refine (Hn.out _ _ _ _ _ _ _ _ _ _ _ _ _ _ _ _ _ _ _ h0 hF f6ec hE).mono ?_);rintro e wdc ⟨xhk,nhk,phk,rfl,hk,hd⟩;have hB:CA wdc [(⟨g,0,none⟩,.string { data:=#[2] }),(⟨g,1,none⟩,.string { data:=#[2] })]:=hD.after hd;have h4:=bt h1 hd;have h6:=ZsAt.after hE hd;have h7:=ZsAt.after hF hd;have f6dc:=SsAt.after f6ec hd;have h8:=ZsAt.after h2 hd))
 replace hb:=bt hb h4;clear hC h5 h3 f6 hm;have hC:=hB;have h5:=h6;have h3:=h7;have f6:=f6dc;have hm:=h8;clear hB h6 h7 f6dc h8 hD h1 h0 hc hE hF f6ec h2 hd h4;clear h5 h3;go_wp2_with fail
 go_region_held3 (fun w'=>w'.cell? ⟨g,0,none⟩=some (.string { data:=#[2] })∧w'.cell? ⟨g,1,none⟩=some (.string { data:=#[2] })) ((refine CA.k2 ?_;repeat (first | (with_reducible exact hG) | (with_reducible exact hH) | (with_reducible exact hC) | (with_reducible refine CA.drew ?_) | (with_reducible refine CA.alloc ?_ _))))
  (first | (go_at_call 94;(with_reducible refine (Hg.out _).mono ?_);rintro e wed ⟨a1d,a2d,a3d,n1d,n2d,n3d,c1d,c2d,c3d,rfl,h9,hi⟩;have hH:CA wed [(⟨g,0,none⟩,.string { data:=#[2] }),(⟨g,1,none⟩,.string { data:=#[2] })]:=hC.drew.after hi;have Ha:Bw wdc wed:=Below.trans (Below.drew (Below.refl wdc.heap.size wdc)) hi;have f6ed:=SsAt.after f6 (Below.trans (Below.drew (Below.refl wdc.heap.size wdc)) hi);have Hb:=ZsAt.after hm (Below.trans (Below.drew (Below.refl wdc.heap.size wdc)) hi);have hI:=ZsAt.after hk (Below.trans (Below.drew (Below.refl wdc.heap.size wdc)) hi)) | (go_at_call 32;(with_reducible refine (Ho.out _ _ _ _ _ _ _ _ _ _ _ _ _ h9 hI).mono ?_);rintro e wdd ⟨xg,ng,pg,rfl,f7,hj⟩;have hG:CA wdd [(⟨g,0,none⟩,.string { data:=#[2] }),(⟨g,1,none⟩,.string { data:=#[2] })]:=hH.after hj;have Hc:=bt Ha hj;have f6dd:=SsAt.after f6ed hj;have Hd:=ZsAt.after Hb hj;have He:=ZsAt.after hI hj))
 replace hb:=bt hb Hc;clear hC f6 hm hk;have hC:=hG;have f6:=f6dd;have hm:=Hd;have hk:=He;clear hG f6dd Hd He hH Ha h9 hi f6ed Hb hI hj Hc;go_wp2_with fail
 go_cut [12,13] (fun s12 s13 wx=>(∃xh nh ph,s12=.slice xh nh ph)∧s13=.int .i64 2∧Bw wdd wx)
 case first =>
  clear hb
  go_region_held3 (fun w'=>w'.cell? ⟨g,0,none⟩=some (.string { data:=#[2] })∧w'.cell? ⟨g,1,none⟩=some (.string { data:=#[2] })) ((refine CA.k2 ?_;repeat (first | (with_reducible exact Hj) | (with_reducible exact hJ) | (with_reducible exact hC) | (with_reducible refine CA.drew ?_) | (with_reducible refine CA.alloc ?_ _))))
   (first | (go_at_call 94;(with_reducible refine (Hg.out _).mono ?_);rintro e wef ⟨a1f,a2f,a3f,n1f,n2f,n3f,c1f,c2f,c3f,rfl,Hf,he⟩;have hJ:CA wef [(⟨g,0,none⟩,.string { data:=#[2] }),(⟨g,1,none⟩,.string { data:=#[2] })]:=(by first | exact hC.drew.after he | exact (hC.alloc _).drew.after he | exact (hC.drew.alloc _).after he);have hl:Bw wdd wef:=(by first | exact Below.trans (Below.drew (Below.refl wdd.heap.size wdd)) he | exact bt (b1 wdd _).drew he | exact bt (b1 (wdd).drew _) he);(try (have kA:=(Blk.drew (Blk.new wdd #[Value.bool false,Value.string { data:=#[13] }] 74)).after he));have f6ef:=SsAt.after f6 hl;have Hu:=ZsAt.after hm hl;have Hv:=ZsAt.after hk hl;have f7ef:=SsAt.after f7 hl) | (go_at_call 93;(first | (with_reducible refine (Hi.out _ _ _ _ _ _ _ _ _ _ _ _ _ Hf (z1row kA L13.out)).mono ?_) | (with_reducible refine (Hi.out _ _ _ _ _ _ _ _ _ _ _ _ _ (Hf.after (b1 wef (.cells #[.bool false,.string { data:=#[13] }] 74))) (z1row (Blk.new wef #[Value.bool false,Value.string { data:=#[13] }] 74) L13.out)).mono ?_));rintro e wdf ⟨xh,nh,ph,rfl,f8,hr⟩;have hp:Bw wdd wdf:=(by first | exact bt hl hr | exact bt (ba hl _) hr);have Hj:CA wdf [(⟨g,0,none⟩,.string { data:=#[2] }),(⟨g,1,none⟩,.string { data:=#[2] })]:=(by first | exact hJ.after hr | exact (hJ.after (b1 wef (.cells #[.bool false,.string { data:=#[13] }] 74))).after hr);have f6df:=SsAt.after f6 hp;have Hw:=ZsAt.after hm hp;have Hx:=ZsAt.after hk hp;have f7df:=SsAt.after f7 hp))
  all_goals
   go_wp2_with fail
   go_meet
   exact⟨⟨_,_,_,rfl⟩,rfl,hp⟩
 case rest =>
  obtain⟨⟨xh,nh,ph,rfl⟩,rfl,hM⟩:=hcut;obtain⟨wx,Hy⟩:∃wx,wx=wc:=⟨_,rfl⟩;subst Hy;replace hb:=bt hb hM;replace f6:=SsAt.after f6 hM;replace f7:=SsAt.after f7 hM;replace hm:=ZsAt.after hm hM;replace hk:=ZsAt.after hk hM;clear hM hC Hh Hg Hl Hi Hm Hn Ho;obtain⟨hA,hq⟩:=blk1 wx #[.string { data:=#[16] }] 22;go_wp2_with fail
  refine (Hp.out _ _ _ (SsAt.after f6 hq) (row1 hA rfl)).mono ?_;rintro e wy ⟨rfl,hK⟩;replace hK:=bt hq hK;replace hb:=bt hb hK;replace f7:=SsAt.after f7 hK;replace hm:=ZsAt.after hm hK;replace hk:=ZsAt.after hk hK;clear f6 hA hq hK Hp;obtain⟨hA,hq⟩:=blk1 wy #[.bool false,.string { data:=#[2] }] 74;go_wp2_with fail
  refine (Hq.out _ _ _ (ZsAt.after hm hq) (z1row hA L22.out)).mono ?_;rintro e wz ⟨rfl,hL⟩;replace hL:=bt hq hL;replace hb:=bt hb hL;replace f7:=SsAt.after f7 hL;replace hm:=ZsAt.after hm hL;replace hk:=ZsAt.after hk hL;clear hA hq hL;go_wp2_with fail
  refine (Hq.out _ _ _ hk hm).mono ?_;rintro e wu ⟨rfl,Hk⟩;replace hb:=bt hb Hk;replace f7:=SsAt.after f7 Hk;clear Hk hk hm;obtain⟨hA,hq⟩:=blk1 wu #[.string { data:=#[17] }] 22;go_wp2_with fail
  refine (Ht.out _ _ _ (SsAt.after f7 hq) (row1 hA rfl)).mono ?_;rintro e wv ⟨rfl,Hz⟩;go_wp2;go_ret
  exact⟨rfl,bt hb (bt hq Hz)⟩
theorem hex (b:Nat):HEx (E b) (exS b):=fun w=>(example_c b w).mono (by
 rintro e w' ⟨v1,v2,v3,rfl,hS,hb⟩;obtain⟨a1,c1,a2,c2,a3,c3,rfl,rfl,rfl⟩:=hS.forms;exact⟨_,_,_,_,_,_,_,_,_,rfl,hS,hb⟩)
theorem exS_bnd (b:Nat) (hb:b<256^16) (h0:(exS b).chk=0) (hv:(exS b).vars.any vz=true→2≤(exS b).ord) (v1 v2 v3:Value) (w:World) (hS:NAt w v1 v2 v3 (exS b)) :
  ∀w',Bw w w'→Calls Tryz.prog 33 #[.agg #[.string (E 2),.string (E 2)],.agg #[v1,v2,v3]] w' (B2Post w' ((exS b).lims 2 2)):=
 fun w' hc=>sBounds_c (exS b) 2 2 v1 v2 v3 w' (exS_ok b hb).nv (fun w2 hd=>bounds_ok (exS b) 2 2 v1 v2 v3 w2 (by decide) (by decide) (by decide) (by decide) hv (exS_ok b hb) (hS.after (bt hc hd)) h0)
theorem fpost_sl {w w':World} {k:Nat} {L:List Nat} {e:Ending} (h:FPost w k L e w'):∃a n c,e=.returned (.tuple #[.slice a n c,.int .i64 k])∧SsAt w' (.slice a n c) (L.map E)∧Bw w w':=by
 obtain⟨v,rfl,hO,hb⟩:=h;have hs:=NOwn.ss hO;obtain⟨a,c,rfl⟩:=RAt.form hs;exact⟨_,_,_,rfl,hs,hb⟩
theorem hfi (b:Nat) (z:Int) (k:Nat) (L:List Nat) (hb:b<256^16) (hz:z.natAbs<256^64) (h0:(exS b).chk=0) (hv:(exS b).vars.any vz=true→2≤(exS b).ord) (h1:(exS b).fir 2 2 1 [z]=k) (h2:(exS b).firL 2 2 1 [z]=L):HFi (E 2) (E 1) (exS b) [z] (L.map E) (k:Int):=fun w s1 s2 s3 xl m1 m2 m3 d1 d2 d3 nl pl hS hZ=>by
 have h:=sfirst_num (exS b) 2 2 1 [z] _ _ _ _ w (by decide) (by decide) (by decide) (exS_ok b hb) hS h0 hZ (by simpa using hz) (by simp) (exS_bnd b hb h0 hv _ _ _ w hS);rw[h1,h2]at h;exact h.mono fun _ _ h=>fpost_sl h
theorem hco (b:Nat) (z:Int) (L:List Nat) (hb:b<256^16) (hz:z.natAbs<256^64) (h0:(exS b).chk=0) (hv:(exS b).vars.any vz=true→2≤(exS b).ord) (h1:(exS b).coi 2 2 [z]=0) (h2:(exS b).coins 2 2 [z]=L):HCo (E 2) (exS b) [z] (L.map E):=fun w s1 s2 s3 xl m1 m2 m3 d1 d2 d3 nl pl hS hZ=>by
 have h:=scoins_num (exS b) 2 2 [z] _ _ _ _ w (by decide) (by decide) (exS_ok b hb) hS hZ (by simpa using hz) (by simp) (exS_bnd b hb h0 hv _ _ _ w hS);rw[h1,h2]at h;exact h.mono fun _ _ h=>fpost_sl h
theorem hxp (b f:Nat) (x y m:Int) (hb:b<256^16) (hf:f<256^8) (hx:x.natAbs<256^8) (hy:y.natAbs<256^8) (h0:(exS b).chk=0) (hv:(exS b).vars.any vz=true→2≤(exS b).ord) (hq:0<(exS b).ord)
  (h1:(exS b).exE [x]=0) (h2:(exS b).exL 1 [y] [x]=[m]) (h3:(exS b).ver 2 2 [f] 1 [y]=0):HXp (E 2) (E 1) (exS b) [x] [y] [m] [E f]:=fun w s1 s2 s3 xw xf xl m1 m2 m3 d1 d2 d3 nw pw nf pf nl pl hS hW hF hY=>by
 have u8:∀{n:Nat} (k:Nat),8≤k→n<256^8→n<256^k:=fun k hk h=>Nl h (Nat.pow_le_pow_right (by decide) hk)
 have h:=sexp_num (exS b) 2 2 1 [y] [x] _ _ _ _ (.slice xf nf pf) _ w (by decide) (by decide) (exS_ok b hb) hS h0 hW (by simpa using u8 63 (by decide) hx) (by simp) (by decide) hY rfl (by simpa using u8 64 (by decide) hy) (fun j h1 h2 _=>⟨hq,by
   obtain rfl:j=0:=by simpa using h2
   exact hy⟩)
  (exS_bnd b hb h0 hv _ _ _ w hS) (fun w2 hc=>by
   have h9:=verify_num (exS b) 2 2 1 [f] [y] _ _ _ (.slice xf nf pf) _ w2 (by decide) (by decide) (exS_ok b hb) (hS.after hc) h0 (fun w3 hd=>bounds_ok (exS b) 2 2 _ _ _ w3 (by decide) (by decide) (by decide) (by decide) hv (exS_ok b hb) (hS.after (bt hc hd)) h0) (SsAt.after hF hc) (ZsAt.after hY hc) (by simp) (by simpa using u8 128 (by decide) hf) (by decide) (by simp) (by simpa using u8 64 (by decide) hy);rw[h3]at h9;exact h9)
 rw[h1,h2]at h;refine h.mono ?_;rintro e w' ⟨v,rfl,hO,hb⟩;have hz:=hO.zs;obtain⟨a,c,rfl⟩:=hz.form;exact⟨_,_,_,rfl,hz,hb⟩
theorem awake_c (w:World):Calls Tryz.prog 23 #[] w fun e w'=>e=.returned (.bool true)∧Bw w w':=
 awake_l (E 0) (E 1) (E 2) (E 4) (E 5) (E 3) (E 13) (E 16) (E 17) (exS 0) (exS 4) w 5 3 2 13 rfl rfl rfl rfl rfl rfl rfl rfl rfl rfl
  (hex 0) (hex 4) (hfi 0 5 0 [16] (by decide) (by decide) (by decide +kernel) (by decide +kernel) (by decide +kernel) (by decide +kernel))
  (hxp 0 16 3 5 2 (by decide) (by decide) (by decide) (by decide) (by decide +kernel) (by decide +kernel) (by decide +kernel) (by decide +kernel) (by decide +kernel) (by decide +kernel))
  (hxp 4 16 3 5 2 (by decide) (by decide) (by decide) (by decide) (by decide +kernel) (by decide +kernel) (by decide +kernel) (by decide +kernel) (by decide +kernel) (by decide +kernel))
  (hco 4 2 [17] (by decide) (by decide) (by decide +kernel) (by decide +kernel) (by decide +kernel) (by decide +kernel))
  (hfi 4 13 2 [] (by decide) (by decide) (by decide +kernel) (by decide +kernel) (by decide +kernel) (by decide +kernel))
  (fun w u v h1 h2=>eqNat_cV [16] [16] u v true w (by simp) (by simp) h1 h2 (by decide))
  (fun w u v h1 h2=>eqZ_c u v [2] w (by simp) h1 h2)
  (fun w u v h1 h2=>eqNat_cV [17] [17] u v true w (by simp) (by simp) h1 h2 (by decide))
end Go.Proofs.YtihjpddbjhcbmaaGreatDoor
