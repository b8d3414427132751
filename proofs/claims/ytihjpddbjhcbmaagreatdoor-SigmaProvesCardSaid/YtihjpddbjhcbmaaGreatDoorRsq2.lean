import Derived.Test.YtihjpddbjhcbmaaGreatDoorRsp3
set_option linter.unusedVariables false
set_option linter.unusedSimpArgs false
set_option maxRecDepth 100000
set_option maxHeartbeats 16000000
namespace Go.Proofs.YtihjpddbjhcbmaaGreatDoor
section
open Go.RowKit Go.Shelf
theorem mulcb (c:Nat) (b:Int):(c:Int)*b=if sg b then -((c*b.natAbs:Nat):Int) else ((c*b.natAbs:Nat):Int):=by
 rcases Int.lt_or_le b 0 with h | h
 ·rw[sg_of_neg h,if_pos rfl];have e:b=-((b.natAbs:Nat):Int):=by omega
  generalize b.natAbs=n at e;subst e;rw[Int.natCast_mul,Int.mul_neg]
 ·rw[sg_of_nonneg h,if_neg (by decide)];have e:b=((b.natAbs:Nat):Int):=by omega
  generalize b.natAbs=n at e;subst e;rw[Int.natCast_mul]
theorem selfsg (a:Int):a=if sg a then -((a.natAbs:Nat):Int) else ((a.natAbs:Nat):Int):=by
 rcases Int.lt_or_le a 0 with h | h
 ·rw[sg_of_neg h,if_pos rfl];omega
 ·rw[sg_of_nonneg h,if_neg (by decide)];omega
theorem pl_same (a b:Int) (c P:Nat) (hP:P=c*b.natAbs) (h:sg a=sg b∨P=0):a+(c:Int)*b=if sg a then -((a.natAbs+P:Nat):Int) else ((a.natAbs+P:Nat):Int):=by
 rw[mulcb,←hP];have ha:=selfsg a;generalize a.natAbs=x at *;cases hs:sg a <;> cases ht:sg b <;> rw[hs]at ha h <;> rw[ht]at h <;> simp at ha h ⊢ <;> omega
theorem pl_ge (a b:Int) (c P:Nat) (hP:P=c*b.natAbs) (h:sg a≠sg b) (hg:P≤a.natAbs):a+(c:Int)*b=if sg a then -((a.natAbs-P:Nat):Int) else ((a.natAbs-P:Nat):Int):=by
 rw[mulcb,←hP];have ha:=selfsg a;generalize a.natAbs=x at *;cases hs:sg a <;> cases ht:sg b <;> rw[hs]at ha h <;> rw[ht]at h <;> simp at ha h ⊢ <;> omega
theorem pl_lt (a b:Int) (c P:Nat) (hP:P=c*b.natAbs) (h:sg a≠sg b) (hg:a.natAbs<P):a+(c:Int)*b=if sg b then -((P-a.natAbs:Nat):Int) else ((P-a.natAbs:Nat):Int):=by
 rw[mulcb,←hP];have ha:=selfsg a;generalize a.natAbs=x at *;cases hs:sg a <;> cases ht:sg b <;> rw[hs]at ha h <;> rw[ht]at h <;> simp at ha h ⊢ <;> omega
theorem rpl_same (a b:Int) (c:Nat) (w:World) (ha:a.natAbs<256^64) (hb:b.natAbs<256^64) (hc:c<256^20) (hq:sg a=sg b∨c*b.natAbs=0) :
  Calls Tryz.prog 259 #[.agg #[.bool (sg (a)),.string (E (a).natAbs)],.string (E c),.agg #[.bool (sg (b)),.string (E (b).natAbs)]] w fun e w'=>e=.returned (.agg #[.bool (sg (a+(c:Int)*b)),.string (E (a+(c:Int)*b).natAbs)])∧Bw w w':=by
 have hy:c*b.natAbs<256^84:=mul_lt_pw hc hb (by decide);have szx:∀{n k:Nat},n<256^k→k≤128→(E n).size≤128:=fun h hk=>Nat.le_trans ((E_size_le _ _).2 h) hk
 have hD:Hid (∀w,Calls Tryz.prog 186 #[.string (E c),.string (E b.natAbs)] w fun e w'=>e=.returned (.string (E (c*b.natAbs)))∧Bw w w'):=fun w=>rtimes_c _ _ w (Nat.le_trans (szx hc (by decide)) (by decide)) (Nat.le_trans (szx hb (by decide)) (by decide))
 obtain⟨P,hP⟩:∃P,P=c*b.natAbs:=⟨_,rfl⟩;rw[←hP]at hD hy hq;have hF:=szx ha (by decide);have hG:=szx hy (by decide);have HT:Hid (∀w,Calls Tryz.prog 241 #[.string (E a.natAbs),.string (E P)] w fun e w'=>e=.returned (.string (E (a.natAbs+P)))∧Bw w w'):=fun w=>rplus_c _ _ w (by omega) (by omega)
 have hH:(E (a.natAbs+P)).size≤128:=(E_size_le _ 128).2 (by
  have h1:(256:Nat)^64+256^84≤256^128:=by decide
  omega)
 have HF:Hid (∀w,Calls Tryz.prog 170 #[.bool (sg a),.string (E (a.natAbs+P))] w fun e w'=>e=.returned (.agg #[.bool (sg (a+(c:Int)*b)),.string (E (a+(c:Int)*b).natAbs)])∧Bw w w'):=fun w=>rmake_c (sg a) (a.natAbs+P) _ w (by omega) (pl_same a b c P hP hq)
 generalize a.natAbs+P=n at HT HF;generalize hz:a+(c:Int)*b=z at HF ⊢;have HQ:=Kh hq;clear ha hb hc hy szx hF hG hH hz hP hq;obtain⟨hA,hB,hC,hx⟩:=blk3 w #[Value.bool (sg a),Value.string (E a.natAbs)] #[Value.bool (sg b),Value.string (E b.natAbs)] #[Value.bool false,Value.string { data:=#[] }] 74 74 74;obtain⟨hd,he,hf,hg⟩:=hA.x2;obtain⟨hh,hi,hj,hl⟩:=hB.x2;go_enter Tryz.func259,Tryz.ntmps259
 go_wp2_with fail
 refine (hD.out _).mono ?_;rintro e w2 ⟨rfl,hu⟩;clear hd he hf hg;clear hh hi hj hl;replace hA:=hA.after hu;replace hB:=hB.after hu;replace hC:=hC.after hu;replace hx:=bt hx hu;clear hu hD;by_cases hs:sg a=sg b
 ·have hI:(sg a==sg b)=true:=by rw[hs];simp
  clear hs;have hJ:=hA.lt;have hK:=hB.lt;obtain⟨hd,he,hf,hg⟩:=hA.x2;obtain⟨hh,hi,hj,hl⟩:=hB.x2;have ho:=hA.gcell 0;have hp:=hA.gcell 1;have hr:=hB.gcell 0;have ht:=hB.gcell 1;go_upto_region 3 with fail
  go_wp2_with fail
  refine wp_region_gw_tail 7 (by kernel_rfl) (by kernel_rfl) ?_;simp only[List.take_succ_cons,List.take_zero,List.drop_succ_cons,List.drop_zero];repeat (go_big_quiet_step (first | (go_at_call 241;exact gw_of (HT.out _)) | (go_at_call 170;exact gw_of (HF.out _))))
  refine wpQuiet_nil ?_;rintro w9 ⟨xw9,rfl⟩;have hb9:=gw_below xw9;generalize gw xw9=w9 at hb9;clear hd he hf hg;clear hh hi hj hl;clear ho hp;clear hr ht;have hE:=hC.after hb9;obtain⟨hm,hv,hn,hw⟩:=hE.x2;go_wp2;refine bodyPost_ret (v:=.agg #[.bool (sg (z)),.string (E (z).natAbs)]) ?_ rfl ⟨rfl,?_⟩
  ·simp[results,Tryz.results259,go_sem,hm,hn]
  ·exact ((bt hx hb9).setCell (by simp;omega) _).setCell (by simp;omega) _
 ·have hI:(sg a==sg b)=false:=by rw[beq_eq_false_iff_ne];exact hs
  have hL:Hid (P=0):=by rcases HQ.out with h | h;exact absurd h hs;exact h
  have hM:=zE hL.out;clear hs;have hJ:=hA.lt;have hK:=hB.lt;obtain⟨hd,he,hf,hg⟩:=hA.x2;obtain⟨hh,hi,hj,hl⟩:=hB.x2;have ho:=hA.gcell 0;have hp:=hA.gcell 1;have hr:=hB.gcell 0;have ht:=hB.gcell 1;go_upto_region 3 with fail
  go_wp2_with fail
  refine wp_region_gw_tail 7 (by kernel_rfl) (by kernel_rfl) ?_;simp only[List.take_succ_cons,List.take_zero,List.drop_succ_cons,List.drop_zero];repeat (go_big_quiet_step (first | (go_at_call 241;exact gw_of (HT.out _)) | (go_at_call 170;exact gw_of (HF.out _))))
  refine wpQuiet_nil ?_;rintro w9 ⟨xw9,rfl⟩;have hb9:=gw_below xw9;generalize gw xw9=w9 at hb9;clear hd he hf hg;clear hh hi hj hl;clear ho hp;clear hr ht;have hE:=hC.after hb9;obtain⟨hm,hv,hn,hw⟩:=hE.x2;go_wp2;refine bodyPost_ret (v:=.agg #[.bool (sg (z)),.string (E (z).natAbs)]) ?_ rfl ⟨rfl,?_⟩
  ·simp[results,Tryz.results259,go_sem,hm,hn]
  ·exact ((bt hx hb9).setCell (by simp;omega) _).setCell (by simp;omega) _
theorem rpl_ge (a b:Int) (c:Nat) (w:World) (ha:a.natAbs<256^64) (hb:b.natAbs<256^64) (hc:c<256^20) (hq:sg a≠sg b) (h0:c*b.natAbs≠0) (hg:c*b.natAbs≤a.natAbs) :
  Calls Tryz.prog 259 #[.agg #[.bool (sg (a)),.string (E (a).natAbs)],.string (E c),.agg #[.bool (sg (b)),.string (E (b).natAbs)]] w fun e w'=>e=.returned (.agg #[.bool (sg (a+(c:Int)*b)),.string (E (a+(c:Int)*b).natAbs)])∧Bw w w':=by
 have hu:c*b.natAbs<256^84:=mul_lt_pw hc hb (by decide);have szx:∀{n k:Nat},n<256^k→k≤128→(E n).size≤128:=fun h hk=>Nat.le_trans ((E_size_le _ _).2 h) hk
 have hv:Hid (∀w,Calls Tryz.prog 186 #[.string (E c),.string (E b.natAbs)] w fun e w'=>e=.returned (.string (E (c*b.natAbs)))∧Bw w w'):=fun w=>rtimes_c _ _ w (Nat.le_trans (szx hc (by decide)) (by decide)) (Nat.le_trans (szx hb (by decide)) (by decide))
 obtain⟨P,hP⟩:∃P,P=c*b.natAbs:=⟨_,rfl⟩;rw[←hP]at hv hu hg h0;have hH:=szx ha (by decide);have hI:=szx hu (by decide);have HO:Hid (∀w,Calls Tryz.prog 87 #[.string (E a.natAbs),.string (E P)] w fun e w'=>e=.returned (.int .i64 (cmpN a.natAbs P))∧Bw w w'):=fun w=>rorder_c _ _ w (by omega) (by omega)
 have HT:Hid (∀w,Calls Tryz.prog 187 #[.string (E a.natAbs),.string (E P)] w fun e w'=>e=.returned (.string (E (a.natAbs-P)))∧Bw w w'):=fun w=>rminus_c _ _ w (by omega) hg
 have hJ:(E (a.natAbs-P)).size≤128:=szx (Nat.lt_of_le_of_lt (Nat.sub_le _ _) ha) (by decide);have HF:Hid (∀w,Calls Tryz.prog 170 #[.bool (sg a),.string (E (a.natAbs-P))] w fun e w'=>e=.returned (.agg #[.bool (sg (a+(c:Int)*b)),.string (E (a+(c:Int)*b).natAbs)])∧Bw w w'):=fun w=>rmake_c (sg a) (a.natAbs-P) _ w (by omega) (pl_ge a b c P hP hq hg)
 have hL:(sg a==sg b)=false:=by rw[beq_eq_false_iff_ne];exact hq
 have hM:=nzE2 (Nat.pos_of_ne_zero h0);have hN:=nzE (Nat.pos_of_ne_zero h0);obtain⟨q1,hw⟩:∃q:Int,q=cmpN a.natAbs P:=⟨_,rfl⟩;rw[←hw]at HO;have hO:decide (0≤q1)=true:=by rw[hw];exact Dt (by have:=cmp_nneg a.natAbs P hg;omega)
 generalize a.natAbs-P=n at HT HF;generalize hz:a+(c:Int)*b=z at HF ⊢;have HQ:=Kh hq;clear ha hb hc hu szx hH hI hJ hz hP hq hg h0 hw;obtain⟨hA,hB,hC,hn⟩:=blk3 w #[Value.bool (sg a),Value.string (E a.natAbs)] #[Value.bool (sg b),Value.string (E b.natAbs)] #[Value.bool false,Value.string { data:=#[] }] 74 74 74;obtain⟨hd,he,hf,hh⟩:=hA.x2;obtain⟨hi,hj,hl,hm⟩:=hB.x2;go_enter Tryz.func259,Tryz.ntmps259
 go_wp2_with fail
 refine (hv.out _).mono ?_;rintro e w2 ⟨rfl,ho⟩;clear hd he hf hh;clear hi hj hl hm;replace hA:=hA.after ho;replace hB:=hB.after ho;replace hC:=hC.after ho;replace hn:=bt hn ho;clear ho hv;obtain⟨hd,he,hf,hh⟩:=hA.x2;obtain⟨hi,hj,hl,hm⟩:=hB.x2;go_wp2_with fail
 refine (HO.out _).mono ?_;rintro e w3 ⟨rfl,hp⟩;clear hd he hf hh;clear hi hj hl hm;replace hA:=hA.after hp;replace hB:=hB.after hp;replace hC:=hC.after hp;replace hn:=bt hn hp;clear hp HO;have hQ:=hA.lt;have hR:=hB.lt;obtain⟨hd,he,hf,hh⟩:=hA.x2;obtain⟨hi,hj,hl,hm⟩:=hB.x2;have hx:=hA.gcell 0;have hy:=hA.gcell 1;have hD:=hB.gcell 0;have hE:=hB.gcell 1;go_upto_region 5 with fail
 go_wp2_with fail
 refine wp_region_gw_tail 7 (by kernel_rfl) (by kernel_rfl) ?_;simp only[List.take_succ_cons,List.take_zero,List.drop_succ_cons,List.drop_zero];repeat (go_big_quiet_step (first | (go_at_call 187;exact gw_of (HT.out _)) | (go_at_call 170;exact gw_of (HF.out _))))
 refine wpQuiet_nil ?_;rintro w9 ⟨xw9,rfl⟩;have hb9:=gw_below xw9;generalize gw xw9=w9 at hb9;clear hd he hf hh;clear hi hj hl hm;clear hx hy;clear hD hE;have hK:=hC.after hb9;obtain⟨hr,hF,ht,hG⟩:=hK.x2;go_wp2;refine bodyPost_ret (v:=.agg #[.bool (sg (z)),.string (E (z).natAbs)]) ?_ rfl ⟨rfl,?_⟩
 ·simp[results,Tryz.results259,go_sem,hr,ht]
 ·exact ((bt hn hb9).setCell (by simp;omega) _).setCell (by simp;omega) _
theorem rpl_lt (a b:Int) (c:Nat) (w:World) (ha:a.natAbs<256^64) (hb:b.natAbs<256^64) (hc:c<256^20) (hq:sg a≠sg b) (h0:c*b.natAbs≠0) (hg:a.natAbs<c*b.natAbs) :
  Calls Tryz.prog 259 #[.agg #[.bool (sg (a)),.string (E (a).natAbs)],.string (E c),.agg #[.bool (sg (b)),.string (E (b).natAbs)]] w fun e w'=>e=.returned (.agg #[.bool (sg (a+(c:Int)*b)),.string (E (a+(c:Int)*b).natAbs)])∧Bw w w':=by
 have hu:c*b.natAbs<256^84:=mul_lt_pw hc hb (by decide);have szx:∀{n k:Nat},n<256^k→k≤128→(E n).size≤128:=fun h hk=>Nat.le_trans ((E_size_le _ _).2 h) hk
 have hv:Hid (∀w,Calls Tryz.prog 186 #[.string (E c),.string (E b.natAbs)] w fun e w'=>e=.returned (.string (E (c*b.natAbs)))∧Bw w w'):=fun w=>rtimes_c _ _ w (Nat.le_trans (szx hc (by decide)) (by decide)) (Nat.le_trans (szx hb (by decide)) (by decide))
 obtain⟨P,hP⟩:∃P,P=c*b.natAbs:=⟨_,rfl⟩;rw[←hP]at hv hu hg h0;have hH:=szx ha (by decide);have hI:=szx hu (by decide);have HO:Hid (∀w,Calls Tryz.prog 87 #[.string (E a.natAbs),.string (E P)] w fun e w'=>e=.returned (.int .i64 (cmpN a.natAbs P))∧Bw w w'):=fun w=>rorder_c _ _ w (by omega) (by omega)
 have HT:Hid (∀w,Calls Tryz.prog 187 #[.string (E P),.string (E a.natAbs)] w fun e w'=>e=.returned (.string (E (P-a.natAbs)))∧Bw w w'):=fun w=>rminus_c _ _ w (by omega) (by omega)
 have hJ:(E (P-a.natAbs)).size≤128:=szx (Nat.lt_of_le_of_lt (Nat.sub_le _ _) hu) (by decide);have HF:Hid (∀w,Calls Tryz.prog 170 #[.bool (sg b),.string (E (P-a.natAbs))] w fun e w'=>e=.returned (.agg #[.bool (sg (a+(c:Int)*b)),.string (E (a+(c:Int)*b).natAbs)])∧Bw w w'):=fun w=>rmake_c (sg b) (P-a.natAbs) _ w (by omega) (pl_lt a b c P hP hq hg)
 have hL:(sg a==sg b)=false:=by rw[beq_eq_false_iff_ne];exact hq
 have hM:=nzE2 (Nat.pos_of_ne_zero h0);have hN:=nzE (Nat.pos_of_ne_zero h0);obtain⟨q1,hw⟩:∃q:Int,q=cmpN a.natAbs P:=⟨_,rfl⟩;rw[←hw]at HO;have hO:decide (0≤q1)=false:=by rw[hw];exact decide_eq_false (by have:=cmp_neg a.natAbs P hg;omega)
 generalize P-a.natAbs=n at HT HF;generalize hz:a+(c:Int)*b=z at HF ⊢;have HQ:=Kh hq;clear ha hb hc hu szx hH hI hJ hz hP hq hg h0 hw;obtain⟨hA,hB,hC,hn⟩:=blk3 w #[Value.bool (sg a),Value.string (E a.natAbs)] #[Value.bool (sg b),Value.string (E b.natAbs)] #[Value.bool false,Value.string { data:=#[] }] 74 74 74;obtain⟨hd,he,hf,hh⟩:=hA.x2;obtain⟨hi,hj,hl,hm⟩:=hB.x2;go_enter Tryz.func259,Tryz.ntmps259
 go_wp2_with fail
 refine (hv.out _).mono ?_;rintro e w2 ⟨rfl,ho⟩;clear hd he hf hh;clear hi hj hl hm;replace hA:=hA.after ho;replace hB:=hB.after ho;replace hC:=hC.after ho;replace hn:=bt hn ho;clear ho hv;obtain⟨hd,he,hf,hh⟩:=hA.x2;obtain⟨hi,hj,hl,hm⟩:=hB.x2;go_wp2_with fail
 refine (HO.out _).mono ?_;rintro e w3 ⟨rfl,hp⟩;clear hd he hf hh;clear hi hj hl hm;replace hA:=hA.after hp;replace hB:=hB.after hp;replace hC:=hC.after hp;replace hn:=bt hn hp;clear hp HO;have hQ:=hA.lt;have hR:=hB.lt;obtain⟨hd,he,hf,hh⟩:=hA.x2;obtain⟨hi,hj,hl,hm⟩:=hB.x2;have hx:=hA.gcell 0;have hy:=hA.gcell 1;have hD:=hB.gcell 0;have hE:=hB.gcell 1;go_upto_region 6 with fail
 go_wp2_with fail
 refine wp_region_gw_tail 7 (by kernel_rfl) (by kernel_rfl) ?_;simp only[List.take_succ_cons,List.take_zero,List.drop_succ_cons,List.drop_zero];repeat (go_big_quiet_step (first | (go_at_call 187;exact gw_of (HT.out _)) | (go_at_call 170;exact gw_of (HF.out _))))
 refine wpQuiet_nil ?_;rintro w9 ⟨xw9,rfl⟩;have hb9:=gw_below xw9;generalize gw xw9=w9 at hb9;clear hd he hf hh;clear hi hj hl hm;clear hx hy;clear hD hE;have hK:=hC.after hb9;obtain⟨hr,hF,ht,hG⟩:=hK.x2;go_wp2;refine bodyPost_ret (v:=.agg #[.bool (sg (z)),.string (E (z).natAbs)]) ?_ rfl ⟨rfl,?_⟩
 ·simp[results,Tryz.results259,go_sem,hr,ht]
 ·exact ((bt hn hb9).setCell (by simp;omega) _).setCell (by simp;omega) _
theorem rplus16_c (a b:Int) (c:Nat) (w:World) (ha:a.natAbs<256^64) (hb:b.natAbs<256^64) (hc:c<256^20) :
  Calls Tryz.prog 259 #[.agg #[.bool (sg (a)),.string (E (a).natAbs)],.string (E c),.agg #[.bool (sg (b)),.string (E (b).natAbs)]] w fun e w'=>e=.returned (.agg #[.bool (sg (a+(c:Int)*b)),.string (E (a+(c:Int)*b).natAbs)])∧Bw w w':=by
 by_cases hq:sg a=sg b∨c*b.natAbs=0
 ·exact rpl_same a b c w ha hb hc hq
 ·have h1:sg a≠sg b:=fun h=>hq (.inl h)
  have h2:c*b.natAbs≠0:=fun h=>hq (.inr h)
  rcases Nat.lt_or_ge a.natAbs (c*b.natAbs) with hg | hg
  ·exact rpl_lt a b c w ha hb hc h1 h2 hg
  ·exact rpl_ge a b c w ha hb hc h1 h2 hg
theorem rresp16_c (N:NSta) (v1 v2 v3:Value) (j c:Nat) (m z:Int) (w:World) (hm:NOk N) (hS:NAt w v1 v2 v3 N) (hj:j<N.vars.length) (h1:m.natAbs<256^64) (h2:z.natAbs<256^64) (hc:c<256^20)
  (Hi:N.vars[j]=0→0≤m∧0≤z∧0<N.ord) :
  Calls Tryz.prog 190 #[.agg #[v1,v2,v3],.int .i64 (j:Int),.agg #[.bool (sg (m)),.string (E (m).natAbs)],.string (E c),.agg #[.bool (sg (z)),.string (E (z).natAbs)]] w fun e w'=>e=.returned (.agg #[.bool (sg (rspI N.ord N.vars[j] c m z)),.string (E (rspI N.ord N.vars[j] c m z).natAbs)])∧Bw w w':=by
 have h8:Hid (∀w,Calls Tryz.prog 259 #[.agg #[.bool (sg (m)),.string (E (m).natAbs)],.string (E c),.agg #[.bool (sg (z)),.string (E (z).natAbs)]] w fun e w'=>e=.returned (.agg #[.bool (sg (m+(c:Int)*z)),.string (E (m+(c:Int)*z).natAbs)])∧Bw w w'):=fun w=>rplus16_c m z c w h1 h2 hc
 have hZ:Hid (∀w',Bw w w'→Calls Tryz.prog 185 #[.agg #[v1,v2,v3]] w' fun e w''=>e=.returned (.string (E N.ord))∧Bw w' w''):=fun w' hb=>rorder16_c N v1 v2 v3 w' hm (hS.after hb)
 have Hj:Hid ((m+(c:Int)*z).natAbs<256^128):=nab_add (n:=84) (Nl h1 P8) (by rw[nab_mul];exact mul_lt_pw hc h2 (by decide)) (by decide);have hx:Hid (0<N.ord→∀w,Calls Tryz.prog 260 #[.string (E (m+(c:Int)*z).natAbs),.string (E N.ord)] w fun e w'=>e=.returned (.string (E ((m+(c:Int)*z).natAbs%N.ord)))∧Bw w w'):=fun h0 w=>rmod3_c _ _ w Hj.out (lt128 (ord_lt hm)) h0
 have ho:Hid (N.vars[j]=0→0<N.ord∧rspI N.ord N.vars[j] c m z=(((m+(c:Int)*z).natAbs%N.ord:Nat):Int)):=fun h=>by
  obtain⟨ha,hb,h0⟩:=Hi h;refine⟨h0,?_⟩;have hp:0≤(c:Int)*z:=Int.mul_nonneg (by omega) hb;rw[rspI,if_pos h,Int.natCast_emod];congr 1
  omega
 have hu:Hid (N.vars[j]≠0→rspI N.ord N.vars[j] c m z=m+(c:Int)*z):=fun h=>by rw[rspI,if_neg h]
 obtain⟨a1,c1,a2,c2,a3,c3,rfl,rfl,rfl⟩:=hS.forms;obtain⟨n1,Hk⟩:∃n,n=N.grps.length:=⟨_,rfl⟩;obtain⟨n2,Hl⟩:∃n,n=N.vars.length:=⟨_,rfl⟩;obtain⟨n3,Hm⟩:∃n,n=N.eqs.length:=⟨_,rfl⟩;have HJ:(j:Int)<(n2:Int):=by omega
 have HK:(0:Int)≤(j:Int):=by omega
 rw[←Hk,←Hl,←Hm]at hS hZ ⊢;obtain⟨b,o,rfl,h9,x1⟩:=hS.vat hj;generalize rspI N.ord (N.vars[j]'hj) c m z=rr at ho hu ⊢;generalize (N.vars[j]'hj)=vb at x1 ho hu;generalize N.ord=q at hZ hx ho;clear hm Hi h1 h2 hc Hk Hl Hm hj Hj hS;generalize m+(c:Int)*z=s at h8 hx ho hu;obtain⟨hA,h3⟩:=blk1 w #[.slice a1 n1 c1,.slice (some ⟨b,o,none⟩) n2 c2,.slice a3 n3 c3] 29;have Ha:=blk3a (w.alloc (.cells #[.slice a1 n1 c1,.slice (some ⟨b,o,none⟩) n2 c2,.slice a3 n3 c3] 29)) #[Value.bool (sg m),Value.string (E m.natAbs)] #[Value.bool (sg z),Value.string (E z.natAbs)] #[Value.bool false,Value.string { data:=#[] }] 74 74 74;have Hb:=blk3b (w.alloc (.cells #[.slice a1 n1 c1,.slice (some ⟨b,o,none⟩) n2 c2,.slice a3 n3 c3] 29)) #[Value.bool (sg m),Value.string (E m.natAbs)] #[Value.bool (sg z),Value.string (E z.natAbs)] #[Value.bool false,Value.string { data:=#[] }] 74 74 74;have Hc:=blk3c (w.alloc (.cells #[.slice a1 n1 c1,.slice (some ⟨b,o,none⟩) n2 c2,.slice a3 n3 c3] 29)) #[Value.bool (sg m),Value.string (E m.natAbs)] #[Value.bool (sg z),Value.string (E z.natAbs)] #[Value.bool false,Value.string { data:=#[] }] 74 74 74;have hb4:=b3 (w.alloc (.cells #[.slice a1 n1 c1,.slice (some ⟨b,o,none⟩) n2 c2,.slice a3 n3 c3] 29)) (.cells #[Value.bool (sg m),Value.string (E m.natAbs)] 74) (.cells #[Value.bool (sg z),Value.string (E z.natAbs)] 74) (.cells #[Value.bool false,Value.string { data:=#[] }] 74);have Hn:=hA.after hb4;replace h3:=bt h3 hb4;clear hA hb4;simp only[World.size_alloc]at Ha Hb Hc;obtain⟨hy,hz,hB,hC⟩:=Ha.x2;obtain⟨hD,hE,hF,hG⟩:=Hb.x2;go_enter Tryz.func190,Tryz.ntmps190
 go_wp2_with fail
 refine (h8.out _).mono ?_;rintro e w2 ⟨rfl,h4⟩;clear hy hz hB hC;clear hD hE hF hG;have hH:=Hn.after h4;have hv:=Hc.after h4;have hk:=bt h3 h4;clear Hn Hc Ha Hb h3 h4 h8;have y1:=(hk.cell (p:=⟨b,o+j,none⟩) h9).trans x1;have hI:=Nl h9 hk.size;obtain⟨gA,Hd⟩:∃g,w.heap.size=g:=⟨_,rfl⟩;obtain⟨gD,Ho⟩:∃g,w.heap.size+1+2=g:=⟨_,rfl⟩;have hJ:w.heap.size+1+1+1=gD:=by omega
 rw[Ho]at hv;rw[Hd]at hH;have h5:Hid (w.heap.size≤gD):=by rw[Hid];omega
 have HA:Hid (w.heap.size≤w2.heap.size):=hk.size;rw[hJ,Hd];clear hJ Ho Hd x1 h9;replace hH:Blk w2 gA 29 [.slice a1 n1 c1,.slice (some ⟨b,o,none⟩) n2 c2,.slice a3 n3 c3]:=hH;replace hv:Blk w2 gD 74 [.bool false,.string { data:=#[] }]:=hv;have HB:=hv.lt;have Hp:Hid (w2.heap.size≠gD):=by rw[Hid];omega
 clear HB;obtain⟨hX,hK⟩:=blk1 w2 #[.bool (sg s),.string (E s.natAbs)] 74;have hl:=hH.after hK;have h6:=hv.after hK;have hn:=bt hk hK;have y2:=(hK.cell (p:=⟨b,o+j,none⟩) hI).trans y1;clear hH hv hk y1 hI;by_cases hw:vb=0
 ·obtain⟨h0,hr⟩:=ho.out hw;have hL:=Kh (hx.out h0);have Hq:=Kh hr;generalize s.natAbs%q=t at hL Hq;have HC:=zE hw;clear h0 hr hx ho hu hw;obtain⟨hd,he,hf,hg,hh,hi⟩:=hl.x3;go_upto_region 3 with fail
  clear hd he hf hg hh hi;generalize w2.alloc (.cells #[.bool (sg s),.string (E s.natAbs)] 74)=w3 at hX hK hl h6 hn y2 ⊢;obtain⟨gX,h7⟩:∃g,w2.heap.size=g:=⟨_,rfl⟩;have Hr:Hid (w.heap.size≤gX):=by rw[Hid,←h7];exact HA.out
  rw[h7]at Hp;rw[h7]at hX ⊢;clear h7;replace hX:Blk w3 gX 74 [.bool (sg s),.string (E s.natAbs)]:=hX;have HD:=hX.lt;have HE:=hl.lt;have He:=hn;obtain⟨hd,he,hf,hg,hh,hi⟩:=hl.x3;obtain⟨hq,hM,ht,hN⟩:=hX.x2;have hO:=hl.gcell 0;have hP:=hl.gcell 1;have hQ:=hl.gcell 2;have Hf:=hX.gcell 0;have Hg:=hX.gcell 1;go_wp2_with fail
  refine wp_region_gw_tail 6 (by kernel_rfl) (by kernel_rfl) ?_;simp only[List.take_succ_cons,List.take_zero,List.drop_succ_cons,List.drop_zero];repeat (go_big_quiet_step (first | (go_at_call 185;exact gw_of (hZ.out _ (He.trans ((gw_below _).mono He.size)))) | (go_at_call 260;exact gw_of (hL.out _))))
  refine wpQuiet_nil ?_;rintro w9 ⟨xw9,rfl⟩;have hb9:=gw_below xw9;generalize gw xw9=w9 at hb9;clear hd he hf hg hh hi;clear hq hM ht hN;clear hO hP hQ;clear Hf Hg;have Hs:=hX.after hb9;have Ht:=h6.after hb9;have Hh:=bt hn hb9;have HF:=Hs.lt;have HG:=Ht.lt;have HH:=Hp.out;have HI:¬ gD=gX:=fun e=>HH e.symm
  clear hX h6 hl y2 HD HE He hb9;obtain⟨hR,Hu,hT,Hv⟩:=Hs.x2;obtain⟨hU,Hw,hV,Hx⟩:=Ht.x2;go_wp2;refine bodyPost_ret (v:=.agg #[.bool false,.string (E t)]) ?_ rfl ⟨?_,?_⟩
  ·simp[results,Tryz.results190,go_sem,hR,hT,hU,hV]
  ·rw[Hq.out];simp[sg_nat]
  ·exact (((Hh.setCell Hr.out _).setCell Hr.out _).setCell h5.out _).setCell h5.out _
 ·have hr:=hu.out hw;have HC:=nzE (Nat.pos_of_ne_zero hw);subst hr;clear hx ho hu hw hZ;obtain⟨hd,he,hf,hg,hh,hi⟩:=hl.x3;obtain⟨hq,hM,ht,hN⟩:=hX.x2;obtain⟨hW,Hy,hY,Hz⟩:=h6.x2;go_wp2;refine bodyPost_ret (v:=.agg #[.bool (sg (rr)),.string (E (rr).natAbs)]) ?_ rfl ⟨rfl,?_⟩
  ·simp[results,Tryz.results190,go_sem,hq,ht,hW,hY]
  ·exact (hn.setCell h5.out _).setCell h5.out _
theorem rinr16_c (N:NSta) (Z:List Int) (v1 v2 v3 v4:Value) (w:World) (hm:NOk N) (hS:NAt w v1 v2 v3 N) (hZ:ZsAt w v4 Z) (hz:∀z∈Z,z.natAbs<256^64) (hl:Z.length=N.vars.length) :
  Calls Tryz.prog 88 #[.agg #[v1,v2,v3],v4] w fun e w'=>e=.returned (.bool (ra N.vars.length (inJ N Z)))∧Bw w w':=by
 obtain⟨r,hr⟩:∃r:Bool,r=ra N.vars.length (inJ N Z):=⟨_,rfl⟩;have hi:=Kh hr;rw[←hr];clear hr;have hW:Hid (∀w',Bw w w'→Calls Tryz.prog 185 #[.agg #[v1,v2,v3]] w' fun e w''=>e=.returned (.string (E N.ord))∧Bw w' w''):=fun w' hb=>rorder16_c N v1 v2 v3 w' hm (hS.after hb)
 have Ha:Hid (∀(j:Nat) (h:j<N.vars.length) (x:Int) (l:Nat),x.natAbs<256^64→l<256^16→∀w',Bw w w'→Calls Tryz.prog 188 #[.agg #[v1,v2,v3],.int .i64 (j:Int),.agg #[.bool (sg (x)),.string (E (x).natAbs)],.string (E l)] w' fun e w''=>e=.returned (.bool (blw N.vars[j] x l))∧Bw w' w''):=fun j h x l hx hl w' hb =>
  rbelow_c N v1 v2 v3 j x l w' hm (hS.after hb) h (lt64 hx) (Nl hl P8)
 have HQ:=Kh (ord_lt hm);have He:=Kh hm.v;have Hf:=Kh hz;obtain⟨qo,hX⟩:∃q,q=N.ord:=⟨_,rfl⟩;have Hg:=Kh hX;rw[←hX]at hW HQ;obtain⟨a4,c4,rfl⟩:=hZ.form;rw[hl]at hZ ⊢;have HL:=Kh hl;obtain⟨a1,c1,a2,c2,a3,c3,rfl,rfl,rfl⟩:=hS.forms;obtain⟨n1,hY⟩:∃n,n=N.grps.length:=⟨_,rfl⟩;obtain⟨n2,ho⟩:∃n,n=N.vars.length:=⟨_,rfl⟩;obtain⟨n3,h0⟩:∃n,n=N.eqs.length:=⟨_,rfl⟩;have Hb:=Kh ho;have l2:n2≤12:=by rw[ho];exact hm.nv
 have h1:Hid (∀(j:Nat) (h:j<N.vars.length) (x:Int) (l:Nat),x.natAbs<256^64→l<256^16→∀w',Bw w w'→Calls Tryz.prog 188 #[.agg #[.slice a1 n1 c1,.slice a2 n2 c2,.slice a3 n3 c3],.int .i64 (j:Int),.agg #[.bool (sg (x)),.string (E (x).natAbs)],.string (E l)] w' fun e w''=>e=.returned (.bool (blw N.vars[j] x l))∧Bw w' w''):=by
  rw[hY,ho,h0];exact Ha.out
 rw[←hY,←ho,←h0]at hS hW ⊢;rw[←ho]at hZ;clear hm hY ho h0 hz hl hX Ha;obtain⟨hP,hp⟩:=blk1 w #[.slice a1 n1 c1,.slice a2 n2 c2,.slice a3 n3 c3] 29;replace hS:=hS.after hp;replace hZ:=hZ.after hp;obtain⟨h2,h3,h4,h5,h6,h7⟩:=hP.x3;go_enter Tryz.func88,Tryz.ntmps88
 go_wp2;clear h2 h3 h4 h5 h6 h7;generalize w.alloc (.cells #[.slice a1 n1 c1,.slice a2 n2 c2,.slice a3 n3 c3] 29)=w1 at hP hp hS hZ ⊢;obtain⟨gP,Hc⟩:∃g,w.heap.size=g:=⟨_,rfl⟩;rw[Hc]at hP ⊢;clear Hc;replace hP:Blk w1 gP 29 [.slice a1 n1 c1,.slice a2 n2 c2,.slice a3 n3 c3]:=hP;go_loopw [5] (fun i wr=>∃k:Nat,k≤n2∧i=.int .i64 k∧Hid (ra k (inJ N Z)=true)∧Bw w1 wr) (fun i _=>n2-(intOf i).toNat)
 case atStart=>exact⟨0,by omega,rfl,rfl,Br⟩
 case round =>
  obtain⟨k,hk,rfl,Hd,hq⟩:=hrel;obtain⟨wp,Hh⟩:∃wp,wp=wr:=⟨_,rfl⟩;subst Hh;have he:=bt hp hq;have hu:=hP.after hq;by_cases hlt:k<n2
  ·have hj:k<N.vars.length:=by rw[←Hb.out];exact hlt
   have hU:k<Z.length:=by rw[HL.out];exact hj
   obtain⟨bv,ov,rfl,Hi,x1⟩:=(hS.after hq).vat hj;obtain⟨bz,oz,rfl,hv,z1,z2⟩:=(hZ.after hq).at_ hU;have hw:=Kh (Hf.out _ (Gm hU));have hV:=Kh (He.out _ (Gm hj));have hh:=Kh (inJ_at N Z k hj hU);have hy:=Kh (h1.out k hj);rw[←Hg.out]at hh;have h8:Hid (ra (k+1) (inJ N Z)=inJ N Z k):=by rw[Hid,ra_succ,Hd.out];rfl
   have h9:Hid (inJ N Z k=false→ra N.vars.length (inJ N Z)=false):=fun h=>ra_false hj h
   generalize (N.vars[k]'hj)=vb at x1 hh hV hy;generalize (Z[k]'hU)=lz at z1 z2 hh hw;generalize inJ N Z k=bl at hh h8 h9;have Hk:(0:Int)≤(k:Int):=by omega
   have Hl:(k:Int)<(n2:Int):=by omega
   by_cases ht:vb=0
   ·have hA:Hid (∀w',Bw w w'→Calls Tryz.prog 188 #[.agg #[.slice a1 n1 c1,.slice (some ⟨bv,ov,none⟩) n2 c2,.slice a3 n3 c3],.int .i64 (k:Int),.agg #[.bool (sg (lz)),.string (E (lz).natAbs)],.string (E qo)] w' fun e w''=>e=.returned (.bool bl)∧Bw w' w''):=fun w' hb=>by
     rw[hh.out,if_pos ht];exact hy.out lz qo hw.out (Nl HQ.out P8) w' hb
    have Hj:=zE ht;clear ht hh hy hV hw;obtain⟨hB,hC,hD,hE,hF,hG⟩:=hu.x3;go_wp2_with fail
    refine (hW.out _ he).mono ?_;rintro e w2 ⟨rfl,hn⟩;clear hB hC hD hE hF hG;have hf:=hu.after hn;have hH:=bt hq hn;have q1:=(hn.cell (p:=⟨bz,oz+k*2,none⟩) hv).trans z1;have q2:=(hn.cell (p:=⟨bz,oz+k*2+1,none⟩) hv).trans z2;have hc:=Nl hv hn.size;have hg:=bt he hn;clear z1 z2 hv x1 Hi hn hu;have g1:=gcl (a:=⟨bz,oz+k*2,none⟩) hc q1;have g2:=gcl (a:=⟨bz,oz+k*2+1,none⟩) hc q2;obtain⟨hI,hJ,hK,hL,hM,hN⟩:=hf.x3;have hO:=hf.gcell 0;have hQ:=hf.gcell 1;have hR:=hf.gcell 2;cases bl
    ·have hT:Hid (r=false):=by rw[Hid,hi.out];exact h9.out rfl
     go_upto_region 7 with fail
     go_wp2_with fail
     refine wp_region_gw (by kernel_rfl) (by kernel_rfl) ?_;repeat (go_big_quiet_step (first | (go_at_call 188;exact gw_of (hA.out _ (hg.trans ((gw_below _).mono hg.size))))))
     refine wpQuiet_nil ?_;rintro w7 ⟨xw7,rfl⟩;have hd:=gw_below xw7;generalize gw xw7=w7 at hd;go_wp2;go_ret
     rw[hT.out];exact⟨rfl,bt hp (bt hH hd)⟩
    ·go_upto_region 7 with fail
     go_wp2_with fail
     refine wp_region_gw (by kernel_rfl) (by kernel_rfl) ?_;repeat (go_big_quiet_step (first | (go_at_call 188;exact gw_of (hA.out _ (hg.trans ((gw_below _).mono hg.size))))))
     refine wpQuiet_nil ?_;rintro w7 ⟨xw7,rfl⟩;have hd:=gw_below xw7;generalize gw xw7=w7 at hd;go_wp2;go_roundw
     case rel=>exact⟨k+1,by omega,by go_num,by rw[Hid,h8.out],bt hH hd⟩
     case measure=>simp[intOf];omega
   ·have hA:Hid (∀w',Bw w w'→Calls Tryz.prog 188 #[.agg #[.slice a1 n1 c1,.slice (some ⟨bv,ov,none⟩) n2 c2,.slice a3 n3 c3],.int .i64 (k:Int),.agg #[.bool (sg (lz)),.string (E (lz).natAbs)],.string (E vb)] w' fun e w''=>e=.returned (.bool bl)∧Bw w' w''):=fun w' hb=>by
     rw[hh.out,if_neg ht];exact hy.out lz vb hw.out hV.out w' hb
    have Hj:=nzE (Nat.pos_of_ne_zero ht);clear ht hh hy hV hw;have hf:=hu;have hH:=hq;have q1:=z1;have q2:=z2;have hc:=hv;have hg:=he;clear z1 z2 hu;have g1:=gcl (a:=⟨bz,oz+k*2,none⟩) hc q1;have g2:=gcl (a:=⟨bz,oz+k*2+1,none⟩) hc q2;obtain⟨hI,hJ,hK,hL,hM,hN⟩:=hf.x3;have hO:=hf.gcell 0;have hQ:=hf.gcell 1;have hR:=hf.gcell 2;cases bl
    ·have hT:Hid (r=false):=by rw[Hid,hi.out];exact h9.out rfl
     go_upto_region 7 with fail
     go_wp2_with fail
     refine wp_region_gw (by kernel_rfl) (by kernel_rfl) ?_;repeat (go_big_quiet_step (first | (go_at_call 188;exact gw_of (hA.out _ (hg.trans ((gw_below _).mono hg.size))))))
     refine wpQuiet_nil ?_;rintro w7 ⟨xw7,rfl⟩;have hd:=gw_below xw7;generalize gw xw7=w7 at hd;go_wp2;go_ret
     rw[hT.out];exact⟨rfl,bt hp (bt hH hd)⟩
    ·go_upto_region 7 with fail
     go_wp2_with fail
     refine wp_region_gw (by kernel_rfl) (by kernel_rfl) ?_;repeat (go_big_quiet_step (first | (go_at_call 188;exact gw_of (hA.out _ (hg.trans ((gw_below _).mono hg.size))))))
     refine wpQuiet_nil ?_;rintro w7 ⟨xw7,rfl⟩;have hd:=gw_below xw7;generalize gw xw7=w7 at hd;go_wp2;go_roundw
     case rel=>exact⟨k+1,by omega,by go_num,by rw[Hid,h8.out],bt hH hd⟩
     case measure=>simp[intOf];omega
  ·obtain rfl:n2=k:=by omega
   have hT:Hid (r=true):=by rw[Hid,hi.out,←Hb.out];exact Hd.out
   go_wp2;go_ret
   rw[hT.out];exact⟨rfl,he⟩
end
section
open Go.RowKit Go.Shelf
theorem blw_nn {x:Int} {l:Nat} (h:blw 0 x l=true):0≤x:=by
 apply Classical.byContradiction
 intro hn;unfold blw at h;rw[sg_of_neg (by omega),show vz 0=true from rfl]at h;simp at h
theorem rresp_num (N:NSta) (C K c:Nat) (W M:List Int) (v1 v2 v3 vw vm:Value) (w:World) (hC:C<256^16) (hK:K<256^16) (hm:NOk N) (hS:NAt w v1 v2 v3 N)
  (ju:∀w',Bw w w'→Calls Tryz.prog 84 #[.agg #[.string (E C),.string (E K)],.agg #[v1,v2,v3]] w' (B2Post w' (N.lims C K)))
  (hW:ZsAt w vw W) (hM:ZsAt w vm M) (hc:c<256^100) (HQ:W.length≤1000) (HR:M.length≤1000) (HF:∀z∈W,z.natAbs<256^64) (HS:∀z∈M,z.natAbs<256^64) (HT:N.vars.any vz=true→0<N.ord) :
  Calls Tryz.prog 90 #[.agg #[.string (E C),.string (E K)],.agg #[v1,v2,v3],vw,vm,.string (E c)] w (EPost w (N.rspE C K c W M) (N.rspR C K c W M)):=by
 obtain⟨r,hr⟩:∃r:Nat,r=N.rspE C K c W M:=⟨_,rfl⟩;obtain⟨rl,HU⟩:∃r,r=N.rspR C K c W M:=⟨_,rfl⟩;have h0:=Kh hr;have HV:=Kh HU;rw[←hr,←HU];clear hr HU;have Hd:Hid (∀k,N.rspE C K c W M=k→k≠0→r=k∧rl=[]):=fun k h hk=>⟨h0.out.trans h,HV.out.trans (rspR_e h hk)⟩
 have HW:=Kh ju
 have h6:∀(Z:List Int) (v:Value),(∀z∈Z,z.natAbs<256^64)→Z.length≤1000→ZsAt w v Z→∀w',Bw w w'→Calls Tryz.prog 85 #[v] w' fun e w''=>e=.returned (.bool true)∧Bw w' w'':=fun Z v hz hn hv w' hb =>
  rformedV_c (Z.map zI) v true w' (by rw[List.length_map];exact hn) (fun x hx=>by obtain⟨z,HY,rfl⟩:=List.mem_map.1 hx;exact Nat.le_trans ((E_size_le _ 64).2 (hz z HY)) (by decide)) (hv.after hb) (by rw[List.all_map,List.all_eq_true];intro z HY;exact ivB_I z (lt64 (hz z HY)))
 have H0:=Kh (h6 W vw HF HQ hW);have H1:=Kh (h6 M vm HS HR hM);have jv:Hid (∀w,Calls Tryz.prog 86 #[.string (E c)] w fun e w'=>e=.returned (.bool true)∧w=w'):=fun w=>rvalidE_c c w (Nl hc P8)
 have He:Hid (∀w,Calls Tryz.prog 87 #[.string (E c),.string (E C)] w fun e w'=>e=.returned (.int .i64 (cmpN c C))∧Bw w w'):=fun w=>rorder_c c C w (Nat.le_trans ((E_size_le _ 100).2 hc) (by decide)) (Nat.le_trans ((E_size_le _ 16).2 hC) (by decide))
 obtain⟨bi,H2⟩:∃b:Bool,b=ra N.vars.length (inJ N W):=⟨_,rfl⟩;have HG:=Kh H2;have HH:Hid (W.length=N.vars.length→∀w',Bw w w'→Calls Tryz.prog 88 #[.agg #[v1,v2,v3],vw] w' fun e w''=>e=.returned (.bool bi)∧Bw w' w''):=fun h w' hb=>by rw[H2];exact rinr16_c N W v1 v2 v3 vw w' hm (hS.after hb) (hW.after hb) HF h
 have jw:Hid (∀(j:Nat) (h:j<N.vars.length) (x:Int) (l:Nat),x.natAbs<256^128→l<256^64→∀w',Bw w w'→Calls Tryz.prog 188 #[.agg #[v1,v2,v3],.int .i64 (j:Int),.agg #[.bool (sg (x)),.string (E (x).natAbs)],.string (E l)] w' fun e w''=>e=.returned (.bool (blw N.vars[j] x l))∧Bw w' w''):=fun j h x l hx hl w' hb =>
  rbelow_c N v1 v2 v3 j x l w' hm (hS.after hb) h hx (lt64 hl)
 have jx:Hid (c<C→∀(j:Nat) (h:j<N.vars.length) (m z:Int),m.natAbs<256^64→z.natAbs<256^64→(N.vars[j]=0→0≤m∧0≤z)→∀w',Bw w w'→Calls Tryz.prog 190 #[.agg #[v1,v2,v3],.int .i64 (j:Int),.agg #[.bool (sg (m)),.string (E (m).natAbs)],.string (E c),.agg #[.bool (sg (z)),.string (E (z).natAbs)]] w' fun e w''=>e=.returned (.agg #[.bool (sg (rspI N.ord N.vars[j] c m z)),.string (E (rspI N.ord N.vars[j] c m z).natAbs)])∧Bw w' w''):=fun H3 j h m z h1 h2 h3 w' hb =>
  rresp16_c N v1 v2 v3 j c m z w' hm (hS.after hb) h h1 h2 (Nat.lt_trans H3 (Nl hC P8)) (fun e=>⟨(h3 e).1,(h3 e).2,HT (by rw[List.any_eq_true];exact⟨_,Gm h,by rw[e];rfl⟩)⟩)
 have jy:Hid (c<C→∀(j:Nat) (h:j<N.vars.length) (m z:Int),m.natAbs<256^64→z.natAbs<256^64→(rspI N.ord N.vars[j] c m z).natAbs<256^128):=fun H3 j h m z h1 h2=>by
  have hV:c<256^16:=Nat.lt_trans H3 hC;have hz:(m+(c:Int)*z).natAbs<256^128:=nab_add (n:=80) (Nl h1 P8) (by rw[nab_mul];exact mul_lt_pw hV h2 (by decide)) (by decide);unfold rspI;split
  ·rename_i e;have hq:=HT (by rw[List.any_eq_true];exact⟨_,Gm h,by rw[e];rfl⟩);have h3:=Int.emod_nonneg (m+(c:Int)*z) (show (N.ord:Int)≠0 by omega);have h4:=Int.emod_lt_of_pos (m+(c:Int)*z) (show (0:Int)<N.ord by omega);have h5:=lt128 (ord_lt hm);generalize (256:Nat)^128=y at h5;omega
  ·exact hz
 have jZ:Hid (∀(j:Nat) (h:j<N.vars.length),(lim N.ord C K N.vars[j]).2<256^64):=fun j h=>Nl (lim_lt hm hC hK (Gm h)) P8
 have j0:=Kh HF
 have j1:Hid (∀(j:Nat) (h:j<N.vars.length),(lim N.ord C K N.vars[j]).1<256^64):=fun j h=>by
  unfold lim;split
  ·exact Nl (ord_lt hm) P8
  ·exact Nl (lt_mul3 hC hK (hm.v _ (Gm h))).2 P8
 have jz:=Kh HS;obtain⟨a4,c4,rfl⟩:=hW.form;obtain⟨a5,c5,rfl⟩:=hM.form;obtain⟨nw,HI⟩:∃n,n=W.length:=⟨_,rfl⟩;obtain⟨nm,HJ⟩:∃n,n=M.length:=⟨_,rfl⟩;have H4:=Kh HI;have HK:=Kh HJ;rw[←HI]at hW H0 HH ⊢;rw[←HJ]at hM H1 ⊢;obtain⟨a1,c1,a2,c2,a3,c3,rfl,rfl,rfl⟩:=hS.forms;obtain⟨n1,Hf⟩:∃n,n=N.grps.length:=⟨_,rfl⟩;obtain⟨n2,h7⟩:∃n,n=N.vars.length:=⟨_,rfl⟩;obtain⟨n3,Hg⟩:∃n,n=N.eqs.length:=⟨_,rfl⟩;have hE:=Kh h7;have l2:n2≤12:=by rw[h7];exact hm.nv
 have lw:nw≤1000:=by rw[HI];exact HQ
 have lm:nm≤1000:=by rw[HJ];exact HR
 have Hh:Hid (∀(j:Nat) (h:j<N.vars.length) (x:Int) (l:Nat),x.natAbs<256^128→l<256^64→∀w',Bw w w'→Calls Tryz.prog 188 #[.agg #[.slice a1 n1 c1,.slice a2 n2 c2,.slice a3 n3 c3],.int .i64 (j:Int),.agg #[.bool (sg (x)),.string (E (x).natAbs)],.string (E l)] w' fun e w''=>e=.returned (.bool (blw N.vars[j] x l))∧Bw w' w''):=by
  rw[Hf,h7,Hg];exact jw.out
 have Hi:Hid (c<C→∀(j:Nat) (h:j<N.vars.length) (m z:Int),m.natAbs<256^64→z.natAbs<256^64→(N.vars[j]=0→0≤m∧0≤z)→∀w',Bw w w'→Calls Tryz.prog 190 #[.agg #[.slice a1 n1 c1,.slice a2 n2 c2,.slice a3 n3 c3],.int .i64 (j:Int),.agg #[.bool (sg (m)),.string (E (m).natAbs)],.string (E c),.agg #[.bool (sg (z)),.string (E (z).natAbs)]] w' fun e w''=>e=.returned (.agg #[.bool (sg (rspI N.ord N.vars[j] c m z)),.string (E (rspI N.ord N.vars[j] c m z).natAbs)])∧Bw w' w''):=by
  rw[Hf,h7,Hg];exact jx.out
 clear jw jx;rw[←Hf,←h7,←Hg]at hS HW ⊢;rw[←Hf,←h7,←Hg]at HH;clear H2 hm Hf h7 Hg HI HJ hC hK hc ju h6 HQ HR HF HS HT;obtain⟨hR,hP,he⟩:=blk2 w #[.string (E C),.string (E K)] #[.slice a1 n1 c1,.slice a2 n2 c2,.slice a3 n3 c3] 24 29;replace hS:=hS.after he;replace hM:=hM.after he;replace hW:=hW.after he;obtain⟨hF,hG,hH,hI⟩:=hR.x2;obtain⟨hg,hh,hi,ho,hp,ht⟩:=hP.x3;go_enter Tryz.func90,Tryz.ntmps90
 go_wp2_with fail
 refine (HW.out _ he).mono ?_;rintro e w2 ⟨lv,lu,rfl,jA,jB,h8⟩;have hL:=jA.ss;have hU:=jB.ss;clear jA jB;clear hF hG hH hI;clear hg hh hi ho hp ht;replace hR:=hR.after h8;replace hP:=hP.after h8;replace hS:=hS.after h8;replace hM:=hM.after h8;replace he:=bt he h8;replace hW:=hW.after h8;clear h8 HW;obtain⟨a6,c6,rfl⟩:=RAt.form hL;obtain⟨a7,c7,rfl⟩:=RAt.form hU;have jC:Hid ((((N.lims C K).map (·.1)).map E).length=n2):=by rw[Hid,List.length_map,List.length_map,NSta.lims,List.length_map,hE.out]
 have jD:Hid ((((N.lims C K).map (·.2)).map E).length=n2):=by rw[Hid,List.length_map,List.length_map,NSta.lims,List.length_map,hE.out]
 rw[jC.out]at hL ⊢;rw[jD.out]at hU ⊢;go_wp2_with fail
 refine (H0.out _ he).mono ?_;rintro e w3 ⟨rfl,hJ⟩;replace hR:=hR.after hJ;replace hP:=hP.after hJ;replace hS:=hS.after hJ;replace hM:=hM.after hJ;replace hL:=SsAt.after hL hJ;replace hU:=SsAt.after hU hJ;replace hW:=hW.after hJ;replace he:=bt he hJ;clear hJ H0;go_wp2_with fail
 refine (H1.out _ he).mono ?_;rintro e w4 ⟨rfl,hb4⟩;replace hR:=hR.after hb4;replace hP:=hP.after hb4;replace hS:=hS.after hb4;replace hM:=hM.after hb4;replace hL:=SsAt.after hL hb4;replace hU:=SsAt.after hU hb4;replace hW:=hW.after hb4;replace he:=bt he hb4;clear hb4 H1;go_wp2_with fail
 refine (jv.out _).mono ?_;rintro e w' ⟨rfl,rfl⟩;clear jv;by_cases H5:nw=n2∧nm=n2
 ·obtain⟨e1,e2⟩:=H5;have HL:Hid (W.length=N.vars.length):=by rw[Hid,←H4.out,←hE.out];exact e1
  have HM:Hid (M.length=N.vars.length):=by rw[Hid,←HK.out,←hE.out];exact e2
  have e3:nw=nm:=e1.trans e2.symm;subst e1;clear e2;subst e3;rcases Nat.lt_or_ge c C with hV | H6
  ·have j2:=cmp_neg c C hV;have hA:¬ 0≤cmpN c C:=by omega
   have hd:decide (0≤cmpN c C)=false:=decide_eq_false hA;have hN:=Kh hV;clear hV j2;generalize cmpN c C=q at He hd hA;have Hj:=Kh (HH.out rfl);have H7:=Kh (Hi.out hN.out);have H8:=Kh (jy.out hN.out);clear HH Hi jy;obtain⟨hF,hG,hH,hI⟩:=hR.x2;obtain⟨hg,hh,hi,ho,hp,ht⟩:=hP.x3;go_wp2_with fail
   refine (He.out _).mono ?_;rintro e wo ⟨rfl,hB⟩;clear hF hG hH hI;clear hg hh hi ho hp ht;replace hR:=hR.after hB;replace hP:=hP.after hB;replace hS:=hS.after hB;replace hM:=hM.after hB;replace hL:=SsAt.after hL hB;replace hU:=SsAt.after hU hB;replace hW:=hW.after hB;replace he:=bt he hB;clear He hB;obtain⟨hg,hh,hi,ho,hp,ht⟩:=hP.x3;have jE:Hid (bi=false→r=2∧rl=[]):=fun h=>Hd.out 2 (rspE_w HL.out HM.out hN.out (HG.out.symm.trans h)) (by decide)
   have Hk:Hid (bi=true→ra N.vars.length (mkJ N C K M)=false→r=2∧rl=[]):=fun h h'=>Hd.out 2 (rspE_m HL.out HM.out hN.out (HG.out.symm.trans h) h') (by decide)
   have jF:Hid (bi=true→ra N.vars.length (mkJ N C K M)=true→r=N.rsp2 C K c W M∧rl=N.rspR2 C K c W M):=fun h h'=>by
    have e:=rspE_r (K:=K) HL.out HM.out hN.out (HG.out.symm.trans h) h';exact⟨h0.out.trans e.1,HV.out.trans e.2⟩
   go_wp2_with fail
   refine (Hj.out _ he).mono ?_;rintro e w5 ⟨rfl,hQ⟩;clear hg hh hi ho hp ht;replace hR:=hR.after hQ;replace hP:=hP.after hQ;replace hS:=hS.after hQ;replace hM:=hM.after hQ;replace hL:=SsAt.after hL hQ;replace hU:=SsAt.after hU hQ;replace hW:=hW.after hQ;replace he:=bt he hQ;clear hQ Hj;cases bi
   ·have HX:=Kh (jE.out rfl);go_wp2;go_ret2
    rw[HX.out.1,HX.out.2];exact epost_err rfl he
   ·have Hl:=Kh (Hk.out rfl);have Hm:=Kh (jF.out rfl);clear jE Hk jF Hd h0 HV hd hA hR;obtain⟨hg,hh,hi,ho,hp,ht⟩:=hP.x3;go_wp2;clear hg hh hi ho hp ht;have Jr:=he.size;go_loopw [15] (fun i wr=>∃k:Nat,k≤nw∧i=.int .i64 k∧Hid (∀j,j<k→mkJ N C K M j=true)∧Bw w5 wr) (fun i _=>nw-(intOf i).toNat)
    case atStart=>exact⟨0,by omega,rfl,fun j h=>absurd h (Nat.not_lt_zero _),Br⟩
    case round =>
     obtain⟨k,hk,rfl,HA,hw⟩:=hrel;obtain⟨wq,j3⟩:∃wp,wp=wr:=⟨_,rfl⟩;subst j3;replace he:=bt he hw;replace hP:=hP.after hw;replace hL:=SsAt.after hL hw;replace hU:=SsAt.after hU hw;replace hW:=hW.after hw;replace hM:=hM.after hw;by_cases hlt:k<nw
     ·have hf:k<N.vars.length:=by rw[←hE.out];exact hlt
      have hu:k<M.length:=by rw[←HK.out];exact hlt
      have j4:k<(((N.lims C K).map (·.1)).map E).length:=by rw[jC.out];exact hlt
      have jG:=Kh (mkJ_at N C K M k hf hu);obtain⟨b',o',rfl,Hn,y1,y2⟩:=hM.at_ hu;obtain⟨b6,o6,rfl,H9,z1⟩:=SsAt.at_ hL j4;rw[show (((N.lims C K).map (·.1)).map E)[k]=E (lim N.ord C K (N.vars[k]'hf)).1 by simp[NSta.lims]]at z1;have jH:=Kh (j1.out k hf);have jI:=Kh (jz.out _ (Gm hu))
      have hD:Hid (∀w',Bw wq w'→Calls Tryz.prog 188 #[.agg #[.slice a1 n1 c1,.slice a2 nw c2,.slice a3 n3 c3],.int .i64 (k:Int),.agg #[.bool (sg ((M[k]'hu))),.string (E ((M[k]'hu)).natAbs)],.string (E (lim N.ord C K (N.vars[k]'hf)).1)] w' fun e w''=>e=.returned (.bool (mkJ N C K M k))∧Bw w' w''):=fun w' hb=>by
       rw[jG.out];exact Hh.out k hf _ _ (lt64 jI.out) jH.out w' (bt he hb)
      generalize (lim N.ord C K (N.vars[k]'hf)).1=la at z1 hD;generalize (M[k]'hu)=zz at y1 y2 hD;have jJ:Hid (mkJ N C K M k=false→r=2∧rl=[]):=fun h=>Hl.out (ra_false hf h)
      have HX:Hid (mkJ N C K M k=true→∀j,j<k+1→mkJ N C K M j=true):=fun h j hj=>by
       by_cases e:j=k
       ·rw[e];exact h
       ·exact HA.out j (by omega)
      generalize mkJ N C K M k=bl at hD jJ HX;clear jG jH jI;have j5:(0:Int)≤(k:Int):=by omega
      have j6:(k:Int)<(nw:Int):=by omega
      have g1:=gcl (a:=⟨b',o'+k*2,none⟩) Hn y1;have g2:=gcl (a:=⟨b',o'+k*2+1,none⟩) Hn y2;have g3:=gcl (a:=⟨b6,o6+k,none⟩) H9 z1;obtain⟨hg,hh,hi,ho,hp,ht⟩:=hP.x3;have j7:=hP.gcell 0;have j8:=hP.gcell 1;have j9:=hP.gcell 2;cases bl
      ·have HN:=Kh (jJ.out rfl);go_upto_region 13 with fail
       go_wp2_with fail
       refine wp_region_gw (by kernel_rfl) (by kernel_rfl) ?_;repeat (go_big_quiet_step (first | (go_at_call 188;exact gw_of (hD.out _ (gw_below _)))))
       refine wpQuiet_nil ?_;rintro w7 ⟨xw7,rfl⟩;have Ho:=gw_below xw7;generalize gw xw7=w7 at Ho;go_wp2;go_ret2
       rw[HN.out.1,HN.out.2];exact epost_err rfl (bt he Ho)
      ·have HN:=Kh (HX.out rfl);go_upto_region 13 with fail
       go_wp2_with fail
       refine wp_region_gw (by kernel_rfl) (by kernel_rfl) ?_;repeat (go_big_quiet_step (first | (go_at_call 188;exact gw_of (hD.out _ (gw_below _)))))
       refine wpQuiet_nil ?_;rintro w7 ⟨xw7,rfl⟩;have Ho:=gw_below xw7;generalize gw xw7=w7 at Ho;go_wp2;go_roundw
       case rel=>exact⟨k+1,by omega,by go_num,HN.out,bt hw Ho⟩
       case measure=>simp[intOf];omega
     ·have jK:Hid (ra N.vars.length (mkJ N C K M)=true):=ra_true fun j hj=>HA.out j (by have:=hE.out;omega)
      have HX:=Kh (Hm.out jK.out);obtain⟨i1,jL,Hp,Hq,Hr⟩:=info_parts info_Int;have Ja:=Kh jL;have Jb:=Kh Hp;have Jc:=Kh Hq;have Jd:=Kh Hr;clear jL Hp Hq Hr Hl Hm HA hw;obtain⟨hg,hh,hi,ho,hp,ht⟩:=hP.x3;go_wp2;clear hg hh hi ho hp ht;go_loopw [16,17] (fun v16 i wr=>∃k:Nat,k≤nw∧i=.int .i64 k∧Hid (∀j,j<k→rsJ N C K c W M j=true)∧ZOwn wr wq.heap.size v16 ((N.rspL c W M).take k)∧Bw wq wr) (fun _ i _=>nw-(intOf i).toNat)
      case atStart=>exact⟨0,by omega,rfl,fun j h=>absurd h (Nat.not_lt_zero _),World.ownsRow_nil _ _ _ _,Br⟩
      case round =>
       clear hlt hk;obtain⟨k,hk,rfl,ja,hO,hw⟩:=hrel;obtain⟨wp,Je⟩:∃wp,wp=wr:=⟨_,rfl⟩;subst Je;have hT:=bt he hw;have h9:=hP.after hw;by_cases hlt:k<nw
       ·have hf:k<N.vars.length:=by rw[←hE.out];exact hlt
        have hu:k<M.length:=by rw[←HK.out];exact hlt
        have hy:k<W.length:=by rw[←H4.out];exact hlt
        have Jf:k<(((N.lims C K).map (·.2)).map E).length:=by rw[jD.out];exact hlt
        have jb:=Kh (rsp_step N c W M k hf hu hy);have Hk:=Kh (rsJ_at N C K c W M k hf hu hy);obtain⟨bz,oz,rfl,jc,z1,z2⟩:=(hW.after hw).at_ hy;obtain⟨by_,oy,rfl,jd,y1,y2⟩:=(hM.after hw).at_ hu;obtain⟨bu,ou,rfl,HO,u1⟩:=SsAt.at_ (SsAt.after hU hw) Jf;rw[show (((N.lims C K).map (·.2)).map E)[k]=E (lim N.ord C K (N.vars[k]'hf)).2 by simp[NSta.lims]]at u1;have je:=Kh (j0.out _ (Gm hy));have jf:=Kh (jz.out _ (Gm hu))
        have jM:N.vars[k]'hf=0→0≤M[k]'hu∧0≤W[k]'hy:=fun e=>by
         have g1:=ra_at jK.out hf;have g2:=ra_at (HG.out.symm) hf;rw[mkJ_at N C K M k hf hu,e]at g1;rw[inJ_at N W k hf hy,e]at g2;exact⟨blw_nn g1,blw_nn g2⟩
        have Hs:Hid (∀w',Bw wp w'→Calls Tryz.prog 190 #[.agg #[.slice a1 n1 c1,.slice a2 nw c2,.slice a3 n3 c3],.int .i64 (k:Int),.agg #[.bool (sg ((M[k]'hu))),.string (E ((M[k]'hu)).natAbs)],.string (E c),.agg #[.bool (sg ((W[k]'hy))),.string (E ((W[k]'hy)).natAbs)]] w' fun e w''=>e=.returned (.agg #[.bool (sg (rspI N.ord (N.vars[k]'hf) c (M[k]'hu) (W[k]'hy))),.string (E (rspI N.ord (N.vars[k]'hf) c (M[k]'hu) (W[k]'hy)).natAbs)])∧Bw w' w''):=fun w' hb=>H7.out k hf _ _ jf.out je.out jM w' (bt hT hb)
        have hD:Hid (∀w',Bw wp w'→Calls Tryz.prog 188 #[.agg #[.slice a1 n1 c1,.slice a2 nw c2,.slice a3 n3 c3],.int .i64 (k:Int),.agg #[.bool (sg (rspI N.ord (N.vars[k]'hf) c (M[k]'hu) (W[k]'hy))),.string (E (rspI N.ord (N.vars[k]'hf) c (M[k]'hu) (W[k]'hy)).natAbs)],.string (E (lim N.ord C K (N.vars[k]'hf)).2)] w' fun e w''=>e=.returned (.bool (rsJ N C K c W M k))∧Bw w' w''):=fun w' hb=>by
         rw[Hk.out];exact Hh.out k hf _ _ (H8.out k hf _ _ jf.out je.out) (jZ.out k hf) w' (bt hT hb)
        have jg:Hid (rsJ N C K c W M k=false→r=15∧rl=[]):=fun h=>by
         have e:=rsp2_15 (N:=N) (C:=C) (K:=K) (c:=c) (W:=W) (M:=M) (ra_false hf h);exact⟨HX.out.1.trans e.1,HX.out.2.trans e.2⟩
        have jh:Hid (rsJ N C K c W M k=true→∀j,j<k+1→rsJ N C K c W M j=true):=fun h j hj=>by
         by_cases e:j=k
         ·rw[e];exact h
         ·exact ja.out j (by omega)
        clear ja Hk jM je jf;generalize rsJ N C K c W M k=bl at hD jg jh;generalize rspI N.ord (N.vars[k]'hf) c (M[k]'hu) (W[k]'hy)=dz at Hs hD jb;generalize (lim N.ord C K (N.vars[k]'hf)).2=lb at u1 hD;generalize (W[k]'hy)=lz at z1 z2 Hs;generalize (M[k]'hu)=ly at y1 y2 Hs;have ji:Hid (((N.rspL c W M).take k).length=k):=by rw[Hid,List.length_take,NSta.rspL,List.length_map,List.length_range];omega
        generalize (N.rspL c W M).take k=LI at hO jb ji;replace hO:wp.ownsRow wq.heap.size 74 2 u16 k (ics (LI.map zI)):=by have h:wp.ownsRow _ _ _ _ _ _:=hO;rw[ji.out]at h;exact h
        have j5:(0:Int)≤(k:Int):=by omega
        have j6:(k:Int)<(nw:Int):=by omega
        have Hb:=h9.lt;have jN:=h9.cell 0;have jO:=h9.cell 1;have jP:=h9.cell 2;go_upto_region 19 with fail
        obtain⟨cl,hV⟩:∃l:List (Addr × Value),l=[(⟨w.heap.size+1,0,none⟩,.slice a1 n1 c1),(⟨w.heap.size+1,1,none⟩,.slice a2 nw c2),(⟨w.heap.size+1,2,none⟩,.slice a3 n3 c3),(⟨by_,oy+k*2,none⟩,.bool (sg ly)),(⟨by_,oy+k*2+1,none⟩,.string (E ly.natAbs)),(⟨bz,oz+k*2,none⟩,.bool (sg lz)),(⟨bz,oz+k*2+1,none⟩,.string (E lz.natAbs))]:=⟨_,rfl⟩;have hN:=Kh hV;clear hV
        have hC:CA wp cl:=by
         rw[hN.out];exact (CA.cons Hb jN (CA.cons Hb jO (CA.cons Hb jP (CA.cons jd y1 (CA.cons jd y2 (CA.cons jc z1 (CA.cons jc z2 (CA.nil _))))))))
        have Ht:=fun x hx=>Nat.ne_of_lt (hC x hx).1
        go_cut [18] (fun s18 wx=>ZBx wp (.bool (sg dz)) (.string (E dz.natAbs)) s18 wx)
        case first =>
         clear h9 u1 HO hO hw hT
         go_region_held3 (fun w'=>w'.cell? ⟨w.heap.size+1,0,none⟩=some (.slice a1 n1 c1)∧w'.cell? ⟨w.heap.size+1,1,none⟩=some (.slice a2 nw c2)∧w'.cell? ⟨w.heap.size+1,2,none⟩=some (.slice a3 n3 c3)∧w'.cell? ⟨by_,oy+k*2,none⟩=some (.bool (sg ly))∧w'.cell? ⟨by_,oy+k*2+1,none⟩=some (.string (E ly.natAbs))∧w'.cell? ⟨bz,oz+k*2,none⟩=some (.bool (sg lz))∧w'.cell? ⟨bz,oz+k*2+1,none⟩=some (.string (E lz.natAbs))) ((refine CA.k7 ?_;rw[←hN.out];repeat (first | (with_reducible exact jQ) | (with_reducible exact Jg) | (with_reducible exact hC) | (with_reducible refine CA.drew ?_) | (with_reducible refine CA.alloc ?_ _) | (refine CA.set ?_ _ _ _ Ht) | (refine CA.set ?_ _ _ _ (fun x hx=>Nat.ne_of_lt (Jg x hx).1)) | (refine CA.set ?_ _ _ _ (fun x hx=>Nat.ne_of_lt (jQ x hx).1)))))
          ((go_at_call 190;(with_reducible refine (Hs.out _ (by first | exact Below.drew (Below.refl wp.heap.size wp) | exact (b1 wp _).drew | exact b1 wp.drew _)).mono ?_);rintro e wd ⟨rfl,hbd⟩;have jQ:CA wd cl:=(by first | exact hC.drew.after hbd | exact (hC.alloc _).drew.after hbd | exact (hC.drew.alloc _).after hbd);(try (have HP:Bw wp wd:=(Below.drew Br).trans hbd));(try (have HP:Bw wp wd:=bt ((b1 wp _).drew) hbd));(try (have kD:=(Blk.new wp #[.bool false,.string { data:=#[] }] 74).drew.after hbd;have kDc0:=kD.cell 0;have kDc1:=kD.cell 1;have kDf0:=kD.free 0;have kDf1:=kD.free 1))))
         all_goals
          go_wp2_with fail
          go_meet
          first
           | exact⟨_,rfl,Blk.new _ _ _,HP.size,ba HP _⟩
           | exact⟨_,rfl,(kD.set 0 _).set 1 _,Nat.le_refl _,(HP.setCell (by simp) _).setCell (by simp) _⟩
        case rest =>
        clear hC Ht hN;obtain⟨gx,rfl,hX,jR,hb4⟩:=hcut;have Jh:=Kh jR;clear jR;obtain⟨wy,Ji⟩:∃wy,wy=wc:=⟨_,rfl⟩;subst Ji;have jj:=bt hw hb4;have jS:=own_after hO hb4;have Hc:=h9.after hb4;have uu1:=(hb4.cell (p:=⟨bu,ou+k,none⟩) HO).trans u1;have ku:=Nl HO hb4.size;have jk:Hid (∀w',Bw wy w'→Calls Tryz.prog 188 #[.agg #[.slice a1 n1 c1,.slice a2 nw c2,.slice a3 n3 c3],.int .i64 (k:Int),.agg #[.bool (sg (dz)),.string (E (dz).natAbs)],.string (E lb)] w' fun e w''=>e=.returned (.bool bl)∧Bw w' w''):=fun w' hb=>hD.out w' (bt hb4 hb)
        clear hb4 hO u1 HO z1 z2 y1 y2 jc jd hD Hs Hb jN jO jP h9 Jh;have g1:=gcl (a:=⟨bu,ou+k,none⟩) ku uu1;have Jj:=hX.lt;have Hb:=Hc.lt;obtain⟨jl,jm,jn,jo⟩:=hX.x2;obtain⟨Hu,Hv,Hw,Hx,Hy,Hz⟩:=Hc.x3;have jp:=hX.gcell 0;have jq:=hX.gcell 1;have HB:=Hc.gcell 0;have HC:=Hc.gcell 1;have HD:=Hc.gcell 2;cases bl
        ·have HZ:=Kh (jg.out rfl);go_upto_region 20 with fail
         go_wp2_with fail
         refine wp_region_gw (by kernel_rfl) (by kernel_rfl) ?_;repeat (go_big_quiet_step (first | (go_at_call 188;exact gw_of (jk.out _ (gw_below _)))))
         refine wpQuiet_nil ?_;rintro w6 ⟨xw6,rfl⟩;have hY:=gw_below xw6;generalize gw xw6=w6 at hY;go_wp2;go_ret2
         rw[HZ.out.1,HZ.out.2];exact epost_err rfl (bt he (bt jj hY))
        ·have jr:=Kh (jh.out rfl);go_upto_region 20 with fail
         go_wp2_with fail
         refine wp_region_gw (by kernel_rfl) (by kernel_rfl) ?_;repeat (go_big_quiet_step (first | (go_at_call 188;exact gw_of (jk.out _ (gw_below _)))))
         refine wpQuiet_nil ?_;rintro w6 ⟨xw6,rfl⟩;have hY:=gw_below xw6;generalize gw xw6=w6 at hY;clear jl jm jn jo;clear Hu Hv Hw Hx Hy Hz;clear jp jq;clear HB HC HD;have jT:=hX.after hY;have js:(w6).ownsRow wq.heap.size 74 2 u16 k (ics (LI.map zI)):=own_after jS hY;have Ha:=bt jj hY;clear jS jj hY g1 hX Jj Hb Hc uu1 ku jk jg jh;have Jk:=Ha.size;have Jl:=jT.lt;obtain⟨jU,jV,jW,jX⟩:=jT.x2;go_wp2_with (at_builtin;refine wpList_append_lies _ rfl (.tmp 112) (.tmp 114) _ rfl wq.heap.size 74 i1 _ 2 24 Tryz.underlying30 Ja.out Jb.out Jc.out Jd.out rfl (by omega) u16 k (ics (LI.map zI)) rfl (own_after js (b1 _ (.cells #[.bool (sg dz),.string (E dz.natAbs)] 74))) ⟨(w6).heap.size,0,none⟩ 1 1 [.bool (sg dz),.string (E dz.natAbs)] rfl rfl (Blk.new (w6) #[.bool (sg dz),.string (E dz.natAbs)] 74).cells (by simp[Value.oneCell']) (by omega) (by simp only[maxLen];omega) (by omega) (by rw[World.size_alloc];omega) ((w6).heap.size+1) (by simp) ?_;intro ga ca' wz HE hZ Jm jt)
         have jY:ZOwn wz wq.heap.size (.slice (some ⟨ga,0,none⟩) (k+1) ca') (LI++[dz]):=by rw[ZOwn,List.length_append,ji.out,←ics_app];exact HE
         rw[←jb.out]at jY;have Jn:=(ba Ha (.cells #[.bool (sg dz),.string (E dz.natAbs)] 74)).grown hZ (by rw[World.size_alloc];omega) (fun x hx=>(own_lt js hx).2);clear HE hZ Jm jt js Ha;go_wp2;go_roundw
         case rel=>exact⟨k+1,by omega,by go_num,jr.out,jY,Jn⟩
         case measure=>simp[intOf];omega
       ·have e:=rsp2_0 (N:=N) (C:=C) (K:=K) (c:=c) (W:=W) (M:=M) (ra_true fun j hj=>ja.out j (by have:=hE.out;omega));have HZ:Hid (r=0∧rl=N.rspL c W M):=⟨HX.out.1.trans e.1,HX.out.2.trans e.2⟩;have Jo:Hid ((N.rspL c W M).take k=N.rspL c W M):=List.take_of_length_le (by rw[NSta.rspL,List.length_map,List.length_range,←hE.out];omega);rw[Jo.out]at hO;have Jp:=he.size;clear e;go_wp2;go_ret2
        rw[HZ.out.1,HZ.out.2];exact⟨_,rfl,own_mono hO Jp,hT⟩
  ·have HX:=Kh (Hd.out 2 (rspE_c (K:=K) HL.out HM.out H6) (by decide));have hd:decide (0≤cmpN c C)=true:=Dt (by have:=cmp_nneg c C H6;omega);have hA:0≤cmpN c C:=of_decide_eq_true hd;clear H6;generalize cmpN c C=q at He hd hA;obtain⟨hF,hG,hH,hI⟩:=hR.x2;obtain⟨hg,hh,hi,ho,hp,ht⟩:=hP.x3;go_wp2_with fail
   refine (He.out _).mono ?_;rintro e wo ⟨rfl,hB⟩;go_wp2;go_ret2
   rw[HX.out.1,HX.out.2];exact epost_err rfl (bt he hB)
 ·have HX:=Kh (Hd.out 6 (rspE_6 (C:=C) (K:=K) (c:=c) (by rw[←H4.out,←HK.out,←hE.out];omega)) (by decide));by_cases h1:nw=n2
  ·have h2:((nm:Int) != (n2:Int))=true:=by rw[bne_iff_ne];omega
   have Jq:((nm:Int)==(n2:Int))=false:=by rw[beq_eq_false_iff_ne];omega
   subst h1;clear H5;obtain⟨hg,hh,hi,ho,hp,ht⟩:=hP.x3;go_wp2;go_ret2
   rw[HX.out.1,HX.out.2];exact epost_err rfl he
  ·have h2:((nw:Int) != (n2:Int))=true:=by rw[bne_iff_ne];omega
   have Jq:((nw:Int)==(n2:Int))=false:=by rw[beq_eq_false_iff_ne];omega
   clear H5 h1;obtain⟨hg,hh,hi,ho,hp,ht⟩:=hP.x3;go_wp2;go_ret2
   rw[HX.out.1,HX.out.2];exact epost_err rfl he
end
end Go.Proofs.YtihjpddbjhcbmaaGreatDoor
