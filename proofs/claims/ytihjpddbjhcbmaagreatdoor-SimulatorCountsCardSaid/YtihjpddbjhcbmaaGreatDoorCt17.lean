/- SimulatorCounts: the numbers of the law's loop. -/
import Derived.Test.YtihjpddbjhcbmaaGreatDoorPrv2
import Derived.Test.YtihjpddbjhcbmaaGreatDoorHa17
set_option linter.unusedVariables false
set_option linter.unusedSimpArgs false
set_option maxRecDepth 100000
set_option maxHeartbeats 16000000
namespace Go.Proofs.YtihjpddbjhcbmaaGreatDoor
section
/- How many proofs a prover returns over all coins of one variable: the plain law. -/
open Go.RowKit Go.Shelf
def rsv (q b:Nat) (s:Int) (M R:Nat) (i:Nat):Option Int:=
 if b=0 then some (((i:Int)+s)%(q:Int))
 else if ((i:Int)-((M-1:Nat):Int)+s).natAbs<R then some ((i:Int)-((M-1:Nat):Int)+s) else none
def seenL (q b:Nat) (s:Int) (M R n:Nat):List Int:=(List.range n).filterMap (rsv q b s M R)
theorem seen_step (q b:Nat) (s:Int) (M R n:Nat):seenL q b s M R (n+1)=seenL q b s M R n++(rsv q b s M R n).toList:=by
 unfold seenL;rw[List.range_succ,List.filterMap_append];congr 1
theorem seen_some {q b:Nat} {s:Int} {M R n:Nat} {x:Int} (h:rsv q b s M R n=some x):seenL q b s M R (n+1)=seenL q b s M R n++[x]:=by
 rw[seen_step,h];rfl
theorem seen_none {q b:Nat} {s:Int} {M R n:Nat} (h:rsv q b s M R n=none):seenL q b s M R (n+1)=seenL q b s M R n:=by
 rw[seen_step,h];exact List.append_nil _
theorem seen_new {q b:Nat} {s:Int} {M R n:Nat} {x:Int} (hn:b=0→n<q) (h:rsv q b s M R n=some x):x ∉ seenL q b s M R n:=by
 intro hx;obtain⟨j,hj,he⟩:=List.mem_filterMap.1 hx;have hb:=List.mem_range.1 hj;unfold rsv at h he;by_cases h0:b=0
 ·rw[if_pos h0]at h he;have e:((n:Int)+s)%(q:Int)=((j:Int)+s)%(q:Int):=(Option.some.inj h).trans (Option.some.inj he).symm;have h1:=hn h0
  have h2:((n:Int)-j)%(q:Int)=0:=by
   have:((n:Int)-j)=((n:Int)+s)-((j:Int)+s):=by omega
   rw[this,Int.sub_emod,e];simp
  obtain⟨k,hk⟩:=Int.dvd_of_emod_eq_zero h2;have h3:0<(n:Int)-j:=by omega
  have h4:(n:Int)-j<q:=by omega
  rw[hk]at h3 h4;have hq:(0:Int)<q:=by omega
  have h5:0<k:=by
   rcases Int.lt_or_le 0 k with h | h
   ·exact h
   ·have:=Int.mul_nonpos_of_nonneg_of_nonpos (Int.le_of_lt hq) h;omega
  have h6:(q:Int)*1≤q*k:=Int.mul_le_mul_of_nonneg_left (by omega) (Int.le_of_lt hq);omega
 ·rw[if_neg h0]at h he;split at h
  ·split at he
   ·have:=(Option.some.inj h).trans (Option.some.inj he).symm;omega
   ·cases he
  ·cases h
theorem seen_len0 (q:Nat) (s:Int) (M R n:Nat):(seenL q 0 s M R n).length=n:=by
 induction n with
 | zero=>rfl
 | succ n ih=>rw[seen_some (x:=((n:Int)+s)%(q:Int)) (by unfold rsv;rw[if_pos rfl])];simp[ih]
theorem seen_lenB {q b:Nat} {s:Int} {M R:Nat} (hb:b≠0) (hM:1≤M) (hR:1≤R) (hs:s.natAbs+R≤M) (n:Nat) :
  (seenL q b s M R n).length=(min (n:Int) ((M:Int)+R-1-s)-min (n:Int) ((M:Int)-R-s)).toNat:=by
 induction n with
 | zero=>show 0=_;omega
 | succ n ih =>
  by_cases hc:((n:Int)-((M-1:Nat):Int)+s).natAbs<R
  ·rw[seen_some (x:=(n:Int)-((M-1:Nat):Int)+s) (by unfold rsv;rw[if_neg hb,if_pos hc]),List.length_append,ih,List.length_singleton];omega
  ·rw[seen_none (by unfold rsv;rw[if_neg hb,if_neg hc]),ih];omega
theorem seen_end {q b:Nat} {s:Int} {M R:Nat} (hb:b≠0) (hM:1≤M) (hR:1≤R) (hs:s.natAbs+R≤M):(seenL q b s M R (2*M-1)).length=2*R-1:=by
 rw[seen_lenB hb hM hR hs];omega
theorem cnt_lim (C K b c:Nat) (z:Int) (hb:0<b) (hC:2≤C) (hK:2≤K) (hc:c<C) (hz:z.natAbs<b) :
  ((c:Int)*z).natAbs+(K*C*b-(C-1)*(b-1))≤K*C*b∧1≤K*C*b-(C-1)*(b-1)∧1≤K*C*b:=by
 obtain⟨c',rfl⟩:∃x,C=x+2:=⟨C-2,by omega⟩;obtain⟨b',rfl⟩:∃x,b=x+1:=⟨b-1,by omega⟩;have h1:c*z.natAbs≤(c'+1)*b':=Nat.mul_le_mul (by omega) (by omega);have h2:2*(c'+2)*(b'+1)≤K*(c'+2)*(b'+1):=Nat.mul_le_mul_right _ (Nat.mul_le_mul_right _ hK)
 have h3:2*(c'+2)*(b'+1)=2*(c'*b')+2*c'+4*b'+4:=by
  simp only[Nat.mul_add,Nat.add_mul,Nat.mul_one];rw[Nat.mul_assoc];omega
 rw[Int.natAbs_mul,Int.natAbs_natCast];simp only[Nat.add_sub_cancel];have h4:(c'+2-1)*b'=c'*b'+b':=by rw[show c'+2-1=c'+1 by omega,Nat.add_mul,Nat.one_mul]
 have h5:(c'+1)*b'=c'*b'+b':=by rw[Nat.add_mul,Nat.one_mul]
 rw[h4];rw[h5]at h1;rw[h3]at h2;generalize K*(c'+2)*(b'+1)=X at *;generalize c'*b'=Y at *;omega
def cTp (i:Nat):Tp:=⟨[E i],⟨#[]⟩,0⟩
theorem cTp_good (i k:Nat) (hi:i<256^128) (hk:k≤1):((cTp i).on k).good=true:=by
 unfold Tp.good cTp Tp.on;simp only[List.all_cons,List.all_nil,Bool.and_true,vldB_E i hi,Bool.true_and,Bool.and_eq_true,decide_eq_true_eq];omega
theorem cnt_msk {N:NSta} (att:Att) {C K b i:Nat} (hv:N.vars=[b]) (hi:i<256^128) (hM:1≤(lim N.ord C K b).1) (hlt:i<if b=0 then (lim N.ord C K b).1 else 2*(lim N.ord C K b).1-1) :
  N.drw att C K (cTp i) 0=(0,if b=0 then (i:Int) else (i:Int)-(((lim N.ord C K b).1-1:Nat):Int)):=by
 have h0:0<N.vars.length:=by rw[hv];exact Nat.one_pos
 have hg:(cTp i).good=true:=cTp_good i 0 hi (by omega);rw[drw_at N att C K _ 0 h0,Tp.on_zero,show N.vars[0]=b by simp[hv]];unfold drwJ;generalize (lim N.ord C K b).1=M at *;by_cases hb:b=0
 ·rw[if_pos hb]at hlt;rw[if_pos hb,if_pos hb]
  have h:coin att (cTp i) M=(0,i):=by
   unfold coin;rw[if_neg (by rw[hg];decide),if_neg (by omega)];exact coinD_val (by show 0<1;omega) (by rfl) hlt
  rw[h]
 ·rw[if_neg hb]at hlt;rw[if_neg hb,if_neg hb];unfold csgn;have h1:(cTp i).rdy M=0:=by unfold Tp.rdy;rw[if_neg (by rw[hg];decide),if_neg (by omega)]
  have h2:coinD att (cTp i) (2*M-1)=(0,i):=coinD_val (by show 0<1;omega) (by rfl) hlt;rw[if_neg (by omega),h2,if_pos rfl]
theorem cnt_no {N:NSta} (att:Att) {C K b i:Nat} (hv:N.vars=[b]) (hb:b≠0) (hi:i<256^128) (hM:1≤(lim N.ord C K b).1):(N.drw att C K ((cTp i).on 1) 0).1=14:=by
 have h0:0<N.vars.length:=by rw[hv];exact Nat.one_pos
 have hg:((cTp i).on 1).good=true:=cTp_good i 1 hi (by omega);rw[drw_at N att C K _ 0 h0,Tp.on_zero,show N.vars[0]=b by simp[hv]];unfold drwJ;generalize (lim N.ord C K b).1=M at *;rw[if_neg hb];unfold csgn;have h1:((cTp i).on 1).rdy M=0:=by unfold Tp.rdy;rw[if_neg (by rw[hg];decide),if_neg (by omega)]
 have h2:coinD att ((cTp i).on 1) (2*M-1)=(14,0):=coinD_no (by show 1≤1;omega) (.inl rfl);rw[if_neg (by omega),h2,if_neg (by decide)]
theorem cnt_prv {N:NSta} (att:Att) {C K c b i:Nat} {z:Int} (hv:N.vars=[b]) (hi:i<256^128) (hc:c<C) (hH:N.hldB [z]=true) (hM:1≤(lim N.ord C K b).1) (hq:b=0→0<N.ord)
  (hlt:i<if b=0 then (lim N.ord C K b).1 else 2*(lim N.ord C K b).1-1) :
  (∀x,rsv N.ord b ((c:Int)*z) (lim N.ord C K b).1 (lim N.ord C K b).2 i=some x→(N.prvR att C K c [z] (cTp i)).err=0∧N.rspO c [z] (N.prvR att C K c [z] (cTp i))=[x]) ∧
  (rsv N.ord b ((c:Int)*z) (lim N.ord C K b).1 (lim N.ord C K b).2 i=none→(N.prvR att C K c [z] (cTp i)).err=14∧N.rspO c [z] (N.prvR att C K c [z] (cTp i))=[]):=by
 have hl:N.vars.length=1:=by rw[hv];rfl
 have hg:=hH;simp only[NSta.hldB,Bool.and_eq_true,decide_eq_true_eq]at hg;have hm:=cnt_msk att (C:=C) (K:=K) hv hi hM hlt;generalize hf:(if b=0 then (i:Int) else (i:Int)-(((lim N.ord C K b).1-1:Nat):Int))=mk at hm
 have hd:N.drwR att C K (cTp i)=⟨0,[mk],(cTp i).on 1⟩:=by
  rw[drw_ok (by intro j hj;obtain rfl:j=0:=(by omega);exact congrArg Prod.fst hm),hl];unfold NSta.drwL;rw[hl,show List.range 1=[0] from rfl,List.map_cons,List.map_nil,hm]
 have hp:N.prvR att C K c [z] (cTp i)=N.prv att C K c [z] 64 (cTp i):=prv_e (by rw[hl];rfl) hc hg.2.1 hH
 have hr:N.rspL c [z] [mk]=[rspI N.ord b c mk z]:=by
  unfold NSta.rspL;rw[hl,show List.range 1=[0] from rfl,List.map_cons,List.map_nil];unfold rspJ;simp[hv]
 have hrs:rsJ N C K c [z] [mk] 0=blw b (rspI N.ord b c mk z) (lim N.ord C K b).2:=by
  rw[rsJ_at N C K c [z] [mk] 0 (by omega) Nat.one_pos Nat.one_pos];simp[hv]
 have hh:ra N.vars.length (rsJ N C K c [z] [mk])=blw b (rspI N.ord b c mk z) (lim N.ord C K b).2:=by
  rw[hl,←hrs];unfold ra;rw[show List.range 1=[0] from rfl];simp
 have hk:blw b (rspI N.ord b c mk z) (lim N.ord C K b).2=true→(N.prvR att C K c [z] (cTp i)).err=0∧N.rspO c [z] (N.prvR att C K c [z] (cTp i))=[rspI N.ord b c mk z]:=fun h=>by
  have h1:N.prvR att C K c [z] (cTp i)=⟨0,[mk],(cTp i).on 1⟩:=by
   rw[hp,prv_done (by rw[hd]) (by rw[hd];exact (rsp2_0 (hh.trans h)).1),hd]
  rw[h1];refine⟨rfl,?_⟩;unfold NSta.rspO;rw[if_pos rfl,hr]
 by_cases hb:b=0
 ·rw[if_pos hb]at hf;have hn:(lim N.ord C K b).2=N.ord:=by unfold lim;rw[if_pos hb]
  have he:rspI N.ord b c mk z=((i:Int)+(c:Int)*z)%(N.ord:Int):=by unfold rspI;rw[if_pos hb,hf]
  refine⟨fun x h=>?_,fun h=>?_⟩
  ·unfold rsv at h;rw[if_pos hb]at h;have h2:=hk (by rw[he,hn,hb];exact blw_mod _ _ (hq hb));rw[he]at h2;rw[←Option.some.inj h];exact h2
  ·unfold rsv at h;rw[if_pos hb]at h;cases h
 ·rw[if_neg hb]at hf;have ho:vz b=false:=by unfold vz;rw[beq_eq_false_iff_ne];exact hb
  have he:rspI N.ord b c mk z=(i:Int)-(((lim N.ord C K b).1-1:Nat):Int)+(c:Int)*z:=by unfold rspI;rw[if_neg hb,hf]
  refine⟨fun x h=>?_,fun h=>?_⟩
  ·unfold rsv at h;rw[if_neg hb]at h;split at h
   ·rename_i h3;have h2:=hk (by rw[he];unfold blw;rw[Dt h3,ho];rfl);rw[he]at h2;rw[←Option.some.inj h];exact h2
   ·cases h
  ·unfold rsv at h;rw[if_neg hb]at h;split at h
   ·cases h
   ·rename_i h3;have h4:N.rsp2 C K c [z] [mk]=15:=(rsp2_15 (hh.trans (by rw[he];unfold blw;rw[decide_eq_false h3];rfl))).1;have h5:=cnt_no att (C:=C) (K:=K) (i:=i) hv hb hi hM
    have h6:N.drwR att C K ((cTp i).on 1)=⟨14,[],Tp.nil⟩:=by
     rw[drw_bad (k:=0) (by omega) (fun j hj=>absurd hj (Nat.not_lt_zero _)) (by rw[h5];decide),h5]
    have h7:N.prvR att C K c [z] (cTp i)=⟨14,[],Tp.nil⟩:=by
     rw[hp,prv_next (by rw[hd]) (by rw[hd,h4];decide),hd];show N.prv att C K c [z] 63 ((cTp i).on 1)=_;rw[prv_err (by rw[h6];decide),h6]
    rw[h7];exact⟨rfl,rfl⟩
end
section
open Go.RowKit Go.Shelf
theorem cmpV_c (s:ByteArray) (c:Nat) (w:World) (hs:s.size≤1000) (h:vldB s=false) :
  Calls Tryz.prog 34 #[.string s,.string (E c)] w fun e w'=>e=.returned (.int .i64 0)∧w=w':=by
 have HV:Hid (∀w,Calls Tryz.prog 79 #[.string s] w fun e w'=>e=.returned (.bool false)∧w=w'):=fun w=>by rw[←h];exact valid_c s w (by omega)
 clear h hs;go_enter Tryz.func34,Tryz.ntmps34
 go_wp2_with fail
 refine (HV.out _).mono ?_;rintro e w' ⟨rfl,rfl⟩;go_wp2;go_ret
 exact⟨rfl,rfl⟩
def PLite (w:World) (er:Nat) (Y:List Int) (e:Ending) (w':World):Prop:=∃fo fl fc cx ro rc uo ul uc us ut,e=.returned (.tuple #[.agg #[.slice fo fl fc,.string cx,.slice ro Y.length rc],.agg #[.slice uo ul uc,.string us,.int .i64 ut],.int .i64 (er:Int)]) ∧
 ZsAt w' (.slice ro Y.length rc) Y∧(∀g,g<w.heap.size→FarS (.slice ro Y.length rc) g)∧Bw w w'
theorem plite_of {w:World} {c:ByteArray} {R:Drw} {F:List Nat} {Y:List Int} {e:Ending} {w':World} (h:PPost w c R F Y e w'):PLite w R.err Y e w':=by
 obtain⟨fv,rv,u,cx,rfl,hd,hF,hY,hU,hb⟩:=h
 have hc:∀g,g<w.heap.size→FarS rv g:=fun g hg b o n c e hn hb=>by
  have:=(own_lt hY (g:=b) (by rw[e];rfl)).2;omega
 obtain⟨fa,fc,rfl⟩:=RAt.form hF.ss;have hy:=hY.zs;obtain⟨ya,yc,rfl⟩:=hY.zs.form;obtain⟨ua,uc,rfl⟩:=RAt.form hU;exact⟨_,_,_,_,_,_,_,_,_,_,_,rfl,hy,hc,hb⟩
def CtN (w:World) (C ch:ByteArray) (ru st vw:Value) (s2:Option Addr) (LM LR:List Nat):Prop:=∃(q:Int) (M R b mm nn:Nat) (f:Nat→Option Int),LM=[M]∧LR=[R]∧M<256^60 ∧
 (∀w,Calls Tryz.prog 34 #[.string ch,.string C] w fun e w'=>e=.returned (.int .i64 q)∧w=w') ∧
 (∀w',Bw w w'→∃bv ov,s2=some ⟨bv,ov,none⟩∧bv<w'.heap.size∧w'.cell? ⟨bv,ov,none⟩=some (.string (E b))) ∧
 (q<0→M≤120→1≤M∧1≤R∧R≤M∧mm=(if b=0 then M else 2*M-1)∧nn=(if b=0 then R else 2*R-1) ∧
  (∀i x,i<mm→f i=some x→x ∉ (List.range i).filterMap f)∧((List.range mm).filterMap f).length=nn ∧
  ∀i,i<mm→∃(er:Nat) (Y:List Int),(∀x,f i=some x→er=0∧Y=[x])∧(f i=none→er=14) ∧
   ∀(xo:Option Addr) (xc:Nat) w',Bw w w'→SsAt w' (.slice xo 1 xc) [E i] →
    Calls Tryz.prog 18 #[ru,st,vw,.string ch,.agg #[.slice xo 1 xc,.string { data:=#[] },.int .i64 0]] w' (PLite w' er Y))
theorem ct_core (N:NSta) (c k x b:Nat) (z:Int) (v1 v2 v3 vw:Value) (w:World) (hc:c<256^16) (hk:k<256^16) (hx:x<256^8) (hm:NOk N) (hN:NAt w v1 v2 v3 N) (h0:N.chk=0) (c2:2≤c) (k2:2≤k) (hv:N.vars.any vz=true→c≤N.ord)
  (hb:N.vars=[b]) (hW:ZsAt w vw [z]) (hz:z.natAbs<256^60) (hH:N.hldB [z]=true) (hj:x<c) (hM:(lim N.ord c k b).1≤120) :
  1≤(lim N.ord c k b).1∧1≤(lim N.ord c k b).2∧(lim N.ord c k b).2≤(lim N.ord c k b).1 ∧
  (∀i y,i<(if b=0 then (lim N.ord c k b).1 else 2*(lim N.ord c k b).1-1)→rsv N.ord b ((x:Int)*z) (lim N.ord c k b).1 (lim N.ord c k b).2 i=some y→y ∉ (List.range i).filterMap (rsv N.ord b ((x:Int)*z) (lim N.ord c k b).1 (lim N.ord c k b).2)) ∧
  ((List.range (if b=0 then (lim N.ord c k b).1 else 2*(lim N.ord c k b).1-1)).filterMap (rsv N.ord b ((x:Int)*z) (lim N.ord c k b).1 (lim N.ord c k b).2)).length=(if b=0 then (lim N.ord c k b).2 else 2*(lim N.ord c k b).2-1) ∧
  ∀i,i<(if b=0 then (lim N.ord c k b).1 else 2*(lim N.ord c k b).1-1)→∃(er:Nat) (Y:List Int),(∀y,rsv N.ord b ((x:Int)*z) (lim N.ord c k b).1 (lim N.ord c k b).2 i=some y→er=0∧Y=[y])∧(rsv N.ord b ((x:Int)*z) (lim N.ord c k b).1 (lim N.ord c k b).2 i=none→er=14) ∧
   ∀(xo:Option Addr) (xc:Nat) w',Bw w w'→SsAt w' (.slice xo 1 xc) [E i] →
    Calls Tryz.prog 18 #[.agg #[.string (E c),.string (E k)],.agg #[v1,v2,v3],vw,.string (E x),.agg #[.slice xo 1 xc,.string { data:=#[] },.int .i64 0]] w' (PLite w' er Y):=by
 have he:b=0→c≤N.ord:=fun h=>hv (by rw[hb,h];rfl)
 have ho:b≠0→z.natAbs<b:=fun h=>by
  have h1:=hH;simp only[NSta.hldB,Bool.and_eq_true]at h1;have h2:=ra_at h1.2.1 (j:=0) (by rw[hb];exact Nat.one_pos);rw[inJ_at N [z] 0 (by rw[hb];exact Nat.one_pos) Nat.one_pos]at h2;simp only[hb,List.getElem_cons_zero,if_neg h,blw,Bool.and_eq_true,decide_eq_true_eq]at h2;exact h2.1
 have hd:b≠0→((x:Int)*z).natAbs+(lim N.ord c k b).2≤(lim N.ord c k b).1∧1≤(lim N.ord c k b).2∧1≤(lim N.ord c k b).1:=fun h=>by
  unfold lim;rw[if_neg h];exact cnt_lim c k b x z (by omega) c2 k2 hj (ho h)
 have hf:b=0→(lim N.ord c k b).1=N.ord∧(lim N.ord c k b).2=N.ord:=fun h=>by unfold lim;rw[if_pos h];exact⟨rfl,rfl⟩
 have hg:1≤(lim N.ord c k b).1:=by
  by_cases h:b=0
  ·rw[(hf h).1];have:=he h;omega
  ·exact (hd h).2.2
 have hl:1≤(lim N.ord c k b).2:=by
  by_cases h:b=0
  ·rw[(hf h).2];have:=he h;omega
  ·exact (hd h).2.1
 have hq:(lim N.ord c k b).2≤(lim N.ord c k b).1:=by
  by_cases h:b=0
  ·rw[(hf h).1,(hf h).2];exact Nat.le_refl _
  ·have:=(hd h).1;omega
 refine⟨hg,hl,hq,fun i y hi h=>seen_new (fun h2=>by rw[if_pos h2,(hf h2).1]at hi;exact hi) h,?_,fun i hi=>?_⟩
 ·by_cases h:b=0
  ·rw[if_pos h,if_pos h,(hf h).2,(hf h).1,h];exact seen_len0 _ _ _ _ _
  ·rw[if_neg h,if_neg h];exact seen_end h hg hl (hd h).1
 ·have hn:i<256:=by split at hi <;> omega
  have hr:i<256^128:=Nl hn (by decide);obtain⟨att,hatt⟩:∃att:Att,att=fun _ _ _ _=>0:=⟨_,rfl⟩
  have hp:=cnt_prv att (N:=N) (C:=c) (K:=k) (c:=x) (z:=z) hb hr hj hH hg (fun h=>by have:=he h;omega) hi;refine⟨(N.prvR att c k x [z] (cTp i)).err,N.rspO x [z] (N.prvR att c k x [z] (cTp i)),hp.1,fun h=>(hp.2 h).1,fun xo xc w' hh hV=>?_⟩
  have h:=sprove_num att N c k x [z] (cTp i) v1 v2 v3 vw (.slice xo 1 xc) w' (fun hs=>absurd rfl hs) ⟨by show 1≤100;omega,fun y hy=>by
    obtain rfl:y=E i:=by simpa [cTp] using hy
    exact Nat.le_trans ((E_size_le i 1).2 hn) (by decide),by show 0≤100;omega⟩ hc hk hm (hN.after hh) h0 (fun w2 ht=>bounds_ok N c k v1 v2 v3 w2 hc hk c2 k2 hv hm (hN.after (bt hh ht)) h0) (hW.after hh) hV (Nl hx P8) (by simp) (fun y hy=>by
    obtain rfl:y=z:=by simpa using hy
    exact Nl hz P8) (fun h=>by
    have h2:=hv h;omega)
  exact h.mono fun e w2 h2=>plite_of h2
theorem ct_num (S:Sta) (C K ch:ByteArray) (WL:List (Bool × ByteArray)) (s1 s2 s3 xw:Option Addr) (m1 m2 m3 d1 d2 d3 nw pw:Nat) (w:World) (hC:C.size≤16) (hK:K.size≤16) (hf:fewB S=true) (hS:StAt w (.slice s1 m1 d1) (.slice s2 m2 d2) (.slice s3 m3 d3) S)
  (hw:ch.size≤8) (hy:WL.length≤20) (ho:∀x∈WL,x.2.size≤24) (hW:IsAt w (.slice xw nw pw) WL) (hA:m2=1) :
  ∃(k m:Nat) (bh:Bool) (LM LR:List Nat),(∀w',Bw w w'→Calls Tryz.prog 33 #[.agg #[.string C,.string K],.agg #[.slice s1 m1 d1,.slice s2 m2 d2,.slice s3 m3 d3]] w' (BB w' k LM LR)) ∧
   (∀w',Bw w w'→Calls Tryz.prog 30 #[.agg #[.slice s1 m1 d1,.slice s2 m2 d2,.slice s3 m3 d3],.slice xw nw pw] w' fun e w''=>e=.returned (.tuple #[.bool bh,.int .i64 (m:Nat)])∧Bw w' w'') ∧
   (k=0→m=0→bh=true→CtN w C ch (.agg #[.string C,.string K]) (.agg #[.slice s1 m1 d1,.slice s2 m2 d2,.slice s3 m3 d3]) (.slice xw nw pw) s2 LM LR):=by
 have hp:∀x∈WL,x.2.size≤60:=fun x hx=>by have:=ho x hx;omega
 obtain⟨k,hk,h1,h2⟩ | ⟨N,c,k,rfl,rfl,hc,hk,hm,hN,h0,c2,k2,hv,h1,h2⟩:=bnd16 S C K _ _ _ w hC hK hf hS
 ·obtain⟨b,m,hh⟩:=holds_any S WL _ _ _ _ w hf hS (by omega) hp hW;exact⟨k,m,b,[],[],fun w' hb=>(h1 w' hb).mono fun e w2 h=>bb_err h,hh,fun h=>absurd h hk⟩
 ·cases hi:ivsB WL
  ·obtain⟨m,hB,hh⟩:=holds_bad S WL _ _ _ _ w hf hS (by omega) hp hW (fun ⟨N',Z,_,_,_,e,hz⟩=>by
    rw[e,sints_num Z (fun z hd=>Nl (hz z hd) P8)]at hi;cases hi)
   exact⟨0,m,false,_,_,fun w' hb=>(h1 w' hb).mono fun e w2 h=>bb_num h,hh,fun _ h=>absurd h hB⟩
  ·obtain⟨W,rfl,hz⟩:=ints_lift WL 24 (by simpa [ivsB] using hi) ho;have hr:ZsAt w (.slice xw nw pw) W:=hW;have hD:W.length≤1000:=by simp at hy;omega
   have hl:∀z∈W,z.natAbs<256^60:=fun z hd=>Nl (hz z hd) P8
   have hF:N.vars.length=1:=by
    obtain⟨a1,e1,a2,e2,a3,e3,_,h6,_⟩:=hN.forms;injection h6 with _ h7 _
    omega
   obtain⟨b,hb⟩:∃b,N.vars=[b]:=by
    match hq:N.vars,hF with
    | [b],_=>exact⟨b,rfl⟩
   refine⟨0,N.hldE W,N.hldB W,[(lim N.ord c k b).1],[(lim N.ord c k b).2],fun w' hj=>(h1 w' hj).mono fun e w2 h=>?_,fun w' hj=>holds_c N W _ _ _ _ w' hm (hN.after hj) (ZsAt.after hr hj) (fun z hd=>Nl (hz z hd) P8) hD h0,fun _ hE hH=>?_⟩
   ·have h9:=bb_num h;rwa [NSta.lims,hb]at h9
   ·have hG:W.length=1:=by
     unfold NSta.hldE at hE;split at hE
     ·cases hE
     ·omega
    obtain⟨z,hI⟩:∃z,W=[z]:=by
     match hq:W,hG with
     | [z],_=>exact⟨z,rfl⟩
    subst hI;have he:=lims1_lt hm hc hk (show b∈N.vars by rw[hb];exact List.mem_singleton.2 rfl)
    have ht:∀w',Bw w w'→∃bv ov,s2=some ⟨bv,ov,none⟩∧bv<w'.heap.size∧w'.cell? ⟨bv,ov,none⟩=some (.string (E b)):=fun w' hJ=>by
     obtain⟨bv,ov,e,hL,x1⟩:=(hN.after hJ).vat (k:=0) (by omega);refine⟨bv,ov,e,hL,?_⟩;simpa [hb] using x1
    cases hu:vldB ch
    ·exact⟨0,_,_,b,0,0,fun _=>none,rfl,rfl,he,fun w=>cmpV_c ch c w (by omega) hu,ht,fun h=>absurd h (by decide)⟩
    ·obtain⟨x,hx,rfl⟩:=numk hw hu;have hg:x<256^128:=Nl hx P8;refine⟨cmpN x c,_,_,b,if b=0 then (lim N.ord c k b).1 else 2*(lim N.ord c k b).1-1,if b=0 then (lim N.ord c k b).2 else 2*(lim N.ord c k b).2-1,rsv N.ord b ((x:Int)*z) (lim N.ord c k b).1 (lim N.ord c k b).2,rfl,rfl,he,fun w=>cmp_c x c w hg (Nl hc P8),ht,fun hq hM=>?_⟩
     have hO:x<c:=by
      apply Classical.byContradiction
      intro hn;have:=cmp_nneg x c (by omega);omega
     obtain⟨g1,g2,g3,g4,g5,g6⟩:=ct_core N c k x b z _ _ _ (.slice xw nw pw) w hc hk hx hm hN h0 c2 k2 hv hb hr (hl z (by simp)) hH hO hM;exact⟨g1,g2,g3,rfl,rfl,g4,g5,g6⟩
end
end Go.Proofs.YtihjpddbjhcbmaaGreatDoor
