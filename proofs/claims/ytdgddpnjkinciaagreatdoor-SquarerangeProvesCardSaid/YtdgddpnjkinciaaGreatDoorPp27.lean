/- squarerange.Prepare. -/
import Derived.Test.YtdgddpnjkinciaaGreatDoorWt27
import Derived.Test.YtdgddpnjkinciaaGreatDoorCo4
set_option linter.all false
set_option maxRecDepth 100000
set_option maxHeartbeats 16000000
namespace Go.Proofs.YtdgddpnjkinciaaGreatDoor
section
/- What Prepare returns: parts,openings,tape. -/
open Go.RowKit Go.Shelf
theorem info_opening:(Tryz.prog.info? 30).map (fun i=>(i.zero,i.size,i.bytes))=some (some (.agg #[.bool false,.string { data:=#[] },.bool false,.string { data:=#[] }]),4,48):=by kernel_rfl
structure PrR where
 err:Nat
 parts:List Nat
 ops:List (Nat × Nat)
 tp:Tp
def nop (x:Nat × Nat):Opn:=⟨false,E x.1,false,E x.2⟩
def rts:Option (Nat × Nat × Nat × Nat)→List Nat
 | some (a,x,y,z)=>[a,x,y,z]
 | none=>[0,0,0,0]
theorem rts_foV (o:Option (Nat × Nat × Nat × Nat)):foV o=(rts o).map (fun n=>Value.string (E n)):=by
 rcases o with _ | ⟨a,x,y,z⟩ <;> rfl
theorem rts_len (o:Option (Nat × Nat × Nat × Nat)):(rts o).length=4:=by rcases o with _ | ⟨a,x,y,z⟩ <;> rfl
def roots (d:Int):List Nat:=if d<0 then [0,0,0,0] else rts (fourF d.natAbs (rt d.natAbs))
theorem roots_len (d:Int):(roots d).length=4:=by unfold roots;split;rfl;exact rts_len _
def prC (att:Att) (rd:Nat) (T:Tp) (j:Nat):Nat × Nat:=coin att (T.on j) rd
def prP (att:Att) (p g h rd:Nat) (X:List Nat) (T:Tp) (k:Nat):List Nat:=(List.range k).map fun j=>cmtN p g h (X.getD j 0:Nat) ((prC att rd T j).2:Nat)
def prO (att:Att) (rd:Nat) (X:List Nat) (T:Tp) (k:Nat):List (Nat × Nat):=(List.range k).map fun j=>(X.getD j 0,(prC att rd T j).2)
def prN (att:Att) (p g h rd:Nat) (X:List Nat) (T:Tp):PrR:=
 match (List.range 4).find? (fun j=>(prC att rd T j).1 != 0) with
 | some j=>⟨(prC att rd T j).1,[],[],Tp.nil⟩
 | none=>⟨0,prP att p g h rd X T 4,prO att rd X T 4,T.on 4⟩
def prR (att:Att) (a b c d:ByteArray) (lo:Int) (vn:Bool) (va:ByteArray) (rn:Bool) (ra rd:ByteArray) (T:Tp):PrR:=
 if (ivB vn va&&ivB rn ra&&vldB rd&&T.good)=false then ⟨3,[],[],Tp.nil⟩ else if kyV a b c d≠0 then ⟨kyV a b c d,[],[],Tp.nil⟩ else if rd.size=0 then ⟨11,[],[],Tp.nil⟩
 else if 4294967296≤intb vn va-lo then ⟨5,[],[],Tp.nil⟩ else prN att (numb a) (numb c) (numb d) (numb rd) (roots (intb vn va-lo)) T
theorem prN_bad {att:Att} {p g h rd:Nat} {X:List Nat} {T:Tp} {k:Nat} (hk:k<4) (hb:∀j,j<k→(prC att rd T j).1=0) (he:(prC att rd T k).1≠0):prN att p g h rd X T=⟨(prC att rd T k).1,[],[],Tp.nil⟩:=by
 unfold prN;rw[find_range (p:=fun j=>(prC att rd T j).1 != 0) hk (fun j hj=>by rw[hb j hj];rfl) (bne_iff_ne.2 he)]
theorem prN_ok {att:Att} {p g h rd:Nat} {X:List Nat} {T:Tp} (hb:∀j,j<4→(prC att rd T j).1=0):prN att p g h rd X T=⟨0,prP att p g h rd X T 4,prO att rd X T 4,T.on 4⟩:=by
 unfold prN;rw[List.find?_eq_none.2 (fun j hj=>by have:=hb j (List.mem_range.1 hj);simp[this])]
theorem prP_snoc (att:Att) (p g h rd:Nat) (X:List Nat) (T:Tp) (k:Nat):prP att p g h rd X T (k+1)=prP att p g h rd X T k++[cmtN p g h (X.getD k 0:Nat) ((prC att rd T k).2:Nat)]:=by unfold prP;rw[List.range_succ,List.map_append];rfl
theorem prO_snoc (att:Att) (rd:Nat) (X:List Nat) (T:Tp) (k:Nat):prO att rd X T (k+1)=prO att rd X T k++[(X.getD k 0,(prC att rd T k).2)]:=by unfold prO;rw[List.range_succ,List.map_append];rfl
theorem prP_len (att:Att) (p g h rd:Nat) (X:List Nat) (T:Tp) (k:Nat):(prP att p g h rd X T k).length=k:=by unfold prP;simp
theorem prO_len (att:Att) (rd:Nat) (X:List Nat) (T:Tp) (k:Nat):(prO att rd X T k).length=k:=by unfold prO;simp
theorem prC_lt {att:Att} {rd:Nat} {T:Tp} {j:Nat} (h:(prC att rd T j).1=0):(prC att rd T j).2<rd:=by
 unfold prC at *;unfold coin at *;split at h
 ·simp at h
 ·rename_i h1;split at h
  ·simp at h
  ·rename_i h2;rw[if_neg h1,if_neg h2];exact coinD_lt h
def OOwn (w:World) (base:Nat) (v:Value) (L:List (Nat × Nat)):Prop:=w.ownsRow base 30 4 v L.length ((L.map nop).flatMap opc)
theorem OOwn.os {w:World} {base:Nat} {v:Value} {L:List (Nat × Nat)} (h:OOwn w base v L):OsAt w v (L.map nop):=os_own (L.map nop) (by simp) h
def PrPost (w:World) (R:PrR) (e:Ending) (w':World):Prop:=∃u v t,e=.returned (.tuple #[u,v,t,.int .i64 (R.err:Int)])∧NOwn w' w.heap.size u R.parts∧OOwn w' w.heap.size v R.ops∧TAt w' t R.tp∧Bw w w'
def PrPostF (w:World) (R:PrR) (e:Ending) (w':World):Prop:=∃u v t,e=.returned (.tuple #[u,v,t,.int .i64 (R.err:Int)])∧NOwn w' w.heap.size u R.parts∧OOwn w' w.heap.size v R.ops∧TAt w' t R.tp∧TFar t w.heap.size∧Bw w w'
theorem PrPostF.of {w w':World} {R:PrR} {e:Ending} (h:PrPostF w R e w'):PrPost w R e w':=by
 obtain⟨u,v,t,h1,h2,h3,h4,_,h6⟩:=h;exact⟨u,v,t,h1,h2,h3,h4,h6⟩
theorem PrPostF.err {w w':World} {k:Nat} (h:Bw w w'):PrPostF w ⟨k,[],[],Tp.nil⟩ (.returned (.tuple #[.slice none 0 0,.slice none 0 0,.agg #[.slice none 0 0,.string ⟨#[]⟩,.int .i64 0],.int .i64 (k:Int)])) w':=
 ⟨_,_,_,rfl,World.ownsRow_nil _ _ _ _,World.ownsRow_nil _ _ _ _,⟨_,rfl,ss_nil _⟩,TFar.zero _ _ _,h⟩
theorem blk4 (w:World) (A B C D:Array Value) (TA TB TC TD:TypeId):Blk ((((w.alloc (.cells A TA)).alloc (.cells B TB)).alloc (.cells C TC)).alloc (.cells D TD)) w.heap.size TA A.toList∧Blk ((((w.alloc (.cells A TA)).alloc (.cells B TB)).alloc (.cells C TC)).alloc (.cells D TD)) (w.heap.size+1) TB B.toList∧Blk ((((w.alloc (.cells A TA)).alloc (.cells B TB)).alloc (.cells C TC)).alloc (.cells D TD)) (w.heap.size+2) TC C.toList∧Blk ((((w.alloc (.cells A TA)).alloc (.cells B TB)).alloc (.cells C TC)).alloc (.cells D TD)) (w.heap.size+3) TD D.toList∧Bw w ((((w.alloc (.cells A TA)).alloc (.cells B TB)).alloc (.cells C TC)).alloc (.cells D TD)):=by
 refine⟨(blk3a w A B C TA TB TC).alloc _,(blk3b w A B C TA TB TC).alloc _,(blk3c w A B C TA TB TC).alloc _,?_,ba (b3 w _ _ _) _⟩;have h:=Blk.new (((w.alloc (.cells A TA)).alloc (.cells B TB)).alloc (.cells C TC)) D TD;simp only[World.size_alloc]at h;exact h
end
section
open Go.RowKit Go.Shelf
theorem agg_nat (w:World):(isAgg 22).run Tryz.prog w=.ok false w:=by
 simp[isAgg,run_underlying Tryz.underlying22,go_sem]
theorem info_nat1:(Tryz.prog.info? 22).map (fun i=>i.size)=some 1:=by kernel_rfl
theorem ixN (X:List Nat) (hX:X.length=4) (k:Nat) (hk:k<4) (w:World):(Instr.index 117 (.agg (X.map fun n=>Value.string (E n)).toArray) (.int .i64 (k:Int))).run Tryz.prog w=.ok (.string (E (X.getD k 0))) w:=
 run_index_agg 117 22 4 _ .i64 k _ Tryz.underlying117 (by omega) (by omega) info_nat1 (agg_nat w) (by
  have h:k<X.length:=by omega
  simp[List.getElem?_eq_getElem h,List.getD_eq_getElem?_getD])
theorem roots_lt {d:Int} (h:¬ 4294967296≤d) (k:Nat):(roots d).getD k 0<256^8:=by
 unfold roots;split
 ·match k with
  | 0=>decide
  | 1=>decide
  | 2=>decide
  | 3=>decide
  | k+4=>exact (by decide:(0:Nat)<256^8)
 ·cases h1:fourF d.natAbs (rt d.natAbs) with
  | none =>
   match k with
   | 0=>decide
   | 1=>decide
   | 2=>decide
   | 3=>decide
   | k+4=>exact (by decide:(0:Nat)<256^8)
  | some o =>
  obtain⟨a,b,c,e⟩:=o;have h2:=fourF_sound (rt_spec d.natAbs).1 h1
  have sq:∀x:Nat,x≤x*x:=fun x=>by
   rcases Nat.eq_zero_or_pos x with h | h
   ·rw[h];exact Nat.le_refl _
   ·exact Nat.le_mul_of_pos_left x h
  have ha:=sq a;have hb:=sq b;have hc:=sq c;have he:=sq e;have h8:(4294967296:Nat)≤256^8:=by decide
  match k with
  | 0=>show a<_;omega
  | 1=>show b<_;omega
  | 2=>show c<_;omega
  | 3=>show e<_;omega
  | k+4=>exact (by decide:(0:Nat)<256^8)
theorem sqprep_f (att:Att) (a b c d:ByteArray) (lo:Int) (vn:Bool) (va:ByteArray) (rn:Bool) (ra rd:ByteArray) (T:Tp) (v:Value) (w:World)
  (J7:HAtt att T.seed w) (jV:T.Ok) (ha:a.size≤8) (hb:b.size≤100) (hc:c.size≤100) (hd:d.size≤100) (Jg:va.size≤12) (J8:ra.size≤12) (J9:rd.size≤12) (Kk:-1099511627776<lo) (Jh:lo<1099511627776) (hV:SsAt w v T.vals) :
  Calls Tryz.prog 16 #[.agg #[.string a,.string b,.string c,.string d],.int .i64 lo,.agg #[.bool vn,.string va,.bool rn,.string ra],.string rd,.agg #[v,.string T.seed,.int .i64 T.pos]] w (PrPostF w (prR att a b c d lo vn va rn ra rd T)):=by
 obtain⟨i0,ka,H6,H7,H8⟩:=info_parts info_nat;obtain⟨i1,kb,H9,ja,jb⟩:=info_parts info_opening;have kc:=Kh ka;have kd:=Kh H6;have kf:=Kh H7;have kg:=Kh H8;have Kl:=Kh kb;have Km:=Kh H9;have Kn:=Kh ja;have Ko:=Kh jb;clear ka H6 H7 H8 kb H9 ja jb;obtain⟨m,hm⟩:∃m,chkV [(vn,va),(rn,ra)] (rd :: T.vals) a b c d=m:=⟨_,rfl⟩;obtain⟨R,hR⟩:∃R,R=prR att a b c d lo vn va rn ra rd T:=⟨_,rfl⟩;rw[←hR];-- what is returned
 have HH:Hid ((decide (0≤T.pos)&&decide (T.pos≤2147483647))=false→R=⟨3,[],[],Tp.nil⟩):=fun h=>by
  rw[hR,prR,if_pos (by rw[Tp.good,h,Bool.and_false,Bool.and_false])]
 have HI:(decide (0≤T.pos)&&decide (T.pos≤2147483647))=true→(ivB vn va&&ivB rn ra&&vldB rd&&T.good)=([(vn,va),(rn,ra)].all iv2&&(rd :: T.vals).all vldB):=fun h=>by
  rw[Tp.good,h,Bool.and_true,List.all_cons,List.all_cons,List.all_nil,List.all_cons,Bool.and_true];simp only[iv2,Bool.and_assoc]
 have Hc:Hid ((decide (0≤T.pos)&&decide (T.pos≤2147483647))=true→m≠0→R=⟨m,[],[],Tp.nil⟩):=fun h h2=>by
  rw[hR,prR,HI h];unfold chkV at hm;cases hh:([(vn,va),(rn,ra)].all iv2&&(rd :: T.vals).all vldB)
  ·rw[if_pos rfl];rw[if_neg (by intro k;rw[k.1,k.2]at hh;cases hh)]at hm;rw[←hm]
  ·rw[if_neg (by decide)];rw[Bool.and_eq_true]at hh;rw[if_pos hh]at hm;rw[hm,if_pos h2]
 have HW:Hid ((decide (0≤T.pos)&&decide (T.pos≤2147483647))=true→m=0→(ivB vn va=true∧vldB rd=true∧kyV a b c d=0)∧(rd.size=0→R=⟨11,[],[],Tp.nil⟩)∧(rd.size≠0→4294967296≤intb vn va-lo→R=⟨5,[],[],Tp.nil⟩)∧(rd.size≠0→¬ 4294967296≤intb vn va-lo→R=prN att (numb a) (numb c) (numb d) (numb rd) (roots (intb vn va-lo)) T)):=fun h h2=>by
  unfold chkV at hm;split at hm
  ·rename_i hh;have h9:=HI h;rw[hh.1,hh.2]at h9
   have Ji:R=if rd.size=0 then ⟨11,[],[],Tp.nil⟩ else if 4294967296≤intb vn va-lo then ⟨5,[],[],Tp.nil⟩ else prN att (numb a) (numb c) (numb d) (numb rd) (roots (intb vn va-lo)) T:=by
    rw[hR,prR,h9,if_neg (by decide),if_neg (by rw[hm,h2];decide)]
   have e1:=hh.1;have e2:=hh.2;simp only[List.all_cons,Bool.and_eq_true]at e1 e2;exact⟨⟨e1.1,e2.1,hm.trans h2⟩,fun k=>by rw[Ji,if_pos k],fun k k2=>by rw[Ji,if_neg k,if_pos k2],fun k k2=>by rw[Ji,if_neg k,if_neg k2]⟩
  ·omega
 have kh:Hid (∀(u x:Value) (w:World),IsAt w u [(vn,va),(rn,ra)]→SsAt w x (rd :: T.vals)→Calls Tryz.prog 47 #[.agg #[.string a,.string b,.string c,.string d],u,x] w fun e w'=>e=.returned (.int .i64 m)∧Bw w w'):=fun u x w hu hx =>
  sqchk_c [(vn,va),(rn,ra)] (rd :: T.vals) a b c d u x m w (by simp) (by have:=jV.n;simp;omega) (by
   intro y hy;simp only[List.mem_cons,List.not_mem_nil,or_false]at hy;rcases hy with rfl | rfl
   ·exact Nat.le_trans Jg (by decide)
   ·exact Nat.le_trans J8 (by decide)) (by
   intro y hy;simp only[List.mem_cons]at hy;rcases hy with rfl | hy
   ·omega
   ·have:=jV.s y hy;omega) ha hb hc hd hu hx hm
 have kj:Hid (va.size≤12):=Jg;have kk:Hid (rd.size≤12):=J9;have kl:Hid (a.size≤8):=ha;have jW:Hid (lo.natAbs<1099511627776):=by rw[Hid];omega
 have km:=Kh J7;have ko:=Kh jV;clear ha hb hc hd Jg J8 J9 Kk Jh J7 jV hR HI hm;obtain⟨at_,ct,rfl⟩:=RAt.form hV;obtain⟨nt,Jj⟩:∃n,n=T.vals.length:=⟨_,rfl⟩;have kp:=Kh Jj;rw[←Jj]at hV ⊢;clear Jj;obtain⟨hB,hI,hT,hR,hi⟩:=blk4 w #[Value.string a,Value.string b,Value.string c,Value.string d] #[.bool vn,.string va,.bool rn,.string ra] #[.slice at_ nt ct,.string T.seed,.int .i64 T.pos] #[.slice none 0 0,.string ⟨#[]⟩,.int .i64 0] 26 30 35 35;obtain⟨gI,kq⟩:∃g,w.heap.size+1=g:=⟨_,rfl⟩;obtain⟨gT,kr⟩:∃g,w.heap.size+1+1=g:=⟨_,rfl⟩;obtain⟨gR,ks⟩:∃g,w.heap.size+1+1+1=g:=⟨_,rfl⟩;have HY:Hid (w.heap.size<gI∧gI<gT∧gT<gR):=by rw[Hid];omega
 have Jk:=Kh kq;have Jl:=Kh kr;have Jm:=Kh ks;have jX:FarS (.slice at_ nt ct) gT:=ss_far hV (by omega);have HJ:FarS (.slice at_ nt ct) gR:=ss_far hV (by omega);have hK:=SsAt.after hV hi;clear kq kr ks;go_enter Tryz.func16,Tryz.ntmps16
 go_upto_region 1 with fail
 rw[Jm.out,Jl.out,Jk.out];replace hI:Blk _ gI 30 [.bool vn,.string va,.bool rn,.string ra]:=Jk.out ▸ hI;replace hT:Blk _ gT 35 [.slice at_ nt ct,.string T.seed,.int .i64 T.pos]:=Jl.out ▸ hT;replace hR:Blk _ gR 35 [.slice none 0 0,.string ⟨#[]⟩,.int .i64 0]:=Jm.out ▸ hR;replace hB:Blk _ w.heap.size 26 [Value.string a,Value.string b,Value.string c,Value.string d]:=hB;generalize (((w.alloc (.cells #[Value.string a,Value.string b,Value.string c,Value.string d] 26)).alloc (.cells #[.bool vn,.string va,.bool rn,.string ra] 30)).alloc (.cells #[.slice at_ nt ct,.string T.seed,.int .i64 T.pos] 35)).alloc (.cells #[.slice none 0 0,.string ⟨#[]⟩,.int .i64 0] 35)=w1 at hB hI hT hR hi hK ⊢;clear Jk Jl Jm;have KV:Hid (w.heap.size≤w1.heap.size):=hi.size;have hn:Hid (w.heap.size≤gR):=by have:=HY.out;rw[Hid];omega
 have KW:Hid (gR<w1.heap.size):=hR.lt;have jc:Hid (HAtt att T.seed w1):=km.out.after hi;obtain⟨ps,Jn⟩:∃p,p=T.pos:=⟨_,rfl⟩;have Jo:=Kh Jn;rw[←Jn]at hT HH Hc HW ⊢;clear Jn;obtain⟨t1,Jp⟩:∃t:Bool,t=decide (ps<0):=⟨_,rfl⟩;obtain⟨t2,Jq⟩:∃t:Bool,t=decide (2147483647<ps):=⟨_,rfl⟩
 have kt:Hid ((decide (0≤ps)&&decide (ps≤2147483647))=(!t1&&!t2)):=by
  rw[Hid,Jp,Jq,←decide_not,←decide_not,decide_eq_decide.2 (show (0≤ps)↔¬ ps<0 by omega),decide_eq_decide.2 (show (ps≤2147483647)↔¬ 2147483647<ps by omega)]
 rw[kt.out]at HH Hc HW;have Kp:=Jp.symm;have Kq:=Jq.symm;clear Jp Jq kt;have hw:=hR.lt;have Hl:=hT.lt;cases t1
 case true =>
  have HX:=Kh (HH.out rfl);clear HH Hc HW hB hI;obtain⟨ho,Hd,hr,He,ht,Hf⟩:=hR.x3;obtain⟨hL,hM,hN,hP,hS,hW⟩:=hT.x3;go_wp2;refine bodyPost_ret (v:=.tuple #[.slice none 0 0,.slice none 0 0,.agg #[.slice none 0 0,.string ⟨#[]⟩,.int .i64 0],.int .i64 3]) ?_ rfl ?_
  ·simp[results,Tryz.results16,go_sem,ho,hr,ht,hw]
  ·rw[HX.out];exact PrPostF.err (((hi.setCell hn.out _).setCell hn.out _).setCell hn.out _)
 case false =>
  cases t2
  case true =>
   have HX:=Kh (HH.out rfl);clear HH Hc HW hB hI;obtain⟨ho,Hd,hr,He,ht,Hf⟩:=hR.x3;obtain⟨hL,hM,hN,hP,hS,hW⟩:=hT.x3;go_wp2;refine bodyPost_ret (v:=.tuple #[.slice none 0 0,.slice none 0 0,.agg #[.slice none 0 0,.string ⟨#[]⟩,.int .i64 0],.int .i64 3]) ?_ rfl ?_
   ·simp[results,Tryz.results16,go_sem,ho,hr,ht,hw]
   ·rw[HX.out];exact PrPostF.err (((hi.setCell hn.out _).setCell hn.out _).setCell hn.out _)
  case false =>
   replace Hc:Hid (m≠0→R=⟨m,[],[],Tp.nil⟩):=Hc.out rfl;have HK:=Kh (HW.out rfl);clear HH HW;obtain⟨hL,hM,hN,hP,hS,hW⟩:=hT.x3;go_upto_region 3 with fail
   clear hL hM hN hP hS hW;have HL:=hB.lt;have jd:=hI.lt;have hC:CA w1 [(⟨w.heap.size,0,none⟩,.string a),(⟨w.heap.size,1,none⟩,.string b),(⟨w.heap.size,2,none⟩,.string c),(⟨w.heap.size,3,none⟩,.string d),(⟨gI,0,none⟩,.bool vn),(⟨gI,1,none⟩,.string va),(⟨gI,2,none⟩,.bool rn),(⟨gI,3,none⟩,.string ra),(⟨gT,0,none⟩,.slice at_ nt ct)]:=CA.cons HL (hB.cell 0) (CA.cons HL (hB.cell 1) (CA.cons HL (hB.cell 2) (CA.cons HL (hB.cell 3) (CA.cons jd (hI.cell 0) (CA.cons jd (hI.cell 1) (CA.cons jd (hI.cell 2) (CA.cons jd (hI.cell 3) (CA.cons Hl (hT.cell 0) (CA.nil _)))))))));have ku:=(Blk.new w1 #[.bool vn,.string va,.bool rn,.string ra] 28).alloc (.cells #[.string rd] 22);have kv:=blk2b w1 #[.string rd] #[.bool vn,.string va,.bool rn,.string ra] 22 28;have je:Hid (nt≤100):=by rw[Hid,kp.out];exact ko.out.n
   go_cut [14] (fun s14 wx=>s14=.int .i64 m∧Bw w1 wx)
   case first =>
    go_region_held3 (fun w'=>w'.cell? ⟨w.heap.size,0,none⟩=some (.string a)∧w'.cell? ⟨w.heap.size,1,none⟩=some (.string b)∧w'.cell? ⟨w.heap.size,2,none⟩=some (.string c)∧w'.cell? ⟨w.heap.size,3,none⟩=some (.string d)∧w'.cell? ⟨gI,0,none⟩=some (.bool vn)∧w'.cell? ⟨gI,1,none⟩=some (.string va)∧w'.cell? ⟨gI,2,none⟩=some (.bool rn)∧w'.cell? ⟨gI,3,none⟩=some (.string ra)∧w'.cell? ⟨gT,0,none⟩=some (.slice at_ nt ct))
     ((refine CA.k9 ?_;repeat (first | (with_reducible exact Kr) | (with_reducible exact HM) | (with_reducible exact hC) | (with_reducible refine CA.drew ?_) | (with_reducible refine CA.alloc ?_ _))))
     (first
      | (go_loud (refine step_append_all (by rfl) (.tmp 43) (.tmp 45) _ (by rfl) (by rfl) (by rfl) w1.heap.size 22 i0 _ 16 Tryz.underlying33 kc.out kd.out kf.out kg.out rfl 1 [.string rd] (own_blkB (by first | exact blkN (by first | rfl | (simp;done)) | exact (blkN (by first | rfl | (simp;done))).alloc _) rfl (by decide) (by simp)) T.vals (by repeat (first | (with_reducible exact hK) | (with_reducible refine ss_drew ?_) | (with_reducible refine ss_alloc ?_ _))) (by have:=je.out;simp only[maxLen];omega) (by have:=je.out;omega) (by first | omega | (simp;done) | (simp;omega)) ?_);intro ua wa Jr jY kw;have kx:SsAt wa ua (rd :: T.vals):=ss_own (base:=w1.heap.size) (n:=1+nt) (rd :: T.vals) (by simp[kp.out];omega) Jr;have HM:CA wa [(⟨w.heap.size,0,none⟩,.string a),(⟨w.heap.size,1,none⟩,.string b),(⟨w.heap.size,2,none⟩,.string c),(⟨w.heap.size,3,none⟩,.string d),(⟨gI,0,none⟩,.bool vn),(⟨gI,1,none⟩,.string va),(⟨gI,2,none⟩,.bool rn),(⟨gI,3,none⟩,.string ra),(⟨gT,0,none⟩,.slice at_ nt ct)]:=CA.grown (by repeat (first | (with_reducible exact hC) | (with_reducible refine CA.drew ?_) | (with_reducible refine CA.alloc ?_ _))) jY (fun q hq e=>by have h1:=(kw _ e).1;have h2:=(hC q hq).1;omega);have HZ:Bw w1 wa:=Below.grown (by repeat (first | (with_reducible exact Br) | (with_reducible refine Below.drew ?_) | (with_reducible refine Below.alloc ?_ (by first | omega | (simp;done) | (simp;omega)) _))) jY (by first | omega | (simp;done) | (simp;omega)) (fun g hg=>(kw g hg).1);(try (have Ks:=Blk.grown ku.drew jY (by (simp[Value.ownBlock];done))));(try (have Kt:=Blk.grown kv.drew jY (by (simp[Value.ownBlock];done)))))
      | (go_at_call 47;go_loud (refine (kh.out _ _ _ (is_blk [(vn,va),(rn,ra)] rfl (by first | exact Ks | exact Kt | exact Blk.new _ _ _)) (by first | exact kx | exact ss_alloc kx _)).mono ?_);rintro e wd ⟨rfl,hbd⟩;have Hm:Bw w1 wd:=(by first | exact bt HZ hbd | exact bt (ba HZ _) hbd);have Kr:CA wd [(⟨w.heap.size,0,none⟩,.string a),(⟨w.heap.size,1,none⟩,.string b),(⟨w.heap.size,2,none⟩,.string c),(⟨w.heap.size,3,none⟩,.string d),(⟨gI,0,none⟩,.bool vn),(⟨gI,1,none⟩,.string va),(⟨gI,2,none⟩,.bool rn),(⟨gI,3,none⟩,.string ra),(⟨gT,0,none⟩,.slice at_ nt ct)]:=(by first | exact HM.after hbd | exact (HM.alloc _).after hbd)))
    all_goals
     go_wp2_with fail
     go_meet
     exact⟨rfl,Hm⟩
   case rest =>
    obtain⟨rfl,Hg⟩:=hcut;obtain⟨wx,Ku⟩:∃wx,wx=wc:=⟨_,rfl⟩;subst Ku;replace hB:=hB.after Hg;replace hI:=hI.after Hg;replace hT:=hT.after Hg;replace hR:=hR.after Hg;replace hK:=SsAt.after hK Hg;replace hi:=bt hi Hg;have ky:Hid (w1.heap.size≤wx.heap.size):=Hg.size;have jf:Hid (HAtt att T.seed wx):=jc.out.after Hg;clear Hg hC ku kv kh jc HL jd hw Hl;have hw:=hR.lt;by_cases Js:m=0
    case neg =>
     have KX:((m:Int) != 0)=true:=by rw[bne_iff_ne];omega
     have HX:=Kh (Hc.out Js);clear Js Hc HK hB hI hT;obtain⟨ho,Hd,hr,He,ht,Hf⟩:=hR.x3;go_wp2;refine bodyPost_ret (v:=.tuple #[.slice none 0 0,.slice none 0 0,.agg #[.slice none 0 0,.string ⟨#[]⟩,.int .i64 0],.int .i64 (m:Int)]) ?_ rfl ?_
     ·simp[results,Tryz.results16,go_sem,ho,hr,ht,hw]
     ·rw[HX.out];exact PrPostF.err (((hi.setCell hn.out _).setCell hn.out _).setCell hn.out _)
    case pos =>
     subst Js;obtain⟨⟨kz,kD,kE⟩,Jt,h5,jZ⟩:=HK.out rfl;obtain⟨V,_,rfl,rfl⟩:=of_ivB kz;obtain⟨r0,_,rfl⟩:=of_vldB kD;obtain⟨p,g,h,⟨hp,hg,hh⟩,rfl,rfl,rfl,rfl,kF⟩:=kyV_zero kE kl.out;rw[intb_I]at h5 jZ;rw[empty_E]at Jt;rw[numb_E,numb_E,numb_E,numb_E]at jZ;have kG:=Kh (lt_of_size kj.out);have kH:=Kh (lt_of_size kk.out);have Ju:=Kh Jt;have H5:=Kh (fun k:r0≠0=>h5 (fun e=>k (empty_E.1 e)));have Hh:=Kh (fun k:r0≠0=>jZ (fun e=>k (empty_E.1 e)));have jg:Hid ((p<256^8∧g<256^128∧h<256^128)∧pedE p 0 g h=0):=⟨⟨hp,hg,hh⟩,kF⟩;clear HK Hc kz kD kE hp hg hh kF Jt h5 jZ kj kk kl;by_cases Hn:r0=0
     case pos =>
      have hz:=zE Hn;have HX:=Kh (Ju.out Hn);clear Hn Ju H5 Hh hB hI hT;obtain⟨ho,Hd,hr,He,ht,Hf⟩:=hR.x3;go_wp2;refine bodyPost_ret (v:=.tuple #[.slice none 0 0,.slice none 0 0,.agg #[.slice none 0 0,.string ⟨#[]⟩,.int .i64 0],.int .i64 11]) ?_ rfl ?_
      ·simp[results,Tryz.results16,go_sem,ho,hr,ht,hw]
      ·rw[HX.out];exact PrPostF.err (((hi.setCell hn.out _).setCell hn.out _).setCell hn.out _)
     case neg =>
      have hz:=nzE (Nat.pos_of_ne_zero Hn);replace H5:=Kh (H5.out Hn);replace Hh:=Kh (Hh.out Hn);have KY:=Kh Hn;clear Hn Ju;have kI:Hid (∀w:World,Calls Tryz.prog 49 #[.int .i64 lo] w fun e w'=>e=.returned (.agg #[.bool (sg (lo)),.string (E (lo).natAbs)])∧Bw w w'):=fun w=>iof_c lo w (by have:=jW.out;omega) (by have:=jW.out;omega)
      have Jv:Hid (∀w:World,Calls Tryz.prog 48 #[.agg #[.bool (sg (V)),.string (E (V).natAbs)],.agg #[.bool (sg (lo)),.string (E (lo).natAbs)]] w fun e w'=>e=.returned (.tuple #[.agg #[.bool (sg (V-lo)),.string (E (V-lo).natAbs)],.int .i64 0])∧Bw w w'):=fun w=>by
       have h1:=kG.out;have h2:=jW.out;have h3:(256:Nat)^12+1099511627776<256^128:=by decide
       exact isub_c (x:=V) (y:=lo) (w:=w) (by omega) (by omega) (by omega)
      have kJ:Hid ((V-lo).natAbs<256^13):=by
       have h1:=kG.out;have h2:=jW.out;have h3:(256:Nat)^12+1099511627776<256^13:=by decide
       rw[Hid];omega
      obtain⟨dd,kK⟩:∃z,z=V-lo:=⟨_,rfl⟩;rw[←kK]at Jv H5 Hh kJ;clear kK;have hC:CA wx [(⟨gI,0,none⟩,.bool (sg V)),(⟨gI,1,none⟩,.string (E V.natAbs))]:=CA.cons hI.lt (hI.cell 0) (CA.cons hI.lt (hI.cell 1) (CA.nil _));have jh:=fun x hx=>Nat.ne_of_lt (hC x hx).1
      go_upto_region 8 with fail
      go_cut [15,16] (fun s15 s16 wy=>ZBox wx dd s15 s16 wy)
      case first =>
       go_region_held3 (fun w'=>w'.cell? ⟨gI,0,none⟩=some (.bool (sg V))∧w'.cell? ⟨gI,1,none⟩=some (.string (E V.natAbs)))
        ((refine CA.k2 ?_;repeat (first | (with_reducible exact kM) | (with_reducible exact j0) | (with_reducible exact hC) | (with_reducible refine CA.drew ?_) | (with_reducible refine CA.alloc ?_ _) | (refine CA.set ?_ _ _ _ jh) | (refine CA.set ?_ _ _ _ (fun x hx=>Nat.ne_of_lt (j0 x hx).1)) | (refine CA.set ?_ _ _ _ (fun x hx=>Nat.ne_of_lt (kM x hx).1)))))
        (first
         | (go_at_call 49;refine (kI.out _).mono ?_;rintro e wf ⟨rfl,hl⟩;have j0:CA wf [(⟨gI,0,none⟩,.bool (sg V)),(⟨gI,1,none⟩,.string (E V.natAbs))]:=(by first | exact hC.drew.after hl | exact (hC.alloc _).drew.after hl | exact (hC.drew.alloc _).after hl);(try (have kA:=(Blk.new wx #[.bool false,.string { data:=#[] }] 28).drew.after hl)))
         | (go_at_call 48;refine (Jv.out _).mono ?_;rintro e wg ⟨rfl,Ho⟩;have kM:CA wg [(⟨gI,0,none⟩,.bool (sg V)),(⟨gI,1,none⟩,.string (E V.natAbs))]:=(by first | exact j0.after Ho | exact (j0.alloc _).after Ho);(try (have kB:=kA.after Ho;have kB0:=kB.cell 0;have kB1:=kB.cell 1;have kB2:=kB.free 0;have kB3:=kB.free 1));(try (have kC:=(Blk.new wf #[.bool false,.string { data:=#[] }] 28).after Ho;have kC0:=kC.cell 0;have kC1:=kC.cell 1;have kC2:=kC.free 0;have kC3:=kC.free 1))))
       all_goals
        go_wp2_with fail
        go_meet
        first
         | exact⟨_,rfl,rfl,Blk.new _ _ _,Nat.le_trans hl.size Ho.size,ba (((Below.drew Br).trans hl).trans (Ho.mono hl.size)) _⟩
         | exact⟨_,rfl,rfl,(kC.set 0 _).set 1 _,hl.size,((bt (ba ((Below.drew Br).trans hl) _) Ho).setCell hl.size _).setCell hl.size _⟩
         | exact⟨_,rfl,rfl,(kB.set 0 _).set 1 _,Nat.le_refl _,((bt (bt ((b1 wx _).drew) hl) Ho).setCell (by simp) _).setCell (by simp) _⟩
      case rest =>
       obtain⟨gX,rfl,rfl,hX,kO,Hp⟩:=hcut;obtain⟨wy,H0⟩:∃wy,wy=wc:=⟨_,rfl⟩;subst H0;replace hB:=hB.after Hp;replace hT:=hT.after Hp;replace hR:=hR.after Hp;replace hK:=SsAt.after hK Hp;replace hi:=bt hi Hp;have h6:Hid (HAtt att T.seed wy):=jf.out.after Hp;have ji:Hid (w1.heap.size≤wy.heap.size):=Nat.le_trans ky.out Hp.size;clear Hp hC jh jf ky hI kI Jv hw;have hw:=hR.lt;have j1:=hX.lt;-- the roots
       have h7:Hid (¬ 4294967296≤dd→∀k,(roots dd).getD k 0<256^8):=fun h k=>roots_lt h k
       by_cases HN:dd<0
       case' pos =>
        have jj:sg dd=true:=by unfold sg;exact Dt HN
        obtain⟨X,Jw,jk,jl⟩:∃X:List Nat,X.length=4∧roots dd=X∧(X.map fun n=>Value.string (E n))=[Value.string ⟨#[]⟩,Value.string ⟨#[]⟩,Value.string ⟨#[]⟩,Value.string ⟨#[]⟩]:=⟨[0,0,0,0],rfl,by rw[roots,if_pos HN],rfl⟩;have jm:=Kh (Hh.out (by omega));have j2:=Kh (h7.out (by omega));rw[jk]at jm j2;rw[jj]at hX;obtain⟨hA,hD⟩:=blk1 wy #[Value.string ⟨#[]⟩,Value.string ⟨#[]⟩,Value.string ⟨#[]⟩,Value.string ⟨#[]⟩] 117;replace hB:=hB.after hD;replace hT:=hT.after hD;replace hR:=hR.after hD;replace hK:=SsAt.after hK hD;replace hi:=bt hi hD;have Hi:Hid (HAtt att T.seed _):=h6.out.after hD;have Jx:Hid (w1.heap.size≤_):=Nat.le_trans ji.out hD.size;clear HN Hh H5 h7 h6 ji hw;obtain⟨Jy,Jz,JA,JB,JC,JD,JE,JF⟩:=hA.x4;obtain⟨hE,hF,hG,hH⟩:=hX.x2;go_wp2;clear Jy Jz JA JB JC JD JE JF;clear hE hF hG hH
        have j3:Hid (∀k:Nat,k<4→∀w,(Instr.index 117 (.agg #[Value.string ⟨#[]⟩,Value.string ⟨#[]⟩,Value.string ⟨#[]⟩,Value.string ⟨#[]⟩]) (.int .i64 (k:Int))).run Tryz.prog w=.ok (.string (E (X.getD k 0))) w):=fun k hk w=>by
         have h:=ixN X Jw k hk w;rw[jl]at h;exact h
        generalize (Value.agg #[Value.string ⟨#[]⟩,Value.string ⟨#[]⟩,Value.string ⟨#[]⟩,Value.string ⟨#[]⟩])=AV at j3 ⊢;generalize wy.alloc (.cells #[Value.string ⟨#[]⟩,Value.string ⟨#[]⟩,Value.string ⟨#[]⟩,Value.string ⟨#[]⟩] 117)=wz at hB hT hR hK hi Hi Jx hA hD ⊢;clear hA hD hX j1 jl jk kO jj
       case' neg =>
        have jj:sg dd=false:=by unfold sg;exact decide_eq_false HN
        rw[jj]at hX;obtain⟨JG,hD⟩:=blk1 wy #[Value.string ⟨#[]⟩,Value.string ⟨#[]⟩,Value.string ⟨#[]⟩,Value.string ⟨#[]⟩] 117;by_cases h8:4294967296≤dd
        ·have j4:Hid (∀w:World,Calls Tryz.prog 50 #[.string (E dd.natAbs)] w fun e w'=>e=.returned (.tuple #[.agg #[.string ⟨#[]⟩,.string ⟨#[]⟩,.string ⟨#[]⟩,.string ⟨#[]⟩],.int .i64 5])∧Bw w w'):=fun w=>four_long dd.natAbs w (by omega) (Nl kJ.out P8)
         have HX:=Kh (H5.out h8);clear h8 HN Hh H5 h7 h6 ji;have H1:=hX.after hD;obtain⟨hE,hF,hG,hH⟩:=hX.x2;obtain⟨Hq,Hr,Hs,Ht⟩:=H1.x2;go_wp2_with fail
         refine (j4.out _).mono ?_;rintro e wf ⟨rfl,hl⟩;clear hE hF hG hH;have H2:=JG.after hl;have kP:=(hR.after hD).after hl;have kQ:=H2.lt;have JH:=kP.lt;have kR:=H1.after hl;have Kv:¬ wy.heap.size=gR:=by omega
         have Kw:=bt (bt hi hD) hl;obtain⟨Hu,Hv,Hw,Hx,Hy,Hz,HA,HB⟩:=H2.x4;obtain⟨jn,kS,jo,kT,jp,kU⟩:=kP.x3;go_wp2;refine bodyPost_ret (v:=.tuple #[.slice none 0 0,.slice none 0 0,.agg #[.slice none 0 0,.string ⟨#[]⟩,.int .i64 0],.int .i64 5]) ?_ rfl ?_
         ·simp[results,Tryz.results16,go_sem,jn,jo,jp,JH,Kv]
         ·rw[HX.out];have H0:=hi.size;exact PrPostF.err (((((((Kw.setCell H0 _).setCell H0 _).setCell H0 _).setCell H0 _).setCell hn.out _).setCell hn.out _).setCell hn.out _)
        rotate_left
        obtain⟨x0,x1,x2,x3,JI⟩:∃x0 x1 x2 x3:Nat,roots dd=[x0,x1,x2,x3]:=by
         have h:=roots_len dd;match roots dd,h with
         | [a,b,c,d],_=>exact⟨a,b,c,d,rfl⟩
        have j4:Hid (∀w:World,Calls Tryz.prog 50 #[.string (E dd.natAbs)] w fun e w'=>e=.returned (.tuple #[.agg #[.string (E x0),.string (E x1),.string (E x2),.string (E x3)],.int .i64 0])∧Bw w w'):=fun w=>by
         have h:=fsfour_c dd.natAbs w (by omega);have e:roots dd=rts (fourF dd.natAbs (rt dd.natAbs)):=by rw[roots,if_neg HN]
         rw[rts_foV,←e,JI]at h;exact h
        obtain⟨X,Jw,jk,jl⟩:∃X:List Nat,X.length=4∧roots dd=X∧(X.map fun n=>Value.string (E n))=[.string (E x0),.string (E x1),.string (E x2),.string (E x3)]:=⟨_,rfl,JI,rfl⟩;have jm:=Kh (Hh.out h8);have j2:=Kh (h7.out h8);rw[jk]at jm j2;clear h8 HN Hh H5 h7 JI jk;have H1:=hX.after hD;obtain⟨hE,hF,hG,hH⟩:=hX.x2;obtain⟨Hq,Hr,Hs,Ht⟩:=H1.x2;go_wp2_with fail
        refine (j4.out _).mono ?_;rintro e wf ⟨rfl,hl⟩;clear hE hF hG hH;have H2:=JG.after hl;have kR:=H1.after hl;have kQ:=H2.lt;have jq:=bt hD hl;have h0:=(((jq.setCell (p:=⟨wy.heap.size,0,none⟩) (Nat.le_refl _) (.string (E x0))).setCell (p:=⟨wy.heap.size,1,none⟩) (Nat.le_refl _) (.string (E x1))).setCell (p:=⟨wy.heap.size,2,none⟩) (Nat.le_refl _) (.string (E x2))).setCell (p:=⟨wy.heap.size,3,none⟩) (Nat.le_refl _) (.string (E x3));replace hB:=hB.after h0;replace hT:=hT.after h0;replace hR:=hR.after h0;replace hK:=SsAt.after hK h0;replace hi:=bt hi h0;have Hi:Hid (HAtt att T.seed _):=h6.out.after h0;have Jx:Hid (w1.heap.size≤_):=Nat.le_trans ji.out h0.size;clear h6 ji hw j4 hX j1;obtain⟨Hu,Hv,Hw,Hx,Hy,Hz,HA,HB⟩:=H2.x4;go_wp2;clear Hu Hv Hw Hx Hy Hz HA HB;clear Hq Hr Hs Ht
        have j3:Hid (∀k:Nat,k<4→∀w,(Instr.index 117 (.agg #[.string (E x0),.string (E x1),.string (E x2),.string (E x3)]) (.int .i64 (k:Int))).run Tryz.prog w=.ok (.string (E (X.getD k 0))) w):=fun k hk w=>by
         have h:=ixN X Jw k hk w;rw[jl]at h;exact h
        generalize (Value.agg #[.string (E x0),.string (E x1),.string (E x2),.string (E x3)])=AV at j3 ⊢;generalize (((wf.setCell ⟨wy.heap.size,0,none⟩ (.string (E x0))).setCell ⟨wy.heap.size,1,none⟩ (.string (E x1))).setCell ⟨wy.heap.size,2,none⟩ (.string (E x2))).setCell ⟨wy.heap.size,3,none⟩ (.string (E x3))=wz at hB hT hR hK hi Hi Jx h0 ⊢;clear H1 kR H2 JG hD jq h0 jl kO jj kQ hl
       all_goals
        have HC:Hid (w.heap.size≤wz.heap.size):=hi.size;have jr:Hid (gR<wz.heap.size):=hR.lt;have js:Hid (r0<256^64):=Nl kH.out P8
        have Kx:Hid (∀(k:Nat) (hk:k<4) (u:Value) (w':World),Bw w w'→SsAt w' u T.vals→Calls Tryz.prog 51 #[.agg #[u,.string T.seed,.int .i64 (ps+(k:Int))],.string (E r0)] w' (CPost w' (T.on k) (prC att r0 T k))):=fun k hk u w' hb hu=>by
         have h:=cbelow_c att (T.on k) u r0 w' (km.out.after hb) (ko.out.on k) js.out hu;rw[show (T.on k).pos=ps+(k:Int) by rw[Jo.out];rfl]at h;exact h
        have Ky:Hid (∀(x y:Nat),x<256^128→y<256^128→∀w:World,Calls Tryz.prog 52 #[.agg #[.string (E p),.string (E 0),.string (E g),.string (E h)],.agg #[.bool false,.string (E x),.bool false,.string (E y)]] w fun e w'=>e=.returned (.tuple #[.string (E (cmtN p g h x y)),.int .i64 0])∧Bw w w'):=fun x y hx hy w=>by
         obtain⟨⟨k1,k2,k3⟩,k4⟩:=jg.out;have Kz:=pedE_grp k4
         have kV:hasB p 0 g=true∧hasB p 0 h=true:=by
          unfold pedE at k4;rw[if_pos Kz]at k4;split at k4
          ·rename_i hh;exact⟨hh.1,hh.2.1⟩
          ·omega
         have:=commit_c p 0 g h (x:Int) (y:Int) w k1 (by decide) k2 k3 (by rw[Int.natAbs_natCast];exact hx) (by rw[Int.natAbs_natCast];exact hy) k4 kV.1 kV.2;unfold opn at this;rwa [Int.natAbs_natCast,Int.natAbs_natCast,sg_nat,sg_nat]at this
        clear jg Hi kH;go_loopw [18,19,90] (fun v18 v19 i wr=>∃(k:Nat) (uo:Option Addr) (um uc:Nat),k≤4∧i=.int .i64 k∧Hid (∀j,j<k→(prC att r0 T j).1=0)∧wr.ownsRow wz.heap.size 22 1 v18 k (strs (prP att p g h r0 X T k))∧wr.ownsRow wz.heap.size 30 4 v19 k (((prO att r0 X T k).map nop).flatMap opc)∧Blk wr gT 35 [.slice uo um uc,.string T.seed,.int .i64 (ps+(k:Int))]∧Blk wr gR 35 [.slice none 0 0,.string ⟨#[]⟩,.int .i64 0]∧Blk wr w.heap.size 26 [Value.string (E p),Value.string (E 0),Value.string (E g),Value.string (E h)]∧SsAt wr (.slice uo um uc) T.vals∧FarS (.slice uo um uc) gT∧FarS (.slice uo um uc) gR∧Hid (k≠0→∀g,g<w.heap.size→FarS (.slice uo um uc) g)∧wz.heap.size≤wr.heap.size∧Bw w wr) (fun _ _ i _=>4-(intOf i).toNat)
        case atStart=>exact⟨0,at_,nt,ct,by omega,rfl,fun j h=>absurd h (Nat.not_lt_zero _),World.ownsRow_nil _ _ _ _,World.ownsRow_nil _ _ _ _,by rw[show ps+((0:Nat):Int)=ps by omega];exact hT,hR,hB,hK,jX,HJ,fun h=>absurd rfl h,Nat.le_refl _,hi⟩
        case round =>
         clear hB hT hR hK hi jX HJ;obtain⟨k,uo,um,uc,hk,rfl,j5,hO,hQ,hT,hR,hB,hU,jX,HJ,kW,h0,jt⟩:=hrel;obtain⟨wp,KA⟩:∃wp,wp=wr:=⟨_,rfl⟩;subst KA;by_cases hlt:k<4
         ·have kX:=Kh (j2.out k);have kY:=j3.out k hlt;have j6:=Kh (prP_snoc att p g h r0 X T k);have j7:=Kh (prO_snoc att r0 X T k);have JJ:=Kh (Kx.out k hlt _ wp jt hU);have j8:Hid ((prC att r0 T k).1≠0→R=⟨(prC att r0 T k).1,[],[],Tp.nil⟩):=fun e=>jm.out.trans (prN_bad hlt j5.out e)
          have j9:Hid ((prC att r0 T k).1=0→∀j,j<k+1→(prC att r0 T j).1=0):=fun e j hj=>by
           by_cases ej:j=k
           ·rw[ej];exact e
           ·exact j5.out j (by omega)
          have JK:Hid ((prC att r0 T k).1=0→(prC att r0 T k).2<256^64):=fun e=>Nat.lt_trans (prC_lt e) js.out
          clear j5 hU;generalize prC att r0 T k=dk at JJ j8 j9 j6 j7 JK;obtain⟨ke,xe⟩:=dk;generalize X.getD k 0=xk at kX j6 j7 kY;have KB:=Kh (prP_len att p g h r0 X T k);have JL:=Kh (prO_len att r0 X T k);have HO:Hid (prP att p g h r0 X T (k+1)=prP att p g h r0 X T k++[cmtN p g h xk xe]):=j6.out;have ju:Hid (prO att r0 X T (k+1)=prO att r0 X T k++[(xk,xe)]):=j7.out;clear j6 j7;generalize prP att p g h r0 X T k=LP at hO HO KB;generalize prO att r0 X T k=LO at hQ ju JL;have KZ:(0:Int)≤(k:Int):=by omega
          have K0:(k:Int)<4:=by omega
          obtain⟨T1,kZ⟩:∃t,t=(T.on k).after ke:=⟨_,rfl⟩;have Ja:=Kh kZ;clear kZ;have Hl:=hT.lt;have hw:=hR.lt;obtain⟨hL,hM,hN,hP,hS,hW⟩:=hT.x3;go_wp2_with fail
          refine (JJ.out).mono ?_;rintro e wd ⟨t,rfl,⟨u,rfl,Ha⟩,HP,hbd⟩;clear hL hM hN hP hS hW;rw[←Ja.out]at Ha;rw[←Ja.out];obtain⟨xo,xc,rfl⟩:=RAt.form Ha;obtain⟨xm,k0⟩:∃m,m=T1.vals.length:=⟨_,rfl⟩;rw[←k0]at Ha HP ⊢;clear k0;have Jb:=Kh (HP.far Hl);have KC:=Kh (HP.far hw);have KD:Hid (∀y,u18.ownBlock=some y→FarS (.slice xo xm xc) y):=fun y hy=>HP.far (own_lt hO hy).1
          have KE:Hid (∀g,g<w.heap.size→FarS (.slice xo xm xc) g):=fun g hg=>HP.far (Nl hg jt.size)
          clear kW;have KF:Hid (∀y,u19.ownBlock=some y→FarS (.slice xo xm xc) y):=fun y hy=>HP.far (own_lt hQ hy).1
          have HD:=hT.after hbd;have HQ:=hR.after hbd;have Hm:=hB.after hbd;have HR:=own_after hO hbd;have HS:=own_after hQ hbd;have hY:=Nat.le_trans h0 hbd.size;have hZ:=bt jt hbd;clear hT hR hB hO hQ h0 jt hbd JJ HP jX HJ Hl hw kY;obtain⟨hX,Hb⟩:=blk1 wd #[.slice xo xm xc,.string T1.seed,.int .i64 T1.pos] 35;have JM:=hY;go_upto_region 22 with fail
          replace HD:=HD.after Hb;replace HQ:=HQ.after Hb;replace Hm:=Hm.after Hb;replace HR:=own_after HR Hb;replace HS:=own_after HS Hb;replace Ha:=SsAt.after Ha Hb;replace hY:=Nat.le_trans hY Hb.size;replace hZ:=bt hZ Hb;have Ka:Hid (gR<wd.heap.size):=by have h1:=jr.out;rw[Hid];omega
          generalize wd.alloc (.cells #[.slice xo xm xc,.string T1.seed,.int .i64 T1.pos] 35)=we at hX Hb HD HQ Hm HR HS Ha hY hZ ⊢;obtain⟨gY,Kb⟩:∃g,wd.heap.size=g:=⟨_,rfl⟩;rw[Kb]at hX Ka ⊢;replace hX:Blk we gY 35 [.slice xo xm xc,.string T1.seed,.int .i64 T1.pos]:=hX;clear Kb Hb;by_cases JN:ke=0
          ·subst JN;have JO:=Kh (j9.out rfl);have KG:=Kh (JK.out rfl);clear j9 j8 JK
           have JP:Hid (T1.vals=T.vals∧T1.seed=T.seed∧T1.pos=ps+((k:Int)+1)):=by
            rw[Hid,Ja.out,show (T.on k).after 0=T.on (k+1) from Tp.on_on T k 1,Jo.out];exact⟨rfl,rfl,rfl⟩
           rw[JP.out.1]at Ha;have JQ:=Kh JP.out.2;rw[JQ.out.1,JQ.out.2]at hX;clear JP Ja JQ;have Hl:=HD.lt;have j1:=hX.lt;have e1:¬ gY=gT:=by have h1:=Ka.out;have h2:=HY.out;omega
           obtain⟨hE,hF,hG,hH,JR,JS⟩:=hX.x3;obtain⟨jv,jw,jx,jy,jz,jA⟩:=HD.x3;go_upto_region 25 with fail
           clear hE hF hG hH JR JS;clear jv jw jx jy jz jA;have HT:=((HD.set 0 (.slice xo xm xc)).set 1 (.string T.seed)).set 2 (.int .i64 (ps+((k:Int)+1)));have Hj:Hid (w.heap.size≤gT∧w.heap.size≠gT∧gR≠gT):=by have h1:=HY.out;rw[Hid];omega
           have jB:=((HQ.other ⟨gT,0,none⟩ (.slice xo xm xc) Hj.out.2.2).other ⟨gT,1,none⟩ (.string T.seed) Hj.out.2.2).other ⟨gT,2,none⟩ (.int .i64 (ps+((k:Int)+1))) Hj.out.2.2;have HE:=((Hm.other ⟨gT,0,none⟩ (.slice xo xm xc) Hj.out.2.1).other ⟨gT,1,none⟩ (.string T.seed) Hj.out.2.1).other ⟨gT,2,none⟩ (.int .i64 (ps+((k:Int)+1))) Hj.out.2.1;have Jc:u18.ownBlock≠some gT:=fun e=>by have h1:=(own_lt HR e).2;have h2:=jr.out;have h3:=HY.out;omega
           have Jd:u19.ownBlock≠some gT:=fun e=>by have h1:=(own_lt HS e).2;have h2:=jr.out;have h3:=HY.out;omega
           have h4:=own_set (i:=2) (u:=.int .i64 (ps+((k:Int)+1))) (own_set (i:=1) (u:=.string T.seed) (own_set (i:=0) (u:=.slice xo xm xc) HR Jc) Jc) Jc;have H3:=own_set (i:=2) (u:=.int .i64 (ps+((k:Int)+1))) (own_set (i:=1) (u:=.string T.seed) (own_set (i:=0) (u:=.slice xo xm xc) HS Jd) Jd) Jd;have Je:=((Ha.set_far (i:=0) (x:=.slice xo xm xc) Jb.out).set_far (i:=1) (x:=.string T.seed) Jb.out).set_far (i:=2) (x:=.int .i64 (ps+((k:Int)+1))) Jb.out;have Hk:=((hZ.setCell (p:=⟨gT,0,none⟩) Hj.out.1 (.slice xo xm xc)).setCell (p:=⟨gT,1,none⟩) Hj.out.1 (.string T.seed)).setCell (p:=⟨gT,2,none⟩) Hj.out.1 (.int .i64 (ps+((k:Int)+1)));have Jf:Hid (wz.heap.size≤(((we.setCell ⟨gT,0,none⟩ (.slice xo xm xc)).setCell ⟨gT,1,none⟩ (.string T.seed)).setCell ⟨gT,2,none⟩ (.int .i64 (ps+((k:Int)+1)))).heap.size):=by simp only[Hid,World.size_setCell];exact hY
           clear HD HQ Hm HR HS Ha hZ hX Hl j1 e1 Jc Jd JM hY;generalize ((we.setCell ⟨gT,0,none⟩ (.slice xo xm xc)).setCell ⟨gT,1,none⟩ (.string T.seed)).setCell ⟨gT,2,none⟩ (.int .i64 (ps+((k:Int)+1)))=ws at HT jB HE h4 H3 Je Hk Jf ⊢;replace HT:Blk ws gT 35 [.slice xo xm xc,.string T.seed,.int .i64 (ps+((k:Int)+1))]:=HT;have HU:=Kh (Ky.out xk xe (Nl kX.out P8) (Nl KG.out P8));generalize cmtN p g h xk xe=cm at HU HO;obtain⟨hJ,JT⟩:=blk1 ws #[.bool false,.string (E xk),.bool false,.string (E xe)] 30;have HL:=HE.lt;have KH:=HE.after JT;obtain⟨jC,jD,jE,jF,jG,jH,jI,jJ⟩:=hJ.x4;obtain⟨jK,jL,jM,jN,jO,jP,jQ,jR⟩:=HE.x4;go_wp2_with fail
           refine (HU.out _).mono ?_;rintro e wm ⟨rfl,JU⟩;clear jC jD jE jF jG jH jI jJ;clear jK jL jM jN jO jP jQ jR;have hv:=bt JT JU;replace HT:=HT.after hv;replace jB:=jB.after hv;replace HE:=HE.after hv;have JV:=H3;replace h4:=own_after h4 hv;replace H3:=own_after H3 hv;replace Je:=SsAt.after Je hv;replace Hk:=bt Hk hv;replace hJ:=hJ.after JU;replace Jf:Hid (wz.heap.size≤wm.heap.size):=Nat.le_trans Jf.out hv.size;obtain⟨gO,KI⟩:∃g,ws.heap.size=g:=⟨_,rfl⟩;rw[KI]at hJ ⊢;replace hJ:Blk wm gO 30 [.bool false,.string (E xk),.bool false,.string (E xe)]:=hJ;clear JT JU hv KH HL HU;go_upto_region 29 with fail
           have hC:CA wm [(⟨gO,0,none⟩,.bool false),(⟨gO,1,none⟩,.string (E xk)),(⟨gO,2,none⟩,.bool false),(⟨gO,3,none⟩,.string (E xe))]:=CA.cons hJ.lt (hJ.cell 0) (CA.cons hJ.lt (hJ.cell 1) (CA.cons hJ.lt (hJ.cell 2) (CA.cons hJ.lt (hJ.cell 3) (CA.nil _))))
           have KJ:Hid (∀q∈[((⟨gO,0,none⟩:Addr),Value.bool false),(⟨gO,1,none⟩,.string (E xk)),(⟨gO,2,none⟩,.bool false),(⟨gO,3,none⟩,.string (E xe))],u18.ownBlock≠some q.1.block):=fun q hq=>by
            have e:=own_ne h4 hJ (by decide);simp only[List.mem_cons,List.not_mem_nil,or_false]at hq;rcases hq with rfl | rfl | rfl | rfl <;> exact e
           have JW:Hid (u19.ownBlock≠some gO):=fun e=>by
            have h1:=(own_lt JV e).1;omega
           have KK:Hid (∀q∈[((⟨gO,0,none⟩:Addr),Value.bool false),(⟨gO,1,none⟩,.string (E xk)),(⟨gO,2,none⟩,.bool false),(⟨gO,3,none⟩,.string (E xe))],u19.ownBlock≠some q.1.block):=fun q hq=>by
            simp only[List.mem_cons,List.not_mem_nil,or_false]at hq;rcases hq with rfl | rfl | rfl | rfl <;> exact JW.out
           have KL:=Jf.out
           go_region_held3 (fun w'=>w'.cell? ⟨gO,0,none⟩=some (.bool false)∧w'.cell? ⟨gO,1,none⟩=some (.string (E xk))∧w'.cell? ⟨gO,2,none⟩=some (.bool false)∧w'.cell? ⟨gO,3,none⟩=some (.string (E xe))) ((refine CA.k4 ?_;repeat (first | (with_reducible exact Kc) | (with_reducible exact HM) | (with_reducible exact hC) | (with_reducible refine CA.drew ?_) | (with_reducible refine CA.alloc ?_ _))))
            (first
             | (refine step_append_lies _ (by rfl) (.tmp 120) (.tmp 122) _ (by rfl) wz.heap.size 22 i0 _ 1 16 Tryz.underlying33 kc.out kd.out kf.out kg.out rfl (by omega) u18 k (strs LP) (by rfl) (by repeat (first | (with_reducible exact h4) | (with_reducible refine World.ownsRow.drew ?_) | (with_reducible refine World.ownsRow.alloc ?_ _))) _ 1 1 [.string (E cm)] (by rfl) rfl (Blk.cells (T:=22) (by first | exact blkN (by simp) | exact (blkN (by simp)).alloc _)) (by simp[Value.oneCell']) (by omega) (by simp only[maxLen];omega) (by omega) (by simp;omega) _ rfl ?_;intro ga ca wa HF he JX KM;clear JX;have H4:wa.ownsRow wz.heap.size 30 4 u19 k ((LO.map nop).flatMap opc):=own_grown (b1:=wz.heap.size) (b2:=wz.heap.size) (e1:=30) (e2:=22) (s1:=4) (s2:=1) (n1:=k) (n2:=k) (v1:=u19) (v2:=u18) (x1:=(LO.map nop).flatMap opc) (x2:=strs LP) (by repeat (first | (with_reducible exact H3) | (with_reducible refine World.ownsRow.drew ?_) | (with_reducible refine World.ownsRow.alloc ?_ _))) (by repeat (first | (with_reducible exact h4) | (with_reducible refine World.ownsRow.drew ?_) | (with_reducible refine World.ownsRow.alloc ?_ _))) (by decide) he;have HM:CA wa [((⟨gO,0,none⟩:Addr),Value.bool false),(⟨gO,1,none⟩,.string (E xk)),(⟨gO,2,none⟩,.bool false),(⟨gO,3,none⟩,.string (E xe))]:=CA.grown (by repeat (first | (with_reducible exact hC) | (with_reducible refine CA.drew ?_) | (with_reducible refine CA.alloc ?_ _))) he KJ.out;have JY:Blk wa gT 35 [.slice xo xm xc,.string T.seed,.int .i64 (ps+((k:Int)+1))]:=Blk.grown (by repeat (first | (with_reducible exact HT) | (with_reducible refine Blk.drew ?_) | (with_reducible refine Blk.alloc ?_ _))) he (own_ne h4 HT (by decide));have JZ:Blk wa gR 35 [.slice none 0 0,.string ⟨#[]⟩,.int .i64 0]:=Blk.grown (by repeat (first | (with_reducible exact jB) | (with_reducible refine Blk.drew ?_) | (with_reducible refine Blk.alloc ?_ _))) he (own_ne h4 jB (by decide));have HZ:Blk wa w.heap.size 26 [Value.string (E p),Value.string (E 0),Value.string (E g),Value.string (E h)]:=Blk.grown (by repeat (first | (with_reducible exact HE) | (with_reducible refine Blk.drew ?_) | (with_reducible refine Blk.alloc ?_ _))) he (own_ne h4 HE (by decide));have Kd:Bw w wa:=Below.grown (by repeat (first | (with_reducible exact Hk) | (with_reducible refine Below.drew ?_) | (with_reducible refine Below.alloc ?_ (by have h1:=HC.out;first | omega | (simp;omega)) _))) he (by have h1:=HC.out;simp;omega) (fun y hy=>Nat.le_trans HC.out (own_lt h4 hy).2);have HV:wz.heap.size≤wa.heap.size:=Nat.le_trans (by simp;omega) he.size;(try (have J0:Blk wa wm.heap.size 30 [.bool false,.string (E xk),.bool false,.string (E xe)]:=Blk.grown ((Blk.new wm #[.bool false,.string (E xk),.bool false,.string (E xe)] 30).alloc (.cells #[.string (E cm)] 22)).drew he (fun e=>by have:=(own_lt h4 e).1;omega)));(try (have J1:Blk wa (wm.heap.size+1) 30 [.bool false,.string (E xk),.bool false,.string (E xe)]:=Blk.grown (blk2b wm #[.string (E cm)] #[.bool false,.string (E xk),.bool false,.string (E xe)] 22 30).drew he (fun e=>by have:=(own_lt h4 e).1;omega))))
             | (refine step_append_lies _ (by rfl) (.tmp 124) (.tmp 126) _ (by rfl) wz.heap.size 30 i1 _ 4 48 Tryz.underlying65 Kl.out Km.out Kn.out Ko.out rfl (by omega) u19 k ((LO.map nop).flatMap opc) (by rfl) (by repeat (first | (with_reducible exact H4) | (with_reducible refine World.ownsRow.drew ?_) | (with_reducible refine World.ownsRow.alloc ?_ _))) _ 1 1 [.bool false,.string (E xk),.bool false,.string (E xe)] (by rfl) rfl (Blk.cells (T:=30) (by first | exact J0 | exact J1 | exact Blk.new _ _ _)) (by simp[Value.oneCell']) (by omega) (by simp only[maxLen];omega) (by omega) (by first | exact HV | (simp;omega)) _ rfl ?_;intro gb cb wb HG hf J2 KN;clear J2;have Ke:wb.ownsRow wz.heap.size 22 1 (.slice (some ⟨ga,0,none⟩) (k+1) ca) (k+1) (strs LP++[.string (E cm)]):=own_grown (b1:=wz.heap.size) (b2:=wz.heap.size) (e1:=22) (e2:=30) (s1:=1) (s2:=4) (n1:=k+1) (n2:=k) (v1:=.slice (some ⟨ga,0,none⟩) (k+1) ca) (v2:=u19) (x1:=strs LP++[.string (E cm)]) (x2:=(LO.map nop).flatMap opc) (by repeat (first | (with_reducible exact HF) | (with_reducible refine World.ownsRow.drew ?_) | (with_reducible refine World.ownsRow.alloc ?_ _))) (by repeat (first | (with_reducible exact H4) | (with_reducible refine World.ownsRow.drew ?_) | (with_reducible refine World.ownsRow.alloc ?_ _))) (by decide) hf;have Kc:CA wb [((⟨gO,0,none⟩:Addr),Value.bool false),(⟨gO,1,none⟩,.string (E xk)),(⟨gO,2,none⟩,.bool false),(⟨gO,3,none⟩,.string (E xe))]:=CA.grown (by repeat (first | (with_reducible exact HM) | (with_reducible refine CA.drew ?_) | (with_reducible refine CA.alloc ?_ _))) hf KK.out))
           all_goals
            have KO:Blk wb gT 35 [.slice xo xm xc,.string T.seed,.int .i64 (ps+((k:Int)+1))]:=Blk.grown (by repeat (first | (with_reducible exact JY) | (with_reducible refine Blk.drew ?_) | (with_reducible refine Blk.alloc ?_ _))) hf (own_ne H4 JY (by decide));have KP:Blk wb gR 35 [.slice none 0 0,.string ⟨#[]⟩,.int .i64 0]:=Blk.grown (by repeat (first | (with_reducible exact JZ) | (with_reducible refine Blk.drew ?_) | (with_reducible refine Blk.alloc ?_ _))) hf (own_ne H4 JZ (by decide));have KQ:Blk wb w.heap.size 26 [Value.string (E p),Value.string (E 0),Value.string (E g),Value.string (E h)]:=Blk.grown (by repeat (first | (with_reducible exact HZ) | (with_reducible refine Blk.drew ?_) | (with_reducible refine Blk.alloc ?_ _))) hf (own_ne H4 HZ (by decide));have KR:Bw w wb:=Below.grown (by repeat (first | (with_reducible exact Kd) | (with_reducible refine Below.drew ?_) | (with_reducible refine Below.alloc ?_ (by have h1:=HC.out;first | omega | (simp;omega)) _))) hf (by have h1:=HC.out;first | omega | (simp;omega)) (fun y hy=>Nat.le_trans HC.out (own_lt H3 hy).2);have J3:wz.heap.size≤wb.heap.size:=Nat.le_trans (by first | exact HV | (simp;omega)) hf.size;have Kf:SsAt wa (.slice xo xm xc) T.vals:=SsAt.grown (by repeat (first | (with_reducible exact Je) | (with_reducible refine ss_drew ?_) | (with_reducible refine ss_alloc ?_ _))) he KD.out;have KS:SsAt wb (.slice xo xm xc) T.vals:=SsAt.grown (by repeat (first | (with_reducible exact Kf) | (with_reducible refine ss_drew ?_) | (with_reducible refine ss_alloc ?_ _))) hf KF.out;have KT:wb.ownsRow wz.heap.size 22 1 (.slice (some ⟨ga,0,none⟩) (k+1) ca) (k+1) (strs (prP att p g h r0 X T (k+1))):=by rw[HO.out,←strs_app];exact Ke
            have KU:wb.ownsRow wz.heap.size 30 4 (.slice (some ⟨gb,0,none⟩) (k+1) cb) (k+1) (((prO att r0 X T (k+1)).map nop).flatMap opc):=by rw[ju.out,List.map_append,List.flatMap_append];exact HG
            clear Ke HG HF HM Kc HZ Kd he hf H4 JY JZ Kf HV;go_wp2;go_roundw
            case rel=>exact⟨k+1,xo,xm,xc,by omega,by go_num,JO.out,KT,KU,KO,KP,KQ,KS,Jb.out,KC.out,fun _=>KE.out,J3,KR⟩
            case measure=>simp[intOf];omega
          ·have K1:((ke:Int) != 0)=true:=by rw[bne_iff_ne];omega
           have J4:=Kh (j8.out JN);clear JN j8 j9 hX HR HS Ha HD Hm;have hw:=HQ.lt;obtain⟨jS,Kg,jT,Ki,jU,Kj⟩:=HQ.x3;go_wp2;refine bodyPost_ret (v:=.tuple #[.slice none 0 0,.slice none 0 0,.agg #[.slice none 0 0,.string ⟨#[]⟩,.int .i64 0],.int .i64 (ke:Int)]) ?_ rfl ?_
           ·simp[results,Tryz.results16,go_sem,jS,jT,jU,hw]
           ·rw[J4.out];exact PrPostF.err (((hZ.setCell hn.out _).setCell hn.out _).setCell hn.out _)
         ·obtain rfl:4=k:=by omega
          have J4:Hid (R=⟨0,prP att p g h r0 X T 4,prO att r0 X T 4,T.on 4⟩):=by rw[Hid,jm.out,prN_ok j5.out]
          have Hl:=hT.lt;have hw:=hR.lt;have n1':¬ gT=gR:=by have:=HY.out;omega
          obtain⟨hL,hM,hN,hP,hS,hW⟩:=hT.x3;obtain⟨ho,Hd,hr,He,ht,Hf⟩:=hR.x3;go_wp2_with fail
          go_region;go_wp2;refine bodyPost_ret (v:=.tuple #[u18,u19,.agg #[.slice uo um uc,.string T.seed,.int .i64 (ps+((4:Nat):Int))],.int .i64 0]) ?_ rfl ?_
          ·simp[results,Tryz.results16,go_sem,ho,hr,ht,hw]
          ·rw[J4.out];have J5:u18.ownBlock≠some gR:=fun e=>by have h1:=(own_lt hO e).2;have h2:=jr.out;omega
           have J6:u19.ownBlock≠some gR:=fun e=>by have h1:=(own_lt hQ e).2;have h2:=jr.out;omega
           refine⟨u18,u19,_,rfl,?_,?_,⟨.slice uo um uc,?_,SsAt.after (((hU.set_far HJ).set_far HJ).set_far HJ) (Below.drew Br)⟩,TFar.of (fun b hb=>kW.out (by decide) b hb),(((jt.setCell hn.out _).setCell hn.out _).setCell hn.out _).drew⟩
           ·show World.ownsRow _ _ _ _ _ (prP att p g h r0 X T 4).length _;rw[prP_len];exact own_mono (World.ownsRow.drew (own_set (own_set (own_set hO J5) J5) J5)) HC.out
           ·show World.ownsRow _ _ _ _ _ (prO att r0 X T 4).length _;rw[prO_len];exact own_mono (World.ownsRow.drew (own_set (own_set (own_set hQ J6) J6) J6)) HC.out
           ·rw[show (T.on 4).pos=ps+((4:Nat):Int) by rw[Jo.out];rfl];rfl
theorem sqprep_c (att:Att) (a b c d:ByteArray) (lo:Int) (vn:Bool) (va:ByteArray) (rn:Bool) (ra rd:ByteArray) (T:Tp) (v:Value) (w:World)
  (hf:HAtt att T.seed w) (hg:T.Ok) (ha:a.size≤8) (hb:b.size≤100) (hc:c.size≤100) (hd:d.size≤100) (hh:va.size≤12) (hi:ra.size≤12) (hj:rd.size≤12) (hk:-1099511627776<lo) (he:lo<1099511627776) (hV:SsAt w v T.vals) :
  Calls Tryz.prog 16 #[.agg #[.string a,.string b,.string c,.string d],.int .i64 lo,.agg #[.bool vn,.string va,.bool rn,.string ra],.string rd,.agg #[v,.string T.seed,.int .i64 T.pos]] w (PrPost w (prR att a b c d lo vn va rn ra rd T)):=
 (sqprep_f att a b c d lo vn va rn ra rd T v w hf hg ha hb hc hd hh hi hj hk he hV).mono fun _ _ h=>PrPostF.of h
end
end Go.Proofs.YtdgddpnjkinciaaGreatDoor
