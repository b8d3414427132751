/- squarerange.Prepare. -/
import Derived.Test.YteahlbhjhjhljaaGreatDoorWt27
import Derived.Test.YteahlbhjhjhljaaGreatDoorCo4
import Derived.Test.YteahlbhjhjhljaaGreatDoorHoR
import Derived.Test.YteahlbhjhjhljaaGreatDoorFs5
import Derived.Test.YteahlbhjhjhljaaGreatDoorImg2
import Derived.Test.YteahlbhjhjhljaaGreatDoorLc27
import Derived.Test.YteahlbhjhjhljaaGreatDoorLck5
set_option linter.unusedVariables false
set_option linter.unusedSimpArgs false
set_option maxRecDepth 100000
set_option maxHeartbeats 16000000
namespace Go.Proofs.YteahlbhjhjhljaaGreatDoor
section
/- What Prepare returns: parts,openings,tape. -/
open Go.RowKit Go.Shelf
theorem info_opening:(Tryz.prog.info? 30).map (fun i=>(i.zero,i.size,i.bytes))=some (some (.agg #[.bool false,.string { data:=#[] },.bool false,.string { data:=#[] }]),4,48):=by kernel_rfl
structure PrR where
 err:Nat
 parts:List Nat
 ops:List (Nat × Nat)
 tp:Tp
def nop (x:Nat × Nat):Opn:=⟨false,E x.1,false,E x.2⟩
def rts:Option (Nat × Nat × Nat × Nat)→List Nat
 | some (a,x,y,z)=>[a,x,y,z]
 | none=>[0,0,0,0]
theorem rts_foV (o:Option (Nat × Nat × Nat × Nat)):foV o=(rts o).map (fun n=>Value.string (E n)):=by
 rcases o with _ | ⟨a,x,y,z⟩ <;> rfl
theorem rts_len (o:Option (Nat × Nat × Nat × Nat)):(rts o).length=4:=by rcases o with _ | ⟨a,x,y,z⟩ <;> rfl
def roots (d:Int):List Nat:=if d<0 then [0,0,0,0] else rts (fourF d.natAbs (rt d.natAbs))
theorem roots_len (d:Int):(roots d).length=4:=by unfold roots;split;rfl;exact rts_len _
def prC (att:Att) (rd:Nat) (T:Tp) (j:Nat):Nat × Nat:=coin att (T.on j) rd
def prP (att:Att) (p g h rd:Nat) (X:List Nat) (T:Tp) (k:Nat):List Nat:=(List.range k).map fun j=>cmtN p g h (X.getD j 0:Nat) ((prC att rd T j).2:Nat)
def prO (att:Att) (rd:Nat) (X:List Nat) (T:Tp) (k:Nat):List (Nat × Nat):=(List.range k).map fun j=>(X.getD j 0,(prC att rd T j).2)
def prN (att:Att) (p g h rd:Nat) (X:List Nat) (T:Tp):PrR:=
 match (List.range 4).find? (fun j=>(prC att rd T j).1 != 0) with
 | some j=>⟨(prC att rd T j).1,[],[],Tp.nil⟩
 | none=>⟨0,prP att p g h rd X T 4,prO att rd X T 4,T.on 4⟩
def prR (att:Att) (a b c d:ByteArray) (lo:Int) (vn:Bool) (va:ByteArray) (rn:Bool) (ra rd:ByteArray) (T:Tp):PrR:=
 if (ivB vn va&&ivB rn ra&&vldB rd&&T.good)=false then ⟨3,[],[],Tp.nil⟩ else if kyV a b c d≠0 then ⟨kyV a b c d,[],[],Tp.nil⟩ else if rd.size=0 then ⟨11,[],[],Tp.nil⟩
 else if 4294967296≤intb vn va-lo then ⟨5,[],[],Tp.nil⟩ else prN att (numb a) (numb c) (numb d) (numb rd) (roots (intb vn va-lo)) T
theorem prN_bad {att:Att} {p g h rd:Nat} {X:List Nat} {T:Tp} {k:Nat} (hk:k<4) (hb:∀j,j<k→(prC att rd T j).1=0) (he:(prC att rd T k).1≠0):prN att p g h rd X T=⟨(prC att rd T k).1,[],[],Tp.nil⟩:=by
 unfold prN;rw [find_range (p:=fun j=>(prC att rd T j).1 != 0) hk (fun j hj=>by rw [hb j hj];rfl) (bne_iff_ne.2 he)]
theorem prN_ok {att:Att} {p g h rd:Nat} {X:List Nat} {T:Tp} (hb:∀j,j<4→(prC att rd T j).1=0):prN att p g h rd X T=⟨0,prP att p g h rd X T 4,prO att rd X T 4,T.on 4⟩:=by
 unfold prN;rw [List.find?_eq_none.2 (fun j hj=>by have:=hb j (List.mem_range.1 hj);simp [this])]
theorem prP_snoc (att:Att) (p g h rd:Nat) (X:List Nat) (T:Tp) (k:Nat):prP att p g h rd X T (k+1)=prP att p g h rd X T k++[cmtN p g h (X.getD k 0:Nat) ((prC att rd T k).2:Nat)]:=by unfold prP;rw [List.range_succ,List.map_append];rfl
theorem prO_snoc (att:Att) (rd:Nat) (X:List Nat) (T:Tp) (k:Nat):prO att rd X T (k+1)=prO att rd X T k++[(X.getD k 0,(prC att rd T k).2)]:=by unfold prO;rw [List.range_succ,List.map_append];rfl
theorem prP_len (att:Att) (p g h rd:Nat) (X:List Nat) (T:Tp) (k:Nat):(prP att p g h rd X T k).length=k:=by unfold prP;simp
theorem prO_len (att:Att) (rd:Nat) (X:List Nat) (T:Tp) (k:Nat):(prO att rd X T k).length=k:=by unfold prO;simp
theorem prC_lt {att:Att} {rd:Nat} {T:Tp} {j:Nat} (h:(prC att rd T j).1=0):(prC att rd T j).2<rd:=by
 unfold prC at *;unfold coin at *;split at h
 ·simp at h
 ·rename_i h1;split at h
  ·simp at h
  ·rename_i h2;rw [if_neg h1,if_neg h2];exact coinD_lt h
def OOwn (w:World) (base:Nat) (v:Value) (L:List (Nat × Nat)):Prop:=w.ownsRow base 30 4 v L.length ((L.map nop).flatMap opc)
theorem OOwn.os {w:World} {base:Nat} {v:Value} {L:List (Nat × Nat)} (h:OOwn w base v L):OsAt w v (L.map nop):=os_own (L.map nop) (by simp) h
def PrPost (w:World) (R:PrR) (e:Ending) (w':World):Prop:=∃u v t,e=.returned (.tuple #[u,v,t,.int .i64 (R.err:Int)])∧NOwn w' w.heap.size u R.parts∧OOwn w' w.heap.size v R.ops∧TAt w' t R.tp∧Below w.heap.size w w'
def PrPostF (w:World) (R:PrR) (e:Ending) (w':World):Prop:=∃u v t,e=.returned (.tuple #[u,v,t,.int .i64 (R.err:Int)])∧NOwn w' w.heap.size u R.parts∧OOwn w' w.heap.size v R.ops∧TAt w' t R.tp∧TFar t w.heap.size∧Below w.heap.size w w'
theorem PrPostF.of {w w':World} {R:PrR} {e:Ending} (h:PrPostF w R e w'):PrPost w R e w':=by
 obtain ⟨u,v,t,h1,h2,h3,h4,_,h6⟩:=h;exact ⟨u,v,t,h1,h2,h3,h4,h6⟩
theorem PrPostF.err {w w':World} {k:Nat} (h:Below w.heap.size w w'):PrPostF w ⟨k,[],[],Tp.nil⟩ (.returned (.tuple #[.slice none 0 0,.slice none 0 0,.agg #[.slice none 0 0,.string ⟨#[]⟩,.int .i64 0],.int .i64 (k:Int)])) w':=
 ⟨_,_,_,rfl,World.ownsRow_nil _ _ _ _,World.ownsRow_nil _ _ _ _,⟨_,rfl,ss_nil _⟩,TFar.zero _ _ _,h⟩
theorem PrPost.err {w w':World} {k:Nat} (h:Below w.heap.size w w'):PrPost w ⟨k,[],[],Tp.nil⟩ (.returned (.tuple #[.slice none 0 0,.slice none 0 0,.agg #[.slice none 0 0,.string ⟨#[]⟩,.int .i64 0],.int .i64 (k:Int)])) w':=
 ⟨_,_,_,rfl,World.ownsRow_nil _ _ _ _,World.ownsRow_nil _ _ _ _,⟨_,rfl,ss_nil _⟩,h⟩
theorem blk4 (w:World) (A B C D:Array Value) (TA TB TC TD:TypeId):Blk ((((w.alloc (.cells A TA)).alloc (.cells B TB)).alloc (.cells C TC)).alloc (.cells D TD)) w.heap.size TA A.toList∧Blk ((((w.alloc (.cells A TA)).alloc (.cells B TB)).alloc (.cells C TC)).alloc (.cells D TD)) (w.heap.size+1) TB B.toList∧Blk ((((w.alloc (.cells A TA)).alloc (.cells B TB)).alloc (.cells C TC)).alloc (.cells D TD)) (w.heap.size+2) TC C.toList∧Blk ((((w.alloc (.cells A TA)).alloc (.cells B TB)).alloc (.cells C TC)).alloc (.cells D TD)) (w.heap.size+3) TD D.toList∧Below w.heap.size w ((((w.alloc (.cells A TA)).alloc (.cells B TB)).alloc (.cells C TC)).alloc (.cells D TD)):=by
 refine ⟨(blk3a w A B C TA TB TC).alloc _,(blk3b w A B C TA TB TC).alloc _,(blk3c w A B C TA TB TC).alloc _,?_,ba (b3 w _ _ _) _⟩;have h:=Blk.new (((w.alloc (.cells A TA)).alloc (.cells B TB)).alloc (.cells C TC)) D TD;simp only [World.size_alloc] at h;exact h
end
section
open Go.RowKit Go.Shelf
theorem agg_nat (w:World):(isAgg 22).run Tryz.prog w=.ok false w:=by
 simp [isAgg,run_underlying Tryz.underlying22,go_sem]
theorem info_nat1:(Tryz.prog.info? 22).map (fun i=>i.size)=some 1:=by kernel_rfl
theorem ixN (X:List Nat) (hX:X.length=4) (k:Nat) (hk:k<4) (w:World):(Instr.index 171 (.agg (X.map fun n=>Value.string (E n)).toArray) (.int .i64 (k:Int))).run Tryz.prog w=.ok (.string (E (X.getD k 0))) w:=
 run_index_agg 171 22 4 _ .i64 k _ Tryz.underlying171 (by omega) (by omega) info_nat1 (agg_nat w) (by
  have h:k<X.length:=by omega
  simp [List.getElem?_eq_getElem h,List.getD_eq_getElem?_getD])
theorem roots_lt {d:Int} (h:¬ 4294967296≤d) (k:Nat):(roots d).getD k 0<256^8:=by
 unfold roots;split
 ·match k with
  | 0=>decide
  | 1=>decide
  | 2=>decide
  | 3=>decide
  | k+4=>exact (by decide:(0:Nat)<256^8)
 ·obtain ⟨a,b,c,e,h1,h2⟩:=fourF_spec d.natAbs;rw [h1]
  have sq:∀x:Nat,x≤x*x:=fun x=>by
   rcases Nat.eq_zero_or_pos x with h | h
   ·rw [h];exact Nat.le_refl _
   ·exact Nat.le_mul_of_pos_left x h
  have ha:=sq a;have hb:=sq b;have hc:=sq c;have he:=sq e;have h8:(4294967296:Nat)≤256^8:=by decide
  match k with
  | 0=>show a<_;omega
  | 1=>show b<_;omega
  | 2=>show c<_;omega
  | 3=>show e<_;omega
  | k+4=>exact (by decide:(0:Nat)<256^8)
theorem sqprep_f (att:Att) (a b c d:ByteArray) (lo:Int) (vn:Bool) (va:ByteArray) (rn:Bool) (ra rd:ByteArray) (T:Tp) (v:Value) (w:World)
  (hat:HAtt att T.seed w) (hok:T.Ok) (ha:a.size≤8) (hb:b.size≤100) (hc:c.size≤100) (hd:d.size≤100) (hva:va.size≤12) (hra:ra.size≤12) (hrd:rd.size≤12) (hlo:-1099511627776<lo) (hlo2:lo<1099511627776) (hV:SsAt w v T.vals) :
  Calls Tryz.prog 43 #[.agg #[.string a,.string b,.string c,.string d],.int .i64 lo,.agg #[.bool vn,.string va,.bool rn,.string ra],.string rd,.agg #[v,.string T.seed,.int .i64 T.pos]] w (PrPostF w (prR att a b c d lo vn va rn ra rd T)):=by
 obtain ⟨i0,hi0,hz00,hz01,hz02⟩:=info_parts info_nat;obtain ⟨i1,hi1,hz10,hz11,hz12⟩:=info_parts info_opening;have HI0:=Lib.hid hi0;have HA0:=Lib.hid hz00;have HB0:=Lib.hid hz01;have HC0:=Lib.hid hz02;have HI1:=Lib.hid hi1;have HA1:=Lib.hid hz10;have HB1:=Lib.hid hz11;have HC1:=Lib.hid hz12;clear hi0 hz00 hz01 hz02 hi1 hz10 hz11 hz12;obtain ⟨m,hm⟩:∃m,chkV [(vn,va),(rn,ra)] (rd :: T.vals) a b c d=m:=⟨_,rfl⟩;obtain ⟨R,hR⟩:∃R,R=prR att a b c d lo vn va rn ra rd T:=⟨_,rfl⟩;rw [←hR];-- what is returned
 have HBT:Hid ((decide (0≤T.pos)&&decide (T.pos≤2147483647))=false→R=⟨3,[],[],Tp.nil⟩):=fun h=>by
  rw [hR,prR,if_pos (by rw [Tp.good,h,Bool.and_false,Bool.and_false])]
 have hpos:(decide (0≤T.pos)&&decide (T.pos≤2147483647))=true→(ivB vn va&&ivB rn ra&&vldB rd&&T.good)=([(vn,va),(rn,ra)].all iv2&&(rd :: T.vals).all vldB):=fun h=>by
  rw [Tp.good,h,Bool.and_true,List.all_cons,List.all_cons,List.all_nil,List.all_cons,Bool.and_true];simp only [iv2,Bool.and_assoc]
 have HBM:Hid ((decide (0≤T.pos)&&decide (T.pos≤2147483647))=true→m≠0→R=⟨m,[],[],Tp.nil⟩):=fun h h2=>by
  rw [hR,prR,hpos h];unfold chkV at hm;cases hh:([(vn,va),(rn,ra)].all iv2&&(rd :: T.vals).all vldB)
  ·rw [if_pos rfl];rw [if_neg (by intro k;rw [k.1,k.2] at hh;cases hh)] at hm;rw [←hm]
  ·rw [if_neg (by decide)];rw [Bool.and_eq_true] at hh;rw [if_pos hh] at hm;rw [hm,if_pos h2]
 have HGM:Hid ((decide (0≤T.pos)&&decide (T.pos≤2147483647))=true→m=0→(ivB vn va=true∧vldB rd=true∧kyV a b c d=0)∧(rd.size=0→R=⟨11,[],[],Tp.nil⟩)∧(rd.size≠0→4294967296≤intb vn va-lo→R=⟨5,[],[],Tp.nil⟩)∧(rd.size≠0→¬ 4294967296≤intb vn va-lo→R=prN att (numb a) (numb c) (numb d) (numb rd) (roots (intb vn va-lo)) T)):=fun h h2=>by
  unfold chkV at hm;split at hm
  ·rename_i hh;have h9:=hpos h;rw [hh.1,hh.2] at h9
   have hR2:R=if rd.size=0 then ⟨11,[],[],Tp.nil⟩ else if 4294967296≤intb vn va-lo then ⟨5,[],[],Tp.nil⟩ else prN att (numb a) (numb c) (numb d) (numb rd) (roots (intb vn va-lo)) T:=by
    rw [hR,prR,h9,if_neg (by decide),if_neg (by rw [hm,h2];decide)]
   have e1:=hh.1;have e2:=hh.2;simp only [List.all_cons,Bool.and_eq_true] at e1 e2;exact ⟨⟨e1.1,e2.1,hm.trans h2⟩,fun k=>by rw [hR2,if_pos k],fun k k2=>by rw [hR2,if_neg k,if_pos k2],fun k k2=>by rw [hR2,if_neg k,if_neg k2]⟩
  ·omega
 have HCK:Hid (∀(u x:Value) (w:World),IsAt w u [(vn,va),(rn,ra)]→SsAt w x (rd :: T.vals)→Calls Tryz.prog 104 #[.agg #[.string a,.string b,.string c,.string d],u,x] w fun e w'=>e=.returned (.int .i64 m)∧Below w.heap.size w w'):=fun u x w hu hx =>
  sqchk_c [(vn,va),(rn,ra)] (rd :: T.vals) a b c d u x m w (by simp) (by have:=hok.n;simp;omega) (by
   intro y hy;simp only [List.mem_cons,List.not_mem_nil,or_false] at hy;rcases hy with rfl | rfl
   ·exact Nat.le_trans hva (by decide)
   ·exact Nat.le_trans hra (by decide)) (by
   intro y hy;simp only [List.mem_cons] at hy;rcases hy with rfl | hy
   ·omega
   ·have:=hok.s y hy;omega) ha hb hc hd hu hx hm
 have HVA:Hid (va.size≤12):=hva;have HRD:Hid (rd.size≤12):=hrd;have HAS:Hid (a.size≤8):=ha;have HLO:Hid (lo.natAbs<1099511627776):=by rw [Hid];omega
 have HAT:=Lib.hid hat;have HOK:=Lib.hid hok;clear ha hb hc hd hva hra hrd hlo hlo2 hat hok hR hpos hm;obtain ⟨at_,ct,rfl⟩:=RAt.form hV;obtain ⟨nt,hnt⟩:∃n,n=T.vals.length:=⟨_,rfl⟩;have HNT:=Lib.hid hnt;rw [←hnt] at hV ⊢;clear hnt;obtain ⟨hB,hI,hT,hR,hBW⟩:=blk4 w #[Value.string a,Value.string b,Value.string c,Value.string d] #[.bool vn,.string va,.bool rn,.string ra] #[.slice at_ nt ct,.string T.seed,.int .i64 T.pos] #[.slice none 0 0,.string ⟨#[]⟩,.int .i64 0] 26 30 35 35;obtain ⟨gI,hgI⟩:∃g,w.heap.size+1=g:=⟨_,rfl⟩;obtain ⟨gT,hgT⟩:∃g,w.heap.size+1+1=g:=⟨_,rfl⟩;obtain ⟨gR,hgR⟩:∃g,w.heap.size+1+1+1=g:=⟨_,rfl⟩;have HGW:Hid (w.heap.size<gI∧gI<gT∧gT<gR):=by rw [Hid];omega
 have HG1:=Lib.hid hgI;have HG2:=Lib.hid hgT;have HG3:=Lib.hid hgR;have hFT:FarS (.slice at_ nt ct) gT:=ss_far hV (by omega);have hFR:FarS (.slice at_ nt ct) gR:=ss_far hV (by omega);have hV1:=SsAt.after hV hBW;clear hgI hgT hgR;go_enter Tryz.func43,Tryz.ntmps43
 go_upto_region 1 with fail
 rw [HG3.out,HG2.out,HG1.out];replace hI:Blk _ gI 30 [.bool vn,.string va,.bool rn,.string ra]:=HG1.out ▸ hI;replace hT:Blk _ gT 35 [.slice at_ nt ct,.string T.seed,.int .i64 T.pos]:=HG2.out ▸ hT;replace hR:Blk _ gR 35 [.slice none 0 0,.string ⟨#[]⟩,.int .i64 0]:=HG3.out ▸ hR;replace hB:Blk _ w.heap.size 26 [Value.string a,Value.string b,Value.string c,Value.string d]:=hB;generalize (((w.alloc (.cells #[Value.string a,Value.string b,Value.string c,Value.string d] 26)).alloc (.cells #[.bool vn,.string va,.bool rn,.string ra] 30)).alloc (.cells #[.slice at_ nt ct,.string T.seed,.int .i64 T.pos] 35)).alloc (.cells #[.slice none 0 0,.string ⟨#[]⟩,.int .i64 0] 35)=w1 at hB hI hT hR hBW hV1 ⊢;clear HG1 HG2 HG3;have HWW:Hid (w.heap.size≤w1.heap.size):=hBW.size;have HWR:Hid (w.heap.size≤gR):=by have:=HGW.out;rw [Hid];omega
 have HGL:Hid (gR<w1.heap.size):=hR.lt;have HAT1:Hid (HAtt att T.seed w1):=HAT.out.after hBW;obtain ⟨ps,hps⟩:∃p,p=T.pos:=⟨_,rfl⟩;have HPS:=Lib.hid hps;rw [←hps] at hT HBT HBM HGM ⊢;clear hps;obtain ⟨t1,ht1⟩:∃t:Bool,t=decide (ps<0):=⟨_,rfl⟩;obtain ⟨t2,ht2⟩:∃t:Bool,t=decide (2147483647<ps):=⟨_,rfl⟩
 have HTT:Hid ((decide (0≤ps)&&decide (ps≤2147483647))=(!t1&&!t2)):=by
  rw [Hid,ht1,ht2,←decide_not,←decide_not,decide_eq_decide.2 (show (0≤ps)↔¬ ps<0 by omega),decide_eq_decide.2 (show (ps≤2147483647)↔¬ 2147483647<ps by omega)]
 rw [HTT.out] at HBT HBM HGM;have ht1':=ht1.symm;have ht2':=ht2.symm;clear ht1 ht2 HTT;have hRl:=hR.lt;have hTl:=hT.lt;cases t1
 case true =>
  have HX:=Lib.hid (HBT.out rfl);clear HBT HBM HGM hB hI;obtain ⟨hRc0,hRf0,hRc1,hRf1,hRc2,hRf2⟩:=hR.x3;obtain ⟨hTc0,hTf0,hTc1,hTf1,hTc2,hTf2⟩:=hT.x3;go_wp2;refine bodyPost_ret (v:=.tuple #[.slice none 0 0,.slice none 0 0,.agg #[.slice none 0 0,.string ⟨#[]⟩,.int .i64 0],.int .i64 3]) ?_ rfl ?_
  ·simp [results,Tryz.results43,go_sem,hRc0,hRc1,hRc2,hRl]
  ·rw [HX.out];exact PrPostF.err (((hBW.setCell HWR.out _).setCell HWR.out _).setCell HWR.out _)
 case false =>
  cases t2
  case true =>
   have HX:=Lib.hid (HBT.out rfl);clear HBT HBM HGM hB hI;obtain ⟨hRc0,hRf0,hRc1,hRf1,hRc2,hRf2⟩:=hR.x3;obtain ⟨hTc0,hTf0,hTc1,hTf1,hTc2,hTf2⟩:=hT.x3;go_wp2;refine bodyPost_ret (v:=.tuple #[.slice none 0 0,.slice none 0 0,.agg #[.slice none 0 0,.string ⟨#[]⟩,.int .i64 0],.int .i64 3]) ?_ rfl ?_
   ·simp [results,Tryz.results43,go_sem,hRc0,hRc1,hRc2,hRl]
   ·rw [HX.out];exact PrPostF.err (((hBW.setCell HWR.out _).setCell HWR.out _).setCell HWR.out _)
  case false =>
   replace HBM:Hid (m≠0→R=⟨m,[],[],Tp.nil⟩):=HBM.out rfl;have HGM2:=Lib.hid (HGM.out rfl);clear HBT HGM;obtain ⟨hTc0,hTf0,hTc1,hTf1,hTc2,hTf2⟩:=hT.x3;go_upto_region 3 with fail
   clear hTc0 hTf0 hTc1 hTf1 hTc2 hTf2;have hBl:=hB.lt;have hIl:=hI.lt;have hC:CA w1 [(⟨w.heap.size,0,none⟩,.string a),(⟨w.heap.size,1,none⟩,.string b),(⟨w.heap.size,2,none⟩,.string c),(⟨w.heap.size,3,none⟩,.string d),(⟨gI,0,none⟩,.bool vn),(⟨gI,1,none⟩,.string va),(⟨gI,2,none⟩,.bool rn),(⟨gI,3,none⟩,.string ra),(⟨gT,0,none⟩,.slice at_ nt ct)]:=CA.cons hBl (hB.cell 0) (CA.cons hBl (hB.cell 1) (CA.cons hBl (hB.cell 2) (CA.cons hBl (hB.cell 3) (CA.cons hIl (hI.cell 0) (CA.cons hIl (hI.cell 1) (CA.cons hIl (hI.cell 2) (CA.cons hIl (hI.cell 3) (CA.cons hTl (hT.cell 0) (CA.nil _)))))))));have hP1:=(Blk.new w1 #[.bool vn,.string va,.bool rn,.string ra] 28).alloc (.cells #[.string rd] 22);have hP2:=blk2b w1 #[.string rd] #[.bool vn,.string va,.bool rn,.string ra] 22 28;have HOKN:Hid (nt≤100):=by rw [Hid,HNT.out];exact HOK.out.n
   go_cut [14] (fun s14 wx=>s14=.int .i64 m∧Below w1.heap.size w1 wx)
   case first =>
    go_region_held3 (fun w'=>w'.cell? ⟨w.heap.size,0,none⟩=some (.string a)∧w'.cell? ⟨w.heap.size,1,none⟩=some (.string b)∧w'.cell? ⟨w.heap.size,2,none⟩=some (.string c)∧w'.cell? ⟨w.heap.size,3,none⟩=some (.string d)∧w'.cell? ⟨gI,0,none⟩=some (.bool vn)∧w'.cell? ⟨gI,1,none⟩=some (.string va)∧w'.cell? ⟨gI,2,none⟩=some (.bool rn)∧w'.cell? ⟨gI,3,none⟩=some (.string ra)∧w'.cell? ⟨gT,0,none⟩=some (.slice at_ nt ct))
     ((refine CA.k9 ?_;repeat (first | (with_reducible exact hCd) | (with_reducible exact hCa) | (with_reducible exact hC) | (with_reducible refine CA.drew ?_) | (with_reducible refine CA.alloc ?_ _))))
     (first
      | (go_loud (refine step_append_all (by rfl) (.tmp 43) (.tmp 45) _ (by rfl) (by rfl) (by rfl) w1.heap.size 22 i0 _ 16 Tryz.underlying33 HI0.out HA0.out HB0.out HC0.out rfl 1 [.string rd] (own_blkB (by first | exact blkN (by first | rfl | (simp;done)) | exact (blkN (by first | rfl | (simp;done))).alloc _) rfl (by decide) (by simp)) T.vals (by repeat (first | (with_reducible exact hV1) | (with_reducible refine ss_drew ?_) | (with_reducible refine ss_alloc ?_ _))) (by have:=HOKN.out;simp only [maxLen];omega) (by have:=HOKN.out;omega) (by first | omega | (simp;done) | (simp;omega)) ?_);intro ua wa hown hgr hbs;have hSA:SsAt wa ua (rd :: T.vals):=ss_own (base:=w1.heap.size) (n:=1+nt) (rd :: T.vals) (by simp [HNT.out];omega) hown;have hCa:CA wa [(⟨w.heap.size,0,none⟩,.string a),(⟨w.heap.size,1,none⟩,.string b),(⟨w.heap.size,2,none⟩,.string c),(⟨w.heap.size,3,none⟩,.string d),(⟨gI,0,none⟩,.bool vn),(⟨gI,1,none⟩,.string va),(⟨gI,2,none⟩,.bool rn),(⟨gI,3,none⟩,.string ra),(⟨gT,0,none⟩,.slice at_ nt ct)]:=CA.grown (by repeat (first | (with_reducible exact hC) | (with_reducible refine CA.drew ?_) | (with_reducible refine CA.alloc ?_ _))) hgr (fun q hq e=>by have h1:=(hbs _ e).1;have h2:=(hC q hq).1;omega);have hBa:Below w1.heap.size w1 wa:=Below.grown (by repeat (first | (with_reducible exact Below.refl _ _) | (with_reducible refine Below.drew ?_) | (with_reducible refine Below.alloc ?_ (by first | omega | (simp;done) | (simp;omega)) _))) hgr (by first | omega | (simp;done) | (simp;omega)) (fun g hg=>(hbs g hg).1);(try (have hJa:=Blk.grown hP1.drew hgr (by (simp [Value.ownBlock];done))));(try (have hJb:=Blk.grown hP2.drew hgr (by (simp [Value.ownBlock];done)))))
      | (go_at_call 104;go_loud (refine (HCK.out _ _ _ (is_blk [(vn,va),(rn,ra)] rfl (by first | exact hJa | exact hJb | exact Blk.new _ _ _)) (by first | exact hSA | exact ss_alloc hSA _)).mono ?_);rintro e wd ⟨rfl,hbd⟩;have hBd:Below w1.heap.size w1 wd:=(by first | exact bt hBa hbd | exact bt (ba hBa _) hbd);have hCd:CA wd [(⟨w.heap.size,0,none⟩,.string a),(⟨w.heap.size,1,none⟩,.string b),(⟨w.heap.size,2,none⟩,.string c),(⟨w.heap.size,3,none⟩,.string d),(⟨gI,0,none⟩,.bool vn),(⟨gI,1,none⟩,.string va),(⟨gI,2,none⟩,.bool rn),(⟨gI,3,none⟩,.string ra),(⟨gT,0,none⟩,.slice at_ nt ct)]:=(by first | exact hCa.after hbd | exact (hCa.alloc _).after hbd)))
    all_goals
     go_wp2_with fail
     go_meet
     exact ⟨rfl,hBd⟩
   case rest =>
    obtain ⟨rfl,hbx⟩:=hcut;obtain ⟨wx,hwx⟩:∃wx,wx=wc:=⟨_,rfl⟩;subst hwx;replace hB:=hB.after hbx;replace hI:=hI.after hbx;replace hT:=hT.after hbx;replace hR:=hR.after hbx;replace hV1:=SsAt.after hV1 hbx;replace hBW:=bt hBW hbx;have HSX:Hid (w1.heap.size≤wx.heap.size):=hbx.size;have HAT2:Hid (HAtt att T.seed wx):=HAT1.out.after hbx;clear hbx hC hP1 hP2 HCK HAT1 hBl hIl hRl hTl;have hRl:=hR.lt;by_cases hm0:m=0
    case neg =>
     have hmb:((m:Int) != 0)=true:=by rw [bne_iff_ne];omega
     have HX:=Lib.hid (HBM.out hm0);clear hm0 HBM HGM2 hB hI hT;obtain ⟨hRc0,hRf0,hRc1,hRf1,hRc2,hRf2⟩:=hR.x3;go_wp2;refine bodyPost_ret (v:=.tuple #[.slice none 0 0,.slice none 0 0,.agg #[.slice none 0 0,.string ⟨#[]⟩,.int .i64 0],.int .i64 (m:Int)]) ?_ rfl ?_
     ·simp [results,Tryz.results43,go_sem,hRc0,hRc1,hRc2,hRl]
     ·rw [HX.out];exact PrPostF.err (((hBW.setCell HWR.out _).setCell HWR.out _).setCell HWR.out _)
    case pos =>
     subst hm0;obtain ⟨⟨hiv,hvr,hky⟩,h11,h5,hgo⟩:=HGM2.out rfl;obtain ⟨V,_,rfl,rfl⟩:=of_ivB hiv;obtain ⟨r0,_,rfl⟩:=of_vldB hvr;obtain ⟨p,g,h,⟨hp,hg,hh⟩,rfl,rfl,rfl,rfl,hpe⟩:=kyV_zero hky HAS.out;rw [intb_I] at h5 hgo;rw [empty_E] at h11;rw [numb_E,numb_E,numb_E,numb_E] at hgo;have HVB:=Lib.hid (lt_of_size HVA.out);have HRB:=Lib.hid (lt_of_size HRD.out);have H11:=Lib.hid h11;have H5:=Lib.hid (fun k:r0≠0=>h5 (fun e=>k (empty_E.1 e)));have HGO:=Lib.hid (fun k:r0≠0=>hgo (fun e=>k (empty_E.1 e)));have HKEY:Hid ((p<256^8∧g<256^128∧h<256^128)∧pedE p 0 g h=0):=⟨⟨hp,hg,hh⟩,hpe⟩;clear HGM2 HBM hiv hvr hky hp hg hh hpe h11 h5 hgo HVA HRD HAS;by_cases hr0:r0=0
     case pos =>
      have hz:=zE hr0;have HX:=Lib.hid (H11.out hr0);clear hr0 H11 H5 HGO hB hI hT;obtain ⟨hRc0,hRf0,hRc1,hRf1,hRc2,hRf2⟩:=hR.x3;go_wp2;refine bodyPost_ret (v:=.tuple #[.slice none 0 0,.slice none 0 0,.agg #[.slice none 0 0,.string ⟨#[]⟩,.int .i64 0],.int .i64 11]) ?_ rfl ?_
      ·simp [results,Tryz.results43,go_sem,hRc0,hRc1,hRc2,hRl]
      ·rw [HX.out];exact PrPostF.err (((hBW.setCell HWR.out _).setCell HWR.out _).setCell HWR.out _)
     case neg =>
      have hz:=nzE (Nat.pos_of_ne_zero hr0);replace H5:=Lib.hid (H5.out hr0);replace HGO:=Lib.hid (HGO.out hr0);have HR0:=Lib.hid hr0;clear hr0 H11;have HOF:Hid (∀w:World,Calls Tryz.prog 106 #[.int .i64 lo] w fun e w'=>e=.returned (.agg #[.bool (sg (lo)),.string (E (lo).natAbs)])∧Below w.heap.size w w'):=fun w=>iof_c lo w (by have:=HLO.out;omega) (by have:=HLO.out;omega)
      have HSU:Hid (∀w:World,Calls Tryz.prog 105 #[.agg #[.bool (sg (V)),.string (E (V).natAbs)],.agg #[.bool (sg (lo)),.string (E (lo).natAbs)]] w fun e w'=>e=.returned (.tuple #[.agg #[.bool (sg (V-lo)),.string (E (V-lo).natAbs)],.int .i64 0])∧Below w.heap.size w w'):=fun w=>by
       have h1:=HVB.out;have h2:=HLO.out;have h3:(256:Nat)^12+1099511627776<256^128:=by decide
       exact isub_c (x:=V) (y:=lo) (w:=w) (by omega) (by omega) (by omega)
      have HDB:Hid ((V-lo).natAbs<256^13):=by
       have h1:=HVB.out;have h2:=HLO.out;have h3:(256:Nat)^12+1099511627776<256^13:=by decide
       rw [Hid];omega
      obtain ⟨dd,hdd⟩:∃z,z=V-lo:=⟨_,rfl⟩;rw [←hdd] at HSU H5 HGO HDB;clear hdd;have hC:CA wx [(⟨gI,0,none⟩,.bool (sg V)),(⟨gI,1,none⟩,.string (E V.natAbs))]:=CA.cons hI.lt (hI.cell 0) (CA.cons hI.lt (hI.cell 1) (CA.nil _));have hneA:=fun x hx=>Nat.ne_of_lt (hC x hx).1
      go_upto_region 8 with fail
      go_cut [15,16] (fun s15 s16 wy=>ZBox wx dd s15 s16 wy)
      case first =>
       go_region_held3 (fun w'=>w'.cell? ⟨gI,0,none⟩=some (.bool (sg V))∧w'.cell? ⟨gI,1,none⟩=some (.string (E V.natAbs)))
        ((refine CA.k2 ?_;repeat (first | (with_reducible exact hCg) | (with_reducible exact hCf) | (with_reducible exact hC) | (with_reducible refine CA.drew ?_) | (with_reducible refine CA.alloc ?_ _) | (refine CA.set ?_ _ _ _ hneA) | (refine CA.set ?_ _ _ _ (fun x hx=>Nat.ne_of_lt (hCf x hx).1)) | (refine CA.set ?_ _ _ _ (fun x hx=>Nat.ne_of_lt (hCg x hx).1)))))
        (first
         | (go_at_call 106;refine (HOF.out _).mono ?_;rintro e wf ⟨rfl,hbf⟩;have hCf:CA wf [(⟨gI,0,none⟩,.bool (sg V)),(⟨gI,1,none⟩,.string (E V.natAbs))]:=(by first | exact hC.drew.after hbf | exact (hC.alloc _).drew.after hbf | exact (hC.drew.alloc _).after hbf);(try (have kA:=(Blk.new wx #[.bool false,.string { data:=#[] }] 28).drew.after hbf)))
         | (go_at_call 105;refine (HSU.out _).mono ?_;rintro e wg ⟨rfl,hbg⟩;have hCg:CA wg [(⟨gI,0,none⟩,.bool (sg V)),(⟨gI,1,none⟩,.string (E V.natAbs))]:=(by first | exact hCf.after hbg | exact (hCf.alloc _).after hbg);(try (have kB:=kA.after hbg;have kB0:=kB.cell 0;have kB1:=kB.cell 1;have kB2:=kB.free 0;have kB3:=kB.free 1));(try (have kC:=(Blk.new wf #[.bool false,.string { data:=#[] }] 28).after hbg;have kC0:=kC.cell 0;have kC1:=kC.cell 1;have kC2:=kC.free 0;have kC3:=kC.free 1))))
       all_goals
        go_wp2_with fail
        go_meet
        first
         | exact ⟨_,rfl,rfl,Blk.new _ _ _,Nat.le_trans hbf.size hbg.size,ba (((Below.drew (Below.refl _ _)).trans hbf).trans (hbg.mono hbf.size)) _⟩
         | exact ⟨_,rfl,rfl,(kC.set 0 _).set 1 _,hbf.size,((bt (ba ((Below.drew (Below.refl _ _)).trans hbf) _) hbg).setCell hbf.size _).setCell hbf.size _⟩
         | exact ⟨_,rfl,rfl,(kB.set 0 _).set 1 _,Nat.le_refl _,((bt (bt ((b1 wx _).drew) hbf) hbg).setCell (by simp) _).setCell (by simp) _⟩
      case rest =>
       obtain ⟨gX,rfl,rfl,hX,hgX,hby⟩:=hcut;obtain ⟨wy,hwy⟩:∃wy,wy=wc:=⟨_,rfl⟩;subst hwy;replace hB:=hB.after hby;replace hT:=hT.after hby;replace hR:=hR.after hby;replace hV1:=SsAt.after hV1 hby;replace hBW:=bt hBW hby;have HAT3:Hid (HAtt att T.seed wy):=HAT2.out.after hby;have HSY:Hid (w1.heap.size≤wy.heap.size):=Nat.le_trans HSX.out hby.size;clear hby hC hneA HAT2 HSX hI HOF HSU hRl;have hRl:=hR.lt;have hXl:=hX.lt;-- the roots
       have HXB0:Hid (¬ 4294967296≤dd→∀k,(roots dd).getD k 0<256^8):=fun h k=>roots_lt h k
       by_cases hdn:dd<0
       case' pos =>
        have hsg:sg dd=true:=by unfold sg;exact decide_eq_true hdn
        obtain ⟨X,hX4,HRT,hXZ⟩:∃X:List Nat,X.length=4∧roots dd=X∧(X.map fun n=>Value.string (E n))=[Value.string ⟨#[]⟩,Value.string ⟨#[]⟩,Value.string ⟨#[]⟩,Value.string ⟨#[]⟩]:=⟨[0,0,0,0],rfl,by rw [roots,if_pos hdn],rfl⟩;have HGG:=Lib.hid (HGO.out (by omega));have HXB:=Lib.hid (HXB0.out (by omega));rw [HRT] at HGG HXB;rw [hsg] at hX;have hA:=Blk.new wy #[Value.string ⟨#[]⟩,Value.string ⟨#[]⟩,Value.string ⟨#[]⟩,Value.string ⟨#[]⟩] 171;have hbA:=b1 wy (.cells #[Value.string ⟨#[]⟩,Value.string ⟨#[]⟩,Value.string ⟨#[]⟩,Value.string ⟨#[]⟩] 171);replace hB:=hB.after hbA;replace hT:=hT.after hbA;replace hR:=hR.after hbA;replace hV1:=SsAt.after hV1 hbA;replace hBW:=bt hBW hbA;have HATz:Hid (HAtt att T.seed _):=HAT3.out.after hbA;have HSZ:Hid (w1.heap.size≤_):=Nat.le_trans HSY.out hbA.size;clear hdn HGO H5 HXB0 HAT3 HSY hRl;obtain ⟨hAc0,hAf0,hAc1,hAf1,hAc2,hAf2,hAc3,hAf3⟩:=hA.x4;obtain ⟨hXc0,hXf0,hXc1,hXf1⟩:=hX.x2;go_wp2;clear hAc0 hAf0 hAc1 hAf1 hAc2 hAf2 hAc3 hAf3;clear hXc0 hXf0 hXc1 hXf1
        have HIX:Hid (∀k:Nat,k<4→∀w,(Instr.index 171 (.agg #[Value.string ⟨#[]⟩,Value.string ⟨#[]⟩,Value.string ⟨#[]⟩,Value.string ⟨#[]⟩]) (.int .i64 (k:Int))).run Tryz.prog w=.ok (.string (E (X.getD k 0))) w):=fun k hk w=>by
         have h:=ixN X hX4 k hk w;rw [hXZ] at h;exact h
        generalize (Value.agg #[Value.string ⟨#[]⟩,Value.string ⟨#[]⟩,Value.string ⟨#[]⟩,Value.string ⟨#[]⟩])=AV at HIX ⊢;generalize wy.alloc (.cells #[Value.string ⟨#[]⟩,Value.string ⟨#[]⟩,Value.string ⟨#[]⟩,Value.string ⟨#[]⟩] 171)=wz at hB hT hR hV1 hBW HATz HSZ hA hbA ⊢;clear hA hbA hX hXl hXZ HRT hgX hsg
       case' neg =>
        have hsg:sg dd=false:=by unfold sg;exact decide_eq_false hdn
        rw [hsg] at hX;have hAz:=Blk.new wy #[Value.string ⟨#[]⟩,Value.string ⟨#[]⟩,Value.string ⟨#[]⟩,Value.string ⟨#[]⟩] 171;have hbA:=b1 wy (.cells #[Value.string ⟨#[]⟩,Value.string ⟨#[]⟩,Value.string ⟨#[]⟩,Value.string ⟨#[]⟩] 171);by_cases hbig:4294967296≤dd
        ·have HF4:Hid (∀w:World,Calls Tryz.prog 107 #[.string (E dd.natAbs)] w fun e w'=>e=.returned (.tuple #[.agg #[.string ⟨#[]⟩,.string ⟨#[]⟩,.string ⟨#[]⟩,.string ⟨#[]⟩],.int .i64 5])∧Below w.heap.size w w'):=fun w=>four_long dd.natAbs w (by omega) (Nat.lt_of_lt_of_le HDB.out (Nat.pow_le_pow_right (by decide) (by decide)))
         have HX:=Lib.hid (H5.out hbig);clear hbig hdn HGO H5 HXB0 HAT3 HSY;have hX2:=hX.after hbA;obtain ⟨hXc0,hXf0,hXc1,hXf1⟩:=hX.x2;obtain ⟨hX2c0,hX2f0,hX2c1,hX2f1⟩:=hX2.x2;go_wp2_with fail
         refine (HF4.out _).mono ?_;rintro e wf ⟨rfl,hbf⟩;clear hXc0 hXf0 hXc1 hXf1;have hAf:=hAz.after hbf;have hRf:=(hR.after hbA).after hbf;have hAl:=hAf.lt;have hRfl:=hRf.lt;have hXf:=hX2.after hbf;have hne:¬ wy.heap.size=gR:=by omega
         have hbw:=bt (bt hBW hbA) hbf;obtain ⟨hAfc0,hAff0,hAfc1,hAff1,hAfc2,hAff2,hAfc3,hAff3⟩:=hAf.x4;obtain ⟨hRfc0,hRff0,hRfc1,hRff1,hRfc2,hRff2⟩:=hRf.x3;go_wp2;refine bodyPost_ret (v:=.tuple #[.slice none 0 0,.slice none 0 0,.agg #[.slice none 0 0,.string ⟨#[]⟩,.int .i64 0],.int .i64 5]) ?_ rfl ?_
         ·simp [results,Tryz.results43,go_sem,hRfc0,hRfc1,hRfc2,hRfl,hne]
         ·rw [HX.out];have hwy:=hBW.size;exact PrPostF.err (((((((hbw.setCell hwy _).setCell hwy _).setCell hwy _).setCell hwy _).setCell HWR.out _).setCell HWR.out _).setCell HWR.out _)
        rotate_left
        obtain ⟨x0,x1,x2,x3,hxs⟩:∃x0 x1 x2 x3:Nat,roots dd=[x0,x1,x2,x3]:=by
         have h:=roots_len dd;match roots dd,h with
         | [a,b,c,d],_=>exact ⟨a,b,c,d,rfl⟩
        have HF4:Hid (∀w:World,Calls Tryz.prog 107 #[.string (E dd.natAbs)] w fun e w'=>e=.returned (.tuple #[.agg #[.string (E x0),.string (E x1),.string (E x2),.string (E x3)],.int .i64 0])∧Below w.heap.size w w'):=fun w=>by
         have h:=fsfour_c dd.natAbs w (by omega);have e:roots dd=rts (fourF dd.natAbs (rt dd.natAbs)):=by rw [roots,if_neg hdn]
         rw [rts_foV,←e,hxs] at h;exact h
        obtain ⟨X,hX4,HRT,hXZ⟩:∃X:List Nat,X.length=4∧roots dd=X∧(X.map fun n=>Value.string (E n))=[.string (E x0),.string (E x1),.string (E x2),.string (E x3)]:=⟨_,rfl,hxs,rfl⟩;have HGG:=Lib.hid (HGO.out hbig);have HXB:=Lib.hid (HXB0.out hbig);rw [HRT] at HGG HXB;clear hbig hdn HGO H5 HXB0 hxs HRT;have hX2:=hX.after hbA;obtain ⟨hXc0,hXf0,hXc1,hXf1⟩:=hX.x2;obtain ⟨hX2c0,hX2f0,hX2c1,hX2f1⟩:=hX2.x2;go_wp2_with fail
        refine (HF4.out _).mono ?_;rintro e wf ⟨rfl,hbf⟩;clear hXc0 hXf0 hXc1 hXf1;have hAf:=hAz.after hbf;have hXf:=hX2.after hbf;have hAl:=hAf.lt;have hbAf:=bt hbA hbf;have hbz:=(((hbAf.setCell (p:=⟨wy.heap.size,0,none⟩) (Nat.le_refl _) (.string (E x0))).setCell (p:=⟨wy.heap.size,1,none⟩) (Nat.le_refl _) (.string (E x1))).setCell (p:=⟨wy.heap.size,2,none⟩) (Nat.le_refl _) (.string (E x2))).setCell (p:=⟨wy.heap.size,3,none⟩) (Nat.le_refl _) (.string (E x3));replace hB:=hB.after hbz;replace hT:=hT.after hbz;replace hR:=hR.after hbz;replace hV1:=SsAt.after hV1 hbz;replace hBW:=bt hBW hbz;have HATz:Hid (HAtt att T.seed _):=HAT3.out.after hbz;have HSZ:Hid (w1.heap.size≤_):=Nat.le_trans HSY.out hbz.size;clear HAT3 HSY hRl HF4 hX hXl;obtain ⟨hAfc0,hAff0,hAfc1,hAff1,hAfc2,hAff2,hAfc3,hAff3⟩:=hAf.x4;go_wp2;clear hAfc0 hAff0 hAfc1 hAff1 hAfc2 hAff2 hAfc3 hAff3;clear hX2c0 hX2f0 hX2c1 hX2f1
        have HIX:Hid (∀k:Nat,k<4→∀w,(Instr.index 171 (.agg #[.string (E x0),.string (E x1),.string (E x2),.string (E x3)]) (.int .i64 (k:Int))).run Tryz.prog w=.ok (.string (E (X.getD k 0))) w):=fun k hk w=>by
         have h:=ixN X hX4 k hk w;rw [hXZ] at h;exact h
        generalize (Value.agg #[.string (E x0),.string (E x1),.string (E x2),.string (E x3)])=AV at HIX ⊢;generalize (((wf.setCell ⟨wy.heap.size,0,none⟩ (.string (E x0))).setCell ⟨wy.heap.size,1,none⟩ (.string (E x1))).setCell ⟨wy.heap.size,2,none⟩ (.string (E x2))).setCell ⟨wy.heap.size,3,none⟩ (.string (E x3))=wz at hB hT hR hV1 hBW HATz HSZ hbz ⊢;clear hX2 hXf hAf hAz hbA hbAf hbz hXZ hgX hsg hAl hbf
       all_goals
        have HWZ:Hid (w.heap.size≤wz.heap.size):=hBW.size;have HGZ:Hid (gR<wz.heap.size):=hR.lt;have HRB2:Hid (r0<256^64):=Nat.lt_of_lt_of_le HRB.out (Nat.pow_le_pow_right (by decide) (by decide))
        have HCL:Hid (∀(k:Nat) (hk:k<4) (u:Value) (w':World),Below w.heap.size w w'→SsAt w' u T.vals→Calls Tryz.prog 108 #[.agg #[u,.string T.seed,.int .i64 (ps+(k:Int))],.string (E r0)] w' (CPost w' (T.on k) (prC att r0 T k))):=fun k hk u w' hb hu=>by
         have h:=cbelow_c att (T.on k) u r0 w' (HAT.out.after hb) (HOK.out.on k) HRB2.out hu;rw [show (T.on k).pos=ps+(k:Int) by rw [HPS.out];rfl] at h;exact h
        have HCM:Hid (∀(x y:Nat),x<256^128→y<256^128→∀w:World,Calls Tryz.prog 90 #[.agg #[.string (E p),.string (E 0),.string (E g),.string (E h)],.agg #[.bool false,.string (E x),.bool false,.string (E y)]] w fun e w'=>e=.returned (.tuple #[.string (E (cmtN p g h x y)),.int .i64 0])∧Below w.heap.size w w'):=fun x y hx hy w=>by
         obtain ⟨⟨k1,k2,k3⟩,k4⟩:=HKEY.out;have hpg:=pedE_grp k4
         have hgh:hasB p 0 g=true∧hasB p 0 h=true:=by
          unfold pedE at k4;rw [if_pos hpg] at k4;split at k4
          ·rename_i hh;exact ⟨hh.1,hh.2.1⟩
          ·omega
         have:=commit_c p 0 g h (x:Int) (y:Int) w k1 (by decide) k2 k3 (by rw [Int.natAbs_natCast];exact hx) (by rw [Int.natAbs_natCast];exact hy) k4 hgh.1 hgh.2;unfold opn at this;rwa [Int.natAbs_natCast,Int.natAbs_natCast,sg_nat,sg_nat] at this
        clear HKEY HATz HRB;go_loopw [18,19,90] (fun v18 v19 i wr=>∃(k:Nat) (uo:Option Addr) (um uc:Nat),k≤4∧i=.int .i64 k∧Hid (∀j,j<k→(prC att r0 T j).1=0)∧wr.ownsRow wz.heap.size 22 1 v18 k (strs (prP att p g h r0 X T k))∧wr.ownsRow wz.heap.size 30 4 v19 k (((prO att r0 X T k).map nop).flatMap opc)∧Blk wr gT 35 [.slice uo um uc,.string T.seed,.int .i64 (ps+(k:Int))]∧Blk wr gR 35 [.slice none 0 0,.string ⟨#[]⟩,.int .i64 0]∧Blk wr w.heap.size 26 [Value.string (E p),Value.string (E 0),Value.string (E g),Value.string (E h)]∧SsAt wr (.slice uo um uc) T.vals∧FarS (.slice uo um uc) gT∧FarS (.slice uo um uc) gR∧Hid (k≠0→∀g,g<w.heap.size→FarS (.slice uo um uc) g)∧wz.heap.size≤wr.heap.size∧Below w.heap.size w wr) (fun _ _ i _=>4-(intOf i).toNat)
        case atStart=>exact ⟨0,at_,nt,ct,by omega,rfl,fun j h=>absurd h (Nat.not_lt_zero _),World.ownsRow_nil _ _ _ _,World.ownsRow_nil _ _ _ _,by rw [show ps+((0:Nat):Int)=ps by omega];exact hT,hR,hB,hV1,hFT,hFR,fun h=>absurd rfl h,Nat.le_refl _,hBW⟩
        case round =>
         clear hB hT hR hV1 hBW hFT hFR;obtain ⟨k,uo,um,uc,hk,rfl,HAL,hO,hQ,hT,hR,hB,hU,hFT,hFR,HFX,hbz,hbr⟩:=hrel;obtain ⟨wp,hwp⟩:∃wp,wp=wr:=⟨_,rfl⟩;subst hwp;by_cases hlt:k<4
         ·have HXK:=Lib.hid (HXB.out k);have hix:=HIX.out k hlt;have HSP:=Lib.hid (prP_snoc att p g h r0 X T k);have HSO:=Lib.hid (prO_snoc att r0 X T k);have HCC:=Lib.hid (HCL.out k hlt _ wp hbr hU);have HBD:Hid ((prC att r0 T k).1≠0→R=⟨(prC att r0 T k).1,[],[],Tp.nil⟩):=fun e=>HGG.out.trans (prN_bad hlt HAL.out e)
          have HGD:Hid ((prC att r0 T k).1=0→∀j,j<k+1→(prC att r0 T j).1=0):=fun e j hj=>by
           by_cases ej:j=k
           ·rw [ej];exact e
           ·exact HAL.out j (by omega)
          have HLT:Hid ((prC att r0 T k).1=0→(prC att r0 T k).2<256^64):=fun e=>Nat.lt_trans (prC_lt e) HRB2.out
          clear HAL hU;generalize prC att r0 T k=dk at HCC HBD HGD HSP HSO HLT;obtain ⟨ke,xe⟩:=dk;generalize X.getD k 0=xk at HXK HSP HSO hix;have HLP:=Lib.hid (prP_len att p g h r0 X T k);have HLO2:=Lib.hid (prO_len att r0 X T k);have HSP2:Hid (prP att p g h r0 X T (k+1)=prP att p g h r0 X T k++[cmtN p g h xk xe]):=HSP.out;have HSO2:Hid (prO att r0 X T (k+1)=prO att r0 X T k++[(xk,xe)]):=HSO.out;clear HSP HSO;generalize prP att p g h r0 X T k=LP at hO HSP2 HLP;generalize prO att r0 X T k=LO at hQ HSO2 HLO2;have h0k:(0:Int)≤(k:Int):=by omega
          have h1k:(k:Int)<4:=by omega
          obtain ⟨T1,hT1⟩:∃t,t=(T.on k).after ke:=⟨_,rfl⟩;have HT1:=Lib.hid hT1;clear hT1;have hTl:=hT.lt;have hRl:=hR.lt;obtain ⟨hTc0,hTf0,hTc1,hTf1,hTc2,hTf2⟩:=hT.x3;go_wp2_with fail
          refine (HCC.out).mono ?_;rintro e wd ⟨t,rfl,⟨u,rfl,hUd⟩,hFd,hbd⟩;clear hTc0 hTf0 hTc1 hTf1 hTc2 hTf2;rw [←HT1.out] at hUd;rw [←HT1.out];obtain ⟨xo,xc,rfl⟩:=RAt.form hUd;obtain ⟨xm,hxm⟩:∃m,m=T1.vals.length:=⟨_,rfl⟩;rw [←hxm] at hUd hFd ⊢;clear hxm;have HFT:=Lib.hid (hFd.far hTl);have HFR:=Lib.hid (hFd.far hRl);have HFO:Hid (∀y,u18.ownBlock=some y→FarS (.slice xo xm xc) y):=fun y hy=>hFd.far (own_lt hO hy).1
          have HFW:Hid (∀g,g<w.heap.size→FarS (.slice xo xm xc) g):=fun g hg=>hFd.far (Nat.lt_of_lt_of_le hg hbr.size)
          clear HFX;have HFQ:Hid (∀y,u19.ownBlock=some y→FarS (.slice xo xm xc) y):=fun y hy=>hFd.far (own_lt hQ hy).1
          have hTd:=hT.after hbd;have hRd:=hR.after hbd;have hBd:=hB.after hbd;have hOd:=own_after hO hbd;have hQd:=own_after hQ hbd;have hbzd:=Nat.le_trans hbz hbd.size;have hbrd:=bt hbr hbd;clear hT hR hB hO hQ hbz hbr hbd HCC hFd hFT hFR hTl hRl hix;have hX:=Blk.new wd #[.slice xo xm xc,.string T1.seed,.int .i64 T1.pos] 35;have hbX:=b1 wd (.cells #[.slice xo xm xc,.string T1.seed,.int .i64 T1.pos] 35);have hszd:=hbzd;go_upto_region 22 with fail
          replace hTd:=hTd.after hbX;replace hRd:=hRd.after hbX;replace hBd:=hBd.after hbX;replace hOd:=own_after hOd hbX;replace hQd:=own_after hQd hbX;replace hUd:=SsAt.after hUd hbX;replace hbzd:=Nat.le_trans hbzd hbX.size;replace hbrd:=bt hbrd hbX;have HGY:Hid (gR<wd.heap.size):=by have h1:=HGZ.out;rw [Hid];omega
          generalize wd.alloc (.cells #[.slice xo xm xc,.string T1.seed,.int .i64 T1.pos] 35)=we at hX hbX hTd hRd hBd hOd hQd hUd hbzd hbrd ⊢;obtain ⟨gY,hgY⟩:∃g,wd.heap.size=g:=⟨_,rfl⟩;rw [hgY] at hX HGY ⊢;replace hX:Blk we gY 35 [.slice xo xm xc,.string T1.seed,.int .i64 T1.pos]:=hX;clear hgY hbX;by_cases hke:ke=0
          ·subst hke;have HGD2:=Lib.hid (HGD.out rfl);have HXE:=Lib.hid (HLT.out rfl);clear HGD HBD HLT
           have HTN:Hid (T1.vals=T.vals∧T1.seed=T.seed∧T1.pos=ps+((k:Int)+1)):=by
            rw [Hid,HT1.out,show (T.on k).after 0=T.on (k+1) from Tp.on_on T k 1,HPS.out];exact ⟨rfl,rfl,rfl⟩
           rw [HTN.out.1] at hUd;have HTW:=Lib.hid HTN.out.2;rw [HTW.out.1,HTW.out.2] at hX;clear HTN HT1 HTW;have hTl:=hTd.lt;have hXl:=hX.lt;have e1:¬ gY=gT:=by have h1:=HGY.out;have h2:=HGW.out;omega
           obtain ⟨hXc0,hXf0,hXc1,hXf1,hXc2,hXf2⟩:=hX.x3;obtain ⟨hTdc0,hTdf0,hTdc1,hTdf1,hTdc2,hTdf2⟩:=hTd.x3;go_upto_region 25 with fail
           clear hXc0 hXf0 hXc1 hXf1 hXc2 hXf2;clear hTdc0 hTdf0 hTdc1 hTdf1 hTdc2 hTdf2;have hTs:=((hTd.set 0 (.slice xo xm xc)).set 1 (.string T.seed)).set 2 (.int .i64 (ps+((k:Int)+1)));have HWT:Hid (w.heap.size≤gT∧w.heap.size≠gT∧gR≠gT):=by have h1:=HGW.out;rw [Hid];omega
           have hRs:=((hRd.other ⟨gT,0,none⟩ (.slice xo xm xc) HWT.out.2.2).other ⟨gT,1,none⟩ (.string T.seed) HWT.out.2.2).other ⟨gT,2,none⟩ (.int .i64 (ps+((k:Int)+1))) HWT.out.2.2;have hBs:=((hBd.other ⟨gT,0,none⟩ (.slice xo xm xc) HWT.out.2.1).other ⟨gT,1,none⟩ (.string T.seed) HWT.out.2.1).other ⟨gT,2,none⟩ (.int .i64 (ps+((k:Int)+1))) HWT.out.2.1;have hNO:u18.ownBlock≠some gT:=fun e=>by have h1:=(own_lt hOd e).2;have h2:=HGZ.out;have h3:=HGW.out;omega
           have hNQ:u19.ownBlock≠some gT:=fun e=>by have h1:=(own_lt hQd e).2;have h2:=HGZ.out;have h3:=HGW.out;omega
           have hOs:=own_set (i:=2) (u:=.int .i64 (ps+((k:Int)+1))) (own_set (i:=1) (u:=.string T.seed) (own_set (i:=0) (u:=.slice xo xm xc) hOd hNO) hNO) hNO;have hQs:=own_set (i:=2) (u:=.int .i64 (ps+((k:Int)+1))) (own_set (i:=1) (u:=.string T.seed) (own_set (i:=0) (u:=.slice xo xm xc) hQd hNQ) hNQ) hNQ;have hUs:=((hUd.set_far (i:=0) (x:=.slice xo xm xc) HFT.out).set_far (i:=1) (x:=.string T.seed) HFT.out).set_far (i:=2) (x:=.int .i64 (ps+((k:Int)+1))) HFT.out;have hbrs:=((hbrd.setCell (p:=⟨gT,0,none⟩) HWT.out.1 (.slice xo xm xc)).setCell (p:=⟨gT,1,none⟩) HWT.out.1 (.string T.seed)).setCell (p:=⟨gT,2,none⟩) HWT.out.1 (.int .i64 (ps+((k:Int)+1)));have HSS:Hid (wz.heap.size≤(((we.setCell ⟨gT,0,none⟩ (.slice xo xm xc)).setCell ⟨gT,1,none⟩ (.string T.seed)).setCell ⟨gT,2,none⟩ (.int .i64 (ps+((k:Int)+1)))).heap.size):=by simp only [Hid,World.size_setCell];exact hbzd
           clear hTd hRd hBd hOd hQd hUd hbrd hX hTl hXl e1 hNO hNQ hszd hbzd;generalize ((we.setCell ⟨gT,0,none⟩ (.slice xo xm xc)).setCell ⟨gT,1,none⟩ (.string T.seed)).setCell ⟨gT,2,none⟩ (.int .i64 (ps+((k:Int)+1)))=ws at hTs hRs hBs hOs hQs hUs hbrs HSS ⊢;replace hTs:Blk ws gT 35 [.slice xo xm xc,.string T.seed,.int .i64 (ps+((k:Int)+1))]:=hTs;have HCMK:=Lib.hid (HCM.out xk xe (Nat.lt_of_lt_of_le HXK.out (Nat.pow_le_pow_right (by decide) (by decide))) (Nat.lt_of_lt_of_le HXE.out (Nat.pow_le_pow_right (by decide) (by decide))));generalize cmtN p g h xk xe=cm at HCMK HSP2;have hOp:=Blk.new ws #[.bool false,.string (E xk),.bool false,.string (E xe)] 30;have hbO:=b1 ws (.cells #[.bool false,.string (E xk),.bool false,.string (E xe)] 30);have hBl:=hBs.lt;have hBO:=hBs.after hbO;obtain ⟨hOpc0,hOpf0,hOpc1,hOpf1,hOpc2,hOpf2,hOpc3,hOpf3⟩:=hOp.x4;obtain ⟨hBsc0,hBsf0,hBsc1,hBsf1,hBsc2,hBsf2,hBsc3,hBsf3⟩:=hBs.x4;go_wp2_with fail
           refine (HCMK.out _).mono ?_;rintro e wm ⟨rfl,hbm⟩;clear hOpc0 hOpf0 hOpc1 hOpf1 hOpc2 hOpf2 hOpc3 hOpf3;clear hBsc0 hBsf0 hBsc1 hBsf1 hBsc2 hBsf2 hBsc3 hBsf3;have hbOm:=bt hbO hbm;replace hTs:=hTs.after hbOm;replace hRs:=hRs.after hbOm;replace hBs:=hBs.after hbOm;have hQs0:=hQs;replace hOs:=own_after hOs hbOm;replace hQs:=own_after hQs hbOm;replace hUs:=SsAt.after hUs hbOm;replace hbrs:=bt hbrs hbOm;replace hOp:=hOp.after hbm;replace HSS:Hid (wz.heap.size≤wm.heap.size):=Nat.le_trans HSS.out hbOm.size;obtain ⟨gO,hgO⟩:∃g,ws.heap.size=g:=⟨_,rfl⟩;rw [hgO] at hOp ⊢;replace hOp:Blk wm gO 30 [.bool false,.string (E xk),.bool false,.string (E xe)]:=hOp;clear hbO hbm hbOm hBO hBl HCMK;go_upto_region 29 with fail
           have hC:CA wm [(⟨gO,0,none⟩,.bool false),(⟨gO,1,none⟩,.string (E xk)),(⟨gO,2,none⟩,.bool false),(⟨gO,3,none⟩,.string (E xe))]:=CA.cons hOp.lt (hOp.cell 0) (CA.cons hOp.lt (hOp.cell 1) (CA.cons hOp.lt (hOp.cell 2) (CA.cons hOp.lt (hOp.cell 3) (CA.nil _))))
           have HNA:Hid (∀q∈[((⟨gO,0,none⟩:Addr),Value.bool false),(⟨gO,1,none⟩,.string (E xk)),(⟨gO,2,none⟩,.bool false),(⟨gO,3,none⟩,.string (E xe))],u18.ownBlock≠some q.1.block):=fun q hq=>by
            have e:=own_ne hOs hOp (by decide);simp only [List.mem_cons,List.not_mem_nil,or_false] at hq;rcases hq with rfl | rfl | rfl | rfl <;> exact e
           have HGO1:Hid (u19.ownBlock≠some gO):=fun e=>by
            have h1:=(own_lt hQs0 e).1;omega
           have HNB:Hid (∀q∈[((⟨gO,0,none⟩:Addr),Value.bool false),(⟨gO,1,none⟩,.string (E xk)),(⟨gO,2,none⟩,.bool false),(⟨gO,3,none⟩,.string (E xe))],u19.ownBlock≠some q.1.block):=fun q hq=>by
            simp only [List.mem_cons,List.not_mem_nil,or_false] at hq;rcases hq with rfl | rfl | rfl | rfl <;> exact HGO1.out
           have hszm:=HSS.out
           go_region_held3 (fun w'=>w'.cell? ⟨gO,0,none⟩=some (.bool false)∧w'.cell? ⟨gO,1,none⟩=some (.string (E xk))∧w'.cell? ⟨gO,2,none⟩=some (.bool false)∧w'.cell? ⟨gO,3,none⟩=some (.string (E xe))) ((refine CA.k4 ?_;repeat (first | (with_reducible exact hCb) | (with_reducible exact hCa) | (with_reducible exact hC) | (with_reducible refine CA.drew ?_) | (with_reducible refine CA.alloc ?_ _))))
            (first
             | (refine step_append_lies _ (by rfl) (.tmp 120) (.tmp 122) _ (by rfl) wz.heap.size 22 i0 _ 1 16 Tryz.underlying33 HI0.out HA0.out HB0.out HC0.out rfl (by omega) u18 k (strs LP) (by rfl) (by repeat (first | (with_reducible exact hOs) | (with_reducible refine World.ownsRow.drew ?_) | (with_reducible refine World.ownsRow.alloc ?_ _))) _ 1 1 [.string (E cm)] (by rfl) rfl (Blk.cells (T:=22) (by first | exact blkN (by simp) | exact (blkN (by simp)).alloc _)) (by simp [Value.oneCell']) (by omega) (by simp only [maxLen];omega) (by omega) (by simp;omega) _ rfl ?_;intro ga ca wa hownA hgrowA hatA hltA;clear hatA;have hZa:wa.ownsRow wz.heap.size 30 4 u19 k ((LO.map nop).flatMap opc):=own_grown (b1:=wz.heap.size) (b2:=wz.heap.size) (e1:=30) (e2:=22) (s1:=4) (s2:=1) (n1:=k) (n2:=k) (v1:=u19) (v2:=u18) (x1:=(LO.map nop).flatMap opc) (x2:=strs LP) (by repeat (first | (with_reducible exact hQs) | (with_reducible refine World.ownsRow.drew ?_) | (with_reducible refine World.ownsRow.alloc ?_ _))) (by repeat (first | (with_reducible exact hOs) | (with_reducible refine World.ownsRow.drew ?_) | (with_reducible refine World.ownsRow.alloc ?_ _))) (by decide) hgrowA;have hCa:CA wa [((⟨gO,0,none⟩:Addr),Value.bool false),(⟨gO,1,none⟩,.string (E xk)),(⟨gO,2,none⟩,.bool false),(⟨gO,3,none⟩,.string (E xe))]:=CA.grown (by repeat (first | (with_reducible exact hC) | (with_reducible refine CA.drew ?_) | (with_reducible refine CA.alloc ?_ _))) hgrowA HNA.out;have hTa:Blk wa gT 35 [.slice xo xm xc,.string T.seed,.int .i64 (ps+((k:Int)+1))]:=Blk.grown (by repeat (first | (with_reducible exact hTs) | (with_reducible refine Blk.drew ?_) | (with_reducible refine Blk.alloc ?_ _))) hgrowA (own_ne hOs hTs (by decide));have hRa:Blk wa gR 35 [.slice none 0 0,.string ⟨#[]⟩,.int .i64 0]:=Blk.grown (by repeat (first | (with_reducible exact hRs) | (with_reducible refine Blk.drew ?_) | (with_reducible refine Blk.alloc ?_ _))) hgrowA (own_ne hOs hRs (by decide));have hBa:Blk wa w.heap.size 26 [Value.string (E p),Value.string (E 0),Value.string (E g),Value.string (E h)]:=Blk.grown (by repeat (first | (with_reducible exact hBs) | (with_reducible refine Blk.drew ?_) | (with_reducible refine Blk.alloc ?_ _))) hgrowA (own_ne hOs hBs (by decide));have hba:Below w.heap.size w wa:=Below.grown (by repeat (first | (with_reducible exact hbrs) | (with_reducible refine Below.drew ?_) | (with_reducible refine Below.alloc ?_ (by have h1:=HWZ.out;first | omega | (simp;omega)) _))) hgrowA (by have h1:=HWZ.out;simp;omega) (fun y hy=>Nat.le_trans HWZ.out (own_lt hOs hy).2);have hszA:wz.heap.size≤wa.heap.size:=Nat.le_trans (by simp;omega) hgrowA.size;(try (have hLB0:Blk wa wm.heap.size 30 [.bool false,.string (E xk),.bool false,.string (E xe)]:=Blk.grown ((Blk.new wm #[.bool false,.string (E xk),.bool false,.string (E xe)] 30).alloc (.cells #[.string (E cm)] 22)).drew hgrowA (fun e=>by have:=(own_lt hOs e).1;omega)));(try (have hLB1:Blk wa (wm.heap.size+1) 30 [.bool false,.string (E xk),.bool false,.string (E xe)]:=Blk.grown (blk2b wm #[.string (E cm)] #[.bool false,.string (E xk),.bool false,.string (E xe)] 22 30).drew hgrowA (fun e=>by have:=(own_lt hOs e).1;omega))))
             | (refine step_append_lies _ (by rfl) (.tmp 124) (.tmp 126) _ (by rfl) wz.heap.size 30 i1 _ 4 48 Tryz.underlying74 HI1.out HA1.out HB1.out HC1.out rfl (by omega) u19 k ((LO.map nop).flatMap opc) (by rfl) (by repeat (first | (with_reducible exact hZa) | (with_reducible refine World.ownsRow.drew ?_) | (with_reducible refine World.ownsRow.alloc ?_ _))) _ 1 1 [.bool false,.string (E xk),.bool false,.string (E xe)] (by rfl) rfl (Blk.cells (T:=30) (by first | exact hLB0 | exact hLB1 | exact Blk.new _ _ _)) (by simp [Value.oneCell']) (by omega) (by simp only [maxLen];omega) (by omega) (by first | exact hszA | (simp;omega)) _ rfl ?_;intro gb cb wb hownB hgrowB hatB hltB;clear hatB;have hAb:wb.ownsRow wz.heap.size 22 1 (.slice (some ⟨ga,0,none⟩) (k+1) ca) (k+1) (strs LP++[.string (E cm)]):=own_grown (b1:=wz.heap.size) (b2:=wz.heap.size) (e1:=22) (e2:=30) (s1:=1) (s2:=4) (n1:=k+1) (n2:=k) (v1:=.slice (some ⟨ga,0,none⟩) (k+1) ca) (v2:=u19) (x1:=strs LP++[.string (E cm)]) (x2:=(LO.map nop).flatMap opc) (by repeat (first | (with_reducible exact hownA) | (with_reducible refine World.ownsRow.drew ?_) | (with_reducible refine World.ownsRow.alloc ?_ _))) (by repeat (first | (with_reducible exact hZa) | (with_reducible refine World.ownsRow.drew ?_) | (with_reducible refine World.ownsRow.alloc ?_ _))) (by decide) hgrowB;have hCb:CA wb [((⟨gO,0,none⟩:Addr),Value.bool false),(⟨gO,1,none⟩,.string (E xk)),(⟨gO,2,none⟩,.bool false),(⟨gO,3,none⟩,.string (E xe))]:=CA.grown (by repeat (first | (with_reducible exact hCa) | (with_reducible refine CA.drew ?_) | (with_reducible refine CA.alloc ?_ _))) hgrowB HNB.out))
           all_goals
            have hTb:Blk wb gT 35 [.slice xo xm xc,.string T.seed,.int .i64 (ps+((k:Int)+1))]:=Blk.grown (by repeat (first | (with_reducible exact hTa) | (with_reducible refine Blk.drew ?_) | (with_reducible refine Blk.alloc ?_ _))) hgrowB (own_ne hZa hTa (by decide));have hRb:Blk wb gR 35 [.slice none 0 0,.string ⟨#[]⟩,.int .i64 0]:=Blk.grown (by repeat (first | (with_reducible exact hRa) | (with_reducible refine Blk.drew ?_) | (with_reducible refine Blk.alloc ?_ _))) hgrowB (own_ne hZa hRa (by decide));have hBb:Blk wb w.heap.size 26 [Value.string (E p),Value.string (E 0),Value.string (E g),Value.string (E h)]:=Blk.grown (by repeat (first | (with_reducible exact hBa) | (with_reducible refine Blk.drew ?_) | (with_reducible refine Blk.alloc ?_ _))) hgrowB (own_ne hZa hBa (by decide));have hbb:Below w.heap.size w wb:=Below.grown (by repeat (first | (with_reducible exact hba) | (with_reducible refine Below.drew ?_) | (with_reducible refine Below.alloc ?_ (by have h1:=HWZ.out;first | omega | (simp;omega)) _))) hgrowB (by have h1:=HWZ.out;first | omega | (simp;omega)) (fun y hy=>Nat.le_trans HWZ.out (own_lt hQs hy).2);have hszb:wz.heap.size≤wb.heap.size:=Nat.le_trans (by first | exact hszA | (simp;omega)) hgrowB.size;have hUa:SsAt wa (.slice xo xm xc) T.vals:=SsAt.grown (by repeat (first | (with_reducible exact hUs) | (with_reducible refine ss_drew ?_) | (with_reducible refine ss_alloc ?_ _))) hgrowA HFO.out;have hUb:SsAt wb (.slice xo xm xc) T.vals:=SsAt.grown (by repeat (first | (with_reducible exact hUa) | (with_reducible refine ss_drew ?_) | (with_reducible refine ss_alloc ?_ _))) hgrowB HFQ.out;have hOb:wb.ownsRow wz.heap.size 22 1 (.slice (some ⟨ga,0,none⟩) (k+1) ca) (k+1) (strs (prP att p g h r0 X T (k+1))):=by rw [HSP2.out,←strs_app];exact hAb
            have hQb:wb.ownsRow wz.heap.size 30 4 (.slice (some ⟨gb,0,none⟩) (k+1) cb) (k+1) (((prO att r0 X T (k+1)).map nop).flatMap opc):=by rw [HSO2.out,List.map_append,List.flatMap_append];exact hownB
            clear hAb hownB hownA hCa hCb hBa hba hgrowA hgrowB hZa hTa hRa hUa hszA;go_wp2;go_roundw
            case rel=>exact ⟨k+1,xo,xm,xc,by omega,by go_num,HGD2.out,hOb,hQb,hTb,hRb,hBb,hUb,HFT.out,HFR.out,fun _=>HFW.out,hszb,hbb⟩
            case measure=>simp [intOf];omega
          ·have hkb:((ke:Int) != 0)=true:=by rw [bne_iff_ne];omega
           have HXX:=Lib.hid (HBD.out hke);clear hke HBD HGD hX hOd hQd hUd hTd hBd;have hRl:=hRd.lt;obtain ⟨hRdc0,hRdf0,hRdc1,hRdf1,hRdc2,hRdf2⟩:=hRd.x3;go_wp2;refine bodyPost_ret (v:=.tuple #[.slice none 0 0,.slice none 0 0,.agg #[.slice none 0 0,.string ⟨#[]⟩,.int .i64 0],.int .i64 (ke:Int)]) ?_ rfl ?_
           ·simp [results,Tryz.results43,go_sem,hRdc0,hRdc1,hRdc2,hRl]
           ·rw [HXX.out];exact PrPostF.err (((hbrd.setCell HWR.out _).setCell HWR.out _).setCell HWR.out _)
         ·obtain rfl:4=k:=by omega
          have HXX:Hid (R=⟨0,prP att p g h r0 X T 4,prO att r0 X T 4,T.on 4⟩):=by rw [Hid,HGG.out,prN_ok HAL.out]
          have hTl:=hT.lt;have hRl:=hR.lt;have n1':¬ gT=gR:=by have:=HGW.out;omega
          obtain ⟨hTc0,hTf0,hTc1,hTf1,hTc2,hTf2⟩:=hT.x3;obtain ⟨hRc0,hRf0,hRc1,hRf1,hRc2,hRf2⟩:=hR.x3;go_wp2_with fail
          go_region;go_wp2;refine bodyPost_ret (v:=.tuple #[u18,u19,.agg #[.slice uo um uc,.string T.seed,.int .i64 (ps+((4:Nat):Int))],.int .i64 0]) ?_ rfl ?_
          ·simp [results,Tryz.results43,go_sem,hRc0,hRc1,hRc2,hRl]
          ·rw [HXX.out];have hnR:u18.ownBlock≠some gR:=fun e=>by have h1:=(own_lt hO e).2;have h2:=HGZ.out;omega
           have hnQ:u19.ownBlock≠some gR:=fun e=>by have h1:=(own_lt hQ e).2;have h2:=HGZ.out;omega
           refine ⟨u18,u19,_,rfl,?_,?_,⟨.slice uo um uc,?_,SsAt.after (((hU.set_far hFR).set_far hFR).set_far hFR) (Below.drew (Below.refl _ _))⟩,TFar.of (fun b hb=>HFX.out (by decide) b hb),(((hbr.setCell HWR.out _).setCell HWR.out _).setCell HWR.out _).drew⟩
           ·show World.ownsRow _ _ _ _ _ (prP att p g h r0 X T 4).length _;rw [prP_len];exact own_mono (World.ownsRow.drew (own_set (own_set (own_set hO hnR) hnR) hnR)) HWZ.out
           ·show World.ownsRow _ _ _ _ _ (prO att r0 X T 4).length _;rw [prO_len];exact own_mono (World.ownsRow.drew (own_set (own_set (own_set hQ hnQ) hnQ) hnQ)) HWZ.out
           ·rw [show (T.on 4).pos=ps+((4:Nat):Int) by rw [HPS.out];rfl];rfl
theorem sqprep_c (att:Att) (a b c d:ByteArray) (lo:Int) (vn:Bool) (va:ByteArray) (rn:Bool) (ra rd:ByteArray) (T:Tp) (v:Value) (w:World)
  (hat:HAtt att T.seed w) (hok:T.Ok) (ha:a.size≤8) (hb:b.size≤100) (hc:c.size≤100) (hd:d.size≤100) (hva:va.size≤12) (hra:ra.size≤12) (hrd:rd.size≤12) (hlo:-1099511627776<lo) (hlo2:lo<1099511627776) (hV:SsAt w v T.vals) :
  Calls Tryz.prog 43 #[.agg #[.string a,.string b,.string c,.string d],.int .i64 lo,.agg #[.bool vn,.string va,.bool rn,.string ra],.string rd,.agg #[v,.string T.seed,.int .i64 T.pos]] w (PrPost w (prR att a b c d lo vn va rn ra rd T)):=
 (sqprep_f att a b c d lo vn va rn ra rd T v w hat hok ha hb hc hd hva hra hrd hlo hlo2 hV).mono fun _ _ h=>PrPostF.of h
end
end Go.Proofs.YteahlbhjhjhljaaGreatDoor
