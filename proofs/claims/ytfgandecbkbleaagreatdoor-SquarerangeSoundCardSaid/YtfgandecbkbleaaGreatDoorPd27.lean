/- What Prepare returns: parts,openings,tape. -/
import Derived.Test.YtfgandecbkbleaaGreatDoorWt27
import Derived.Test.YtfgandecbkbleaaGreatDoorCo4
import Derived.Test.YtfgandecbkbleaaGreatDoorLg4
import Derived.Test.YtfgandecbkbleaaGreatDoorFs5
import Derived.Test.YtfgandecbkbleaaGreatDoorSat1
import Derived.Test.YtfgandecbkbleaaGreatDoorRSet2
set_option linter.unusedVariables false
set_option linter.unusedSimpArgs false
set_option maxRecDepth 100000
set_option maxHeartbeats 16000000
namespace Go.Proofs.YtfgandecbkbleaaGreatDoor
open Go.RowKit Go.Shelf
theorem info_opening:(Tryz.prog.info? 30).map (fun i=>(i.zero,i.size,i.bytes))=some (some (.agg #[.bool false,.string { data:=#[] },.bool false,.string { data:=#[] }]),4,48):=by kernel_rfl
structure PrR where
 err:Nat
 parts:List Nat
 ops:List (Nat × Nat)
 tp:Tp
def nop (x:Nat × Nat):Opn:=⟨false,E x.1,false,E x.2⟩
def rts:Option (Nat × Nat × Nat × Nat)→List Nat
 | some (a,x,y,z)=>[a,x,y,z]
 | none=>[0,0,0,0]
theorem rts_foV (o:Option (Nat × Nat × Nat × Nat)):foV o=(rts o).map (fun n=>Value.string (E n)):=by
 rcases o with _ | ⟨a,x,y,z⟩ <;> rfl
theorem rts_len (o:Option (Nat × Nat × Nat × Nat)):(rts o).length=4:=by rcases o with _ | ⟨a,x,y,z⟩ <;> rfl
def roots (d:Int):List Nat:=if d<0 then [0,0,0,0] else rts (fourF d.natAbs (rt d.natAbs))
theorem roots_len (d:Int):(roots d).length=4:=by unfold roots;split;rfl;exact rts_len _
def prC (att:Att) (rd:Nat) (T:Tp) (j:Nat):Nat × Nat:=coin att (T.on j) rd
def prP (att:Att) (p g h rd:Nat) (X:List Nat) (T:Tp) (k:Nat):List Nat:=(List.range k).map fun j=>cmtN p g h (X.getD j 0:Nat) ((prC att rd T j).2:Nat)
def prO (att:Att) (rd:Nat) (X:List Nat) (T:Tp) (k:Nat):List (Nat × Nat):=(List.range k).map fun j=>(X.getD j 0,(prC att rd T j).2)
def prN (att:Att) (p g h rd:Nat) (X:List Nat) (T:Tp):PrR:=
 match (List.range 4).find? (fun j=>(prC att rd T j).1 != 0) with
 | some j=>⟨(prC att rd T j).1,[],[],Tp.nil⟩
 | none=>⟨0,prP att p g h rd X T 4,prO att rd X T 4,T.on 4⟩
def prR (att:Att) (a b c d:ByteArray) (lo:Int) (vn:Bool) (va:ByteArray) (rn:Bool) (ra rd:ByteArray) (T:Tp):PrR:=
 if (ivB vn va&&ivB rn ra&&vldB rd&&T.good)=false then ⟨3,[],[],Tp.nil⟩ else if kyV a b c d≠0 then ⟨kyV a b c d,[],[],Tp.nil⟩ else if rd.size=0 then ⟨11,[],[],Tp.nil⟩
 else if 4294967296≤intb vn va-lo then ⟨5,[],[],Tp.nil⟩ else prN att (numb a) (numb c) (numb d) (numb rd) (roots (intb vn va-lo)) T
theorem prN_bad {att:Att} {p g h rd:Nat} {X:List Nat} {T:Tp} {k:Nat} (hk:k<4) (hb:∀j,j<k→(prC att rd T j).1=0) (he:(prC att rd T k).1≠0):prN att p g h rd X T=⟨(prC att rd T k).1,[],[],Tp.nil⟩:=by
 unfold prN;rw [find_range (p:=fun j=>(prC att rd T j).1 != 0) hk (fun j hj=>by rw [hb j hj];rfl) (bne_iff_ne.2 he)]
theorem prN_ok {att:Att} {p g h rd:Nat} {X:List Nat} {T:Tp} (hb:∀j,j<4→(prC att rd T j).1=0):prN att p g h rd X T=⟨0,prP att p g h rd X T 4,prO att rd X T 4,T.on 4⟩:=by
 unfold prN;rw [List.find?_eq_none.2 (fun j hj=>by have:=hb j (List.mem_range.1 hj);simp [this])]
theorem prP_snoc (att:Att) (p g h rd:Nat) (X:List Nat) (T:Tp) (k:Nat):prP att p g h rd X T (k+1)=prP att p g h rd X T k++[cmtN p g h (X.getD k 0:Nat) ((prC att rd T k).2:Nat)]:=by unfold prP;rw [List.range_succ,List.map_append];rfl
theorem prO_snoc (att:Att) (rd:Nat) (X:List Nat) (T:Tp) (k:Nat):prO att rd X T (k+1)=prO att rd X T k++[(X.getD k 0,(prC att rd T k).2)]:=by unfold prO;rw [List.range_succ,List.map_append];rfl
theorem prP_len (att:Att) (p g h rd:Nat) (X:List Nat) (T:Tp) (k:Nat):(prP att p g h rd X T k).length=k:=by unfold prP;simp
theorem prO_len (att:Att) (rd:Nat) (X:List Nat) (T:Tp) (k:Nat):(prO att rd X T k).length=k:=by unfold prO;simp
theorem prC_lt {att:Att} {rd:Nat} {T:Tp} {j:Nat} (h:(prC att rd T j).1=0):(prC att rd T j).2<rd:=by
 unfold prC at *;unfold coin at *;split at h
 ·simp at h
 ·rename_i h1;split at h
  ·simp at h
  ·rename_i h2;rw [if_neg h1,if_neg h2];exact coinD_lt h
def OOwn (w:World) (base:Nat) (v:Value) (L:List (Nat × Nat)):Prop:=w.ownsRow base 30 4 v L.length ((L.map nop).flatMap opc)
theorem OOwn.os {w:World} {base:Nat} {v:Value} {L:List (Nat × Nat)} (h:OOwn w base v L):OsAt w v (L.map nop):=os_own (L.map nop) (by simp) h
def PrPost (w:World) (R:PrR) (e:Ending) (w':World):Prop:=∃u v t,e=.returned (.tuple #[u,v,t,.int .i64 (R.err:Int)])∧NOwn w' w.heap.size u R.parts∧OOwn w' w.heap.size v R.ops∧TAt w' t R.tp∧Below w.heap.size w w'
theorem PrPost.err {w w':World} {k:Nat} (h:Below w.heap.size w w'):PrPost w ⟨k,[],[],Tp.nil⟩ (.returned (.tuple #[.slice none 0 0,.slice none 0 0,.agg #[.slice none 0 0,.string ⟨#[]⟩,.int .i64 0],.int .i64 (k:Int)])) w':=
 ⟨_,_,_,rfl,World.ownsRow_nil _ _ _ _,World.ownsRow_nil _ _ _ _,⟨_,rfl,ss_nil _⟩,h⟩
theorem blk4 (w:World) (A B C D:Array Value) (TA TB TC TD:TypeId):Blk ((((w.alloc (.cells A TA)).alloc (.cells B TB)).alloc (.cells C TC)).alloc (.cells D TD)) w.heap.size TA A.toList∧Blk ((((w.alloc (.cells A TA)).alloc (.cells B TB)).alloc (.cells C TC)).alloc (.cells D TD)) (w.heap.size+1) TB B.toList∧Blk ((((w.alloc (.cells A TA)).alloc (.cells B TB)).alloc (.cells C TC)).alloc (.cells D TD)) (w.heap.size+2) TC C.toList∧Blk ((((w.alloc (.cells A TA)).alloc (.cells B TB)).alloc (.cells C TC)).alloc (.cells D TD)) (w.heap.size+3) TD D.toList∧Below w.heap.size w ((((w.alloc (.cells A TA)).alloc (.cells B TB)).alloc (.cells C TC)).alloc (.cells D TD)):=by
 refine ⟨(blk3a w A B C TA TB TC).alloc _,(blk3b w A B C TA TB TC).alloc _,(blk3c w A B C TA TB TC).alloc _,?_,ba (b3 w _ _ _) _⟩;have h:=Blk.new (((w.alloc (.cells A TA)).alloc (.cells B TB)).alloc (.cells C TC)) D TD;simp only [World.size_alloc] at h;exact h
end Go.Proofs.YtfgandecbkbleaaGreatDoor
