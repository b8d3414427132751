import Derived.Test.YtihjpddbjhcbmaaGreatDoorCo4
import Derived.WalkMore
set_option linter.unusedVariables false
set_option linter.unusedSimpArgs false
set_option maxRecDepth 100000
set_option maxHeartbeats 16000000
namespace Go.Proofs.YtihjpddbjhcbmaaGreatDoor
section
open Go.RowKit Go.Shelf
def DWPost (w:World) (vt:Value) (R:Drw) (e:Ending) (w':World):Prop:=∃v u,e=.returned (.tuple #[v,.agg #[u,.string R.tp.seed,.int .i64 R.tp.pos],.int .i64 (R.err:Int)])∧ZOwn w' w.heap.size v R.msk∧SsAt w' u R.tp.vals∧(∀g,g<w.heap.size→FarS vt g→FarS u g)∧Bw w w'
theorem lims1_lt {N:NSta} (hm:NOk N) {C K:Nat} (hC:C<256^16) (hK:K<256^16) {b:Nat} (hb:b∈N.vars):(lim N.ord C K b).1<256^60:=by
 unfold lim;split
 ·exact Nl (ord_lt hm) P8
 ·exact Nl (lt_mul3 hC hK (hm.v b hb)).2 P8
end
section
open Go.RowKit Go.Shelf
def PPost (w:World) (c:ByteArray) (R:Drw) (F:List Nat) (Y:List Int) (e:Ending) (w':World):Prop:=∃fv rv u ch,e=.returned (.tuple #[.agg #[fv,.string ch,rv],.agg #[u,.string R.tp.seed,.int .i64 R.tp.pos],.int .i64 (R.err:Int)]) ∧
 (ch=if R.err=0 then c else ⟨#[]⟩)∧NOwn w' w.heap.size fv F∧ZOwn w' w.heap.size rv Y∧SsAt w' u R.tp.vals∧Bw w w'
theorem ppost_err {w w':World} {c:ByteArray} {k:Nat} {F:List Nat} {Y:List Int} (hk:k≠0) (hF:F=[]) (hY:Y=[]) (h:Bw w w') :
  PPost w c ⟨k,[],Tp.nil⟩ F Y (.returned (.tuple #[.agg #[.slice none 0 0,.string ⟨#[]⟩,.slice none 0 0],.agg #[.slice none 0 0,.string ⟨#[]⟩,.int .i64 0],.int .i64 (k:Int)])) w':=
 ⟨_,_,_,_,rfl,by rw[if_neg hk],by rw[hF];exact World.ownsRow_nil _ _ _ _,by rw[hY];exact World.ownsRow_nil _ _ _ _,ss_nil _,h⟩
theorem coin_lt {att:Att} {T:Tp} {n:Nat} (h:(coin att T n).1=0):(coin att T n).2<n:=by
 unfold coin at *;split at h
 ·simp at h
 ·rename_i h1;rw[if_neg h1];split at h
  ·simp at h
  ·rename_i h2;rw[if_neg h2];exact coinD_lt h
theorem csgn_lt {att:Att} {T:Tp} {m:Nat} (hm:m<256^60) (h:(csgn att T m).1=0):(csgn att T m).2.natAbs<256^64:=by
 have h9:256^60*2≤256^64:=by decide
 unfold csgn at *;split at h
 ·rename_i h1;exact absurd h h1
 ·rename_i h1;rw[if_neg h1];split at h
  ·rename_i h2;rw[if_pos h2];have:=coinD_lt h2;generalize (256:Nat)^60=x at *;generalize (256:Nat)^64=y at *;simp only[];omega
  ·rename_i h2;exact absurd h h2
end
section
open Go.RowKit Go.Shelf
end
end Go.Proofs.YtihjpddbjhcbmaaGreatDoor
