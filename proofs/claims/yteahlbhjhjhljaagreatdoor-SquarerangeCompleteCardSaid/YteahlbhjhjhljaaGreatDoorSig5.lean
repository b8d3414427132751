import Derived.Test.YteahlbhjhjhljaaGreatDoorSig2
set_option linter.unusedVariables false
set_option linter.unusedSimpArgs false
set_option maxRecDepth 100000
set_option maxHeartbeats 16000000
namespace Go.Proofs.YteahlbhjhjhljaaGreatDoor
section
open Go.RowKit Go.Shelf
@[go_sem] theorem run_store_func {P:Program} {w:World} {a:Addr} {m:Mode} (f:Fn) (b c:Array Value):(store a (.func f b c) m).run P w=stored P w a (.func f b c) m:=run_store P w a _ m rfl
def LBox (w:World) (l1 l2:Nat) (s15 s16:Value) (wx:World):Prop:=∃g,s15=.pointer (some ⟨g,0,none⟩)∧s16=.int .i64 0∧Blk wx g 142 [.string (E l1),.string (E l2)]∧w.heap.size≤g∧Below w.heap.size w wx
end
section
open Go.RowKit Go.Shelf
end
section
open Go.RowKit Go.Shelf
def ra (n:Nat) (p:Nat→Bool):Bool:=(List.range n).all p
theorem ra_false {n j:Nat} {p:Nat→Bool} (hj:j<n) (h:p j=false):ra n p=false:=by
 unfold ra;rw [List.all_eq_false];exact ⟨j,List.mem_range.2 hj,by simp [h]⟩
end
end Go.Proofs.YteahlbhjhjhljaaGreatDoor
