import Derived.Test.YtihjpddbjhcbmaaGreatDoorHol
set_option linter.unusedVariables false
set_option linter.unusedSimpArgs false
set_option maxRecDepth 100000
set_option maxHeartbeats 16000000
namespace Go.Proofs.YtihjpddbjhcbmaaGreatDoor
section
open Go.RowKit Go.Shelf
def rspI (q b c:Nat) (m z:Int):Int:=if b=0 then (m+(c:Int)*z)%(q:Int) else m+(c:Int)*z
def rspJ (N:NSta) (c:Nat) (W M:List Int) (j:Nat):Int:=rspI N.ord (N.vars.getD j 0) c (M.getD j 0) (W.getD j 0)
def rsJ (N:NSta) (C K c:Nat) (W M:List Int) (j:Nat):Bool:=blw (N.vars.getD j 0) (rspJ N c W M j) (lim N.ord C K (N.vars.getD j 0)).2
def NSta.rsp2 (N:NSta) (C K c:Nat) (W M:List Int):Nat:=if ra N.vars.length (rsJ N C K c W M)=false then 15 else 0
end
section
open Go.RowKit Go.Shelf
end
section
open Go.RowKit Go.Shelf
end
end Go.Proofs.YtihjpddbjhcbmaaGreatDoor
