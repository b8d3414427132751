import Derived.Test.YtcfjcenmcpankaaGreatDoorPow4
set_option linter.unusedVariables false
set_option linter.unusedSimpArgs false
set_option maxRecDepth 100000
set_option maxHeartbeats 16000000
namespace Go.Proofs.YtcfjcenmcpankaaGreatDoor
section
open Go.RowKit
theorem sz1000 {n:Nat} (h:n<256^128):(E n).size≤1000:=by have:=sz n h;omega
end
section
open Go.RowKit
def StrsAt (w:World) (ao:Option Addr) (C:List ByteArray):Prop:=C.length=0∨∃b,ao=some ⟨b,0,none⟩∧b<w.heap.size∧∀j (h:j<C.length),w.cell? ⟨b,j,none⟩=some (.string C[j])
theorem StrsAt.after {w w':World} {ao:Option Addr} {C:List ByteArray} (h:StrsAt w ao C) (hb:Below w.heap.size w w'):StrsAt w' ao C:=by
 rcases h with h | ⟨b,h1,h2,h3⟩
 ·exact .inl h
 ·exact .inr ⟨b,h1,Nat.lt_of_lt_of_le h2 hb.size,fun j hj=>(hb.cell (p:=⟨b,j,none⟩) h2).trans (h3 j hj)⟩
theorem StrsAt.at_ {w:World} {ao:Option Addr} {C:List ByteArray} (h:StrsAt w ao C) {k:Nat} (hk:k<C.length):∃b,ao=some ⟨b,0,none⟩∧w.cell? ⟨b,k,none⟩=some (.string C[k]):=by
 rcases h with h | ⟨b,h1,h2,h3⟩
 ·omega
 ·exact ⟨b,h1,h3 k hk⟩
end
end Go.Proofs.YtcfjcenmcpankaaGreatDoor
