/- dominolaw24.RangeproofWidths: the row and its tied card. -/
import Derived.Test.YtdoacbdkbbpamaaGreatDoorRgw24
import Derived.Test.YtdoacbdkbbpamaaGreatDoorMod16
import Derived.Test.YtdoacbdkbbpamaaGreatDoorWd24
import Derived.Test.YtdoacbdkbbpamaaGreatDoorCards
import Derived.Test.YtdoacbdkbbpamaaGreatDoorTie
import Derived.SevenTiedAt
set_option linter.unusedVariables false
set_option linter.unusedSimpArgs false
set_option maxRecDepth 100000
set_option maxHeartbeats 16000000
namespace Go.Proofs.YtdoacbdkbbpamaaGreatDoor
open Go.RowKit Go.WideShapes Go.ChangeShapes Go.ChangeAt Go.Joins Go.Deep
open Go.ChangeMaps (open_string shut_string)
theorem rgwd_lifted (os:Os) (started:os.Started) (H:Type) (enc:TypeId × Value→H) :
  ReturnsInHanded {} Tryz.checked os 3 .any (fun w args=>(Rows.rangeproofWidthsSpec.pre enc Tryz.prog Tryz.f3 [] false w args∧laidMetH Tryz.prog laid3 w)∧sizedMet enc Tryz.prog Tryz.f3 (OpenSpec.ofChange Rows.rangeproofWidthsSpec) false w args)
   (Rows.rangeproofWidthsSpec.post enc Tryz.prog Tryz.f3 false true false false):=by
 refine returnsInHanded_of_change_and (C:=Tryz.checked) (X:=fun w _=>laidMetH Tryz.prog laid3 w) (fun _ _ _ hh h=>h.of_heap hh) own_knob started (by kernel_rfl) Tryz.func3
  (ChangeSpec.witness_shaped (enc:=enc) (C:=Tryz.checked) (os:=os) (X:=fun w _=>laidMetH Tryz.prog laid3 w) false (World.doorLaid Tryz.prog 24 os) #[.agg #[.int .i64 0,.int .i64 0]] 8 rfl (World.shaped_of_RefB (by kernel_rfl) (by kernel_rfl)) (by kernel_rfl) (by kernel_rfl) (by kernel_rfl) (door_met os _)) ?_
 intro W base args ds gs before hval0 hW _ _ hX _;have hval:∀(j:Nat) t v,Tryz.f3.params[j]?=some t→args[j]?=some v→Value.okWide Tryz.prog W .any base t v:=hval0;have hW':=hW;obtain ⟨p,q,hA0,hV,rfl,_,_⟩:=hW;have hA:DataW.TrodAll enc Tryz.prog W 0 (fun _=>true) true Tryz.f3.params.toList args.toList ds p:=hA0;rw [Tryz.params3] at hA hval;obtain ⟨v0,vs0,d0,ds0,p0,q0,hargs,rfl,rfl,h0,r0⟩:=trodAll_cons hA;obtain ⟨rfl,rfl,rfl⟩:=trodAll_nil r0;obtain rfl:args=#[v0]:=by cases args;simp_all
 obtain ⟨rfl,rfl⟩:=trodVars_none hV;simp only [List.append_nil] at hW';have hlt:∀x∈p0,x.block<W.heap.size:=fun x hx=>hW'.lt x hx
 have k0:=h0;obtain ⟨lo,hi,rfl,hl1,hl2,hh1,hh2⟩:=open_rng (hval 0 23 v0 rfl rfl) h0;clear hA0 hval0 hA r0 h0;refine (rgw24_c lo hi W hl1 hl2 hh1 hh2 (tab_of_laid hX)).mono fun en W' hh=>?_
 obtain ⟨rfl,hb⟩:=hh
 have stay:∀{t:TypeId} (hr:Tryz.prog.readableRec t=true) (hrow:t<Tryz.prog.types.size) {v:Value} {d:DataW H} {ps:List MemPlace} (h:DataW.Trod enc Tryz.prog W 0 (fun _=>true) true t v d ps) (hl:∀z∈ps,z.block<W.heap.size) (sp:Nat→Bool) (hs:∀z∈ps,sp z.block=true),DataW.Trod enc Tryz.prog W' 0 sp true t v d ps:=
  fun hr hrow _ _ _ h hl sp hs=>WideElems.Trod_stays laid_out hr hrow h (fun z hz=>hb.same (hl z hz)) hs
 exact ⟨_,rfl,post_of_below (pa:=p0++[]) (pv:=[]) hW' (fun _ _ _=>trodAll_cons_mk (shut_bool Tryz.underlying4 _) trodAll_mk0)
  (fun sp hs=>trodAll_cons_mk (stay (by kernel_rfl) (of_decide_eq_true (by kernel_rfl)) k0 (fun z hz=>hlt z (by simp [hz])) sp (fun z hz=>hs z (by simp [hz]))) trodAll_mk0) (fun _ _=>rfl) (by simp) hb
  (ok_one (by kernel_rfl) rfl (okWide_bool_mk Tryz.underlying4 _))⟩
end Go.Proofs.YtdoacbdkbbpamaaGreatDoor
