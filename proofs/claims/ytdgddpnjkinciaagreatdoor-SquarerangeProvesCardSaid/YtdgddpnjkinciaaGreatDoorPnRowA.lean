/- dominolaw27.SquarerangeProves: the row and its tied card. -/
import Derived.Test.YtdgddpnjkinciaaGreatDoorPnl27
import Derived.Test.YtdgddpnjkinciaaGreatDoorCards
import Derived.Test.YtdgddpnjkinciaaGreatDoorTie
import Derived.SevenTiedAt
set_option linter.all false
set_option maxRecDepth 100000
set_option maxHeartbeats 16000000
namespace Go.Proofs.YtdgddpnjkinciaaGreatDoor
open Go.RowKit Go.WideShapes Go.ChangeShapes Go.ChangeAt Go.Joins Go.Deep
open Go.ChangeMaps (open_string shut_string)
theorem sqpv_lifted (os:Os) (started:os.Started) (H:Type) (enc:TypeId × Value→H) :
  ReturnsInHanded {} Tryz.checked os 3 .any (fun w args=>(Rows.squarerangeProvesSpec.pre enc Tryz.prog Tryz.f3 [] false w args∧laidMetH Tryz.prog laid3 w)∧sizedMet enc Tryz.prog Tryz.f3 (OpenSpec.ofChange Rows.squarerangeProvesSpec) false w args)
   (Rows.squarerangeProvesSpec.post enc Tryz.prog Tryz.f3 false true false false):=by
 refine returnsInHanded_of_change_and (C:=Tryz.checked) (X:=fun w _=>laidMetH Tryz.prog laid3 w) (fun _ _ _ hh h=>h.of_heap hh) own_knob started (by kernel_rfl) Tryz.func3
  (ChangeSpec.witness_shaped (enc:=enc) (C:=Tryz.checked) (os:=os) (X:=fun w _=>laidMetH Tryz.prog laid3 w) false (World.doorLaid Tryz.prog 24 os) #[.agg #[.string ⟨#[]⟩,.string ⟨#[]⟩,.string ⟨#[]⟩,.string ⟨#[]⟩,.int .i64 0,.bool false,.string ⟨#[]⟩,.bool false,.string ⟨#[]⟩,.string ⟨#[]⟩,.string ⟨#[]⟩],.int .u8 0,.agg #[.slice none 0 0,.string ⟨#[]⟩,.int .i64 0]] 8 rfl (World.shaped_of_RefB (by kernel_rfl) (by kernel_rfl)) (by kernel_rfl) (by kernel_rfl) (by kernel_rfl) (door_met os _)) ?_
 intro W base args ds gs before hd hW _ _ hX _;have hc:∀(j:Nat) t v,Tryz.f3.params[j]?=some t→args[j]?=some v→Value.okWide Tryz.prog W .any base t v:=hd;have hf:=hW;obtain⟨p,q,hg,hV,rfl,_,_⟩:=hW;have hA:DataW.TrodAll enc Tryz.prog W 0 (fun _=>true) true Tryz.f3.params.toList args.toList ds p:=hg;rw[Tryz.params3]at hA hc;obtain⟨v0,vs0,d0,ds0,p0,q0,hi,rfl,rfl,h0,r0⟩:=trodAll_cons hA;obtain⟨v1,vs1,d1,ds1,p1,q1,rfl,rfl,rfl,h1,r1⟩:=trodAll_cons r0;obtain⟨v2,vs2,d2,ds2,p2,q2,rfl,rfl,rfl,h2,r2⟩:=trodAll_cons r1;obtain⟨rfl,rfl,rfl⟩:=trodAll_nil r2;obtain rfl:args=#[v0,v1,v2]:=by cases args;simp_all
 obtain⟨rfl,rfl⟩:=trodVars_none hV;simp only[List.append_nil]at hf;have hlt:∀x∈p0++(p1++p2),x.block<W.heap.size:=fun x hx=>hf.lt x hx
 have k0:=h0;have k1:=h1;have k2:=h2;obtain⟨a,b,c,d,lo,vn,va,rn,ra,vl,rd,rfl,hj,hk⟩:=open_bnd (hc 0 32 v0 rfl rfl) h0;obtain⟨kk,rfl,hm⟩:=open_byte (hc 1 5 v1 rfl rfl) h1;obtain⟨V,sd,ti,st,mt,dt,rfl,hn,ho,hp,hq⟩:=open_tape (hc 2 35 v2 rfl rfl) h2;clear hg hd hA r0 h0 r1 h1 r2 h2;refine (pn27_c a b c d lo vn va rn ra vl rd kk V sd ti st mt dt W hm hj hk hp hn ho hq (tab_of_laid hX)).mono fun en W' hh=>?_
 obtain⟨rfl,hb⟩:=hh
 have stay:∀{t:TypeId} (hr:Tryz.prog.readableRec t=true) (he:t<Tryz.prog.types.size) {v:Value} {d:DataW H} {ps:List MemPlace} (h:DataW.Trod enc Tryz.prog W 0 (fun _=>true) true t v d ps) (hl:∀z∈ps,z.block<W.heap.size) (sp:Nat→Bool) (hs:∀z∈ps,sp z.block=true),DataW.Trod enc Tryz.prog W' 0 sp true t v d ps:=
  fun hr he _ _ _ h hl sp hs=>WideElems.Trod_stays laid_out hr he h (fun z hz=>hb.same (hl z hz)) hs
 exact⟨_,rfl,post_of_below (pa:=p0++(p1++(p2++[]))) (pv:=[]) hf (fun _ _ _=>trodAll_cons_mk (shut_bool Tryz.underlying4 _) trodAll_mk0)
  (fun sp hs=>trodAll_cons_mk (stay (by kernel_rfl) (of_decide_eq_true (by kernel_rfl)) k0 (fun z hz=>hlt z (by simp[hz])) sp (fun z hz=>hs z (by simp[hz]))) (trodAll_cons_mk (stay (by kernel_rfl) (of_decide_eq_true (by kernel_rfl)) k1 (fun z hz=>hlt z (by simp[hz])) sp (fun z hz=>hs z (by simp[hz]))) (trodAll_cons_mk (stay (by kernel_rfl) (of_decide_eq_true (by kernel_rfl)) k2 (fun z hz=>hlt z (by simp[hz])) sp (fun z hz=>hs z (by simp[hz]))) trodAll_mk0))) (fun _ _=>rfl) (by simp) hb
  (ok_one (by kernel_rfl) rfl (okWide_bool_mk Tryz.underlying4 _))⟩
end Go.Proofs.YtdgddpnjkinciaaGreatDoor
