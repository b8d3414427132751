/- dominolaw16.SigmaCommits: the row and its tied card. -/
import Derived.Test.YtcfjcenmcpankaaGreatDoorClw
import Derived.Test.YtcfjcenmcpankaaGreatDoorArgC
import Derived.Test.YtcfjcenmcpankaaGreatDoorLd16
import Derived.Test.YtcfjcenmcpankaaGreatDoorCards
import Derived.Test.YtcfjcenmcpankaaGreatDoorTie
import Derived.SevenTiedAt
set_option linter.unusedVariables false
set_option linter.unusedSimpArgs false
set_option maxRecDepth 100000
set_option maxHeartbeats 16000000
namespace Go.Proofs.YtcfjcenmcpankaaGreatDoor
open Go.RowKit Go.WideShapes Go.ChangeShapes Go.ChangeAt Go.Joins Go.Deep
open Go.ChangeMaps (open_string shut_string)
theorem scom_c (S:Sta) (C K sd:ByteArray) (V:List ByteArray) (i:Int) (s1 s2 s3 st:Option Addr) (m1 m2 m3 mt d1 d2 d3 dt:Nat) (w:World) (hC:C.size≤9223372036854775807) (hK:K.size≤9223372036854775807) (hsd:sd.size≤9223372036854775807)
  (hV1:∀x∈V,x.size≤9223372036854775807) (hz:SSz S) (hS:StAt w (.slice s1 m1 d1) (.slice s2 m2 d2) (.slice s3 m3 d3) S) (hVs:SsAt w (.slice st mt dt) V) (ht:TabW w) :
  Calls Tryz.prog 10 #[.agg #[.string C,.string K],.agg #[.slice s1 m1 d1,.slice s2 m2 d2,.slice s3 m3 d3],.agg #[.slice st mt dt,.string sd,.int .i64 i]] w fun e w'=>e=.returned (.bool true)∧Below w.heap.size w w':=by
 refine cm_walk C K sd i s1 s2 s3 st m1 m2 m3 mt d1 d2 d3 dt w (ruleB S C K) (stB V sd) (fun w' hb=>few16_c S C K _ _ _ w' hC hK hz (hS.after hb)) (fun w' hb=>shortTape_c V sd i _ w' hsd hV1 (SsAt.after hVs hb)) (fun hr hs=>?_);simp only [ruleB,Bool.and_eq_true,decide_eq_true_eq] at hr;simp only [stB,Bool.and_eq_true,decide_eq_true_eq,Bool.not_eq_true',List.any_eq_false,lgB] at hs;obtain ⟨⟨a1,a2⟩,a3⟩:=hs;exact commit_all16 S C K sd V i _ _ _ (.slice st mt dt) w hr.1.1 hr.1.2 hr.2 hS (by omega) (fun x hx=>by have:=a3 x hx;omega) a2 hVs ht
theorem scom_lifted (os:Os) (started:os.Started) (H:Type) (enc:TypeId × Value→H) :
  ReturnsInHanded {} Tryz.checked os 10 .any (fun w args=>(Rows.sigmaCommitsSpec.pre enc Tryz.prog Tryz.f10 [] false w args∧laidMetH Tryz.prog laid3 w)∧sizedMet enc Tryz.prog Tryz.f10 (OpenSpec.ofChange Rows.sigmaCommitsSpec) false w args)
   (Rows.sigmaCommitsSpec.post enc Tryz.prog Tryz.f10 false true false false):=by
 refine returnsInHanded_of_change_and (C:=Tryz.checked) (X:=fun w _=>laidMetH Tryz.prog laid3 w) (fun _ _ _ hh h=>h.of_heap hh) own_knob started (by kernel_rfl) Tryz.func10
  (ChangeSpec.witness_shaped (enc:=enc) (C:=Tryz.checked) (os:=os) (X:=fun w _=>laidMetH Tryz.prog laid3 w) false (World.doorLaid Tryz.prog 24 os) #[.agg #[.string ⟨#[]⟩,.string ⟨#[]⟩],.agg #[.slice none 0 0,.slice none 0 0,.slice none 0 0],.agg #[.slice none 0 0,.string ⟨#[]⟩,.int .i64 0]] 8 rfl (World.shaped_of_RefB (by kernel_rfl) (by kernel_rfl)) (by kernel_rfl) (by kernel_rfl) (by kernel_rfl) (door_met os _)) ?_
 intro W base args ds gs before hval0 hW _ _ hX _;have hval:∀(j:Nat) t v,Tryz.f10.params[j]?=some t→args[j]?=some v→Value.okWide Tryz.prog W .any base t v:=hval0;have hW':=hW;obtain ⟨p,q,hA0,hV,rfl,_,_⟩:=hW;have hA:DataW.TrodAll enc Tryz.prog W 0 (fun _=>true) true Tryz.f10.params.toList args.toList ds p:=hA0;rw [Tryz.params10] at hA hval;obtain ⟨v0,vs0,d0,ds0,p0,q0,hargs,rfl,rfl,h0,r0⟩:=trodAll_cons hA;obtain ⟨v1,vs1,d1,ds1,p1,q1,rfl,rfl,rfl,h1,r1⟩:=trodAll_cons r0;obtain ⟨v2,vs2,d2,ds2,p2,q2,rfl,rfl,rfl,h2,r2⟩:=trodAll_cons r1;obtain ⟨rfl,rfl,rfl⟩:=trodAll_nil r2;obtain rfl:args=#[v0,v1,v2]:=by cases args;simp_all
 obtain ⟨rfl,rfl⟩:=trodVars_none hV;simp only [List.append_nil] at hW';have hlt:∀x∈p0++(p1++p2),x.block<W.heap.size:=fun x hx=>hW'.lt x hx
 have k0:=h0;have k1:=h1;have k2:=h2;obtain ⟨C,K,rfl,hC,hK⟩:=open_rule (hval 0 24 v0 rfl rfl) h0;obtain ⟨S,s1,s2,s3,m1,m2,m3,d1,d2,d3,rfl,hz,hS⟩:=open_sta (hval 1 29 v1 rfl rfl) h1;obtain ⟨V,sd,ti,st,mt,dt,rfl,hV1,hsd,hVs⟩:=open_tape (hval 2 41 v2 rfl rfl) h2;clear hA0 hval0 hA r0 h0 r1 h1 r2 h2;refine (scom_c S C K sd V ti s1 s2 s3 st m1 m2 m3 mt d1 d2 d3 dt W hC hK hsd hV1 hz hS hVs (tab_of_laid hX)).mono fun en W' hh=>?_
 obtain ⟨rfl,hb⟩:=hh
 have stay:∀{t:TypeId} (hr:Tryz.prog.readableRec t=true) (hrow:t<Tryz.prog.types.size) {v:Value} {d:DataW H} {ps:List MemPlace} (h:DataW.Trod enc Tryz.prog W 0 (fun _=>true) true t v d ps) (hl:∀z∈ps,z.block<W.heap.size) (sp:Nat→Bool) (hs:∀z∈ps,sp z.block=true),DataW.Trod enc Tryz.prog W' 0 sp true t v d ps:=
  fun hr hrow _ _ _ h hl sp hs=>WideElems.Trod_stays laid_out hr hrow h (fun z hz=>hb.same (hl z hz)) hs
 exact ⟨_,rfl,post_of_below (pa:=p0++(p1++(p2++[]))) (pv:=[]) hW' (fun _ _ _=>trodAll_cons_mk (shut_bool Tryz.underlying4 _) trodAll_mk0)
  (fun sp hs=>trodAll_cons_mk (stay (by kernel_rfl) (of_decide_eq_true (by kernel_rfl)) k0 (fun z hz=>hlt z (by simp [hz])) sp (fun z hz=>hs z (by simp [hz]))) (trodAll_cons_mk (stay (by kernel_rfl) (of_decide_eq_true (by kernel_rfl)) k1 (fun z hz=>hlt z (by simp [hz])) sp (fun z hz=>hs z (by simp [hz]))) (trodAll_cons_mk (stay (by kernel_rfl) (of_decide_eq_true (by kernel_rfl)) k2 (fun z hz=>hlt z (by simp [hz])) sp (fun z hz=>hs z (by simp [hz]))) trodAll_mk0))) (fun _ _=>rfl) (by simp) hb
  (ok_one (by kernel_rfl) rfl (okWide_bool_mk Tryz.underlying4 _))⟩
theorem scom_holds:Rows.SigmaCommitsSaid:=
 OpenClaim.holds_of_wide 10 Tryz.f10 rfl rfl rfl rfl rfl rfl rfl ⟨rfl,rfl,rfl,rfl,rfl⟩ rfl rfl rfl rfl rfl (by kernel_rfl) Tryz.func10 (by kernel_rfl)
  (of_decide_eq_true (by kernel_rfl)) (by unfold Func.isWrapper;first | (rw [if_pos (by decide +kernel)];kernel_rfl) | (rw [if_neg (by decide +kernel)];exact ⟨rfl,rfl⟩))
  (fun os started H enc _=>scom_lifted os started H enc)
theorem scom_card:Rows.SigmaCommitsCardSaid:=
 Claim7.holds_tied_plain_at .later [] [.data,.data,.data] true (true,"82157d4e328a061784dc718d726121388702a985537db1dd35e3cb80443a5f63") false
  scom_holds (fun _ h=>by cases h) (by kernel_rfl) (fun _ h=>by cases h) sigmaCommits_row_tie rfl ⟨rfl,rfl⟩ (by kernel_rfl) rfl
  (fun f fn hf hfn=>by
   obtain rfl:f=10:=Option.some.inj ((show Tryz.prog.funcNamed "domino/dominolaw16.SigmaCommits"=some 10 by kernel_rfl).symm.trans hf) |>.symm;obtain rfl:fn=Tryz.f10:=(Option.some.inj (Tryz.func10.symm.trans hfn)).symm
   exact ⟨by kernel_rfl,fun j t ht=>by
    rw [Tryz.params10] at ht;have hm:t∈[24,29,41]:=by simpa using Array.mem_of_getElem? ht
    have hall:([24,29,41].all fun u=>!Tryz.prog.wantsStandIn u)=true:=by kernel_rfl
    exact (show Tryz.prog.wantsStandIn t=false by simpa using List.all_eq_true.1 hall t hm)⟩)
  (by kernel_rfl)
end Go.Proofs.YtcfjcenmcpankaaGreatDoor
