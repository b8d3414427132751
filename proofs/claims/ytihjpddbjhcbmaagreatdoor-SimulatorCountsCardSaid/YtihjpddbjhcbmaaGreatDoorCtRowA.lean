/- dominolaw17.SimulatorCounts: the row and its tied card. -/
import Derived.Test.YtihjpddbjhcbmaaGreatDoorCw17
import Derived.Test.YtihjpddbjhcbmaaGreatDoorCards
import Derived.Test.YtihjpddbjhcbmaaGreatDoorTie
import Derived.SevenTiedAt
set_option linter.unusedVariables false
set_option linter.unusedSimpArgs false
set_option maxRecDepth 100000
set_option maxHeartbeats 16000000
namespace Go.Proofs.YtihjpddbjhcbmaaGreatDoor
open Go.RowKit Go.WideShapes Go.ChangeShapes Go.ChangeAt Go.Joins Go.Deep
open Go.ChangeMaps (open_string shut_string)
theorem scnt_c (S:Sta) (C K ch sd:ByteArray) (WL L:List (Bool × ByteArray)) (V:List ByteArray) (ti:Int) (s1 s2 s3 xw xl xt:Option Addr) (m1 m2 m3 d1 d2 d3 nw pw nl pl nt pt:Nat) (w:World)
  (hC:C.size≤9223372036854775807) (hK:K.size≤9223372036854775807) (hz:SSz S) (hS:StAt w (.slice s1 m1 d1) (.slice s2 m2 d2) (.slice s3 m3 d3) S)
  (hp:CSz WL L V ch sd) (hc:IsAt w (.slice xw nw pw) WL) (hd:IsAt w (.slice xl nl pl) L) (he:SsAt w (.slice xt nt pt) V) :
  Calls Tryz.prog 7 #[.agg #[.string C,.string K,.slice s1 m1 d1,.slice s2 m2 d2,.slice s3 m3 d3,.slice xw nw pw,.string ch,.slice xl nl pl,.slice xt nt pt,.string sd,.int .i64 ti]] w fun e w'=>e=.returned (.bool true)∧Bw w w':=by
 refine ct_walk C K ch sd ti s1 s2 s3 xw xl xt m1 m2 m3 d1 d2 d3 nw pw nl pl nt pt w (caseB S C K ch sd WL L V) (fun w' hb=>fewC_c S C K ch sd WL L V ti s1 s2 s3 xw xl xt m1 m2 m3 d1 d2 d3 nw pw nl pl nt pt w' hC hK hz (hS.after hb) hp (IsAt.after hc hb) (IsAt.after hd hb) (SsAt.after he hb)) (fun hr h1=>?_);obtain⟨hj,hk,hf,hg,hh,hl,hm,hi⟩:=caseB_inv hr;exact ct_num S C K ch WL s1 s2 s3 xw m1 m2 m3 d1 d2 d3 nw pw w (by omega) (by omega) hf hS hi hg hh hc h1
theorem scnt_lifted (os:Os) (started:os.Started) (H:Type) (enc:TypeId × Value→H) :
  ReturnsInHanded {} Tryz.checked os 7 .any (fun w args=>(Rows.simulatorCountsSpec.pre enc Tryz.prog Tryz.f7 [] false w args∧laidMetH Tryz.prog laid3 w)∧sizedMet enc Tryz.prog Tryz.f7 (OpenSpec.ofChange Rows.simulatorCountsSpec) false w args)
   (Rows.simulatorCountsSpec.post enc Tryz.prog Tryz.f7 false true false false):=by
 refine returnsInHanded_of_change_and (C:=Tryz.checked) (X:=fun w _=>laidMetH Tryz.prog laid3 w) (fun _ _ _ hh h=>h.of_heap hh) own_knob started (by kernel_rfl) Tryz.func7
  (ChangeSpec.witness_shaped (enc:=enc) (C:=Tryz.checked) (os:=os) (X:=fun w _=>laidMetH Tryz.prog laid3 w) false (World.doorLaid Tryz.prog 24 os) #[.agg #[.string ⟨#[]⟩,.string ⟨#[]⟩,.slice none 0 0,.slice none 0 0,.slice none 0 0,.slice none 0 0,.string ⟨#[]⟩,.slice none 0 0,.slice none 0 0,.string ⟨#[]⟩,.int .i64 0]] 8 rfl (World.shaped_of_RefB (by kernel_rfl) (by kernel_rfl)) (by kernel_rfl) (by kernel_rfl) (by kernel_rfl) (door_met os _)) ?_
 intro W base args ds gs before hc hW _ _ hX _;have hd:∀(j:Nat) t v,Tryz.f7.params[j]?=some t→args[j]?=some v→Value.okWide Tryz.prog W .any base t v:=hc;have hf:=hW;obtain⟨p,q,hg,hV,rfl,_,_⟩:=hW;have hA:DataW.TrodAll enc Tryz.prog W 0 (fun _=>true) true Tryz.f7.params.toList args.toList ds p:=hg;rw[Tryz.params7]at hA hd;obtain⟨v0,vs0,d0,ds0,p0,q0,hi,rfl,rfl,h0,r0⟩:=trodAll_cons hA;obtain⟨rfl,rfl,rfl⟩:=trodAll_nil r0;obtain rfl:args=#[v0]:=by cases args;simp_all
 obtain⟨rfl,rfl⟩:=trodVars_none hV;simp only[List.append_nil]at hf;have hlt:∀x∈p0,x.block<W.heap.size:=fun x hx=>hf.lt x hx
 have k0:=h0;obtain⟨C,K,ch,sd,S,WL,L,V,ti,s1,s2,s3,xw,xl,xt,m1,m2,m3,d1,d2,d3,nw,pw,nl,pl,nt,pt,rfl,hC,hK,hz,hS,hp,hj,hk,hm⟩:=open_case (hd 0 50 v0 rfl rfl) h0;clear hg hc hA r0 h0;refine (scnt_c S C K ch sd WL L V ti s1 s2 s3 xw xl xt m1 m2 m3 d1 d2 d3 nw pw nl pl nt pt W hC hK hz hS hp hj hk hm).mono fun en W' hh=>?_
 obtain⟨rfl,hb⟩:=hh
 have stay:∀{t:TypeId} (hr:Tryz.prog.readableRec t=true) (he:t<Tryz.prog.types.size) {v:Value} {d:DataW H} {ps:List MemPlace} (h:DataW.Trod enc Tryz.prog W 0 (fun _=>true) true t v d ps) (hl:∀z∈ps,z.block<W.heap.size) (sp:Nat→Bool) (hs:∀z∈ps,sp z.block=true),DataW.Trod enc Tryz.prog W' 0 sp true t v d ps:=
  fun hr he _ _ _ h hl sp hs=>WideElems.Trod_stays laid_out hr he h (fun z hz=>hb.same (hl z hz)) hs
 exact⟨_,rfl,post_of_below (pa:=p0++[]) (pv:=[]) hf (fun _ _ _=>trodAll_cons_mk (shut_bool Tryz.underlying4 _) trodAll_mk0)
  (fun sp hs=>trodAll_cons_mk (stay (by kernel_rfl) (of_decide_eq_true (by kernel_rfl)) k0 (fun z hz=>hlt z (by simp[hz])) sp (fun z hz=>hs z (by simp[hz]))) trodAll_mk0) (fun _ _=>rfl) (by simp) hb
  (ok_one (by kernel_rfl) rfl (okWide_bool_mk Tryz.underlying4 _))⟩
end Go.Proofs.YtihjpddbjhcbmaaGreatDoor
