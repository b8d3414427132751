/- dominolaw16.SigmaProves: the row and its tied card. -/
import Derived.Test.YtihjpddbjhcbmaaGreatDoorPlw
import Derived.Test.YtihjpddbjhcbmaaGreatDoorCards
import Derived.Test.YtihjpddbjhcbmaaGreatDoorTie
import Derived.SevenTiedAt
set_option linter.unusedVariables false
set_option linter.unusedSimpArgs false
set_option maxRecDepth 100000
set_option maxHeartbeats 16000000
namespace Go.Proofs.YtihjpddbjhcbmaaGreatDoor
open Go.RowKit Go.WideShapes Go.ChangeShapes Go.ChangeAt Go.Joins Go.Deep
open Go.ChangeMaps (open_string shut_string)
theorem sprv_c (S:Sta) (C K ch sd:ByteArray) (Wi M:List (Bool × ByteArray)) (V:List ByteArray) (i:Int) (s1 s2 s3 sw sm st:Option Addr) (m1 m2 m3 mw mm mt d1 d2 d3 dw dm dt:Nat) (w:World) (hC:C.size≤9223372036854775807) (hK:K.size≤9223372036854775807) (he:ch.size≤9223372036854775807) (hf:sd.size≤9223372036854775807)
  (hg:∀x∈Wi,x.2.size≤9223372036854775807) (hh:∀x∈M,x.2.size≤9223372036854775807) (hi:∀x∈V,x.size≤9223372036854775807)
  (hz:SSz S) (hS:StAt w (.slice s1 m1 d1) (.slice s2 m2 d2) (.slice s3 m3 d3) S) (hc:IsAt w (.slice sw mw dw) Wi) (hj:IsAt w (.slice sm mm dm) M) (hd:SsAt w (.slice st mt dt) V) (ht:TabW w) :
  Calls Tryz.prog 3 #[.agg #[.string C,.string K],.agg #[.slice s1 m1 d1,.slice s2 m2 d2,.slice s3 m3 d3],.agg #[.slice sw mw dw,.slice sm mm dm,.string ch,.slice st mt dt,.string sd,.int .i64 i]] w fun e w'=>e=.returned (.bool true)∧Bw w w':=by
 refine sp_walk C K ch sd i s1 s2 s3 sw sm st m1 m2 m3 mw mm mt d1 d2 d3 dw dm dt w (ruleB S C K) (smB Wi M ch V sd) (fun w' hb=>few16_c S C K _ _ _ w' hC hK hz (hS.after hb)) (fun w' hb=>smallR_c Wi M ch V sd i _ _ _ w' hg hh he hf hi (IsAt.after hc hb) (IsAt.after hj hb) (SsAt.after hd hb)) (fun hr hs=>?_);simp only[ruleB,Bool.and_eq_true,decide_eq_true_eq]at hr;simp only[smB,shB,stB,Bool.and_eq_true,decide_eq_true_eq,Bool.not_eq_true',List.any_eq_false,lgB]at hs;obtain⟨⟨a1,a2⟩,_,a5,⟨b1,b2⟩,b3⟩:=hs;exact prove_all16 S C K ch sd Wi V i _ _ _ (.slice sw mw dw) (.slice st mt dt) w hr.1.1 hr.1.2 (few_C hr.2) hS (by omega) (fun x hx=>by have:=a2 x hx;omega) (by omega) hc (by omega) (fun x hx=>by have:=b3 x hx;omega) (by omega) hd ht
theorem sprv_lifted (os:Os) (started:os.Started) (H:Type) (enc:TypeId × Value→H) :
  ReturnsInHanded {} Tryz.checked os 3 .any (fun w args=>(Rows.sigmaProvesSpec.pre enc Tryz.prog Tryz.f3 [] false w args∧laidMetH Tryz.prog laid3 w)∧sizedMet enc Tryz.prog Tryz.f3 (OpenSpec.ofChange Rows.sigmaProvesSpec) false w args)
   (Rows.sigmaProvesSpec.post enc Tryz.prog Tryz.f3 false true false false):=by
 refine returnsInHanded_of_change_and (C:=Tryz.checked) (X:=fun w _=>laidMetH Tryz.prog laid3 w) (fun _ _ _ hh h=>h.of_heap hh) own_knob started (by kernel_rfl) Tryz.func3
  (ChangeSpec.witness_shaped (enc:=enc) (C:=Tryz.checked) (os:=os) (X:=fun w _=>laidMetH Tryz.prog laid3 w) false (World.doorLaid Tryz.prog 24 os) #[.agg #[.string ⟨#[]⟩,.string ⟨#[]⟩],.agg #[.slice none 0 0,.slice none 0 0,.slice none 0 0],.agg #[.slice none 0 0,.slice none 0 0,.string ⟨#[]⟩,.slice none 0 0,.string ⟨#[]⟩,.int .i64 0]] 8 rfl (World.shaped_of_RefB (by kernel_rfl) (by kernel_rfl)) (by kernel_rfl) (by kernel_rfl) (by kernel_rfl) (door_met os _)) ?_
 intro W base args ds gs before hd hW _ _ hX _;have hc:∀(j:Nat) t v,Tryz.f3.params[j]?=some t→args[j]?=some v→Value.okWide Tryz.prog W .any base t v:=hd;have hf:=hW;obtain⟨p,q,hg,hV,rfl,_,_⟩:=hW;have hA:DataW.TrodAll enc Tryz.prog W 0 (fun _=>true) true Tryz.f3.params.toList args.toList ds p:=hg;rw[Tryz.params3]at hA hc;obtain⟨v0,vs0,d0,ds0,p0,q0,hi,rfl,rfl,h0,r0⟩:=trodAll_cons hA;obtain⟨v1,vs1,d1,ds1,p1,q1,rfl,rfl,rfl,h1,r1⟩:=trodAll_cons r0;obtain⟨v2,vs2,d2,ds2,p2,q2,rfl,rfl,rfl,h2,r2⟩:=trodAll_cons r1;obtain⟨rfl,rfl,rfl⟩:=trodAll_nil r2;obtain rfl:args=#[v0,v1,v2]:=by cases args;simp_all
 obtain⟨rfl,rfl⟩:=trodVars_none hV;simp only[List.append_nil]at hf;have hlt:∀x∈p0++(p1++p2),x.block<W.heap.size:=fun x hx=>hf.lt x hx
 have k0:=h0;have k1:=h1;have k2:=h2;obtain⟨C,K,rfl,hC,hK⟩:=open_rule (hc 0 24 v0 rfl rfl) h0;obtain⟨S,s1,s2,s3,m1,m2,m3,d1,d2,d3,rfl,hz,hS⟩:=open_sta (hc 1 29 v1 rfl rfl) h1;obtain⟨Wi,M,ch,V,sd,i,sw,sm,st,mw,mm,mt,dw,dm,dt,rfl,hj,hk,hm,hn,ho,hp,hq,ht⟩:=open_run (hc 2 35 v2 rfl rfl) h2;clear hg hd hA r0 h0 r1 h1 r2 h2;refine (sprv_c S C K ch sd Wi M V i s1 s2 s3 sw sm st m1 m2 m3 mw mm mt d1 d2 d3 dw dm dt W hC hK hm ho hj hk hn hz hS hp hq ht (tab_of_laid hX)).mono fun en W' hh=>?_
 obtain⟨rfl,hb⟩:=hh
 have stay:∀{t:TypeId} (hr:Tryz.prog.readableRec t=true) (he:t<Tryz.prog.types.size) {v:Value} {d:DataW H} {ps:List MemPlace} (h:DataW.Trod enc Tryz.prog W 0 (fun _=>true) true t v d ps) (hl:∀z∈ps,z.block<W.heap.size) (sp:Nat→Bool) (hs:∀z∈ps,sp z.block=true),DataW.Trod enc Tryz.prog W' 0 sp true t v d ps:=
  fun hr he _ _ _ h hl sp hs=>WideElems.Trod_stays laid_out hr he h (fun z hz=>hb.same (hl z hz)) hs
 exact⟨_,rfl,post_of_below (pa:=p0++(p1++(p2++[]))) (pv:=[]) hf (fun _ _ _=>trodAll_cons_mk (shut_bool Tryz.underlying4 _) trodAll_mk0)
  (fun sp hs=>trodAll_cons_mk (stay (by kernel_rfl) (of_decide_eq_true (by kernel_rfl)) k0 (fun z hz=>hlt z (by simp[hz])) sp (fun z hz=>hs z (by simp[hz]))) (trodAll_cons_mk (stay (by kernel_rfl) (of_decide_eq_true (by kernel_rfl)) k1 (fun z hz=>hlt z (by simp[hz])) sp (fun z hz=>hs z (by simp[hz]))) (trodAll_cons_mk (stay (by kernel_rfl) (of_decide_eq_true (by kernel_rfl)) k2 (fun z hz=>hlt z (by simp[hz])) sp (fun z hz=>hs z (by simp[hz]))) trodAll_mk0))) (fun _ _=>rfl) (by simp) hb
  (ok_one (by kernel_rfl) rfl (okWide_bool_mk Tryz.underlying4 _))⟩
end Go.Proofs.YtihjpddbjhcbmaaGreatDoor
