/- sigma.Prove: refused rules,statements and forms. -/
import Derived.Test.YtihjpddbjhcbmaaGreatDoorPrv2
set_option linter.unusedVariables false
set_option linter.unusedSimpArgs false
set_option maxRecDepth 100000
set_option maxHeartbeats 16000000
namespace Go.Proofs.YtihjpddbjhcbmaaGreatDoor
open Go.RowKit Go.Shelf
def pvB (l:List (Bool × ByteArray)) (ch:ByteArray):Bool:=(l.all fun x=>ivB x.1 x.2)&&vldB ch
theorem sprove_err (C K ch sd:ByteArray) (v1 v2 v3 vw vt:Value) (ti:Int) (k:Nat) (w:World) (hk:k≠0)
  (hy:∀w',Bw w w'→Calls Tryz.prog 77 #[.agg #[.string C,.string K],.agg #[v1,v2,v3]] w' fun e w''=>e=.returned (.tuple #[.slice none 0 0,.int .i64 k])∧Bw w' w'') :
  Calls Tryz.prog 18 #[.agg #[.string C,.string K],.agg #[v1,v2,v3],vw,.string ch,.agg #[vt,.string sd,.int .i64 ti]] w (PPost w ch ⟨k,[],Tp.nil⟩ [] []):=by
 have hz:=Kh hy;have HK:=Kh hk;have hL:((k:Int) != 0)=true:=by rw[bne_iff_ne];omega
 obtain⟨hR,hP,hT,hF,hQ,hc⟩:=blk5 w #[.string C,.string K] #[v1,v2,v3] #[vt,.string sd,.int .i64 ti] #[.slice none 0 0,.string ⟨#[]⟩,.slice none 0 0] #[.slice none 0 0,.string ⟨#[]⟩,.int .i64 0] 24 29 33 40 33;have he:Hid (w.heap.size≤w.heap.size+1+1+1):=by rw[Hid];omega
 have hf:Hid (w.heap.size≤w.heap.size+1+1+1+1):=by rw[Hid];omega
 have hA:¬ w.heap.size+1+1+1=w.heap.size+1+1+1+1:=by omega
 have hB:¬ w.heap.size+1+1+1+1=w.heap.size+1+1+1:=by omega
 clear hy hk;obtain⟨hg,hh,hi,hj⟩:=hR.x2;obtain⟨hl,hm,hn,ho,hp,hq⟩:=hP.x3;go_enter Tryz.func18,Tryz.ntmps18
 go_upto_region 1 with fail
 go_step3
 go_wp2_with fail
 refine (hz.out _ hc).mono ?_;rintro e w2 ⟨rfl,hb⟩;clear hg hh hi hj;clear hl hm hn ho hp hq;clear hR hP hT;replace hF:=hF.after hb;replace hQ:=hQ.after hb;replace hc:=bt hc hb;clear hb;go_wp2_with fail
 refine (pfail_c _ _).mono ?_;rintro e wf ⟨rfl,hd⟩;replace hF:=hF.after hd;replace hQ:=hQ.after hd;replace hc:=bt hc hd;clear hd;have hC:=hF.lt;have hD:=hQ.lt;obtain⟨hr,hE,ht,hG,hu,hH⟩:=hF.x3;obtain⟨hv,hI,hw,hJ,hx,hK⟩:=hQ.x3;go_wp2;(try rw[Exit.noGoto_ret])
 refine bodyPost_ret (v:=.tuple #[.agg #[.slice none 0 0,.string ⟨#[]⟩,.slice none 0 0],.agg #[.slice none 0 0,.string ⟨#[]⟩,.int .i64 0],.int .i64 (k:Int)]) ?_ rfl ?_
 ·simp[results,Tryz.results18,go_sem,hr,ht,hu,hv,hw,hx,hC,hD,hA,hB]
 ·exact ppost_err HK.out rfl rfl ((((((hc.setCell he.out _).setCell he.out _).setCell he.out _).setCell hf.out _).setCell hf.out _).setCell hf.out _)
theorem sprove_form (C K ch sd:ByteArray) (l:List (Bool × ByteArray)) (v1 v2 v3 vw vt:Value) (ti:Int) (w:World)
  (hI:∀w',Bw w w'→Calls Tryz.prog 77 #[.agg #[.string C,.string K],.agg #[v1,v2,v3]] w' fun e w''=>∃v,e=.returned (.tuple #[v,.int .i64 0])∧Bw w' w'')
  (hJ:l.length≤1000) (hK:∀x∈l,x.2.size≤1000) (hL:ch.size≤1000) (hW:IsAt w vw l) (hb:pvB l ch=false) :
  Calls Tryz.prog 18 #[.agg #[.string C,.string K],.agg #[v1,v2,v3],vw,.string ch,.agg #[vt,.string sd,.int .i64 ti]] w (PPost w ch ⟨3,[],Tp.nil⟩ [] []):=by
 have hM:=Kh hI;have hm:Hid (∀w',Bw w w'→Calls Tryz.prog 78 #[vw] w' fun e w''=>e=.returned (.bool (l.all fun x=>ivB x.1 x.2))∧Bw w' w''):=fun w' hb=>svalid_c l vw w' hJ hK (IsAt.after hW hb)
 have hn:Hid (∀w,Calls Tryz.prog 79 #[.string ch] w fun e w'=>e=.returned (.bool (vldB ch))∧w'=w):=fun w=>valB_c ch _ w hL rfl
 have HB:=Kh hb;unfold pvB at HB;generalize (l.all fun x=>ivB x.1 x.2)=b1 at hm HB;generalize vldB ch=b3 at hn HB;obtain⟨hR,hP,hT,hF,hQ,hc⟩:=blk5 w #[.string C,.string K] #[v1,v2,v3] #[vt,.string sd,.int .i64 ti] #[.slice none 0 0,.string ⟨#[]⟩,.slice none 0 0] #[.slice none 0 0,.string ⟨#[]⟩,.int .i64 0] 24 29 33 40 33;have hk:Hid (w.heap.size≤w.heap.size+1+1+1):=by rw[Hid];omega
 have hl:Hid (w.heap.size≤w.heap.size+1+1+1+1):=by rw[Hid];omega
 have hN:¬ w.heap.size+1+1+1=w.heap.size+1+1+1+1:=by omega
 have hO:¬ w.heap.size+1+1+1+1=w.heap.size+1+1+1:=by omega
 clear hI hJ hK hL hW hb;obtain⟨ho,hp,hq,hr⟩:=hR.x2;obtain⟨ht,hu,hv,hw,hx,hy⟩:=hP.x3;go_enter Tryz.func18,Tryz.ntmps18
 go_upto_region 1 with fail
 go_step3
 go_wp2_with fail
 refine (hM.out _ hc).mono ?_;rintro e w2 ⟨lv,rfl,hb⟩;clear ho hp hq hr;clear ht hu hv hw hx hy;clear hR hP hT hM;replace hF:=hF.after hb;replace hQ:=hQ.after hb;replace hc:=bt hc hb;clear hb;cases b1
 ·go_wp2_with fail
  refine (hm.out _ hc).mono ?_;rintro e w3 ⟨rfl,hb⟩;replace hF:=hF.after hb;replace hQ:=hQ.after hb;replace hc:=bt hc hb;clear hb;go_wp2_with fail
  refine (pfail_c _ _).mono ?_;rintro e wf ⟨rfl,hd⟩;replace hF:=hF.after hd;replace hQ:=hQ.after hd;replace hc:=bt hc hd;clear hd;have hz:=hF.lt;have hA:=hQ.lt;obtain⟨he,hB,hf,hC,hg,hD⟩:=hF.x3;obtain⟨hh,hE,hi,hG,hj,hH⟩:=hQ.x3;go_wp2;(try rw[Exit.noGoto_ret])
  refine bodyPost_ret (v:=.tuple #[.agg #[.slice none 0 0,.string ⟨#[]⟩,.slice none 0 0],.agg #[.slice none 0 0,.string ⟨#[]⟩,.int .i64 0],.int .i64 3]) ?_ rfl ?_
  ·simp[results,Tryz.results18,go_sem,he,hf,hg,hh,hi,hj,hz,hA,hN,hO]
  ·exact ppost_err (by decide) rfl rfl ((((((hc.setCell hk.out _).setCell hk.out _).setCell hk.out _).setCell hl.out _).setCell hl.out _).setCell hl.out _)
 ·have hS:Hid (b3=false):=HB.out;rw[hS.out]at hn;go_wp2_with fail
  refine (hm.out _ hc).mono ?_;rintro e w3 ⟨rfl,hb⟩;replace hF:=hF.after hb;replace hQ:=hQ.after hb;replace hc:=bt hc hb;clear hb;go_wp2_with fail
  refine (hn.out _).mono ?_;rintro e w5 ⟨rfl,rfl⟩;go_wp2_with fail
  refine (pfail_c _ _).mono ?_;rintro e wf ⟨rfl,hd⟩;replace hF:=hF.after hd;replace hQ:=hQ.after hd;replace hc:=bt hc hd;clear hd;have hz:=hF.lt;have hA:=hQ.lt;obtain⟨he,hB,hf,hC,hg,hD⟩:=hF.x3;obtain⟨hh,hE,hi,hG,hj,hH⟩:=hQ.x3;go_wp2;(try rw[Exit.noGoto_ret])
  refine bodyPost_ret (v:=.tuple #[.agg #[.slice none 0 0,.string ⟨#[]⟩,.slice none 0 0],.agg #[.slice none 0 0,.string ⟨#[]⟩,.int .i64 0],.int .i64 3]) ?_ rfl ?_
  ·simp[results,Tryz.results18,go_sem,he,hf,hg,hh,hi,hj,hz,hA,hN,hO]
  ·exact ppost_err (by decide) rfl rfl ((((((hc.setCell hk.out _).setCell hk.out _).setCell hk.out _).setCell hl.out _).setCell hl.out _).setCell hl.out _)
end Go.Proofs.YtihjpddbjhcbmaaGreatDoor
