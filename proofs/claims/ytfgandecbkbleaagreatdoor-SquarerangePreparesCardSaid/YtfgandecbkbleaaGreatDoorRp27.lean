/- ref27.Prepare. -/
import Derived.Test.YtfgandecbkbleaaGreatDoorPp27
import Derived.Test.YtfgandecbkbleaaGreatDoorCmt2
import Derived.Test.YtfgandecbkbleaaGreatDoorFs5
import Derived.Test.YtfgandecbkbleaaGreatDoorRc2
import Derived.Test.YtfgandecbkbleaaGreatDoorLc27
import Derived.Test.YtfgandecbkbleaaGreatDoorRw27
set_option linter.unusedVariables false
set_option linter.unusedSimpArgs false
set_option maxRecDepth 100000
set_option maxHeartbeats 16000000
namespace Go.Proofs.YtfgandecbkbleaaGreatDoor
open Go.RowKit Go.Shelf
theorem rts0:roots 0=[0,0,0,0]:=by decide +kernel
theorem sg_natF (n:Nat):sg (n:Int)=false:=by unfold sg;exact decide_eq_false (by omega)
theorem rprep_c (att:Att) (a b c d:ByteArray) (lo:Int) (vn:Bool) (va:ByteArray) (rn:Bool) (ra rd:ByteArray) (T:Tp) (v:Value) (w:World)
  (hat:RAtt att T.seed) (hok:T.Ok) (ha:a.size≤8) (hb:b.size≤100) (hc:c.size≤100) (hd:d.size≤100) (hva:va.size≤12) (hra:ra.size≤12) (hrd:rd.size≤12) (hlo:-1099511627776<lo) (hlo2:lo<1099511627776) (hV:SsAt w v T.vals) :
  Calls Tryz.prog 16 #[.agg #[.string a,.string b,.string c,.string d],.int .i64 lo,.agg #[.bool vn,.string va,.bool rn,.string ra],.string rd,.agg #[v,.string T.seed,.int .i64 T.pos]] w (PrPost w (prR att a b c d lo vn va rn ra rd T)):=by
 obtain ⟨i0,hi0,hz00,hz01,hz02⟩:=info_parts info_nat;obtain ⟨i1,hi1,hz10,hz11,hz12⟩:=info_parts info_opening;have HI0:=Lib.hid hi0;have HA0:=Lib.hid hz00;have HB0:=Lib.hid hz01;have HC0:=Lib.hid hz02;have HI1:=Lib.hid hi1;have HA1:=Lib.hid hz10;have HB1:=Lib.hid hz11;have HC1:=Lib.hid hz12;clear hi0 hz00 hz01 hz02 hi1 hz10 hz11 hz12;obtain ⟨m,hm⟩:∃m,kyV a b c d=m:=⟨_,rfl⟩;obtain ⟨f1,hf1⟩:∃f,vl4 a b c d=f:=⟨_,rfl⟩;obtain ⟨f2,hf2⟩:∃f,(ivB vn va&&ivB rn ra)=f:=⟨_,rfl⟩;obtain ⟨f3,hf3⟩:∃f,vldB rd=f:=⟨_,rfl⟩;obtain ⟨f4,hf4⟩:∃f,T.good=f:=⟨_,rfl⟩;obtain ⟨R,hR⟩:∃R,R=prR att a b c d lo vn va rn ra rd T:=⟨_,rfl⟩;rw [←hR];-- what is returned
 have HF0:Hid ((f1&&f2&&f3&&f4)=false→R=⟨3,[],[],Tp.nil⟩):=fun h=>by
  rw [hR,prR];cases f1
  ·have h3:kyV a b c d=3:=by
    have e:pedV a b c d=3:=by unfold pedV;rw [hf1];rfl
    unfold kyV;rw [e];rfl
   by_cases hx:(ivB vn va&&ivB rn ra&&vldB rd&&T.good)=false
   ·rw [if_pos hx]
   ·rw [if_neg hx,h3,if_pos (by decide)]
  ·rw [Bool.true_and] at h;rw [hf2,hf3,hf4,if_pos h]
 have hz:(f1&&f2&&f3&&f4)=true→(ivB vn va&&ivB rn ra&&vldB rd&&T.good)=true:=fun h=>by
  rw [hf2,hf3,hf4];cases f1 <;> simp_all
 have HBM:Hid ((f1&&f2&&f3&&f4)=true→m≠0→R=⟨m,[],[],Tp.nil⟩):=fun h h2=>by
  rw [hR,prR,hz h,if_neg (by decide),hm,if_pos h2]
 have HGM:Hid ((f1&&f2&&f3&&f4)=true→m=0→(ivB vn va=true∧vldB rd=true∧kyV a b c d=0)∧(rd.size=0→R=⟨11,[],[],Tp.nil⟩)∧(rd.size≠0→4294967296≤intb vn va-lo→R=⟨5,[],[],Tp.nil⟩)∧(rd.size≠0→¬ 4294967296≤intb vn va-lo→R=prN att (numb a) (numb c) (numb d) (numb rd) (roots (intb vn va-lo)) T)):=fun h h2=>by
  have hR2:R=if rd.size=0 then ⟨11,[],[],Tp.nil⟩ else if 4294967296≤intb vn va-lo then ⟨5,[],[],Tp.nil⟩ else prN att (numb a) (numb c) (numb d) (numb rd) (roots (intb vn va-lo)) T:=by
   rw [hR,prR,hz h,if_neg (by decide),if_neg (by rw [hm,h2];decide)]
  have h9:=hz h;simp only [Bool.and_eq_true] at h9;exact ⟨⟨h9.1.1.1,h9.1.2,hm.trans h2⟩,fun k=>by rw [hR2,if_pos k],fun k k2=>by rw [hR2,if_neg k,if_pos k2],fun k k2=>by rw [hR2,if_neg k,if_neg k2]⟩
 have HFM:Hid (∀w:World,Calls Tryz.prog 43 #[.agg #[.string a,.string b,.string c,.string d]] w fun e w'=>e=.returned (.bool f1)∧Below w.heap.size w w'):=fun w=>by rw [←hf1];exact r27form_c a b c d w (by omega) (by omega) (by omega) (by omega)
 have HOP:Hid (∀w:World,Calls Tryz.prog 44 #[.agg #[.bool vn,.string va,.bool rn,.string ra]] w fun e w'=>e=.returned (.bool f2)∧Below w.heap.size w w'):=fun w=>by rw [←hf2];exact r27openingB_c vn rn va ra w (by omega) (by omega)
 have HVR:Hid (∀w:World,Calls Tryz.prog 50 #[.string rd] w fun e w'=>e=.returned (.bool f3)∧w=w'):=fun w=>by rw [←hf3];exact rvalid_c rd w (by omega)
 have HGD:Hid (∀(u:Value) (w:World),SsAt w u T.vals→Calls Tryz.prog 51 #[.agg #[u,.string T.seed,.int .i64 T.pos]] w fun e w'=>e=.returned (.bool f4)∧Below w.heap.size w w'):=fun u w hu=>by rw [←hf4];exact rgood_v T u w hok hu
 have HKY:Hid (∀w:World,Calls Tryz.prog 45 #[.agg #[.string a,.string b,.string c,.string d]] w fun e w'=>e=.returned (.int .i64 m)∧Below w.heap.size w w'):=fun w=>r27key_c a b c d m w ha hb hc hd hm
 have HVA:Hid (va.size≤12):=hva;have HRD:Hid (rd.size≤12):=hrd;have HAS:Hid (a.size≤8):=ha;have HLO:Hid (lo.natAbs<1099511627776):=by rw [Hid];omega
 have HAT:=Lib.hid hat;have HOK:=Lib.hid hok;clear ha hb hc hd hva hra hrd hlo hlo2 hat hok hR hm hz hf1 hf2 hf3 hf4;obtain ⟨at_,ct,rfl⟩:=RAt.form hV;obtain ⟨nt,hnt⟩:∃n,n=T.vals.length:=⟨_,rfl⟩;have HNT:=Lib.hid hnt;rw [←hnt] at hV ⊢;clear hnt;obtain ⟨hB,hI,hT,hR,hBW⟩:=blk4 w #[Value.string a,Value.string b,Value.string c,Value.string d] #[.bool vn,.string va,.bool rn,.string ra] #[.slice at_ nt ct,.string T.seed,.int .i64 T.pos] #[.slice none 0 0,.string ⟨#[]⟩,.int .i64 0] 26 30 47 47;obtain ⟨gI,hgI⟩:∃g,w.heap.size+1=g:=⟨_,rfl⟩;obtain ⟨gT,hgT⟩:∃g,w.heap.size+1+1=g:=⟨_,rfl⟩;obtain ⟨gR,hgR⟩:∃g,w.heap.size+1+1+1=g:=⟨_,rfl⟩;have HGW:Hid (w.heap.size<gI∧gI<gT∧gT<gR):=by rw [Hid];omega
 have HG1:=Lib.hid hgI;have HG2:=Lib.hid hgT;have HG3:=Lib.hid hgR;have hFT:FarS (.slice at_ nt ct) gT:=ss_far hV (by omega);have hFR:FarS (.slice at_ nt ct) gR:=ss_far hV (by omega);have hV1:=SsAt.after hV hBW;clear hgI hgT hgR;go_enter Tryz.func16,Tryz.ntmps16
 go_upto_region 1 with fail
 rw [HG3.out,HG2.out,HG1.out];replace hI:Blk _ gI 30 [.bool vn,.string va,.bool rn,.string ra]:=HG1.out ▸ hI;replace hT:Blk _ gT 47 [.slice at_ nt ct,.string T.seed,.int .i64 T.pos]:=HG2.out ▸ hT;replace hR:Blk _ gR 47 [.slice none 0 0,.string ⟨#[]⟩,.int .i64 0]:=HG3.out ▸ hR;replace hB:Blk _ w.heap.size 26 [Value.string a,Value.string b,Value.string c,Value.string d]:=hB;generalize (((w.alloc (.cells #[Value.string a,Value.string b,Value.string c,Value.string d] 26)).alloc (.cells #[.bool vn,.string va,.bool rn,.string ra] 30)).alloc (.cells #[.slice at_ nt ct,.string T.seed,.int .i64 T.pos] 47)).alloc (.cells #[.slice none 0 0,.string ⟨#[]⟩,.int .i64 0] 47)=w1 at hB hI hT hR hBW hV1 ⊢;clear HG1 HG2 HG3;have HWW:Hid (w.heap.size≤w1.heap.size):=hBW.size;have HWR:Hid (w.heap.size≤gR):=by have:=HGW.out;rw [Hid];omega
 have HGL:Hid (gR<w1.heap.size):=hR.lt;obtain ⟨ps,hps⟩:∃p,p=T.pos:=⟨_,rfl⟩;have HPS:=Lib.hid hps;rw [←hps] at hT HGD ⊢;clear hps;obtain ⟨hBc0,hBf0,hBc1,hBf1,hBc2,hBf2,hBc3,hBf3⟩:=hB.x4;go_wp2_with fail
 refine (HFM.out _).mono ?_;rintro e wa ⟨rfl,hba⟩;clear hBc0 hBf0 hBc1 hBf1 hBc2 hBf2 hBc3 hBf3;replace hB:=hB.after hba;replace hI:=hI.after hba;replace hT:=hT.after hba;replace hR:=hR.after hba;replace hV1:=SsAt.after hV1 hba;replace hBW:=bt hBW hba;clear hba;cases f1
 case false =>
  have HX:=Lib.hid (HF0.out (by simp));clear HF0 HBM HGM hB hI hT;have hRl:=hR.lt;obtain ⟨hRc0,hRf0,hRc1,hRf1,hRc2,hRf2⟩:=hR.x3;go_wp2;refine bodyPost_ret (v:=.tuple #[.slice none 0 0,.slice none 0 0,.agg #[.slice none 0 0,.string ⟨#[]⟩,.int .i64 0],.int .i64 3]) ?_ rfl ?_
  ·simp [results,Tryz.results16,go_sem,hRc0,hRc1,hRc2,hRl]
  ·rw [HX.out];exact PrPost.err (((hBW.setCell HWR.out _).setCell HWR.out _).setCell HWR.out _)
 case true =>
  obtain ⟨hIc0,hIf0,hIc1,hIf1,hIc2,hIf2,hIc3,hIf3⟩:=hI.x4;go_wp2_with fail
  refine (HOP.out _).mono ?_;rintro e wb ⟨rfl,hbb⟩;clear hIc0 hIf0 hIc1 hIf1 hIc2 hIf2 hIc3 hIf3;replace hB:=hB.after hbb;replace hI:=hI.after hbb;replace hT:=hT.after hbb;replace hR:=hR.after hbb;replace hV1:=SsAt.after hV1 hbb;replace hBW:=bt hBW hbb;clear hbb;cases f2
  case false =>
   have HX:=Lib.hid (HF0.out (by simp));clear HF0 HBM HGM hB hI hT;have hRl:=hR.lt;obtain ⟨hRc0,hRf0,hRc1,hRf1,hRc2,hRf2⟩:=hR.x3;go_wp2;refine bodyPost_ret (v:=.tuple #[.slice none 0 0,.slice none 0 0,.agg #[.slice none 0 0,.string ⟨#[]⟩,.int .i64 0],.int .i64 3]) ?_ rfl ?_
   ·simp [results,Tryz.results16,go_sem,hRc0,hRc1,hRc2,hRl]
   ·rw [HX.out];exact PrPost.err (((hBW.setCell HWR.out _).setCell HWR.out _).setCell HWR.out _)
  case true =>
   go_wp2_with fail
   refine (HVR.out _).mono ?_;rintro e w' ⟨rfl,rfl⟩;cases f3
   case false =>
    have HX:=Lib.hid (HF0.out (by simp));clear HF0 HBM HGM hB hI hT;have hRl:=hR.lt;obtain ⟨hRc0,hRf0,hRc1,hRf1,hRc2,hRf2⟩:=hR.x3;go_wp2;refine bodyPost_ret (v:=.tuple #[.slice none 0 0,.slice none 0 0,.agg #[.slice none 0 0,.string ⟨#[]⟩,.int .i64 0],.int .i64 3]) ?_ rfl ?_
    ·simp [results,Tryz.results16,go_sem,hRc0,hRc1,hRc2,hRl]
    ·rw [HX.out];exact PrPost.err (((hBW.setCell HWR.out _).setCell HWR.out _).setCell HWR.out _)
   case true =>
    obtain ⟨hTc0,hTf0,hTc1,hTf1,hTc2,hTf2⟩:=hT.x3;go_wp2_with fail
    refine (HGD.out _ _ hV1).mono ?_;rintro e wd ⟨rfl,hbd⟩;clear hTc0 hTf0 hTc1 hTf1 hTc2 hTf2;replace hB:=hB.after hbd;replace hI:=hI.after hbd;replace hT:=hT.after hbd;replace hR:=hR.after hbd;replace hV1:=SsAt.after hV1 hbd;replace hBW:=bt hBW hbd;clear hbd;cases f4
    case false =>
     have HX:=Lib.hid (HF0.out (by simp));clear HF0 HBM HGM hB hI hT;have hRl:=hR.lt;obtain ⟨hRc0,hRf0,hRc1,hRf1,hRc2,hRf2⟩:=hR.x3;go_wp2;refine bodyPost_ret (v:=.tuple #[.slice none 0 0,.slice none 0 0,.agg #[.slice none 0 0,.string ⟨#[]⟩,.int .i64 0],.int .i64 3]) ?_ rfl ?_
     ·simp [results,Tryz.results16,go_sem,hRc0,hRc1,hRc2,hRl]
     ·rw [HX.out];exact PrPost.err (((hBW.setCell HWR.out _).setCell HWR.out _).setCell HWR.out _)
    case true =>
     replace HBM:Hid (m≠0→R=⟨m,[],[],Tp.nil⟩):=HBM.out (by simp);have HGM2:=Lib.hid (HGM.out (by simp));clear HF0 HGM;obtain ⟨hBc0,hBf0,hBc1,hBf1,hBc2,hBf2,hBc3,hBf3⟩:=hB.x4;go_wp2_with fail
     refine (HKY.out _).mono ?_;rintro e we ⟨rfl,hbe⟩;clear hBc0 hBf0 hBc1 hBf1 hBc2 hBf2 hBc3 hBf3;replace hB:=hB.after hbe;replace hI:=hI.after hbe;replace hT:=hT.after hbe;replace hR:=hR.after hbe;replace hV1:=SsAt.after hV1 hbe;replace hBW:=bt hBW hbe;clear hbe;by_cases hm0:m=0
     case neg =>
      have hmb:((m:Int) != 0)=true:=by rw [bne_iff_ne];omega
      have HX:=Lib.hid (HBM.out hm0);clear hm0 HBM HGM2 hB hI hT;have hRl:=hR.lt;obtain ⟨hRc0,hRf0,hRc1,hRf1,hRc2,hRf2⟩:=hR.x3;go_wp2;refine bodyPost_ret (v:=.tuple #[.slice none 0 0,.slice none 0 0,.agg #[.slice none 0 0,.string ⟨#[]⟩,.int .i64 0],.int .i64 (m:Int)]) ?_ rfl ?_
      ·simp [results,Tryz.results16,go_sem,hRc0,hRc1,hRc2,hRl]
      ·rw [HX.out];exact PrPost.err (((hBW.setCell HWR.out _).setCell HWR.out _).setCell HWR.out _)
     case pos =>
      subst hm0;obtain ⟨⟨hiv,hvr,hky⟩,h11,h5,hgo⟩:=HGM2.out rfl;obtain ⟨V,_,rfl,rfl⟩:=of_ivB hiv;obtain ⟨r0,_,rfl⟩:=of_vldB hvr;obtain ⟨p,g,h,⟨hp,hg,hh⟩,rfl,rfl,rfl,rfl,hpe⟩:=kyV_zero hky HAS.out;rw [intb_I] at h5 hgo;rw [empty_E] at h11;rw [numb_E,numb_E,numb_E,numb_E] at hgo;have HVB:=Lib.hid (lt_of_size HVA.out);have HRB:=Lib.hid (lt_of_size HRD.out);have H11:=Lib.hid h11;have H5:=Lib.hid (fun k:r0≠0=>h5 (fun e=>k (empty_E.1 e)));have HGO:=Lib.hid (fun k:r0≠0=>hgo (fun e=>k (empty_E.1 e)));have HKEY:Hid ((p<256^8∧g<256^128∧h<256^128)∧pedE p 0 g h=0):=⟨⟨hp,hg,hh⟩,hpe⟩;clear HGM2 HBM hiv hvr hky hp hg hh hpe h11 h5 hgo HVA HRD HAS;by_cases hr0:r0=0
      case pos =>
       have hz:=zE hr0;have HX:=Lib.hid (H11.out hr0);clear hr0 H11 H5 HGO hB hI hT;have hRl:=hR.lt;obtain ⟨hRc0,hRf0,hRc1,hRf1,hRc2,hRf2⟩:=hR.x3;go_wp2;refine bodyPost_ret (v:=.tuple #[.slice none 0 0,.slice none 0 0,.agg #[.slice none 0 0,.string ⟨#[]⟩,.int .i64 0],.int .i64 11]) ?_ rfl ?_
       ·simp [results,Tryz.results16,go_sem,hRc0,hRc1,hRc2,hRl]
       ·rw [HX.out];exact PrPost.err (((hBW.setCell HWR.out _).setCell HWR.out _).setCell HWR.out _)
      case neg =>
       have hz:=nzE (Nat.pos_of_ne_zero hr0);replace H5:=Lib.hid (H5.out hr0);replace HGO:=Lib.hid (HGO.out hr0);have HR0:=Lib.hid hr0;clear hr0 H11;obtain ⟨wx,hwx⟩:∃wx,wx=we:=⟨_,rfl⟩;subst hwx;have HRX:Hid (gR<wx.heap.size):=hR.lt;have HOF:Hid (∀w:World,Calls Tryz.prog 52 #[.int .i64 lo] w fun e w'=>e=.returned (.agg #[.bool (sg (lo)),.string (E (lo).natAbs)])∧Below w.heap.size w w'):=fun w=>riof_c lo w (by have:=HLO.out;omega) (by have:=HLO.out;omega)
       have HSU:Hid (∀w:World,Calls Tryz.prog 25 #[.agg #[.bool (sg (V)),.string (E (V).natAbs)],.agg #[.bool (sg (lo)),.string (E (lo).natAbs)]] w fun e w'=>e=.returned (.tuple #[.agg #[.bool (sg (V-lo)),.string (E (V-lo).natAbs)],.int .i64 0])∧Below w.heap.size w w'):=fun w=>by
        have h1:=HVB.out;have h2:=HLO.out;have h3:(256:Nat)^12+1099511627776<256^128:=by decide
        exact risub_c (x:=V) (y:=lo) (w:=w) (by omega) (by omega) (by omega)
       have HDB:Hid ((V-lo).natAbs<256^13):=by
        have h1:=HVB.out;have h2:=HLO.out;have h3:(256:Nat)^12+1099511627776<256^13:=by decide
        rw [Hid];omega
       obtain ⟨dd,hdd⟩:∃z,z=V-lo:=⟨_,rfl⟩;rw [←hdd] at HSU H5 HGO HDB;clear hdd;have hC:CA wx [(⟨gI,0,none⟩,.bool (sg V)),(⟨gI,1,none⟩,.string (E V.natAbs))]:=CA.cons hI.lt (hI.cell 0) (CA.cons hI.lt (hI.cell 1) (CA.nil _));have hneA:=fun x hx=>Nat.ne_of_lt (hC x hx).1
       go_upto_region 8 with fail
       go_cut [15,16] (fun s15 s16 wy=>ZBox wx dd s15 s16 wy)
       case first =>
        go_region_held3 (fun w'=>w'.cell? ⟨gI,0,none⟩=some (.bool (sg V))∧w'.cell? ⟨gI,1,none⟩=some (.string (E V.natAbs)))
         ((refine CA.k2 ?_;repeat (first | (with_reducible exact hCg) | (with_reducible exact hCf) | (with_reducible exact hC) | (with_reducible refine CA.drew ?_) | (with_reducible refine CA.alloc ?_ _) | (refine CA.set ?_ _ _ _ hneA) | (refine CA.set ?_ _ _ _ (fun x hx=>Nat.ne_of_lt (hCf x hx).1)) | (refine CA.set ?_ _ _ _ (fun x hx=>Nat.ne_of_lt (hCg x hx).1)))))
         (first
          | (go_at_call 52;refine (HOF.out _).mono ?_;rintro e wf ⟨rfl,hbf⟩;have hCf:CA wf [(⟨gI,0,none⟩,.bool (sg V)),(⟨gI,1,none⟩,.string (E V.natAbs))]:=(by first | exact hC.drew.after hbf | exact (hC.alloc _).drew.after hbf | exact (hC.drew.alloc _).after hbf);(try (have kA:=(Blk.new wx #[.bool false,.string { data:=#[] }] 28).drew.after hbf)))
          | (go_at_call 25;refine (HSU.out _).mono ?_;rintro e wg ⟨rfl,hbg⟩;have hCg:CA wg [(⟨gI,0,none⟩,.bool (sg V)),(⟨gI,1,none⟩,.string (E V.natAbs))]:=(by first | exact hCf.after hbg | exact (hCf.alloc _).after hbg);(try (have kB:=kA.after hbg;have kB0:=kB.cell 0;have kB1:=kB.cell 1;have kB2:=kB.free 0;have kB3:=kB.free 1));(try (have kC:=(Blk.new wf #[.bool false,.string { data:=#[] }] 28).after hbg;have kC0:=kC.cell 0;have kC1:=kC.cell 1;have kC2:=kC.free 0;have kC3:=kC.free 1))))
        all_goals
         go_wp2_with fail
         go_meet
         first
          | exact ⟨_,rfl,rfl,Blk.new _ _ _,Nat.le_trans hbf.size hbg.size,ba (((Below.drew (Below.refl _ _)).trans hbf).trans (hbg.mono hbf.size)) _⟩
          | exact ⟨_,rfl,rfl,(kC.set 0 _).set 1 _,hbf.size,((bt (ba ((Below.drew (Below.refl _ _)).trans hbf) _) hbg).setCell hbf.size _).setCell hbf.size _⟩
          | exact ⟨_,rfl,rfl,(kB.set 0 _).set 1 _,Nat.le_refl _,((bt (bt ((b1 wx _).drew) hbf) hbg).setCell (by simp) _).setCell (by simp) _⟩
       case rest =>
        obtain ⟨gX,rfl,rfl,hX,hgX,hby⟩:=hcut;obtain ⟨wy,hwy⟩:∃wy,wy=wc:=⟨_,rfl⟩;subst hwy;clear hC hneA HOF HSU hI;have hXl:=hX.lt;-- the roots
        have HXB0:Hid (¬ 4294967296≤dd→∀k,(roots dd).getD k 0<256^8):=fun h k=>roots_lt h k
        obtain ⟨n,hn⟩:∃n:Nat,n=if dd<0 then 0 else dd.natAbs:=⟨_,rfl⟩
        have HRN:Hid (roots dd=rts (fourF n (rt n))):=by
         rw [Hid,hn];unfold roots;by_cases h:dd<0
         ·rw [if_pos h,if_pos h];exact rts0.symm
         ·rw [if_neg h,if_neg h]
        have HNB:Hid (n<256^13∧(4294967296≤n↔4294967296≤dd)):=by
         have h1:=HDB.out;have h2:(0:Nat)<256^13:=by decide
         rw [Hid,hn];by_cases h:dd<0
         ·rw [if_pos h];omega
         ·rw [if_neg h];omega
        by_cases hdn:dd<0
        case' pos =>
         have hsg:sg dd=true:=by unfold sg;exact decide_eq_true hdn
         rw [hsg] at hX;rw [if_pos hdn] at hn;obtain ⟨hXc0,hXf0,hXc1,hXf1⟩:=hX.x2;go_upto_region 15 with fail
         clear hXc0 hXf0 hXc1 hXf1;have hY:=(hX.set 0 (.bool false)).set 1 (.string ⟨#[]⟩);have e0:E n=⟨#[]⟩:=by rw [hn];rfl
         have hbz:=(hby.setCell (p:=⟨gX,0,none⟩) hgX (.bool false)).setCell (p:=⟨gX,1,none⟩) hgX (.string ⟨#[]⟩);rw [←e0] at hY hbz ⊢;generalize (wy.setCell ⟨gX,0,none⟩ (.bool false)).setCell ⟨gX,1,none⟩ (.string (E n))=wq at hY hbz ⊢;replace hY:Blk wq gX 28 [.bool false,.string (E n)]:=hY;clear hby hX hsg hdn e0 hn hXl
        case' neg =>
         have hsg:sg dd=false:=by unfold sg;exact decide_eq_false hdn
         rw [hsg] at hX;rw [if_neg hdn] at hn;obtain ⟨hXc0,hXf0,hXc1,hXf1⟩:=hX.x2;go_upto_region 15 with fail
         clear hXc0 hXf0 hXc1 hXf1;rw [←hn] at hX;have hbz:=hby;have hY:Blk wy gX 28 [.bool false,.string (E n)]:=hX;obtain ⟨wq,hwq⟩:∃wq,wq=wy:=⟨_,rfl⟩;subst hwq;clear hby hX hsg hdn hn hXl
        all_goals
         replace hB:=hB.after hbz;replace hT:=hT.after hbz;replace hR:=hR.after hbz;replace hV1:=SsAt.after hV1 hbz;replace hBW:=bt hBW hbz;have HSQ:Hid (gR<wq.heap.size):=Nat.lt_of_lt_of_le HRX.out hbz.size;clear hbz;by_cases hbig:4294967296≤n
         ·have HF4:Hid (∀w:World,Calls Tryz.prog 53 #[.string (E n)] w fun e w'=>e=.returned (.tuple #[.agg #[.string ⟨#[]⟩,.string ⟨#[]⟩,.string ⟨#[]⟩,.string ⟨#[]⟩],.int .i64 5])∧Below w.heap.size w w'):=fun w=>r25four_long n w hbig (Nat.lt_of_lt_of_le HNB.out.1 (Nat.pow_le_pow_right (by decide) (by decide)))
          have HX:=Lib.hid (H5.out (HNB.out.2.1 hbig));clear hbig HGO H5 HXB0 HNB HRN;obtain ⟨hYc0,hYf0,hYc1,hYf1⟩:=hY.x2;go_wp2_with fail
          refine (HF4.out _).mono ?_;rintro e wf ⟨rfl,hbf⟩;clear hYc0 hYf0 hYc1 hYf1;have hRf:=hR.after hbf;have hbw:=bt hBW hbf;have hwf:=hbw.size;go_upto_region 17 with fail
          have hbA:=ba hbw (.cells #[Value.string ⟨#[]⟩,Value.string ⟨#[]⟩,Value.string ⟨#[]⟩,Value.string ⟨#[]⟩] 96);have hRA:=hRf.alloc (.cells #[Value.string ⟨#[]⟩,Value.string ⟨#[]⟩,Value.string ⟨#[]⟩,Value.string ⟨#[]⟩] 96);generalize wf.alloc (.cells #[Value.string ⟨#[]⟩,Value.string ⟨#[]⟩,Value.string ⟨#[]⟩,Value.string ⟨#[]⟩] 96)=w9 at hRA hbA ⊢;have hRl:=hRA.lt;obtain ⟨hRAc0,hRAf0,hRAc1,hRAf1,hRAc2,hRAf2⟩:=hRA.x3;go_wp2;refine bodyPost_ret (v:=.tuple #[.slice none 0 0,.slice none 0 0,.agg #[.slice none 0 0,.string ⟨#[]⟩,.int .i64 0],.int .i64 5]) ?_ rfl ?_
          ·simp [results,Tryz.results16,go_sem,hRAc0,hRAc1,hRAc2,hRl]
          ·rw [HX.out];exact PrPost.err (((hbA.setCell HWR.out _).setCell HWR.out _).setCell HWR.out _)
         rotate_left
         obtain ⟨x0,x1,x2,x3,hxs⟩:∃x0 x1 x2 x3:Nat,roots dd=[x0,x1,x2,x3]:=by
          have h:=roots_len dd;match roots dd,h with
          | [a,b,c,d],_=>exact ⟨a,b,c,d,rfl⟩
         have HF4:Hid (∀w:World,Calls Tryz.prog 53 #[.string (E n)] w fun e w'=>e=.returned (.tuple #[.agg #[.string (E x0),.string (E x1),.string (E x2),.string (E x3)],.int .i64 0])∧Below w.heap.size w w'):=fun w=>by
          have h:=r25four_c n w (by omega);rw [rts_foV,←HRN.out,hxs] at h;exact h
         obtain ⟨X,hX4,HRT,hXZ⟩:∃X:List Nat,X.length=4∧roots dd=X∧(X.map fun n=>Value.string (E n))=[.string (E x0),.string (E x1),.string (E x2),.string (E x3)]:=⟨_,rfl,hxs,rfl⟩;have hbig2:¬ 4294967296≤dd:=fun h=>hbig (HNB.out.2.2 h)
         have HGG:=Lib.hid (HGO.out (by omega));have HXB:=Lib.hid (HXB0.out (by omega));rw [HRT] at HGG HXB;clear hbig hbig2 HGO H5 HXB0 hxs HRT HNB HRN;obtain ⟨hYc0,hYf0,hYc1,hYf1⟩:=hY.x2;go_wp2_with fail
         refine (HF4.out _).mono ?_;rintro e wf ⟨rfl,hbf⟩;clear hYc0 hYf0 hYc1 hYf1;have hA:=Blk.new wf #[.string (E x0),.string (E x1),.string (E x2),.string (E x3)] 96;have hbA:=bt hbf (b1 wf (.cells #[.string (E x0),.string (E x1),.string (E x2),.string (E x3)] 96));replace hB:=hB.after hbA;replace hT:=hT.after hbA;replace hR:=hR.after hbA;replace hV1:=SsAt.after hV1 hbA;replace hBW:=bt hBW hbA;have HGF:Hid (gR<wf.heap.size):=Nat.lt_of_lt_of_le HSQ.out hbf.size;go_wp2;generalize wf.alloc (.cells #[.string (E x0),.string (E x1),.string (E x2),.string (E x3)] 96)=wz at hA hB hT hR hV1 hBW hbA ⊢;obtain ⟨gA,hgA⟩:∃g,wf.heap.size=g:=⟨_,rfl⟩;rw [hgA] at hA HGF ⊢;replace hA:Blk wz gA 96 (X.map fun n=>Value.string (E n)):=by rw [hXZ];exact hA
         clear hgA hbA hbf HF4 hY HSQ hXZ;have HWZ:Hid (w.heap.size≤wz.heap.size):=hBW.size;have HGZ:Hid (gR<wz.heap.size):=hR.lt;have HAZ:Hid (gA<wz.heap.size):=hA.lt;have HRB2:Hid (r0<256^64):=Nat.lt_of_lt_of_le HRB.out (Nat.pow_le_pow_right (by decide) (by decide))
         have HCL:Hid (∀(k:Nat) (hk:k<4) (u:Value) (w':World),SsAt w' u T.vals→Calls Tryz.prog 54 #[.agg #[u,.string T.seed,.int .i64 (ps+(k:Int))],.string (E r0)] w' (CPost w' (T.on k) (prC att r0 T k))):=fun k hk u w' hu=>by
          have h:=rbelow_v att (T.on k) u r0 w' HAT.out (HOK.out.on k) HRB2.out hu;rw [show (T.on k).pos=ps+(k:Int) by rw [HPS.out];rfl] at h;exact h
         have HFR2:Hid (∀(x:Nat),x<256^128→∀w:World,Calls Tryz.prog 55 #[.string (E x)] w fun e w'=>e=.returned (.agg #[.bool false,.string (E x)])∧Below w.heap.size w w'):=fun x hx w=>by
          have h:=rifrom_c x w hx;rwa [sg_natF,Int.natAbs_natCast] at h
         have HCM:Hid (∀(x y:Nat),x<256^128→y<256^128→∀w:World,Calls Tryz.prog 30 #[.agg #[.string (E p),.string (E 0),.string (E g),.string (E h)],.agg #[.bool false,.string (E x),.bool false,.string (E y)]] w fun e w'=>e=.returned (.tuple #[.string (E (cmtN p g h x y)),.int .i64 0])∧Below w.heap.size w w'):=fun x y hx hy w=>by
          obtain ⟨⟨k1,k2,k3⟩,k4⟩:=HKEY.out;have hpg:=pedE_grp k4
          have hgh:hasB p 0 g=true∧hasB p 0 h=true:=by
           unfold pedE at k4;rw [if_pos hpg] at k4;split at k4
           ·rename_i hh;exact ⟨hh.1,hh.2.1⟩
           ·omega
          have:=r14commit_c p 0 g h (x:Int) (y:Int) w k1 (by decide) k2 k3 (by rw [Int.natAbs_natCast];exact hx) (by rw [Int.natAbs_natCast];exact hy) k4 hgh.1 hgh.2;unfold opn at this;rwa [Int.natAbs_natCast,Int.natAbs_natCast,sg_nat,sg_nat] at this
         clear HKEY HRB;go_loopw [18,19,20] (fun v18 v19 i wr=>∃(k:Nat) (uo:Option Addr) (um uc:Nat),k≤4∧i=.int .i64 k∧Hid (∀j,j<k→(prC att r0 T j).1=0)∧wr.ownsRow wz.heap.size 22 1 v18 k (strs (prP att p g h r0 X T k))∧wr.ownsRow wz.heap.size 30 4 v19 k (((prO att r0 X T k).map nop).flatMap opc)∧Blk wr gT 47 [.slice uo um uc,.string T.seed,.int .i64 (ps+(k:Int))]∧Blk wr gR 47 [.slice none 0 0,.string ⟨#[]⟩,.int .i64 0]∧Blk wr w.heap.size 26 [Value.string (E p),Value.string (E 0),Value.string (E g),Value.string (E h)]∧Blk wr gA 96 (X.map fun n=>Value.string (E n))∧SsAt wr (.slice uo um uc) T.vals∧FarS (.slice uo um uc) gT∧FarS (.slice uo um uc) gR∧wz.heap.size≤wr.heap.size∧Below w.heap.size w wr) (fun _ _ i _=>4-(intOf i).toNat)
         case atStart=>exact ⟨0,at_,nt,ct,by omega,rfl,fun j h=>absurd h (Nat.not_lt_zero _),World.ownsRow_nil _ _ _ _,World.ownsRow_nil _ _ _ _,by rw [show ps+((0:Nat):Int)=ps by omega];exact hT,hR,hB,hA,hV1,hFT,hFR,Nat.le_refl _,hBW⟩
         case round =>
          clear hB hT hR hV1 hBW hFT hFR hA;obtain ⟨k,uo,um,uc,hk,rfl,HAL,hO,hQ,hT,hR,hB,hA,hU,hFT,hFR,hbz,hbr⟩:=hrel;obtain ⟨wp,hwp⟩:∃wp,wp=wr:=⟨_,rfl⟩;subst hwp;by_cases hlt:k<4
          ·have HXK:=Lib.hid (HXB.out k)
           have hAk:wp.cell? ⟨gA,k,none⟩=some (.string (E (X.getD k 0))):=by
            rw [hA.cell k];have h1:k<X.length:=by omega
            simp [List.getElem?_eq_getElem h1,List.getD_eq_getElem?_getD]
           have HSP:=Lib.hid (prP_snoc att p g h r0 X T k);have HSO:=Lib.hid (prO_snoc att r0 X T k);have HCC:=Lib.hid (HCL.out k hlt _ wp hU);have HBD:Hid ((prC att r0 T k).1≠0→R=⟨(prC att r0 T k).1,[],[],Tp.nil⟩):=fun e=>HGG.out.trans (prN_bad hlt HAL.out e)
           have HGD:Hid ((prC att r0 T k).1=0→∀j,j<k+1→(prC att r0 T j).1=0):=fun e j hj=>by
            by_cases ej:j=k
            ·rw [ej];exact e
            ·exact HAL.out j (by omega)
           have HLT:Hid ((prC att r0 T k).1=0→(prC att r0 T k).2<256^64):=fun e=>Nat.lt_trans (prC_lt e) HRB2.out
           clear HAL hU;generalize prC att r0 T k=dk at HCC HBD HGD HSP HSO HLT;obtain ⟨ke,xe⟩:=dk;have HXX:=HXK;obtain ⟨xk,hxk⟩:∃x,X.getD k 0=x:=⟨_,rfl⟩;rw [hxk] at HXK HSP HSO hAk;have HLP:=Lib.hid (prP_len att p g h r0 X T k);have HLO2:=Lib.hid (prO_len att r0 X T k);have HSP2:Hid (prP att p g h r0 X T (k+1)=prP att p g h r0 X T k++[cmtN p g h xk xe]):=HSP.out;have HSO2:Hid (prO att r0 X T (k+1)=prO att r0 X T k++[(xk,xe)]):=HSO.out;clear HSP HSO HXX;have HXKE:=Lib.hid hxk;clear hxk;generalize prP att p g h r0 X T k=LP at hO HSP2 HLP;generalize prO att r0 X T k=LO at hQ HSO2 HLO2;have h0k:(0:Int)≤(k:Int):=by omega
           have h1k:(k:Int)<4:=by omega
           obtain ⟨T1,hT1⟩:∃t,t=(T.on k).after ke:=⟨_,rfl⟩;have HT1:=Lib.hid hT1;clear hT1 hAk;have hTl:=hT.lt;have hRl:=hR.lt;obtain ⟨hTc0,hTf0,hTc1,hTf1,hTc2,hTf2⟩:=hT.x3;go_wp2_with fail
           refine (HCC.out).mono ?_;rintro e wd ⟨t,rfl,⟨u,rfl,hUd⟩,hFd,hbd⟩;clear hTc0 hTf0 hTc1 hTf1 hTc2 hTf2;rw [←HT1.out] at hUd;rw [←HT1.out];obtain ⟨xo,xc,rfl⟩:=RAt.form hUd;obtain ⟨xm,hxm⟩:∃m,m=T1.vals.length:=⟨_,rfl⟩;rw [←hxm] at hUd hFd ⊢;clear hxm;have HFT:=Lib.hid (hFd.far hTl);have HFR:=Lib.hid (hFd.far hRl);have HFO:Hid (∀y,u18.ownBlock=some y→FarS (.slice xo xm xc) y):=fun y hy=>hFd.far (own_lt hO hy).1
           have HFQ:Hid (∀y,u19.ownBlock=some y→FarS (.slice xo xm xc) y):=fun y hy=>hFd.far (own_lt hQ hy).1
           have hTd:=hT.after hbd;have hRd:=hR.after hbd;have hBd:=hB.after hbd;have hAd:=hA.after hbd;have hOd:=own_after hO hbd;have hQd:=own_after hQ hbd;have hbzd:=Nat.le_trans hbz hbd.size;have hbrd:=bt hbr hbd;clear hT hR hB hA hO hQ hbz hbr hbd HCC hFd hFT hFR hTl hRl;have hX:=Blk.new wd #[.slice xo xm xc,.string T1.seed,.int .i64 T1.pos] 47;have hbX:=b1 wd (.cells #[.slice xo xm xc,.string T1.seed,.int .i64 T1.pos] 47);have hszd:=hbzd;go_upto_region 24 with fail
           replace hTd:=hTd.after hbX;replace hRd:=hRd.after hbX;replace hBd:=hBd.after hbX;replace hAd:=hAd.after hbX;replace hOd:=own_after hOd hbX;replace hQd:=own_after hQd hbX;replace hUd:=SsAt.after hUd hbX;replace hbzd:=Nat.le_trans hbzd hbX.size;replace hbrd:=bt hbrd hbX;have HGY:Hid (gR<wd.heap.size):=by have h1:=HGZ.out;rw [Hid];omega
           generalize wd.alloc (.cells #[.slice xo xm xc,.string T1.seed,.int .i64 T1.pos] 47)=we at hX hbX hTd hRd hBd hAd hOd hQd hUd hbzd hbrd ⊢;obtain ⟨gY,hgY⟩:∃g,wd.heap.size=g:=⟨_,rfl⟩;rw [hgY] at hX HGY ⊢;replace hX:Blk we gY 47 [.slice xo xm xc,.string T1.seed,.int .i64 T1.pos]:=hX;clear hgY hbX;by_cases hke:ke=0
           ·subst hke;have HGD2:=Lib.hid (HGD.out rfl);have HXE:=Lib.hid (HLT.out rfl);clear HGD HBD HLT
            have HTN:Hid (T1.vals=T.vals∧T1.seed=T.seed∧T1.pos=ps+((k:Int)+1)):=by
             rw [Hid,HT1.out,show (T.on k).after 0=T.on (k+1) from Tp.on_on T k 1,HPS.out];exact ⟨rfl,rfl,rfl⟩
            rw [HTN.out.1] at hUd;have HTW:=Lib.hid HTN.out.2;rw [HTW.out.1,HTW.out.2] at hX;clear HTN HT1 HTW;have hTl:=hTd.lt;have hXl:=hX.lt;have e1:¬ gY=gT:=by have h1:=HGY.out;have h2:=HGW.out;omega
            obtain ⟨hXc0,hXf0,hXc1,hXf1,hXc2,hXf2⟩:=hX.x3;obtain ⟨hTdc0,hTdf0,hTdc1,hTdf1,hTdc2,hTdf2⟩:=hTd.x3;go_upto_region 27 with fail
            clear hXc0 hXf0 hXc1 hXf1 hXc2 hXf2;clear hTdc0 hTdf0 hTdc1 hTdf1 hTdc2 hTdf2;have hTs:=((hTd.set 0 (.slice xo xm xc)).set 1 (.string T.seed)).set 2 (.int .i64 (ps+((k:Int)+1)));have HWT:Hid (w.heap.size≤gT∧w.heap.size≠gT∧gR≠gT∧gA≠gT):=by have h1:=HGW.out;have h2:=HGF.out;rw [Hid];omega
            have hRs:=((hRd.other ⟨gT,0,none⟩ (.slice xo xm xc) HWT.out.2.2.1).other ⟨gT,1,none⟩ (.string T.seed) HWT.out.2.2.1).other ⟨gT,2,none⟩ (.int .i64 (ps+((k:Int)+1))) HWT.out.2.2.1;have hAs:=((hAd.other ⟨gT,0,none⟩ (.slice xo xm xc) HWT.out.2.2.2).other ⟨gT,1,none⟩ (.string T.seed) HWT.out.2.2.2).other ⟨gT,2,none⟩ (.int .i64 (ps+((k:Int)+1))) HWT.out.2.2.2;have hBs:=((hBd.other ⟨gT,0,none⟩ (.slice xo xm xc) HWT.out.2.1).other ⟨gT,1,none⟩ (.string T.seed) HWT.out.2.1).other ⟨gT,2,none⟩ (.int .i64 (ps+((k:Int)+1))) HWT.out.2.1;have hNO:u18.ownBlock≠some gT:=fun e=>by have h1:=(own_lt hOd e).2;have h2:=HGZ.out;have h3:=HGW.out;omega
            have hNQ:u19.ownBlock≠some gT:=fun e=>by have h1:=(own_lt hQd e).2;have h2:=HGZ.out;have h3:=HGW.out;omega
            have hOs:=own_set (i:=2) (u:=.int .i64 (ps+((k:Int)+1))) (own_set (i:=1) (u:=.string T.seed) (own_set (i:=0) (u:=.slice xo xm xc) hOd hNO) hNO) hNO;have hQs:=own_set (i:=2) (u:=.int .i64 (ps+((k:Int)+1))) (own_set (i:=1) (u:=.string T.seed) (own_set (i:=0) (u:=.slice xo xm xc) hQd hNQ) hNQ) hNQ;have hUs:=((hUd.set_far (i:=0) (x:=.slice xo xm xc) HFT.out).set_far (i:=1) (x:=.string T.seed) HFT.out).set_far (i:=2) (x:=.int .i64 (ps+((k:Int)+1))) HFT.out;have hbrs:=((hbrd.setCell (p:=⟨gT,0,none⟩) HWT.out.1 (.slice xo xm xc)).setCell (p:=⟨gT,1,none⟩) HWT.out.1 (.string T.seed)).setCell (p:=⟨gT,2,none⟩) HWT.out.1 (.int .i64 (ps+((k:Int)+1)));have HSS:Hid (wz.heap.size≤(((we.setCell ⟨gT,0,none⟩ (.slice xo xm xc)).setCell ⟨gT,1,none⟩ (.string T.seed)).setCell ⟨gT,2,none⟩ (.int .i64 (ps+((k:Int)+1)))).heap.size):=by simp only [Hid,World.size_setCell];exact hbzd
            clear hTd hRd hBd hAd hOd hQd hUd hbrd hX hTl hXl e1 hNO hNQ hszd hbzd;generalize ((we.setCell ⟨gT,0,none⟩ (.slice xo xm xc)).setCell ⟨gT,1,none⟩ (.string T.seed)).setCell ⟨gT,2,none⟩ (.int .i64 (ps+((k:Int)+1)))=ws at hTs hRs hBs hAs hOs hQs hUs hbrs HSS ⊢;replace hTs:Blk ws gT 47 [.slice xo xm xc,.string T.seed,.int .i64 (ps+((k:Int)+1))]:=hTs
            have hAk:ws.cell? ⟨gA,k,none⟩=some (.string (E xk)):=by
             rw [hAs.cell k,←HXKE.out];have h1:k<X.length:=by omega
             simp [List.getElem?_eq_getElem h1,List.getD_eq_getElem?_getD]
            have HF1:=Lib.hid (HFR2.out xk (Nat.lt_of_lt_of_le HXK.out (Nat.pow_le_pow_right (by decide) (by decide))));have HF2:=Lib.hid (HFR2.out xe (Nat.lt_of_lt_of_le HXE.out (Nat.pow_le_pow_right (by decide) (by decide))));have HCMK:=Lib.hid (HCM.out xk xe (Nat.lt_of_lt_of_le HXK.out (Nat.pow_le_pow_right (by decide) (by decide))) (Nat.lt_of_lt_of_le HXE.out (Nat.pow_le_pow_right (by decide) (by decide))));generalize cmtN p g h xk xe=cm at HCMK HSP2;go_wp2_with fail
            refine (HF1.out _).mono ?_;rintro e wg ⟨rfl,hbg⟩;clear hAk;go_wp2_with fail
            refine (HF2.out _).mono ?_;rintro e wh ⟨rfl,hbh⟩;have hbgh:=bt hbg hbh;have hOp:=Blk.new wh #[.bool false,.string (E xk),.bool false,.string (E xe)] 30;have hbO:=bt hbgh (b1 wh (.cells #[.bool false,.string (E xk),.bool false,.string (E xe)] 30));go_upto_region 28 with fail
            replace hTs:=hTs.after hbO;replace hRs:=hRs.after hbO;replace hBs:=hBs.after hbO;replace hAs:=hAs.after hbO;have hQs0:=hQs;replace hOs:=own_after hOs hbO;replace hQs:=own_after hQs hbO;replace hUs:=SsAt.after hUs hbO;replace hbrs:=bt hbrs hbO;replace HSS:Hid (wz.heap.size≤_):=Nat.le_trans HSS.out hbO.size;have HSO3:Hid (ws.heap.size≤wh.heap.size):=hbgh.size;generalize wh.alloc (.cells #[.bool false,.string (E xk),.bool false,.string (E xe)] 30)=wi at hOp hTs hRs hBs hAs hOs hQs hUs hbrs HSS hbO ⊢;obtain ⟨gO,hgO⟩:∃g,wh.heap.size=g:=⟨_,rfl⟩;rw [hgO] at hOp HSO3 ⊢;replace hOp:Blk wi gO 30 [.bool false,.string (E xk),.bool false,.string (E xe)]:=hOp
            have HGO1:Hid (u19.ownBlock≠some gO):=fun e=>by
             have h1:=(own_lt hQs0 e).1;have h2:=HSO3.out;omega
            clear hbO hgO hbgh hbg hbh hQs0;obtain ⟨hOpc0,hOpf0,hOpc1,hOpf1,hOpc2,hOpf2,hOpc3,hOpf3⟩:=hOp.x4;obtain ⟨hBsc0,hBsf0,hBsc1,hBsf1,hBsc2,hBsf2,hBsc3,hBsf3⟩:=hBs.x4;go_wp2_with fail
            refine (HCMK.out _).mono ?_;rintro e wm ⟨rfl,hbm⟩;clear hOpc0 hOpf0 hOpc1 hOpf1 hOpc2 hOpf2 hOpc3 hOpf3;clear hBsc0 hBsf0 hBsc1 hBsf1 hBsc2 hBsf2 hBsc3 hBsf3;replace hTs:=hTs.after hbm;replace hRs:=hRs.after hbm;replace hBs:=hBs.after hbm;replace hAs:=hAs.after hbm;replace hOs:=own_after hOs hbm;replace hQs:=own_after hQs hbm;replace hUs:=SsAt.after hUs hbm;replace hbrs:=bt hbrs hbm;replace hOp:=hOp.after hbm;replace HSS:Hid (wz.heap.size≤wm.heap.size):=Nat.le_trans HSS.out hbm.size;clear hbm HCMK HF1 HF2;go_upto_region 29 with fail
            have hOJ:=own_after hOs (b1 wm (.cells #[.string (E cm)] 22));have hQJ:=own_after hQs (b1 wm (.cells #[.string (E cm)] 22));have hszm:=HSS.out;go_upto_region 30 with (at_builtin;go_loud (refine wpList_append_lies _ rfl (.tmp 113) (.tmp 115) _ rfl wz.heap.size 22 i0 _ 1 16 Tryz.underlying45 HI0.out HA0.out HB0.out HC0.out rfl (by omega) u18 k (strs LP) rfl hOJ ⟨wm.heap.size,0,none⟩ 1 1 [.string (E cm)] rfl rfl (Blk.new wm #[.string (E cm)] 22).cells (by simp [Value.oneCell']) (by omega) (by simp only [maxLen];omega) (by omega) (by rw [World.size_alloc];omega) (wm.heap.size+1) (by simp) ?_);intro ga ca wa hownA hgrowA hatA hltA)
            have hJ:=b1 wm (.cells #[.string (E cm)] 22);have hZa:wa.ownsRow wz.heap.size 30 4 u19 k ((LO.map nop).flatMap opc):=own_grown hQJ hOJ (by decide) hgrowA;have hOpa:Blk wa gO 30 [.bool false,.string (E xk),.bool false,.string (E xe)]:=Blk.grown (hOp.after hJ) hgrowA (own_ne hOJ (hOp.after hJ) (by decide));have hTa:Blk wa gT 47 [.slice xo xm xc,.string T.seed,.int .i64 (ps+((k:Int)+1))]:=Blk.grown (hTs.after hJ) hgrowA (own_ne hOJ (hTs.after hJ) (by decide));have hRa:Blk wa gR 47 [.slice none 0 0,.string ⟨#[]⟩,.int .i64 0]:=Blk.grown (hRs.after hJ) hgrowA (own_ne hOJ (hRs.after hJ) (by decide));have hBa:Blk wa w.heap.size 26 [Value.string (E p),Value.string (E 0),Value.string (E g),Value.string (E h)]:=Blk.grown (hBs.after hJ) hgrowA (own_ne hOJ (hBs.after hJ) (by decide));have hAa:Blk wa gA 96 (X.map fun n=>Value.string (E n)):=Blk.grown (hAs.after hJ) hgrowA (own_ne hOJ (hAs.after hJ) (by decide));have hba:Below w.heap.size w wa:=Below.grown (ba hbrs (.cells #[.string (E cm)] 22)) hgrowA (by rw [World.size_alloc];have:=HWZ.out;omega) (fun y hy=>Nat.le_trans HWZ.out (own_lt hOs hy).2);have hszA:wz.heap.size≤wa.heap.size:=Nat.le_trans (by rw [World.size_alloc];omega) hgrowA.size;have hUa:SsAt wa (.slice xo xm xc) T.vals:=SsAt.grown (SsAt.after hUs hJ) hgrowA HFO.out;clear hZa;have hZa:wa.ownsRow wz.heap.size 30 4 u19 k ((LO.map nop).flatMap opc):=own_grown hQJ hOJ (by decide) hgrowA;clear hTs hRs hBs hAs hUs hbrs hOp hOs hQs hOJ hQJ hJ hgrowA hatA hltA hszm;have hK:=b1 wa (.cells #[.bool false,.string (E xk),.bool false,.string (E xe)] 30);have hQK:=own_after hZa hK;have hOK2:=own_after hownA hK;have hOpl:=hOpa.lt;obtain ⟨hOpac0,hOpaf0,hOpac1,hOpaf1,hOpac2,hOpaf2,hOpac3,hOpaf3⟩:=hOpa.x4;go_upto_region 22 with (at_builtin;go_loud (refine wpList_append_lies _ rfl (.tmp 117) (.tmp 119) _ rfl wz.heap.size 30 i1 _ 4 48 Tryz.underlying33 HI1.out HA1.out HB1.out HC1.out rfl (by omega) u19 k ((LO.map nop).flatMap opc) rfl hQK ⟨wa.heap.size,0,none⟩ 1 1 [.bool false,.string (E xk),.bool false,.string (E xe)] rfl rfl (Blk.new wa #[.bool false,.string (E xk),.bool false,.string (E xe)] 30).cells (by simp [Value.oneCell']) (by omega) (by simp only [maxLen];omega) (by omega) (by rw [World.size_alloc];omega) (wa.heap.size+1) (by simp) ?_);intro gb cb wb hownB hgrowB hatB hltB)
            clear hOpac0 hOpaf0 hOpac1 hOpaf1 hOpac2 hOpaf2 hOpac3 hOpaf3;have hTb:Blk wb gT 47 [.slice xo xm xc,.string T.seed,.int .i64 (ps+((k:Int)+1))]:=Blk.grown (hTa.after hK) hgrowB (own_ne hQK (hTa.after hK) (by decide));have hRb:Blk wb gR 47 [.slice none 0 0,.string ⟨#[]⟩,.int .i64 0]:=Blk.grown (hRa.after hK) hgrowB (own_ne hQK (hRa.after hK) (by decide));have hBb:Blk wb w.heap.size 26 [Value.string (E p),Value.string (E 0),Value.string (E g),Value.string (E h)]:=Blk.grown (hBa.after hK) hgrowB (own_ne hQK (hBa.after hK) (by decide));have hAb:Blk wb gA 96 (X.map fun n=>Value.string (E n)):=Blk.grown (hAa.after hK) hgrowB (own_ne hQK (hAa.after hK) (by decide));have hbb:Below w.heap.size w wb:=Below.grown (ba hba (.cells #[.bool false,.string (E xk),.bool false,.string (E xe)] 30)) hgrowB (by rw [World.size_alloc];have:=HWZ.out;omega) (fun y hy=>Nat.le_trans HWZ.out (own_lt hZa hy).2);have hszb:wz.heap.size≤wb.heap.size:=Nat.le_trans (by rw [World.size_alloc];omega) hgrowB.size;have hUb:SsAt wb (.slice xo xm xc) T.vals:=SsAt.grown (SsAt.after hUa hK) hgrowB HFQ.out;have hOb:wb.ownsRow wz.heap.size 22 1 (.slice (some ⟨ga,0,none⟩) (k+1) ca) (k+1) (strs (prP att p g h r0 X T (k+1))):=by rw [HSP2.out,←strs_app];exact own_grown hOK2 hQK (by decide) hgrowB
            have hQb:wb.ownsRow wz.heap.size 30 4 (.slice (some ⟨gb,0,none⟩) (k+1) cb) (k+1) (((prO att r0 X T (k+1)).map nop).flatMap opc):=by rw [HSO2.out,List.map_append,List.flatMap_append];exact hownB
            clear hTa hRa hBa hAa hba hUa hszA hQK hOK2 hK hownA hownB hgrowB hatB hltB hZa;go_wp2;go_roundw
            case rel=>exact ⟨k+1,xo,xm,xc,by omega,by go_num,HGD2.out,hOb,hQb,hTb,hRb,hBb,hAb,hUb,HFT.out,HFR.out,hszb,hbb⟩
            case measure=>simp [intOf];omega
           ·have hkb:((ke:Int) != 0)=true:=by rw [bne_iff_ne];omega
            have HX:=Lib.hid (HBD.out hke);clear hke HBD HGD hX hOd hQd hUd hTd hBd hAd;have hRl:=hRd.lt;obtain ⟨hRdc0,hRdf0,hRdc1,hRdf1,hRdc2,hRdf2⟩:=hRd.x3;go_wp2;refine bodyPost_ret (v:=.tuple #[.slice none 0 0,.slice none 0 0,.agg #[.slice none 0 0,.string ⟨#[]⟩,.int .i64 0],.int .i64 (ke:Int)]) ?_ rfl ?_
            ·simp [results,Tryz.results16,go_sem,hRdc0,hRdc1,hRdc2,hRl]
            ·rw [HX.out];exact PrPost.err (((hbrd.setCell HWR.out _).setCell HWR.out _).setCell HWR.out _)
          ·obtain rfl:4=k:=by omega
           have HXX:Hid (R=⟨0,prP att p g h r0 X T 4,prO att r0 X T 4,T.on 4⟩):=by rw [Hid,HGG.out,prN_ok HAL.out]
           have hTl:=hT.lt;have hRl:=hR.lt;have n1':¬ gT=gR:=by have:=HGW.out;omega
           obtain ⟨hTc0,hTf0,hTc1,hTf1,hTc2,hTf2⟩:=hT.x3;obtain ⟨hRc0,hRf0,hRc1,hRf1,hRc2,hRf2⟩:=hR.x3;go_wp2_with fail
           go_region;go_wp2;refine bodyPost_ret (v:=.tuple #[u18,u19,.agg #[.slice uo um uc,.string T.seed,.int .i64 (ps+((4:Nat):Int))],.int .i64 0]) ?_ rfl ?_
           ·simp [results,Tryz.results16,go_sem,hRc0,hRc1,hRc2,hRl]
           ·rw [HXX.out];have hnR:u18.ownBlock≠some gR:=fun e=>by have h1:=(own_lt hO e).2;have h2:=HGZ.out;omega
            have hnQ:u19.ownBlock≠some gR:=fun e=>by have h1:=(own_lt hQ e).2;have h2:=HGZ.out;omega
            refine ⟨u18,u19,_,rfl,?_,?_,⟨.slice uo um uc,?_,SsAt.after (((hU.set_far hFR).set_far hFR).set_far hFR) (Below.drew (Below.refl _ _))⟩,(((hbr.setCell HWR.out _).setCell HWR.out _).setCell HWR.out _).drew⟩
            ·show World.ownsRow _ _ _ _ _ (prP att p g h r0 X T 4).length _;rw [prP_len];exact own_mono (World.ownsRow.drew (own_set (own_set (own_set hO hnR) hnR) hnR)) HWZ.out
            ·show World.ownsRow _ _ _ _ _ (prO att r0 X T 4).length _;rw [prO_len];exact own_mono (World.ownsRow.drew (own_set (own_set (own_set hQ hnQ) hnQ) hnQ)) HWZ.out
            ·rw [show (T.on 4).pos=ps+((4:Nat):Int) by rw [HPS.out];rfl];rfl
end Go.Proofs.YtfgandecbkbleaaGreatDoor
