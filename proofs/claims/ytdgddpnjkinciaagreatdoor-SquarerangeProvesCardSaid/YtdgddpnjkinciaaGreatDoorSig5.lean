import Derived.Test.YtdgddpnjkinciaaGreatDoorSig2
set_option linter.all false
set_option maxRecDepth 100000
set_option maxHeartbeats 16000000
namespace Go.Proofs.YtdgddpnjkinciaaGreatDoor
section
open Go.RowKit Go.Shelf
@[go_sem] theorem run_store_func {P:Program} {w:World} {a:Addr} {m:Mode} (f:Fn) (b c:Array Value):(store a (.func f b c) m).run P w=stored P w a (.func f b c) m:=run_store P w a _ m rfl
def LBox (w:World) (l1 l2:Nat) (s15 s16:Value) (wx:World):Prop:=∃g,s15=.pointer (some ⟨g,0,none⟩)∧s16=.int .i64 0∧Blk wx g 105 [.string (E l1),.string (E l2)]∧w.heap.size≤g∧Bw w wx
def BPost (w:World) (L:List (Nat × Nat)) (e:Ending) (w':World):Prop:=∃v,e=.returned (.tuple #[v,.int .i64 0])∧LmOwn w' w.heap.size v L∧Bw w w'
theorem lims_step (N:NSta) (C K:Nat) (k:Nat) (h:k<N.vars.length):(N.lims C K).take (k+1)=(N.lims C K).take k++[lim N.ord C K N.vars[k]]:=by
 unfold NSta.lims;rw[←List.map_take,List.take_succ_eq_append_getElem h,List.map_append,List.map_take];rfl
theorem bounds_ok (N:NSta) (C K:Nat) (v1 v2 v3:Value) (w:World) (hC:C<256^16) (hK:K<256^16) (h2:2≤C) (h3:2≤K) (hv:N.vars.any vz=true→C≤N.ord) (hm:NOk N) (hS:NAt w v1 v2 v3 N) (hc:N.chk=0) :
  Calls Tryz.prog 30 #[.agg #[.string (E C),.string (E K)],.agg #[v1,v2,v3]] w (BPost w (N.lims C K)):=by
 obtain⟨i0,HP,hY,hZ,h4⟩:=info_parts info_lim;have HR:=Kh HP;have HS:=Kh hY;have HU:=Kh hZ;have HW:=Kh h4;clear HP hY hZ h4;have HC:=Kh (lt128' hC (by decide));have HK:=Kh (lt128' hK (by decide));have jd:=Kh hC;have je:=Kh hK;have jf:Hid (1≤C):=by unfold Hid;omega
 have jg:Hid (1≤K):=by unfold Hid;omega
 have HV:=Kh hv;have Hn:=Kh (fun w=>ofK_c 2 2 w rfl (by decide));have jh:=Kh hc;obtain⟨a1,c1,a2,c2,a3,c3,rfl,rfl,rfl⟩:=hS.forms;obtain⟨n1,Hi⟩:∃n,n=N.grps.length:=⟨_,rfl⟩;obtain⟨n2,Hj⟩:∃n,n=N.vars.length:=⟨_,rfl⟩;obtain⟨n3,Hk⟩:∃n,n=N.eqs.length:=⟨_,rfl⟩;have jx:=Kh Hi;have Ho:=Kh Hj;have jy:=Kh Hk;have l1:n1≤10:=by rw[Hi];exact hm.ng
 have l2:n2≤12:=by rw[Hj];exact hm.nv
 have l3:n3≤12:=by rw[Hk];exact hm.ne
 have HM:=Kh hm;rw[←Hi,←Hj,←Hk]at hS ⊢;clear hm Hi Hj Hk;have Hp:=Kh (chk0_c N _ _ _ w HM.out hS jh.out);obtain⟨hR,hP,hf⟩:=blk2 w #[.string (E C),.string (E K)] #[.slice a1 n1 c1,.slice a2 n2 c2,.slice a3 n3 c3] 52 43;replace hS:=hS.after hf;have jz:=cmp_nneg C 2 h2;have ji:=cmp_nneg K 2 h3;clear hC hK hc h2 h3 hv;obtain⟨hJ,hL,hM,hN⟩:=hR.x2;obtain⟨ho,hp,hq,hr,ht,hu⟩:=hP.x3;go_enter Tryz.func30,Tryz.ntmps30
 go_wp2_with fail
 refine (validE_c C _ HC.out).mono ?_;rintro e w' ⟨rfl,rfl⟩;go_wp2_with fail
 refine (validE_c K _ HK.out).mono ?_;rintro e w' ⟨rfl,rfl⟩;go_wp2_with fail
 refine (Hp.out _ hf).mono ?_;rintro e w2 ⟨rfl,h5⟩;clear hJ hL hM hN;clear ho hp hq hr ht hu;replace hR:=hR.after h5;replace hP:=hP.after h5;replace hS:=hS.after h5;replace hf:=bt hf h5;clear h5;go_wp2_with fail
 refine (Hn.out _).mono ?_;rintro e w3 ⟨rfl,h6⟩;replace hR:=hR.after h6;replace hP:=hP.after h6;replace hS:=hS.after h6;replace hf:=bt hf h6;clear h6;have Hq:=hR.lt;have h7:=hP.lt;obtain⟨hJ,hL,hM,hN⟩:=hR.x2;go_wp2_with fail
 refine (cmp_c C 2 _ HC.out (by decide)).mono ?_;rintro e w' ⟨rfl,rfl⟩;go_wp2_with fail
 refine (cmp_c K 2 _ HK.out (by decide)).mono ?_;rintro e w' ⟨rfl,rfl⟩;clear hJ hL hM hN;have hU:CA w3 [(⟨w.heap.size,0,none⟩,.string (E C)),(⟨w.heap.size,1,none⟩,.string (E K)),(⟨w.heap.size+1,0,none⟩,.slice a1 n1 c1),(⟨w.heap.size+1,1,none⟩,.slice a2 n2 c2),(⟨w.heap.size+1,2,none⟩,.slice a3 n3 c3)]:=CA.cons hR.lt (hR.cell 0) (CA.cons hR.lt (hR.cell 1) (CA.cons hP.lt (hP.cell 0) (CA.cons hP.lt (hP.cell 1) (CA.cons hP.lt (hP.cell 2) (CA.nil _)))));have hd:=fun x hx=>Nat.ne_of_lt (hU x hx).1
 have h9:Hid (∀w',Bw w3 w'→Calls Tryz.prog 71 #[.agg #[.slice a1 n1 c1,.slice a2 n2 c2,.slice a3 n3 c3]] w' fun e w''=>e=.returned (.string (E N.ord))∧Bw w' w''):=fun w' jj=>sorder_c N _ _ _ w' HM.out (hS.after jj)
 go_upto_region 9 with fail
 go_cut [8] (fun s8 wx=>SBox w3 141 [.string (E C),.string (E K),.string (E N.ord)] s8 wx)
 case first =>
  go_region_held3 (fun w'=>w'.cell? ⟨w.heap.size,0,none⟩=some (.string (E C))∧w'.cell? ⟨w.heap.size,1,none⟩=some (.string (E K))∧w'.cell? ⟨w.heap.size+1,0,none⟩=some (.slice a1 n1 c1)∧w'.cell? ⟨w.heap.size+1,1,none⟩=some (.slice a2 n2 c2)∧w'.cell? ⟨w.heap.size+1,2,none⟩=some (.slice a3 n3 c3)) ((refine CA.k5 ?_;repeat (first | (with_reducible exact hw) | (with_reducible exact hU) | (with_reducible refine CA.drew ?_) | (with_reducible refine CA.alloc ?_ _) | (refine CA.set ?_ _ _ _ hd))))
   ((go_at_call 71;refine (h9.out _ (by first | exact (Below.drew Br) | exact (b1 w3 _).drew)).mono ?_;rintro e wf ⟨rfl,hb⟩;have hw:CA wf [(⟨w.heap.size,0,none⟩,.string (E C)),(⟨w.heap.size,1,none⟩,.string (E K)),(⟨w.heap.size+1,0,none⟩,.slice a1 n1 c1),(⟨w.heap.size+1,1,none⟩,.slice a2 n2 c2),(⟨w.heap.size+1,2,none⟩,.slice a3 n3 c3)]:=(by first | exact hU.drew.after hb | exact (hU.alloc _).drew.after hb | exact (hU.drew.alloc _).after hb);(try (have kA:=(Blk.new w3 #[.string { data:=#[] },.string { data:=#[] },.string { data:=#[] }] 141).drew.after hb;have kA0:=kA.cell 0;have kA1:=kA.cell 1;have kA2:=kA.free 0;have kA3:=kA.free 1;have kA4:=kA.cell 2;have kA5:=kA.free 2))))
  all_goals
   go_wp2_with fail
   go_meet
   first
    | exact⟨_,rfl,Blk.new _ _ _,hb.size,ba ((Below.drew Br).trans hb) _⟩
    | exact⟨_,rfl,((kA.set 0 _).set 1 _).set 2 _,Nat.le_refl _,(((bt ((b1 w3 _).drew) hb).setCell (by simp) _).setCell (by simp) _).setCell (by simp) _⟩
 case rest =>
  obtain⟨g8,rfl,h8,jA,hg⟩:=hcut;obtain⟨wx,jk⟩:∃wx,wx=wc:=⟨_,rfl⟩;subst jk;replace hR:=hR.after hg;replace hP:=hP.after hg;replace hS:=hS.after hg;replace hf:=bt hf hg;clear hg hU hd h9 Hq h7;have h7:=hP.lt;have jl:Hid (N.ord<256^128):=lt128 (ord_lt HM.out);obtain⟨qd,Hr⟩:∃q,q=N.ord:=⟨_,rfl⟩;rw[←Hr]at h8;have HQ:=Kh Hr;clear Hr;obtain⟨ho,hp,hq,hr,ht,hu⟩:=hP.x3;go_wp2;clear ho hp hq hr ht hu;clear h7;go_loopw [52] (fun i wr=>∃k:Nat,k≤n2∧i=.int .i64 k∧Hid (0≤k)∧Bw wx wr) (fun i _=>n2-(intOf i).toNat)
  case atStart=>exact⟨0,by omega,rfl,Nat.zero_le _,Br⟩
  case round =>
   obtain⟨k,hk,rfl,HA,hh⟩:=hrel;obtain⟨wp,jm⟩:∃wp,wp=wr:=⟨_,rfl⟩;subst jm;replace hR:=hR.after hh;replace hP:=hP.after hh;replace hS:=hS.after hh;replace h8:=h8.after hh;replace hf:=bt hf hh;have Hq:=hR.lt;have jn:=h8.lt;by_cases hlt:k<n2
   ·have hE:k<N.vars.length:=by rw[←Ho.out];exact hlt
    obtain⟨b,o,rfl,Hs,x1⟩:=hS.vat hE;have HY:Hid ((N.vars[k]'hE)∈N.vars):=Gm hE;have HT:=Kh (any_take vz N.vars k hE);generalize (N.vars[k]'hE)=s1 at x1 HY HT;have jo:(0:Int)≤(k:Int):=by omega
    have jp:(k:Int)<(n2:Int):=by omega
    have hV:=Blk.new wp #[.string (E s1)] 81;rcases Nat.eq_zero_or_pos s1 with rfl | h0
    ·have hI:=Kh (fun w=>kindV_c 0 0 w rfl);go_wp2_with fail
     refine (hI.out _).mono ?_;rintro e w5 ⟨rfl,Ha⟩;have HZ:=(hR.alloc (.cells #[.string (E 0)] 81)).after Ha;have H0:=(h8.alloc (.cells #[.string (E 0)] 81)).after Ha;have jq:=HZ.lt;have jr:=H0.lt;obtain⟨H1,H2⟩:=HZ.x1;obtain⟨H3,H4,H5,H6,H7,H8⟩:=H0.x3;have jB:=cmp_npos C qd (by rw[HQ.out];exact HV.out (List.any_eq_true.2 ⟨_,HY.out,rfl⟩));go_wp2_with fail
     refine (cmp_c C qd _ HC.out (by rw[HQ.out];exact jl.out)).mono ?_;rintro e w' ⟨rfl,rfl⟩;go_wp2;go_roundw
     case rel=>exact⟨k+1,by omega,by go_num,Nat.zero_le _,bt (ba hh _) Ha⟩
     case measure=>simp[intOf];omega
    ·have hI:=Kh (fun w=>kindV_c s1 1 w (if_neg (by omega)));have HX:Hid ((N.vars.take (k+1)).any vz=(N.vars.take k).any vz):=by rw[Hid,HT.out,vz_pos h0,Bool.or_false]
     go_wp2_with fail
     refine (hI.out _).mono ?_;rintro e w5 ⟨rfl,Ha⟩;go_wp2;go_roundw
     case rel=>exact⟨k+1,by omega,by go_num,Nat.zero_le _,bt (ba hh _) Ha⟩
     case measure=>simp[intOf];omega
   ·clear hh HA;have h7:=hP.lt;obtain⟨ho,hp,hq,hr,ht,hu⟩:=hP.x3;obtain⟨Ht,Hu,Hv,Hw,Hx,Hy⟩:=h8.x3;go_wp2;clear ho hp hq hr ht hu;clear Ht Hu Hv Hw Hx Hy;obtain⟨hF,hG⟩:=blk1 wp #[.func (.func 73) #[.agg #[.string (E C),.string (E K),.string (E qd)]] #[],.func (.func 74) #[.agg #[.string (E C),.string (E K),.string (E qd)]] #[]] 144;replace hP:=hP.after hG;replace hS:=hS.after hG;replace hf:=bt hf hG;clear h7 Hq jn;obtain⟨g11,Hb⟩:∃g,wp.heap.size=g:=⟨_,rfl⟩;rw[Hb]at hF ⊢;clear Hb hG;generalize wp.alloc (.cells #[.func (.func 73) #[.agg #[.string (E C),.string (E K),.string (E qd)]] #[],.func (.func 74) #[.agg #[.string (E C),.string (E K),.string (E qd)]] #[]] 144)=wF at hF hP hS hf ⊢;replace hF:Blk wF g11 144 [.func (.func 73) #[.agg #[.string (E C),.string (E K),.string (E qd)]] #[],.func (.func 74) #[.agg #[.string (E C),.string (E K),.string (E qd)]] #[]]:=hF;go_loopw [12,76] (fun v12 i wr=>∃k:Nat,k≤n2∧i=.int .i64 k∧LmOwn wr wF.heap.size v12 ((N.lims C K).take k)∧Bw wF wr) (fun _ i _=>n2-(intOf i).toNat)
    case atStart=>exact⟨0,by omega,rfl,World.ownsRow_nil _ _ _ _,Br⟩
    case round =>
     clear hlt hk;obtain⟨k,hk,rfl,hO,hh⟩:=hrel;obtain⟨wq,js⟩:∃wq,wq=wr:=⟨_,rfl⟩;subst js;have H9:=hS.after hh;have Hz:=bt hf hh;by_cases hlt:k<n2
     ·have hE:k<N.vars.length:=by rw[←Ho.out];exact hlt
      have ja:=Kh (HM.out.v _ (Gm hE));have hW:=Kh (lims_step N C K k hE);obtain⟨b0,o0,rfl,Hs,x1⟩:=H9.vat hE;generalize (N.vars[k]'hE)=b at x1 ja hW;have jo:(0:Int)≤(k:Int):=by omega
      have jp:(k:Int)<(n2:Int):=by omega
      obtain⟨l1',HB⟩:∃x,x=(lim N.ord C K b).1:=⟨_,rfl⟩;obtain⟨l2',HD⟩:∃x,x=(lim N.ord C K b).2:=⟨_,rfl⟩;rw[show lim N.ord C K b=(l1',l2') by rw[HB,HD]]at hW;have jb:=Kh HB;have jc:=Kh HD;clear HB HD;obtain⟨hj,hy⟩:=blk1 wq #[.string (E b)] 81;have hX:=hO.after hy;have hn:=(hF.after hh).after hy;have hH:=bt hh hy;clear hO H9;rcases Nat.eq_zero_or_pos b with rfl | h0
      ·have HE:Hid (l1'=qd):=by rw[Hid,jb.out,HQ.out];rfl
       have HF:Hid (l2'=qd):=by rw[Hid,jc.out,HQ.out];rfl
       have hI:Hid (∀w,Calls Tryz.prog 72 #[.agg #[.string (E 0)]] w fun e w'=>e=.returned (.int .i64 0)∧Bw w w'):=fun w=>kindV_c 0 0 w rfl
       have Hl:Hid (∀w,Calls Tryz.prog 73 #[.agg #[.string (E C),.string (E K),.string (E qd)],.string (E 0)] w fun e w'=>e=.returned (.tuple #[.agg #[.string (E l1'),.string (E l2')],.int .i64 0])∧Bw w w'):=fun w=>by
        rw[HE.out,HF.out];exact modular_c _ _ _ _ w
       go_wp2_with fail
       generalize wq.alloc (.cells #[.string (E 0)] 81)=wA at hj hX hn hH;obtain⟨g14,hz⟩:∃g,wq.heap.size=g:=⟨_,rfl⟩;rw[hz]at hj ⊢;clear hz hh hy Hs x1;obtain⟨b,Hm⟩:∃b,b=0:=⟨_,rfl⟩;rw[←Hm]at hj;replace hj:Blk wA g14 81 [.string (E b)]:=hj;have jt:=Kh Hm;rw[←Hm]at hI Hl;clear Hm;have hC:CA wA [(⟨g14,0,none⟩,.string (E b)),(⟨g11,0,none⟩,.func (.func 73) #[.agg #[.string (E C),.string (E K),.string (E qd)]] #[]),(⟨g11,1,none⟩,.func (.func 74) #[.agg #[.string (E C),.string (E K),.string (E qd)]] #[])]:=CA.cons hj.lt (hj.cell 0) (CA.cons hn.lt (hn.cell 0) (CA.cons hn.lt (hn.cell 1) (CA.nil _)));have hd:=fun x hx=>Nat.ne_of_lt (hC x hx).1
       go_upto_region 21 with fail
       go_cut [15,16] (fun s15 s16 wx=>LBox wA l1' l2' s15 s16 wx)
       case first =>
        go_region_held3 (fun w'=>w'.cell? ⟨g14,0,none⟩=some (.string (E b))∧w'.cell? ⟨g11,0,none⟩=some (.func (.func 73) #[.agg #[.string (E C),.string (E K),.string (E qd)]] #[])∧w'.cell? ⟨g11,1,none⟩=some (.func (.func 74) #[.agg #[.string (E C),.string (E K),.string (E qd)]] #[])) ((refine CA.k3 ?_;repeat (first | (with_reducible exact HG) | (with_reducible exact hw) | (with_reducible exact hC) | (with_reducible refine CA.drew ?_) | (with_reducible refine CA.alloc ?_ _) | (refine CA.set ?_ _ _ _ hd) | (refine CA.set ?_ _ _ _ (fun x hx=>Nat.ne_of_lt (hw x hx).1)))))
         (first | (go_at_call 72;refine (hI.out _).mono ?_;rintro e wf ⟨rfl,hb⟩;have hw:CA wf [(⟨g14,0,none⟩,.string (E b)),(⟨g11,0,none⟩,.func (.func 73) #[.agg #[.string (E C),.string (E K),.string (E qd)]] #[]),(⟨g11,1,none⟩,.func (.func 74) #[.agg #[.string (E C),.string (E K),.string (E qd)]] #[])]:=(by first | exact hC.drew.after hb | exact (hC.alloc _).drew.after hb | exact (hC.drew.alloc _).after hb);(try (have hl:Bw wA wf:=(Below.drew Br).trans hb));(try (have hl:Bw wA wf:=bt ((b1 wA _).drew) hb));(try (have kA:=(Blk.new wA #[.string { data:=#[] },.string { data:=#[] }] 105).drew.after hb))) | (go_at_call 73;refine (Hl.out _).mono ?_;rintro e wd ⟨rfl,hbd⟩;have HG:CA wd [(⟨g14,0,none⟩,.string (E b)),(⟨g11,0,none⟩,.func (.func 73) #[.agg #[.string (E C),.string (E K),.string (E qd)]] #[]),(⟨g11,1,none⟩,.func (.func 74) #[.agg #[.string (E C),.string (E K),.string (E qd)]] #[])]:=(by first | exact hw.after hbd | exact (hw.alloc _).after hbd);(try (have hA:Bw wA wd:=bt hl hbd));(try (have hA:Bw wA wd:=bt (ba hl _) hbd));(try (have kD:=kA.after hbd;have kA0:=kD.cell 0;have kA1:=kD.cell 1;have kA2:=kD.free 0;have kA3:=kD.free 1;have kl:=kD.lt));(try (have kB:=(Blk.new wf #[.string { data:=#[] },.string { data:=#[] }] 105).after hbd;have kB0:=kB.cell 0;have kB1:=kB.cell 1;have kB2:=kB.free 0;have kB3:=kB.free 1;have kbl:=kB.lt))))
        all_goals
         go_wp2_with fail
         go_meet
         first
          | exact⟨_,rfl,rfl,Blk.new _ _ _,hA.size,ba hA _⟩
          | exact⟨_,rfl,rfl,(kD.set 0 _).set 1 _,Nat.le_refl _,(hA.setCell (by simp) _).setCell (by simp) _⟩
          | exact⟨_,rfl,rfl,(kB.set 0 _).set 1 _,hl.size,(hA.setCell (by have:=hl.size;simp;omega) _).setCell (by have:=hl.size;simp;omega) _⟩
       case rest =>
        obtain⟨g15,rfl,rfl,Hc,HH,hg⟩:=hcut;obtain⟨wy,HI⟩:∃wy,wy=wc:=⟨_,rfl⟩;subst HI;clear hC hd;have hB:=own_after hX hg;have ju:=hn.after hg;have hi:=bt hH hg;have HJ:=Hc.lt;have hQ:Hid (((N.lims C K).take k).length=k):=by rw[Hid,List.length_take,NSta.lims,List.length_map];omega
        rw[hQ.out]at hB;clear hg hX;have HL:=hi.size;generalize (N.lims C K).take k=LI at hB hW hQ;obtain⟨Hd,He,Hf,Hg⟩:=Hc.x2;go_wp2_with (at_builtin;(refine wpList_append_lies _ rfl (.tmp 93) (.tmp 95) _ rfl wF.heap.size 105 i0 _ 2 32 Tryz.underlying89 HR.out HS.out HU.out HW.out rfl (by omega) u12 k (lcs LI) rfl (own_after hB (b1 _ (.cells #[.string (E l1'),.string (E l2')] 105))) ⟨wy.heap.size,0,none⟩ 1 1 [.string (E l1'),.string (E l2')] rfl rfl (Blk.new wy #[.string (E l1'),.string (E l2')] 105).cells (by simp[Value.oneCell']) (by omega) (by simp only[maxLen];omega) (by omega) (by rw[World.size_alloc];omega) (wy.heap.size+1) (by simp) ?_);intro ga ca wa hD he HN hT)
        have Hh:LmOwn wa wF.heap.size (.slice (some ⟨ga,0,none⟩) (k+1) ca) (LI++[(l1',l2')]):=by rw[LmOwn,List.length_append,hQ.out,←lcs_app];exact hD
        rw[←hW.out]at Hh;have HO:=(ba hi (.cells #[.string (E l1'),.string (E l2')] 105)).grown he (by rw[World.size_alloc];omega) (fun x hx=>(own_lt hB hx).2);clear hD he HN hT hB hi;go_wp2;go_roundw
        case rel=>exact⟨k+1,by omega,by go_num,Hh,HO⟩
        case measure=>simp[intOf];omega
      ·have HE:Hid (l1'=K*C*b):=by rw[Hid,jb.out,lim,if_neg (by omega)]
       have HF:Hid (l2'=K*C*b-(C-1)*(b-1)):=by rw[Hid,jc.out,lim,if_neg (by omega)]
       have hI:Hid (∀w,Calls Tryz.prog 72 #[.agg #[.string (E b)]] w fun e w'=>e=.returned (.int .i64 1)∧Bw w w'):=fun w=>kindV_c b 1 w (if_neg (by omega))
       have Hl:Hid (∀w,Calls Tryz.prog 74 #[.agg #[.string (E C),.string (E K),.string (E qd)],.string (E b)] w fun e w'=>e=.returned (.tuple #[.agg #[.string (E l1'),.string (E l2')],.int .i64 0])∧Bw w w'):=fun w=>by
        rw[HE.out,HF.out];exact integral_c C K qd b w jd.out je.out ja.out jf.out jg.out h0
       clear h0;go_wp2_with fail
       generalize wq.alloc (.cells #[.string (E b)] 81)=wA at hj hX hn hH;obtain⟨g14,hz⟩:∃g,wq.heap.size=g:=⟨_,rfl⟩;rw[hz]at hj ⊢;replace hj:Blk wA g14 81 [.string (E b)]:=hj;clear hz hh hy Hs x1;have hC:CA wA [(⟨g14,0,none⟩,.string (E b)),(⟨g11,0,none⟩,.func (.func 73) #[.agg #[.string (E C),.string (E K),.string (E qd)]] #[]),(⟨g11,1,none⟩,.func (.func 74) #[.agg #[.string (E C),.string (E K),.string (E qd)]] #[])]:=CA.cons hj.lt (hj.cell 0) (CA.cons hn.lt (hn.cell 0) (CA.cons hn.lt (hn.cell 1) (CA.nil _)));have hd:=fun x hx=>Nat.ne_of_lt (hC x hx).1
       go_upto_region 21 with fail
       go_cut [15,16] (fun s15 s16 wx=>LBox wA l1' l2' s15 s16 wx)
       case first =>
        go_region_held3 (fun w'=>w'.cell? ⟨g14,0,none⟩=some (.string (E b))∧w'.cell? ⟨g11,0,none⟩=some (.func (.func 73) #[.agg #[.string (E C),.string (E K),.string (E qd)]] #[])∧w'.cell? ⟨g11,1,none⟩=some (.func (.func 74) #[.agg #[.string (E C),.string (E K),.string (E qd)]] #[])) ((refine CA.k3 ?_;repeat (first | (with_reducible exact HG) | (with_reducible exact hw) | (with_reducible exact hC) | (with_reducible refine CA.drew ?_) | (with_reducible refine CA.alloc ?_ _) | (refine CA.set ?_ _ _ _ hd) | (refine CA.set ?_ _ _ _ (fun x hx=>Nat.ne_of_lt (hw x hx).1)))))
         (first | (go_at_call 72;refine (hI.out _).mono ?_;rintro e wf ⟨rfl,hb⟩;have hw:CA wf [(⟨g14,0,none⟩,.string (E b)),(⟨g11,0,none⟩,.func (.func 73) #[.agg #[.string (E C),.string (E K),.string (E qd)]] #[]),(⟨g11,1,none⟩,.func (.func 74) #[.agg #[.string (E C),.string (E K),.string (E qd)]] #[])]:=(by first | exact hC.drew.after hb | exact (hC.alloc _).drew.after hb | exact (hC.drew.alloc _).after hb);(try (have hl:Bw wA wf:=(Below.drew Br).trans hb));(try (have hl:Bw wA wf:=bt ((b1 wA _).drew) hb));(try (have kA:=(Blk.new wA #[.string { data:=#[] },.string { data:=#[] }] 105).drew.after hb))) | (go_at_call 74;refine (Hl.out _).mono ?_;rintro e wd ⟨rfl,hbd⟩;have HG:CA wd [(⟨g14,0,none⟩,.string (E b)),(⟨g11,0,none⟩,.func (.func 73) #[.agg #[.string (E C),.string (E K),.string (E qd)]] #[]),(⟨g11,1,none⟩,.func (.func 74) #[.agg #[.string (E C),.string (E K),.string (E qd)]] #[])]:=(by first | exact hw.after hbd | exact (hw.alloc _).after hbd);(try (have hA:Bw wA wd:=bt hl hbd));(try (have hA:Bw wA wd:=bt (ba hl _) hbd));(try (have kD:=kA.after hbd;have kA0:=kD.cell 0;have kA1:=kD.cell 1;have kA2:=kD.free 0;have kA3:=kD.free 1;have kl:=kD.lt));(try (have kB:=(Blk.new wf #[.string { data:=#[] },.string { data:=#[] }] 105).after hbd;have kB0:=kB.cell 0;have kB1:=kB.cell 1;have kB2:=kB.free 0;have kB3:=kB.free 1;have kbl:=kB.lt))))
        all_goals
         go_wp2_with fail
         go_meet
         first
          | exact⟨_,rfl,rfl,Blk.new _ _ _,hA.size,ba hA _⟩
          | exact⟨_,rfl,rfl,(kD.set 0 _).set 1 _,Nat.le_refl _,(hA.setCell (by simp) _).setCell (by simp) _⟩
          | exact⟨_,rfl,rfl,(kB.set 0 _).set 1 _,hl.size,(hA.setCell (by have:=hl.size;simp;omega) _).setCell (by have:=hl.size;simp;omega) _⟩
       case rest =>
        obtain⟨g15,rfl,rfl,Hc,HH,hg⟩:=hcut;obtain⟨wy,HI⟩:∃wy,wy=wc:=⟨_,rfl⟩;subst HI;clear hC hd;have hB:=own_after hX hg;have ju:=hn.after hg;have hi:=bt hH hg;have HJ:=Hc.lt;have hQ:Hid (((N.lims C K).take k).length=k):=by rw[Hid,List.length_take,NSta.lims,List.length_map];omega
        rw[hQ.out]at hB;clear hg hX;have HL:=hi.size;generalize (N.lims C K).take k=LI at hB hW hQ;obtain⟨Hd,He,Hf,Hg⟩:=Hc.x2;go_wp2_with (at_builtin;(refine wpList_append_lies _ rfl (.tmp 93) (.tmp 95) _ rfl wF.heap.size 105 i0 _ 2 32 Tryz.underlying89 HR.out HS.out HU.out HW.out rfl (by omega) u12 k (lcs LI) rfl (own_after hB (b1 _ (.cells #[.string (E l1'),.string (E l2')] 105))) ⟨wy.heap.size,0,none⟩ 1 1 [.string (E l1'),.string (E l2')] rfl rfl (Blk.new wy #[.string (E l1'),.string (E l2')] 105).cells (by simp[Value.oneCell']) (by omega) (by simp only[maxLen];omega) (by omega) (by rw[World.size_alloc];omega) (wy.heap.size+1) (by simp) ?_);intro ga ca wa hD he HN hT)
        have Hh:LmOwn wa wF.heap.size (.slice (some ⟨ga,0,none⟩) (k+1) ca) (LI++[(l1',l2')]):=by rw[LmOwn,List.length_append,hQ.out,←lcs_app];exact hD
        rw[←hW.out]at Hh;have HO:=(ba hi (.cells #[.string (E l1'),.string (E l2')] 105)).grown he (by rw[World.size_alloc];omega) (fun x hx=>(own_lt hB hx).2);clear hD he HN hT hB hi;go_wp2;go_roundw
        case rel=>exact⟨k+1,by omega,by go_num,Hh,HO⟩
        case measure=>simp[intOf];omega
     ·have jv:Hid ((N.lims C K).take k=N.lims C K):=List.take_of_length_le (by rw[NSta.lims,List.length_map,←Ho.out];omega);rw[jv.out]at hO;have jw:=hf.size;go_wp2;go_ret2
      exact⟨_,rfl,own_mono hO jw,Hz⟩
end
section
open Go.RowKit Go.Shelf
end
section
open Go.RowKit Go.Shelf
def ra (n:Nat) (p:Nat→Bool):Bool:=(List.range n).all p
theorem ra_true {n:Nat} {p:Nat→Bool} (h:∀j,j<n→p j=true):ra n p=true:=by
 unfold ra;rw[List.all_eq_true];intro x hx;exact h x (List.mem_range.1 hx)
theorem ra_false {n j:Nat} {p:Nat→Bool} (hj:j<n) (h:p j=false):ra n p=false:=by
 unfold ra;rw[List.all_eq_false];exact⟨j,List.mem_range.2 hj,by simp[h]⟩
theorem ra_at {n j:Nat} {p:Nat→Bool} (h:ra n p=true) (hj:j<n):p j=true:=by
 unfold ra at h;rw[List.all_eq_true]at h;exact h j (List.mem_range.2 hj)
def NSta.eq (N:NSta) (j:Nat):NEqn:=N.eqs.getD j ⟨0,0,[]⟩
theorem eq_at (N:NSta) (j:Nat) (h:j<N.eqs.length):N.eq j=N.eqs[j]:=by
 unfold NSta.eq;rw[List.getD_eq_getElem?_getD,List.getElem?_eq_getElem h];rfl
def blJ (N:NSta) (C K:Nat) (Z:List Int) (j:Nat):Bool:=blw (N.vars.getD j 0) (Z.getD j 0) (lim N.ord C K (N.vars.getD j 0)).2
def hsJ (N:NSta) (F:List Nat) (j:Nat):Bool:=hasB (N.gp (N.eq j)).1 (N.gp (N.eq j)).2 (F.getD j 0)
def imJ (N:NSta) (F:List Nat) (c:Nat) (Z:List Int) (j:Nat):Bool:=decide (F.getD j 0*powI (N.eq j).tgt (c:Int) (N.gp (N.eq j)).1%(N.gp (N.eq j)).1=imgV N Z (N.eq j))
def NSta.ver (N:NSta) (C K:Nat) (F:List Nat) (c:Nat) (Z:List Int):Nat:=
 if F.length≠N.eqs.length∨Z.length≠N.vars.length then 6 else if C≤c then 2 else if ra N.vars.length (blJ N C K Z)=false then 2
 else if ra N.eqs.length (hsJ N F)=false then 13 else if ra N.eqs.length (imJ N F c Z)=false then 16 else 0
theorem ver_6 {N:NSta} {C K c:Nat} {F:List Nat} {Z:List Int} (h:F.length≠N.eqs.length∨Z.length≠N.vars.length):N.ver C K F c Z=6:=by unfold NSta.ver;rw[if_pos h]
theorem ver_2 {N:NSta} {C K c:Nat} {F:List Nat} {Z:List Int} (h1:F.length=N.eqs.length) (h2:Z.length=N.vars.length) (h:C≤c):N.ver C K F c Z=2:=by unfold NSta.ver;rw[if_neg (by simp[h1,h2]),if_pos h]
theorem ver_2b {N:NSta} {C K c:Nat} {F:List Nat} {Z:List Int} (h1:F.length=N.eqs.length) (h2:Z.length=N.vars.length) (h:c<C) (h3:ra N.vars.length (blJ N C K Z)=false):N.ver C K F c Z=2:=by unfold NSta.ver;rw[if_neg (by simp[h1,h2]),if_neg (by omega),if_pos h3]
theorem ver_13 {N:NSta} {C K c:Nat} {F:List Nat} {Z:List Int} (h1:F.length=N.eqs.length) (h2:Z.length=N.vars.length) (h:c<C) (h3:ra N.vars.length (blJ N C K Z)=true) (h4:ra N.eqs.length (hsJ N F)=false):N.ver C K F c Z=13:=by unfold NSta.ver;rw[if_neg (by simp[h1,h2]),if_neg (by omega),if_neg (by simp[h3]),if_pos h4]
theorem ver_16 {N:NSta} {C K c:Nat} {F:List Nat} {Z:List Int} (h1:F.length=N.eqs.length) (h2:Z.length=N.vars.length) (h:c<C) (h3:ra N.vars.length (blJ N C K Z)=true) (h4:ra N.eqs.length (hsJ N F)=true) (h5:ra N.eqs.length (imJ N F c Z)=false):N.ver C K F c Z=16:=by unfold NSta.ver;rw[if_neg (by simp[h1,h2]),if_neg (by omega),if_neg (by simp[h3]),if_neg (by simp[h4]),if_pos h5]
theorem ver_0 {N:NSta} {C K c:Nat} {F:List Nat} {Z:List Int} (h1:F.length=N.eqs.length) (h2:Z.length=N.vars.length) (h:c<C) (h3:ra N.vars.length (blJ N C K Z)=true) (h4:ra N.eqs.length (hsJ N F)=true) (h5:ra N.eqs.length (imJ N F c Z)=true):N.ver C K F c Z=0:=by unfold NSta.ver;rw[if_neg (by simp[h1,h2]),if_neg (by omega),if_neg (by simp[h3]),if_neg (by simp[h4]),if_neg (by simp[h5])]
theorem blJ_at (N:NSta) (C K:Nat) (Z:List Int) (j:Nat) (h:j<N.vars.length) (h2:j<Z.length):blJ N C K Z j=blw N.vars[j] Z[j] (lim N.ord C K N.vars[j]).2:=by
 unfold blJ;simp only[List.getD_eq_getElem?_getD,List.getElem?_eq_getElem h,List.getElem?_eq_getElem h2,Option.getD_some]
theorem hsJ_at (N:NSta) (F:List Nat) (j:Nat) (h:j<N.eqs.length) (h2:j<F.length) (hg:N.eqs[j].grp<N.grps.length):hsJ N F j=hasB N.grps[N.eqs[j].grp].1 N.grps[N.eqs[j].grp].2 F[j]:=by
 unfold hsJ;rw[eq_at N j h,gp_at N _ hg];simp only[List.getD_eq_getElem?_getD,List.getElem?_eq_getElem h2,Option.getD_some]
theorem imJ_at (N:NSta) (F:List Nat) (c:Nat) (Z:List Int) (j:Nat) (h:j<N.eqs.length) (h2:j<F.length) (hg:N.eqs[j].grp<N.grps.length):imJ N F c Z j=decide (F[j]*powI N.eqs[j].tgt (c:Int) N.grps[N.eqs[j].grp].1%N.grps[N.eqs[j].grp].1=imgV N Z N.eqs[j]):=by
 unfold imJ;rw[eq_at N j h,gp_at N _ hg];simp only[List.getD_eq_getElem?_getD,List.getElem?_eq_getElem h2,Option.getD_some]
theorem lim_lt {N:NSta} (hm:NOk N) {C K:Nat} (hC:C<256^16) (hK:K<256^16) {b:Nat} (hb:b∈N.vars):(lim N.ord C K b).2<256^58:=by
 unfold lim;split
 ·exact Nl (ord_lt hm) (by decide)
 ·exact Nat.lt_of_le_of_lt (Nat.sub_le _ _) (lt_mul3 hC hK (hm.v b hb)).2
theorem lims_at (N:NSta) (C K:Nat) (j:Nat) (h:j<N.vars.length) (h2:j<(N.lims C K).length):(N.lims C K)[j]=lim N.ord C K N.vars[j]:=by simp[NSta.lims]
theorem powI_nat (x c p:Nat):powI x (c:Int) p=x^c%p:=by
 unfold powI;rw[if_neg (by omega),Int.natAbs_natCast]
theorem has_powN {p q x:Nat} (c:Nat) (hp:2≤p) (h:hasB p q x=true):hasB p q (powI x (c:Int) p)=true:=by
 rw[powI_nat];have hx:=has_coprime hp h
 have h1:Nat.gcd (x^c%p) p=1:=by
  have h2:Nat.gcd (x^c) p=1:=Nat.Coprime.pow_left c hx;rw[Nat.gcd_comm,Nat.gcd_rec]at h2;exact h2
 have hlt:x^c%p<p:=Nat.mod_lt _ (by omega)
 have h0:x^c%p≠0:=by
  intro e;rw[e,Nat.gcd_zero_left]at h1;omega
 unfold hasB at h ⊢;by_cases hq:q=0
 ·rw[if_pos hq];exact Dt ⟨h0,hlt,h1⟩
 ·rw[if_neg hq]at h ⊢;have h3:=(of_decide_eq_true h).2.2;refine Dt ⟨h0,hlt,?_⟩;rw[←Nat.pow_mod,←Nat.pow_mul,Nat.mul_comm,Nat.pow_mul,Nat.pow_mod,h3,←Nat.pow_mod,Nat.one_pow]
theorem pexpN_c (p q x c:Nat) (w:World) (hp:p<256^8) (hq:q<256^128) (he:grpE p q=0) (hx:hasB p q x=true) (hc:c<256^128) :
  Calls Tryz.prog 41 #[.agg #[.string (E p),.string (E q)],.string (E x),.agg #[.bool (sg (c:Int)),.string (E c)]] w fun e w'=>e=.returned (.tuple #[.string (E (powI x (c:Int) p)),.int .i64 0])∧Bw w w':=by
 have:=pexp_c p q x (c:Int) w hp hq he hx (by rw[Int.natAbs_natCast];exact hc);rwa [Int.natAbs_natCast]at this
theorem svalidV_c (l:List (Bool × ByteArray)) (v:Value) (b:Bool) (w:World) (hn:l.length≤1000) (hs:∀x∈l,x.2.size≤1000) (hR:IsAt w v l) (h:(l.all fun x=>ivB x.1 x.2)=b) :
  Calls Tryz.prog 31 #[v] w fun e w'=>e=.returned (.bool b)∧Bw w w':=by rw[←h];exact svalid_c l v w hn hs hR
end
end Go.Proofs.YtdgddpnjkinciaaGreatDoor
