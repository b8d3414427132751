/- Commit of both sides: one error,one result;the law's walk. -/
import Derived.Test.YtcfjcenmcpankaaGreatDoorCo4
import Derived.Test.YtcfjcenmcpankaaGreatDoorSat1
import Derived.Test.YtcfjcenmcpankaaGreatDoorHv8
import Derived.Test.YtcfjcenmcpankaaGreatDoorHp6
import Derived.Test.YtcfjcenmcpankaaGreatDoorAtt
import Derived.Test.YtcfjcenmcpankaaGreatDoorPrv2
import Derived.Test.YtcfjcenmcpankaaGreatDoorLs16
import Derived.Test.YtcfjcenmcpankaaGreatDoorAw16
set_option linter.unusedVariables false
set_option linter.unusedSimpArgs false
set_option maxRecDepth 100000
set_option maxHeartbeats 16000000
namespace Go.Proofs.YtcfjcenmcpankaaGreatDoor
section
open Go.RowKit Go.Shelf
theorem rgood_v (T:Tp) (v:Value) (w:World) (hok:T.Ok) (hV:SsAt w v T.vals) :
  Calls Tryz.prog 139 #[.agg #[v,.string T.seed,.int .i64 T.pos]] w fun e w'=>e=.returned (.bool T.good)∧Below w.heap.size w w':=by
 obtain ⟨V,sd,ti⟩:=T;have hn:V.length≤100:=hok.n;have hs:∀x∈V,x.size≤100:=hok.s;have HG:Hid (Tp.good ⟨V,sd,ti⟩=(V.all vldB&&(decide (0≤ti)&&decide (ti≤2147483647)))):=rfl;simp only [] at hV ⊢;generalize Tp.good ⟨V,sd,ti⟩=tg at HG ⊢;clear hok;have HVA:Hid (∀k (h:k<V.length) (w:World),Calls Tryz.prog 43 #[.string (V[k]'h)] w fun e w'=>e=.returned (.bool (vldB (V[k]'h)))∧w=w'):=fun k h w=>rvalid_c _ w (by have:=hs _ (List.getElem_mem h);omega)
 obtain ⟨ao,c,rfl⟩:=RAt.form hV;obtain ⟨n,hn'⟩:∃n,n=V.length:=⟨_,rfl⟩;have HN:=Lib.hid hn';rw [←hn'] at hV hn ⊢;clear hn' hs;have hP:=Blk.new w #[.slice ao n c,.string sd,.int .i64 ti] 41;have hBW:=b1 w (.cells #[.slice ao n c,.string sd,.int .i64 ti] 41);obtain ⟨hPc0,hPf0,hPc1,hPf1,hPc2,hPf2⟩:=hP.x3;go_enter Tryz.func139,Tryz.ntmps139
 go_upto_region 2 with fail
 clear hPc0 hPf0 hPc1 hPf1 hPc2 hPf2;replace hV:=SsAt.after hV hBW;generalize w.alloc (.cells #[.slice ao n c,.string sd,.int .i64 ti] 41)=w1 at hP hBW hV ⊢;obtain ⟨g0,hg0⟩:∃g,w.heap.size=g:=⟨_,rfl⟩;rw [hg0] at hP ⊢;replace hP:Blk w1 g0 41 [.slice ao n c,.string sd,.int .i64 ti]:=hP;have HG0:=Lib.hid hg0;clear hg0;go_loopw [3] (fun i wr=>∃k:Nat,k≤n∧i=.int .i64 k∧Hid (∀j (h:j<V.length),j<k→vldB (V[j]'h)=true)∧Below w1.heap.size w1 wr) (fun i _=>n-(intOf i).toNat)
 case atStart=>exact ⟨0,by omega,rfl,fun j _ h=>absurd h (Nat.not_lt_zero _),Below.refl _ _⟩
 case round =>
  obtain ⟨k,hk,rfl,HA,hbr⟩:=hrel;obtain ⟨wp,hwp⟩:∃wp,wp=wr:=⟨_,rfl⟩;subst hwp;have hV1:=SsAt.after hV hbr;have hP1:=hP.after hbr;by_cases hlt:k<n
  ·have hkl:k<V.length:=by rw [←HN.out];exact hlt
   obtain ⟨b,o,rfl,hbl,x1⟩:=SsAt.at_ hV1 hkl;have HV:=Lib.hid (HVA.out k hkl)
   have HX:Hid (vldB (V[k]'hkl)=true→∀j (h:j<V.length),j<k+1→vldB (V[j]'h)=true):=fun hv j h hj=>by
    by_cases e:j=k
    ·subst e;exact hv
    ·exact HA.out j h (by omega)
   have HXF:Hid (vldB (V[k]'hkl)=false→tg=false):=fun hv=>by
    rw [HG.out];cases h:V.all vldB with
    | false=>rfl
    | true=>have:=List.all_eq_true.1 h _ (List.getElem_mem hkl);rw [hv] at this;cases this
   generalize vldB (V[k]'hkl)=bl at HV HX HXF;generalize (V[k]'hkl)=x at x1 HV;have h0k:(0:Int)≤(k:Int):=by omega
   have h1k:(k:Int)<(n:Int):=by omega
   cases bl
   ·have HXG:=Lib.hid (HXF.out rfl);clear HX HXF;have hbrr:=hbr;obtain ⟨hP1c0,hP1f0,hP1c1,hP1f1,hP1c2,hP1f2⟩:=hP1.x3;go_wp2_with fail
    refine (HV.out _).mono ?_;rintro e w2 ⟨rfl,rfl⟩;go_wp2;go_ret
    rw [HXG.out];exact ⟨rfl,bt hBW hbr⟩
   ·have HX2:=Lib.hid (HX.out rfl);clear HX;obtain ⟨hP1c0,hP1f0,hP1c1,hP1f1,hP1c2,hP1f2⟩:=hP1.x3;go_wp2_with fail
    refine (HV.out _).mono ?_;rintro e w2 ⟨rfl,rfl⟩;go_wp2;go_roundw
    case rel=>exact ⟨k+1,by omega,by go_num,HX2,hbr⟩
    case measure=>simp [intOf];omega
  ·have HT:Hid (V.all vldB=true):=by
    rw [Hid,List.all_eq_true];intro x hx;obtain ⟨j,hj,rfl⟩:=List.mem_iff_getElem.1 hx;exact HA.out j hj (by rw [←HN.out] at hj;omega)
   obtain ⟨t1,ht1⟩:∃t:Bool,t=decide (0≤ti):=⟨_,rfl⟩;obtain ⟨t2,ht2⟩:∃t:Bool,t=decide (ti≤2147483647):=⟨_,rfl⟩;have HT1:=Lib.hid ht1;have HT2:=Lib.hid ht2;obtain ⟨hP1c0,hP1f0,hP1c1,hP1f1,hP1c2,hP1f2⟩:=hP1.x3;cases t1
   ·have d1:=HT1.out.symm;clear ht1 ht2;go_wp2;go_ret
    rw [show tg=false by rw [HG.out,HT.out,←HT1.out];rfl];exact ⟨rfl,bt hBW hbr⟩
   ·have d1:=HT1.out.symm;have d2:=ht2.symm;clear ht1 ht2;go_wp2;go_ret
    rw [show tg=t2 by rw [HG.out,HT.out,←HT1.out,←HT2.out];rfl];exact ⟨rfl,bt hBW hbr⟩
theorem ss_app {w:World} {base cap g:Nat} {V:List ByteArray} (h:w.ownsRow base 22 1 (.slice (some ⟨g,0,none⟩) V.length cap) V.length (V.map .string)):SsAt w (.slice (some ⟨g,0,none⟩) V.length cap) V:=by
 refine ⟨_,_,rfl,?_⟩;by_cases h0:V.length=0
 ·exact .inl h0
 ·refine .inr ⟨g,0,rfl,(own_capS h).1,fun j hj=>⟨[.string V[j]],rfl,fun i hi=>?_⟩⟩;obtain rfl:i=0:=by omega
  have:=own_cellS h j (.string V[j]) (by simp [hj]);simpa using this
def RAtt (att:Att) (sd:ByteArray):Prop:=sd.size≠0→∀(p a k:Nat),p≤2147483647→a<256→1≤k→k≤512→att sd p a k<256^64 ∧
 ∀(w:World),Calls Tryz.prog 179 #[.string sd,.int .i64 (p:Int),.int .i64 (a:Int),.int .i64 (k:Int)] w fun e w'=>e=.returned (.string (E (att sd p a k)))∧Below w.heap.size w w'
set_option exponentiation.threshold 600 in
theorem rdraw_v (att:Att) (T:Tp) (v:Value) (n:Nat) (w:World) (hat:RAtt att T.seed) (hok:T.Ok) (hg:T.good=true) (h1:1≤n) (h2:n<256^64) (hV:SsAt w v T.vals) :
  Calls Tryz.prog 140 #[.agg #[v,.string T.seed,.int .i64 T.pos],.string (E n)] w (CPost w T (coinD att T n)):=by
 obtain ⟨V,sd,pz⟩:=T;unfold Tp.good at hg;simp only [Bool.and_eq_true,decide_eq_true_eq] at hg;obtain ⟨hv,hp0,hp1⟩:=hg;obtain ⟨ti,rfl⟩:=Int.eq_ofNat_of_zero_le hp0;have ht:ti≤2147483647:=by omega
 have hn:V.length≤100:=hok.n;have hs:∀x∈V,x.size≤100:=hok.s;have hsd:sd.size≤100:=hok.d;have HATT:=Lib.hid hat;obtain ⟨rr,hrr⟩:∃r,r=coinD att ⟨V,sd,(ti:Int)⟩ n:=⟨_,rfl⟩;have HRD:=Lib.hid hrr;rw [←hrr];have HPO:Hid (∀(e:Ending) (w':World) (k x:Nat),rr=(k,x)→CPost w ⟨V,sd,(ti:Int)⟩ (k,x) e w'→CPost w ⟨V,sd,(ti:Int)⟩ rr e w'):=fun e w' k x h h'=>by rw [h];exact h'
 simp only [] at hV ⊢;clear hrr hp0 hp1 hok hat;obtain ⟨i0,hi0,hz00,hz01,hz02⟩:=info_parts info_nat;have HI0:=Lib.hid hi0;have HA0:=Lib.hid hz00;have HB0:=Lib.hid hz01;have HC0:=Lib.hid hz02;clear hi0 hz00 hz01 hz02;obtain ⟨ao,c,rfl⟩:=RAt.form hV;obtain ⟨m,hm⟩:∃m,V.length=m:=⟨_,rfl⟩;have HM:=Lib.hid hm;rw [hm] at hV hn ⊢;clear hm;have hP:=Blk.new w #[.slice ao m c,.string sd,.int .i64 (ti:Int)] 41;have hBW:=b1 w (.cells #[.slice ao m c,.string sd,.int .i64 (ti:Int)] 41);obtain ⟨hPc0,hPf0,hPc1,hPf1,hPc2,hPf2⟩:=hP.x3;go_enter Tryz.func140,Tryz.ntmps140
 go_upto_region 2 with fail
 clear hPc0 hPf0 hPc1 hPf1 hPc2 hPf2;clear hP hBW;have hP:=blk3a w #[.slice ao m c,.string sd,.int .i64 (ti:Int)] #[.slice none 0 0,.string ⟨#[]⟩,.int .i64 0] #[.slice none 0 0,.string sd,.int .i64 ((ti:Int)+1)] 41 41 41;have hR:=blk3b w #[.slice ao m c,.string sd,.int .i64 (ti:Int)] #[.slice none 0 0,.string ⟨#[]⟩,.int .i64 0] #[.slice none 0 0,.string sd,.int .i64 ((ti:Int)+1)] 41 41 41;have hX:=blk3c w #[.slice ao m c,.string sd,.int .i64 (ti:Int)] #[.slice none 0 0,.string ⟨#[]⟩,.int .i64 0] #[.slice none 0 0,.string sd,.int .i64 ((ti:Int)+1)] 41 41 41;have hBW:=b3 w (.cells #[.slice ao m c,.string sd,.int .i64 (ti:Int)] 41) (.cells #[.slice none 0 0,.string ⟨#[]⟩,.int .i64 0] 41) (.cells #[.slice none 0 0,.string sd,.int .i64 ((ti:Int)+1)] 41);have hV3:=SsAt.after hV hBW;generalize (((w.alloc (.cells #[.slice ao m c,.string sd,.int .i64 (ti:Int)] 41)).alloc (.cells #[.slice none 0 0,.string ⟨#[]⟩,.int .i64 0] 41)).alloc (.cells #[.slice none 0 0,.string sd,.int .i64 ((ti:Int)+1)] 41))=w3 at hP hR hX hBW hV3 ⊢;obtain ⟨gP,hgP⟩:∃g,w.heap.size=g:=⟨_,rfl⟩;obtain ⟨gR,hgR⟩:∃g,w.heap.size+1=g:=⟨_,rfl⟩;obtain ⟨gX,hgX⟩:∃g,w.heap.size+1+1=g:=⟨_,rfl⟩;have hgX2:w.heap.size+2=gX:=hgX;rw [hgR] at hR;rw [hgX2] at hX;have HGX:Hid (w.heap.size≤gX∧gP≠gX∧gR≠gX∧w.heap.size≤gR):=by unfold Hid;omega
 rw [hgX,hgR,hgP];rw [hgP] at hP;clear hgX2 hgX hgR hgP;replace hP:Blk w3 gP 41 [.slice ao m c,.string sd,.int .i64 (ti:Int)]:=hP;replace hR:Blk w3 gR 41 [.slice none 0 0,.string ⟨#[]⟩,.int .i64 0]:=hR;replace hX:Blk w3 gX 41 [.slice none 0 0,.string sd,.int .i64 ((ti:Int)+1)]:=hX;go_cut [20] (fun s20 wx=>∃u,Blk wx gX 41 [u,.string sd,.int .i64 ((ti:Int)+1)]∧Blk wx gP 41 [.slice ao m c,.string sd,.int .i64 (ti:Int)]∧Blk wx gR 41 [.slice none 0 0,.string ⟨#[]⟩,.int .i64 0]∧SsAt wx u V∧FarS u gR∧(∀b,b<w.heap.size→FarS u b)∧SsAt wx (.slice ao m c) V∧Below w.heap.size w wx)
 case first =>
  as_aux_lemma =>
  by_cases h0:m=0
  ·subst h0;have hVV:V=[]:=List.length_eq_zero_iff.1 HM.out;have HV0:=Lib.hid hVV;clear hVV;obtain ⟨hPc0,hPf0,hPc1,hPf1,hPc2,hPf2⟩:=hP.x3;obtain ⟨hXc0,hXf0,hXc1,hXf1,hXc2,hXf2⟩:=hX.x3;have hxs:=hX.set 0 (.slice none 0 0);cases ao with
   | none =>
    go_wp2;clear hPc0 hPf0 hPc1 hPf1 hPc2 hPf2;clear hXc0 hXf0 hXc1 hXf1 hXc2 hXf2;go_meet
    exact ⟨_,hxs,hP.other _ _ HGX.out.2.1,hR.other _ _ HGX.out.2.2.1,by rw [HV0.out];exact ss_nil _,(fun _ _ _ _ h=>nomatch h),(fun _ _ _ _ _ _ h=>nomatch h),SsAt.after hV (hBW.setCell HGX.out.1 _),hBW.setCell HGX.out.1 _⟩
   | some a0 =>
    go_wp2;clear hPc0 hPf0 hPc1 hPf1 hPc2 hPf2;clear hXc0 hXf0 hXc1 hXf1 hXc2 hXf2;go_meet
    exact ⟨_,hxs,hP.other _ _ HGX.out.2.1,hR.other _ _ HGX.out.2.2.1,by rw [HV0.out];exact ss_nil _,(fun _ _ _ _ h=>nomatch h),(fun _ _ _ _ _ _ h=>nomatch h),SsAt.after hV (hBW.setCell HGX.out.1 _),hBW.setCell HGX.out.1 _⟩
  ·obtain ⟨ao',c',hv',hcs⟩:=hV3;have hml:V.length≠0:=by rw [HM.out];exact h0
   rcases hcs with hcs | ⟨b,o,rfl,hb,hcs⟩
   ·exact absurd hcs hml
   ·injection hv' with e1 e2 e3
    subst e1 e3
    have hnews:∀j u,(V.map Value.string)[j]?=some u→w3.cell? ((⟨b,o,none⟩:Addr).add j)=some u:=fun j u hj=>by
     rw [List.getElem?_map] at hj;by_cases hjl:j<V.length
     ·obtain ⟨cs,hq,hc⟩:=hcs j hjl;rw [List.getElem?_eq_getElem hjl] at hj;have h:=hc 0 (by omega);rw [show (⟨b,o,none⟩:Addr).add j=⟨b,o+j*1+0,none⟩ by rw [Addr.add_lit];simp,h,hq];simpa using hj
     ·rw [List.getElem?_eq_none (by omega)] at hj;simp at hj
    have HNW:=Lib.hid hnews;clear hnews hcs e2;obtain ⟨hPc0,hPf0,hPc1,hPf1,hPc2,hPf2⟩:=hP.x3;obtain ⟨hXc0,hXf0,hXc1,hXf1,hXc2,hXf2⟩:=hX.x3;go_wp2_with (at_builtin;refine wpList_append_lies _ rfl (.tmp 17) (.tmp 19) _ rfl w.heap.size 22 i0 _ 1 16 Tryz.underlying32 HI0.out HA0.out HB0.out HC0.out rfl (by omega) (.slice none 0 0) 0 [] rfl (World.ownsRow_nil _ _ _ _) ⟨b,o,none⟩ m c (V.map Value.string) rfl (by rw [List.length_map,HM.out];omega) HNW.out (by intro u hu;obtain ⟨x,_,rfl⟩:=List.mem_map.1 hu;rfl) (by omega) (by simp only [maxLen];omega) (by omega) hBW.size w3.heap.size rfl ?_;intro ga ca wz hown hgrow hat hlt2;have hXz:=Blk.grown hX hgrow (by simp [Value.ownBlock]);have hz0:=hXz.cell 0;have hf0:=hXz.free 0)
    clear hPc0 hPf0 hPc1 hPf1 hPc2 hPf2;clear hXc0 hXf0 hXc1 hXf1 hXc2 hXf2;go_meet
    have hPz:=Blk.grown hP hgrow (by simp [Value.ownBlock]);have hRz:=Blk.grown hR hgrow (by simp [Value.ownBlock]);have hbz:=hBW.grown hgrow hBW.size (fun x hx=>by simp [Value.ownBlock] at hx)
    have hVo:SsAt wz (.slice (some ⟨ga,0,none⟩) m ca) V:=by
     rw [Nat.zero_add,List.nil_append] at hown;rw [←HM.out] at hown ⊢;exact ss_app hown
    have hgz:ga≠gX:=fun e=>by
     rcases hat with h | h
     ·simp [Value.ownBlock] at h
     ·have:=hX.lt;omega
    have hgr:ga≠gR:=fun e=>by
     rcases hat with h | h
     ·simp [Value.ownBlock] at h
     ·have:=hR.lt;omega
    have hgw:¬ ga<w.heap.size:=fun e=>by
     rcases hat with h | h
     ·simp [Value.ownBlock] at h
     ·have:=hBW.size;omega
    exact ⟨_,hXz.set 0 _,hPz.other _ _ HGX.out.2.1,hRz.other _ _ HGX.out.2.2.1,hVo.set_other hgz,(fun _ _ _ _ h _=>by injection h with h;injection h with h;injection h with h;rw [←h];exact hgr),(fun b hb _ _ _ _ h _=>by injection h with h;injection h with h;injection h with h;rw [←h];exact fun e=>by subst e;exact hgw hb),SsAt.after hV (hbz.setCell HGX.out.1 _),hbz.setCell HGX.out.1 _⟩
 case rest =>
  as_aux_lemma =>
  obtain ⟨u,hX,hP,hR,hU,hFU,hFW,hV3,hBW⟩:=hcut;obtain ⟨wx,hwx⟩:∃wx,wx=wc:=⟨_,rfl⟩;subst hwx;clear hV;obtain ⟨uo,uc,rfl⟩:=RAt.form hU;rw [HM.out] at hU hX hFU hFW;have HFW:=Lib.hid hFW;clear hFW
  have HHV:Hid (∀k (h:k<V.length),∃x,x<256^100∧V[k]'h=E x):=fun k h=>by
   have h1:=(List.all_eq_true.1 hv) _ (List.getElem_mem h);have h2:=hs _ (List.getElem_mem h);obtain ⟨x,hx,e⟩:=of_vldB h1;rw [e] at h2;exact ⟨x,lt_of_size h2,e⟩
  have HUU:Hid (∀(w':World) (i j k:Nat) (x y z:Value),Below wx.heap.size wx w'→SsAt (((w'.setCell ⟨gR,i,none⟩ x).setCell ⟨gR,j,none⟩ y).setCell ⟨gR,k,none⟩ z).drew (.slice uo m uc) V):=fun w' i j k x y z hb=>SsAt.after ((((SsAt.after hU hb).set_far hFU).set_far hFU).set_far hFU) (Below.drew (Below.refl _ _))
  clear hs hv hU;have HUZ:=Lib.hid hsd;clear hsd;by_cases htm:ti<m
  ·have hkl:ti<V.length:=by rw [HM.out];exact htm
   obtain ⟨b,o,rfl,hb,hc1⟩:=SsAt.at_ hV3 hkl;obtain ⟨x,hx,hxe⟩:=HHV.out ti hkl;rw [hxe] at hc1;have HCM:Hid (∀w,Calls Tryz.prog 129 #[.string (E x),.string (E n)] w fun e w'=>e=.returned (.int .i64 (cmpN x n))∧Below w.heap.size w w'):=fun w=>rcmp_c x n w (Nat.lt_of_lt_of_le hx (Nat.pow_le_pow_right (by decide) (by decide))) (Nat.lt_of_lt_of_le h2 (Nat.pow_le_pow_right (by decide) (by decide)))
   have HXE:=Lib.hid hxe;clear hxe;have t0:(0:Int)≤(ti:Int):=by omega
   have t1:(ti:Int)<(m:Int):=by omega
   obtain ⟨q,hq⟩:∃q:Int,q=cmpN x n:=⟨_,rfl⟩;rw [←hq] at HCM;obtain ⟨hPc0,hPf0,hPc1,hPf1,hPc2,hPf2⟩:=hP.x3;obtain ⟨hRc0,hRf0,hRc1,hRf1,hRc2,hRf2⟩:=hR.x3;obtain ⟨hXc0,hXf0,hXc1,hXf1,hXc2,hXf2⟩:=hX.x3;go_wp2_with fail
   refine (HCM.out _).mono ?_;rintro e w4 ⟨rfl,hb4⟩;clear hPc0 hPf0 hPc1 hPf1 hPc2 hPf2;clear hRc0 hRf0 hRc1 hRf1 hRc2 hRf2;clear hXc0 hXf0 hXc1 hXf1 hXc2 hXf2;replace hBW:=bt hBW hb4;replace hP:=hP.after hb4;replace hR:=hR.after hb4;replace hX:=hX.after hb4;replace hV3:=SsAt.after hV3 hb4;have HU4:Hid (∀(i j k:Nat) (x y z:Value),SsAt (((w4.setCell ⟨gR,i,none⟩ x).setCell ⟨gR,j,none⟩ y).setCell ⟨gR,k,none⟩ z).drew (.slice uo m uc) V):=fun i j k x y z=>HUU.out w4 i j k x y z hb4
   clear HUU hb4 hc1 hb HCM;by_cases hq0:0≤q
   ·have d1:decide (0≤q)=true:=decide_eq_true hq0
    have HXG:Hid (n≤x):=by
     rw [Hid];apply Classical.byContradiction
     intro hge;have:=cmp_neg x n (by omega);rw [←hq] at this;omega
    have HRR:Hid (rr=(2,0)):=HRD.out.trans (coinD_big (att:=att) (T:=⟨V,sd,(ti:Int)⟩) (by exact hkl) (by exact HXE.out) HXG.out);clear hq;have hRl:=hR.lt;obtain ⟨hRc0,hRf0,hRc1,hRf1,hRc2,hRf2⟩:=hR.x3;go_wp2;refine bodyPost_ret (v:=.tuple #[.string ⟨#[]⟩,.agg #[.slice none 0 0,.string ⟨#[]⟩,.int .i64 0],.int .i64 2]) ?_ rfl (HPO.out _ _ 2 0 HRR.out ⟨_,rfl,⟨_,rfl,ss_nil _⟩,TFar.zero _ _ _,((hBW.setCell HGX.out.2.2.2 _).setCell HGX.out.2.2.2 _).setCell HGX.out.2.2.2 _⟩);simp [results,Tryz.results140,go_sem,hRc0,hRc1,hRc2,hRl]
   ·have d1:decide (0≤q)=false:=decide_eq_false hq0
    have HXN:Hid (x<n):=by
     rw [Hid];apply Classical.byContradiction
     intro hge;have:=cmp_nneg x n (by omega);rw [←hq] at this;omega
    have HRR:Hid (rr=(0,x)):=HRD.out.trans (coinD_val (att:=att) (T:=⟨V,sd,(ti:Int)⟩) (by exact hkl) (by exact HXE.out) HXN.out);clear hq hq0;obtain ⟨b',o',e',hb,hc1⟩:=SsAt.at_ hV3 hkl;injection e' with e'
    injection e' with e1 e2 e3
    subst e1 e2;clear e3;rw [HXE.out] at hc1;have hRl:=hR.lt;have hXl:=hX.lt;have hPl:=hP.lt;obtain ⟨hPc0,hPf0,hPc1,hPf1,hPc2,hPf2⟩:=hP.x3;obtain ⟨hRc0,hRf0,hRc1,hRf1,hRc2,hRf2⟩:=hR.x3;obtain ⟨hXc0,hXf0,hXc1,hXf1,hXc2,hXf2⟩:=hX.x3;go_wp2_with fail
    go_region;go_wp2;refine bodyPost_ret (v:=.tuple #[.string (E x),.agg #[.slice uo m uc,.string sd,.int .i64 ((ti:Int)+1)],.int .i64 0]) ?_ rfl (HPO.out _ _ 0 x HRR.out ⟨_,rfl,⟨_,rfl,HU4.out _ _ _ _ _ _⟩,TFar.of HFW.out,(((hBW.setCell HGX.out.2.2.2 _).setCell HGX.out.2.2.2 _).setCell HGX.out.2.2.2 _).drew⟩);simp [results,Tryz.results140,go_sem,hRc0,hRc1,hRc2,hRl]
  ·have h2':n<256^128:=Nat.lt_of_lt_of_le h2 (Nat.pow_le_pow_right (by decide) (by decide));have HBI:Hid (∀w,Calls Tryz.prog 180 #[.string (E n)] w fun e w'=>e=.returned (.int .i64 (nb n))∧w'=w):=fun w=>(rBits_c n w h2').mono fun e w' h=>⟨h.1,h.2.symm⟩
   have HAT:Hid (sd.size≠0→∀(a:Nat),a<256→att sd ti a (nb n)<256^64∧∀(w:World),Calls Tryz.prog 179 #[.string sd,.int .i64 (ti:Int),.int .i64 (a:Int),.int .i64 (nb n)] w fun e w'=>e=.returned (.string (E (att sd ti a (nb n))))∧Below w.heap.size w w'):=fun hs0 a ha=>by
    have hb1:=nb_pos n (by omega)
    have hb2:nb n≤512:=by
     apply Classical.byContradiction
     intro hc;have h3:=nb_low n (by omega);have h5:(2:Nat)^(8*64)≤2^(nb n-1):=Nat.pow_le_pow_right (by decide) (by omega);rw [Nat.pow_mul] at h5;exact Nat.lt_irrefl _ (Nat.lt_of_lt_of_le h2 (Nat.le_trans h5 h3))
    exact HATT.out hs0 ti a (nb n) ht ha hb1 hb2
   have HCM:Hid (∀(x:Nat) (w:World),x<256^64→Calls Tryz.prog 129 #[.string (E x),.string (E n)] w fun e w'=>e=.returned (.int .i64 (cmpN x n))∧Below w.heap.size w w'):=fun x w hx=>rcmp_c x n w (Nat.lt_of_lt_of_le hx (Nat.pow_le_pow_right (by decide) (by decide))) h2'
   have t1:¬ (ti:Int)<(m:Int):=by omega
   have d1:decide ((ti:Int)<(m:Int))=false:=decide_eq_false t1;have hkl:V.length≤((ti:Int)).toNat:=by rw [Int.toNat_natCast,HM.out];omega
   have HKL:=Lib.hid hkl;clear h2 h2' hV3 hkl HATT;have hRl:=hR.lt;by_cases hs0:sd.size=0
   ·have HRR:Hid (rr=(14,0)):=HRD.out.trans (coinD_no (att:=att) (T:=⟨V,sd,(ti:Int)⟩) HKL.out (.inl hs0));obtain rfl:sd=ByteArray.empty:=by apply ByteArray.ext;apply Array.eq_empty_of_size_eq_zero;exact hs0
    obtain ⟨hPc0,hPf0,hPc1,hPf1,hPc2,hPf2⟩:=hP.x3;obtain ⟨hRc0,hRf0,hRc1,hRf1,hRc2,hRf2⟩:=hR.x3;go_wp2;refine bodyPost_ret (v:=.tuple #[.string ⟨#[]⟩,.agg #[.slice none 0 0,.string ⟨#[]⟩,.int .i64 0],.int .i64 14]) ?_ rfl (HPO.out _ _ 14 0 HRR.out ⟨_,rfl,⟨_,rfl,ss_nil _⟩,TFar.zero _ _ _,((hBW.setCell HGX.out.2.2.2 _).setCell HGX.out.2.2.2 _).setCell HGX.out.2.2.2 _⟩);simp [results,Tryz.results140,go_sem,hRc0,hRc1,hRc2,hRl]
   ·have hne:=nz_str (s:=sd) (by omega);by_cases htx:ti=2147483647
    ·have HRR:Hid (rr=(14,0)):=HRD.out.trans (coinD_no (att:=att) (T:=⟨V,sd,(ti:Int)⟩) HKL.out (.inr (by show (ti:Int)=2147483647;omega)));subst htx;obtain ⟨hPc0,hPf0,hPc1,hPf1,hPc2,hPf2⟩:=hP.x3;obtain ⟨hRc0,hRf0,hRc1,hRf1,hRc2,hRf2⟩:=hR.x3;go_wp2;refine bodyPost_ret (v:=.tuple #[.string ⟨#[]⟩,.agg #[.slice none 0 0,.string ⟨#[]⟩,.int .i64 0],.int .i64 14]) ?_ rfl (HPO.out _ _ 14 0 HRR.out ⟨_,rfl,⟨_,rfl,ss_nil _⟩,TFar.zero _ _ _,((hBW.setCell HGX.out.2.2.2 _).setCell HGX.out.2.2.2 _).setCell HGX.out.2.2.2 _⟩);simp [results,Tryz.results140,go_sem,hRc0,hRc1,hRc2,hRl]
    ·have htb:((ti:Int)==2147483647)=false:=by rw [beq_eq_false_iff_ne];omega
     have HRS:Hid (rr=coinS att ⟨V,sd,(ti:Int)⟩ n):=HRD.out.trans (coinD_s (att:=att) (T:=⟨V,sd,(ti:Int)⟩) HKL.out hs0 (by show (ti:Int)≠2147483647;omega));have HAX:=Lib.hid (HAT.out hs0);clear HAT HRD;have hXl:=hX.lt;have hPl:=hP.lt;obtain ⟨hPc0,hPf0,hPc1,hPf1,hPc2,hPf2⟩:=hP.x3;go_wp2;clear hPc0 hPf0 hPc1 hPf1 hPc2 hPf2;go_loopw [8,9] (fun i v wr=>∃a:Nat,a≤256∧i=.int .i64 (a:Int)∧Hid (∀j,j<a→n≤att sd ti j (nb n))∧Below wx.heap.size wx wr) (fun i _ _=>256-(intOf i).toNat)
     case atStart=>exact ⟨0,by omega,rfl,fun j h=>absurd h (Nat.not_lt_zero _),Below.refl _ _⟩
     case round =>
      clear hRl hXl hPl;obtain ⟨a,ha,rfl,HA,hbr⟩:=hrel;obtain ⟨wp,hwp⟩:∃wp,wp=wr:=⟨_,rfl⟩;subst hwp;by_cases hlt:a<256
      ·have hPr:=hP.after hbr;have HATk:=Lib.hid (HAX.out a hlt);have HXV:Hid (att sd ti a (nb n)<n→rr=(0,att sd ti a (nb n))):=fun h=>HRS.out.trans (coinS_at (att:=att) (T:=⟨V,sd,(ti:Int)⟩) hlt HA.out h)
       have HXW:Hid (n≤att sd ti a (nb n)→∀j,j<a+1→n≤att sd ti j (nb n)):=fun h j hj=>by
        by_cases e:j=a
        ·rw [e];exact h
        ·exact HA.out j (by omega)
       generalize att sd ti a (nb n)=y at HATk HXV HXW;obtain ⟨hy,hatc⟩:=HATk.out;replace HATk:Hid (∀(w:World),Calls Tryz.prog 179 #[.string sd,.int .i64 (ti:Int),.int .i64 (a:Int),.int .i64 (nb n)] w fun e w'=>e=.returned (.string (E y))∧Below w.heap.size w w'):=hatc;have HYY:=Lib.hid hy;clear hatc hy;obtain ⟨cl,hcl⟩:∃l:List (Addr × Value),l=[(⟨gP,1,none⟩,.string sd),(⟨gP,2,none⟩,.int .i64 (ti:Int))]:=⟨_,rfl⟩;have HCL:=Lib.hid hcl;clear hcl
       have hC:CA wp cl:=by
        rw [HCL.out];exact CA.cons hPr.lt (hPr.cell 1) (CA.cons hPr.lt (hPr.cell 2) (CA.nil _))
       go_upto_region 12 with fail
       go_cut [9] (fun s9 wc'=>s9=.string (E y)∧Below wp.heap.size wp wc')
       case first =>
        as_aux_lemma =>
        clear hPr hP hX hR hBW HCM hbr
        go_region_held3 (fun w'=>w'.cell? ⟨gP,1,none⟩=some (.string sd)∧w'.cell? ⟨gP,2,none⟩=some (.int .i64 (ti:Int))) ((refine CA.k2 ?_;rw [←HCL.out];repeat (first | (with_reducible exact hC1) | (with_reducible exact hC) | (with_reducible refine CA.drew ?_))))
         (first | (go_at_call 180;(with_reducible refine (HBI.out _).mono ?_);rintro e wa ⟨rfl,rfl⟩) | (go_at_call 179;(with_reducible refine (HATk.out _).mono ?_);rintro e wb ⟨rfl,hbb⟩;have hC1:=hC.drew.after hbb;have hA1:=(Below.drew (Below.refl wp.heap.size wp)).trans hbb))
        go_wp2_with fail
        go_meet
        exact ⟨rfl,hA1⟩
       case rest =>
        as_aux_lemma =>
        obtain ⟨rfl,hbc⟩:=hcut;obtain ⟨wy,hwy⟩:∃wx,wx=wc:=⟨_,rfl⟩;subst hwy;replace hbr:=bt hbr hbc;clear hC hPr hbc;go_wp2_with fail
        refine (HCM.out y _ HYY.out).mono ?_;rintro e w4 ⟨rfl,hb4⟩;replace hbr:=bt hbr hb4;clear hb4 HCM;obtain ⟨q,hq⟩:∃q:Int,q=cmpN y n:=⟨_,rfl⟩;rw [←hq];by_cases hq0:q<0
        ·have dq:decide (q<0)=true:=decide_eq_true hq0
         have HXN:Hid (y<n):=by
          rw [Hid];apply Classical.byContradiction
          intro hge;have:=cmp_nneg y n (by omega);rw [←hq] at this;exact this hq0
         have HRR:=Lib.hid (HXV.out HXN.out);clear hq hq0 HXV HXW;have hRr:=hR.after hbr;have hXr:=hX.after hbr;have hbw:=bt hBW hbr;have hRl:=hRr.lt;have hXl:=hXr.lt;obtain ⟨hRrc0,hRrf0,hRrc1,hRrf1,hRrc2,hRrf2⟩:=hRr.x3;obtain ⟨hXrc0,hXrf0,hXrc1,hXrf1,hXrc2,hXrf2⟩:=hXr.x3;go_wp2_with fail
         go_region;go_wp2;refine bodyPost_ret (v:=.tuple #[.string (E y),.agg #[.slice uo m uc,.string sd,.int .i64 ((ti:Int)+1)],.int .i64 0]) ?_ rfl (HPO.out _ _ 0 y HRR.out ⟨_,rfl,⟨_,rfl,HUU.out w4 _ _ _ _ _ _ hbr⟩,TFar.of HFW.out,(((hbw.setCell HGX.out.2.2.2 _).setCell HGX.out.2.2.2 _).setCell HGX.out.2.2.2 _).drew⟩);simp [results,Tryz.results140,go_sem,hRrc0,hRrc1,hRrc2,hRl]
        ·have dq:decide (q<0)=false:=decide_eq_false hq0
         have HXX:Hid (n≤y):=by
          rw [Hid];apply Classical.byContradiction
          intro hge;exact hq0 (by rw [hq];exact cmp_neg y n (by omega))
         have HXY:=Lib.hid (HXW.out HXX.out);clear hq hq0 HXV HXW;go_wp2;go_roundw
         case rel=>exact ⟨a+1,by omega,by go_num,HXY.out,hbr⟩
         case measure=>simp [intOf];omega
      ·have HRR:Hid (rr=(14,0)):=HRS.out.trans (coinS_no (att:=att) (T:=⟨V,sd,(ti:Int)⟩) (fun j hj=>HA.out j (by omega)));have hRr:=hR.after hbr;have hbw:=bt hBW hbr;have hRl:=hRr.lt;obtain ⟨hRrc0,hRrf0,hRrc1,hRrf1,hRrc2,hRrf2⟩:=hRr.x3;go_wp2;refine bodyPost_ret (v:=.tuple #[.string ⟨#[]⟩,.agg #[.slice none 0 0,.string ⟨#[]⟩,.int .i64 0],.int .i64 14]) ?_ rfl (HPO.out _ _ 14 0 HRR.out ⟨_,rfl,⟨_,rfl,ss_nil _⟩,TFar.zero _ _ _,((hbw.setCell HGX.out.2.2.2 _).setCell HGX.out.2.2.2 _).setCell HGX.out.2.2.2 _⟩);simp [results,Tryz.results140,go_sem,hRrc0,hRrc1,hRrc2,hRl]
end
section
open Go.RowKit Go.Shelf
theorem rbelow_v (att:Att) (T:Tp) (v:Value) (n:Nat) (w:World) (hat:RAtt att T.seed) (hok:T.Ok) (h2:n<256^64) (hV:SsAt w v T.vals) :
  Calls Tryz.prog 92 #[.agg #[v,.string T.seed,.int .i64 T.pos],.string (E n)] w (CPost w T (coin att T n)):=by
 have HVL:Hid (∀w,Calls Tryz.prog 43 #[.string (E n)] w fun e w'=>e=.returned (.bool true)∧w=w'):=fun w=>rvalidE_c n w (lt64 h2)
 have HGD:Hid (∀w',Below w.heap.size w w'→Calls Tryz.prog 139 #[.agg #[v,.string T.seed,.int .i64 T.pos]] w' fun e w''=>e=.returned (.bool T.good)∧Below w'.heap.size w' w''):=fun w' hb=>rgood_v T v w' hok (SsAt.after hV hb)
 have HDR:Hid (T.good=true→n≠0→∀w',Below w.heap.size w w'→Calls Tryz.prog 140 #[.agg #[v,.string T.seed,.int .i64 T.pos],.string (E n)] w' (CPost w' T (coinD att T n))):=fun h h1 w' hb=>rdraw_v att T v n w' hat hok h (by omega) h2 (SsAt.after hV hb)
 have HC1:Hid (T.good=false→coin att T n=(3,0)):=fun h=>by unfold coin;rw [if_pos h]
 have HC2:Hid (T.good=true→n=0→coin att T n=(11,0)):=fun h h0=>by unfold coin;rw [if_neg (by rw [h];decide),if_pos h0]
 have HC3:Hid (T.good=true→n≠0→coin att T n=coinD att T n):=fun h h0=>by unfold coin;rw [if_neg (by rw [h];decide),if_neg h0]
 obtain ⟨ao,c,rfl⟩:=RAt.form hV;generalize coin att T n=rr at HC1 HC2 HC3 ⊢;generalize coinD att T n=rd at HDR HC3;generalize T.good=tg at HGD HDR HC1 HC2 HC3;generalize T.vals.length=m at HGD HDR ⊢;have hP:=blk2a w #[.slice ao m c,.string T.seed,.int .i64 T.pos] #[.slice none 0 0,.string ⟨#[]⟩,.int .i64 0] 41 41;have hR:=blk2b w #[.slice ao m c,.string T.seed,.int .i64 T.pos] #[.slice none 0 0,.string ⟨#[]⟩,.int .i64 0] 41 41;have hBW:=b2 w (.cells #[.slice ao m c,.string T.seed,.int .i64 T.pos] 41) (.cells #[.slice none 0 0,.string ⟨#[]⟩,.int .i64 0] 41);obtain ⟨gR,hgR⟩:∃g,w.heap.size+1=g:=⟨_,rfl⟩;have HGR:Hid (w.heap.size≤gR):=by rw [Hid];omega
 have HGE:=Lib.hid hgR;clear hat hok h2 hV hgR;obtain ⟨hPc0,hPf0,hPc1,hPf1,hPc2,hPf2⟩:=hP.x3;go_enter Tryz.func92,Tryz.ntmps92
 go_wp2_with fail
 refine (HGD.out _ hBW).mono ?_;rintro e w2 ⟨rfl,hb2⟩;clear hPc0 hPf0 hPc1 hPf1 hPc2 hPf2;replace hP:=hP.after hb2;replace hR:=hR.after hb2;replace hBW:=bt hBW hb2;clear hb2 HGD;rw [HGE.out] at hR ⊢;clear HGE;replace hP:Blk w2 w.heap.size 41 [.slice ao m c,.string T.seed,.int .i64 T.pos]:=hP;replace hR:Blk w2 gR 41 [.slice none 0 0,.string ⟨#[]⟩,.int .i64 0]:=hR;have HRW:=Lib.hid hR.lt;have hRl:=hR.lt;cases tg
 ·have HRR:=Lib.hid (HC1.out rfl);clear HC2 HC3 HDR hP;clear HC1;obtain ⟨hRc0,hRf0,hRc1,hRf1,hRc2,hRf2⟩:=hR.x3;go_wp2;refine bodyPost_ret (v:=.tuple #[.string ⟨#[]⟩,.agg #[.slice none 0 0,.string ⟨#[]⟩,.int .i64 0],.int .i64 3]) ?_ rfl ?_
  ·simp [results,Tryz.results92,go_sem,hRc0,hRc1,hRc2,hRl]
  ·rw [HRR.out];exact ⟨_,rfl,⟨_,rfl,ss_nil _⟩,TFar.zero _ _ _,((hBW.setCell HGR.out _).setCell HGR.out _).setCell HGR.out _⟩
 ·clear HC1;have HD2:=Lib.hid (HC2.out rfl);have HD3:=Lib.hid (HC3.out rfl);have HD4:=Lib.hid (HDR.out rfl);clear HC2 HC3 HDR;go_wp2_with fail
  refine (HVL.out _).mono ?_;rintro e w' ⟨rfl,rfl⟩;by_cases h0:n=0
  ·have HRR:=Lib.hid (HD2.out h0);have HC1:=HRR;clear HD2 HD3 HD4 hP;subst h0;have hz:=zE (n:=0) rfl;clear HC1;obtain ⟨hRc0,hRf0,hRc1,hRf1,hRc2,hRf2⟩:=hR.x3;go_wp2;refine bodyPost_ret (v:=.tuple #[.string ⟨#[]⟩,.agg #[.slice none 0 0,.string ⟨#[]⟩,.int .i64 0],.int .i64 11]) ?_ rfl ?_
   ·simp [results,Tryz.results92,go_sem,hRc0,hRc1,hRc2,hRl]
   ·rw [HRR.out];exact ⟨_,rfl,⟨_,rfl,ss_nil _⟩,TFar.zero _ _ _,((hBW.setCell HGR.out _).setCell HGR.out _).setCell HGR.out _⟩
  ·have HRR:=Lib.hid (HD3.out h0);have HD:=Lib.hid (HD4.out h0);have hz:=nzE (n:=n) (by omega);obtain rfl:rr=rd:=HRR.out;clear HD2 HD3 HD4 hRl h0;obtain ⟨hPc0,hPf0,hPc1,hPf1,hPc2,hPf2⟩:=hP.x3;go_wp2_with fail
   refine (HD.out _ hBW).mono ?_;rintro e w3 ⟨t,rfl,⟨u,rfl,hU⟩,hF,hb3⟩;clear hPc0 hPf0 hPc1 hPf1 hPc2 hPf2;have HF2:=Lib.hid (hF.far HRW.out);replace hF:=hF.mono hBW.size;replace hR:=hR.after hb3;replace hBW:=bt hBW hb3;clear hb3 hP HD HRR;generalize hT':T.after rr.1=T' at hU hF ⊢;obtain ⟨uo,uc,rfl⟩:=RAt.form hU;obtain ⟨ul,hul⟩:∃l,l=T'.vals.length:=⟨_,rfl⟩;have HUL:=Lib.hid hul;have HTT:=Lib.hid hT';rw [←hul] at hU hF HF2 ⊢;clear hul hT';obtain ⟨us,hus⟩:∃s,s=T'.seed:=⟨_,rfl⟩;obtain ⟨ut,hut⟩:∃s,s=T'.pos:=⟨_,rfl⟩;rw [←hus,←hut] at hF ⊢;have HE:=Lib.hid (And.intro hus hut);clear hus hut;have hRl:=hR.lt;obtain ⟨hRc0,hRf0,hRc1,hRf1,hRc2,hRf2⟩:=hR.x3;go_wp2;refine bodyPost_ret (v:=.tuple #[.string (E rr.2),.agg #[.slice uo ul uc,.string us,.int .i64 ut],.int .i64 (rr.1:Int)]) ?_ rfl ⟨_,rfl,?_,hF,((hBW.setCell HGR.out _).setCell HGR.out _).setCell HGR.out _⟩
   ·simp [results,Tryz.results92,go_sem,hRc0,hRc1,hRc2,hRl]
   ·rw [HTT.out,HE.out.1,HE.out.2];exact ⟨_,rfl,((hU.set_far HF2.out).set_far HF2.out).set_far HF2.out⟩
theorem rsigned_v (att:Att) (T:Tp) (v:Value) (n:Nat) (w:World) (hat:RAtt att T.seed) (hok:T.Ok) (h2:n<256^60) (hV:SsAt w v T.vals) :
  Calls Tryz.prog 93 #[.agg #[v,.string T.seed,.int .i64 T.pos],.string (E n)] w (SCPost w T (csgn att T n)):=by
 have h64:n<256^64:=Nat.lt_of_lt_of_le h2 (Nat.pow_le_pow_right (by decide) (by decide))
 have h65:2*n<256^64:=by
  have:256^60*2≤256^64:=by decide
  omega
 have HVL:Hid (∀w,Calls Tryz.prog 43 #[.string (E n)] w fun e w'=>e=.returned (.bool true)∧w=w'):=fun w=>rvalidE_c n w (lt64 h64)
 have HGD:Hid (∀w',Below w.heap.size w w'→Calls Tryz.prog 139 #[.agg #[v,.string T.seed,.int .i64 T.pos]] w' fun e w''=>e=.returned (.bool T.good)∧Below w'.heap.size w' w''):=fun w' hb=>rgood_v T v w' hok (SsAt.after hV hb)
 have HDR:Hid (T.good=true→n≠0→∀w',Below w.heap.size w w'→Calls Tryz.prog 140 #[.agg #[v,.string T.seed,.int .i64 T.pos],.string (E (2*n-1))] w' (CPost w' T (coinD att T (2*n-1)))):=fun h h1 w' hb=>rdraw_v att T v (2*n-1) w' hat hok h (by omega) (by omega) (SsAt.after hV hb)
 have HOF:Hid (∀w,Calls Tryz.prog 30 #[.int .u64 1] w fun e w'=>e=.returned (.string (E 1))∧Below w.heap.size w w'):=fun w=>rof_c 1 w (by decide)
 have HSB:Hid (n≠0→∀w,Calls Tryz.prog 130 #[.string (E n),.string (E 1)] w fun e w'=>e=.returned (.tuple #[.string (E (n-1)),.int .i64 0])∧Below w.heap.size w w'):=fun h w=>rsub_c n 1 w (lt64 h64) (by omega)
 have HAD:Hid (n≠0→∀w,Calls Tryz.prog 128 #[.string (E n),.string (E (n-1))] w fun e w'=>e=.returned (.tuple #[.string (E (2*n-1)),.int .i64 0])∧Below w.heap.size w w'):=fun hn w=>by
  have h:=radd_c n (n-1) w (lt64 h64) (by have:=lt64 h64;omega) (by have:=lt64 h65;omega);rwa [show n+(n-1)=2*n-1 by omega] at h
 have HSM:Hid (∀(x:Nat),x<256^64→∀w,Calls Tryz.prog 35 #[.agg #[.bool (sg (x:Int)),.string (E x)],.agg #[.bool (sg ((n-1:Nat):Int)),.string (E (n-1))]] w fun e w'=>e=.returned (.tuple #[.agg #[.bool (sg ((x:Int)-((n-1:Nat):Int))),.string (E ((x:Int)-((n-1:Nat):Int)).natAbs)],.int .i64 0])∧Below w.heap.size w w'):=fun x hx w=>by
  have h9:(256:Nat)^64+256^64≤256^128:=by decide
  have h:=risub_c (x:Int) ((n-1:Nat):Int) w (by simp;omega) (by simp;omega) (by omega);rwa [Int.natAbs_natCast,Int.natAbs_natCast] at h
 have HFM:Hid (∀(x:Nat),x<256^64→∀w,Calls Tryz.prog 141 #[.string (E x)] w fun e w'=>e=.returned (.agg #[.bool (sg (x:Int)),.string (E x)])∧Below w.heap.size w w'):=fun x hx w=>rifromS_c x w (lt64 hx)
 have HFL:Hid (∀w,Calls Tryz.prog 141 #[.string (E (n-1))] w fun e w'=>e=.returned (.agg #[.bool (sg ((n-1:Nat):Int)),.string (E (n-1))])∧Below w.heap.size w w'):=fun w=>rifromS_c (n-1) w (by have:=lt64 h64;omega)
 have HLT:Hid (n≠0→(coinD att T (2*n-1)).1=0→(coinD att T (2*n-1)).2<256^64):=fun _ h=>by have:=coinD_lt h;omega
 have HC1:Hid (T.good=false→csgn att T n=(3,0)):=fun h=>by
  have:T.rdy n=3:=by unfold Tp.rdy;rw [if_pos h]
  unfold csgn;rw [this];rfl
 have HC2:Hid (T.good=true→n=0→csgn att T n=(11,0)):=fun h h0=>by
  have:T.rdy n=11:=by unfold Tp.rdy;rw [if_neg (by rw [h];decide),if_pos h0]
  unfold csgn;rw [this];rfl
 have HC3:Hid (T.good=true→n≠0→csgn att T n=if (coinD att T (2*n-1)).1=0 then (0,((coinD att T (2*n-1)).2:Int)-((n-1:Nat):Int)) else ((coinD att T (2*n-1)).1,0)):=fun h h0=>by
  have:T.rdy n=0:=by unfold Tp.rdy;rw [if_neg (by rw [h];decide),if_neg h0]
  unfold csgn;rw [this];rfl
 obtain ⟨ao,c,rfl⟩:=RAt.form hV;generalize csgn att T n=rr at HC1 HC2 HC3 ⊢;generalize coinD att T (2*n-1)=rd at HDR HLT HC3;generalize T.good=tg at HGD HDR HC1 HC2 HC3;generalize T.vals.length=m at HGD HDR ⊢;have hP:=blk3a w #[.slice ao m c,.string T.seed,.int .i64 T.pos] #[.bool false,.string { data:=#[] }] #[.slice none 0 0,.string ⟨#[]⟩,.int .i64 0] 41 72 41;have hZ:=blk3b w #[.slice ao m c,.string T.seed,.int .i64 T.pos] #[.bool false,.string { data:=#[] }] #[.slice none 0 0,.string ⟨#[]⟩,.int .i64 0] 41 72 41;have hR:=blk3c w #[.slice ao m c,.string T.seed,.int .i64 T.pos] #[.bool false,.string { data:=#[] }] #[.slice none 0 0,.string ⟨#[]⟩,.int .i64 0] 41 72 41;have hBW:=b3 w (.cells #[.slice ao m c,.string T.seed,.int .i64 T.pos] 41) (.cells #[.bool false,.string { data:=#[] }] 72) (.cells #[.slice none 0 0,.string ⟨#[]⟩,.int .i64 0] 41);obtain ⟨gZ,hgZ⟩:∃g,w.heap.size+1=g:=⟨_,rfl⟩;obtain ⟨gR,hgR⟩:∃g,w.heap.size+1+1=g:=⟨_,rfl⟩;have hgR2:w.heap.size+2=gR:=hgR;have HGR:Hid (w.heap.size≤gR∧w.heap.size≤gZ∧gZ≠gR):=by rw [Hid];omega
 have HG1:=Lib.hid hgZ;have HG2:=Lib.hid hgR;have HG3:=Lib.hid hgR2;clear hat hok h2 hV h64 h65 hgZ hgR hgR2;obtain ⟨hPc0,hPf0,hPc1,hPf1,hPc2,hPf2⟩:=hP.x3;go_enter Tryz.func93,Tryz.ntmps93
 go_wp2_with fail
 refine (HGD.out _ hBW).mono ?_;rintro e w2 ⟨rfl,hb2⟩;clear hPc0 hPf0 hPc1 hPf1 hPc2 hPf2;replace hP:=hP.after hb2;replace hZ:=hZ.after hb2;replace hR:=hR.after hb2;replace hBW:=bt hBW hb2;clear hb2 HGD;rw [HG3.out] at hR;rw [HG1.out] at hZ;rw [HG2.out,HG1.out];clear HG1 HG2 HG3;replace hP:Blk w2 w.heap.size 41 [.slice ao m c,.string T.seed,.int .i64 T.pos]:=hP;replace hZ:Blk w2 gZ 72 [.bool false,.string { data:=#[] }]:=hZ;replace hR:Blk w2 gR 41 [.slice none 0 0,.string ⟨#[]⟩,.int .i64 0]:=hR;have hne:=HGR.out.2.2;have hne2:¬ gR=gZ:=fun e=>hne e.symm
 have hZl:=hZ.lt;have hRl:=hR.lt;cases tg
 ·have HRR:=Lib.hid (HC1.out rfl);clear HC1 HC2 HC3 HDR HLT HSB HAD HSM HFM HFL hP;obtain ⟨hZc0,hZf0,hZc1,hZf1⟩:=hZ.x2;obtain ⟨hRc0,hRf0,hRc1,hRf1,hRc2,hRf2⟩:=hR.x3;go_wp2;refine bodyPost_ret (v:=.tuple #[.agg #[.bool false,.string ⟨#[]⟩],.agg #[.slice none 0 0,.string ⟨#[]⟩,.int .i64 0],.int .i64 3]) ?_ rfl ?_
  ·simp [results,Tryz.results93,go_sem,hZc0,hZc1,hRc0,hRc1,hRc2,hZl,hRl,hne,hne2]
  ·rw [HRR.out];exact ⟨_,by rw [E0v];rfl,(by rw [tp_after (by decide)];exact ⟨_,rfl,ss_nil _⟩),TFar.zero _ _ _,((((hBW.setCell HGR.out.2.1 _).setCell HGR.out.2.1 _).setCell HGR.out.1 _).setCell HGR.out.1 _).setCell HGR.out.1 _⟩
 ·clear HC1;have HD2:=Lib.hid (HC2.out rfl);have HD3:=Lib.hid (HC3.out rfl);have HD4:=Lib.hid (HDR.out rfl);clear HC2 HC3 HDR;go_wp2_with fail
  refine (HVL.out _).mono ?_;rintro e w' ⟨rfl,rfl⟩;by_cases h0:n=0
  ·have HRR:=Lib.hid (HD2.out h0);clear HD2 HD3 HD4 HLT HSB HAD HSM HFM HFL hP;subst h0;have hz:=zE (n:=0) rfl;obtain ⟨hZc0,hZf0,hZc1,hZf1⟩:=hZ.x2;obtain ⟨hRc0,hRf0,hRc1,hRf1,hRc2,hRf2⟩:=hR.x3;go_wp2;refine bodyPost_ret (v:=.tuple #[.agg #[.bool false,.string ⟨#[]⟩],.agg #[.slice none 0 0,.string ⟨#[]⟩,.int .i64 0],.int .i64 11]) ?_ rfl ?_
   ·simp [results,Tryz.results93,go_sem,hZc0,hZc1,hRc0,hRc1,hRc2,hZl,hRl,hne,hne2]
   ·rw [HRR.out];exact ⟨_,by rw [E0v];rfl,(by rw [tp_after (by decide)];exact ⟨_,rfl,ss_nil _⟩),TFar.zero _ _ _,((((hBW.setCell HGR.out.2.1 _).setCell HGR.out.2.1 _).setCell HGR.out.1 _).setCell HGR.out.1 _).setCell HGR.out.1 _⟩
  ·have HC:=Lib.hid (HD3.out h0);have HD:=Lib.hid (HD4.out h0);have HS1:=Lib.hid (HSB.out h0);have HA1:=Lib.hid (HAD.out h0);have HLTb:=Lib.hid (HLT.out h0);have hz:=nzE (n:=n) (by omega);clear HD2 HD3 HD4 HSB HAD HLT hRl hZl h0;go_wp2_with fail
   refine (HOF.out _).mono ?_;rintro e w3 ⟨rfl,hb3⟩;go_wp2_with fail
   refine (HS1.out _).mono ?_;rintro e w4 ⟨rfl,hb4⟩;go_wp2_with fail
   refine (HA1.out _).mono ?_;rintro e w5 ⟨rfl,hb5⟩;have hb6:=bt hb3 (bt hb4 hb5);replace hP:=hP.after hb6;replace hZ:=hZ.after hb6;replace hR:=hR.after hb6;replace hBW:=bt hBW hb6;clear hb3 hb4 hb5 hb6 HA1 HS1 HOF;have HRW:=Lib.hid hR.lt;have HZW:=Lib.hid hZ.lt;obtain ⟨hPc0,hPf0,hPc1,hPf1,hPc2,hPf2⟩:=hP.x3;go_wp2_with fail
   refine (HD.out _ hBW).mono ?_;rintro e w7 ⟨t,rfl,⟨u,rfl,hU⟩,hF,hb7⟩;clear hPc0 hPf0 hPc1 hPf1 hPc2 hPf2;have HF2:=Lib.hid (hF.far HRW.out);have HF3:=Lib.hid (hF.far HZW.out);replace hF:=hF.mono hBW.size;replace hZ:=hZ.after hb7;replace hR:=hR.after hb7;replace hBW:=bt hBW hb7;clear hb7 hP HD;obtain ⟨T',hT'⟩:∃T',T'=T.after rd.1:=⟨_,rfl⟩;have HTT:=Lib.hid hT';rw [←hT'] at hU hF ⊢;obtain ⟨uo,uc,rfl⟩:=RAt.form hU;obtain ⟨ul,hul⟩:∃l,l=T'.vals.length:=⟨_,rfl⟩;rw [←hul] at hU hF HF2 HF3 ⊢;obtain ⟨us,hus⟩:∃s,s=T'.seed:=⟨_,rfl⟩;obtain ⟨ut,hut⟩:∃s,s=T'.pos:=⟨_,rfl⟩;rw [←hus,←hut] at hF ⊢;have HE:=Lib.hid (And.intro hus hut);clear hus hut hul hT';obtain ⟨x,hx⟩:∃x,x=rd.2:=⟨_,rfl⟩;obtain ⟨ke,hke⟩:∃x,x=rd.1:=⟨_,rfl⟩;rw [←hx,←hke] at HC HLTb ⊢;rw [←hke] at HTT;clear hx hke;have hX:=Blk.new w7 #[.slice uo ul uc,.string us,.int .i64 ut] 41;have hbX:=b1 w7 (.cells #[.slice uo ul uc,.string us,.int .i64 ut] 41);have HX7:Hid (gZ<w7.heap.size∧gR<w7.heap.size):=⟨hZ.lt,hR.lt⟩;by_cases hk:ke=0
   ·subst hk;have HRR:Hid (rr=(0,(x:Int)-((n-1:Nat):Int))):=by rw [Hid,HC.out,if_pos rfl]
    have HI:=Lib.hid (fun w=>HSM.out x (HLTb.out rfl) w);have HFX:=Lib.hid (fun w=>HFM.out x (HLTb.out rfl) w);generalize (x:Int)-((n-1:Nat):Int)=z at HI HRR;generalize n-1=l at HI HFL ⊢;clear HC HSM HFM HLTb;go_wp2_with fail
    refine (HFX.out _).mono ?_;rintro e wf ⟨rfl,hbf⟩;go_wp2_with fail
    refine (HFL.out _).mono ?_;rintro e wg ⟨rfl,hbg⟩;go_wp2_with fail
    refine (HI.out _).mono ?_;rintro e w8 ⟨rfl,hb8⟩;replace hb8:=bt hbf (bt hbg hb8);have hb9:=bt hbX hb8;replace hX:=hX.after hb8;replace hZ:=hZ.after hb9;replace hR:=hR.after hb9;have hU9:=SsAt.after hU hb9;replace hBW:=bt hBW hb9;clear hb8 hb9 hbX HI hU hbf hbg HFX HFL;obtain ⟨gX,hgX⟩:∃g,w7.heap.size=g:=⟨_,rfl⟩;rw [hgX] at hX HX7 ⊢;clear hgX;have HY8:Hid (gZ<w8.heap.size∧gR<w8.heap.size):=⟨hZ.lt,hR.lt⟩;replace hX:Blk w8 gX 41 [.slice uo ul uc,.string us,.int .i64 ut]:=hX;have hY:=Blk.new w8 #[.bool (sg z),.string (E z.natAbs)] 72;have hbY:=b1 w8 (.cells #[.bool (sg z),.string (E z.natAbs)] 72);have hXl:=hX.lt;have hZl:=hZ.lt;have hRl:=hR.lt;have hX2:=hX.after hbY;have hZ2:=hZ.after hbY;have hR2:=hR.after hbY;have hUa:=SsAt.after hU9 hbY;have hBY:=bt hBW hbY;clear hX hZ hR hU9 hBW hbY hXl hZl hRl;go_upto_region 13 with fail
    generalize w8.alloc (.cells #[.bool (sg z),.string (E z.natAbs)] 72)=w9 at hY hX2 hZ2 hR2 hUa hBY ⊢;obtain ⟨gY,hgY⟩:∃g,w8.heap.size=g:=⟨_,rfl⟩;rw [hgY] at hY HY8 ⊢;clear hgY;replace hY:Blk w9 gY 72 [.bool (sg z),.string (E z.natAbs)]:=hY;have hXl:=hX2.lt;have hZl:=hZ2.lt;have hRl:=hR2.lt;have hYl:=hY.lt;have n1:¬ gX=gZ:=by have:=HX7.out.1;omega
    have n2:¬ gX=gR:=by have:=HX7.out.2;omega
    have n3:¬ gY=gZ:=by have:=HY8.out.1;omega
    have n4:¬ gY=gR:=by have:=HY8.out.2;omega
    have m1:¬ gZ=gX:=fun e=>n1 e.symm
    have m2:¬ gR=gX:=fun e=>n2 e.symm
    obtain ⟨hX2c0,hX2f0,hX2c1,hX2f1,hX2c2,hX2f2⟩:=hX2.x3;obtain ⟨hYc0,hYf0,hYc1,hYf1⟩:=hY.x2;obtain ⟨hZ2c0,hZ2f0,hZ2c1,hZ2f1⟩:=hZ2.x2;obtain ⟨hR2c0,hR2f0,hR2c1,hR2f1,hR2c2,hR2f2⟩:=hR2.x3;go_wp2_with fail
    go_region;go_wp2;refine bodyPost_ret (v:=.tuple #[.agg #[.bool (sg (z)),.string (E (z).natAbs)],.agg #[.slice uo ul uc,.string us,.int .i64 ut],.int .i64 0]) ?_ rfl ?_
    ·simp [results,Tryz.results93,go_sem,hZ2c0,hZ2c1,hR2c0,hR2c1,hR2c2,hZl,hRl,hne,hne2]
    ·rw [HRR.out];refine ⟨_,rfl,?_,hF,(((((hBY.setCell HGR.out.2.1 _).setCell HGR.out.2.1 _).setCell HGR.out.1 _).setCell HGR.out.1 _).setCell HGR.out.1 _).drew⟩;show TAt _ _ (T.after 0);rw [←HTT.out,HE.out.1,HE.out.2];exact ⟨_,rfl,SsAt.after (((((hUa.set_far HF3.out).set_far HF3.out).set_far HF2.out).set_far HF2.out).set_far HF2.out) (Below.drew (Below.refl _ _))⟩
   ·have hkb:((ke:Int) != 0)=true:=by rw [bne_iff_ne];omega
    have HRR:Hid (rr=(ke,0)):=by rw [Hid,HC.out,if_neg hk]
    have HTA:=Lib.hid (tp_after (T:=T) hk);have hZ2:=hZ.after hbX;have hR2:=hR.after hbX;have hBY:=bt hBW hbX;have hZl:=hZ2.lt;have hRl:=hR2.lt;clear hk HC hX hZ hR hBW hbX HSM HFM HFL HLTb;obtain ⟨hZ2c0,hZ2f0,hZ2c1,hZ2f1⟩:=hZ2.x2;obtain ⟨hR2c0,hR2f0,hR2c1,hR2f1,hR2c2,hR2f2⟩:=hR2.x3;go_wp2;refine bodyPost_ret (v:=.tuple #[.agg #[.bool false,.string ⟨#[]⟩],.agg #[.slice none 0 0,.string ⟨#[]⟩,.int .i64 0],.int .i64 (ke:Int)]) ?_ rfl ?_
    ·simp [results,Tryz.results93,go_sem,hZ2c0,hZ2c1,hR2c0,hR2c1,hR2c2,hZl,hRl,hne,hne2]
    ·rw [HRR.out];exact ⟨_,by rw [E0v],(by show TAt _ _ (T.after ke);rw [HTA.out];exact ⟨_,rfl,ss_nil _⟩),TFar.zero _ _ _,((((hBY.setCell HGR.out.2.1 _).setCell HGR.out.2.1 _).setCell HGR.out.1 _).setCell HGR.out.1 _).setCell HGR.out.1 _⟩
end
section
/- Lists of integers that are equal: the reference says so. -/
open Go.RowKit Go.Shelf
theorem sameInts_c (u v:Value) (L:List Int) (w:World) (hn:L.length≤1000) (hA:ZsAt w u L) (hB:ZsAt w v L) :
  Calls Tryz.prog 19 #[u,v] w fun e w'=>e=.returned (.bool true)∧Below w.heap.size w w':=by
 obtain ⟨ao,c,rfl⟩:=hA.form;obtain ⟨bo,d,rfl⟩:=hB.form;obtain ⟨n,hLn⟩:∃n,L.length=n:=⟨_,rfl⟩;have HLN:=Lib.hid hLn;rw [hLn] at hA hB hn ⊢;clear hLn;go_enter Tryz.func19,Tryz.ntmps19
 go_wp2;go_loopw [5] (fun i wr=>∃k:Nat,k≤n∧i=.int .i64 k∧Below w.heap.size w wr) (fun i _=>n-(intOf i).toNat)
 case atStart=>exact ⟨0,by omega,rfl,Below.refl _ _⟩
 case round =>
  obtain ⟨k,hk,rfl,hbr⟩:=hrel;obtain ⟨wp,hwp⟩:∃wp,wp=wr:=⟨_,rfl⟩;subst hwp;replace hA:=ZsAt.after hA hbr;replace hB:=ZsAt.after hB hbr;by_cases hlt:k<n
  ·have hkl:k<L.length:=by rw [HLN.out];exact hlt
   obtain ⟨b,o,rfl,l1,x1,x2⟩:=hA.at_ hkl;obtain ⟨b',o',rfl,l2,y1,y2⟩:=hB.at_ hkl;generalize L[k]'hkl=z at x1 x2 y1 y2;have h0k:(0:Int)≤(k:Int):=by omega
   have h1k:(k:Int)<(n:Int):=by omega
   have g1:=gcl (a:=⟨b,o+k*2,none⟩) l1 x1;have g2:=gcl (a:=⟨b,o+k*2+1,none⟩) l1 x2;have g3:=gcl (a:=⟨b',o'+k*2,none⟩) l2 y1;have g4:=gcl (a:=⟨b',o'+k*2+1,none⟩) l2 y2;clear x1 x2 y1 y2 hA hB;go_wp2_with fail
   refine wp_region_gw (by kernel_rfl) (by kernel_rfl) ?_;repeat (go_big_quiet_step (first | (fail)))
   refine wpQuiet_nil ?_;rintro w2 ⟨xw2,rfl⟩;have hb2:=gw_below xw2;generalize gw xw2=w2 at hb2;go_wp2;go_roundw
   case rel=>exact ⟨k+1,by omega,by go_num,bt hbr hb2⟩
   case measure=>simp [intOf];omega
  ·obtain rfl:k=n:=by omega
   go_wp2;go_ret
   exact ⟨rfl,hbr⟩
end
section
/- The attempts of the reference: the same function. -/
open Go.RowKit Go.Shelf
theorem ratt (sd:ByteArray) (hs:sd.size≤1000):RAtt attN sd:=fun _ p a k h1 h2 h3 h4=>⟨(att_num sd p a k h4).2,fun W=>by
 rw [←(att_num sd p a k h4).1];exact rattempt_v sd p a k W hs h1 h2 h3 h4⟩
end
section
/- sigma.Commit: masks,first messages,tape. -/
open Go.RowKit Go.Shelf
def CMPost (w:World) (vt:Value) (R:Drw) (F:List Nat) (e:Ending) (w':World):Prop:=∃mv fv u,e=.returned (.tuple #[mv,fv,.agg #[u,.string R.tp.seed,.int .i64 R.tp.pos],.int .i64 (R.err:Int)])∧ZOwn w' w.heap.size mv R.msk∧NOwn w' w.heap.size fv F∧SsAt w' u R.tp.vals∧(∀g,g<w.heap.size→FarS vt g→FarS u g)∧Below w.heap.size w w'
theorem cmpost_err {w w':World} {vt:Value} {k:Nat} {R:Drw} {F:List Nat} (hR:R=⟨k,[],Tp.nil⟩) (hF:F=[]) (h:Below w.heap.size w w') :
  CMPost w vt R F (.returned (.tuple #[.slice none 0 0,.slice none 0 0,.agg #[.slice none 0 0,.string ⟨#[]⟩,.int .i64 0],.int .i64 (k:Int)])) w':=by
 subst hR hF;exact ⟨_,_,_,rfl,World.ownsRow_nil _ _ _ _,World.ownsRow_nil _ _ _ _,ss_nil _,(fun g _ _ b o n c e _=>by cases e),h⟩
theorem blk4 (w:World) (A B C D:Array Value) (TA TB TC TD:TypeId) :
  Blk ((((w.alloc (.cells A TA)).alloc (.cells B TB)).alloc (.cells C TC)).alloc (.cells D TD)) w.heap.size TA A.toList ∧
  Blk ((((w.alloc (.cells A TA)).alloc (.cells B TB)).alloc (.cells C TC)).alloc (.cells D TD)) (w.heap.size+1) TB B.toList ∧
  Blk ((((w.alloc (.cells A TA)).alloc (.cells B TB)).alloc (.cells C TC)).alloc (.cells D TD)) (w.heap.size+1+1) TC C.toList ∧
  Blk ((((w.alloc (.cells A TA)).alloc (.cells B TB)).alloc (.cells C TC)).alloc (.cells D TD)) (w.heap.size+1+1+1) TD D.toList ∧
  Below w.heap.size w ((((w.alloc (.cells A TA)).alloc (.cells B TB)).alloc (.cells C TC)).alloc (.cells D TD)):=by
 refine ⟨(((Blk.new w A TA).alloc _).alloc _).alloc _,((blkN (by simp)).alloc _).alloc _,(blkN (by simp)).alloc _,blkN (by simp),ba (b3 w _ _ _) _⟩
theorem scommit_err (C K sd:ByteArray) (v1 v2 v3 vt:Value) (ti:Int) (k:Nat) (w:World) (hk:k≠0)
  (hch:∀w',Below w.heap.size w w'→Calls Tryz.prog 42 #[.agg #[.string C,.string K],.agg #[v1,v2,v3]] w' fun e w''=>e=.returned (.tuple #[.slice none 0 0,.int .i64 k])∧Below w'.heap.size w' w'') :
  Calls Tryz.prog 39 #[.agg #[.string C,.string K],.agg #[v1,v2,v3],.agg #[vt,.string sd,.int .i64 ti]] w (CMPost w vt ⟨k,[],Tp.nil⟩ []):=by
 have HCH:=Lib.hid hch;have hkb:((k:Int) != 0)=true:=by rw [bne_iff_ne];omega
 obtain ⟨hR,hP,hT,hO,hBW⟩:=blk4 w #[.string C,.string K] #[v1,v2,v3] #[vt,.string sd,.int .i64 ti] #[.slice none 0 0,.string ⟨#[]⟩,.int .i64 0] 24 29 41 41;have hge:w.heap.size≤w.heap.size+1+1+1:=by omega
 clear hch hk;obtain ⟨hRc0,hRf0,hRc1,hRf1⟩:=hR.x2;obtain ⟨hPc0,hPf0,hPc1,hPf1,hPc2,hPf2⟩:=hP.x3;go_enter Tryz.func39,Tryz.ntmps39
 go_wp2_with fail
 refine (HCH.out _ hBW).mono ?_;rintro e w2 ⟨rfl,hb2⟩;clear hRc0 hRf0 hRc1 hRf1;clear hPc0 hPf0 hPc1 hPf1 hPc2 hPf2;replace hO:=hO.after hb2;replace hBW:=bt hBW hb2;clear hb2 hR hP hT;have hOl:=hO.lt;obtain ⟨hOc0,hOf0,hOc1,hOf1,hOc2,hOf2⟩:=hO.x3;go_wp2;refine bodyPost_ret (v:=.tuple #[.slice none 0 0,.slice none 0 0,.agg #[.slice none 0 0,.string ⟨#[]⟩,.int .i64 0],.int .i64 k]) ?_ rfl (cmpost_err rfl rfl (((hBW.setCell hge _).setCell hge _).setCell hge _));simp [results,Tryz.results39,go_sem,hOc0,hOc1,hOc2,hOl]
theorem scommit_num (att:Att) (N:NSta) (C K:Nat) (T:Tp) (v1 v2 v3 vt:Value) (w:World) (hat:HAtt att T.seed w) (hok:T.Ok) (hC:C<256^16) (hK:K<256^16) (hm:NOk N) (hS:NAt w v1 v2 v3 N) (h0:N.chk=0)
  (hch:∀w',Below w.heap.size w w'→Calls Tryz.prog 42 #[.agg #[.string (E C),.string (E K)],.agg #[v1,v2,v3]] w' (BPost w' (N.lims C K))) (hV:SsAt w vt T.vals) :
  Calls Tryz.prog 39 #[.agg #[.string (E C),.string (E K)],.agg #[v1,v2,v3],.agg #[vt,.string T.seed,.int .i64 T.pos]] w (CMPost w vt (N.drwR att C K T) (N.fstR (N.drwR att C K T))):=by
 have HCH:=Lib.hid hch
 have HDW:Hid (∀(B:Nat) (vl:Value) w',Below w.heap.size w w'→LmOwn w' B vl (N.lims C K)→Calls Tryz.prog 72 #[.agg #[v1,v2,v3],vl,.agg #[vt,.string T.seed,.int .i64 T.pos]] w' (DWPost w' vt (N.drwR att C K T))):=fun B vl w' hb hL =>
  sdraw_c att N C K B T v1 v2 v3 vl vt w' (hat.after hb) hok hC hK hm (hS.after hb) hL (SsAt.after hV hb)
 have HIM:Hid ((N.drwR att C K T).err=0→∀(vz:Value) w',Below w.heap.size w w'→ZsAt w' vz (N.drwR att C K T).msk→Calls Tryz.prog 62 #[.agg #[v1,v2,v3],vz] w' (LPost w' (N.imgs (N.drwR att C K T).msk))):=fun he vz w' hb hz=>by
  obtain ⟨e,ha⟩:=drw_inv he;exact Images_c N _ v1 v2 v3 vz w' hm (hS.after hb) hz (by rw [e];exact drw_size hm hC hK ha) (by rw [e];simp [NSta.drwL]) h0
 have HDE:Hid ((N.drwR att C K T).err≠0→N.drwR att C K T=⟨(N.drwR att C K T).err,[],Tp.nil⟩):=fun h=>by
  unfold NSta.drwR at *;split
  ·rfl
  ·rename_i hn;rw [hn] at h;exact absurd rfl h
 have HF0:Hid ((N.drwR att C K T).err=0→N.fstR (N.drwR att C K T)=N.imgs (N.drwR att C K T).msk):=fun h=>by unfold NSta.fstR;rw [if_pos h]
 have HF1:Hid ((N.drwR att C K T).err≠0→N.fstR (N.drwR att C K T)=[]):=fun h=>by unfold NSta.fstR;rw [if_neg h]
 generalize N.fstR (N.drwR att C K T)=RF at HF0 HF1 ⊢;generalize N.drwR att C K T=RR at HDW HIM HDE HF0 HF1 ⊢;obtain ⟨ke,M,tD⟩:=RR;simp only [] at HIM HDE HF0 HF1;obtain ⟨a1,c1,a2,c2,a3,c3,rfl,rfl,rfl⟩:=hS.forms;obtain ⟨xt,ct,rfl⟩:=RAt.form hV;generalize T.vals.length=nt at hV HDW ⊢;have hfT:∀g,w.heap.size≤g→FarS (.slice xt nt ct) g:=fun g hg=>ss_far hV hg
 generalize N.grps.length=n1 at hS HCH HDW HIM ⊢;generalize N.vars.length=n2 at hS HCH HDW HIM ⊢;generalize N.eqs.length=n3 at hS HCH HDW HIM ⊢;clear hm hC hK hch h0 hat hok hV hS;obtain ⟨hR,hP,hT,hO,hBW⟩:=blk4 w #[.string (E C),.string (E K)] #[.slice a1 n1 c1,.slice a2 n2 c2,.slice a3 n3 c3] #[.slice xt nt ct,.string T.seed,.int .i64 T.pos] #[.slice none 0 0,.string ⟨#[]⟩,.int .i64 0] 24 29 41 41;go_enter Tryz.func39,Tryz.ntmps39
 go_upto_region 1 with fail
 generalize (((w.alloc (.cells #[.string (E C),.string (E K)] 24)).alloc (.cells #[.slice a1 n1 c1,.slice a2 n2 c2,.slice a3 n3 c3] 29)).alloc (.cells #[.slice xt nt ct,.string T.seed,.int .i64 T.pos] 41)).alloc (.cells #[.slice none 0 0,.string ⟨#[]⟩,.int .i64 0] 41)=w1 at hR hP hT hO hBW ⊢;obtain ⟨gR,hgR⟩:∃g,w.heap.size=g:=⟨_,rfl⟩;obtain ⟨gS,hgS⟩:∃g,w.heap.size+1=g:=⟨_,rfl⟩;obtain ⟨gT,hgT⟩:∃g,w.heap.size+1+1=g:=⟨_,rfl⟩;obtain ⟨gO,hgO⟩:∃g,w.heap.size+1+1+1=g:=⟨_,rfl⟩;rw [hgO,hgT,hgS,hgR];rw [hgR] at hR;rw [hgS] at hP;rw [hgT] at hT;rw [hgO] at hO;have HGW:Hid (w.heap.size≤gT∧w.heap.size≤gO∧gS≠gT∧gS≠gO∧gT≠gO∧gO≠gT):=by rw [Hid];omega
 have neTO:gT≠gO:=HGW.out.2.2.2.2.1;have neOT:gO≠gT:=HGW.out.2.2.2.2.2;have HFT:=Lib.hid (hfT gT HGW.out.1);have HFO:=Lib.hid (hfT gO HGW.out.2.1);clear hgR hgS hgT hgO hfT;replace hR:Blk w1 gR 24 [.string (E C),.string (E K)]:=hR;replace hP:Blk w1 gS 29 [.slice a1 n1 c1,.slice a2 n2 c2,.slice a3 n3 c3]:=hP;replace hT:Blk w1 gT 41 [.slice xt nt ct,.string T.seed,.int .i64 T.pos]:=hT;replace hO:Blk w1 gO 41 [.slice none 0 0,.string ⟨#[]⟩,.int .i64 0]:=hO;obtain ⟨hRc0,hRf0,hRc1,hRf1⟩:=hR.x2;obtain ⟨hPc0,hPf0,hPc1,hPf1,hPc2,hPf2⟩:=hP.x3;go_wp2_with fail
 refine (HCH.out _ hBW).mono ?_;rintro e w2 ⟨vl,rfl,hL,hb2⟩;clear hRc0 hRf0 hRc1 hRf1;clear hPc0 hPf0 hPc1 hPf1 hPc2 hPf2;obtain ⟨a6,c6,rfl⟩:=hL.form;have HDR:=Lib.hid (HDW.out _ _ w2 (bt hBW hb2) hL);generalize (N.lims C K).length=n6 at HDR ⊢;replace hP:=hP.after hb2;replace hT:=hT.after hb2;replace hO:=hO.after hb2;replace hBW:=bt hBW hb2;clear hb2 hR hL HDW;obtain ⟨hPc0,hPf0,hPc1,hPf1,hPc2,hPf2⟩:=hP.x3;obtain ⟨hTc0,hTf0,hTc1,hTf1,hTc2,hTf2⟩:=hT.x3;go_wp2_with fail
 refine HDR.out.mono ?_;rintro e w6 ⟨mv,u2,rfl,hMO,hU2,hFK,hb6⟩;clear hPc0 hPf0 hPc1 hPf1 hPc2 hPf2;clear hTc0 hTf0 hTc1 hTf1 hTc2 hTf2;simp only [] at hMO hU2 hFK ⊢;have f2T:=hFK gT hT.lt HFT.out;have f2O:=hFK gO hO.lt HFO.out;have HFK:Hid (∀g,g<w.heap.size→FarS (.slice xt nt ct) g→FarS u2 g):=fun g hg hf=>hFK g (Nat.lt_of_lt_of_le hg hBW.size) hf
 obtain ⟨u2o,u2c,rfl⟩:=RAt.form hU2;generalize tD.vals.length=ul at hU2 f2T f2O HFK ⊢;have hMz:=hMO.zs;obtain ⟨mo,mc,rfl⟩:=hMz.form;generalize M.length=ml at hMO hMz ⊢;replace hMO:=own_mono hMO hBW.size;clear hFK HDR HCH;replace hP:=hP.after hb6;replace hT:=hT.after hb6;replace hO:=hO.after hb6;replace hBW:=bt hBW hb6;clear hb6;by_cases hke:ke=0
 ·subst hke;have HI2:=Lib.hid (HIM.out rfl);have HFF:=Lib.hid (HF0.out rfl);clear HIM HDE HF0 HF1;have hMt:=own_ne hMO hT (by decide);have hP8:=((hP.other ⟨gT,0,none⟩ (.slice u2o ul u2c) HGW.out.2.2.1).other ⟨gT,1,none⟩ (.string tD.seed) HGW.out.2.2.1).other ⟨gT,2,none⟩ (.int .i64 tD.pos) HGW.out.2.2.1;have hT8:=((hT.set 0 (.slice u2o ul u2c)).set 1 (.string tD.seed)).set 2 (.int .i64 tD.pos);have hO8:=((hO.other ⟨gT,0,none⟩ (.slice u2o ul u2c) neOT).other ⟨gT,1,none⟩ (.string tD.seed) neOT).other ⟨gT,2,none⟩ (.int .i64 tD.pos) neOT;have hM8:ZOwn (((w6.setCell ⟨gT,0,none⟩ (.slice u2o ul u2c)).setCell ⟨gT,1,none⟩ (.string tD.seed)).setCell ⟨gT,2,none⟩ (.int .i64 tD.pos)) w.heap.size (.slice mo ml mc) M:=own_set (own_set (own_set hMO hMt) hMt) hMt;have hU8:=((hU2.set_far (i:=0) (x:=.slice u2o ul u2c) f2T).set_far (i:=1) (x:=.string tD.seed) f2T).set_far (i:=2) (x:=.int .i64 tD.pos) f2T;have hbw8:=((hBW.setCell (p:=⟨gT,0,none⟩) HGW.out.1 (.slice u2o ul u2c)).setCell (p:=⟨gT,1,none⟩) HGW.out.1 (.string tD.seed)).setCell (p:=⟨gT,2,none⟩) HGW.out.1 (.int .i64 tD.pos);have hTl:=hT.lt;obtain ⟨hTc0,hTf0,hTc1,hTf1,hTc2,hTf2⟩:=hT.x3;go_upto_region 5 with fail
  clear hTc0 hTf0 hTc1 hTf1 hTc2 hTf2;clear hP hT hO hBW hU2 hMO hMz hMt hTl;generalize ((w6.setCell ⟨gT,0,none⟩ (.slice u2o ul u2c)).setCell ⟨gT,1,none⟩ (.string tD.seed)).setCell ⟨gT,2,none⟩ (.int .i64 tD.pos)=w8 at hP8 hT8 hO8 hM8 hU8 hbw8 ⊢;replace hT8:Blk w8 gT 41 [.slice u2o ul u2c,.string tD.seed,.int .i64 tD.pos]:=hT8;have HI8:=Lib.hid (HI2.out _ w8 hbw8 hM8.zs);obtain ⟨hP8c0,hP8f0,hP8c1,hP8f1,hP8c2,hP8f2⟩:=hP8.x3;go_wp2_with fail
  refine HI8.out.mono ?_;rintro e w9 ⟨fv,rfl,hFO,hb9⟩;clear hP8c0 hP8f0 hP8c1 hP8f1 hP8c2 hP8f2;obtain ⟨fo,fc,rfl⟩:=RAt.form hFO.ss;obtain ⟨fl,hfl⟩:∃l,l=((N.imgs M).map E).length:=⟨_,rfl⟩;rw [←hfl] at hFO ⊢;have hT9:=hT8.after hb9;have hO9:=hO8.after hb9;have hM9:ZOwn w9 w.heap.size (.slice mo ml mc) M:=own_after hM8 hb9;have hU9:=SsAt.after hU8 hb9;have hF9:NOwn w9 w.heap.size (.slice fo fl fc) (N.imgs M):=own_mono hFO hbw8.size;have hbw9:=bt hbw8 hb9;clear hb9 HI8 hM8 hfl hFO hT8 hO8 hP8 hU8 hbw8 HI2;have hFo:=own_ne hF9 hO9 (by decide);have hMo:=own_ne hM9 hO9 (by decide);have hTl:=hT9.lt;have hOl:=hO9.lt;obtain ⟨hT9c0,hT9f0,hT9c1,hT9f1,hT9c2,hT9f2⟩:=hT9.x3;obtain ⟨hO9c0,hO9f0,hO9c1,hO9f1,hO9c2,hO9f2⟩:=hO9.x3;go_wp2_with fail
  go_region;go_wp2;refine bodyPost_ret (v:=.tuple #[.slice mo ml mc,.slice fo fl fc,.agg #[.slice u2o ul u2c,.string tD.seed,.int .i64 tD.pos],.int .i64 0]) ?_ rfl ?_
  ·simp [results,Tryz.results39,go_sem,hO9c0,hO9c1,hO9c2,hOl,hT9c0,hT9c1,hT9c2,hTl,neTO,neOT]
  ·rw [HFF.out];exact ⟨_,_,_,rfl,World.ownsRow.drew (own_set (own_set (own_set hM9 hMo) hMo) hMo),World.ownsRow.drew (own_set (own_set (own_set hF9 hFo) hFo) hFo),SsAt.after (((hU9.set_far f2O).set_far f2O).set_far f2O) (Below.drew (Below.refl _ _)),HFK.out,(((hbw9.setCell HGW.out.2.1 _).setCell HGW.out.2.1 _).setCell HGW.out.2.1 _).drew⟩
 ·have hkb:((ke:Int) != 0)=true:=by rw [bne_iff_ne];omega
  have HX:=Lib.hid (HDE.out hke);have HFF:=Lib.hid (HF1.out hke);clear hke HIM HDE HF0 HF1 hMO hMz hU2 HFK f2T f2O hP;have hTl:=hT.lt;have hOl:=hO.lt;obtain ⟨hTc0,hTf0,hTc1,hTf1,hTc2,hTf2⟩:=hT.x3;obtain ⟨hOc0,hOf0,hOc1,hOf1,hOc2,hOf2⟩:=hO.x3;go_wp2;refine bodyPost_ret (v:=.tuple #[.slice none 0 0,.slice none 0 0,.agg #[.slice none 0 0,.string ⟨#[]⟩,.int .i64 0],.int .i64 ke]) ?_ rfl (cmpost_err HX.out HFF.out ((((((hBW.setCell HGW.out.1 _).setCell HGW.out.1 _).setCell HGW.out.1 _).setCell HGW.out.2.1 _).setCell HGW.out.2.1 _).setCell HGW.out.2.1 _));simp [results,Tryz.results39,go_sem,hOc0,hOc1,hOc2,hOl,hTl,neTO,neOT]
end
section
/- dominoref16.Commit: masks,first messages,tape. -/
open Go.RowKit Go.Shelf
theorem rcommit_err (C K sd:ByteArray) (v1 v2 v3 vt:Value) (ti:Int) (k:Nat) (w:World) (hk:k≠0)
  (hch:∀w',Below w.heap.size w w'→Calls Tryz.prog 14 #[.agg #[.string C,.string K],.agg #[v1,v2,v3]] w' fun e w''=>e=.returned (.tuple #[.slice none 0 0,.slice none 0 0,.int .i64 k])∧Below w'.heap.size w' w'') :
  Calls Tryz.prog 40 #[.agg #[.string C,.string K],.agg #[v1,v2,v3],.agg #[vt,.string sd,.int .i64 ti]] w (CMPost w vt ⟨k,[],Tp.nil⟩ []):=by
 have HCH:=Lib.hid hch;have hkb:((k:Int) != 0)=true:=by rw [bne_iff_ne];omega
 obtain ⟨hR,hP,hT,hO,hBW⟩:=blk4 w #[.string C,.string K] #[v1,v2,v3] #[vt,.string sd,.int .i64 ti] #[.slice none 0 0,.string ⟨#[]⟩,.int .i64 0] 24 29 41 41;have hge:w.heap.size≤w.heap.size+1+1+1:=by omega
 clear hch hk;obtain ⟨hRc0,hRf0,hRc1,hRf1⟩:=hR.x2;obtain ⟨hPc0,hPf0,hPc1,hPf1,hPc2,hPf2⟩:=hP.x3;go_enter Tryz.func40,Tryz.ntmps40
 go_wp2_with fail
 refine (HCH.out _ hBW).mono ?_;rintro e w2 ⟨rfl,hb2⟩;clear hRc0 hRf0 hRc1 hRf1;clear hPc0 hPf0 hPc1 hPf1 hPc2 hPf2;replace hO:=hO.after hb2;replace hBW:=bt hBW hb2;clear hb2 hR hP hT;have hOl:=hO.lt;obtain ⟨hOc0,hOf0,hOc1,hOf1,hOc2,hOf2⟩:=hO.x3;go_wp2;refine bodyPost_ret (v:=.tuple #[.slice none 0 0,.slice none 0 0,.agg #[.slice none 0 0,.string ⟨#[]⟩,.int .i64 0],.int .i64 k]) ?_ rfl (cmpost_err rfl rfl (((hBW.setCell hge _).setCell hge _).setCell hge _));simp [results,Tryz.results40,go_sem,hOc0,hOc1,hOc2,hOl]
theorem rcommit_num (att:Att) (N:NSta) (C K:Nat) (T:Tp) (v1 v2 v3 vt:Value) (w:World) (hat:RAtt att T.seed) (hok:T.Ok) (hC:C<256^16) (hK:K<256^16) (hm:NOk N) (hS:NAt w v1 v2 v3 N) (h0:N.chk=0)
  (hch:∀w',Below w.heap.size w w'→Calls Tryz.prog 14 #[.agg #[.string (E C),.string (E K)],.agg #[v1,v2,v3]] w' (B2Post w' (N.lims C K))) (hV:SsAt w vt T.vals) :
  Calls Tryz.prog 40 #[.agg #[.string (E C),.string (E K)],.agg #[v1,v2,v3],.agg #[vt,.string T.seed,.int .i64 T.pos]] w (CMPost w vt (N.drwR att C K T) (N.fstR (N.drwR att C K T))):=by
 obtain ⟨i1,hi1,hz10,hz11,hz12⟩:=info_parts info_Int;have HI1:=Lib.hid hi1;have HA1:=Lib.hid hz10;have HB1:=Lib.hid hz11;have HC1:=Lib.hid hz12;clear hi1 hz10 hz11 hz12;have HCH:=Lib.hid hch;have HAT:=Lib.hid hat;have HOK:=Lib.hid hok;have HLT:=Lib.hid (fun b hb=>lims1_lt hm hC hK (b:=b) hb)
 have HIM:Hid ((N.drwR att C K T).err=0→∀(vz:Value) w',Below w.heap.size w w'→ZsAt w' vz (N.drwR att C K T).msk→Calls Tryz.prog 67 #[.agg #[v1,v2,v3],vz] w' (LPost w' (N.imgs (N.drwR att C K T).msk))):=fun he vz w' hb hz=>by
  obtain ⟨e,ha⟩:=drw_inv he;exact rImages_c N _ v1 v2 v3 vz w' hm (hS.after hb) hz (by rw [e];exact drw_size hm hC hK ha) (by rw [e];simp [NSta.drwL]) h0
 have HF0:Hid ((N.drwR att C K T).err=0→N.fstR (N.drwR att C K T)=N.imgs (N.drwR att C K T).msk):=fun h=>by unfold NSta.fstR;rw [if_pos h]
 have HF1:Hid ((N.drwR att C K T).err≠0→N.fstR (N.drwR att C K T)=[]):=fun h=>by unfold NSta.fstR;rw [if_neg h]
 generalize N.fstR (N.drwR att C K T)=RF at HF0 HF1 ⊢;obtain ⟨RR,hrr⟩:∃r,r=N.drwR att C K T:=⟨_,rfl⟩;have HRR:=Lib.hid hrr;rw [←hrr] at HIM HF0 HF1 ⊢;clear hrr;obtain ⟨a1,c1,a2,c2,a3,c3,rfl,rfl,rfl⟩:=hS.forms;obtain ⟨xt,ct,rfl⟩:=RAt.form hV;obtain ⟨nt,hnt⟩:∃n,n=T.vals.length:=⟨_,rfl⟩;rw [←hnt] at hV ⊢;have hfT:∀g,w.heap.size≤g→FarS (.slice xt nt ct) g:=fun g hg=>ss_far hV hg
 obtain ⟨n1,hn1⟩:∃n,n=N.grps.length:=⟨_,rfl⟩;obtain ⟨n2,hn2⟩:∃n,n=N.vars.length:=⟨_,rfl⟩;obtain ⟨n3,hn3⟩:∃n,n=N.eqs.length:=⟨_,rfl⟩;have HN2:=Lib.hid hn2;have l2:n2≤12:=by rw [hn2];exact hm.nv
 rw [←hn1,←hn2,←hn3] at hS HCH HIM ⊢;clear hm hn1 hn2 hn3 hC hK hch h0 hat hok hnt;obtain ⟨hQ,hP,hT,hR,hBW⟩:=blk4 w #[.string (E C),.string (E K)] #[.slice a1 n1 c1,.slice a2 n2 c2,.slice a3 n3 c3] #[.slice xt nt ct,.string T.seed,.int .i64 T.pos] #[.slice none 0 0,.string ⟨#[]⟩,.int .i64 0] 24 29 41 41;have hV1:=SsAt.after hV hBW;go_enter Tryz.func40,Tryz.ntmps40
 go_upto_region 1 with fail
 generalize (((w.alloc (.cells #[.string (E C),.string (E K)] 24)).alloc (.cells #[.slice a1 n1 c1,.slice a2 n2 c2,.slice a3 n3 c3] 29)).alloc (.cells #[.slice xt nt ct,.string T.seed,.int .i64 T.pos] 41)).alloc (.cells #[.slice none 0 0,.string ⟨#[]⟩,.int .i64 0] 41)=w1 at hQ hP hT hR hBW hV1 ⊢;obtain ⟨gQ,hgQ⟩:∃g,w.heap.size=g:=⟨_,rfl⟩;obtain ⟨gS,hgS⟩:∃g,w.heap.size+1=g:=⟨_,rfl⟩;obtain ⟨gT,hgT⟩:∃g,w.heap.size+1+1=g:=⟨_,rfl⟩;obtain ⟨gR,hgR⟩:∃g,w.heap.size+1+1+1=g:=⟨_,rfl⟩;rw [hgR,hgT,hgS,hgQ];rw [hgQ] at hQ;rw [hgS] at hP;rw [hgT] at hT;rw [hgR] at hR;have HGW:Hid (w.heap.size≤gT∧w.heap.size≤gR∧gS≠gT∧gS≠gR∧gT≠gR):=by rw [Hid];omega
 have HFT0:=Lib.hid (hfT gT HGW.out.1);have HFR0:=Lib.hid (hfT gR HGW.out.2.1);clear hgQ hgS hgT hgR hfT;replace hQ:Blk w1 gQ 24 [.string (E C),.string (E K)]:=hQ;replace hP:Blk w1 gS 29 [.slice a1 n1 c1,.slice a2 n2 c2,.slice a3 n3 c3]:=hP;replace hT:Blk w1 gT 41 [.slice xt nt ct,.string T.seed,.int .i64 T.pos]:=hT;replace hR:Blk w1 gR 41 [.slice none 0 0,.string ⟨#[]⟩,.int .i64 0]:=hR;obtain ⟨hQc0,hQf0,hQc1,hQf1⟩:=hQ.x2;obtain ⟨hPc0,hPf0,hPc1,hPf1,hPc2,hPf2⟩:=hP.x3;go_wp2_with fail
 refine (HCH.out _ hBW).mono ?_;rintro e w4 ⟨mv,uv,rfl,hMO,hUO,hb2⟩;clear hQc0 hQf0 hQc1 hQf1;clear hPc0 hPf0 hPc1 hPf1 hPc2 hPf2;have hLs:=hMO.ss
 have hLF:∀g,g<w1.heap.size→FarS mv g:=fun g hg b o n c e hn hb=>by
  have:=(own_lt hMO (g:=b) (by rw [e];rfl)).2;omega
 obtain ⟨u6,c7,rfl⟩:=RAt.form hUO.ss;generalize (((N.lims C K).map (·.2)).map E).length=n7;clear hMO hUO HCH;have HLF:=Lib.hid (And.intro (hLF gT hT.lt) (hLF gR hR.lt));obtain ⟨a6,c6,rfl⟩:=RAt.form hLs;have HUL:Hid ((((N.lims C K).map (·.1)).map E).length=n2):=by rw [Hid,List.length_map,List.length_map,NSta.lims,List.length_map,HN2.out]
 rw [HUL.out] at hLs hLF HLF ⊢;replace hP:=hP.after hb2;replace hT:=hT.after hb2;replace hR:=hR.after hb2;replace hBW:=bt hBW hb2;replace hV1:=SsAt.after hV1 hb2;clear hb2 hQ hLF hV;have HW1:Hid (gS<w4.heap.size∧gT<w4.heap.size∧gR<w4.heap.size):=⟨hP.lt,hT.lt,hR.lt⟩;have HWW:Hid (w.heap.size≤w4.heap.size):=hBW.size;have HLG:Hid (∀g,w4.heap.size≤g→FarS (.slice a6 n2 c6) g):=fun g hg=>ss_far hLs hg
 go_wp2;go_loopw [13,14,15,16] (fun v13 v14 v15 v16 wr=>∃(k:Nat) (uo:Option Addr) (um uc:Nat),k≤n2∧v14=.int .i64 k∧Hid (∀j,j<k→(N.drw att C K T j).1=0)∧ZOwn wr w4.heap.size v13 ((N.drwL att C K T).take k)∧Blk wr gS 29 [.slice a1 n1 c1,.slice a2 n2 c2,.slice a3 n3 c3]∧Blk wr gT 41 [.slice uo um uc,.string T.seed,.int .i64 (T.pos+(k:Int))]∧Blk wr gR 41 [.slice none 0 0,.string ⟨#[]⟩,.int .i64 0]∧SsAt wr (.slice uo um uc) T.vals∧FarS (.slice uo um uc) gT∧FarS (.slice uo um uc) gR∧(∀g,g<w.heap.size→FarS (.slice xt nt ct) g→FarS (.slice uo um uc) g)∧w4.heap.size≤wr.heap.size∧SsAt wr (.slice a6 n2 c6) (((N.lims C K).map (·.1)).map E)∧Below w.heap.size w wr) (fun _ i _ _ _=>n2-(intOf i).toNat)
 case atStart=>exact ⟨0,xt,nt,ct,by omega,rfl,fun j h=>absurd h (Nat.not_lt_zero _),World.ownsRow_nil _ _ _ _,hP,by rw [show T.pos+((0:Nat):Int)=T.pos by omega];exact hT,hR,hV1,HFT0.out,HFR0.out,fun g _ h=>h,Nat.le_refl _,hLs,hBW⟩
 case round =>
  clear hP hT hR hV1 hBW hLs;obtain ⟨k,uo,um,uc,hk,rfl,HAL,hO,hP,hT,hR,hU,hFT,hFR,hFK,HSZ,hLs,hbr⟩:=hrel;obtain ⟨wp,hwp⟩:∃wp,wp=wr:=⟨_,rfl⟩;subst hwp;have HFK:=Lib.hid hFK;clear hFK;by_cases hlt:k<n2
  ·have hkl:k<N.vars.length:=by rw [←HN2.out];exact hlt
   have hkU:k<(((N.lims C K).map (·.1)).map E).length:=by rw [HUL.out];exact hlt
   have HST:=Lib.hid (drw_step N att C K T k hkl);have HDA:=Lib.hid (drw_at N att C K T k hkl);obtain ⟨bv,ov,rfl,hbv,x1⟩:=(hS.after hbr).vat hkl;obtain ⟨bu,ou,rfl,hbu,u1⟩:=SsAt.at_ hLs hkU;rw [show (((N.lims C K).map (·.1)).map E)[k]=E (lim N.ord C K (N.vars[k]'hkl)).1 by simp [NSta.lims]] at u1;have HLV:=Lib.hid (HLT.out _ (List.getElem_mem hkl));have HBD:Hid ((N.drw att C K T k).1≠0→RR=⟨(N.drw att C K T k).1,[],Tp.nil⟩):=fun h=>HRR.out.trans (drw_bad hkl HAL.out h)
   have HGD:Hid ((N.drw att C K T k).1=0→∀j,j<k+1→(N.drw att C K T j).1=0):=fun h j hj=>by
    by_cases e:j=k
    ·rw [e];exact h
    ·exact HAL.out j (by omega)
   clear HAL;generalize N.drw att C K T k=dk at HDA HBD HGD HST;generalize (N.vars[k]'hkl)=vb at x1 u1 HLV HDA;have hLE:Hid (((N.drwL att C K T).take k).length=k):=by rw [Hid,List.length_take,NSta.drwL,List.length_map,List.length_range];omega
   generalize (N.drwL att C K T).take k=LI at hO HST hLE;replace hO:wp.ownsRow w4.heap.size 72 2 u13 k (ics (LI.map zI)):=by have h:wp.ownsRow _ _ _ _ _ _:=hO;rw [hLE.out] at h;exact h
   have h0k:(0:Int)≤(k:Int):=by omega
   have h1k:(k:Int)<(n2:Int):=by omega
   obtain ⟨Tk,hTk⟩:∃t,t=T.on k:=⟨_,rfl⟩;have HTK:Hid (Tk.vals=T.vals∧Tk.seed=T.seed∧Tk.pos=T.pos+(k:Int)):=by rw [Hid,hTk];exact ⟨rfl,rfl,rfl⟩
   have HTN:Hid (Tk.after 0=T.on (k+1)):=by rw [Hid,hTk];exact Tp.on_on T k 1
   have HTO:Hid (Tk.Ok):=by rw [Hid,hTk];exact HOK.out.on k
   have HTA:Hid (RAtt att Tk.seed):=by rw [Hid,hTk];exact HAT.out
   rw [←hTk] at HDA;clear hTk;rw [←HTK.out.1] at hU;have HTE:=Lib.hid HTK.out.2;rw [←HTE.out.1,←HTE.out.2] at hT;clear HTK;have HUX:Hid (FarS (.slice (some ⟨bu,ou,none⟩) n2 c6) wp.heap.size):=ss_far hLs (Nat.le_refl _);have hVA:=Blk.new wp #[.bool false,.string ⟨#[]⟩] 72;have hbV:=b1 wp (.cells #[.bool false,.string ⟨#[]⟩] 72);have hOc:=own_after hO hbV;have hPc:=hP.after hbV;have hTc:=hT.after hbV;have hRc:=hR.after hbV;have hUc:=SsAt.after hU hbV;have hLc:=SsAt.after hLs hbV;have uu1:=(hbV.cell hbu).trans u1;have ku:=Nat.lt_of_lt_of_le hbu hbV.size;have hbx:=bt hbr hbV
   have HNE:Hid (gS≠wp.heap.size∧gT≠wp.heap.size∧gR≠wp.heap.size):=by
    have h1:=HW1.out;rw [Hid];omega
   have HOB:Hid (u13.ownBlock≠some wp.heap.size∧u13.ownBlock≠some gT∧u13.ownBlock≠some gR∧∀g,u13.ownBlock=some g→g<wp.heap.size):=by
    have h1:=HW1.out;refine ⟨fun e=>?_,fun e=>?_,fun e=>?_,fun g e=>?_⟩ <;> have h4:=own_lt hO e <;> omega
   have HWS:Hid (w4.heap.size≤wp.heap.size):=HSZ;have HWV:Hid (wp.heap.size≤(wp.alloc (.cells #[.bool false,.string ⟨#[]⟩] 72)).heap.size):=hbV.size;have hPl:=hP.lt;by_cases hv0:vb=0
   ·have hzv:=zE hv0;have HDK:Hid (dk=((coin att Tk (lim N.ord C K vb).1).1,((coin att Tk (lim N.ord C K vb).1).2:Int))):=by rw [Hid,HDA.out,drwJ,if_pos hv0]
    generalize (lim N.ord C K vb).1=mk at uu1 HDK HLV;have HSG:Hid (∀w',Below (wp.alloc (.cells #[.bool false,.string ⟨#[]⟩] 72)).heap.size (wp.alloc (.cells #[.bool false,.string ⟨#[]⟩] 72)) w'→Calls Tryz.prog 92 #[.agg #[.slice uo um uc,.string Tk.seed,.int .i64 Tk.pos],.string (E mk)] w' (CPost w' Tk (coin att Tk mk))):=fun w' hb=>rbelow_v att Tk _ mk w' HTA.out HTO.out (Nat.lt_of_lt_of_le HLV.out (Nat.pow_le_pow_right (by decide) (by decide))) (SsAt.after hUc hb)
    generalize coin att Tk mk=rc at HSG HDK;obtain ⟨ke,xe⟩:=rc;have HZ:Hid (dk.1=ke∧zI dk.2=(false,E xe)):=by rw [Hid,HDK.out];exact ⟨rfl,by simp [zI,sg_nat]⟩
    clear hv0;obtain ⟨hPc0,hPf0,hPc1,hPf1,hPc2,hPf2⟩:=hP.x3;go_upto_region 11 with fail
    clear hPc0 hPf0 hPc1 hPf1 hPc2 hPf2;clear HDK HDA HLV HTA HTO hP hT hR hU hO hLs hbr x1 u1 hbv hbu hPl hbV HSZ hzv;generalize wp.alloc (.cells #[.bool false,.string ⟨#[]⟩] 72)=wv at hVA hOc hPc hTc hRc hUc hLc uu1 ku hbx HSG HWV ⊢;generalize wp.heap.size=gB at hVA HUX HNE HOB HWS HWV ⊢;replace hVA:Blk wv gB 72 [.bool false,.string ⟨#[]⟩]:=hVA;obtain ⟨T1,hT1⟩:∃t,t=Tk.after ke:=⟨_,rfl⟩;have HT1:=Lib.hid hT1;clear hT1;have hP0:=hPc.drew;have hT0:=hTc.drew;have hR0:=hRc.drew;have hB0:=hVA.drew;have hO0:wv.drew.ownsRow w4.heap.size 72 2 u13 k (ics (LI.map zI)):=World.ownsRow.drew hOc;have hL0:SsAt wv.drew (.slice (some ⟨bu,ou,none⟩) n2 c6) (((N.lims C K).map (·.1)).map E):=SsAt.after hLc (Below.drew (Below.refl _ _));have hbx0:=hbx.drew;have uu0:wv.drew.cell? ⟨bu,ou+k,none⟩=some (.string (E mk)):=uu1;have ku0:bu<wv.drew.heap.size:=ku;have hTl:gT<wv.drew.heap.size:=hTc.lt;have hBl:gB<wv.drew.heap.size:=hVA.lt;have HRl:Hid (gR<wv.drew.heap.size):=hRc.lt;have HWS0:Hid (w4.heap.size≤wv.drew.heap.size):=Nat.le_trans HWS.out HWV.out;have HWD:Hid (Below wv.heap.size wv wv.drew):=Below.drew (Below.refl _ _);have e1:¬ gT=gB:=HNE.out.2.1;have e2:¬ gB=gT:=fun e=>HNE.out.2.1 e.symm
    have HGB:Hid (w.heap.size≤gB∧∀g,g<w.heap.size→g<wv.drew.heap.size):=⟨Nat.le_trans HWW.out HWS.out,fun g hg=>Nat.lt_of_lt_of_le hg hbx0.size⟩;have HOV:Hid (∀g,u13.ownBlock=some g→g<wv.drew.heap.size):=fun g hg=>Nat.lt_of_lt_of_le (HOB.out.2.2.2 g hg) HWV.out
    clear hPc hTc hRc hVA hOc hbx uu1 ku HWV hUc hLc;obtain ⟨hT0c0,hT0f0,hT0c1,hT0f1,hT0c2,hT0f2⟩:=hT0.x3;obtain ⟨hB0c0,hB0f0,hB0c1,hB0f1⟩:=hB0.x2;go_cut [16] from 30 to 73 (fun s16 wx=>s16=.int .i64 (ke:Int)∧∃(uo:Option Addr) (um uc:Nat),Blk wx gT 41 [.slice uo um uc,.string T1.seed,.int .i64 T1.pos]∧Blk wx gB 72 [.bool false,.string (E xe)]∧Blk wx gS 29 [.slice a1 n1 c1,.slice (some ⟨bv,ov,none⟩) n2 c2,.slice a3 n3 c3]∧Blk wx gR 41 [.slice none 0 0,.string ⟨#[]⟩,.int .i64 0]∧SsAt wx (.slice uo um uc) T1.vals∧FarS (.slice uo um uc) gT∧FarS (.slice uo um uc) gR∧(∀g,g<w.heap.size→FarS (.slice uo um uc) g)∧(∀g,u13.ownBlock=some g→FarS (.slice uo um uc) g)∧wx.ownsRow w4.heap.size 72 2 u13 k (ics (LI.map zI))∧SsAt wx (.slice (some ⟨bu,ou,none⟩) n2 c6) (((N.lims C K).map (·.1)).map E)∧Below w.heap.size w wx∧Hid (gB<wx.heap.size))
    case first =>
     go_region_with (go_at_call 92;(with_reducible refine (HSG.out _ HWD.out).mono ?_);rintro e wd ⟨t,rfl,⟨u,rfl,hUd⟩,hFd,hbd⟩;obtain ⟨xo,xc,rfl⟩:=RAt.form hUd;have hTd:=hT0.after hbd;have hBd:=hB0.after hbd;have hRd:=hR0.after hbd;have hPd:=hP0.after hbd;have hOd:=own_after hO0 hbd;have hLd:=SsAt.after hL0 hbd;have hBW:=bt hbx0 hbd;have hTd0:=hTd.cell 0;have hTd1:=hTd.cell 1;have hTd2:=hTd.cell 2;have hTf0:=hTd.free 0;have hTf1:=hTd.free 1;have hTf2:=hTd.free 2;have hBd0:=hBd.cell 0;have hBd1:=hBd.cell 1;have hBf0:=hBd.free 0;have hBf1:=hBd.free 1;have hTdl:=hTd.lt;have hBdl:=hBd.lt)
     all_goals
      go_wp2_with fail
      go_meet
      have fT:=hFd.far hTl;have fB:=hFd.far hBl;rw [HT1.out];exact ⟨rfl,xo,_,xc,(((hTd.other _ _ HNE.out.2.1).set 0 _).set 1 _).set 2 _,(((hBd.set 1 _).other _ _ e2).other _ _ e2).other _ _ e2,(((hPd.other _ _ HNE.out.1).other _ _ HGW.out.2.2.1).other _ _ HGW.out.2.2.1).other _ _ HGW.out.2.2.1,(((hRd.other _ _ HNE.out.2.2).other _ _ HGW.out.2.2.2.2.symm).other _ _ HGW.out.2.2.2.2.symm).other _ _ HGW.out.2.2.2.2.symm,(((hUd.set_far fB).set_far fT).set_far fT).set_far fT,fT,hFd.far HRl.out,fun g hg=>hFd.far (HGB.out.2 g hg),fun g hg=>hFd.far (HOV.out g hg),own_set (own_set (own_set (own_set hOd HOB.out.1) HOB.out.2.1) HOB.out.2.1) HOB.out.2.1,(((hLd.set_far HUX.out).set_far HLF.out.1).set_far HLF.out.1).set_far HLF.out.1,(((hBW.setCell HGB.out.1 _).setCell HGW.out.1 _).setCell HGW.out.1 _).setCell HGW.out.1 _,by simp only [Hid,World.size_setCell];exact hBdl⟩
    case rest =>
    clear hP0 hT0 hR0 hB0 hO0 hL0 hbx0 uu0 ku0 hTl hBl HRl HWS0 HWD e1 e2 HSG hT0c0 hT0f0 hT0c1 hT0f1 hT0c2 hT0f2 hB0c0 hB0f0 hB0c1 hB0f1;obtain ⟨rfl,xo,xm,xc,hT,hB,hP,hR,hU,hFT,hFR,hFK,hFO,hO,hLs,hbx,HSZ⟩:=hcut;have HFK2:=Lib.hid hFK;clear hFK;obtain ⟨wy,hwy⟩:∃wy,wy=wc:=⟨_,rfl⟩;subst hwy;by_cases hke:ke=0
    ·subst hke;have HGD2:=Lib.hid (HGD.out HZ.out.1);clear HGD HBD;rw [HTN.out] at HT1;have HTV:Hid (T1.vals=T.vals∧T1.seed=T.seed∧T1.pos=T.pos+((k+1:Nat):Int)):=by rw [Hid,HT1.out];exact ⟨rfl,rfl,rfl⟩
     rw [HTV.out.1] at hU;have HTW:=Lib.hid HTV.out.2;rw [HTW.out.1,HTW.out.2] at hT;clear HTV HT1 HTW;have hBl:=hB.lt;have hsz8:=HWS.out;obtain ⟨hBc0,hBf0,hBc1,hBf1⟩:=hB.x2;go_wp2_with (at_builtin;refine wpList_append_lies _ rfl (.tmp 70) (.tmp 72) _ rfl w4.heap.size 72 i1 _ 2 24 Tryz.underlying39 HI1.out HA1.out HB1.out HC1.out rfl (by omega) u13 k (ics (LI.map zI)) rfl (own_after hO (b1 _ (.cells #[.bool false,.string (E xe)] 72))) ⟨(wy).heap.size,0,none⟩ 1 1 [.bool false,.string (E xe)] rfl rfl (Blk.new (wy) #[.bool false,.string (E xe)] 72).cells (by simp [Value.oneCell']) (by omega) (by simp only [maxLen];omega) (by omega) (by rw [World.size_alloc];omega) ((wy).heap.size+1) (by simp) ?_;intro ga ca' wz hown hgrow hat hlt2)
     have hOA:ZOwn wz w4.heap.size (.slice (some ⟨ga,0,none⟩) (k+1) ca') (LI++[dk.2]):=by
      rw [ZOwn,List.length_append,hLE.out,←ics_app];have h:ics [zI dk.2]=[.bool false,.string (E xe)]:=by rw [HZ.out.2];rfl
      rw [List.map_cons,List.map_nil,h];exact hown
     rw [←HST.out] at hOA;have hbA:=(ba hbx (.cells #[.bool false,.string (E xe)] 72)).grown hgrow (by have:=hbx.size;rw [World.size_alloc];omega) (fun x hx=>Nat.le_trans HWW.out (own_lt hO hx).2);have hTz:=Blk.grown (hT.alloc (.cells #[.bool false,.string (E xe)] 72)) hgrow HOB.out.2.1;have hRz:=Blk.grown (hR.alloc (.cells #[.bool false,.string (E xe)] 72)) hgrow HOB.out.2.2.1;have hPz:=Blk.grown (hP.alloc (.cells #[.bool false,.string (E xe)] 72)) hgrow (fun e=>by have h1:=(own_lt hO e).2;have h2:=HW1.out;omega);have hUz:=SsAt.grown (SsAt.after hU (b1 wy (.cells #[.bool false,.string (E xe)] 72))) hgrow hFO;have hLz:=SsAt.grown (SsAt.after hLs (b1 wy (.cells #[.bool false,.string (E xe)] 72))) hgrow (fun g hg=>HLG.out g (own_lt hO hg).2);have hsz9:w4.heap.size≤wz.heap.size:=by have h:=hgrow.size;rw [World.size_alloc] at h;omega
     clear hown hgrow hat hlt2 hO hB hbx hT hR hP hU hsz8 hLs;go_wp2;go_roundw
     case rel=>exact ⟨k+1,xo,xm,xc,by omega,by go_num,HGD2.out,hOA,hPz,hTz,hRz,hUz,hFT,hFR,fun g hg _=>HFK2.out g hg,hsz9,hLz,hbA⟩
     case measure=>simp [intOf];omega
    ·have hkb:((ke:Int) != 0)=true:=by rw [bne_iff_ne];omega
     have HX:=Lib.hid (HBD.out (by rw [HZ.out.1];exact hke));rw [HZ.out.1] at HX;have HFF:Hid (RF=[]):=HF1.out (by rw [HX.out];exact hke);clear hke HBD HGD hT hB hP hU hFT hFR hFO hO hLs;have hRl:=hR.lt;obtain ⟨hRc0,hRf0,hRc1,hRf1,hRc2,hRf2⟩:=hR.x3;go_wp2;refine bodyPost_ret (v:=.tuple #[.slice none 0 0,.slice none 0 0,.agg #[.slice none 0 0,.string ⟨#[]⟩,.int .i64 0],.int .i64 (ke:Int)]) ?_ rfl (cmpost_err HX.out HFF.out (((hbx.setCell HGW.out.2.1 _).setCell HGW.out.2.1 _).setCell HGW.out.2.1 _));simp [results,Tryz.results40,go_sem,hRc0,hRc1,hRc2,hRl]
   ·have hzv:=nzE (Nat.pos_of_ne_zero hv0);have HDK:Hid (dk=csgn att Tk (lim N.ord C K vb).1):=by rw [Hid,HDA.out,drwJ,if_neg hv0]
    generalize (lim N.ord C K vb).1=mk at uu1 HDK HLV;have HSG:Hid (∀w',Below (wp.alloc (.cells #[.bool false,.string ⟨#[]⟩] 72)).heap.size (wp.alloc (.cells #[.bool false,.string ⟨#[]⟩] 72)) w'→Calls Tryz.prog 93 #[.agg #[.slice uo um uc,.string Tk.seed,.int .i64 Tk.pos],.string (E mk)] w' (SCPost w' Tk (csgn att Tk mk))):=fun w' hb=>rsigned_v att Tk _ mk w' HTA.out HTO.out HLV.out (SsAt.after hUc hb)
    generalize csgn att Tk mk=rc at HSG HDK;obtain ⟨ke,xe⟩:=rc;have HZ:Hid (dk.1=ke∧zI dk.2=(sg xe,E xe.natAbs)):=by rw [Hid,HDK.out];exact ⟨rfl,rfl⟩
    clear hv0;obtain ⟨hPc0,hPf0,hPc1,hPf1,hPc2,hPf2⟩:=hP.x3;go_upto_region 12 with fail
    clear hPc0 hPf0 hPc1 hPf1 hPc2 hPf2;clear HDK HDA HLV HTA HTO hP hT hR hU hO hLs hbr x1 u1 hbv hbu hPl hbV HSZ hzv;generalize wp.alloc (.cells #[.bool false,.string ⟨#[]⟩] 72)=wv at hVA hOc hPc hTc hRc hUc hLc uu1 ku hbx HSG HWV ⊢;generalize wp.heap.size=gB at hVA HUX HNE HOB HWS HWV ⊢;replace hVA:Blk wv gB 72 [.bool false,.string ⟨#[]⟩]:=hVA;obtain ⟨T1,hT1⟩:∃t,t=Tk.after ke:=⟨_,rfl⟩;have HT1:=Lib.hid hT1;clear hT1;have hP0:=hPc.drew;have hT0:=hTc.drew;have hR0:=hRc.drew;have hB0:=hVA.drew;have hO0:wv.drew.ownsRow w4.heap.size 72 2 u13 k (ics (LI.map zI)):=World.ownsRow.drew hOc;have hL0:SsAt wv.drew (.slice (some ⟨bu,ou,none⟩) n2 c6) (((N.lims C K).map (·.1)).map E):=SsAt.after hLc (Below.drew (Below.refl _ _));have hbx0:=hbx.drew;have uu0:wv.drew.cell? ⟨bu,ou+k,none⟩=some (.string (E mk)):=uu1;have ku0:bu<wv.drew.heap.size:=ku;have hTl:gT<wv.drew.heap.size:=hTc.lt;have hBl:gB<wv.drew.heap.size:=hVA.lt;have HRl:Hid (gR<wv.drew.heap.size):=hRc.lt;have HWS0:Hid (w4.heap.size≤wv.drew.heap.size):=Nat.le_trans HWS.out HWV.out;have HWD:Hid (Below wv.heap.size wv wv.drew):=Below.drew (Below.refl _ _);have e1:¬ gT=gB:=HNE.out.2.1;have e2:¬ gB=gT:=fun e=>HNE.out.2.1 e.symm
    have HGB:Hid (w.heap.size≤gB∧∀g,g<w.heap.size→g<wv.drew.heap.size):=⟨Nat.le_trans HWW.out HWS.out,fun g hg=>Nat.lt_of_lt_of_le hg hbx0.size⟩;have HOV:Hid (∀g,u13.ownBlock=some g→g<wv.drew.heap.size):=fun g hg=>Nat.lt_of_lt_of_le (HOB.out.2.2.2 g hg) HWV.out
    clear hPc hTc hRc hVA hOc hbx uu1 ku HWV hUc hLc;obtain ⟨hT0c0,hT0f0,hT0c1,hT0f1,hT0c2,hT0f2⟩:=hT0.x3;obtain ⟨hB0c0,hB0f0,hB0c1,hB0f1⟩:=hB0.x2;go_cut [16] from 30 to 73 (fun s16 wx=>s16=.int .i64 (ke:Int)∧∃(uo:Option Addr) (um uc:Nat),Blk wx gT 41 [.slice uo um uc,.string T1.seed,.int .i64 T1.pos]∧Blk wx gB 72 [.bool (sg xe),.string (E xe.natAbs)]∧Blk wx gS 29 [.slice a1 n1 c1,.slice (some ⟨bv,ov,none⟩) n2 c2,.slice a3 n3 c3]∧Blk wx gR 41 [.slice none 0 0,.string ⟨#[]⟩,.int .i64 0]∧SsAt wx (.slice uo um uc) T1.vals∧FarS (.slice uo um uc) gT∧FarS (.slice uo um uc) gR∧(∀g,g<w.heap.size→FarS (.slice uo um uc) g)∧(∀g,u13.ownBlock=some g→FarS (.slice uo um uc) g)∧wx.ownsRow w4.heap.size 72 2 u13 k (ics (LI.map zI))∧SsAt wx (.slice (some ⟨bu,ou,none⟩) n2 c6) (((N.lims C K).map (·.1)).map E)∧Below w.heap.size w wx∧Hid (gB<wx.heap.size))
    case first =>
     go_region_with (go_at_call 93;(with_reducible refine (HSG.out _ HWD.out).mono ?_);rintro e wd ⟨t,rfl,⟨u,rfl,hUd⟩,hFd,hbd⟩;obtain ⟨xo,xc,rfl⟩:=RAt.form hUd;have hTd:=hT0.after hbd;have hBd:=hB0.after hbd;have hRd:=hR0.after hbd;have hPd:=hP0.after hbd;have hOd:=own_after hO0 hbd;have hLd:=SsAt.after hL0 hbd;have hBW:=bt hbx0 hbd;have hTd0:=hTd.cell 0;have hTd1:=hTd.cell 1;have hTd2:=hTd.cell 2;have hTf0:=hTd.free 0;have hTf1:=hTd.free 1;have hTf2:=hTd.free 2;have hBd0:=hBd.cell 0;have hBd1:=hBd.cell 1;have hBf0:=hBd.free 0;have hBf1:=hBd.free 1;have hTdl:=hTd.lt;have hBdl:=hBd.lt)
     all_goals
      go_wp2_with fail
      go_meet
      have fT:=hFd.far hTl;have fB:=hFd.far hBl;rw [HT1.out];exact ⟨rfl,xo,_,xc,((((hTd.other _ _ HNE.out.2.1).other _ _ HNE.out.2.1).set 0 _).set 1 _).set 2 _,((((hBd.set 0 _).set 1 _).other _ _ e2).other _ _ e2).other _ _ e2,((((hPd.other _ _ HNE.out.1).other _ _ HNE.out.1).other _ _ HGW.out.2.2.1).other _ _ HGW.out.2.2.1).other _ _ HGW.out.2.2.1,((((hRd.other _ _ HNE.out.2.2).other _ _ HNE.out.2.2).other _ _ HGW.out.2.2.2.2.symm).other _ _ HGW.out.2.2.2.2.symm).other _ _ HGW.out.2.2.2.2.symm,((((hUd.set_far fB).set_far fB).set_far fT).set_far fT).set_far fT,fT,hFd.far HRl.out,fun g hg=>hFd.far (HGB.out.2 g hg),fun g hg=>hFd.far (HOV.out g hg),own_set (own_set (own_set (own_set (own_set hOd HOB.out.1) HOB.out.1) HOB.out.2.1) HOB.out.2.1) HOB.out.2.1,((((hLd.set_far HUX.out).set_far HUX.out).set_far HLF.out.1).set_far HLF.out.1).set_far HLF.out.1,((((hBW.setCell HGB.out.1 _).setCell HGB.out.1 _).setCell HGW.out.1 _).setCell HGW.out.1 _).setCell HGW.out.1 _,by simp only [Hid,World.size_setCell];exact hBdl⟩
    case rest =>
    clear hP0 hT0 hR0 hB0 hO0 hL0 hbx0 uu0 ku0 hTl hBl HRl HWS0 HWD e1 e2 HSG hT0c0 hT0f0 hT0c1 hT0f1 hT0c2 hT0f2 hB0c0 hB0f0 hB0c1 hB0f1;obtain ⟨rfl,xo,xm,xc,hT,hB,hP,hR,hU,hFT,hFR,hFK,hFO,hO,hLs,hbx,HSZ⟩:=hcut;have HFK2:=Lib.hid hFK;clear hFK;obtain ⟨wy,hwy⟩:∃wy,wy=wc:=⟨_,rfl⟩;subst hwy;by_cases hke:ke=0
    ·subst hke;have HGD2:=Lib.hid (HGD.out HZ.out.1);clear HGD HBD;rw [HTN.out] at HT1;have HTV:Hid (T1.vals=T.vals∧T1.seed=T.seed∧T1.pos=T.pos+((k+1:Nat):Int)):=by rw [Hid,HT1.out];exact ⟨rfl,rfl,rfl⟩
     rw [HTV.out.1] at hU;have HTW:=Lib.hid HTV.out.2;rw [HTW.out.1,HTW.out.2] at hT;clear HTV HT1 HTW;have hBl:=hB.lt;have hsz8:=HWS.out;obtain ⟨hBc0,hBf0,hBc1,hBf1⟩:=hB.x2;go_wp2_with (at_builtin;refine wpList_append_lies _ rfl (.tmp 70) (.tmp 72) _ rfl w4.heap.size 72 i1 _ 2 24 Tryz.underlying39 HI1.out HA1.out HB1.out HC1.out rfl (by omega) u13 k (ics (LI.map zI)) rfl (own_after hO (b1 _ (.cells #[.bool (sg xe),.string (E xe.natAbs)] 72))) ⟨(wy).heap.size,0,none⟩ 1 1 [.bool (sg xe),.string (E xe.natAbs)] rfl rfl (Blk.new (wy) #[.bool (sg xe),.string (E xe.natAbs)] 72).cells (by simp [Value.oneCell']) (by omega) (by simp only [maxLen];omega) (by omega) (by rw [World.size_alloc];omega) ((wy).heap.size+1) (by simp) ?_;intro ga ca' wz hown hgrow hat hlt2)
     have hOA:ZOwn wz w4.heap.size (.slice (some ⟨ga,0,none⟩) (k+1) ca') (LI++[dk.2]):=by
      rw [ZOwn,List.length_append,hLE.out,←ics_app];have h:ics [zI dk.2]=[.bool (sg xe),.string (E xe.natAbs)]:=by rw [HZ.out.2];rfl
      rw [List.map_cons,List.map_nil,h];exact hown
     rw [←HST.out] at hOA;have hbA:=(ba hbx (.cells #[.bool (sg xe),.string (E xe.natAbs)] 72)).grown hgrow (by have:=hbx.size;rw [World.size_alloc];omega) (fun x hx=>Nat.le_trans HWW.out (own_lt hO hx).2);have hTz:=Blk.grown (hT.alloc (.cells #[.bool (sg xe),.string (E xe.natAbs)] 72)) hgrow HOB.out.2.1;have hRz:=Blk.grown (hR.alloc (.cells #[.bool (sg xe),.string (E xe.natAbs)] 72)) hgrow HOB.out.2.2.1;have hPz:=Blk.grown (hP.alloc (.cells #[.bool (sg xe),.string (E xe.natAbs)] 72)) hgrow (fun e=>by have h1:=(own_lt hO e).2;have h2:=HW1.out;omega);have hUz:=SsAt.grown (SsAt.after hU (b1 wy (.cells #[.bool (sg xe),.string (E xe.natAbs)] 72))) hgrow hFO;have hLz:=SsAt.grown (SsAt.after hLs (b1 wy (.cells #[.bool (sg xe),.string (E xe.natAbs)] 72))) hgrow (fun g hg=>HLG.out g (own_lt hO hg).2);have hsz9:w4.heap.size≤wz.heap.size:=by have h:=hgrow.size;rw [World.size_alloc] at h;omega
     clear hown hgrow hat hlt2 hO hB hbx hT hR hP hU hsz8 hLs;go_wp2;go_roundw
     case rel=>exact ⟨k+1,xo,xm,xc,by omega,by go_num,HGD2.out,hOA,hPz,hTz,hRz,hUz,hFT,hFR,fun g hg _=>HFK2.out g hg,hsz9,hLz,hbA⟩
     case measure=>simp [intOf];omega
    ·have hkb:((ke:Int) != 0)=true:=by rw [bne_iff_ne];omega
     have HX:=Lib.hid (HBD.out (by rw [HZ.out.1];exact hke));rw [HZ.out.1] at HX;have HFF:Hid (RF=[]):=HF1.out (by rw [HX.out];exact hke);clear hke HBD HGD hT hB hP hU hFT hFR hFO hO hLs;have hRl:=hR.lt;obtain ⟨hRc0,hRf0,hRc1,hRf1,hRc2,hRf2⟩:=hR.x3;go_wp2;refine bodyPost_ret (v:=.tuple #[.slice none 0 0,.slice none 0 0,.agg #[.slice none 0 0,.string ⟨#[]⟩,.int .i64 0],.int .i64 (ke:Int)]) ?_ rfl (cmpost_err HX.out HFF.out (((hbx.setCell HGW.out.2.1 _).setCell HGW.out.2.1 _).setCell HGW.out.2.1 _));simp [results,Tryz.results40,go_sem,hRc0,hRc1,hRc2,hRl]
  ·obtain rfl:n2=k:=by omega
   have HTK:Hid ((N.drwL att C K T).take n2=N.drwL att C K T):=List.take_of_length_le (by rw [NSta.drwL,List.length_map,List.length_range,←HN2.out];exact Nat.le_refl _);have HX:Hid (RR=⟨0,N.drwL att C K T,T.on n2⟩):=by rw [Hid,HRR.out,drw_ok (fun j hj=>HAL.out j (by rw [HN2.out];exact hj)),HN2.out]
   rw [HTK.out] at hO;have HLn:Hid ((N.drwL att C K T).length=n2):=by rw [Hid,NSta.drwL,List.length_map,List.length_range,HN2.out]
   have HIM2:Hid (∀(vz:Value) w',Below w.heap.size w w'→ZsAt w' vz (N.drwL att C K T)→Calls Tryz.prog 67 #[.agg #[.slice a1 n1 c1,.slice a2 n2 c2,.slice a3 n3 c3],vz] w' (LPost w' (N.imgs (N.drwL att C K T)))):=by
    have h:=HIM.out;rw [HX.out] at h;exact h rfl
   have HFF:Hid (RF=N.imgs (N.drwL att C K T)):=by
    have h:=HF0.out;rw [HX.out] at h;exact h rfl
   clear HIM HF0 HF1 HTK;generalize N.drwL att C K T=M at hO HX HIM2 HFF HLn;obtain ⟨mo,mc,rfl⟩:=hO.zs.form;rw [HLn.out] at hO ⊢;have HI8:=Lib.hid (HIM2.out _ wp hbr hO.zs);obtain ⟨hPc0,hPf0,hPc1,hPf1,hPc2,hPf2⟩:=hP.x3;go_wp2_with fail
   refine HI8.out.mono ?_;rintro e w9 ⟨fv,rfl,hFO,hb9⟩;clear hPc0 hPf0 hPc1 hPf1 hPc2 hPf2;obtain ⟨fo,fc,rfl⟩:=RAt.form hFO.ss;generalize ((N.imgs M).map E).length=fl at hFO ⊢;have hT9:=hT.after hb9;have hR9:=hR.after hb9;have hM9:ZOwn w9 w.heap.size (.slice mo n2 mc) M:=own_mono (own_after hO hb9) HWW.out;have hU9:=SsAt.after hU hb9;have hF9:NOwn w9 w.heap.size (.slice fo fl fc) (N.imgs M):=own_mono hFO hbr.size;have hbw9:=bt hbr hb9;clear hb9 HI8 hFO hT hR hP hU hbr hO HIM2;have hFo:=own_ne hF9 hR9 (by decide);have hMo:=own_ne hM9 hR9 (by decide);have hTl:=hT9.lt;have hRl:=hR9.lt;have neTR:gT≠gR:=HGW.out.2.2.2.2;have neRT:gR≠gT:=fun e=>neTR e.symm
   obtain ⟨hT9c0,hT9f0,hT9c1,hT9f1,hT9c2,hT9f2⟩:=hT9.x3;obtain ⟨hR9c0,hR9f0,hR9c1,hR9f1,hR9c2,hR9f2⟩:=hR9.x3;go_wp2_with fail
   go_region;go_wp2;refine bodyPost_ret (v:=.tuple #[.slice mo n2 mc,.slice fo fl fc,.agg #[.slice uo um uc,.string T.seed,.int .i64 (T.pos+(n2:Int))],.int .i64 0]) ?_ rfl ?_
   ·simp [results,Tryz.results40,go_sem,hR9c0,hR9c1,hR9c2,hRl,hT9c0,hT9c1,hT9c2,hTl,neTR,neRT]
   ·rw [HFF.out,HX.out];exact ⟨_,_,_,rfl,World.ownsRow.drew (own_set (own_set (own_set hM9 hMo) hMo) hMo),World.ownsRow.drew (own_set (own_set (own_set hF9 hFo) hFo) hFo),SsAt.after (((hU9.set_far hFR).set_far hFR).set_far hFR) (Below.drew (Below.refl _ _)),HFK.out,(((hbw9.setCell HGW.out.2.1 _).setCell HGW.out.2.1 _).setCell HGW.out.2.1 _).drew⟩
end
section
open Go.RowKit Go.Shelf
theorem rsameT_c (T:Tp) (u v:Value) (w:World) (hn:T.vals.length≤1000) (hA:SsAt w u T.vals) (hB:SsAt w v T.vals) :
  Calls Tryz.prog 28 #[.agg #[u,.string T.seed,.int .i64 T.pos],.agg #[v,.string T.seed,.int .i64 T.pos]] w fun e w'=>e=.returned (.bool true)∧Below w.heap.size w w':=by
 obtain ⟨ao,c,rfl⟩:=RAt.form hA;obtain ⟨bo,d,rfl⟩:=RAt.form hB;obtain ⟨V,sd,ti⟩:=T;simp only [] at hn hA hB ⊢;obtain ⟨n,hLn⟩:∃n,V.length=n:=⟨_,rfl⟩;have HLN:=Lib.hid hLn;rw [hLn] at hA hB hn ⊢;clear hLn;have hP:=blk2a w #[.slice ao n c,.string sd,.int .i64 ti] #[.slice bo n d,.string sd,.int .i64 ti] 41 41;have hQ:=blk2b w #[.slice ao n c,.string sd,.int .i64 ti] #[.slice bo n d,.string sd,.int .i64 ti] 41 41;have hBW:=b2 w (.cells #[.slice ao n c,.string sd,.int .i64 ti] 41) (.cells #[.slice bo n d,.string sd,.int .i64 ti] 41);replace hA:=SsAt.after hA hBW;replace hB:=SsAt.after hB hBW;have e0:(ti != ti)=false:=by simp
 have e2:((n:Int) != (n:Int))=false:=by simp
 have e3:(sd.toList != sd.toList)=false:=by simp
 obtain ⟨hPc0,hPf0,hPc1,hPf1,hPc2,hPf2⟩:=hP.x3;obtain ⟨hQc0,hQf0,hQc1,hQf1,hQc2,hQf2⟩:=hQ.x3;go_enter Tryz.func28,Tryz.ntmps28
 go_wp2;clear hPc0 hPf0 hPc1 hPf1 hPc2 hPf2;clear hQc0 hQf0 hQc1 hQf1 hQc2 hQf2;generalize (w.alloc (.cells #[.slice ao n c,.string sd,.int .i64 ti] 41)).alloc (.cells #[.slice bo n d,.string sd,.int .i64 ti] 41)=w1 at hP hQ hA hB hBW ⊢;obtain ⟨gP,hgP⟩:∃g,w.heap.size=g:=⟨_,rfl⟩;obtain ⟨gQ,hgQ⟩:∃g,w.heap.size+1=g:=⟨_,rfl⟩;rw [hgQ,hgP];rw [hgP] at hP;rw [hgQ] at hQ;clear hgP hgQ e0 e2 e3;replace hP:Blk w1 gP 41 [.slice ao n c,.string sd,.int .i64 ti]:=hP;replace hQ:Blk w1 gQ 41 [.slice bo n d,.string sd,.int .i64 ti]:=hQ;go_loopw [5] (fun i wr=>∃k:Nat,k≤n∧i=.int .i64 k∧Below w1.heap.size w1 wr) (fun i _=>n-(intOf i).toNat)
 case atStart=>exact ⟨0,by omega,rfl,Below.refl _ _⟩
 case round =>
  obtain ⟨k,hk,rfl,hbr⟩:=hrel;obtain ⟨wp,hwp⟩:∃wp,wp=wr:=⟨_,rfl⟩;subst hwp;replace hA:=SsAt.after hA hbr;replace hB:=SsAt.after hB hbr;replace hP:=hP.after hbr;replace hQ:=hQ.after hbr;by_cases hlt:k<n
  ·have hkl:k<V.length:=by rw [HLN.out];exact hlt
   obtain ⟨b,o,rfl,l1,x1⟩:=SsAt.at_ hA hkl;obtain ⟨b',o',rfl,l2,y1⟩:=SsAt.at_ hB hkl;generalize V[k]'hkl=z at x1 y1;have h0k:(0:Int)≤(k:Int):=by omega
   have h1k:(k:Int)<(n:Int):=by omega
   have g1:=gcl (a:=⟨b,o+k,none⟩) l1 x1;have g2:=gcl (a:=⟨b',o'+k,none⟩) l2 y1;have z1:(z.toList != z.toList)=false:=by simp
   clear x1 y1 hA hB;obtain ⟨hPc0,hPf0,hPc1,hPf1,hPc2,hPf2⟩:=hP.x3;obtain ⟨hQc0,hQf0,hQc1,hQf1,hQc2,hQf2⟩:=hQ.x3;have hPg0:=hP.gcell 0;have hPg1:=hP.gcell 1;have hPg2:=hP.gcell 2;have hQg0:=hQ.gcell 0;have hQg1:=hQ.gcell 1;have hQg2:=hQ.gcell 2;go_upto_region 6 with fail
   go_wp2_with fail
   refine wp_region_gw (by kernel_rfl) (by kernel_rfl) ?_;repeat (go_big_quiet_step (first | (fail)))
   refine wpQuiet_nil ?_;rintro w2 ⟨xw2,rfl⟩;have hb2:=gw_below xw2;generalize gw xw2=w2 at hb2;go_wp2;go_roundw
   case rel=>exact ⟨k+1,by omega,by go_num,bt hbr hb2⟩
   case measure=>simp [intOf];omega
  ·obtain rfl:k=n:=by omega
   obtain ⟨hPc0,hPf0,hPc1,hPf1,hPc2,hPf2⟩:=hP.x3;go_wp2;go_ret
   exact ⟨rfl,bt hBW hbr⟩
theorem drwR_len (N:NSta) (att:Att) (C K:Nat) (T:Tp):(N.drwR att C K T).msk.length≤N.vars.length∧(N.drwR att C K T).tp.vals.length≤T.vals.length:=by
 unfold NSta.drwR NSta.drwL;split
 ·exact ⟨Nat.zero_le _,Nat.zero_le _⟩
 ·exact ⟨by simp,Nat.le_refl _⟩
theorem fstR_len (N:NSta) (R:Drw):(N.fstR R).length≤N.eqs.length:=by
 unfold NSta.fstR;split
 ·simp [NSta.imgs]
 ·exact Nat.zero_le _
theorem commit_all16 (S:Sta) (C K sd:ByteArray) (V:List ByteArray) (ti:Int) (v1 v2 v3 vt:Value) (w:World) (hC:C.size≤16) (hK:K.size≤16) (hf:fewB S=true) (hS:StAt w v1 v2 v3 S)
  (hn:V.length≤100) (hs:∀x∈V,x.size≤100) (hsd:sd.size≤100) (hV:SsAt w vt V) (ht:TabW w) :
  ∃(R:Drw) (F:List Nat),(R.msk.length≤1000∧F.length≤1000∧R.tp.vals.length≤1000)∧(∀w',Below w.heap.size w w'→Calls Tryz.prog 39 #[.agg #[.string C,.string K],.agg #[v1,v2,v3],.agg #[vt,.string sd,.int .i64 ti]] w' (CMPost w' vt R F)) ∧
   (∀w',Below w.heap.size w w'→Calls Tryz.prog 40 #[.agg #[.string C,.string K],.agg #[v1,v2,v3],.agg #[vt,.string sd,.int .i64 ti]] w' (CMPost w' vt R F)):=by
 obtain ⟨k,hk,h1,h2⟩ | ⟨N,c,k,rfl,rfl,hc,hk,rfl,hm,h0,c2,k2,hv⟩:=bnd_two S C K v1 v2 v3 w hC hK hf hS
 ·exact ⟨⟨k,[],Tp.nil⟩,[],⟨by simp,by simp,by simp [Tp.nil]⟩,fun w' hb=>scommit_err C K sd v1 v2 v3 vt ti k w' hk (fun w2 hb2=>h1 w2 (bt hb hb2)),fun w' hb=>rcommit_err C K sd v1 v2 v3 vt ti k w' hk (fun w2 hb2=>h2 w2 (bt hb hb2))⟩
 ·have hN:NAt w v1 v2 v3 N:=hS;obtain ⟨T,hT⟩:∃T:Tp,T=⟨V,sd,ti⟩:=⟨_,rfl⟩;have hok:T.Ok:=by rw [hT];exact ⟨hn,hs,hsd⟩
  have e1:V=T.vals:=by rw [hT]
  have e2:sd=T.seed:=by rw [hT]
  have e3:ti=T.pos:=by rw [hT]
  clear hT;subst e1 e2 e3;have l1:=drwR_len N attN c k T;have l2:=fstR_len N (N.drwR attN c k T);have l3:=hm.nv;have l4:=hm.ne;refine ⟨N.drwR attN c k T,N.fstR (N.drwR attN c k T),⟨by omega,by omega,by omega⟩,fun w' hb=>?_,fun w' hb=>?_⟩
  ·exact scommit_num attN N c k T v1 v2 v3 vt w' (hatt T.seed w' (by omega) (ht.after hb)) hok hc hk hm (hN.after hb) h0 (fun w2 hb2=>bounds_ok N c k v1 v2 v3 w2 hc hk c2 k2 hv hm (hN.after (bt hb hb2)) h0) (SsAt.after hV hb)
  ·exact rcommit_num attN N c k T v1 v2 v3 vt w' (ratt T.seed (by omega)) hok hc hk hm (hN.after hb) h0 (fun w2 hb2=>rbounds_ok N c k v1 v2 v3 w2 hc hk c2 k2 hv hm (hN.after (bt hb hb2)) h0) (SsAt.after hV hb)
theorem cm_walk (C K sd:ByteArray) (i:Int) (s1 s2 s3 st:Option Addr) (m1 m2 m3 mt d1 d2 d3 dt:Nat) (w:World) (bf bs:Bool)
  (HF:∀w',Below w.heap.size w w'→Calls Tryz.prog 11 #[.agg #[.string C,.string K],.agg #[.slice s1 m1 d1,.slice s2 m2 d2,.slice s3 m3 d3]] w' fun e w''=>e=.returned (.bool bf)∧Below w'.heap.size w' w'')
  (HS:∀w',Below w.heap.size w w'→Calls Tryz.prog 38 #[.agg #[.slice st mt dt,.string sd,.int .i64 i]] w' fun e w''=>e=.returned (.bool bs)∧Below w'.heap.size w' w'')
  (HV:bf=true→bs=true→∃(R:Drw) (F:List Nat),(R.msk.length≤1000∧F.length≤1000∧R.tp.vals.length≤1000)∧(∀w',Below w.heap.size w w'→Calls Tryz.prog 39 #[.agg #[.string C,.string K],.agg #[.slice s1 m1 d1,.slice s2 m2 d2,.slice s3 m3 d3],.agg #[.slice st mt dt,.string sd,.int .i64 i]] w' (CMPost w' (.slice st mt dt) R F)) ∧
   (∀w',Below w.heap.size w w'→Calls Tryz.prog 40 #[.agg #[.string C,.string K],.agg #[.slice s1 m1 d1,.slice s2 m2 d2,.slice s3 m3 d3],.agg #[.slice st mt dt,.string sd,.int .i64 i]] w' (CMPost w' (.slice st mt dt) R F))) :
  Calls Tryz.prog 10 #[.agg #[.string C,.string K],.agg #[.slice s1 m1 d1,.slice s2 m2 d2,.slice s3 m3 d3],.agg #[.slice st mt dt,.string sd,.int .i64 i]] w fun e w'=>e=.returned (.bool true)∧Below w.heap.size w w':=by
 have HFF:=Lib.hid HF;have HSS:=Lib.hid HS;have HVV:=Lib.hid HV;have hR:=blk3a w #[.string C,.string K] #[.slice s1 m1 d1,.slice s2 m2 d2,.slice s3 m3 d3] #[.slice st mt dt,.string sd,.int .i64 i] 24 29 41;have hP:=blk3b w #[.string C,.string K] #[.slice s1 m1 d1,.slice s2 m2 d2,.slice s3 m3 d3] #[.slice st mt dt,.string sd,.int .i64 i] 24 29 41;have hQ:=blk3c w #[.string C,.string K] #[.slice s1 m1 d1,.slice s2 m2 d2,.slice s3 m3 d3] #[.slice st mt dt,.string sd,.int .i64 i] 24 29 41;have hBW:=b3 w (.cells #[.string C,.string K] 24) (.cells #[.slice s1 m1 d1,.slice s2 m2 d2,.slice s3 m3 d3] 29) (.cells #[.slice st mt dt,.string sd,.int .i64 i] 41);clear HF HS HV;cases bf
 ·skip
  obtain ⟨hRc0,hRf0,hRc1,hRf1⟩:=hR.x2;obtain ⟨hPc0,hPf0,hPc1,hPf1,hPc2,hPf2⟩:=hP.x3;obtain ⟨hQc0,hQf0,hQc1,hQf1,hQc2,hQf2⟩:=hQ.x3;go_enter Tryz.func10,Tryz.ntmps10
  go_wp2_with fail
  refine (HFF.out _ hBW).mono ?_;rintro e w2 ⟨rfl,hb⟩;clear hRc0 hRf0 hRc1 hRf1;clear hPc0 hPf0 hPc1 hPf1 hPc2 hPf2;clear hQc0 hQf0 hQc1 hQf1 hQc2 hQf2;replace hR:=hR.after hb;replace hP:=hP.after hb;replace hQ:=hQ.after hb;replace hBW:=bt hBW hb;clear hb;obtain ⟨hRc0,hRf0,hRc1,hRf1⟩:=hR.x2;obtain ⟨hPc0,hPf0,hPc1,hPf1,hPc2,hPf2⟩:=hP.x3;obtain ⟨hQc0,hQf0,hQc1,hQf1,hQc2,hQf2⟩:=hQ.x3;go_wp2_with fail
  refine (awake_c _).mono ?_;rintro e w9 ⟨rfl,hb9⟩;go_wp2;go_ret
  exact ⟨rfl,bt hBW hb9⟩
 cases bs
 ·skip
  obtain ⟨hRc0,hRf0,hRc1,hRf1⟩:=hR.x2;obtain ⟨hPc0,hPf0,hPc1,hPf1,hPc2,hPf2⟩:=hP.x3;obtain ⟨hQc0,hQf0,hQc1,hQf1,hQc2,hQf2⟩:=hQ.x3;go_enter Tryz.func10,Tryz.ntmps10
  go_wp2_with fail
  refine (HFF.out _ hBW).mono ?_;rintro e w2 ⟨rfl,hb⟩;clear hRc0 hRf0 hRc1 hRf1;clear hPc0 hPf0 hPc1 hPf1 hPc2 hPf2;clear hQc0 hQf0 hQc1 hQf1 hQc2 hQf2;replace hR:=hR.after hb;replace hP:=hP.after hb;replace hQ:=hQ.after hb;replace hBW:=bt hBW hb;clear hb;obtain ⟨hRc0,hRf0,hRc1,hRf1⟩:=hR.x2;obtain ⟨hPc0,hPf0,hPc1,hPf1,hPc2,hPf2⟩:=hP.x3;obtain ⟨hQc0,hQf0,hQc1,hQf1,hQc2,hQf2⟩:=hQ.x3;go_wp2_with fail
  refine (HSS.out _ hBW).mono ?_;rintro e w3 ⟨rfl,hb⟩;clear hRc0 hRf0 hRc1 hRf1;clear hPc0 hPf0 hPc1 hPf1 hPc2 hPf2;clear hQc0 hQf0 hQc1 hQf1 hQc2 hQf2;replace hR:=hR.after hb;replace hP:=hP.after hb;replace hQ:=hQ.after hb;replace hBW:=bt hBW hb;clear hb;obtain ⟨hRc0,hRf0,hRc1,hRf1⟩:=hR.x2;obtain ⟨hPc0,hPf0,hPc1,hPf1,hPc2,hPf2⟩:=hP.x3;obtain ⟨hQc0,hQf0,hQc1,hQf1,hQc2,hQf2⟩:=hQ.x3;go_wp2_with fail
  refine (awake_c _).mono ?_;rintro e w9 ⟨rfl,hb9⟩;go_wp2;go_ret
  exact ⟨rfl,bt hBW hb9⟩
 obtain ⟨R,F,hlen,hv1,hv2⟩:=HVV.out rfl rfl;obtain ⟨k,L,tD⟩:=R;simp only [] at hlen;have HV1:=Lib.hid hv1;have HV2:=Lib.hid hv2;have HLEN:=Lib.hid hlen;have hkk:((k:Int)==(k:Int))=true:=by simp
 clear hv1 hv2 HVV hlen;obtain ⟨hRc0,hRf0,hRc1,hRf1⟩:=hR.x2;obtain ⟨hPc0,hPf0,hPc1,hPf1,hPc2,hPf2⟩:=hP.x3;obtain ⟨hQc0,hQf0,hQc1,hQf1,hQc2,hQf2⟩:=hQ.x3;go_enter Tryz.func10,Tryz.ntmps10
 go_wp2_with fail
 refine (HFF.out _ hBW).mono ?_;rintro e w2 ⟨rfl,hb⟩;clear hRc0 hRf0 hRc1 hRf1;clear hPc0 hPf0 hPc1 hPf1 hPc2 hPf2;clear hQc0 hQf0 hQc1 hQf1 hQc2 hQf2;replace hR:=hR.after hb;replace hP:=hP.after hb;replace hQ:=hQ.after hb;replace hBW:=bt hBW hb;clear hb;obtain ⟨hRc0,hRf0,hRc1,hRf1⟩:=hR.x2;obtain ⟨hPc0,hPf0,hPc1,hPf1,hPc2,hPf2⟩:=hP.x3;obtain ⟨hQc0,hQf0,hQc1,hQf1,hQc2,hQf2⟩:=hQ.x3;go_wp2_with fail
 refine (HSS.out _ hBW).mono ?_;rintro e w3 ⟨rfl,hb⟩;clear hRc0 hRf0 hRc1 hRf1;clear hPc0 hPf0 hPc1 hPf1 hPc2 hPf2;clear hQc0 hQf0 hQc1 hQf1 hQc2 hQf2;replace hR:=hR.after hb;replace hP:=hP.after hb;replace hQ:=hQ.after hb;replace hBW:=bt hBW hb;clear hb;obtain ⟨hRc0,hRf0,hRc1,hRf1⟩:=hR.x2;obtain ⟨hPc0,hPf0,hPc1,hPf1,hPc2,hPf2⟩:=hP.x3;obtain ⟨hQc0,hQf0,hQc1,hQf1,hQc2,hQf2⟩:=hQ.x3;go_wp2_with fail
 refine (HV1.out _ hBW).mono ?_;rintro e w4 ⟨mv,fv,u,rfl,hM,hF,ht1,_,hb⟩;clear hRc0 hRf0 hRc1 hRf1;clear hPc0 hPf0 hPc1 hPf1 hPc2 hPf2;clear hQc0 hQf0 hQc1 hQf1 hQc2 hQf2;simp only [] at hM ht1 ⊢;have hz1:=ZOwn.zs hM;have hf1:=hF.ss;obtain ⟨a1,c1,rfl⟩:=hz1.form;obtain ⟨fa1,fc1,rfl⟩:=RAt.form hf1;simp only [List.length_map] at hf1 ⊢;obtain ⟨ua1,uc1,rfl⟩:=RAt.form ht1;clear hM hF;replace hR:=hR.after hb;replace hP:=hP.after hb;replace hQ:=hQ.after hb;replace hBW:=bt hBW hb;clear hb;have hX:=Blk.new w4 #[.slice ua1 tD.vals.length uc1,.string tD.seed,.int .i64 tD.pos] 41;have hb:=b1 w4 (.cells #[.slice ua1 tD.vals.length uc1,.string tD.seed,.int .i64 tD.pos] 41);replace hz1:=ZsAt.after hz1 hb;replace hf1:=SsAt.after hf1 hb;replace ht1:=SsAt.after ht1 hb;replace hR:=hR.after hb;replace hP:=hP.after hb;replace hQ:=hQ.after hb;replace hBW:=bt hBW hb;clear hb;obtain ⟨hRc0,hRf0,hRc1,hRf1⟩:=hR.x2;obtain ⟨hPc0,hPf0,hPc1,hPf1,hPc2,hPf2⟩:=hP.x3;obtain ⟨hQc0,hQf0,hQc1,hQf1,hQc2,hQf2⟩:=hQ.x3;go_wp2_with fail
 refine (HV2.out _ hBW).mono ?_;rintro e w5 ⟨mv,fv,u,rfl,hM,hF,ht2,_,hb⟩;clear hRc0 hRf0 hRc1 hRf1;clear hPc0 hPf0 hPc1 hPf1 hPc2 hPf2;clear hQc0 hQf0 hQc1 hQf1 hQc2 hQf2;simp only [] at hM ht2 ⊢;have hz2:=ZOwn.zs hM;have hf2:=hF.ss;obtain ⟨a2,c2,rfl⟩:=hz2.form;obtain ⟨fa2,fc2,rfl⟩:=RAt.form hf2;simp only [List.length_map] at hf2 ⊢;obtain ⟨ua2,uc2,rfl⟩:=RAt.form ht2;clear hM hF hR hP hQ;replace hz1:=ZsAt.after hz1 hb;replace hf1:=SsAt.after hf1 hb;replace ht1:=SsAt.after ht1 hb;replace hX:=hX.after hb;replace hBW:=bt hBW hb;clear hb;have hY:=Blk.new w5 #[.slice ua2 tD.vals.length uc2,.string tD.seed,.int .i64 tD.pos] 41;have hb:=b1 w5 (.cells #[.slice ua2 tD.vals.length uc2,.string tD.seed,.int .i64 tD.pos] 41);replace hz1:=ZsAt.after hz1 hb;replace hf1:=SsAt.after hf1 hb;replace ht1:=SsAt.after ht1 hb;replace hz2:=ZsAt.after hz2 hb;replace hf2:=SsAt.after hf2 hb;replace ht2:=SsAt.after ht2 hb;replace hX:=hX.after hb;replace hBW:=bt hBW hb;clear hb;go_wp2_with fail
 refine (sameInts_c _ _ L _ HLEN.out.1 hz1 hz2).mono ?_;rintro e w6 ⟨rfl,hb⟩;replace hf1:=SsAt.after hf1 hb;replace ht1:=SsAt.after ht1 hb;replace hf2:=SsAt.after hf2 hb;replace ht2:=SsAt.after ht2 hb;replace hX:=hX.after hb;replace hY:=hY.after hb;replace hBW:=bt hBW hb;clear hb hz1 hz2
 have HEQ:Hid (Calls Tryz.prog 15 #[.slice fa1 F.length fc1,.slice fa2 F.length fc2] w6 fun e w'=>e=.returned (.bool true)∧Below w6.heap.size w6 w'):=by
  have h:=eqNat_c F F _ _ w6 HLEN.out.2.1 HLEN.out.2.1 hf1 hf2;rwa [decide_eq_true (rfl:F=F)] at h
 go_wp2_with fail
 refine HEQ.out.mono ?_;rintro e w7 ⟨rfl,hb⟩;replace ht1:=SsAt.after ht1 hb;replace ht2:=SsAt.after ht2 hb;replace hX:=hX.after hb;replace hY:=hY.after hb;replace hBW:=bt hBW hb;clear hb hf1 hf2 HEQ;have HSM:=Lib.hid (rsameT_c tD _ _ w7 HLEN.out.2.2 ht1 ht2);clear ht1 ht2;obtain ⟨hXc0,hXf0,hXc1,hXf1,hXc2,hXf2⟩:=hX.x3;obtain ⟨hYc0,hYf0,hYc1,hYf1,hYc2,hYf2⟩:=hY.x3;go_wp2_with fail
 refine HSM.out.mono ?_;rintro e w8 ⟨rfl,hb⟩;clear hXc0 hXf0 hXc1 hXf1 hXc2 hXf2;clear hYc0 hYf0 hYc1 hYf1 hYc2 hYf2;replace hBW:=bt hBW hb;clear hb hX hY HSM;go_wp2_with fail
 refine (awake_c _).mono ?_;rintro e w9 ⟨rfl,hb9⟩;go_wp2;go_ret
 exact ⟨rfl,bt hBW hb9⟩
end
end Go.Proofs.YtcfjcenmcpankaaGreatDoor
