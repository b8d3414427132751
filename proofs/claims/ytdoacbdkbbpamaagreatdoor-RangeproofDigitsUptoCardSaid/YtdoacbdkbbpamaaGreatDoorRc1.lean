import Derived.Test.YtdoacbdkbbpamaaGreatDoorCo4
import Derived.Test.YtdoacbdkbbpamaaGreatDoorHol
import Derived.Test.YtdoacbdkbbpamaaGreatDoorSmT
import Derived.Test.YtdoacbdkbbpamaaGreatDoorHp5
set_option linter.unusedVariables false
set_option linter.unusedSimpArgs false
set_option maxRecDepth 100000
set_option maxHeartbeats 16000000
namespace Go.Proofs.YtdoacbdkbbpamaaGreatDoor
open Go.RowKit Go.Shelf
theorem rgood_v (T:Tp) (v:Value) (w:World) (hok:T.Ok) (hV:SsAt w v T.vals) :
  Calls Tryz.prog 48 #[.agg #[v,.string T.seed,.int .i64 T.pos]] w fun e w'=>e=.returned (.bool T.good)∧Below w.heap.size w w':=by
 obtain ⟨V,sd,ti⟩:=T;have hn:V.length≤100:=hok.n;have hs:∀x∈V,x.size≤100:=hok.s;have HG:Hid (Tp.good ⟨V,sd,ti⟩=(V.all vldB&&(decide (0≤ti)&&decide (ti≤2147483647)))):=rfl;simp only [] at hV ⊢;generalize Tp.good ⟨V,sd,ti⟩=tg at HG ⊢;clear hok;have HVA:Hid (∀k (h:k<V.length) (w:World),Calls Tryz.prog 42 #[.string (V[k]'h)] w fun e w'=>e=.returned (.bool (vldB (V[k]'h)))∧w=w'):=fun k h w=>rvalid_c _ w (by have:=hs _ (List.getElem_mem h);omega)
 obtain ⟨ao,c,rfl⟩:=RAt.form hV;obtain ⟨n,hn'⟩:∃n,n=V.length:=⟨_,rfl⟩;have HN:=Lib.hid hn';rw [←hn'] at hV hn ⊢;clear hn' hs;have hP:=Blk.new w #[.slice ao n c,.string sd,.int .i64 ti] 42;have hBW:=b1 w (.cells #[.slice ao n c,.string sd,.int .i64 ti] 42);obtain ⟨hPc0,hPf0,hPc1,hPf1,hPc2,hPf2⟩:=hP.x3;go_enter Tryz.func48,Tryz.ntmps48
 go_upto_region 2 with fail
 clear hPc0 hPf0 hPc1 hPf1 hPc2 hPf2;replace hV:=SsAt.after hV hBW;generalize w.alloc (.cells #[.slice ao n c,.string sd,.int .i64 ti] 42)=w1 at hP hBW hV ⊢;obtain ⟨g0,hg0⟩:∃g,w.heap.size=g:=⟨_,rfl⟩;rw [hg0] at hP ⊢;replace hP:Blk w1 g0 42 [.slice ao n c,.string sd,.int .i64 ti]:=hP;have HG0:=Lib.hid hg0;clear hg0;go_loopw [3] (fun i wr=>∃k:Nat,k≤n∧i=.int .i64 k∧Hid (∀j (h:j<V.length),j<k→vldB (V[j]'h)=true)∧Below w1.heap.size w1 wr) (fun i _=>n-(intOf i).toNat)
 case atStart=>exact ⟨0,by omega,rfl,fun j _ h=>absurd h (Nat.not_lt_zero _),Below.refl _ _⟩
 case round =>
  obtain ⟨k,hk,rfl,HA,hbr⟩:=hrel;obtain ⟨wp,hwp⟩:∃wp,wp=wr:=⟨_,rfl⟩;subst hwp;have hV1:=SsAt.after hV hbr;have hP1:=hP.after hbr;by_cases hlt:k<n
  ·have hkl:k<V.length:=by rw [←HN.out];exact hlt
   obtain ⟨b,o,rfl,hbl,x1⟩:=SsAt.at_ hV1 hkl;have HV:=Lib.hid (HVA.out k hkl)
   have HX:Hid (vldB (V[k]'hkl)=true→∀j (h:j<V.length),j<k+1→vldB (V[j]'h)=true):=fun hv j h hj=>by
    by_cases e:j=k
    ·subst e;exact hv
    ·exact HA.out j h (by omega)
   have HXF:Hid (vldB (V[k]'hkl)=false→tg=false):=fun hv=>by
    rw [HG.out];cases h:V.all vldB with
    | false=>rfl
    | true=>have:=List.all_eq_true.1 h _ (List.getElem_mem hkl);rw [hv] at this;cases this
   generalize vldB (V[k]'hkl)=bl at HV HX HXF;generalize (V[k]'hkl)=x at x1 HV;have h0k:(0:Int)≤(k:Int):=by omega
   have h1k:(k:Int)<(n:Int):=by omega
   cases bl
   ·have HXG:=Lib.hid (HXF.out rfl);clear HX HXF;have hbrr:=hbr;obtain ⟨hP1c0,hP1f0,hP1c1,hP1f1,hP1c2,hP1f2⟩:=hP1.x3;go_wp2_with fail
    refine (HV.out _).mono ?_;rintro e w2 ⟨rfl,rfl⟩;go_wp2;go_ret
    rw [HXG.out];exact ⟨rfl,bt hBW hbr⟩
   ·have HX2:=Lib.hid (HX.out rfl);clear HX;obtain ⟨hP1c0,hP1f0,hP1c1,hP1f1,hP1c2,hP1f2⟩:=hP1.x3;go_wp2_with fail
    refine (HV.out _).mono ?_;rintro e w2 ⟨rfl,rfl⟩;go_wp2;go_roundw
    case rel=>exact ⟨k+1,by omega,by go_num,HX2,hbr⟩
    case measure=>simp [intOf];omega
  ·have HT:Hid (V.all vldB=true):=by
    rw [Hid,List.all_eq_true];intro x hx;obtain ⟨j,hj,rfl⟩:=List.mem_iff_getElem.1 hx;exact HA.out j hj (by rw [←HN.out] at hj;omega)
   obtain ⟨t1,ht1⟩:∃t:Bool,t=decide (0≤ti):=⟨_,rfl⟩;obtain ⟨t2,ht2⟩:∃t:Bool,t=decide (ti≤2147483647):=⟨_,rfl⟩;have HT1:=Lib.hid ht1;have HT2:=Lib.hid ht2;obtain ⟨hP1c0,hP1f0,hP1c1,hP1f1,hP1c2,hP1f2⟩:=hP1.x3;cases t1
   ·have d1:=HT1.out.symm;clear ht1 ht2;go_wp2;go_ret
    rw [show tg=false by rw [HG.out,HT.out,←HT1.out];rfl];exact ⟨rfl,bt hBW hbr⟩
   ·have d1:=HT1.out.symm;have d2:=ht2.symm;clear ht1 ht2;go_wp2;go_ret
    rw [show tg=t2 by rw [HG.out,HT.out,←HT1.out,←HT2.out];rfl];exact ⟨rfl,bt hBW hbr⟩
theorem ss_app {w:World} {base cap g:Nat} {V:List ByteArray} (h:w.ownsRow base 31 1 (.slice (some ⟨g,0,none⟩) V.length cap) V.length (V.map .string)):SsAt w (.slice (some ⟨g,0,none⟩) V.length cap) V:=by
 refine ⟨_,_,rfl,?_⟩;by_cases h0:V.length=0
 ·exact .inl h0
 ·refine .inr ⟨g,0,rfl,(own_capS h).1,fun j hj=>⟨[.string V[j]],rfl,fun i hi=>?_⟩⟩;obtain rfl:i=0:=by omega
  have:=own_cellS h j (.string V[j]) (by simp [hj]);simpa using this
def RAtt (att:Att) (sd:ByteArray):Prop:=sd.size≠0→∀(p a k:Nat),p≤2147483647→a<256→1≤k→k≤512→att sd p a k<256^64 ∧
 ∀(w:World),Calls Tryz.prog 165 #[.string sd,.int .i64 (p:Int),.int .i64 (a:Int),.int .i64 (k:Int)] w fun e w'=>e=.returned (.string (E (att sd p a k)))∧Below w.heap.size w w'
set_option exponentiation.threshold 600 in
theorem rdraw_v (att:Att) (T:Tp) (v:Value) (n:Nat) (w:World) (hat:RAtt att T.seed) (hok:T.Ok) (hg:T.good=true) (h1:1≤n) (h2:n<256^64) (hV:SsAt w v T.vals) :
  Calls Tryz.prog 142 #[.agg #[v,.string T.seed,.int .i64 T.pos],.string (E n)] w (CPost w T (coinD att T n)):=by
 obtain ⟨V,sd,pz⟩:=T;unfold Tp.good at hg;simp only [Bool.and_eq_true,decide_eq_true_eq] at hg;obtain ⟨hv,hp0,hp1⟩:=hg;obtain ⟨ti,rfl⟩:=Int.eq_ofNat_of_zero_le hp0;have ht:ti≤2147483647:=by omega
 have hn:V.length≤100:=hok.n;have hs:∀x∈V,x.size≤100:=hok.s;have hsd:sd.size≤100:=hok.d;have HATT:=Lib.hid hat;obtain ⟨rr,hrr⟩:∃r,r=coinD att ⟨V,sd,(ti:Int)⟩ n:=⟨_,rfl⟩;have HRD:=Lib.hid hrr;rw [←hrr];have HPO:Hid (∀(e:Ending) (w':World) (k x:Nat),rr=(k,x)→CPost w ⟨V,sd,(ti:Int)⟩ (k,x) e w'→CPost w ⟨V,sd,(ti:Int)⟩ rr e w'):=fun e w' k x h h'=>by rw [h];exact h'
 simp only [] at hV ⊢;clear hrr hp0 hp1 hok hat;obtain ⟨i0,hi0,hz00,hz01,hz02⟩:=info_parts info_nat;have HI0:=Lib.hid hi0;have HA0:=Lib.hid hz00;have HB0:=Lib.hid hz01;have HC0:=Lib.hid hz02;clear hi0 hz00 hz01 hz02;obtain ⟨ao,c,rfl⟩:=RAt.form hV;obtain ⟨m,hm⟩:∃m,V.length=m:=⟨_,rfl⟩;have HM:=Lib.hid hm;rw [hm] at hV hn ⊢;clear hm;have hP:=Blk.new w #[.slice ao m c,.string sd,.int .i64 (ti:Int)] 42;have hBW:=b1 w (.cells #[.slice ao m c,.string sd,.int .i64 (ti:Int)] 42);obtain ⟨hPc0,hPf0,hPc1,hPf1,hPc2,hPf2⟩:=hP.x3;go_enter Tryz.func142,Tryz.ntmps142
 go_upto_region 2 with fail
 clear hPc0 hPf0 hPc1 hPf1 hPc2 hPf2;clear hP hBW;have hP:=blk3a w #[.slice ao m c,.string sd,.int .i64 (ti:Int)] #[.slice none 0 0,.string ⟨#[]⟩,.int .i64 0] #[.slice none 0 0,.string sd,.int .i64 ((ti:Int)+1)] 42 42 42;have hR:=blk3b w #[.slice ao m c,.string sd,.int .i64 (ti:Int)] #[.slice none 0 0,.string ⟨#[]⟩,.int .i64 0] #[.slice none 0 0,.string sd,.int .i64 ((ti:Int)+1)] 42 42 42;have hX:=blk3c w #[.slice ao m c,.string sd,.int .i64 (ti:Int)] #[.slice none 0 0,.string ⟨#[]⟩,.int .i64 0] #[.slice none 0 0,.string sd,.int .i64 ((ti:Int)+1)] 42 42 42;have hBW:=b3 w (.cells #[.slice ao m c,.string sd,.int .i64 (ti:Int)] 42) (.cells #[.slice none 0 0,.string ⟨#[]⟩,.int .i64 0] 42) (.cells #[.slice none 0 0,.string sd,.int .i64 ((ti:Int)+1)] 42);have hV3:=SsAt.after hV hBW;generalize (((w.alloc (.cells #[.slice ao m c,.string sd,.int .i64 (ti:Int)] 42)).alloc (.cells #[.slice none 0 0,.string ⟨#[]⟩,.int .i64 0] 42)).alloc (.cells #[.slice none 0 0,.string sd,.int .i64 ((ti:Int)+1)] 42))=w3 at hP hR hX hBW hV3 ⊢;obtain ⟨gP,hgP⟩:∃g,w.heap.size=g:=⟨_,rfl⟩;obtain ⟨gR,hgR⟩:∃g,w.heap.size+1=g:=⟨_,rfl⟩;obtain ⟨gX,hgX⟩:∃g,w.heap.size+1+1=g:=⟨_,rfl⟩;have hgX2:w.heap.size+2=gX:=hgX;rw [hgR] at hR;rw [hgX2] at hX;have HGX:Hid (w.heap.size≤gX∧gP≠gX∧gR≠gX∧w.heap.size≤gR):=by unfold Hid;omega
 rw [hgX,hgR,hgP];rw [hgP] at hP;clear hgX2 hgX hgR hgP;replace hP:Blk w3 gP 42 [.slice ao m c,.string sd,.int .i64 (ti:Int)]:=hP;replace hR:Blk w3 gR 42 [.slice none 0 0,.string ⟨#[]⟩,.int .i64 0]:=hR;replace hX:Blk w3 gX 42 [.slice none 0 0,.string sd,.int .i64 ((ti:Int)+1)]:=hX;go_cut [20] (fun s20 wx=>∃u,Blk wx gX 42 [u,.string sd,.int .i64 ((ti:Int)+1)]∧Blk wx gP 42 [.slice ao m c,.string sd,.int .i64 (ti:Int)]∧Blk wx gR 42 [.slice none 0 0,.string ⟨#[]⟩,.int .i64 0]∧SsAt wx u V∧FarS u gR∧(∀b,b<w.heap.size→FarS u b)∧SsAt wx (.slice ao m c) V∧Below w.heap.size w wx)
 case first =>
  as_aux_lemma =>
  by_cases h0:m=0
  ·subst h0;have hVV:V=[]:=List.length_eq_zero_iff.1 HM.out;have HV0:=Lib.hid hVV;clear hVV;obtain ⟨hPc0,hPf0,hPc1,hPf1,hPc2,hPf2⟩:=hP.x3;obtain ⟨hXc0,hXf0,hXc1,hXf1,hXc2,hXf2⟩:=hX.x3;have hxs:=hX.set 0 (.slice none 0 0);cases ao with
   | none =>
    go_wp2;clear hPc0 hPf0 hPc1 hPf1 hPc2 hPf2;clear hXc0 hXf0 hXc1 hXf1 hXc2 hXf2;go_meet
    exact ⟨_,hxs,hP.other _ _ HGX.out.2.1,hR.other _ _ HGX.out.2.2.1,by rw [HV0.out];exact ss_nil _,(fun _ _ _ _ h=>nomatch h),(fun _ _ _ _ _ _ h=>nomatch h),SsAt.after hV (hBW.setCell HGX.out.1 _),hBW.setCell HGX.out.1 _⟩
   | some a0 =>
    go_wp2;clear hPc0 hPf0 hPc1 hPf1 hPc2 hPf2;clear hXc0 hXf0 hXc1 hXf1 hXc2 hXf2;go_meet
    exact ⟨_,hxs,hP.other _ _ HGX.out.2.1,hR.other _ _ HGX.out.2.2.1,by rw [HV0.out];exact ss_nil _,(fun _ _ _ _ h=>nomatch h),(fun _ _ _ _ _ _ h=>nomatch h),SsAt.after hV (hBW.setCell HGX.out.1 _),hBW.setCell HGX.out.1 _⟩
  ·obtain ⟨ao',c',hv',hcs⟩:=hV3;have hml:V.length≠0:=by rw [HM.out];exact h0
   rcases hcs with hcs | ⟨b,o,rfl,hb,hcs⟩
   ·exact absurd hcs hml
   ·injection hv' with e1 e2 e3
    subst e1 e3
    have hnews:∀j u,(V.map Value.string)[j]?=some u→w3.cell? ((⟨b,o,none⟩:Addr).add j)=some u:=fun j u hj=>by
     rw [List.getElem?_map] at hj;by_cases hjl:j<V.length
     ·obtain ⟨cs,hq,hc⟩:=hcs j hjl;rw [List.getElem?_eq_getElem hjl] at hj;have h:=hc 0 (by omega);rw [show (⟨b,o,none⟩:Addr).add j=⟨b,o+j*1+0,none⟩ by rw [Addr.add_lit];simp,h,hq];simpa using hj
     ·rw [List.getElem?_eq_none (by omega)] at hj;simp at hj
    have HNW:=Lib.hid hnews;clear hnews hcs e2;obtain ⟨hPc0,hPf0,hPc1,hPf1,hPc2,hPf2⟩:=hP.x3;obtain ⟨hXc0,hXf0,hXc1,hXf1,hXc2,hXf2⟩:=hX.x3;go_wp2_with (at_builtin;refine wpList_append_lies _ rfl (.tmp 17) (.tmp 19) _ rfl w.heap.size 31 i0 _ 1 16 Tryz.underlying40 HI0.out HA0.out HB0.out HC0.out rfl (by omega) (.slice none 0 0) 0 [] rfl (World.ownsRow_nil _ _ _ _) ⟨b,o,none⟩ m c (V.map Value.string) rfl (by rw [List.length_map,HM.out];omega) HNW.out (by intro u hu;obtain ⟨x,_,rfl⟩:=List.mem_map.1 hu;rfl) (by omega) (by simp only [maxLen];omega) (by omega) hBW.size w3.heap.size rfl ?_;intro ga ca wz hown hgrow hat hlt2;have hXz:=Blk.grown hX hgrow (by simp [Value.ownBlock]);have hz0:=hXz.cell 0;have hf0:=hXz.free 0)
    clear hPc0 hPf0 hPc1 hPf1 hPc2 hPf2;clear hXc0 hXf0 hXc1 hXf1 hXc2 hXf2;go_meet
    have hPz:=Blk.grown hP hgrow (by simp [Value.ownBlock]);have hRz:=Blk.grown hR hgrow (by simp [Value.ownBlock]);have hbz:=hBW.grown hgrow hBW.size (fun x hx=>by simp [Value.ownBlock] at hx)
    have hVo:SsAt wz (.slice (some ⟨ga,0,none⟩) m ca) V:=by
     rw [Nat.zero_add,List.nil_append] at hown;rw [←HM.out] at hown ⊢;exact ss_app hown
    have hgz:ga≠gX:=fun e=>by
     rcases hat with h | h
     ·simp [Value.ownBlock] at h
     ·have:=hX.lt;omega
    have hgr:ga≠gR:=fun e=>by
     rcases hat with h | h
     ·simp [Value.ownBlock] at h
     ·have:=hR.lt;omega
    have hgw:¬ ga<w.heap.size:=fun e=>by
     rcases hat with h | h
     ·simp [Value.ownBlock] at h
     ·have:=hBW.size;omega
    exact ⟨_,hXz.set 0 _,hPz.other _ _ HGX.out.2.1,hRz.other _ _ HGX.out.2.2.1,hVo.set_other hgz,(fun _ _ _ _ h _=>by injection h with h;injection h with h;injection h with h;rw [←h];exact hgr),(fun b hb _ _ _ _ h _=>by injection h with h;injection h with h;injection h with h;rw [←h];exact fun e=>by subst e;exact hgw hb),SsAt.after hV (hbz.setCell HGX.out.1 _),hbz.setCell HGX.out.1 _⟩
 case rest =>
  as_aux_lemma =>
  obtain ⟨u,hX,hP,hR,hU,hFU,hFW,hV3,hBW⟩:=hcut;obtain ⟨wx,hwx⟩:∃wx,wx=wc:=⟨_,rfl⟩;subst hwx;clear hV;obtain ⟨uo,uc,rfl⟩:=RAt.form hU;rw [HM.out] at hU hX hFU hFW;have HFW:=Lib.hid hFW;clear hFW
  have HHV:Hid (∀k (h:k<V.length),∃x,x<256^100∧V[k]'h=E x):=fun k h=>by
   have h1:=(List.all_eq_true.1 hv) _ (List.getElem_mem h);have h2:=hs _ (List.getElem_mem h);obtain ⟨x,hx,e⟩:=of_vldB h1;rw [e] at h2;exact ⟨x,lt_of_size h2,e⟩
  have HUU:Hid (∀(w':World) (i j k:Nat) (x y z:Value),Below wx.heap.size wx w'→SsAt (((w'.setCell ⟨gR,i,none⟩ x).setCell ⟨gR,j,none⟩ y).setCell ⟨gR,k,none⟩ z).drew (.slice uo m uc) V):=fun w' i j k x y z hb=>SsAt.after ((((SsAt.after hU hb).set_far hFU).set_far hFU).set_far hFU) (Below.drew (Below.refl _ _))
  clear hs hv hU;have HUZ:=Lib.hid hsd;clear hsd;by_cases htm:ti<m
  ·have hkl:ti<V.length:=by rw [HM.out];exact htm
   obtain ⟨b,o,rfl,hb,hc1⟩:=SsAt.at_ hV3 hkl;obtain ⟨x,hx,hxe⟩:=HHV.out ti hkl;rw [hxe] at hc1;have HCM:Hid (∀w,Calls Tryz.prog 123 #[.string (E x),.string (E n)] w fun e w'=>e=.returned (.int .i64 (cmpN x n))∧Below w.heap.size w w'):=fun w=>rcmp_c x n w (Nat.lt_of_lt_of_le hx (Nat.pow_le_pow_right (by decide) (by decide))) (Nat.lt_of_lt_of_le h2 (Nat.pow_le_pow_right (by decide) (by decide)))
   have HXE:=Lib.hid hxe;clear hxe;have t0:(0:Int)≤(ti:Int):=by omega
   have t1:(ti:Int)<(m:Int):=by omega
   obtain ⟨q,hq⟩:∃q:Int,q=cmpN x n:=⟨_,rfl⟩;rw [←hq] at HCM;obtain ⟨hPc0,hPf0,hPc1,hPf1,hPc2,hPf2⟩:=hP.x3;obtain ⟨hRc0,hRf0,hRc1,hRf1,hRc2,hRf2⟩:=hR.x3;obtain ⟨hXc0,hXf0,hXc1,hXf1,hXc2,hXf2⟩:=hX.x3;go_wp2_with fail
   refine (HCM.out _).mono ?_;rintro e w4 ⟨rfl,hb4⟩;clear hPc0 hPf0 hPc1 hPf1 hPc2 hPf2;clear hRc0 hRf0 hRc1 hRf1 hRc2 hRf2;clear hXc0 hXf0 hXc1 hXf1 hXc2 hXf2;replace hBW:=bt hBW hb4;replace hP:=hP.after hb4;replace hR:=hR.after hb4;replace hX:=hX.after hb4;replace hV3:=SsAt.after hV3 hb4;have HU4:Hid (∀(i j k:Nat) (x y z:Value),SsAt (((w4.setCell ⟨gR,i,none⟩ x).setCell ⟨gR,j,none⟩ y).setCell ⟨gR,k,none⟩ z).drew (.slice uo m uc) V):=fun i j k x y z=>HUU.out w4 i j k x y z hb4
   clear HUU hb4 hc1 hb HCM;by_cases hq0:0≤q
   ·have d1:decide (0≤q)=true:=decide_eq_true hq0
    have HXG:Hid (n≤x):=by
     rw [Hid];apply Classical.byContradiction
     intro hge;have:=cmp_neg x n (by omega);rw [←hq] at this;omega
    have HRR:Hid (rr=(2,0)):=HRD.out.trans (coinD_big (att:=att) (T:=⟨V,sd,(ti:Int)⟩) (by exact hkl) (by exact HXE.out) HXG.out);clear hq;have hRl:=hR.lt;obtain ⟨hRc0,hRf0,hRc1,hRf1,hRc2,hRf2⟩:=hR.x3;go_wp2;refine bodyPost_ret (v:=.tuple #[.string ⟨#[]⟩,.agg #[.slice none 0 0,.string ⟨#[]⟩,.int .i64 0],.int .i64 2]) ?_ rfl (HPO.out _ _ 2 0 HRR.out ⟨_,rfl,⟨_,rfl,ss_nil _⟩,TFar.zero _ _ _,((hBW.setCell HGX.out.2.2.2 _).setCell HGX.out.2.2.2 _).setCell HGX.out.2.2.2 _⟩);simp [results,Tryz.results142,go_sem,hRc0,hRc1,hRc2,hRl]
   ·have d1:decide (0≤q)=false:=decide_eq_false hq0
    have HXN:Hid (x<n):=by
     rw [Hid];apply Classical.byContradiction
     intro hge;have:=cmp_nneg x n (by omega);rw [←hq] at this;omega
    have HRR:Hid (rr=(0,x)):=HRD.out.trans (coinD_val (att:=att) (T:=⟨V,sd,(ti:Int)⟩) (by exact hkl) (by exact HXE.out) HXN.out);clear hq hq0;obtain ⟨b',o',e',hb,hc1⟩:=SsAt.at_ hV3 hkl;injection e' with e'
    injection e' with e1 e2 e3
    subst e1 e2;clear e3;rw [HXE.out] at hc1;have hRl:=hR.lt;have hXl:=hX.lt;have hPl:=hP.lt;obtain ⟨hPc0,hPf0,hPc1,hPf1,hPc2,hPf2⟩:=hP.x3;obtain ⟨hRc0,hRf0,hRc1,hRf1,hRc2,hRf2⟩:=hR.x3;obtain ⟨hXc0,hXf0,hXc1,hXf1,hXc2,hXf2⟩:=hX.x3;go_wp2_with fail
    go_region;go_wp2;refine bodyPost_ret (v:=.tuple #[.string (E x),.agg #[.slice uo m uc,.string sd,.int .i64 ((ti:Int)+1)],.int .i64 0]) ?_ rfl (HPO.out _ _ 0 x HRR.out ⟨_,rfl,⟨_,rfl,HU4.out _ _ _ _ _ _⟩,TFar.of HFW.out,(((hBW.setCell HGX.out.2.2.2 _).setCell HGX.out.2.2.2 _).setCell HGX.out.2.2.2 _).drew⟩);simp [results,Tryz.results142,go_sem,hRc0,hRc1,hRc2,hRl]
  ·have h2':n<256^128:=Nat.lt_of_lt_of_le h2 (Nat.pow_le_pow_right (by decide) (by decide));have HBI:Hid (∀w,Calls Tryz.prog 166 #[.string (E n)] w fun e w'=>e=.returned (.int .i64 (nb n))∧w'=w):=fun w=>(rBits_c n w h2').mono fun e w' h=>⟨h.1,h.2.symm⟩
   have HAT:Hid (sd.size≠0→∀(a:Nat),a<256→att sd ti a (nb n)<256^64∧∀(w:World),Calls Tryz.prog 165 #[.string sd,.int .i64 (ti:Int),.int .i64 (a:Int),.int .i64 (nb n)] w fun e w'=>e=.returned (.string (E (att sd ti a (nb n))))∧Below w.heap.size w w'):=fun hs0 a ha=>by
    have hb1:=nb_pos n (by omega)
    have hb2:nb n≤512:=by
     apply Classical.byContradiction
     intro hc;have h3:=nb_low n (by omega);have h5:(2:Nat)^(8*64)≤2^(nb n-1):=Nat.pow_le_pow_right (by decide) (by omega);rw [Nat.pow_mul] at h5;exact Nat.lt_irrefl _ (Nat.lt_of_lt_of_le h2 (Nat.le_trans h5 h3))
    exact HATT.out hs0 ti a (nb n) ht ha hb1 hb2
   have HCM:Hid (∀(x:Nat) (w:World),x<256^64→Calls Tryz.prog 123 #[.string (E x),.string (E n)] w fun e w'=>e=.returned (.int .i64 (cmpN x n))∧Below w.heap.size w w'):=fun x w hx=>rcmp_c x n w (Nat.lt_of_lt_of_le hx (Nat.pow_le_pow_right (by decide) (by decide))) h2'
   have t1:¬ (ti:Int)<(m:Int):=by omega
   have d1:decide ((ti:Int)<(m:Int))=false:=decide_eq_false t1;have hkl:V.length≤((ti:Int)).toNat:=by rw [Int.toNat_natCast,HM.out];omega
   have HKL:=Lib.hid hkl;clear h2 h2' hV3 hkl HATT;have hRl:=hR.lt;by_cases hs0:sd.size=0
   ·have HRR:Hid (rr=(14,0)):=HRD.out.trans (coinD_no (att:=att) (T:=⟨V,sd,(ti:Int)⟩) HKL.out (.inl hs0));obtain rfl:sd=ByteArray.empty:=by apply ByteArray.ext;apply Array.eq_empty_of_size_eq_zero;exact hs0
    obtain ⟨hPc0,hPf0,hPc1,hPf1,hPc2,hPf2⟩:=hP.x3;obtain ⟨hRc0,hRf0,hRc1,hRf1,hRc2,hRf2⟩:=hR.x3;go_wp2;refine bodyPost_ret (v:=.tuple #[.string ⟨#[]⟩,.agg #[.slice none 0 0,.string ⟨#[]⟩,.int .i64 0],.int .i64 14]) ?_ rfl (HPO.out _ _ 14 0 HRR.out ⟨_,rfl,⟨_,rfl,ss_nil _⟩,TFar.zero _ _ _,((hBW.setCell HGX.out.2.2.2 _).setCell HGX.out.2.2.2 _).setCell HGX.out.2.2.2 _⟩);simp [results,Tryz.results142,go_sem,hRc0,hRc1,hRc2,hRl]
   ·have hne:=nz_str (s:=sd) (by omega);by_cases htx:ti=2147483647
    ·have HRR:Hid (rr=(14,0)):=HRD.out.trans (coinD_no (att:=att) (T:=⟨V,sd,(ti:Int)⟩) HKL.out (.inr (by show (ti:Int)=2147483647;omega)));subst htx;obtain ⟨hPc0,hPf0,hPc1,hPf1,hPc2,hPf2⟩:=hP.x3;obtain ⟨hRc0,hRf0,hRc1,hRf1,hRc2,hRf2⟩:=hR.x3;go_wp2;refine bodyPost_ret (v:=.tuple #[.string ⟨#[]⟩,.agg #[.slice none 0 0,.string ⟨#[]⟩,.int .i64 0],.int .i64 14]) ?_ rfl (HPO.out _ _ 14 0 HRR.out ⟨_,rfl,⟨_,rfl,ss_nil _⟩,TFar.zero _ _ _,((hBW.setCell HGX.out.2.2.2 _).setCell HGX.out.2.2.2 _).setCell HGX.out.2.2.2 _⟩);simp [results,Tryz.results142,go_sem,hRc0,hRc1,hRc2,hRl]
    ·have htb:((ti:Int)==2147483647)=false:=by rw [beq_eq_false_iff_ne];omega
     have HRS:Hid (rr=coinS att ⟨V,sd,(ti:Int)⟩ n):=HRD.out.trans (coinD_s (att:=att) (T:=⟨V,sd,(ti:Int)⟩) HKL.out hs0 (by show (ti:Int)≠2147483647;omega));have HAX:=Lib.hid (HAT.out hs0);clear HAT HRD;have hXl:=hX.lt;have hPl:=hP.lt;obtain ⟨hPc0,hPf0,hPc1,hPf1,hPc2,hPf2⟩:=hP.x3;go_wp2;clear hPc0 hPf0 hPc1 hPf1 hPc2 hPf2;go_loopw [8,9] (fun i v wr=>∃a:Nat,a≤256∧i=.int .i64 (a:Int)∧Hid (∀j,j<a→n≤att sd ti j (nb n))∧Below wx.heap.size wx wr) (fun i _ _=>256-(intOf i).toNat)
     case atStart=>exact ⟨0,by omega,rfl,fun j h=>absurd h (Nat.not_lt_zero _),Below.refl _ _⟩
     case round =>
      clear hRl hXl hPl;obtain ⟨a,ha,rfl,HA,hbr⟩:=hrel;obtain ⟨wp,hwp⟩:∃wp,wp=wr:=⟨_,rfl⟩;subst hwp;by_cases hlt:a<256
      ·have hPr:=hP.after hbr;have HATk:=Lib.hid (HAX.out a hlt);have HXV:Hid (att sd ti a (nb n)<n→rr=(0,att sd ti a (nb n))):=fun h=>HRS.out.trans (coinS_at (att:=att) (T:=⟨V,sd,(ti:Int)⟩) hlt HA.out h)
       have HXW:Hid (n≤att sd ti a (nb n)→∀j,j<a+1→n≤att sd ti j (nb n)):=fun h j hj=>by
        by_cases e:j=a
        ·rw [e];exact h
        ·exact HA.out j (by omega)
       generalize att sd ti a (nb n)=y at HATk HXV HXW;obtain ⟨hy,hatc⟩:=HATk.out;replace HATk:Hid (∀(w:World),Calls Tryz.prog 165 #[.string sd,.int .i64 (ti:Int),.int .i64 (a:Int),.int .i64 (nb n)] w fun e w'=>e=.returned (.string (E y))∧Below w.heap.size w w'):=hatc;have HYY:=Lib.hid hy;clear hatc hy;obtain ⟨cl,hcl⟩:∃l:List (Addr × Value),l=[(⟨gP,1,none⟩,.string sd),(⟨gP,2,none⟩,.int .i64 (ti:Int))]:=⟨_,rfl⟩;have HCL:=Lib.hid hcl;clear hcl
       have hC:CA wp cl:=by
        rw [HCL.out];exact CA.cons hPr.lt (hPr.cell 1) (CA.cons hPr.lt (hPr.cell 2) (CA.nil _))
       go_upto_region 12 with fail
       go_cut [9] (fun s9 wc'=>s9=.string (E y)∧Below wp.heap.size wp wc')
       case first =>
        as_aux_lemma =>
        clear hPr hP hX hR hBW HCM hbr
        go_region_held3 (fun w'=>w'.cell? ⟨gP,1,none⟩=some (.string sd)∧w'.cell? ⟨gP,2,none⟩=some (.int .i64 (ti:Int))) ((refine CA.k2 ?_;rw [←HCL.out];repeat (first | (with_reducible exact hC1) | (with_reducible exact hC) | (with_reducible refine CA.drew ?_))))
         (first | (go_at_call 166;(with_reducible refine (HBI.out _).mono ?_);rintro e wa ⟨rfl,rfl⟩) | (go_at_call 165;(with_reducible refine (HATk.out _).mono ?_);rintro e wb ⟨rfl,hbb⟩;have hC1:=hC.drew.after hbb;have hA1:=(Below.drew (Below.refl wp.heap.size wp)).trans hbb))
        go_wp2_with fail
        go_meet
        exact ⟨rfl,hA1⟩
       case rest =>
        as_aux_lemma =>
        obtain ⟨rfl,hbc⟩:=hcut;obtain ⟨wy,hwy⟩:∃wx,wx=wc:=⟨_,rfl⟩;subst hwy;replace hbr:=bt hbr hbc;clear hC hPr hbc;go_wp2_with fail
        refine (HCM.out y _ HYY.out).mono ?_;rintro e w4 ⟨rfl,hb4⟩;replace hbr:=bt hbr hb4;clear hb4 HCM;obtain ⟨q,hq⟩:∃q:Int,q=cmpN y n:=⟨_,rfl⟩;rw [←hq];by_cases hq0:q<0
        ·have dq:decide (q<0)=true:=decide_eq_true hq0
         have HXN:Hid (y<n):=by
          rw [Hid];apply Classical.byContradiction
          intro hge;have:=cmp_nneg y n (by omega);rw [←hq] at this;exact this hq0
         have HRR:=Lib.hid (HXV.out HXN.out);clear hq hq0 HXV HXW;have hRr:=hR.after hbr;have hXr:=hX.after hbr;have hbw:=bt hBW hbr;have hRl:=hRr.lt;have hXl:=hXr.lt;obtain ⟨hRrc0,hRrf0,hRrc1,hRrf1,hRrc2,hRrf2⟩:=hRr.x3;obtain ⟨hXrc0,hXrf0,hXrc1,hXrf1,hXrc2,hXrf2⟩:=hXr.x3;go_wp2_with fail
         go_region;go_wp2;refine bodyPost_ret (v:=.tuple #[.string (E y),.agg #[.slice uo m uc,.string sd,.int .i64 ((ti:Int)+1)],.int .i64 0]) ?_ rfl (HPO.out _ _ 0 y HRR.out ⟨_,rfl,⟨_,rfl,HUU.out w4 _ _ _ _ _ _ hbr⟩,TFar.of HFW.out,(((hbw.setCell HGX.out.2.2.2 _).setCell HGX.out.2.2.2 _).setCell HGX.out.2.2.2 _).drew⟩);simp [results,Tryz.results142,go_sem,hRrc0,hRrc1,hRrc2,hRl]
        ·have dq:decide (q<0)=false:=decide_eq_false hq0
         have HXX:Hid (n≤y):=by
          rw [Hid];apply Classical.byContradiction
          intro hge;exact hq0 (by rw [hq];exact cmp_neg y n (by omega))
         have HXY:=Lib.hid (HXW.out HXX.out);clear hq hq0 HXV HXW;go_wp2;go_roundw
         case rel=>exact ⟨a+1,by omega,by go_num,HXY.out,hbr⟩
         case measure=>simp [intOf];omega
      ·have HRR:Hid (rr=(14,0)):=HRS.out.trans (coinS_no (att:=att) (T:=⟨V,sd,(ti:Int)⟩) (fun j hj=>HA.out j (by omega)));have hRr:=hR.after hbr;have hbw:=bt hBW hbr;have hRl:=hRr.lt;obtain ⟨hRrc0,hRrf0,hRrc1,hRrf1,hRrc2,hRrf2⟩:=hRr.x3;go_wp2;refine bodyPost_ret (v:=.tuple #[.string ⟨#[]⟩,.agg #[.slice none 0 0,.string ⟨#[]⟩,.int .i64 0],.int .i64 14]) ?_ rfl (HPO.out _ _ 14 0 HRR.out ⟨_,rfl,⟨_,rfl,ss_nil _⟩,TFar.zero _ _ _,((hbw.setCell HGX.out.2.2.2 _).setCell HGX.out.2.2.2 _).setCell HGX.out.2.2.2 _⟩);simp [results,Tryz.results142,go_sem,hRrc0,hRrc1,hRrc2,hRl]
end Go.Proofs.YtdoacbdkbbpamaaGreatDoor
