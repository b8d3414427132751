/- The attempts of the reference: the same function. -/
import Derived.Test.YtihjpddbjhcbmaaGreatDoorAtt
set_option linter.unusedVariables false
set_option linter.unusedSimpArgs false
set_option maxRecDepth 100000
set_option maxHeartbeats 16000000
namespace Go.Proofs.YtihjpddbjhcbmaaGreatDoor
section
open Go.RowKit Go.Shelf
theorem rgood_v (T:Tp) (v:Value) (w:World) (hp:T.Ok) (hV:SsAt w v T.vals) :
  Calls Tryz.prog 102 #[.agg #[v,.string T.seed,.int .i64 T.pos]] w fun e w'=>e=.returned (.bool T.good)∧Bw w w':=by
 obtain⟨V,sd,ti⟩:=T;have hn:V.length≤100:=hp.n;have hs:∀x∈V,x.size≤100:=hp.s;have HG:Hid (Tp.good ⟨V,sd,ti⟩=(V.all vldB&&(decide (0≤ti)&&decide (ti≤2147483647)))):=rfl;simp only[]at hV ⊢;generalize Tp.good ⟨V,sd,ti⟩=tg at HG ⊢;clear hp;have hE:Hid (∀k (h:k<V.length) (w:World),Calls Tryz.prog 86 #[.string (V[k]'h)] w fun e w'=>e=.returned (.bool (vldB (V[k]'h)))∧w=w'):=fun k h w=>rvalid_c _ w (by have:=hs _ (Gm h);omega)
 obtain⟨ao,c,rfl⟩:=RAt.form hV;obtain⟨n,hq⟩:∃n,n=V.length:=⟨_,rfl⟩;have HN:=Kh hq;rw[←hq]at hV hn ⊢;clear hq hs;obtain⟨hP,hl⟩:=blk1 w #[.slice ao n c,.string sd,.int .i64 ti] 33;obtain⟨hr,ht,hu,hw,hy,hz⟩:=hP.x3;go_enter Tryz.func102,Tryz.ntmps102
 go_upto_region 2 with fail
 clear hr ht hu hw hy hz;replace hV:=SsAt.after hV hl;generalize w.alloc (.cells #[.slice ao n c,.string sd,.int .i64 ti] 33)=w1 at hP hl hV ⊢;obtain⟨g0,hA⟩:∃g,w.heap.size=g:=⟨_,rfl⟩;rw[hA]at hP ⊢;replace hP:Blk w1 g0 33 [.slice ao n c,.string sd,.int .i64 ti]:=hP;have hL:=Kh hA;clear hA;go_loopw [3] (fun i wr=>∃k:Nat,k≤n∧i=.int .i64 k∧Hid (∀j (h:j<V.length),j<k→vldB (V[j]'h)=true)∧Bw w1 wr) (fun i _=>n-(intOf i).toNat)
 case atStart=>exact⟨0,by omega,rfl,fun j _ h=>absurd h (Nat.not_lt_zero _),Br⟩
 case round =>
  obtain⟨k,hk,rfl,HA,hh⟩:=hrel;obtain⟨wp,hF⟩:∃wp,wp=wr:=⟨_,rfl⟩;subst hF;have hG:=SsAt.after hV hh;have hB:=hP.after hh;by_cases hlt:k<n
  ·have hi:k<V.length:=by rw[←HN.out];exact hlt
   obtain⟨b,o,rfl,hM,x1⟩:=SsAt.at_ hG hi;have HV:=Kh (hE.out k hi)
   have HX:Hid (vldB (V[k]'hi)=true→∀j (h:j<V.length),j<k+1→vldB (V[j]'h)=true):=fun hv j h hj=>by
    by_cases e:j=k
    ·subst e;exact hv
    ·exact HA.out j h (by omega)
   have hC:Hid (vldB (V[k]'hi)=false→tg=false):=fun hv=>by
    rw[HG.out];cases h:V.all vldB with
    | false=>rfl
    | true=>have:=List.all_eq_true.1 h _ (Gm hi);rw[hv]at this;cases this
   generalize vldB (V[k]'hi)=bl at HV HX hC;generalize (V[k]'hi)=x at x1 HV;have hN:(0:Int)≤(k:Int):=by omega
   have hO:(k:Int)<(n:Int):=by omega
   cases bl
   ·have hH:=Kh (hC.out rfl);clear HX hC;have hI:=hh;obtain⟨hb,hc,hd,he,hf,hg⟩:=hB.x3;go_wp2_with fail
    refine (HV.out _).mono ?_;rintro e w2 ⟨rfl,rfl⟩;go_wp2;go_ret
    rw[hH.out];exact⟨rfl,bt hl hh⟩
   ·have hJ:=Kh (HX.out rfl);clear HX;obtain⟨hb,hc,hd,he,hf,hg⟩:=hB.x3;go_wp2_with fail
    refine (HV.out _).mono ?_;rintro e w2 ⟨rfl,rfl⟩;go_wp2;go_roundw
    case rel=>exact⟨k+1,by omega,by go_num,hJ,hh⟩
    case measure=>simp[intOf];omega
  ·have HT:Hid (V.all vldB=true):=by
    rw[Hid,List.all_eq_true];intro x hx;obtain⟨j,hj,rfl⟩:=List.mem_iff_getElem.1 hx;exact HA.out j hj (by rw[←HN.out]at hj;omega)
   obtain⟨t1,hD⟩:∃t:Bool,t=decide (0≤ti):=⟨_,rfl⟩;obtain⟨t2,hm⟩:∃t:Bool,t=decide (ti≤2147483647):=⟨_,rfl⟩;have ho:=Kh hD;have hK:=Kh hm;obtain⟨hb,hc,hd,he,hf,hg⟩:=hB.x3;cases t1
   ·have d1:=ho.out.symm;clear hD hm;go_wp2;go_ret
    rw[show tg=false by rw[HG.out,HT.out,←ho.out];rfl];exact⟨rfl,bt hl hh⟩
   ·have d1:=ho.out.symm;have d2:=hm.symm;clear hD hm;go_wp2;go_ret
    rw[show tg=t2 by rw[HG.out,HT.out,←ho.out,←hK.out];rfl];exact⟨rfl,bt hl hh⟩
theorem ss_app {w:World} {base cap g:Nat} {V:List ByteArray} (h:w.ownsRow base 22 1 (.slice (some ⟨g,0,none⟩) V.length cap) V.length (V.map .string)):SsAt w (.slice (some ⟨g,0,none⟩) V.length cap) V:=by
 refine⟨_,_,rfl,?_⟩;by_cases h0:V.length=0
 ·exact .inl h0
 ·refine .inr ⟨g,0,rfl,(own_capS h).1,fun j hj=>⟨[.string V[j]],rfl,fun i hi=>?_⟩⟩;obtain rfl:i=0:=by omega
  have:=own_cellS h j (.string V[j]) (by simp[hj]);simpa using this
def RAtt (att:Att) (sd:ByteArray):Prop:=sd.size≠0→∀(p a k:Nat),p≤2147483647→a<256→1≤k→k≤512→att sd p a k<256^64 ∧
 ∀(w:World),Calls Tryz.prog 267 #[.string sd,.int .i64 (p:Int),.int .i64 (a:Int),.int .i64 (k:Int)] w fun e w'=>e=.returned (.string (E (att sd p a k)))∧Bw w w'
set_option exponentiation.threshold 600 in
theorem rdraw_v (att:Att) (T:Tp) (v:Value) (n:Nat) (w:World) (h7:RAtt att T.seed) (Hn:T.Ok) (hg:T.good=true) (h1:1≤n) (h2:n<256^64) (hV:SsAt w v T.vals) :
  Calls Tryz.prog 198 #[.agg #[v,.string T.seed,.int .i64 T.pos],.string (E n)] w (CPost w T (coinD att T n)):=by
 obtain⟨V,sd,pz⟩:=T;unfold Tp.good at hg;simp only[Bool.and_eq_true,decide_eq_true_eq]at hg;obtain⟨hv,HI,H6⟩:=hg;obtain⟨ti,rfl⟩:=Int.eq_ofNat_of_zero_le HI;have ht:ti≤2147483647:=by omega
 have hn:V.length≤100:=Hn.n;have hs:∀x∈V,x.size≤100:=Hn.s;have HJ:sd.size≤100:=Hn.d;have Hd:=Kh h7;obtain⟨rr,Hs⟩:∃r,r=coinD att ⟨V,sd,(ti:Int)⟩ n:=⟨_,rfl⟩;have h8:=Kh Hs;rw[←Hs];have h9:Hid (∀(e:Ending) (w':World) (k x:Nat),rr=(k,x)→CPost w ⟨V,sd,(ti:Int)⟩ (k,x) e w'→CPost w ⟨V,sd,(ti:Int)⟩ rr e w'):=fun e w' k x h h'=>by rw[h];exact h'
 simp only[]at hV ⊢;clear Hs HI H6 Hn h7;obtain⟨i0,HK,He,Hf,Hg⟩:=info_parts info_nat;have H7:=Kh HK;have H8:=Kh He;have H9:=Kh Hf;have ja:=Kh Hg;clear HK He Hf Hg;obtain⟨ao,c,rfl⟩:=RAt.form hV;obtain⟨m,hm⟩:∃m,V.length=m:=⟨_,rfl⟩;have HM:=Kh hm;rw[hm]at hV hn ⊢;clear hm;obtain⟨hP,ho⟩:=blk1 w #[.slice ao m c,.string sd,.int .i64 (ti:Int)] 33;obtain⟨he,hf,hh,hi,hk,hl⟩:=hP.x3;go_enter Tryz.func198,Tryz.ntmps198
 go_upto_region 2 with fail
 clear he hf hh hi hk hl;clear hP ho;obtain⟨hP,hR,hX,ho⟩:=blk3 w #[.slice ao m c,.string sd,.int .i64 (ti:Int)] #[.slice none 0 0,.string ⟨#[]⟩,.int .i64 0] #[.slice none 0 0,.string sd,.int .i64 ((ti:Int)+1)] 33 33 33;have hW:=SsAt.after hV ho;generalize (((w.alloc (.cells #[.slice ao m c,.string sd,.int .i64 (ti:Int)] 33)).alloc (.cells #[.slice none 0 0,.string ⟨#[]⟩,.int .i64 0] 33)).alloc (.cells #[.slice none 0 0,.string sd,.int .i64 ((ti:Int)+1)] 33))=w3 at hP hR hX ho hW ⊢;obtain⟨gP,Ht⟩:∃g,w.heap.size=g:=⟨_,rfl⟩;obtain⟨gR,Hu⟩:∃g,w.heap.size+1=g:=⟨_,rfl⟩;obtain⟨gX,Hv⟩:∃g,w.heap.size+1+1=g:=⟨_,rfl⟩;have Hh:w.heap.size+2=gX:=Hv;rw[Hu]at hR;rw[Hh]at hX;have hd:Hid (w.heap.size≤gX∧gP≠gX∧gR≠gX∧w.heap.size≤gR):=by unfold Hid;omega
 rw[Hv,Hu,Ht];rw[Ht]at hP;clear Hh Hv Hu Ht;replace hP:Blk w3 gP 33 [.slice ao m c,.string sd,.int .i64 (ti:Int)]:=hP;replace hR:Blk w3 gR 33 [.slice none 0 0,.string ⟨#[]⟩,.int .i64 0]:=hR;replace hX:Blk w3 gX 33 [.slice none 0 0,.string sd,.int .i64 ((ti:Int)+1)]:=hX;go_cut [20] (fun s20 wx=>∃u,Blk wx gX 33 [u,.string sd,.int .i64 ((ti:Int)+1)]∧Blk wx gP 33 [.slice ao m c,.string sd,.int .i64 (ti:Int)]∧Blk wx gR 33 [.slice none 0 0,.string ⟨#[]⟩,.int .i64 0]∧SsAt wx u V∧FarS u gR∧(∀b,b<w.heap.size→FarS u b)∧SsAt wx (.slice ao m c) V∧Bw w wx)
 case first =>
  as_aux_lemma =>
  by_cases h0:m=0
  ·subst h0;have HL:V=[]:=List.length_eq_zero_iff.1 HM.out;have HN:=Kh HL;clear HL;obtain⟨he,hf,hh,hi,hk,hl⟩:=hP.x3;obtain⟨hz,hA,hB,hD,hE,hF⟩:=hX.x3;have HO:=hX.set 0 (.slice none 0 0);cases ao with
   | none =>
    go_wp2;clear he hf hh hi hk hl;clear hz hA hB hD hE hF;go_meet
    exact⟨_,HO,hP.other _ _ hd.out.2.1,hR.other _ _ hd.out.2.2.1,by rw[HN.out];exact ss_nil _,(fun _ _ _ _ h=>nomatch h),(fun _ _ _ _ _ _ h=>nomatch h),SsAt.after hV (ho.setCell hd.out.1 _),ho.setCell hd.out.1 _⟩
   | some a0 =>
    go_wp2;clear he hf hh hi hk hl;clear hz hA hB hD hE hF;go_meet
    exact⟨_,HO,hP.other _ _ hd.out.2.1,hR.other _ _ hd.out.2.2.1,by rw[HN.out];exact ss_nil _,(fun _ _ _ _ h=>nomatch h),(fun _ _ _ _ _ _ h=>nomatch h),SsAt.after hV (ho.setCell hd.out.1 _),ho.setCell hd.out.1 _⟩
  ·obtain⟨ao',c',jb,Ha⟩:=hW;have jc:V.length≠0:=by rw[HM.out];exact h0
   rcases Ha with Ha | ⟨b,o,rfl,hb,Ha⟩
   ·exact absurd Ha jc
   ·injection jb with e1 e2 e3
    subst e1 e3
    have hY:∀j u,(V.map Value.string)[j]?=some u→w3.cell? ((⟨b,o,none⟩:Addr).add j)=some u:=fun j u hj=>by
     rw[List.getElem?_map]at hj;by_cases HP:j<V.length
     ·obtain⟨cs,hq,hc⟩:=Ha j HP;rw[List.getElem?_eq_getElem HP]at hj;have h:=hc 0 (by omega);rw[show (⟨b,o,none⟩:Addr).add j=⟨b,o+j*1+0,none⟩ by rw[Addr.add_lit];simp,h,hq];simpa using hj
     ·rw[List.getElem?_eq_none (by omega)]at hj;simp at hj
    have jd:=Kh hY;clear hY Ha e2;obtain⟨he,hf,hh,hi,hk,hl⟩:=hP.x3;obtain⟨hz,hA,hB,hD,hE,hF⟩:=hX.x3;go_wp2_with (at_builtin;refine wpList_append_lies _ rfl (.tmp 17) (.tmp 19) _ rfl w.heap.size 22 i0 _ 1 16 Tryz.underlying31 H7.out H8.out H9.out ja.out rfl (by omega) (.slice none 0 0) 0 [] rfl (World.ownsRow_nil _ _ _ _) ⟨b,o,none⟩ m c (V.map Value.string) rfl (by rw[List.length_map,HM.out];omega) jd.out (by intro u hu;obtain⟨x,_,rfl⟩:=List.mem_map.1 hu;rfl) (by omega) (by simp only[maxLen];omega) (by omega) ho.size w3.heap.size rfl ?_;intro ga ca wz h4 hG h7 je;have Hw:=Blk.grown hX hG (by simp[Value.ownBlock]);have jC:=Hw.cell 0;have jD:=Hw.free 0)
    clear he hf hh hi hk hl;clear hz hA hB hD hE hF;go_meet
    have jf:=Blk.grown hP hG (by simp[Value.ownBlock]);have jg:=Blk.grown hR hG (by simp[Value.ownBlock]);have HQ:=ho.grown hG ho.size (fun x hx=>by simp[Value.ownBlock]at hx)
    have jh:SsAt wz (.slice (some ⟨ga,0,none⟩) m ca) V:=by
     rw[Nat.zero_add,List.nil_append]at h4;rw[←HM.out]at h4 ⊢;exact ss_app h4
    have ji:ga≠gX:=fun e=>by
     rcases h7 with h | h
     ·simp[Value.ownBlock]at h
     ·have:=hX.lt;omega
    have jj:ga≠gR:=fun e=>by
     rcases h7 with h | h
     ·simp[Value.ownBlock]at h
     ·have:=hR.lt;omega
    have jk:¬ ga<w.heap.size:=fun e=>by
     rcases h7 with h | h
     ·simp[Value.ownBlock]at h
     ·have:=ho.size;omega
    exact⟨_,Hw.set 0 _,jf.other _ _ hd.out.2.1,jg.other _ _ hd.out.2.2.1,jh.set_other ji,(fun _ _ _ _ h _=>by injection h with h;injection h with h;injection h with h;rw[←h];exact jj),(fun b hb _ _ _ _ h _=>by injection h with h;injection h with h;injection h with h;rw[←h];exact fun e=>by subst e;exact jk hb),SsAt.after hV (HQ.setCell hd.out.1 _),HQ.setCell hd.out.1 _⟩
 case rest =>
  as_aux_lemma =>
  obtain⟨u,hX,hP,hR,hU,Ho,Hx,hW,ho⟩:=hcut;obtain⟨wx,jl⟩:∃wx,wx=wc:=⟨_,rfl⟩;subst jl;clear hV;obtain⟨uo,uc,rfl⟩:=RAt.form hU;rw[HM.out]at hU hX Ho Hx;have HR:=Kh Hx;clear Hx
  have jm:Hid (∀k (h:k<V.length),∃x,x<256^100∧V[k]'h=E x):=fun k h=>by
   have h1:=(List.all_eq_true.1 hv) _ (Gm h);have h2:=hs _ (Gm h);obtain⟨x,hx,e⟩:=of_vldB h1;rw[e]at h2;exact⟨x,lt_of_size h2,e⟩
  have Hy:Hid (∀(w':World) (i j k:Nat) (x y z:Value),Bw wx w'→SsAt (((w'.setCell ⟨gR,i,none⟩ x).setCell ⟨gR,j,none⟩ y).setCell ⟨gR,k,none⟩ z).drew (.slice uo m uc) V):=fun w' i j k x y z hb=>SsAt.after ((((SsAt.after hU hb).set_far Ho).set_far Ho).set_far Ho) (Below.drew Br)
  clear hs hv hU;have jE:=Kh HJ;clear HJ;by_cases jn:ti<m
  ·have hZ:ti<V.length:=by rw[HM.out];exact jn
   obtain⟨b,o,rfl,hb,Hp⟩:=SsAt.at_ hW hZ;obtain⟨x,hx,Hz⟩:=jm.out ti hZ;rw[Hz]at Hp;have h6:Hid (∀w,Calls Tryz.prog 65 #[.string (E x),.string (E n)] w fun e w'=>e=.returned (.int .i64 (cmpN x n))∧Bw w w'):=fun w=>rcmp_c x n w (Nl hx P8) (Nl h2 P8)
   have HB:=Kh Hz;clear Hz;have t0:(0:Int)≤(ti:Int):=by omega
   have t1:(ti:Int)<(m:Int):=by omega
   obtain⟨q,hq⟩:∃q:Int,q=cmpN x n:=⟨_,rfl⟩;rw[←hq]at h6;obtain⟨he,hf,hh,hi,hk,hl⟩:=hP.x3;obtain⟨hp,hI,hr,hJ,hw,hK⟩:=hR.x3;obtain⟨hz,hA,hB,hD,hE,hF⟩:=hX.x3;go_wp2_with fail
   refine (h6.out _).mono ?_;rintro e w4 ⟨rfl,hb4⟩;clear he hf hh hi hk hl;clear hp hI hr hJ hw hK;clear hz hA hB hD hE hF;replace ho:=bt ho hb4;replace hP:=hP.after hb4;replace hR:=hR.after hb4;replace hX:=hX.after hb4;replace hW:=SsAt.after hW hb4;have jo:Hid (∀(i j k:Nat) (x y z:Value),SsAt (((w4.setCell ⟨gR,i,none⟩ x).setCell ⟨gR,j,none⟩ y).setCell ⟨gR,k,none⟩ z).drew (.slice uo m uc) V):=fun i j k x y z=>Hy.out w4 i j k x y z hb4
   clear Hy hb4 Hp hb h6;by_cases hS:0≤q
   ·have d1:decide (0≤q)=true:=Dt hS
    have jp:Hid (n≤x):=by
     rw[Hid];apply Classical.byContradiction
     intro HC;have:=cmp_neg x n (by omega);rw[←hq]at this;omega
    have hL:Hid (rr=(2,0)):=h8.out.trans (coinD_big (att:=att) (T:=⟨V,sd,(ti:Int)⟩) (by exact hZ) (by exact HB.out) jp.out);clear hq;have hM:=hR.lt;obtain⟨hp,hI,hr,hJ,hw,hK⟩:=hR.x3;go_wp2;refine bodyPost_ret (v:=.tuple #[.string ⟨#[]⟩,.agg #[.slice none 0 0,.string ⟨#[]⟩,.int .i64 0],.int .i64 2]) ?_ rfl (h9.out _ _ 2 0 hL.out ⟨_,rfl,⟨_,rfl,ss_nil _⟩,TFar.zero _ _ _,((ho.setCell hd.out.2.2.2 _).setCell hd.out.2.2.2 _).setCell hd.out.2.2.2 _⟩);simp[results,Tryz.results198,go_sem,hp,hr,hw,hM]
   ·have d1:decide (0≤q)=false:=decide_eq_false hS
    have HD:Hid (x<n):=by
     rw[Hid];apply Classical.byContradiction
     intro HC;have:=cmp_nneg x n (by omega);rw[←hq]at this;omega
    have hL:Hid (rr=(0,x)):=h8.out.trans (coinD_val (att:=att) (T:=⟨V,sd,(ti:Int)⟩) (by exact hZ) (by exact HB.out) HD.out);clear hq hS;obtain⟨b',o',e',hb,Hp⟩:=SsAt.at_ hW hZ;injection e' with e'
    injection e' with e1 e2 e3
    subst e1 e2;clear e3;rw[HB.out]at Hp;have hM:=hR.lt;have HE:=hX.lt;have HS:=hP.lt;obtain⟨he,hf,hh,hi,hk,hl⟩:=hP.x3;obtain⟨hp,hI,hr,hJ,hw,hK⟩:=hR.x3;obtain⟨hz,hA,hB,hD,hE,hF⟩:=hX.x3;go_wp2_with fail
    go_region;go_wp2;refine bodyPost_ret (v:=.tuple #[.string (E x),.agg #[.slice uo m uc,.string sd,.int .i64 ((ti:Int)+1)],.int .i64 0]) ?_ rfl (h9.out _ _ 0 x hL.out ⟨_,rfl,⟨_,rfl,jo.out _ _ _ _ _ _⟩,TFar.of HR.out,(((ho.setCell hd.out.2.2.2 _).setCell hd.out.2.2.2 _).setCell hd.out.2.2.2 _).drew⟩);simp[results,Tryz.results198,go_sem,hp,hr,hw,hM]
  ·have HF:n<256^128:=Nl h2 P8;have jq:Hid (∀w,Calls Tryz.prog 268 #[.string (E n)] w fun e w'=>e=.returned (.int .i64 (nb n))∧w'=w):=fun w=>(rBits_c n w HF).mono fun e w' h=>⟨h.1,h.2.symm⟩
   have HT:Hid (sd.size≠0→∀(a:Nat),a<256→att sd ti a (nb n)<256^64∧∀(w:World),Calls Tryz.prog 267 #[.string sd,.int .i64 (ti:Int),.int .i64 (a:Int),.int .i64 (nb n)] w fun e w'=>e=.returned (.string (E (att sd ti a (nb n))))∧Bw w w'):=fun Hb a ha=>by
    have jr:=nb_pos n (by omega)
    have js:nb n≤512:=by
     apply Classical.byContradiction
     intro hc;have h3:=nb_low n (by omega);have h5:(2:Nat)^(8*64)≤2^(nb n-1):=Nat.pow_le_pow_right (by decide) (by omega);rw[Nat.pow_mul]at h5;exact Nat.lt_irrefl _ (Nl h2 (Nat.le_trans h5 h3))
    exact Hd.out Hb ti a (nb n) ht ha jr js
   have h6:Hid (∀(x:Nat) (w:World),x<256^64→Calls Tryz.prog 65 #[.string (E x),.string (E n)] w fun e w'=>e=.returned (.int .i64 (cmpN x n))∧Bw w w'):=fun x w hx=>rcmp_c x n w (Nl hx P8) HF
   have t1:¬ (ti:Int)<(m:Int):=by omega
   have d1:decide ((ti:Int)<(m:Int))=false:=decide_eq_false t1;have hZ:V.length≤((ti:Int)).toNat:=by rw[Int.toNat_natCast,HM.out];omega
   have HG:=Kh hZ;clear h2 HF hW hZ Hd;have hM:=hR.lt;by_cases Hb:sd.size=0
   ·have hL:Hid (rr=(14,0)):=h8.out.trans (coinD_no (att:=att) (T:=⟨V,sd,(ti:Int)⟩) HG.out (.inl Hb));obtain rfl:sd=ByteArray.empty:=by apply ByteArray.ext;apply Array.eq_empty_of_size_eq_zero;exact Hb
    obtain⟨he,hf,hh,hi,hk,hl⟩:=hP.x3;obtain⟨hp,hI,hr,hJ,hw,hK⟩:=hR.x3;go_wp2;refine bodyPost_ret (v:=.tuple #[.string ⟨#[]⟩,.agg #[.slice none 0 0,.string ⟨#[]⟩,.int .i64 0],.int .i64 14]) ?_ rfl (h9.out _ _ 14 0 hL.out ⟨_,rfl,⟨_,rfl,ss_nil _⟩,TFar.zero _ _ _,((ho.setCell hd.out.2.2.2 _).setCell hd.out.2.2.2 _).setCell hd.out.2.2.2 _⟩);simp[results,Tryz.results198,go_sem,hp,hr,hw,hM]
   ·have jF:=nz_str (s:=sd) (by omega);by_cases jt:ti=2147483647
    ·have hL:Hid (rr=(14,0)):=h8.out.trans (coinD_no (att:=att) (T:=⟨V,sd,(ti:Int)⟩) HG.out (.inr (by show (ti:Int)=2147483647;omega)));subst jt;obtain⟨he,hf,hh,hi,hk,hl⟩:=hP.x3;obtain⟨hp,hI,hr,hJ,hw,hK⟩:=hR.x3;go_wp2;refine bodyPost_ret (v:=.tuple #[.string ⟨#[]⟩,.agg #[.slice none 0 0,.string ⟨#[]⟩,.int .i64 0],.int .i64 14]) ?_ rfl (h9.out _ _ 14 0 hL.out ⟨_,rfl,⟨_,rfl,ss_nil _⟩,TFar.zero _ _ _,((ho.setCell hd.out.2.2.2 _).setCell hd.out.2.2.2 _).setCell hd.out.2.2.2 _⟩);simp[results,Tryz.results198,go_sem,hp,hr,hw,hM]
    ·have jG:((ti:Int)==2147483647)=false:=by rw[beq_eq_false_iff_ne];omega
     have HU:Hid (rr=coinS att ⟨V,sd,(ti:Int)⟩ n):=h8.out.trans (coinD_s (att:=att) (T:=⟨V,sd,(ti:Int)⟩) HG.out Hb (by show (ti:Int)≠2147483647;omega));have ju:=Kh (HT.out Hb);clear HT h8;have HE:=hX.lt;have HS:=hP.lt;obtain⟨he,hf,hh,hi,hk,hl⟩:=hP.x3;go_wp2;clear he hf hh hi hk hl;go_loopw [8,9] (fun i v wr=>∃a:Nat,a≤256∧i=.int .i64 (a:Int)∧Hid (∀j,j<a→n≤att sd ti j (nb n))∧Bw wx wr) (fun i _ _=>256-(intOf i).toNat)
     case atStart=>exact⟨0,by omega,rfl,fun j h=>absurd h (Nat.not_lt_zero _),Br⟩
     case round =>
      clear hM HE HS;obtain⟨a,ha,rfl,HA,hH⟩:=hrel;obtain⟨wp,jv⟩:∃wp,wp=wr:=⟨_,rfl⟩;subst jv;by_cases hlt:a<256
      ·have Hc:=hP.after hH;have hT:=Kh (ju.out a hlt);have Hq:Hid (att sd ti a (nb n)<n→rr=(0,att sd ti a (nb n))):=fun h=>HU.out.trans (coinS_at (att:=att) (T:=⟨V,sd,(ti:Int)⟩) hlt HA.out h)
       have Hr:Hid (n≤att sd ti a (nb n)→∀j,j<a+1→n≤att sd ti j (nb n)):=fun h j hj=>by
        by_cases e:j=a
        ·rw[e];exact h
        ·exact HA.out j (by omega)
       generalize att sd ti a (nb n)=y at hT Hq Hr;obtain⟨hy,Hi⟩:=hT.out;replace hT:Hid (∀(w:World),Calls Tryz.prog 267 #[.string sd,.int .i64 (ti:Int),.int .i64 (a:Int),.int .i64 (nb n)] w fun e w'=>e=.returned (.string (E y))∧Bw w w'):=Hi;have jw:=Kh hy;clear Hi hy;obtain⟨cl,HV⟩:∃l:List (Addr × Value),l=[(⟨gP,1,none⟩,.string sd),(⟨gP,2,none⟩,.int .i64 (ti:Int))]:=⟨_,rfl⟩;have HW:=Kh HV;clear HV
       have hC:CA wp cl:=by
        rw[HW.out];exact CA.cons Hc.lt (Hc.cell 1) (CA.cons Hc.lt (Hc.cell 2) (CA.nil _))
       go_upto_region 12 with fail
       go_cut [9] (fun s9 wc'=>s9=.string (E y)∧Bw wp wc')
       case first =>
        as_aux_lemma =>
        clear Hc hP hX hR ho h6 hH
        go_region_held3 (fun w'=>w'.cell? ⟨gP,1,none⟩=some (.string sd)∧w'.cell? ⟨gP,2,none⟩=some (.int .i64 (ti:Int))) ((refine CA.k2 ?_;rw[←HW.out];repeat (first | (with_reducible exact jx) | (with_reducible exact hC) | (with_reducible refine CA.drew ?_))))
         (first | (go_at_call 268;(with_reducible refine (jq.out _).mono ?_);rintro e wa ⟨rfl,rfl⟩) | (go_at_call 267;(with_reducible refine (hT.out _).mono ?_);rintro e wb ⟨rfl,HX⟩;have jx:=hC.drew.after HX;have jy:=(Below.drew (Below.refl wp.heap.size wp)).trans HX))
        go_wp2_with fail
        go_meet
        exact⟨rfl,jy⟩
       case rest =>
        as_aux_lemma =>
        obtain⟨rfl,HY⟩:=hcut;obtain⟨wy,jz⟩:∃wx,wx=wc:=⟨_,rfl⟩;subst jz;replace hH:=bt hH HY;clear hC Hc HY;go_wp2_with fail
        refine (h6.out y _ jw.out).mono ?_;rintro e w4 ⟨rfl,hb4⟩;replace hH:=bt hH hb4;clear hb4 h6;obtain⟨q,hq⟩:∃q:Int,q=cmpN y n:=⟨_,rfl⟩;rw[←hq];by_cases hS:q<0
        ·have dq:decide (q<0)=true:=Dt hS
         have HD:Hid (y<n):=by
          rw[Hid];apply Classical.byContradiction
          intro HC;have:=cmp_nneg y n (by omega);rw[←hq]at this;exact this hS
         have hL:=Kh (Hq.out HD.out);clear hq hS Hq Hr;have Hj:=hR.after hH;have HZ:=hX.after hH;have HH:=bt ho hH;have hM:=Hj.lt;have HE:=HZ.lt;obtain⟨hN,Hk,hO,Hl,hQ,Hm⟩:=Hj.x3;obtain⟨H0,H1,H2,H3,H4,H5⟩:=HZ.x3;go_wp2_with fail
         go_region;go_wp2;refine bodyPost_ret (v:=.tuple #[.string (E y),.agg #[.slice uo m uc,.string sd,.int .i64 ((ti:Int)+1)],.int .i64 0]) ?_ rfl (h9.out _ _ 0 y hL.out ⟨_,rfl,⟨_,rfl,Hy.out w4 _ _ _ _ _ _ hH⟩,TFar.of HR.out,(((HH.setCell hd.out.2.2.2 _).setCell hd.out.2.2.2 _).setCell hd.out.2.2.2 _).drew⟩);simp[results,Tryz.results198,go_sem,hN,hO,hQ,hM]
        ·have dq:decide (q<0)=false:=decide_eq_false hS
         have jA:Hid (n≤y):=by
          rw[Hid];apply Classical.byContradiction
          intro HC;exact hS (by rw[hq];exact cmp_neg y n (by omega))
         have jB:=Kh (Hr.out jA.out);clear hq hS Hq Hr;go_wp2;go_roundw
         case rel=>exact⟨a+1,by omega,by go_num,jB.out,hH⟩
         case measure=>simp[intOf];omega
      ·have hL:Hid (rr=(14,0)):=HU.out.trans (coinS_no (att:=att) (T:=⟨V,sd,(ti:Int)⟩) (fun j hj=>HA.out j (by omega)));have Hj:=hR.after hH;have HH:=bt ho hH;have hM:=Hj.lt;obtain⟨hN,Hk,hO,Hl,hQ,Hm⟩:=Hj.x3;go_wp2;refine bodyPost_ret (v:=.tuple #[.string ⟨#[]⟩,.agg #[.slice none 0 0,.string ⟨#[]⟩,.int .i64 0],.int .i64 14]) ?_ rfl (h9.out _ _ 14 0 hL.out ⟨_,rfl,⟨_,rfl,ss_nil _⟩,TFar.zero _ _ _,((HH.setCell hd.out.2.2.2 _).setCell hd.out.2.2.2 _).setCell hd.out.2.2.2 _⟩);simp[results,Tryz.results198,go_sem,hN,hO,hQ,hM]
end
section
open Go.RowKit Go.Shelf
theorem rbelow_v (att:Att) (T:Tp) (v:Value) (n:Nat) (w:World) (hK:RAtt att T.seed) (hB:T.Ok) (h2:n<256^64) (hV:SsAt w v T.vals) :
  Calls Tryz.prog 104 #[.agg #[v,.string T.seed,.int .i64 T.pos],.string (E n)] w (CPost w T (coin att T n)):=by
 have hO:Hid (∀w,Calls Tryz.prog 86 #[.string (E n)] w fun e w'=>e=.returned (.bool true)∧w=w'):=fun w=>rvalidE_c n w (lt64 h2)
 have hx:Hid (∀w',Bw w w'→Calls Tryz.prog 102 #[.agg #[v,.string T.seed,.int .i64 T.pos]] w' fun e w''=>e=.returned (.bool T.good)∧Bw w' w''):=fun w' hb=>rgood_v T v w' hB (SsAt.after hV hb)
 have hp:Hid (T.good=true→n≠0→∀w',Bw w w'→Calls Tryz.prog 198 #[.agg #[v,.string T.seed,.int .i64 T.pos],.string (E n)] w' (CPost w' T (coinD att T n))):=fun h h1 w' hb=>rdraw_v att T v n w' hK hB h (by omega) h2 (SsAt.after hV hb)
 have hh:Hid (T.good=false→coin att T n=(3,0)):=fun h=>by unfold coin;rw[if_pos h]
 have hr:Hid (T.good=true→n=0→coin att T n=(11,0)):=fun h h0=>by unfold coin;rw[if_neg (by rw[h];decide),if_pos h0]
 have hq:Hid (T.good=true→n≠0→coin att T n=coinD att T n):=fun h h0=>by unfold coin;rw[if_neg (by rw[h];decide),if_neg h0]
 obtain⟨ao,c,rfl⟩:=RAt.form hV;generalize coin att T n=rr at hh hr hq ⊢;generalize coinD att T n=rd at hp hq;generalize T.good=tg at hx hp hh hr hq;generalize T.vals.length=m at hx hp ⊢;obtain⟨hP,hR,hf⟩:=blk2 w #[.slice ao m c,.string T.seed,.int .i64 T.pos] #[.slice none 0 0,.string ⟨#[]⟩,.int .i64 0] 33 33;obtain⟨gR,hL⟩:∃g,w.heap.size+1=g:=⟨_,rfl⟩;have hg:Hid (w.heap.size≤gR):=by rw[Hid];omega
 have hM:=Kh hL;clear hK hB h2 hV hL;obtain⟨hi,hj,hk,hl,hm,hn⟩:=hP.x3;go_enter Tryz.func104,Tryz.ntmps104
 go_wp2_with fail
 refine (hx.out _ hf).mono ?_;rintro e w2 ⟨rfl,hy⟩;clear hi hj hk hl hm hn;replace hP:=hP.after hy;replace hR:=hR.after hy;replace hf:=bt hf hy;clear hy hx;rw[hM.out]at hR ⊢;clear hM;replace hP:Blk w2 w.heap.size 33 [.slice ao m c,.string T.seed,.int .i64 T.pos]:=hP;replace hR:Blk w2 gR 33 [.slice none 0 0,.string ⟨#[]⟩,.int .i64 0]:=hR;have hQ:=Kh hR.lt;have ht:=hR.lt;cases tg
 ·have ho:=Kh (hh.out rfl);clear hr hq hp hP;clear hh;obtain⟨hc,hu,hd,hv,he,hw⟩:=hR.x3;go_wp2;refine bodyPost_ret (v:=.tuple #[.string ⟨#[]⟩,.agg #[.slice none 0 0,.string ⟨#[]⟩,.int .i64 0],.int .i64 3]) ?_ rfl ?_
  ·simp[results,Tryz.results104,go_sem,hc,hd,he,ht]
  ·rw[ho.out];exact⟨_,rfl,⟨_,rfl,ss_nil _⟩,TFar.zero _ _ _,((hf.setCell hg.out _).setCell hg.out _).setCell hg.out _⟩
 ·clear hh;have hC:=Kh (hr.out rfl);have hD:=Kh (hq.out rfl);have hE:=Kh (hp.out rfl);clear hr hq hp;go_wp2_with fail
  refine (hO.out _).mono ?_;rintro e w' ⟨rfl,rfl⟩;by_cases h0:n=0
  ·have ho:=Kh (hC.out h0);have hh:=ho;clear hC hD hE hP;subst h0;have hz:=zE (n:=0) rfl;clear hh;obtain⟨hc,hu,hd,hv,he,hw⟩:=hR.x3;go_wp2;refine bodyPost_ret (v:=.tuple #[.string ⟨#[]⟩,.agg #[.slice none 0 0,.string ⟨#[]⟩,.int .i64 0],.int .i64 11]) ?_ rfl ?_
   ·simp[results,Tryz.results104,go_sem,hc,hd,he,ht]
   ·rw[ho.out];exact⟨_,rfl,⟨_,rfl,ss_nil _⟩,TFar.zero _ _ _,((hf.setCell hg.out _).setCell hg.out _).setCell hg.out _⟩
  ·have ho:=Kh (hD.out h0);have HD:=Kh (hE.out h0);have hz:=nzE (n:=n) (by omega);obtain rfl:rr=rd:=ho.out;clear hC hD hE ht h0;obtain⟨hi,hj,hk,hl,hm,hn⟩:=hP.x3;go_wp2_with fail
   refine (HD.out _ hf).mono ?_;rintro e w3 ⟨t,rfl,⟨u,rfl,hU⟩,hF,hG⟩;clear hi hj hk hl hm hn;have hA:=Kh (hF.far hQ.out);replace hF:=hF.mono hf.size;replace hR:=hR.after hG;replace hf:=bt hf hG;clear hG hP HD ho;generalize hN:T.after rr.1=T' at hU hF ⊢;obtain⟨uo,uc,rfl⟩:=RAt.form hU;obtain⟨ul,hH⟩:∃l,l=T'.vals.length:=⟨_,rfl⟩;have hT:=Kh hH;have hS:=Kh hN;rw[←hH]at hU hF hA ⊢;clear hH hN;obtain⟨us,hI⟩:∃s,s=T'.seed:=⟨_,rfl⟩;obtain⟨ut,hJ⟩:∃s,s=T'.pos:=⟨_,rfl⟩;rw[←hI,←hJ]at hF ⊢;have HE:=Kh (And.intro hI hJ);clear hI hJ;have ht:=hR.lt;obtain⟨hc,hu,hd,hv,he,hw⟩:=hR.x3;go_wp2;refine bodyPost_ret (v:=.tuple #[.string (E rr.2),.agg #[.slice uo ul uc,.string us,.int .i64 ut],.int .i64 (rr.1:Int)]) ?_ rfl ⟨_,rfl,?_,hF,((hf.setCell hg.out _).setCell hg.out _).setCell hg.out _⟩
   ·simp[results,Tryz.results104,go_sem,hc,hd,he,ht]
   ·rw[hS.out,HE.out.1,HE.out.2];exact⟨_,rfl,((hU.set_far hA.out).set_far hA.out).set_far hA.out⟩
theorem rsigned_v (att:Att) (T:Tp) (v:Value) (n:Nat) (w:World) (HF:RAtt att T.seed) (Hj:T.Ok) (h2:n<256^60) (hV:SsAt w v T.vals) :
  Calls Tryz.prog 103 #[.agg #[v,.string T.seed,.int .i64 T.pos],.string (E n)] w (SCPost w T (csgn att T n)):=by
 have hE:n<256^64:=Nl h2 P8
 have HG:2*n<256^64:=by
  have:256^60*2≤256^64:=by decide
  omega
 have H6:Hid (∀w,Calls Tryz.prog 86 #[.string (E n)] w fun e w'=>e=.returned (.bool true)∧w=w'):=fun w=>rvalidE_c n w (lt64 hE)
 have Hd:Hid (∀w',Bw w w'→Calls Tryz.prog 102 #[.agg #[v,.string T.seed,.int .i64 T.pos]] w' fun e w''=>e=.returned (.bool T.good)∧Bw w' w''):=fun w' hb=>rgood_v T v w' Hj (SsAt.after hV hb)
 have hG:Hid (T.good=true→n≠0→∀w',Bw w w'→Calls Tryz.prog 198 #[.agg #[v,.string T.seed,.int .i64 T.pos],.string (E (2*n-1))] w' (CPost w' T (coinD att T (2*n-1)))):=fun h h1 w' hb=>rdraw_v att T v (2*n-1) w' HF Hj h (by omega) (by omega) (SsAt.after hV hb)
 have HH:Hid (∀w,Calls Tryz.prog 153 #[.int .u64 1] w fun e w'=>e=.returned (.string (E 1))∧Bw w w'):=fun w=>rof_c 1 w (by decide)
 have He:Hid (n≠0→∀w,Calls Tryz.prog 171 #[.string (E n),.string (E 1)] w fun e w'=>e=.returned (.tuple #[.string (E (n-1)),.int .i64 0])∧Bw w w'):=fun h w=>rsub_c n 1 w (lt64 hE) (by omega)
 have Hf:Hid (n≠0→∀w,Calls Tryz.prog 154 #[.string (E n),.string (E (n-1))] w fun e w'=>e=.returned (.tuple #[.string (E (2*n-1)),.int .i64 0])∧Bw w w'):=fun hn w=>by
  have h:=radd_c n (n-1) w (lt64 hE) (by have:=lt64 hE;omega) (by have:=lt64 HG;omega);rwa [show n+(n-1)=2*n-1 by omega]at h
 have hN:Hid (∀(x:Nat),x<256^64→∀w,Calls Tryz.prog 61 #[.agg #[.bool (sg (x:Int)),.string (E x)],.agg #[.bool (sg ((n-1:Nat):Int)),.string (E (n-1))]] w fun e w'=>e=.returned (.tuple #[.agg #[.bool (sg ((x:Int)-((n-1:Nat):Int))),.string (E ((x:Int)-((n-1:Nat):Int)).natAbs)],.int .i64 0])∧Bw w w'):=fun x hx w=>by
  have h9:(256:Nat)^64+256^64≤256^128:=by decide
  have h:=risub_c (x:Int) ((n-1:Nat):Int) w (by simp;omega) (by simp;omega) (by omega);rwa [Int.natAbs_natCast,Int.natAbs_natCast]at h
 have hO:Hid (∀(x:Nat),x<256^64→∀w,Calls Tryz.prog 145 #[.string (E x)] w fun e w'=>e=.returned (.agg #[.bool (sg (x:Int)),.string (E x)])∧Bw w w'):=fun x hx w=>rifromS_c x w (lt64 hx)
 have hH:Hid (∀w,Calls Tryz.prog 145 #[.string (E (n-1))] w fun e w'=>e=.returned (.agg #[.bool (sg ((n-1:Nat):Int)),.string (E (n-1))])∧Bw w w'):=fun w=>rifromS_c (n-1) w (by have:=lt64 hE;omega)
 have hQ:Hid (n≠0→(coinD att T (2*n-1)).1=0→(coinD att T (2*n-1)).2<256^64):=fun _ h=>by have:=coinD_lt h;omega
 have hS:Hid (T.good=false→csgn att T n=(3,0)):=fun h=>by
  have:T.rdy n=3:=by unfold Tp.rdy;rw[if_pos h]
  unfold csgn;rw[this];rfl
 have hT:Hid (T.good=true→n=0→csgn att T n=(11,0)):=fun h h0=>by
  have:T.rdy n=11:=by unfold Tp.rdy;rw[if_neg (by rw[h];decide),if_pos h0]
  unfold csgn;rw[this];rfl
 have hI:Hid (T.good=true→n≠0→csgn att T n=if (coinD att T (2*n-1)).1=0 then (0,((coinD att T (2*n-1)).2:Int)-((n-1:Nat):Int)) else ((coinD att T (2*n-1)).1,0)):=fun h h0=>by
  have:T.rdy n=0:=by unfold Tp.rdy;rw[if_neg (by rw[h];decide),if_neg h0]
  unfold csgn;rw[this];rfl
 obtain⟨ao,c,rfl⟩:=RAt.form hV;generalize csgn att T n=rr at hS hT hI ⊢;generalize coinD att T (2*n-1)=rd at hG hQ hI;generalize T.good=tg at Hd hG hS hT hI;generalize T.vals.length=m at Hd hG ⊢;obtain⟨hP,hZ,hR,hd⟩:=blk3 w #[.slice ao m c,.string T.seed,.int .i64 T.pos] #[.bool false,.string { data:=#[] }] #[.slice none 0 0,.string ⟨#[]⟩,.int .i64 0] 33 74 33;obtain⟨gZ,HJ⟩:∃g,w.heap.size+1=g:=⟨_,rfl⟩;obtain⟨gR,Hk⟩:∃g,w.heap.size+1+1=g:=⟨_,rfl⟩;have hW:w.heap.size+2=gR:=Hk;have hc:Hid (w.heap.size≤gR∧w.heap.size≤gZ∧gZ≠gR):=by rw[Hid];omega
 have Hl:=Kh HJ;have HK:=Kh Hk;have HL:=Kh hW;clear HF Hj h2 hV hE HG HJ Hk hW;obtain⟨hq,hr,ht,hu,hv,hw⟩:=hP.x3;go_enter Tryz.func103,Tryz.ntmps103
 go_wp2_with fail
 refine (Hd.out _ hd).mono ?_;rintro e w2 ⟨rfl,h3⟩;clear hq hr ht hu hv hw;replace hP:=hP.after h3;replace hZ:=hZ.after h3;replace hR:=hR.after h3;replace hd:=bt hd h3;clear h3 Hd;rw[HL.out]at hR;rw[Hl.out]at hZ;rw[HK.out,Hl.out];clear Hl HK HL;replace hP:Blk w2 w.heap.size 33 [.slice ao m c,.string T.seed,.int .i64 T.pos]:=hP;replace hZ:Blk w2 gZ 74 [.bool false,.string { data:=#[] }]:=hZ;replace hR:Blk w2 gR 33 [.slice none 0 0,.string ⟨#[]⟩,.int .i64 0]:=hR;have h4:=hc.out.2.2;have hl:¬ gR=gZ:=fun e=>h4 e.symm
 have hm:=hZ.lt;have ho:=hR.lt;cases tg
 ·have hp:=Kh (hS.out rfl);clear hS hT hI hG hQ He Hf hN hO hH hP;obtain⟨hy,Hm,hA,Hn⟩:=hZ.x2;obtain⟨hB,Ho,hC,Hp,hD,Hq⟩:=hR.x3;go_wp2;refine bodyPost_ret (v:=.tuple #[.agg #[.bool false,.string ⟨#[]⟩],.agg #[.slice none 0 0,.string ⟨#[]⟩,.int .i64 0],.int .i64 3]) ?_ rfl ?_
  ·simp[results,Tryz.results103,go_sem,hy,hA,hB,hC,hD,hm,ho,h4,hl]
  ·rw[hp.out];exact⟨_,by rw[E0v];rfl,(by rw[tp_after (by decide)];exact⟨_,rfl,ss_nil _⟩),TFar.zero _ _ _,((((hd.setCell hc.out.2.1 _).setCell hc.out.2.1 _).setCell hc.out.1 _).setCell hc.out.1 _).setCell hc.out.1 _⟩
 ·clear hS;have Hr:=Kh (hT.out rfl);have Hs:=Kh (hI.out rfl);have Ht:=Kh (hG.out rfl);clear hT hI hG;go_wp2_with fail
  refine (H6.out _).mono ?_;rintro e w' ⟨rfl,rfl⟩;by_cases h0:n=0
  ·have hp:=Kh (Hr.out h0);clear Hr Hs Ht hQ He Hf hN hO hH hP;subst h0;have hz:=zE (n:=0) rfl;obtain⟨hy,Hm,hA,Hn⟩:=hZ.x2;obtain⟨hB,Ho,hC,Hp,hD,Hq⟩:=hR.x3;go_wp2;refine bodyPost_ret (v:=.tuple #[.agg #[.bool false,.string ⟨#[]⟩],.agg #[.slice none 0 0,.string ⟨#[]⟩,.int .i64 0],.int .i64 11]) ?_ rfl ?_
   ·simp[results,Tryz.results103,go_sem,hy,hA,hB,hC,hD,hm,ho,h4,hl]
   ·rw[hp.out];exact⟨_,by rw[E0v];rfl,(by rw[tp_after (by decide)];exact⟨_,rfl,ss_nil _⟩),TFar.zero _ _ _,((((hd.setCell hc.out.2.1 _).setCell hc.out.2.1 _).setCell hc.out.1 _).setCell hc.out.1 _).setCell hc.out.1 _⟩
  ·have HC:=Kh (Hs.out h0);have HD:=Kh (Ht.out h0);have HM:=Kh (He.out h0);have HN:=Kh (Hf.out h0);have he:=Kh (hQ.out h0);have hz:=nzE (n:=n) (by omega);clear Hr Hs Ht He Hf hQ ho hm h0;go_wp2_with fail
   refine (HH.out _).mono ?_;rintro e w3 ⟨rfl,HO⟩;go_wp2_with fail
   refine (HM.out _).mono ?_;rintro e w4 ⟨rfl,hb4⟩;go_wp2_with fail
   refine (HN.out _).mono ?_;rintro e w5 ⟨rfl,HP⟩;have h5:=bt HO (bt hb4 HP);replace hP:=hP.after h5;replace hZ:=hZ.after h5;replace hR:=hR.after h5;replace hd:=bt hd h5;clear HO hb4 HP h5 HN HM HH;have H7:=Kh hR.lt;have H8:=Kh hZ.lt;obtain⟨hq,hr,ht,hu,hv,hw⟩:=hP.x3;go_wp2_with fail
   refine (HD.out _ hd).mono ?_;rintro e w7 ⟨t,rfl,⟨u,rfl,hU⟩,hF,Hg⟩;clear hq hr ht hu hv hw;have Hh:=Kh (hF.far H7.out);have Hu:=Kh (hF.far H8.out);replace hF:=hF.mono hd.size;replace hZ:=hZ.after Hg;replace hR:=hR.after Hg;replace hd:=bt hd Hg;clear Hg hP HD;obtain⟨T',Hv⟩:∃T',T'=T.after rd.1:=⟨_,rfl⟩;have HQ:=Kh Hv;rw[←Hv]at hU hF ⊢;obtain⟨uo,uc,rfl⟩:=RAt.form hU;obtain⟨ul,HR⟩:∃l,l=T'.vals.length:=⟨_,rfl⟩;rw[←HR]at hU hF Hh Hu ⊢;obtain⟨us,Hw⟩:∃s,s=T'.seed:=⟨_,rfl⟩;obtain⟨ut,Hx⟩:∃s,s=T'.pos:=⟨_,rfl⟩;rw[←Hw,←Hx]at hF ⊢;have HE:=Kh (And.intro Hw Hx);clear Hw Hx HR Hv;obtain⟨x,hx⟩:∃x,x=rd.2:=⟨_,rfl⟩;obtain⟨ke,Hy⟩:∃x,x=rd.1:=⟨_,rfl⟩;rw[←hx,←Hy]at HC he ⊢;rw[←Hy]at HQ;clear hx Hy;obtain⟨hX,hJ⟩:=blk1 w7 #[.slice uo ul uc,.string us,.int .i64 ut] 33;have Hz:Hid (gZ<w7.heap.size∧gR<w7.heap.size):=⟨hZ.lt,hR.lt⟩;by_cases hk:ke=0
   ·subst hk;have hp:Hid (rr=(0,(x:Int)-((n-1:Nat):Int))):=by rw[Hid,HC.out,if_pos rfl]
    have HI:=Kh (fun w=>hN.out x (he.out rfl) w);have HS:=Kh (fun w=>hO.out x (he.out rfl) w);generalize (x:Int)-((n-1:Nat):Int)=z at HI hp;generalize n-1=l at HI hH ⊢;clear HC hN hO he;go_wp2_with fail
    refine (HS.out _).mono ?_;rintro e wf ⟨rfl,HT⟩;go_wp2_with fail
    refine (hH.out _).mono ?_;rintro e wg ⟨rfl,HU⟩;go_wp2_with fail
    refine (HI.out _).mono ?_;rintro e w8 ⟨rfl,h6⟩;replace h6:=bt HT (bt HU h6);have hb9:=bt hJ h6;replace hX:=hX.after h6;replace hZ:=hZ.after hb9;replace hR:=hR.after hb9;have HV:=SsAt.after hU hb9;replace hd:=bt hd hb9;clear h6 hb9 hJ HI hU HT HU HS hH;obtain⟨gX,HW⟩:∃g,w7.heap.size=g:=⟨_,rfl⟩;rw[HW]at hX Hz ⊢;clear HW;have HA:Hid (gZ<w8.heap.size∧gR<w8.heap.size):=⟨hZ.lt,hR.lt⟩;replace hX:Blk w8 gX 33 [.slice uo ul uc,.string us,.int .i64 ut]:=hX;obtain⟨hY,hK⟩:=blk1 w8 #[.bool (sg z),.string (E z.natAbs)] 74;have HX:=hX.lt;have hm:=hZ.lt;have ho:=hR.lt;have HB:=hX.after hK;have hL:=hZ.after hK;have hM:=hR.after hK;have HY:=SsAt.after HV hK;have Hi:=bt hd hK;clear hX hZ hR HV hd hK HX hm ho;go_upto_region 13 with fail
    generalize w8.alloc (.cells #[.bool (sg z),.string (E z.natAbs)] 74)=w9 at hY HB hL hM HY Hi ⊢;obtain⟨gY,HZ⟩:∃g,w8.heap.size=g:=⟨_,rfl⟩;rw[HZ]at hY HA ⊢;clear HZ;replace hY:Blk w9 gY 74 [.bool (sg z),.string (E z.natAbs)]:=hY;have HX:=HB.lt;have hm:=hL.lt;have ho:=hM.lt;have je:=hY.lt;have n1:¬ gX=gZ:=by have:=Hz.out.1;omega
    have n2:¬ gX=gR:=by have:=Hz.out.2;omega
    have n3:¬ gY=gZ:=by have:=HA.out.1;omega
    have n4:¬ gY=gR:=by have:=HA.out.2;omega
    have m1:¬ gZ=gX:=fun e=>n1 e.symm
    have m2:¬ gR=gX:=fun e=>n2 e.symm
    obtain⟨H0,H1,H2,H3,H4,H5⟩:=HB.x3;obtain⟨H9,ja,jb,jc⟩:=hY.x2;obtain⟨hf,h7,hg,h8⟩:=hL.x2;obtain⟨hh,Ha,hi,Hb,hj,Hc⟩:=hM.x3;go_wp2_with fail
    go_region;go_wp2;refine bodyPost_ret (v:=.tuple #[.agg #[.bool (sg (z)),.string (E (z).natAbs)],.agg #[.slice uo ul uc,.string us,.int .i64 ut],.int .i64 0]) ?_ rfl ?_
    ·simp[results,Tryz.results103,go_sem,hf,hg,hh,hi,hj,hm,ho,h4,hl]
    ·rw[hp.out];refine⟨_,rfl,?_,hF,(((((Hi.setCell hc.out.2.1 _).setCell hc.out.2.1 _).setCell hc.out.1 _).setCell hc.out.1 _).setCell hc.out.1 _).drew⟩;show TAt _ _ (T.after 0);rw[←HQ.out,HE.out.1,HE.out.2];exact⟨_,rfl,SsAt.after (((((HY.set_far Hu.out).set_far Hu.out).set_far Hh.out).set_far Hh.out).set_far Hh.out) (Below.drew Br)⟩
   ·have jf:((ke:Int) != 0)=true:=by rw[bne_iff_ne];omega
    have hp:Hid (rr=(ke,0)):=by rw[Hid,HC.out,if_neg hk]
    have jd:=Kh (tp_after (T:=T) hk);have hL:=hZ.after hJ;have hM:=hR.after hJ;have Hi:=bt hd hJ;have hm:=hL.lt;have ho:=hM.lt;clear hk HC hX hZ hR hd hJ hN hO hH he;obtain⟨hf,h7,hg,h8⟩:=hL.x2;obtain⟨hh,Ha,hi,Hb,hj,Hc⟩:=hM.x3;go_wp2;refine bodyPost_ret (v:=.tuple #[.agg #[.bool false,.string ⟨#[]⟩],.agg #[.slice none 0 0,.string ⟨#[]⟩,.int .i64 0],.int .i64 (ke:Int)]) ?_ rfl ?_
    ·simp[results,Tryz.results103,go_sem,hf,hg,hh,hi,hj,hm,ho,h4,hl]
    ·rw[hp.out];exact⟨_,by rw[E0v],(by show TAt _ _ (T.after ke);rw[jd.out];exact⟨_,rfl,ss_nil _⟩),TFar.zero _ _ _,((((Hi.setCell hc.out.2.1 _).setCell hc.out.2.1 _).setCell hc.out.1 _).setCell hc.out.1 _).setCell hc.out.1 _⟩
end
section
/- Lists of integers that are equal: the reference says so. -/
open Go.RowKit Go.Shelf
end
section
open Go.RowKit Go.Shelf
theorem ratt (sd:ByteArray) (hs:sd.size≤1000):RAtt attN sd:=fun _ p a k h1 h2 h3 h4=>⟨(att_num sd p a k h4).2,fun W=>by
 rw[←(att_num sd p a k h4).1];exact rattempt_v sd p a k W hs h1 h2 h3 h4⟩
end
end Go.Proofs.YtihjpddbjhcbmaaGreatDoor
