import Derived.Test.YtdgddpnjkinciaaGreatDoorCo2
set_option linter.all false
set_option maxRecDepth 100000
set_option maxHeartbeats 16000000
namespace Go.Proofs.YtdgddpnjkinciaaGreatDoor
section
open Go.RowKit Go.Shelf
theorem ss_src {w:World} {ao:Option Addr} {m c:Nat} {V:List ByteArray} (h:SsAt w (.slice ao m c) V) (h0:V.length≠0):∃ad,ao=some ad∧∀j u,(V.map Value.string)[j]?=some u→w.cell? (ad.add j)=some u:=by
 obtain⟨ao',c',hf,hd⟩:=h;rcases hd with hd | ⟨b,o,rfl,hb,hd⟩
 ·exact absurd hd h0
 ·injection hf with e1 e2 e3
  refine⟨_,e1,fun j u hj=>?_⟩;rw[List.getElem?_map]at hj;by_cases he:j<V.length
  ·obtain⟨cs,hq,hc⟩:=hd j he;rw[List.getElem?_eq_getElem he]at hj;have h:=hc 0 (by omega);rw[show (⟨b,o,none⟩:Addr).add j=⟨b,o+j*1+0,none⟩ by rw[Addr.add_lit];simp,h,hq];simpa using hj
  ·rw[List.getElem?_eq_none (by omega)]at hj;simp at hj
theorem ss_far {w:World} {v:Value} {V:List ByteArray} {g:Nat} (h:SsAt w v V) (hg:w.heap.size≤g):FarS v g:=fun b9 o9 n9 c9 e9 h9=>by
 obtain⟨ao',c',hb,hc⟩:=h;rcases hc with hc | ⟨b8,o8,e8,hd,_⟩
 ·have h:=hb.symm.trans e9;injection h with h h2 h3
  omega
 ·have h:=hb.symm.trans e9;injection h with h
  rw[e8]at h;injection h with h
  injection h with h
  omega
theorem blk_row {w:World} {g k:Nat} {T:TypeId} {cs:List Value} {xs:Array Value} (h:Blk w k T cs) (hb:k≠g):Blk (w.setRow g xs) k T cs:=by
 rw[Blk,setRow_other w g k xs hb];exact h
theorem ss_blk {w:World} {g:Nat} {V:List ByteArray} (c:Nat) (h:Blk w g 22 (V.map Value.string)):SsAt w (.slice (some ⟨g,0,none⟩) V.length c) V:=by
 refine⟨_,_,rfl,.inr ⟨g,0,rfl,h.lt,fun j hj=>⟨[.string V[j]],rfl,fun i hi=>?_⟩⟩⟩;obtain rfl:i=0:=by omega
 have h2:=h.cell j;rw[List.getElem?_map,List.getElem?_eq_getElem hj]at h2;simpa using h2
theorem ss_row {w:World} {g:Nat} {v:Value} {V:List ByteArray} {xs:Array Value} (h:SsAt w v V) (hf:FarS v g):SsAt (w.setRow g xs) v V:=by
 obtain⟨ao,c',rfl,h⟩:=h;refine⟨ao,c',rfl,?_⟩;by_cases h0:V.length=0
 ·exact .inl h0
 rcases h with h | ⟨b,o,rfl,h2,h3⟩
 ·exact .inl h
 ·have hb:b≠g:=hf _ _ _ _ rfl h0;refine .inr ⟨b,o,rfl,by simpa [World.setRow] using h2,fun j hj=>?_⟩;obtain⟨cs,hq,hc⟩:=h3 j hj;refine⟨cs,hq,fun i2 hi=>?_⟩;rw[←hc i2 hi];exact World.cell?_of_block (setRow_other w g b xs hb)
set_option exponentiation.threshold 600 in
theorem cdraw_c (att:Att) (T:Tp) (v:Value) (n:Nat) (w:World) (HL:HAtt att T.seed w) (Ht:T.Ok) (hg:T.good=true) (h1:1≤n) (h2:n<256^64) (hV:SsAt w v T.vals) :
  Calls Tryz.prog 99 #[.agg #[v,.string T.seed,.int .i64 T.pos],.string (E n)] w (CPost w T (coinD att T n)):=by
 obtain⟨V,sd,pz⟩:=T;have HU:=hg;unfold Tp.good at hg;simp only[Bool.and_eq_true,decide_eq_true_eq]at hg;obtain⟨HN,HO,HV⟩:=hg;obtain⟨ti,rfl⟩:=Int.eq_ofNat_of_zero_le HO;have HW:ti≤2147483647:=by omega
 have HP:=Kh HL;obtain⟨rr,Hu⟩:∃r,r=coinD att ⟨V,sd,(ti:Int)⟩ n:=⟨_,rfl⟩;have Ha:=Kh Hu;rw[←Hu];have H3:Hid (∀(e:Ending) (w':World) (k x:Nat),rr=(k,x)→CPost w ⟨V,sd,(ti:Int)⟩ (k,x) e w'→CPost w ⟨V,sd,(ti:Int)⟩ rr e w'):=fun e w' k x h h'=>by rw[h];exact h'
 have Hv:Hid (∀k (h:k<V.length),∃x,x<256^100∧V[k]'h=E x):=fun k h=>by
  have h1:=(List.all_eq_true.1 HN) _ (Gm h);have h2:=Ht.s _ (Gm h);obtain⟨x,hx,e⟩:=of_vldB h1;rw[e]at h2;exact⟨x,lt_of_size h2,e⟩
 have h7:V.length≤100:=Ht.n;have HQ:∀(m:Nat) (W:World),m≤100→(Instr.makeSlice 33 (.int .i64 (m:Int)) (.int .i64 (m:Int))).run Tryz.prog W=.ok (.slice (some ⟨W.heap.size,0,none⟩) m m) (W.alloc (.cells (List.replicate m (Value.string { data:=#[] })).toArray 22)):=fun m W h=>run_mks (P:=Tryz.prog) Tryz.underlying33 info_nat m (by omega) (by omega) W
 simp only[]at hV;obtain⟨ao,c,rfl⟩:=RAt.form hV;obtain⟨m,hm⟩:∃m,V.length=m:=⟨_,rfl⟩;have HM:=Kh hm;rw[hm]at hV h7 ⊢;have Hb:=fun W=>HQ m W h7
 clear HQ hm Ht HN HO HV HU HL Hu;obtain⟨Zs,Hw⟩:∃l,l=List.replicate m (Value.string { data:=#[] }):=⟨_,rfl⟩;have Hn:Hid (Zs.length=m):=by rw[Hid,Hw];simp
 rw[←Hw]at Hb;clear Hw;obtain⟨hP,hR,hp⟩:=blk2 w #[.slice ao m c,.string sd,.int .i64 (ti:Int)] #[.slice none 0 0,.string ⟨#[]⟩,.int .i64 0] 35 35;replace hV:=SsAt.after hV hp;obtain⟨hd,he,hf,hh,hi,hk⟩:=hP.x3;go_enter Tryz.func99,Tryz.ntmps99
 go_upto_region 1 with fail
 clear hd he hf hh hi hk;generalize (w.alloc (.cells #[.slice ao m c,.string sd,.int .i64 (ti:Int)] 35)).alloc (.cells #[.slice none 0 0,.string ⟨#[]⟩,.int .i64 0] 35)=w1 at hP hR hp hV ⊢;obtain⟨gP,Hx⟩:∃g,w.heap.size=g:=⟨_,rfl⟩;obtain⟨gR,Hy⟩:∃g,w.heap.size+1=g:=⟨_,rfl⟩;have hr:Hid (w.heap.size≤gR):=by rw[Hid];omega
 have Ho:Hid (gP≠gR∧gP<w1.heap.size∧gR<w1.heap.size):=⟨by omega,hP.lt |> fun h=>by omega,hR.lt |> fun h=>by omega⟩;rw[Hy,Hx];rw[Hy]at hR;rw[Hx]at hP;clear Hx Hy;replace hP:Blk w1 gP 35 [.slice ao m c,.string sd,.int .i64 (ti:Int)]:=hP;replace hR:Blk w1 gR 35 [.slice none 0 0,.string ⟨#[]⟩,.int .i64 0]:=hR;have h8:∀w,Calls Tryz.prog 131 #[.string (E n)] w fun e w'=>e=.returned (.int .i64 (nb n))∧w=w':=fun w=>bits_c n w (Nl h2 P8)
 have HX:=Kh h8;have Hz:Hid (∀(x:Nat) (w:World),x<256^100→Calls Tryz.prog 33 #[.string (E x),.string (E n)] w fun e w'=>e=.returned (.int .i64 (cmpN x n))∧w=w'):=fun x w hx=>cmp_c x n w (Nl hx P8) (Nl h2 P8)
 have HR:Hid (1≤nb n∧nb n≤512):=by
  refine⟨nb_pos n (by omega),?_⟩;apply Classical.byContradiction
  intro hc;have h3:=nb_low n (by omega);have h5:(2:Nat)^(8*64)≤2^(nb n-1):=Nat.pow_le_pow_right (by decide) (by omega);rw[Nat.pow_mul]at h5;exact Nat.lt_irrefl _ (Nl h2 (Nat.le_trans h5 h3))
 clear h8 h2;have hB:=hR.lt;by_cases Hj:ti<m
 ·have Hh:ti<V.length:=by rw[HM.out];exact Hj
  obtain⟨b,o,rfl,hb,HY⟩:=SsAt.at_ hV Hh;obtain⟨x,hx,HB⟩:=Hv.out ti Hh;have HC:=Kh HB;rw[HB]at HY;have Hc:=Kh (fun w=>Hz.out x w hx);clear HB Hz;have t0:(0:Int)≤(ti:Int):=by omega
  have t1:(ti:Int)<(m:Int):=by omega
  have t3:¬ (m:Int)≤(ti:Int):=by omega
  have t4:((ti:Int)==2147483647)=false:=by rw[beq_eq_false_iff_ne];omega
  obtain⟨q,hq⟩:∃q:Int,q=cmpN x n:=⟨_,rfl⟩;rw[←hq]at Hc;obtain⟨hd,he,hf,hh,hi,hk⟩:=hP.x3;go_wp2_with fail
  refine (Hc.out _).mono ?_;rintro e w' ⟨rfl,rfl⟩;clear hd he hf hh hi hk;clear Hc;rcases Nat.lt_or_ge x n with hy | hy
  ·have d1:decide (0≤q)=false:=decide_eq_false (by rw[hq];have:=cmp_neg x n hy;omega);have hC:Hid (rr=(0,x)):=Ha.out.trans (coinD_val (att:=att) (T:=⟨V,sd,(ti:Int)⟩) (by exact Hh) (by exact HC.out) hy);clear hq hy;obtain⟨hd,he,hf,hh,hi,hk⟩:=hP.x3;have h4:gP<w1.heap.size:=Ho.out.2.1;go_upto_region 5 with fail
   go_cut [7] (fun s7 wx=>∃gX gS,s7=.pointer (some ⟨gX,0,none⟩)∧gX≠gS∧w1.heap.size≤gX∧w1.heap.size≤gS∧Blk wx gX 35 [.slice (some ⟨gS,0,none⟩) m m,.string sd,.int .i64 ((ti:Int)+1)]∧Blk wx gS 22 Zs∧Bw w1 wx)
   case first =>
    go_region
    all_goals
     go_wp2_with fail
     go_meet
     first
      | exact⟨w1.heap.size+1,w1.heap.size,rfl,by omega,by omega,by omega,(blkN (by simp)).drew,((Blk.new w1 Zs.toArray _).alloc _).drew,(ba (b1 _ _) _).drew⟩
      | exact⟨w1.heap.size,w1.heap.size+1,rfl,by omega,by omega,by omega,((Blk.new w1 #[.slice (some ⟨w1.heap.size+1,0,none⟩) m m,.string sd,.int .i64 ((ti:Int)+1)] _).alloc _).drew,(blkN (cs:=Zs.toArray) (by simp)).drew,(ba (b1 _ _) _).drew⟩
   case rest =>
   obtain⟨gX,gS,rfl,Hi,HD,Hk,hX,Hd,hD⟩:=hcut;obtain⟨wx,HE⟩:∃wx,wx=wc:=⟨_,rfl⟩;subst HE;clear hd he hf hh hi hk
   have ht:Hid (w.heap.size≤gX∧w.heap.size≤gS∧gX≠gR∧gS≠gR∧gX≠gS∧gP≠gS):=by
    have h1:=Ho.out;have h2:=hp.size;exact⟨by omega,by omega,by omega,by omega,Hi,by omega⟩
   have hz:=hP.after hD;have He:=hR.after hD;have h6:=SsAt.after hV hD;have Hf:=ss_far hV Hk;have hA:=bt hp hD;clear hP hR hV hp hD hB Hb Hi HD Hk h4;replace hz:Blk wx gP 35 [.slice (some ⟨b,o,none⟩) m c,.string sd,.int .i64 (ti:Int)]:=hz;replace hX:Blk wx gX 35 [.slice (some ⟨gS,0,none⟩) m m,.string sd,.int .i64 ((ti:Int)+1)]:=hX;obtain⟨hE,hF,hG,hH,hI,hJ⟩:=hz.x3;obtain⟨hK,hL,hM,hN,hO,hQ⟩:=hX.x3;have h4:=hz.lt;have Hl:=hX.lt;go_upto_region 6 with fail
   go_cut [59] (fun s59 wy=>Blk wy gX 35 [.slice (some ⟨gS,0,none⟩) m m,.string sd,.int .i64 ((ti:Int)+1)]∧Blk wy gP 35 [.slice (some ⟨b,o,none⟩) m c,.string sd,.int .i64 (ti:Int)]∧Blk wy gR 35 [.slice none 0 0,.string ⟨#[]⟩,.int .i64 0]∧SsAt wy (.slice (some ⟨gS,0,none⟩) m m) V∧SsAt wy (.slice (some ⟨b,o,none⟩) m c) V∧Bw w wy)
   case first =>
    by_cases hv:m=0
    ·have HF:Hid (V=[]):=List.length_eq_zero_iff.1 (by rw[HM.out];exact hv);have HG:=Kh hv;have Hg:=run_copy_none (P:=Tryz.prog) wx 33 33 3 22 (some ⟨gS,0,none⟩) (some ⟨b,o,none⟩) m m m c Tryz.underlying33 (by kernel_rfl) (by rw[hv];rfl);clear hv;go_wp2;go_meet
     refine⟨hX,hz,He,?_,h6,hA⟩;have hv:=HG.out;subst hv;rw[HF.out];exact⟨_,_,rfl,.inl rfl⟩
    ·have Hm:V.length≠0:=by rw[HM.out];exact hv
     obtain⟨ad,e,hw⟩:=ss_src h6 Hm;have Hg:=run_copy_row (P:=Tryz.prog) wx 33 33 3 22 gS 0 m m ad m c Zs.toArray 22 (V.map Value.string) Tryz.underlying33 (by kernel_rfl) Hd (by rw[List.length_map,HM.out];exact (Nat.min_self m).symm) hw (by rw[List.length_map,HM.out,List.size_toArray,Hn.out];omega) (by intro u hu;obtain⟨x,_,rfl⟩:=List.mem_map.1 hu;rfl)
     have hS:Blk (wx.setRow gS (Zs.toArray.toList.take 0++V.map Value.string++Zs.toArray.toList.drop (0+(V.map Value.string).length)).toArray) gS 22 (V.map Value.string):=by
      have h:=setRow_heap wx gS Zs.toArray (Zs.toArray.toList.take 0++V.map Value.string++Zs.toArray.toList.drop (0+(V.map Value.string).length)).toArray 22 (0,0) Hd;have e:Zs.drop (0+(V.map Value.string).length)=[]:=List.drop_eq_nil_of_le (by rw[List.length_map,HM.out,Hn.out];omega);rw[Blk,h];show some (Obj.cells (Zs.take 0++V.map Value.string++Zs.drop (0+(V.map Value.string).length)).toArray _ _)=_;rw[e,List.take_zero,List.nil_append,List.append_nil]
     generalize (Zs.toArray.toList.take 0++V.map Value.string++Zs.toArray.toList.drop (0+(V.map Value.string).length)).toArray=xs at Hg hS;generalize (V.map Value.string).length=nl at Hg;clear hw hv Hm;first | subst e | (injection e with e;subst e)
     go_wp2;go_meet
     refine⟨blk_row hX ht.out.2.2.2.2.1,blk_row hz ht.out.2.2.2.2.2,blk_row He ht.out.2.2.2.1.symm,?_,ss_row h6 Hf,below_setRow hA ht.out.2.1 _⟩;have h:=ss_blk m hS;rw[HM.out]at h;exact h
   case rest =>
   clear hE hF hG hH hI hJ;clear hK hL hM hN hO hQ;clear hz hX He h6 hA h4 Hl Hd;obtain⟨hX,hP,hR,hU,hV,hp⟩:=hcut;obtain⟨wy,HH⟩:∃wx,wx=wc:=⟨_,rfl⟩;subst HH;clear Ha Hv d1;obtain⟨b2,o2,e2,H4,HZ⟩:=SsAt.at_ hV Hh;injection e2 with e2
   injection e2 with e1 e3 e4
   subst e1 e3;clear e4;rw[HC.out]at HZ;have hB:=hR.lt;have Hl:=hX.lt;have h4:=hP.lt;obtain⟨hl,hT,hn,hY,ho,hZ⟩:=hR.x3;obtain⟨hK,hL,hM,hN,hO,hQ⟩:=hX.x3;obtain⟨hd,he,hf,hh,hi,hk⟩:=hP.x3;go_wp2_with fail
   go_region;go_wp2;refine bodyPost_ret (v:=.tuple #[.string (E x),.agg #[.slice (some ⟨gS,0,none⟩) m m,.string sd,.int .i64 ((ti:Int)+1)],.int .i64 0]) ?_ rfl ?_
   ·simp[results,Tryz.results99,go_sem,hl,hn,ho,hB]
   ·rw[hC.out];exact⟨_,rfl,⟨_,rfl,SsAt.after (((hU.set_other ht.out.2.2.2.1).set_other ht.out.2.2.2.1).set_other ht.out.2.2.2.1) (Below.drew Br)⟩,TFar.of (fun b hb b' o n c e _=>by injection e with e;injection e with e;injection e with e;have:=ht.out.2.1;omega),(((hp.setCell hr.out _).setCell hr.out _).setCell hr.out _).drew⟩
  ·have d1:decide (0≤q)=true:=Dt (by rw[hq];have:=cmp_nneg x n hy;omega);have hC:Hid (rr=(2,0)):=Ha.out.trans (coinD_big (att:=att) (T:=⟨V,sd,(ti:Int)⟩) (by exact Hh) (by exact HC.out) hy);clear hq hy;obtain⟨hl,hT,hn,hY,ho,hZ⟩:=hR.x3;go_wp2;refine bodyPost_ret (v:=.tuple #[.string ⟨#[]⟩,.agg #[.slice none 0 0,.string ⟨#[]⟩,.int .i64 0],.int .i64 2]) ?_ rfl ?_
   ·simp[results,Tryz.results99,go_sem,hl,hn,ho,hB]
   ·rw[hC.out];exact⟨_,rfl,⟨_,rfl,ss_nil _⟩,TFar.zero _ _ _,((hp.setCell hr.out _).setCell hr.out _).setCell hr.out _⟩
 ·have Hh:¬ ti<V.length:=by rw[HM.out];exact Hj
  have t1:¬ (ti:Int)<(m:Int):=by omega
  have t3:(m:Int)≤(ti:Int):=by omega
  have Hp:V.length≤((ti:Int)).toNat:=by rw[Int.toNat_natCast];omega
  by_cases Hq:sd.size=0
  ·have hC:Hid (rr=(14,0)):=Ha.out.trans (coinD_no (att:=att) (T:=⟨V,sd,(ti:Int)⟩) Hp (.inl Hq));obtain rfl:sd=ByteArray.empty:=by apply ByteArray.ext;apply Array.eq_empty_of_size_eq_zero;exact Hq
   obtain⟨hd,he,hf,hh,hi,hk⟩:=hP.x3;obtain⟨hl,hT,hn,hY,ho,hZ⟩:=hR.x3;go_wp2;refine bodyPost_ret (v:=.tuple #[.string ⟨#[]⟩,.agg #[.slice none 0 0,.string ⟨#[]⟩,.int .i64 0],.int .i64 14]) ?_ rfl ?_
   ·simp[results,Tryz.results99,go_sem,hl,hn,ho,hB]
   ·rw[hC.out];exact⟨_,rfl,⟨_,rfl,ss_nil _⟩,TFar.zero _ _ _,((hp.setCell hr.out _).setCell hr.out _).setCell hr.out _⟩
  ·have Hi:=nz_str (s:=sd) (by omega);by_cases H0:ti=2147483647
   ·have hC:Hid (rr=(14,0)):=Ha.out.trans (coinD_no (att:=att) (T:=⟨V,sd,(ti:Int)⟩) Hp (.inr (by show (ti:Int)=2147483647;omega)));subst H0;obtain⟨hd,he,hf,hh,hi,hk⟩:=hP.x3;obtain⟨hl,hT,hn,hY,ho,hZ⟩:=hR.x3;go_wp2;refine bodyPost_ret (v:=.tuple #[.string ⟨#[]⟩,.agg #[.slice none 0 0,.string ⟨#[]⟩,.int .i64 0],.int .i64 14]) ?_ rfl ?_
    ·simp[results,Tryz.results99,go_sem,hl,hn,ho,hB]
    ·rw[hC.out];exact⟨_,rfl,⟨_,rfl,ss_nil _⟩,TFar.zero _ _ _,((hp.setCell hr.out _).setCell hr.out _).setCell hr.out _⟩
   ·have H5:((ti:Int)==2147483647)=false:=by rw[beq_eq_false_iff_ne];omega
    have HS:Hid (rr=coinS att ⟨V,sd,(ti:Int)⟩ n):=Ha.out.trans (coinD_s (att:=att) (T:=⟨V,sd,(ti:Int)⟩) Hp Hq (by show (ti:Int)≠2147483647;omega));have HT:Hid (∀a,a<256→att sd ti a (nb n)<256^64∧∀(ao:Option Addr) (m c:Nat) (W:World),Bw w W→Calls Tryz.prog 138 #[.agg #[.slice ao m c,.string sd,.int .i64 (ti:Int)],.int .i64 (a:Int),.int .i64 (nb n)] W fun e w'=>e=.returned (.string (E (att sd ti a (nb n))))∧Bw W w'):=fun a ha=>HP.out Hq ti a (nb n) HW ha HR.out.1 HR.out.2
    clear HP Ha Hp Hv;obtain⟨hd,he,hf,hh,hi,hk⟩:=hP.x3;have h4:gP<w1.heap.size:=Ho.out.2.1;go_upto_region 5 with fail
    go_cut [7] (fun s7 wx=>∃gX gS,s7=.pointer (some ⟨gX,0,none⟩)∧gX≠gS∧w1.heap.size≤gX∧w1.heap.size≤gS∧Blk wx gX 35 [.slice (some ⟨gS,0,none⟩) m m,.string sd,.int .i64 ((ti:Int)+1)]∧Blk wx gS 22 Zs∧Bw w1 wx)
    case first =>
     go_region
     all_goals
      go_wp2_with fail
      go_meet
      first
       | exact⟨w1.heap.size+1,w1.heap.size,rfl,by omega,by omega,by omega,(blkN (by simp)).drew,((Blk.new w1 Zs.toArray _).alloc _).drew,(ba (b1 _ _) _).drew⟩
       | exact⟨w1.heap.size,w1.heap.size+1,rfl,by omega,by omega,by omega,((Blk.new w1 #[.slice (some ⟨w1.heap.size+1,0,none⟩) m m,.string sd,.int .i64 ((ti:Int)+1)] _).alloc _).drew,(blkN (cs:=Zs.toArray) (by simp)).drew,(ba (b1 _ _) _).drew⟩
    case rest =>
    obtain⟨gX,gS,rfl,Hi,HD,Hk,hX,Hd,hD⟩:=hcut;obtain⟨wx,HE⟩:∃wx,wx=wc:=⟨_,rfl⟩;subst HE;clear hd he hf hh hi hk
    have ht:Hid (w.heap.size≤gX∧w.heap.size≤gS∧gX≠gR∧gS≠gR∧gX≠gS∧gP≠gS):=by
     have h1:=Ho.out;have h2:=hp.size;exact⟨by omega,by omega,by omega,by omega,Hi,by omega⟩
    have hz:=hP.after hD;have He:=hR.after hD;have h6:=SsAt.after hV hD;have Hf:=ss_far hV Hk;have hA:=bt hp hD;clear hP hR hV hp hD hB Hb Hi HD Hk h4;replace hz:Blk wx gP 35 [.slice ao m c,.string sd,.int .i64 (ti:Int)]:=hz;replace hX:Blk wx gX 35 [.slice (some ⟨gS,0,none⟩) m m,.string sd,.int .i64 ((ti:Int)+1)]:=hX;obtain⟨hE,hF,hG,hH,hI,hJ⟩:=hz.x3;obtain⟨hK,hL,hM,hN,hO,hQ⟩:=hX.x3;have h4:=hz.lt;have Hl:=hX.lt;go_upto_region 6 with fail
    go_cut [59] (fun s59 wy=>Blk wy gX 35 [.slice (some ⟨gS,0,none⟩) m m,.string sd,.int .i64 ((ti:Int)+1)]∧Blk wy gP 35 [.slice ao m c,.string sd,.int .i64 (ti:Int)]∧Blk wy gR 35 [.slice none 0 0,.string ⟨#[]⟩,.int .i64 0]∧SsAt wy (.slice (some ⟨gS,0,none⟩) m m) V∧SsAt wy (.slice ao m c) V∧Bw w wy)
    case first =>
     by_cases hv:m=0
     ·have HF:Hid (V=[]):=List.length_eq_zero_iff.1 (by rw[HM.out];exact hv);have HG:=Kh hv;have Hg:=run_copy_none (P:=Tryz.prog) wx 33 33 3 22 (some ⟨gS,0,none⟩) ao m m m c Tryz.underlying33 (by kernel_rfl) (by rw[hv];rfl);clear hv;go_wp2;go_meet
      refine⟨hX,hz,He,?_,h6,hA⟩;have hv:=HG.out;subst hv;rw[HF.out];exact⟨_,_,rfl,.inl rfl⟩
     ·have Hm:V.length≠0:=by rw[HM.out];exact hv
      obtain⟨ad,e,hw⟩:=ss_src h6 Hm;have Hg:=run_copy_row (P:=Tryz.prog) wx 33 33 3 22 gS 0 m m ad m c Zs.toArray 22 (V.map Value.string) Tryz.underlying33 (by kernel_rfl) Hd (by rw[List.length_map,HM.out];exact (Nat.min_self m).symm) hw (by rw[List.length_map,HM.out,List.size_toArray,Hn.out];omega) (by intro u hu;obtain⟨x,_,rfl⟩:=List.mem_map.1 hu;rfl)
      have hS:Blk (wx.setRow gS (Zs.toArray.toList.take 0++V.map Value.string++Zs.toArray.toList.drop (0+(V.map Value.string).length)).toArray) gS 22 (V.map Value.string):=by
       have h:=setRow_heap wx gS Zs.toArray (Zs.toArray.toList.take 0++V.map Value.string++Zs.toArray.toList.drop (0+(V.map Value.string).length)).toArray 22 (0,0) Hd;have e:Zs.drop (0+(V.map Value.string).length)=[]:=List.drop_eq_nil_of_le (by rw[List.length_map,HM.out,Hn.out];omega);rw[Blk,h];show some (Obj.cells (Zs.take 0++V.map Value.string++Zs.drop (0+(V.map Value.string).length)).toArray _ _)=_;rw[e,List.take_zero,List.nil_append,List.append_nil]
      generalize (Zs.toArray.toList.take 0++V.map Value.string++Zs.toArray.toList.drop (0+(V.map Value.string).length)).toArray=xs at Hg hS;generalize (V.map Value.string).length=nl at Hg;clear hw hv Hm;first | subst e | (injection e with e;subst e)
      go_wp2;go_meet
      refine⟨blk_row hX ht.out.2.2.2.2.1,blk_row hz ht.out.2.2.2.2.2,blk_row He ht.out.2.2.2.1.symm,?_,ss_row h6 Hf,below_setRow hA ht.out.2.1 _⟩;have h:=ss_blk m hS;rw[HM.out]at h;exact h
    case rest =>
    clear hE hF hG hH hI hJ;clear hK hL hM hN hO hQ;clear hz hX He h6 hA h4 Hl Hd;obtain⟨hX,hP,hR,hU,hV,hp⟩:=hcut;obtain⟨wy,HH⟩:∃wx,wx=wc:=⟨_,rfl⟩;subst HH;obtain⟨hd,he,hf,hh,hi,hk⟩:=hP.x3;go_wp2;clear hd he hf hh hi hk;go_loopw [73] (fun i wr=>∃a:Nat,a≤256∧i=.int .i64 (a:Int)∧Hid (∀j,j<a→n≤att sd ti j (nb n))∧Bw wy wr) (fun i _=>256-(intOf i).toNat)
    case atStart=>exact⟨0,by omega,rfl,fun j h=>absurd h (Nat.not_lt_zero _),Br⟩
    case round =>
     obtain⟨a,ha,rfl,HA,h9⟩:=hrel;obtain⟨wp,H1⟩:∃wp,wp=wr:=⟨_,rfl⟩;subst H1;replace hX:=hX.after h9;replace hP:=hP.after h9;replace hR:=hR.after h9;replace hU:=SsAt.after hU h9;replace hp:=bt hp h9;by_cases hlt:a<256
     ·have h0:Hid (att sd ti a (nb n)<256^64∧∀(ao:Option Addr) (m c:Nat) (W:World),Bw wp W→Calls Tryz.prog 138 #[.agg #[.slice ao m c,.string sd,.int .i64 (ti:Int)],.int .i64 (a:Int),.int .i64 (nb n)] W fun e w'=>e=.returned (.string (E (att sd ti a (nb n))))∧Bw W w'):=⟨(HT.out a hlt).1,fun ao m c W hW=>(HT.out a hlt).2 ao m c W (bt hp hW)⟩;have Hr:Hid (att sd ti a (nb n)<n→rr=(0,att sd ti a (nb n))):=fun h=>HS.out.trans (coinS_at (att:=att) (T:=⟨V,sd,(ti:Int)⟩) hlt HA.out h)
      have Hs:Hid (n≤att sd ti a (nb n)→∀j,j<a+1→n≤att sd ti j (nb n)):=fun h j hj=>by
       by_cases e:j=a
       ·rw[e];exact h
       ·exact HA.out j (by omega)
      generalize att sd ti a (nb n)=x at h0 Hr Hs;have Hc:=Kh (fun w=>Hz.out x w (Nl h0.out.1 P8));obtain⟨hd,he,hf,hh,hi,hk⟩:=hP.x3;have HI:=hP.gcell 0;have HJ:=hP.gcell 1;have HK:=hP.gcell 2;go_upto_region 12 with fail
      go_wp2_with fail
      refine wp_region_gw (by kernel_rfl) (by kernel_rfl) ?_;repeat (go_big_quiet_step (first | (go_at_call 131;exact gw_same (HX.out _)) | (go_at_call 138;exact gw_of (h0.out.2 _ _ _ _ (gw_below _)))))
      refine wpQuiet_nil ?_;rintro w4 ⟨xw4,rfl⟩;have hb4:=gw_below xw4;generalize gw xw4=w4 at hb4;clear hd he hf hh hi hk;clear HI HJ HK;replace hX:=hX.after hb4;replace hP:=hP.after hb4;replace hR:=hR.after hb4;replace hU:=SsAt.after hU hb4;replace hp:=bt hp hb4;replace h9:=bt h9 hb4;clear hb4;obtain⟨q,hq⟩:∃q:Int,q=cmpN x n:=⟨_,rfl⟩;rw[←hq]at Hc;rcases Nat.lt_or_ge x n with hy | hy
      ·have d1:decide (q<0)=true:=Dt (by rw[hq];exact cmp_neg x n hy);have hC:=Kh (Hr.out hy);clear hq hy Hr Hs h0;go_wp2_with fail
       refine (Hc.out _).mono ?_;rintro e w' ⟨rfl,rfl⟩;have hB:=hR.lt;have Hl:=hX.lt;have h4:=hP.lt;obtain⟨hl,hT,hn,hY,ho,hZ⟩:=hR.x3;obtain⟨hK,hL,hM,hN,hO,hQ⟩:=hX.x3;obtain⟨hd,he,hf,hh,hi,hk⟩:=hP.x3;go_wp2_with fail
       go_region;go_wp2;refine bodyPost_ret (v:=.tuple #[.string (E x),.agg #[.slice (some ⟨gS,0,none⟩) m m,.string sd,.int .i64 ((ti:Int)+1)],.int .i64 0]) ?_ rfl ?_
       ·simp[results,Tryz.results99,go_sem,hl,hn,ho,hB]
       ·rw[hC.out];exact⟨_,rfl,⟨_,rfl,SsAt.after (((hU.set_other ht.out.2.2.2.1).set_other ht.out.2.2.2.1).set_other ht.out.2.2.2.1) (Below.drew Br)⟩,TFar.of (fun b hb b' o n c e _=>by injection e with e;injection e with e;injection e with e;have:=ht.out.2.1;omega),(((hp.setCell hr.out _).setCell hr.out _).setCell hr.out _).drew⟩
      ·have d1:decide (q<0)=false:=decide_eq_false (by rw[hq];exact cmp_nneg x n hy);have H2:=Kh (Hs.out hy);clear hq hy Hr Hs h0;go_wp2_with fail
       refine (Hc.out _).mono ?_;rintro e w' ⟨rfl,rfl⟩;go_wp2;go_roundw
       case rel=>exact⟨a+1,by omega,by go_num,H2.out,h9⟩
       case measure=>simp[intOf];omega
     ·have hC:Hid (rr=(14,0)):=HS.out.trans (coinS_no (att:=att) (T:=⟨V,sd,(ti:Int)⟩) (fun j hj=>HA.out j (by omega)));have hB:=hR.lt;obtain⟨hl,hT,hn,hY,ho,hZ⟩:=hR.x3;go_wp2;refine bodyPost_ret (v:=.tuple #[.string ⟨#[]⟩,.agg #[.slice none 0 0,.string ⟨#[]⟩,.int .i64 0],.int .i64 14]) ?_ rfl ?_
      ·simp[results,Tryz.results99,go_sem,hl,hn,ho,hB]
      ·rw[hC.out];exact⟨_,rfl,⟨_,rfl,ss_nil _⟩,TFar.zero _ _ _,((hp.setCell hr.out _).setCell hr.out _).setCell hr.out _⟩
end
section
open Go.RowKit Go.Shelf
theorem TFar.mono {t:Value} {g g':Nat} (h:TFar t g) (hg:g'≤g):TFar t g':=fun u x y e b hb=>h u x y e b (by omega)
theorem TFar.far {u x y:Value} {g b:Nat} (h:TFar (.agg #[u,x,y]) g) (hb:b<g):FarS u b:=h u x y rfl b hb
theorem rdy_coin {att:Att} {T:Tp} {n:Nat} (h:T.rdy n≠0):coin att T n=(T.rdy n,0):=by
 unfold Tp.rdy at *;unfold coin;by_cases h1:T.good=false
 ·rw[if_pos h1,if_pos h1]
 ·rw[if_neg h1]at h;rw[if_neg h1,if_neg h1];by_cases h2:n=0
  ·rw[if_pos h2,if_pos h2]
  ·rw[if_neg h2]at h;exact absurd rfl h
theorem rdy_zero {T:Tp} {n:Nat} (h:T.rdy n=0):T.good=true∧1≤n∧∀att,coin att T n=coinD att T n:=by
 unfold Tp.rdy at h;split at h
 ·simp at h
 ·rename_i h1;split at h
  ·simp at h
  ·rename_i h2;refine⟨by simpa using h1,by omega,fun att=>?_⟩;unfold coin;rw[if_neg h1,if_neg h2]
theorem tp_after {T:Tp} {k:Nat} (h:k≠0):T.after k=Tp.nil:=by unfold Tp.after;rw[if_neg h]
theorem cbelow_c (att:Att) (T:Tp) (v:Value) (n:Nat) (w:World) (hD:HAtt att T.seed w) (hu:T.Ok) (h2:n<256^64) (hV:SsAt w v T.vals) :
  Calls Tryz.prog 51 #[.agg #[v,.string T.seed,.int .i64 T.pos],.string (E n)] w (CPost w T (coin att T n)):=by
 have hq:Hid (∀w',Bw w w'→Calls Tryz.prog 98 #[.agg #[v,.string T.seed,.int .i64 T.pos],.string (E n)] w' fun e w''=>e=.returned (.int .i64 (T.rdy n:Nat))∧Bw w' w''):=fun w' hb=>cready_c T v n w' hu (lt64 h2) (SsAt.after hV hb)
 have hn:Hid (T.rdy n=0→∀w',Bw w w'→Calls Tryz.prog 99 #[.agg #[v,.string T.seed,.int .i64 T.pos],.string (E n)] w' (CPost w' T (coin att T n))):=fun h w' hb=>by
  obtain⟨a,b,c⟩:=rdy_zero h;rw[c att];exact cdraw_c att T v n w' (hD.after hb) hu a b h2 (SsAt.after hV hb)
 have hp:Hid (T.rdy n≠0→coin att T n=(T.rdy n,0)):=rdy_coin;obtain⟨ao,c,rfl⟩:=RAt.form hV;generalize coin att T n=rr at hn hp ⊢;generalize T.rdy n=k at hq hn hp;obtain⟨hP,hR,hc⟩:=blk2 w #[.slice ao T.vals.length c,.string T.seed,.int .i64 T.pos] #[.slice none 0 0,.string ⟨#[]⟩,.int .i64 0] 35 35;generalize T.vals.length=m at hq hn hP hR hc ⊢;obtain⟨gR,hE⟩:∃g,w.heap.size+1=g:=⟨_,rfl⟩;have ho:Hid (w.heap.size≤gR):=by rw[Hid];omega
 have hG:=Kh hE;clear hD hu h2 hV hE;obtain⟨hd,he,hf,hg,hh,hi⟩:=hP.x3;go_enter Tryz.func51,Tryz.ntmps51
 go_wp2_with fail
 refine (hq.out _ hc).mono ?_;rintro e w2 ⟨rfl,hr⟩;clear hd he hf hg hh hi;replace hP:=hP.after hr;replace hR:=hR.after hr;replace hc:=bt hc hr;clear hr hq;rw[hG.out]at hR ⊢;clear hG;replace hP:Blk w2 w.heap.size 35 [.slice ao m c,.string T.seed,.int .i64 T.pos]:=hP;replace hR:Blk w2 gR 35 [.slice none 0 0,.string ⟨#[]⟩,.int .i64 0]:=hR;have hI:=Kh hR.lt;by_cases hk:k=0
 ·subst hk;have HD:=Kh (hn.out rfl);clear hn hp;obtain⟨hd,he,hf,hg,hh,hi⟩:=hP.x3;go_wp2_with fail
  refine (HD.out _ hc).mono ?_;rintro e w3 ⟨t,rfl,⟨u,rfl,hU⟩,hF,hv⟩;clear hd he hf hg hh hi;have ht:=Kh (hF.far hI.out);replace hF:=hF.mono hc.size;replace hR:=hR.after hv;replace hc:=bt hc hv;clear hv hP HD;generalize hH:T.after rr.1=T' at hU hF ⊢;obtain⟨uo,uc,rfl⟩:=RAt.form hU;obtain⟨ul,hw⟩:∃l,l=T'.vals.length:=⟨_,rfl⟩;have hM:=Kh hw;have hJ:=Kh hH;rw[←hw]at hU hF ht ⊢;clear hw hH;obtain⟨us,hx⟩:∃s,s=T'.seed:=⟨_,rfl⟩;obtain⟨ut,hy⟩:∃s,s=T'.pos:=⟨_,rfl⟩;rw[←hx,←hy]at hF ⊢;have HE:=Kh (And.intro hx hy);clear hx hy;have hz:=hR.lt;obtain⟨hj,hA,hl,hB,hm,hC⟩:=hR.x3;go_wp2;refine bodyPost_ret (v:=.tuple #[.string (E rr.2),.agg #[.slice uo ul uc,.string us,.int .i64 ut],.int .i64 (rr.1:Int)]) ?_ rfl ⟨_,rfl,?_,hF,((hc.setCell ho.out _).setCell ho.out _).setCell ho.out _⟩
  ·simp[results,Tryz.results51,go_sem,hj,hl,hm,hz]
  ·rw[hJ.out,HE.out.1,HE.out.2];exact⟨_,rfl,((hU.set_far ht.out).set_far ht.out).set_far ht.out⟩
 ·have hN:((k:Int) != 0)=true:=by rw[bne_iff_ne];omega
  have hK:=Kh (hp.out hk);have hL:=Kh (tp_after (T:=T) hk);clear hk hp hn hP;have hz:=hR.lt;obtain⟨hj,hA,hl,hB,hm,hC⟩:=hR.x3;go_wp2;refine bodyPost_ret (v:=.tuple #[.string ⟨#[]⟩,.agg #[.slice none 0 0,.string ⟨#[]⟩,.int .i64 0],.int .i64 (k:Int)]) ?_ rfl ?_
  ·simp[results,Tryz.results51,go_sem,hj,hl,hm,hz]
  ·rw[hK.out];exact⟨_,rfl,by show TAt _ _ (T.after k);rw[hL.out];exact⟨_,rfl,ss_nil _⟩,TFar.zero _ _ _,((hc.setCell ho.out _).setCell ho.out _).setCell ho.out _⟩
def SCPost (w:World) (T:Tp) (r:Nat × Int) (e:Ending) (w':World):Prop:=∃t:Value,e=.returned (.tuple #[.agg #[.bool (sg (r.2)),.string (E (r.2).natAbs)],t,.int .i64 (r.1:Int)])∧TAt w' t (T.after r.1)∧TFar t w.heap.size∧Bw w w'
theorem E0v:(Value.agg #[.bool (sg 0),.string (E (0:Int).natAbs)])=.agg #[.bool false,.string ⟨#[]⟩]:=by
 rw[sg_zero];rfl
theorem csigned_c (att:Att) (T:Tp) (v:Value) (n:Nat) (w:World) (Hu:HAtt att T.seed w) (h7:T.Ok) (h2:n<256^60) (hV:SsAt w v T.vals) :
  Calls Tryz.prog 80 #[.agg #[v,.string T.seed,.int .i64 T.pos],.string (E n)] w (SCPost w T (csgn att T n)):=by
 have hD:n<256^64:=Nl h2 P8
 have h8:2*n<256^64:=by
  have:256^60*2≤256^64:=by decide
  omega
 have hW:Hid (∀w',Bw w w'→Calls Tryz.prog 98 #[.agg #[v,.string T.seed,.int .i64 T.pos],.string (E n)] w' fun e w''=>e=.returned (.int .i64 (T.rdy n:Nat))∧Bw w' w''):=fun w' hb=>cready_c T v n w' h7 (lt64 hD) (SsAt.after hV hb)
 have hv:Hid (T.rdy n=0→∀w',Bw w w'→Calls Tryz.prog 99 #[.agg #[v,.string T.seed,.int .i64 T.pos],.string (E (2*n-1))] w' (CPost w' T (coinD att T (2*n-1)))):=fun h w' hb=>by
  obtain⟨a,b,c⟩:=rdy_zero h;exact cdraw_c att T v (2*n-1) w' (Hu.after hb) h7 a (by omega) (by omega) (SsAt.after hV hb)
 have Ha:Hid (∀w,Calls Tryz.prog 108 #[.string (E n),.string (E n)] w fun e w'=>e=.returned (.tuple #[.string (E (2*n)),.int .i64 0])∧Bw w w'):=fun w=>by
  have h:=add_c n n w (lt64 hD) (lt64 hD) (by have:=lt64 h8;omega);rwa [show n+n=2*n by omega]at h
 have Hb:Hid (1≤n→∀w,Calls Tryz.prog 119 #[.string (E n),.string { data:=#[1] }] w fun e w'=>e=.returned (.tuple #[.string (E (n-1)),.int .i64 0])∧Bw w w'):=fun h w=>sub_c n 1 w (lt64 hD) h
 have Hc:Hid (1≤n→∀w,Calls Tryz.prog 119 #[.string (E (2*n)),.string { data:=#[1] }] w fun e w'=>e=.returned (.tuple #[.string (E (2*n-1)),.int .i64 0])∧Bw w w'):=fun h w=>sub_c (2*n) 1 w (lt64 h8) (by omega)
 have h0:Hid (∀(x:Nat) w,x<256^64→Calls Tryz.prog 48 #[.agg #[.bool false,.string (E x)],.agg #[.bool false,.string (E (n-1))]] w fun e w'=>e=.returned (.tuple #[.agg #[.bool (sg ((x:Int)-((n-1:Nat):Int))),.string (E ((x:Int)-((n-1:Nat):Int)).natAbs)],.int .i64 0])∧Bw w w'):=fun x w hx=>by
  have h:=isub_c (x:=(x:Int)) (y:=((n-1:Nat):Int)) (w:=w) (by rw[Int.natAbs_natCast];exact lt64 hx) (by rw[Int.natAbs_natCast];exact lt64 (by omega)) (by
   have h9:(256:Nat)^64≤256^128:=Nat.pow_le_pow_right (by decide) (by decide);omega)
  rwa [Int.natAbs_natCast,Int.natAbs_natCast,sg_nat,sg_nat]at h
 have hE:Hid (T.rdy n=0→(coinD att T (2*n-1)).1=0→(coinD att T (2*n-1)).2<256^64):=fun _ h=>by have:=coinD_lt h;omega
 have hG:Hid (T.rdy n≠0→csgn att T n=(T.rdy n,0)):=fun h=>by unfold csgn;rw[if_pos h]
 have hw:Hid (T.rdy n=0→csgn att T n=if (coinD att T (2*n-1)).1=0 then (0,((coinD att T (2*n-1)).2:Int)-((n-1:Nat):Int)) else ((coinD att T (2*n-1)).1,0)):=fun h=>by unfold csgn;rw[if_neg (by omega)]
 have hH:Hid (T.rdy n=0→1≤n):=fun h=>(rdy_zero h).2.1
 obtain⟨ao,c,rfl⟩:=RAt.form hV;generalize csgn att T n=rr at hG hw ⊢;generalize coinD att T (2*n-1)=rd at hv hE hw;generalize T.rdy n=k at hW hv hE hG hw hH;obtain⟨hP,hZ,hR,hc⟩:=blk3 w #[.slice ao T.vals.length c,.string T.seed,.int .i64 T.pos] #[.bool false,.string { data:=#[] }] #[.slice none 0 0,.string ⟨#[]⟩,.int .i64 0] 35 28 35;generalize T.vals.length=m at hW hv hP hZ hR hc ⊢;obtain⟨gZ,Hv⟩:∃g,w.heap.size+1=g:=⟨_,rfl⟩;obtain⟨gR,Hd⟩:∃g,w.heap.size+1+1=g:=⟨_,rfl⟩;have hI:w.heap.size+2=gR:=Hd;have hd:Hid (w.heap.size≤gR∧w.heap.size≤gZ∧gZ≠gR):=by rw[Hid];omega
 have He:=Kh Hv;have Hw:=Kh Hd;have Hx:=Kh hI;clear Hu h7 h2 hV hD h8 Hv Hd hI;obtain⟨hl,hm,hn,ho,hp,hq⟩:=hP.x3;go_enter Tryz.func80,Tryz.ntmps80
 go_wp2_with fail
 refine (hW.out _ hc).mono ?_;rintro e w2 ⟨rfl,hJ⟩;clear hl hm hn ho hp hq;replace hP:=hP.after hJ;replace hZ:=hZ.after hJ;replace hR:=hR.after hJ;replace hc:=bt hc hJ;clear hJ hW;rw[Hx.out]at hR;rw[He.out]at hZ;rw[Hw.out,He.out];clear He Hw Hx;replace hP:Blk w2 w.heap.size 35 [.slice ao m c,.string T.seed,.int .i64 T.pos]:=hP;replace hZ:Blk w2 gZ 28 [.bool false,.string { data:=#[] }]:=hZ;replace hR:Blk w2 gR 35 [.slice none 0 0,.string ⟨#[]⟩,.int .i64 0]:=hR;have h3:=hd.out.2.2;have hr:¬ gR=gZ:=fun e=>h3 e.symm
 by_cases hk:k=0
 ·subst hk;have HD:=Kh (hv.out rfl);have hK:=Kh (Hb.out (hH.out rfl));have hL:=Kh (Hc.out (hH.out rfl));have hj:=Kh (hE.out rfl);have HC:=Kh (hw.out rfl);clear hv Hb Hc hE hG hw hH;go_wp2_with fail
  refine (Ha.out _).mono ?_;rintro e w3 ⟨rfl,Hy⟩;go_wp2_with fail
  refine (hK.out _).mono ?_;rintro e w4 ⟨rfl,hb4⟩;go_wp2_with fail
  refine (hL.out _).mono ?_;rintro e w5 ⟨rfl,Hz⟩;have hM:=bt Hy (bt hb4 Hz);replace hP:=hP.after hM;replace hZ:=hZ.after hM;replace hR:=hR.after hM;replace hc:=bt hc hM;clear Hy hb4 Hz hM Ha hK hL;have HR:=Kh hR.lt;have HS:=Kh hZ.lt;obtain⟨hl,hm,hn,ho,hp,hq⟩:=hP.x3;go_wp2_with fail
  refine (HD.out _ hc).mono ?_;rintro e w7 ⟨t,rfl,⟨u,rfl,hU⟩,hF,h4⟩;clear hl hm hn ho hp hq;have h5:=Kh (hF.far HR.out);have Hf:=Kh (hF.far HS.out);replace hF:=hF.mono hc.size;replace hZ:=hZ.after h4;replace hR:=hR.after h4;replace hc:=bt hc h4;clear h4 hP HD;obtain⟨T',Hg⟩:∃T',T'=T.after rd.1:=⟨_,rfl⟩;have HA:=Kh Hg;rw[←Hg]at hU hF ⊢;obtain⟨uo,uc,rfl⟩:=RAt.form hU;obtain⟨ul,HB⟩:∃l,l=T'.vals.length:=⟨_,rfl⟩;rw[←HB]at hU hF h5 Hf ⊢;obtain⟨us,Hh⟩:∃s,s=T'.seed:=⟨_,rfl⟩;obtain⟨ut,Hi⟩:∃s,s=T'.pos:=⟨_,rfl⟩;rw[←Hh,←Hi]at hF ⊢;have HE:=Kh (And.intro Hh Hi);clear Hh Hi HB Hg;obtain⟨x,hx⟩:∃x,x=rd.2:=⟨_,rfl⟩;obtain⟨ke,Hj⟩:∃x,x=rd.1:=⟨_,rfl⟩;rw[←hx,←Hj]at HC hj ⊢;rw[←Hj]at HA;clear hx Hj;obtain⟨hX,hy⟩:=blk1 w7 #[.slice uo ul uc,.string us,.int .i64 ut] 35;have Hk:Hid (gZ<w7.heap.size∧gR<w7.heap.size):=⟨hZ.lt,hR.lt⟩;by_cases hk:ke=0
  ·subst hk;have hz:Hid (rr=(0,(x:Int)-((n-1:Nat):Int))):=by rw[Hid,HC.out,if_pos rfl]
   have HI:=Kh (fun w=>h0.out x w (hj.out rfl));generalize (x:Int)-((n-1:Nat):Int)=z at HI hz;clear HC h0 hj;go_wp2_with fail
   refine (HI.out _).mono ?_;rintro e w8 ⟨rfl,Hl⟩;have hb9:=bt hy Hl;replace hX:=hX.after Hl;replace hZ:=hZ.after hb9;replace hR:=hR.after hb9;have HF:=SsAt.after hU hb9;replace hc:=bt hc hb9;clear Hl hb9 hy HI hU;obtain⟨gX,HG⟩:∃g,w7.heap.size=g:=⟨_,rfl⟩;rw[HG]at hX Hk ⊢;clear HG;have Hm:Hid (gZ<w8.heap.size∧gR<w8.heap.size):=⟨hZ.lt,hR.lt⟩;replace hX:Blk w8 gX 35 [.slice uo ul uc,.string us,.int .i64 ut]:=hX;obtain⟨hY,hA⟩:=blk1 w8 #[.bool (sg z),.string (E z.natAbs)] 28;have HH:=hX.lt;have ht:=hZ.lt;have hu:=hR.lt;have Hn:=hX.after hA;have hB:=hZ.after hA;have hC:=hR.after hA;have HJ:=SsAt.after HF hA;have h6:=bt hc hA;clear hX hZ hR HF hc hA HH ht hu;go_upto_region 16 with fail
   generalize w8.alloc (.cells #[.bool (sg z),.string (E z.natAbs)] 28)=w9 at hY Hn hB hC HJ h6 ⊢;obtain⟨gY,HK⟩:∃g,w8.heap.size=g:=⟨_,rfl⟩;rw[HK]at hY Hm ⊢;clear HK;replace hY:Blk w9 gY 28 [.bool (sg z),.string (E z.natAbs)]:=hY;have HH:=Hn.lt;have ht:=hB.lt;have hu:=hC.lt;have H3:=hY.lt;have n1:¬ gX=gZ:=by have:=Hk.out.1;omega
   have n2:¬ gX=gR:=by have:=Hk.out.2;omega
   have n3:¬ gY=gZ:=by have:=Hm.out.1;omega
   have n4:¬ gY=gR:=by have:=Hm.out.2;omega
   have m1:¬ gZ=gX:=fun e=>n1 e.symm
   have m2:¬ gR=gX:=fun e=>n2 e.symm
   obtain⟨HL,HM,HN,HO,HP,HQ⟩:=Hn.x3;obtain⟨HT,HU,HV,HW⟩:=hY.x2;obtain⟨he,hN,hf,hO⟩:=hB.x2;obtain⟨hg,hQ,hh,hS,hi,hT⟩:=hC.x3;go_wp2_with fail
   go_region;go_wp2;refine bodyPost_ret (v:=.tuple #[.agg #[.bool (sg (z)),.string (E (z).natAbs)],.agg #[.slice uo ul uc,.string us,.int .i64 ut],.int .i64 0]) ?_ rfl ?_
   ·simp[results,Tryz.results80,go_sem,he,hf,hg,hh,hi,ht,hu,h3,hr]
   ·rw[hz.out];refine⟨_,rfl,?_,hF,(((((h6.setCell hd.out.2.1 _).setCell hd.out.2.1 _).setCell hd.out.1 _).setCell hd.out.1 _).setCell hd.out.1 _).drew⟩;show TAt _ _ (T.after 0);rw[←HA.out,HE.out.1,HE.out.2];exact⟨_,rfl,SsAt.after (((((HJ.set_far Hf.out).set_far Hf.out).set_far h5.out).set_far h5.out).set_far h5.out) (Below.drew Br)⟩
  ·have HX:((ke:Int) != 0)=true:=by rw[bne_iff_ne];omega
   have hz:Hid (rr=(ke,0)):=by rw[Hid,HC.out,if_neg hk]
   have Ho:=Kh (tp_after (T:=T) hk);have hB:=hZ.after hy;have hC:=hR.after hy;have h6:=bt hc hy;have ht:=hB.lt;have hu:=hC.lt;clear hk HC hX hZ hR hc hy h0 hj;obtain⟨he,hN,hf,hO⟩:=hB.x2;obtain⟨hg,hQ,hh,hS,hi,hT⟩:=hC.x3;go_wp2;refine bodyPost_ret (v:=.tuple #[.agg #[.bool false,.string ⟨#[]⟩],.agg #[.slice none 0 0,.string ⟨#[]⟩,.int .i64 0],.int .i64 (ke:Int)]) ?_ rfl ?_
   ·simp[results,Tryz.results80,go_sem,he,hf,hg,hh,hi,ht,hu,h3,hr]
   ·rw[hz.out];exact⟨_,by rw[E0v],by show TAt _ _ (T.after ke);rw[Ho.out];exact⟨_,rfl,ss_nil _⟩,TFar.zero _ _ _,((((h6.setCell hd.out.2.1 _).setCell hd.out.2.1 _).setCell hd.out.1 _).setCell hd.out.1 _).setCell hd.out.1 _⟩
 ·have HX:((k:Int) != 0)=true:=by rw[bne_iff_ne];omega
  have hz:=Kh (hG.out hk);have Ho:=Kh (tp_after (T:=T) hk);have ht:=hZ.lt;have hu:=hR.lt;clear hk hG hw hv hE hH Hb Hc Ha h0 hP;obtain⟨Hp,HY,Hq,HZ⟩:=hZ.x2;obtain⟨Hr,H0,Hs,H1,Ht,H2⟩:=hR.x3;go_wp2;refine bodyPost_ret (v:=.tuple #[.agg #[.bool false,.string ⟨#[]⟩],.agg #[.slice none 0 0,.string ⟨#[]⟩,.int .i64 0],.int .i64 (k:Int)]) ?_ rfl ?_
  ·simp[results,Tryz.results80,go_sem,Hp,Hq,Hr,Hs,Ht,ht,hu,h3,hr]
  ·rw[hz.out];exact⟨_,by rw[E0v],by show TAt _ _ (T.after k);rw[Ho.out];exact⟨_,rfl,ss_nil _⟩,TFar.zero _ _ _,((((hc.setCell hd.out.2.1 _).setCell hd.out.2.1 _).setCell hd.out.1 _).setCell hd.out.1 _).setCell hd.out.1 _⟩
end
end Go.Proofs.YtdgddpnjkinciaaGreatDoor
