import Derived.Test.YtdoacbdkbbpamaaGreatDoorCo1
import Derived.Test.YtdoacbdkbbpamaaGreatDoorFwx24
import Derived.Test.YtdoacbdkbbpamaaGreatDoorEqn
import Derived.Test.YtdoacbdkbbpamaaGreatDoorLck6
import Derived.Laws.CopyOwn
import Derived.Test.YtdoacbdkbbpamaaGreatDoorFs5
set_option linter.unusedVariables false
set_option linter.unusedSimpArgs false
set_option maxRecDepth 100000
set_option maxHeartbeats 16000000
namespace Go.Proofs.YtdoacbdkbbpamaaGreatDoor
section
open Go.RowKit Go.Shelf
def CPost (w:World) (T:Tp) (r:Nat × Nat) (e:Ending) (w':World):Prop:=∃t:Value,e=.returned (.tuple #[.string (E r.2),t,.int .i64 (r.1:Int)])∧TAt w' t (T.after r.1)∧TFar t w.heap.size∧Below w.heap.size w w'
def HAtt (att:Att) (sd:ByteArray) (w0:World):Prop:=sd.size≠0→∀(p a k:Nat),p≤2147483647→a<256→1≤k→k≤512→att sd p a k<256^64 ∧
 ∀(ao:Option Addr) (m c:Nat) (w:World),Below w0.heap.size w0 w→Calls Tryz.prog 133 #[.agg #[.slice ao m c,.string sd,.int .i64 (p:Int)],.int .i64 (a:Int),.int .i64 (k:Int)] w fun e w'=>e=.returned (.string (E (att sd p a k)))∧Below w.heap.size w w'
theorem HAtt.after {att:Att} {sd:ByteArray} {w w':World} (h:HAtt att sd w) (hb:Below w.heap.size w w'):HAtt att sd w':=fun hs p a k h1 h2 h3 h4=>⟨(h hs p a k h1 h2 h3 h4).1,fun ao m c W hW=>(h hs p a k h1 h2 h3 h4).2 ao m c W (bt hb hW)⟩
theorem cgd1_c (s:ByteArray) (w:World) (hs:s.size≤1000) :
  Calls Tryz.prog 157 #[.string s] w fun e w'=>e=.returned (.bool (!(vldB s)))∧Below w.heap.size w w':=by
 have HV:Hid (∀w,Calls Tryz.prog 59 #[.string s] w fun e w'=>e=.returned (.bool (vldB s))∧w'=w):=fun w=>valB_c s _ w hs rfl
 generalize vldB s=b at HV ⊢;cases b
 ·go_enter Tryz.func157,Tryz.ntmps157
  go_wp2_with fail
  refine (HV.out _).mono ?_;rintro e w2 ⟨rfl,rfl⟩;go_wp2;go_ret
  exact ⟨rfl,Below.refl _ _⟩
 ·go_enter Tryz.func157,Tryz.ntmps157
  go_wp2_with fail
  refine (HV.out _).mono ?_;rintro e w2 ⟨rfl,rfl⟩;go_wp2;go_ret
  exact ⟨rfl,Below.refl _ _⟩
theorem any_not (V:List ByteArray):V.any (fun x=>!(vldB x))=!(V.all vldB):=by
 induction V with
 | nil=>rfl
 | cons a t ih=>rw [List.any_cons,List.all_cons,ih];cases vldB a <;> rfl
theorem cgood_c (T:Tp) (v:Value) (w:World) (hok:T.Ok) (hV:SsAt w v T.vals) :
  Calls Tryz.prog 132 #[.agg #[v,.string T.seed,.int .i64 T.pos]] w fun e w'=>e=.returned (.bool T.good)∧Below w.heap.size w w':=by
 obtain ⟨V,sd,p⟩:=T;have HG:Hid (Tp.good ⟨V,sd,p⟩=(V.all vldB&&(decide (0≤p)&&decide (p≤2147483647)))):=rfl
 have HC:Hid (∀w',Below w.heap.size w w'→Calls Tryz.prog 27 #[v,.func (.func 157) #[] #[]] w' fun e w''=>e=.returned (.bool (!(V.all vldB)))∧Below w'.heap.size w' w''):=fun w' hb =>
  cont_cgd V (fun x=>!(vldB x)) _ v w' (by have:=hok.n;simp only [] at this;omega) (SsAt.after hV hb) (any_not V) (fun k hk w2 _=>cgd1_c _ w2 (by have:=hok.s _ (List.getElem_mem hk);omega))
 obtain ⟨ao,c,rfl⟩:=RAt.form hV;simp only [];generalize Tp.good ⟨V,sd,p⟩=g at HG ⊢;generalize V.all vldB=b at HG HC;generalize V.length=n at HC ⊢;clear hok hV;have hP:=Blk.new w #[.slice ao n c,.string sd,.int .i64 p] 42;have hBW:=b1 w (.cells #[.slice ao n c,.string sd,.int .i64 p] 42);obtain ⟨t1,ht1⟩:∃t:Bool,t=decide (0≤p):=⟨_,rfl⟩;obtain ⟨t2,ht2⟩:∃t:Bool,t=decide (p≤2147483647):=⟨_,rfl⟩;rw [←ht1,←ht2] at HG;have d1:=ht1.symm;have d2:=ht2.symm;clear ht1 ht2;obtain ⟨hPc0,hPf0,hPc1,hPf1,hPc2,hPf2⟩:=hP.x3;cases t1
 ·have HX:Hid (g=false):=by rw [Hid,HG.out];simp
  go_enter Tryz.func132,Tryz.ntmps132
  go_wp2;go_ret
  rw [HX.out];exact ⟨rfl,hBW⟩
 ·cases t2
  ·have HX:Hid (g=false):=by rw [Hid,HG.out];simp
   go_enter Tryz.func132,Tryz.ntmps132
   go_wp2;go_ret
   rw [HX.out];exact ⟨rfl,hBW⟩
  ·have HX:Hid (g=b):=by rw [Hid,HG.out];simp
   cases b
   ·go_enter Tryz.func132,Tryz.ntmps132
    go_wp2_with fail
    refine (HC.out _ hBW).mono ?_;rintro e w2 ⟨rfl,hb2⟩;go_wp2;go_ret
    rw [HX.out];exact ⟨rfl,bt hBW hb2⟩
   ·go_enter Tryz.func132,Tryz.ntmps132
    go_wp2_with fail
    refine (HC.out _ hBW).mono ?_;rintro e w2 ⟨rfl,hb2⟩;go_wp2;go_ret
    rw [HX.out];exact ⟨rfl,bt hBW hb2⟩
theorem cready_c (T:Tp) (v:Value) (n:Nat) (w:World) (hok:T.Ok) (hn:n<256^128) (hV:SsAt w v T.vals) :
  Calls Tryz.prog 103 #[.agg #[v,.string T.seed,.int .i64 T.pos],.string (E n)] w fun e w'=>e=.returned (.int .i64 (T.rdy n:Nat))∧Below w.heap.size w w':=by
 have HG:Hid (∀w',Below w.heap.size w w'→Calls Tryz.prog 132 #[.agg #[v,.string T.seed,.int .i64 T.pos]] w' fun e w''=>e=.returned (.bool T.good)∧Below w'.heap.size w' w''):=fun w' hb=>cgood_c T v w' hok (SsAt.after hV hb)
 have HV:Hid (∀w,Calls Tryz.prog 59 #[.string (E n)] w fun e w'=>e=.returned (.bool true)∧w=w'):=fun w=>validE_c n w hn
 have HR:Hid (T.rdy n=if T.good=false then 3 else if n=0 then 11 else 0):=rfl;obtain ⟨ao,c,rfl⟩:=RAt.form hV;obtain ⟨V,sd,p⟩:=T;simp only [] at HG ⊢;generalize Tp.rdy ⟨V,sd,p⟩ n=r at HR ⊢;generalize Tp.good ⟨V,sd,p⟩=g at HG HR;generalize V.length=m at HG ⊢;clear hok hn hV;have hP:=Blk.new w #[.slice ao m c,.string sd,.int .i64 p] 42;have hBW:=b1 w (.cells #[.slice ao m c,.string sd,.int .i64 p] 42);obtain ⟨hPc0,hPf0,hPc1,hPf1,hPc2,hPf2⟩:=hP.x3;cases g
 ·have HX:Hid (r=3):=by rw [Hid,HR.out];rfl
  go_enter Tryz.func103,Tryz.ntmps103
  go_wp2_with fail
  refine (HG.out _ hBW).mono ?_;rintro e w2 ⟨rfl,hb2⟩;go_wp2;go_ret
  rw [HX.out];exact ⟨rfl,bt hBW hb2⟩
 ·by_cases h0:n=0
  ·have HX:Hid (r=11):=by rw [Hid,HR.out,if_neg (by decide),if_pos h0]
   have hz:=zE h0;have hz2:((E n).toList==[])=true:=by simpa using hz
   clear h0;go_enter Tryz.func103,Tryz.ntmps103
   go_wp2_with fail
   refine (HG.out _ hBW).mono ?_;rintro e w2 ⟨rfl,hb2⟩;go_wp2_with fail
   refine (HV.out _).mono ?_;rintro e w' ⟨rfl,rfl⟩;go_wp2;go_ret
   rw [HX.out];exact ⟨rfl,bt hBW hb2⟩
  ·have HX:Hid (r=0):=by rw [Hid,HR.out,if_neg (by decide),if_neg h0]
   have hz:=nzE (Nat.pos_of_ne_zero h0);have hz2:=nzE2 (Nat.pos_of_ne_zero h0);clear h0;go_enter Tryz.func103,Tryz.ntmps103
   go_wp2_with fail
   refine (HG.out _ hBW).mono ?_;rintro e w2 ⟨rfl,hb2⟩;go_wp2_with fail
   refine (HV.out _).mono ?_;rintro e w' ⟨rfl,rfl⟩;go_wp2;go_ret
   rw [HX.out];exact ⟨rfl,bt hBW hb2⟩
end
section
open Go.RowKit Go.Shelf
theorem ss_src {w:World} {ao:Option Addr} {m c:Nat} {V:List ByteArray} (h:SsAt w (.slice ao m c) V) (h0:V.length≠0):∃ad,ao=some ad∧∀j u,(V.map Value.string)[j]?=some u→w.cell? (ad.add j)=some u:=by
 obtain ⟨ao',c',hv',hcs⟩:=h;rcases hcs with hcs | ⟨b,o,rfl,hb,hcs⟩
 ·exact absurd hcs h0
 ·injection hv' with e1 e2 e3
  refine ⟨_,e1,fun j u hj=>?_⟩;rw [List.getElem?_map] at hj;by_cases hjl:j<V.length
  ·obtain ⟨cs,hq,hc⟩:=hcs j hjl;rw [List.getElem?_eq_getElem hjl] at hj;have h:=hc 0 (by omega);rw [show (⟨b,o,none⟩:Addr).add j=⟨b,o+j*1+0,none⟩ by rw [Addr.add_lit];simp,h,hq];simpa using hj
  ·rw [List.getElem?_eq_none (by omega)] at hj;simp at hj
theorem ss_far {w:World} {v:Value} {V:List ByteArray} {g:Nat} (h:SsAt w v V) (hg:w.heap.size≤g):FarS v g:=fun b9 o9 n9 c9 e9 h9=>by
 obtain ⟨ao',c',hv',hcs⟩:=h;rcases hcs with hcs | ⟨b8,o8,e8,hb8,_⟩
 ·have h:=hv'.symm.trans e9;injection h with h h2 h3
  omega
 ·have h:=hv'.symm.trans e9;injection h with h
  rw [e8] at h;injection h with h
  injection h with h
  omega
theorem blk_row {w:World} {g k:Nat} {T:TypeId} {cs:List Value} {xs:Array Value} (h:Blk w k T cs) (hne:k≠g):Blk (w.setRow g xs) k T cs:=by
 rw [Blk,setRow_other w g k xs hne];exact h
theorem ss_blk {w:World} {g:Nat} {V:List ByteArray} (c:Nat) (h:Blk w g 31 (V.map Value.string)):SsAt w (.slice (some ⟨g,0,none⟩) V.length c) V:=by
 refine ⟨_,_,rfl,.inr ⟨g,0,rfl,h.lt,fun j hj=>⟨[.string V[j]],rfl,fun i hi=>?_⟩⟩⟩;obtain rfl:i=0:=by omega
 have h2:=h.cell j;rw [List.getElem?_map,List.getElem?_eq_getElem hj] at h2;simpa using h2
theorem ss_row {w:World} {g:Nat} {v:Value} {V:List ByteArray} {xs:Array Value} (h:SsAt w v V) (hf:FarS v g):SsAt (w.setRow g xs) v V:=by
 obtain ⟨ao,c',rfl,h⟩:=h;refine ⟨ao,c',rfl,?_⟩;by_cases h0:V.length=0
 ·exact .inl h0
 rcases h with h | ⟨b,o,rfl,h2,h3⟩
 ·exact .inl h
 ·have hne:b≠g:=hf _ _ _ _ rfl h0;refine .inr ⟨b,o,rfl,by simpa [World.setRow] using h2,fun j hj=>?_⟩;obtain ⟨cs,hq,hc⟩:=h3 j hj;refine ⟨cs,hq,fun i2 hi=>?_⟩;rw [←hc i2 hi];exact World.cell?_of_block (setRow_other w g b xs hne)
set_option exponentiation.threshold 600 in
theorem cdraw_c (att:Att) (T:Tp) (v:Value) (n:Nat) (w:World) (hat:HAtt att T.seed w) (hok:T.Ok) (hg:T.good=true) (h1:1≤n) (h2:n<256^64) (hV:SsAt w v T.vals) :
  Calls Tryz.prog 104 #[.agg #[v,.string T.seed,.int .i64 T.pos],.string (E n)] w (CPost w T (coinD att T n)):=by
 obtain ⟨V,sd,pz⟩:=T;have hg':=hg;unfold Tp.good at hg;simp only [Bool.and_eq_true,decide_eq_true_eq] at hg;obtain ⟨hva,hp0,hp1⟩:=hg;obtain ⟨ti,rfl⟩:=Int.eq_ofNat_of_zero_le hp0;have htm:ti≤2147483647:=by omega
 have HAT:=Lib.hid hat;obtain ⟨rr,hrr⟩:∃r,r=coinD att ⟨V,sd,(ti:Int)⟩ n:=⟨_,rfl⟩;have HRD:=Lib.hid hrr;rw [←hrr];have HPO:Hid (∀(e:Ending) (w':World) (k x:Nat),rr=(k,x)→CPost w ⟨V,sd,(ti:Int)⟩ (k,x) e w'→CPost w ⟨V,sd,(ti:Int)⟩ rr e w'):=fun e w' k x h h'=>by rw [h];exact h'
 have HHV:Hid (∀k (h:k<V.length),∃x,x<256^100∧V[k]'h=E x):=fun k h=>by
  have h1:=(List.all_eq_true.1 hva) _ (List.getElem_mem h);have h2:=hok.s _ (List.getElem_mem h);obtain ⟨x,hx,e⟩:=of_vldB h1;rw [e] at h2;exact ⟨x,lt_of_size h2,e⟩
 have hn100:V.length≤100:=hok.n;have hmk:∀(m:Nat) (W:World),m≤100→(Instr.makeSlice 40 (.int .i64 (m:Int)) (.int .i64 (m:Int))).run Tryz.prog W=.ok (.slice (some ⟨W.heap.size,0,none⟩) m m) (W.alloc (.cells (List.replicate m (Value.string { data:=#[] })).toArray 31)):=fun m W h=>run_mks (P:=Tryz.prog) Tryz.underlying40 info_nat m (by omega) (by omega) W
 simp only [] at hV;obtain ⟨ao,c,rfl⟩:=RAt.form hV;obtain ⟨m,hm⟩:∃m,V.length=m:=⟨_,rfl⟩;have HM:=Lib.hid hm;rw [hm] at hV hn100 ⊢;have hmk2:=fun W=>hmk m W hn100
 clear hmk hm hok hva hp0 hp1 hg' hat hrr;obtain ⟨Zs,hZs⟩:∃l,l=List.replicate m (Value.string { data:=#[] }):=⟨_,rfl⟩;have HZL:Hid (Zs.length=m):=by rw [Hid,hZs];simp
 rw [←hZs] at hmk2;clear hZs;have hP:=blk2a w #[.slice ao m c,.string sd,.int .i64 (ti:Int)] #[.slice none 0 0,.string ⟨#[]⟩,.int .i64 0] 42 42;have hR:=blk2b w #[.slice ao m c,.string sd,.int .i64 (ti:Int)] #[.slice none 0 0,.string ⟨#[]⟩,.int .i64 0] 42 42;have hBW:=b2 w (.cells #[.slice ao m c,.string sd,.int .i64 (ti:Int)] 42) (.cells #[.slice none 0 0,.string ⟨#[]⟩,.int .i64 0] 42);replace hV:=SsAt.after hV hBW;obtain ⟨hPc0,hPf0,hPc1,hPf1,hPc2,hPf2⟩:=hP.x3;go_enter Tryz.func104,Tryz.ntmps104
 go_upto_region 1 with fail
 clear hPc0 hPf0 hPc1 hPf1 hPc2 hPf2;generalize (w.alloc (.cells #[.slice ao m c,.string sd,.int .i64 (ti:Int)] 42)).alloc (.cells #[.slice none 0 0,.string ⟨#[]⟩,.int .i64 0] 42)=w1 at hP hR hBW hV ⊢;obtain ⟨gP,hgP⟩:∃g,w.heap.size=g:=⟨_,rfl⟩;obtain ⟨gR,hgR⟩:∃g,w.heap.size+1=g:=⟨_,rfl⟩;have HGR:Hid (w.heap.size≤gR):=by rw [Hid];omega
 have HGN:Hid (gP≠gR∧gP<w1.heap.size∧gR<w1.heap.size):=⟨by omega,hP.lt |> fun h=>by omega,hR.lt |> fun h=>by omega⟩;rw [hgR,hgP];rw [hgR] at hR;rw [hgP] at hP;clear hgP hgR;replace hP:Blk w1 gP 42 [.slice ao m c,.string sd,.int .i64 (ti:Int)]:=hP;replace hR:Blk w1 gR 42 [.slice none 0 0,.string ⟨#[]⟩,.int .i64 0]:=hR;have hBits:∀w,Calls Tryz.prog 110 #[.string (E n)] w fun e w'=>e=.returned (.int .i64 (nb n))∧w=w':=fun w=>bits_c n w (Nat.lt_of_lt_of_le h2 (Nat.pow_le_pow_right (by decide) (by decide)))
 have HBI:=Lib.hid hBits;have HCM:Hid (∀(x:Nat) (w:World),x<256^100→Calls Tryz.prog 32 #[.string (E x),.string (E n)] w fun e w'=>e=.returned (.int .i64 (cmpN x n))∧w=w'):=fun x w hx=>cmp_c x n w (Nat.lt_of_lt_of_le hx (Nat.pow_le_pow_right (by decide) (by decide))) (Nat.lt_of_lt_of_le h2 (Nat.pow_le_pow_right (by decide) (by decide)))
 have HNB:Hid (1≤nb n∧nb n≤512):=by
  refine ⟨nb_pos n (by omega),?_⟩;apply Classical.byContradiction
  intro hc;have h3:=nb_low n (by omega);have h5:(2:Nat)^(8*64)≤2^(nb n-1):=Nat.pow_le_pow_right (by decide) (by omega);rw [Nat.pow_mul] at h5;exact Nat.lt_irrefl _ (Nat.lt_of_lt_of_le h2 (Nat.le_trans h5 h3))
 clear hBits h2;have hRl:=hR.lt;by_cases htm2:ti<m
 ·have hkl:ti<V.length:=by rw [HM.out];exact htm2
  obtain ⟨b,o,rfl,hb,hc1⟩:=SsAt.at_ hV hkl;obtain ⟨x,hx,hxe⟩:=HHV.out ti hkl;have HXE:=Lib.hid hxe;rw [hxe] at hc1;have HCX:=Lib.hid (fun w=>HCM.out x w hx);clear hxe HCM;have t0:(0:Int)≤(ti:Int):=by omega
  have t1:(ti:Int)<(m:Int):=by omega
  have t3:¬ (m:Int)≤(ti:Int):=by omega
  have t4:((ti:Int)==2147483647)=false:=by rw [beq_eq_false_iff_ne];omega
  obtain ⟨q,hq⟩:∃q:Int,q=cmpN x n:=⟨_,rfl⟩;rw [←hq] at HCX;obtain ⟨hPc0,hPf0,hPc1,hPf1,hPc2,hPf2⟩:=hP.x3;go_wp2_with fail
  refine (HCX.out _).mono ?_;rintro e w' ⟨rfl,rfl⟩;clear hPc0 hPf0 hPc1 hPf1 hPc2 hPf2;clear HCX;rcases Nat.lt_or_ge x n with hxn | hxn
  ·have d1:decide (0≤q)=false:=decide_eq_false (by rw [hq];have:=cmp_neg x n hxn;omega);have HRR:Hid (rr=(0,x)):=HRD.out.trans (coinD_val (att:=att) (T:=⟨V,sd,(ti:Int)⟩) (by exact hkl) (by exact HXE.out) hxn);clear hq hxn;obtain ⟨hPc0,hPf0,hPc1,hPf1,hPc2,hPf2⟩:=hP.x3;have hPl:gP<w1.heap.size:=HGN.out.2.1;go_upto_region 5 with fail
   go_cut [7] (fun s7 wx=>∃gX gS,s7=.pointer (some ⟨gX,0,none⟩)∧gX≠gS∧w1.heap.size≤gX∧w1.heap.size≤gS∧Blk wx gX 42 [.slice (some ⟨gS,0,none⟩) m m,.string sd,.int .i64 ((ti:Int)+1)]∧Blk wx gS 31 Zs∧Below w1.heap.size w1 wx)
   case first =>
    go_region
    all_goals
     go_wp2_with fail
     go_meet
     first
      | exact ⟨w1.heap.size+1,w1.heap.size,rfl,by omega,by omega,by omega,(blkN (by simp)).drew,((Blk.new w1 Zs.toArray _).alloc _).drew,(ba (b1 _ _) _).drew⟩
      | exact ⟨w1.heap.size,w1.heap.size+1,rfl,by omega,by omega,by omega,((Blk.new w1 #[.slice (some ⟨w1.heap.size+1,0,none⟩) m m,.string sd,.int .i64 ((ti:Int)+1)] _).alloc _).drew,(blkN (cs:=Zs.toArray) (by simp)).drew,(ba (b1 _ _) _).drew⟩
   case rest =>
   obtain ⟨gX,gS,rfl,hne,hgX,hgS,hX,hSl,hbX⟩:=hcut;obtain ⟨wx,hwx⟩:∃wx,wx=wc:=⟨_,rfl⟩;subst hwx;clear hPc0 hPf0 hPc1 hPf1 hPc2 hPf2
   have HSX:Hid (w.heap.size≤gX∧w.heap.size≤gS∧gX≠gR∧gS≠gR∧gX≠gS∧gP≠gS):=by
    have h1:=HGN.out;have h2:=hBW.size;exact ⟨by omega,by omega,by omega,by omega,hne,by omega⟩
   have hPx:=hP.after hbX;have hRx:=hR.after hbX;have hVx:=SsAt.after hV hbX;have hfar:=ss_far hV hgS;have hBWx:=bt hBW hbX;clear hP hR hV hBW hbX hRl hmk2 hne hgX hgS hPl;replace hPx:Blk wx gP 42 [.slice (some ⟨b,o,none⟩) m c,.string sd,.int .i64 (ti:Int)]:=hPx;replace hX:Blk wx gX 42 [.slice (some ⟨gS,0,none⟩) m m,.string sd,.int .i64 ((ti:Int)+1)]:=hX;obtain ⟨hPxc0,hPxf0,hPxc1,hPxf1,hPxc2,hPxf2⟩:=hPx.x3;obtain ⟨hXc0,hXf0,hXc1,hXf1,hXc2,hXf2⟩:=hX.x3;have hPl:=hPx.lt;have hXl:=hX.lt;go_upto_region 6 with fail
   go_cut [59] (fun s59 wy=>Blk wy gX 42 [.slice (some ⟨gS,0,none⟩) m m,.string sd,.int .i64 ((ti:Int)+1)]∧Blk wy gP 42 [.slice (some ⟨b,o,none⟩) m c,.string sd,.int .i64 (ti:Int)]∧Blk wy gR 42 [.slice none 0 0,.string ⟨#[]⟩,.int .i64 0]∧SsAt wy (.slice (some ⟨gS,0,none⟩) m m) V∧SsAt wy (.slice (some ⟨b,o,none⟩) m c) V∧Below w.heap.size w wy)
   case first =>
    by_cases hm0:m=0
    ·have HV0:Hid (V=[]):=List.length_eq_zero_iff.1 (by rw [HM.out];exact hm0);have HM0:=Lib.hid hm0;have hcp:=run_copy_none (P:=Tryz.prog) wx 40 40 3 31 (some ⟨gS,0,none⟩) (some ⟨b,o,none⟩) m m m c Tryz.underlying40 (by kernel_rfl) (by rw [hm0];rfl);clear hm0;go_wp2;go_meet
     refine ⟨hX,hPx,hRx,?_,hVx,hBWx⟩;have hm0:=HM0.out;subst hm0;rw [HV0.out];exact ⟨_,_,rfl,.inl rfl⟩
    ·have hml:V.length≠0:=by rw [HM.out];exact hm0
     obtain ⟨ad,e,hnews⟩:=ss_src hVx hml;have hcp:=run_copy_row (P:=Tryz.prog) wx 40 40 3 31 gS 0 m m ad m c Zs.toArray 31 (V.map Value.string) Tryz.underlying40 (by kernel_rfl) hSl (by rw [List.length_map,HM.out];exact (Nat.min_self m).symm) hnews (by rw [List.length_map,HM.out,List.size_toArray,HZL.out];omega) (by intro u hu;obtain ⟨x,_,rfl⟩:=List.mem_map.1 hu;rfl)
     have hrow:Blk (wx.setRow gS (Zs.toArray.toList.take 0++V.map Value.string++Zs.toArray.toList.drop (0+(V.map Value.string).length)).toArray) gS 31 (V.map Value.string):=by
      have h:=setRow_heap wx gS Zs.toArray (Zs.toArray.toList.take 0++V.map Value.string++Zs.toArray.toList.drop (0+(V.map Value.string).length)).toArray 31 (0,0) hSl;have e:Zs.drop (0+(V.map Value.string).length)=[]:=List.drop_eq_nil_of_le (by rw [List.length_map,HM.out,HZL.out];omega);rw [Blk,h];show some (Obj.cells (Zs.take 0++V.map Value.string++Zs.drop (0+(V.map Value.string).length)).toArray _ _)=_;rw [e,List.take_zero,List.nil_append,List.append_nil]
     generalize (Zs.toArray.toList.take 0++V.map Value.string++Zs.toArray.toList.drop (0+(V.map Value.string).length)).toArray=xs at hcp hrow;generalize (V.map Value.string).length=nl at hcp;clear hnews hm0 hml;first | subst e | (injection e with e;subst e)
     go_wp2;go_meet
     refine ⟨blk_row hX HSX.out.2.2.2.2.1,blk_row hPx HSX.out.2.2.2.2.2,blk_row hRx HSX.out.2.2.2.1.symm,?_,ss_row hVx hfar,below_setRow hBWx HSX.out.2.1 _⟩;have h:=ss_blk m hrow;rw [HM.out] at h;exact h
   case rest =>
   clear hPxc0 hPxf0 hPxc1 hPxf1 hPxc2 hPxf2;clear hXc0 hXf0 hXc1 hXf1 hXc2 hXf2;clear hPx hX hRx hVx hBWx hPl hXl hSl;obtain ⟨hX,hP,hR,hU,hV,hBW⟩:=hcut;obtain ⟨wy,hwy⟩:∃wx,wx=wc:=⟨_,rfl⟩;subst hwy;clear HRD HHV d1;obtain ⟨b2,o2,e2,hb2,hc2⟩:=SsAt.at_ hV hkl;injection e2 with e2
   injection e2 with e1 e3 e4
   subst e1 e3;clear e4;rw [HXE.out] at hc2;have hRl:=hR.lt;have hXl:=hX.lt;have hPl:=hP.lt;obtain ⟨hRc0,hRf0,hRc1,hRf1,hRc2,hRf2⟩:=hR.x3;obtain ⟨hXc0,hXf0,hXc1,hXf1,hXc2,hXf2⟩:=hX.x3;obtain ⟨hPc0,hPf0,hPc1,hPf1,hPc2,hPf2⟩:=hP.x3;go_wp2_with fail
   go_region;go_wp2;refine bodyPost_ret (v:=.tuple #[.string (E x),.agg #[.slice (some ⟨gS,0,none⟩) m m,.string sd,.int .i64 ((ti:Int)+1)],.int .i64 0]) ?_ rfl ?_
   ·simp [results,Tryz.results104,go_sem,hRc0,hRc1,hRc2,hRl]
   ·rw [HRR.out];exact ⟨_,rfl,⟨_,rfl,SsAt.after (((hU.set_other HSX.out.2.2.2.1).set_other HSX.out.2.2.2.1).set_other HSX.out.2.2.2.1) (Below.drew (Below.refl _ _))⟩,TFar.of (fun b hb b' o n c e _=>by injection e with e;injection e with e;injection e with e;have:=HSX.out.2.1;omega),(((hBW.setCell HGR.out _).setCell HGR.out _).setCell HGR.out _).drew⟩
  ·have d1:decide (0≤q)=true:=decide_eq_true (by rw [hq];have:=cmp_nneg x n hxn;omega);have HRR:Hid (rr=(2,0)):=HRD.out.trans (coinD_big (att:=att) (T:=⟨V,sd,(ti:Int)⟩) (by exact hkl) (by exact HXE.out) hxn);clear hq hxn;obtain ⟨hRc0,hRf0,hRc1,hRf1,hRc2,hRf2⟩:=hR.x3;go_wp2;refine bodyPost_ret (v:=.tuple #[.string ⟨#[]⟩,.agg #[.slice none 0 0,.string ⟨#[]⟩,.int .i64 0],.int .i64 2]) ?_ rfl ?_
   ·simp [results,Tryz.results104,go_sem,hRc0,hRc1,hRc2,hRl]
   ·rw [HRR.out];exact ⟨_,rfl,⟨_,rfl,ss_nil _⟩,TFar.zero _ _ _,((hBW.setCell HGR.out _).setCell HGR.out _).setCell HGR.out _⟩
 ·have hkl:¬ ti<V.length:=by rw [HM.out];exact htm2
  have t1:¬ (ti:Int)<(m:Int):=by omega
  have t3:(m:Int)≤(ti:Int):=by omega
  have hle:V.length≤((ti:Int)).toNat:=by rw [Int.toNat_natCast];omega
  by_cases hs0:sd.size=0
  ·have HRR:Hid (rr=(14,0)):=HRD.out.trans (coinD_no (att:=att) (T:=⟨V,sd,(ti:Int)⟩) hle (.inl hs0));obtain rfl:sd=ByteArray.empty:=by apply ByteArray.ext;apply Array.eq_empty_of_size_eq_zero;exact hs0
   obtain ⟨hPc0,hPf0,hPc1,hPf1,hPc2,hPf2⟩:=hP.x3;obtain ⟨hRc0,hRf0,hRc1,hRf1,hRc2,hRf2⟩:=hR.x3;go_wp2;refine bodyPost_ret (v:=.tuple #[.string ⟨#[]⟩,.agg #[.slice none 0 0,.string ⟨#[]⟩,.int .i64 0],.int .i64 14]) ?_ rfl ?_
   ·simp [results,Tryz.results104,go_sem,hRc0,hRc1,hRc2,hRl]
   ·rw [HRR.out];exact ⟨_,rfl,⟨_,rfl,ss_nil _⟩,TFar.zero _ _ _,((hBW.setCell HGR.out _).setCell HGR.out _).setCell HGR.out _⟩
  ·have hne:=nz_str (s:=sd) (by omega);by_cases htx:ti=2147483647
   ·have HRR:Hid (rr=(14,0)):=HRD.out.trans (coinD_no (att:=att) (T:=⟨V,sd,(ti:Int)⟩) hle (.inr (by show (ti:Int)=2147483647;omega)));subst htx;obtain ⟨hPc0,hPf0,hPc1,hPf1,hPc2,hPf2⟩:=hP.x3;obtain ⟨hRc0,hRf0,hRc1,hRf1,hRc2,hRf2⟩:=hR.x3;go_wp2;refine bodyPost_ret (v:=.tuple #[.string ⟨#[]⟩,.agg #[.slice none 0 0,.string ⟨#[]⟩,.int .i64 0],.int .i64 14]) ?_ rfl ?_
    ·simp [results,Tryz.results104,go_sem,hRc0,hRc1,hRc2,hRl]
    ·rw [HRR.out];exact ⟨_,rfl,⟨_,rfl,ss_nil _⟩,TFar.zero _ _ _,((hBW.setCell HGR.out _).setCell HGR.out _).setCell HGR.out _⟩
   ·have htb:((ti:Int)==2147483647)=false:=by rw [beq_eq_false_iff_ne];omega
    have HRS:Hid (rr=coinS att ⟨V,sd,(ti:Int)⟩ n):=HRD.out.trans (coinD_s (att:=att) (T:=⟨V,sd,(ti:Int)⟩) hle hs0 (by show (ti:Int)≠2147483647;omega));have HAX:Hid (∀a,a<256→att sd ti a (nb n)<256^64∧∀(ao:Option Addr) (m c:Nat) (W:World),Below w.heap.size w W→Calls Tryz.prog 133 #[.agg #[.slice ao m c,.string sd,.int .i64 (ti:Int)],.int .i64 (a:Int),.int .i64 (nb n)] W fun e w'=>e=.returned (.string (E (att sd ti a (nb n))))∧Below W.heap.size W w'):=fun a ha=>HAT.out hs0 ti a (nb n) htm ha HNB.out.1 HNB.out.2
    clear HAT HRD hle HHV;obtain ⟨hPc0,hPf0,hPc1,hPf1,hPc2,hPf2⟩:=hP.x3;have hPl:gP<w1.heap.size:=HGN.out.2.1;go_upto_region 5 with fail
    go_cut [7] (fun s7 wx=>∃gX gS,s7=.pointer (some ⟨gX,0,none⟩)∧gX≠gS∧w1.heap.size≤gX∧w1.heap.size≤gS∧Blk wx gX 42 [.slice (some ⟨gS,0,none⟩) m m,.string sd,.int .i64 ((ti:Int)+1)]∧Blk wx gS 31 Zs∧Below w1.heap.size w1 wx)
    case first =>
     go_region
     all_goals
      go_wp2_with fail
      go_meet
      first
       | exact ⟨w1.heap.size+1,w1.heap.size,rfl,by omega,by omega,by omega,(blkN (by simp)).drew,((Blk.new w1 Zs.toArray _).alloc _).drew,(ba (b1 _ _) _).drew⟩
       | exact ⟨w1.heap.size,w1.heap.size+1,rfl,by omega,by omega,by omega,((Blk.new w1 #[.slice (some ⟨w1.heap.size+1,0,none⟩) m m,.string sd,.int .i64 ((ti:Int)+1)] _).alloc _).drew,(blkN (cs:=Zs.toArray) (by simp)).drew,(ba (b1 _ _) _).drew⟩
    case rest =>
    obtain ⟨gX,gS,rfl,hne,hgX,hgS,hX,hSl,hbX⟩:=hcut;obtain ⟨wx,hwx⟩:∃wx,wx=wc:=⟨_,rfl⟩;subst hwx;clear hPc0 hPf0 hPc1 hPf1 hPc2 hPf2
    have HSX:Hid (w.heap.size≤gX∧w.heap.size≤gS∧gX≠gR∧gS≠gR∧gX≠gS∧gP≠gS):=by
     have h1:=HGN.out;have h2:=hBW.size;exact ⟨by omega,by omega,by omega,by omega,hne,by omega⟩
    have hPx:=hP.after hbX;have hRx:=hR.after hbX;have hVx:=SsAt.after hV hbX;have hfar:=ss_far hV hgS;have hBWx:=bt hBW hbX;clear hP hR hV hBW hbX hRl hmk2 hne hgX hgS hPl;replace hPx:Blk wx gP 42 [.slice ao m c,.string sd,.int .i64 (ti:Int)]:=hPx;replace hX:Blk wx gX 42 [.slice (some ⟨gS,0,none⟩) m m,.string sd,.int .i64 ((ti:Int)+1)]:=hX;obtain ⟨hPxc0,hPxf0,hPxc1,hPxf1,hPxc2,hPxf2⟩:=hPx.x3;obtain ⟨hXc0,hXf0,hXc1,hXf1,hXc2,hXf2⟩:=hX.x3;have hPl:=hPx.lt;have hXl:=hX.lt;go_upto_region 6 with fail
    go_cut [59] (fun s59 wy=>Blk wy gX 42 [.slice (some ⟨gS,0,none⟩) m m,.string sd,.int .i64 ((ti:Int)+1)]∧Blk wy gP 42 [.slice ao m c,.string sd,.int .i64 (ti:Int)]∧Blk wy gR 42 [.slice none 0 0,.string ⟨#[]⟩,.int .i64 0]∧SsAt wy (.slice (some ⟨gS,0,none⟩) m m) V∧SsAt wy (.slice ao m c) V∧Below w.heap.size w wy)
    case first =>
     by_cases hm0:m=0
     ·have HV0:Hid (V=[]):=List.length_eq_zero_iff.1 (by rw [HM.out];exact hm0);have HM0:=Lib.hid hm0;have hcp:=run_copy_none (P:=Tryz.prog) wx 40 40 3 31 (some ⟨gS,0,none⟩) ao m m m c Tryz.underlying40 (by kernel_rfl) (by rw [hm0];rfl);clear hm0;go_wp2;go_meet
      refine ⟨hX,hPx,hRx,?_,hVx,hBWx⟩;have hm0:=HM0.out;subst hm0;rw [HV0.out];exact ⟨_,_,rfl,.inl rfl⟩
     ·have hml:V.length≠0:=by rw [HM.out];exact hm0
      obtain ⟨ad,e,hnews⟩:=ss_src hVx hml;have hcp:=run_copy_row (P:=Tryz.prog) wx 40 40 3 31 gS 0 m m ad m c Zs.toArray 31 (V.map Value.string) Tryz.underlying40 (by kernel_rfl) hSl (by rw [List.length_map,HM.out];exact (Nat.min_self m).symm) hnews (by rw [List.length_map,HM.out,List.size_toArray,HZL.out];omega) (by intro u hu;obtain ⟨x,_,rfl⟩:=List.mem_map.1 hu;rfl)
      have hrow:Blk (wx.setRow gS (Zs.toArray.toList.take 0++V.map Value.string++Zs.toArray.toList.drop (0+(V.map Value.string).length)).toArray) gS 31 (V.map Value.string):=by
       have h:=setRow_heap wx gS Zs.toArray (Zs.toArray.toList.take 0++V.map Value.string++Zs.toArray.toList.drop (0+(V.map Value.string).length)).toArray 31 (0,0) hSl;have e:Zs.drop (0+(V.map Value.string).length)=[]:=List.drop_eq_nil_of_le (by rw [List.length_map,HM.out,HZL.out];omega);rw [Blk,h];show some (Obj.cells (Zs.take 0++V.map Value.string++Zs.drop (0+(V.map Value.string).length)).toArray _ _)=_;rw [e,List.take_zero,List.nil_append,List.append_nil]
      generalize (Zs.toArray.toList.take 0++V.map Value.string++Zs.toArray.toList.drop (0+(V.map Value.string).length)).toArray=xs at hcp hrow;generalize (V.map Value.string).length=nl at hcp;clear hnews hm0 hml;first | subst e | (injection e with e;subst e)
      go_wp2;go_meet
      refine ⟨blk_row hX HSX.out.2.2.2.2.1,blk_row hPx HSX.out.2.2.2.2.2,blk_row hRx HSX.out.2.2.2.1.symm,?_,ss_row hVx hfar,below_setRow hBWx HSX.out.2.1 _⟩;have h:=ss_blk m hrow;rw [HM.out] at h;exact h
    case rest =>
    clear hPxc0 hPxf0 hPxc1 hPxf1 hPxc2 hPxf2;clear hXc0 hXf0 hXc1 hXf1 hXc2 hXf2;clear hPx hX hRx hVx hBWx hPl hXl hSl;obtain ⟨hX,hP,hR,hU,hV,hBW⟩:=hcut;obtain ⟨wy,hwy⟩:∃wx,wx=wc:=⟨_,rfl⟩;subst hwy;obtain ⟨hPc0,hPf0,hPc1,hPf1,hPc2,hPf2⟩:=hP.x3;go_wp2;clear hPc0 hPf0 hPc1 hPf1 hPc2 hPf2;go_loopw [73] (fun i wr=>∃a:Nat,a≤256∧i=.int .i64 (a:Int)∧Hid (∀j,j<a→n≤att sd ti j (nb n))∧Below wy.heap.size wy wr) (fun i _=>256-(intOf i).toNat)
    case atStart=>exact ⟨0,by omega,rfl,fun j h=>absurd h (Nat.not_lt_zero _),Below.refl _ _⟩
    case round =>
     obtain ⟨a,ha,rfl,HA,hbr⟩:=hrel;obtain ⟨wp,hwp⟩:∃wp,wp=wr:=⟨_,rfl⟩;subst hwp;replace hX:=hX.after hbr;replace hP:=hP.after hbr;replace hR:=hR.after hbr;replace hU:=SsAt.after hU hbr;replace hBW:=bt hBW hbr;by_cases hlt:a<256
     ·have HATk:Hid (att sd ti a (nb n)<256^64∧∀(ao:Option Addr) (m c:Nat) (W:World),Below wp.heap.size wp W→Calls Tryz.prog 133 #[.agg #[.slice ao m c,.string sd,.int .i64 (ti:Int)],.int .i64 (a:Int),.int .i64 (nb n)] W fun e w'=>e=.returned (.string (E (att sd ti a (nb n))))∧Below W.heap.size W w'):=⟨(HAX.out a hlt).1,fun ao m c W hW=>(HAX.out a hlt).2 ao m c W (bt hBW hW)⟩;have HXV:Hid (att sd ti a (nb n)<n→rr=(0,att sd ti a (nb n))):=fun h=>HRS.out.trans (coinS_at (att:=att) (T:=⟨V,sd,(ti:Int)⟩) hlt HA.out h)
      have HXW:Hid (n≤att sd ti a (nb n)→∀j,j<a+1→n≤att sd ti j (nb n)):=fun h j hj=>by
       by_cases e:j=a
       ·rw [e];exact h
       ·exact HA.out j (by omega)
      generalize att sd ti a (nb n)=x at HATk HXV HXW;have HCX:=Lib.hid (fun w=>HCM.out x w (Nat.lt_of_lt_of_le HATk.out.1 (Nat.pow_le_pow_right (by decide) (by decide))));obtain ⟨hPc0,hPf0,hPc1,hPf1,hPc2,hPf2⟩:=hP.x3;have hPg0:=hP.gcell 0;have hPg1:=hP.gcell 1;have hPg2:=hP.gcell 2;go_upto_region 12 with fail
      go_wp2_with fail
      refine wp_region_gw (by kernel_rfl) (by kernel_rfl) ?_;repeat (go_big_quiet_step (first | (go_at_call 110;exact gw_same (HBI.out _)) | (go_at_call 133;exact gw_of (HATk.out.2 _ _ _ _ (gw_below _)))))
      refine wpQuiet_nil ?_;rintro w4 ⟨xw4,rfl⟩;have hb4:=gw_below xw4;generalize gw xw4=w4 at hb4;clear hPc0 hPf0 hPc1 hPf1 hPc2 hPf2;clear hPg0 hPg1 hPg2;replace hX:=hX.after hb4;replace hP:=hP.after hb4;replace hR:=hR.after hb4;replace hU:=SsAt.after hU hb4;replace hBW:=bt hBW hb4;replace hbr:=bt hbr hb4;clear hb4;obtain ⟨q,hq⟩:∃q:Int,q=cmpN x n:=⟨_,rfl⟩;rw [←hq] at HCX;rcases Nat.lt_or_ge x n with hxn | hxn
      ·have d1:decide (q<0)=true:=decide_eq_true (by rw [hq];exact cmp_neg x n hxn);have HRR:=Lib.hid (HXV.out hxn);clear hq hxn HXV HXW HATk;go_wp2_with fail
       refine (HCX.out _).mono ?_;rintro e w' ⟨rfl,rfl⟩;have hRl:=hR.lt;have hXl:=hX.lt;have hPl:=hP.lt;obtain ⟨hRc0,hRf0,hRc1,hRf1,hRc2,hRf2⟩:=hR.x3;obtain ⟨hXc0,hXf0,hXc1,hXf1,hXc2,hXf2⟩:=hX.x3;obtain ⟨hPc0,hPf0,hPc1,hPf1,hPc2,hPf2⟩:=hP.x3;go_wp2_with fail
       go_region;go_wp2;refine bodyPost_ret (v:=.tuple #[.string (E x),.agg #[.slice (some ⟨gS,0,none⟩) m m,.string sd,.int .i64 ((ti:Int)+1)],.int .i64 0]) ?_ rfl ?_
       ·simp [results,Tryz.results104,go_sem,hRc0,hRc1,hRc2,hRl]
       ·rw [HRR.out];exact ⟨_,rfl,⟨_,rfl,SsAt.after (((hU.set_other HSX.out.2.2.2.1).set_other HSX.out.2.2.2.1).set_other HSX.out.2.2.2.1) (Below.drew (Below.refl _ _))⟩,TFar.of (fun b hb b' o n c e _=>by injection e with e;injection e with e;injection e with e;have:=HSX.out.2.1;omega),(((hBW.setCell HGR.out _).setCell HGR.out _).setCell HGR.out _).drew⟩
      ·have d1:decide (q<0)=false:=decide_eq_false (by rw [hq];exact cmp_nneg x n hxn);have HXX:=Lib.hid (HXW.out hxn);clear hq hxn HXV HXW HATk;go_wp2_with fail
       refine (HCX.out _).mono ?_;rintro e w' ⟨rfl,rfl⟩;go_wp2;go_roundw
       case rel=>exact ⟨a+1,by omega,by go_num,HXX.out,hbr⟩
       case measure=>simp [intOf];omega
     ·have HRR:Hid (rr=(14,0)):=HRS.out.trans (coinS_no (att:=att) (T:=⟨V,sd,(ti:Int)⟩) (fun j hj=>HA.out j (by omega)));have hRl:=hR.lt;obtain ⟨hRc0,hRf0,hRc1,hRf1,hRc2,hRf2⟩:=hR.x3;go_wp2;refine bodyPost_ret (v:=.tuple #[.string ⟨#[]⟩,.agg #[.slice none 0 0,.string ⟨#[]⟩,.int .i64 0],.int .i64 14]) ?_ rfl ?_
      ·simp [results,Tryz.results104,go_sem,hRc0,hRc1,hRc2,hRl]
      ·rw [HRR.out];exact ⟨_,rfl,⟨_,rfl,ss_nil _⟩,TFar.zero _ _ _,((hBW.setCell HGR.out _).setCell HGR.out _).setCell HGR.out _⟩
end
section
open Go.RowKit Go.Shelf
theorem TFar.mono {t:Value} {g g':Nat} (h:TFar t g) (hg:g'≤g):TFar t g':=fun u x y e b hb=>h u x y e b (by omega)
theorem TFar.far {u x y:Value} {g b:Nat} (h:TFar (.agg #[u,x,y]) g) (hb:b<g):FarS u b:=h u x y rfl b hb
theorem rdy_coin {att:Att} {T:Tp} {n:Nat} (h:T.rdy n≠0):coin att T n=(T.rdy n,0):=by
 unfold Tp.rdy at *;unfold coin;by_cases h1:T.good=false
 ·rw [if_pos h1,if_pos h1]
 ·rw [if_neg h1] at h;rw [if_neg h1,if_neg h1];by_cases h2:n=0
  ·rw [if_pos h2,if_pos h2]
  ·rw [if_neg h2] at h;exact absurd rfl h
theorem rdy_zero {T:Tp} {n:Nat} (h:T.rdy n=0):T.good=true∧1≤n∧∀att,coin att T n=coinD att T n:=by
 unfold Tp.rdy at h;split at h
 ·simp at h
 ·rename_i h1;split at h
  ·simp at h
  ·rename_i h2;refine ⟨by simpa using h1,by omega,fun att=>?_⟩;unfold coin;rw [if_neg h1,if_neg h2]
theorem tp_after {T:Tp} {k:Nat} (h:k≠0):T.after k=Tp.nil:=by unfold Tp.after;rw [if_neg h]
theorem cbelow_c (att:Att) (T:Tp) (v:Value) (n:Nat) (w:World) (hat:HAtt att T.seed w) (hok:T.Ok) (h2:n<256^64) (hV:SsAt w v T.vals) :
  Calls Tryz.prog 66 #[.agg #[v,.string T.seed,.int .i64 T.pos],.string (E n)] w (CPost w T (coin att T n)):=by
 have HRD:Hid (∀w',Below w.heap.size w w'→Calls Tryz.prog 103 #[.agg #[v,.string T.seed,.int .i64 T.pos],.string (E n)] w' fun e w''=>e=.returned (.int .i64 (T.rdy n:Nat))∧Below w'.heap.size w' w''):=fun w' hb=>cready_c T v n w' hok (lt64 h2) (SsAt.after hV hb)
 have HDR:Hid (T.rdy n=0→∀w',Below w.heap.size w w'→Calls Tryz.prog 104 #[.agg #[v,.string T.seed,.int .i64 T.pos],.string (E n)] w' (CPost w' T (coin att T n))):=fun h w' hb=>by
  obtain ⟨a,b,c⟩:=rdy_zero h;rw [c att];exact cdraw_c att T v n w' (hat.after hb) hok a b h2 (SsAt.after hV hb)
 have HRC:Hid (T.rdy n≠0→coin att T n=(T.rdy n,0)):=rdy_coin;obtain ⟨ao,c,rfl⟩:=RAt.form hV;generalize coin att T n=rr at HDR HRC ⊢;generalize T.rdy n=k at HRD HDR HRC;have hP:=blk2a w #[.slice ao T.vals.length c,.string T.seed,.int .i64 T.pos] #[.slice none 0 0,.string ⟨#[]⟩,.int .i64 0] 42 42;have hR:=blk2b w #[.slice ao T.vals.length c,.string T.seed,.int .i64 T.pos] #[.slice none 0 0,.string ⟨#[]⟩,.int .i64 0] 42 42;have hBW:=b2 w (.cells #[.slice ao T.vals.length c,.string T.seed,.int .i64 T.pos] 42) (.cells #[.slice none 0 0,.string ⟨#[]⟩,.int .i64 0] 42);generalize T.vals.length=m at HRD HDR hP hR hBW ⊢;obtain ⟨gR,hgR⟩:∃g,w.heap.size+1=g:=⟨_,rfl⟩;have HGR:Hid (w.heap.size≤gR):=by rw [Hid];omega
 have HGE:=Lib.hid hgR;clear hat hok h2 hV hgR;obtain ⟨hPc0,hPf0,hPc1,hPf1,hPc2,hPf2⟩:=hP.x3;go_enter Tryz.func66,Tryz.ntmps66
 go_wp2_with fail
 refine (HRD.out _ hBW).mono ?_;rintro e w2 ⟨rfl,hb2⟩;clear hPc0 hPf0 hPc1 hPf1 hPc2 hPf2;replace hP:=hP.after hb2;replace hR:=hR.after hb2;replace hBW:=bt hBW hb2;clear hb2 HRD;rw [HGE.out] at hR ⊢;clear HGE;replace hP:Blk w2 w.heap.size 42 [.slice ao m c,.string T.seed,.int .i64 T.pos]:=hP;replace hR:Blk w2 gR 42 [.slice none 0 0,.string ⟨#[]⟩,.int .i64 0]:=hR;have HRW:=Lib.hid hR.lt;by_cases hk:k=0
 ·subst hk;have HD:=Lib.hid (HDR.out rfl);clear HDR HRC;obtain ⟨hPc0,hPf0,hPc1,hPf1,hPc2,hPf2⟩:=hP.x3;go_wp2_with fail
  refine (HD.out _ hBW).mono ?_;rintro e w3 ⟨t,rfl,⟨u,rfl,hU⟩,hF,hb3⟩;clear hPc0 hPf0 hPc1 hPf1 hPc2 hPf2;have HF2:=Lib.hid (hF.far HRW.out);replace hF:=hF.mono hBW.size;replace hR:=hR.after hb3;replace hBW:=bt hBW hb3;clear hb3 hP HD;generalize hT':T.after rr.1=T' at hU hF ⊢;obtain ⟨uo,uc,rfl⟩:=RAt.form hU;obtain ⟨ul,hul⟩:∃l,l=T'.vals.length:=⟨_,rfl⟩;have HUL:=Lib.hid hul;have HTT:=Lib.hid hT';rw [←hul] at hU hF HF2 ⊢;clear hul hT';obtain ⟨us,hus⟩:∃s,s=T'.seed:=⟨_,rfl⟩;obtain ⟨ut,hut⟩:∃s,s=T'.pos:=⟨_,rfl⟩;rw [←hus,←hut] at hF ⊢;have HE:=Lib.hid (And.intro hus hut);clear hus hut;have hRl:=hR.lt;obtain ⟨hRc0,hRf0,hRc1,hRf1,hRc2,hRf2⟩:=hR.x3;go_wp2;refine bodyPost_ret (v:=.tuple #[.string (E rr.2),.agg #[.slice uo ul uc,.string us,.int .i64 ut],.int .i64 (rr.1:Int)]) ?_ rfl ⟨_,rfl,?_,hF,((hBW.setCell HGR.out _).setCell HGR.out _).setCell HGR.out _⟩
  ·simp [results,Tryz.results66,go_sem,hRc0,hRc1,hRc2,hRl]
  ·rw [HTT.out,HE.out.1,HE.out.2];exact ⟨_,rfl,((hU.set_far HF2.out).set_far HF2.out).set_far HF2.out⟩
 ·have hkb:((k:Int) != 0)=true:=by rw [bne_iff_ne];omega
  have HRR:=Lib.hid (HRC.out hk);have HTA:=Lib.hid (tp_after (T:=T) hk);clear hk HRC HDR hP;have hRl:=hR.lt;obtain ⟨hRc0,hRf0,hRc1,hRf1,hRc2,hRf2⟩:=hR.x3;go_wp2;refine bodyPost_ret (v:=.tuple #[.string ⟨#[]⟩,.agg #[.slice none 0 0,.string ⟨#[]⟩,.int .i64 0],.int .i64 (k:Int)]) ?_ rfl ?_
  ·simp [results,Tryz.results66,go_sem,hRc0,hRc1,hRc2,hRl]
  ·rw [HRR.out];exact ⟨_,rfl,by show TAt _ _ (T.after k);rw [HTA.out];exact ⟨_,rfl,ss_nil _⟩,TFar.zero _ _ _,((hBW.setCell HGR.out _).setCell HGR.out _).setCell HGR.out _⟩
end
end Go.Proofs.YtdoacbdkbbpamaaGreatDoor
