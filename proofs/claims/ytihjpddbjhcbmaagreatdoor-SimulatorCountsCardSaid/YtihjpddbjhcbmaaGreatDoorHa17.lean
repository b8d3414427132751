/- linear.Holds returns,for all statements and witnesses. -/
import Derived.Test.YtihjpddbjhcbmaaGreatDoorSm6
set_option linter.unusedVariables false
set_option linter.unusedSimpArgs false
set_option maxRecDepth 100000
set_option maxHeartbeats 16000000
namespace Go.Proofs.YtihjpddbjhcbmaaGreatDoor
open Go.RowKit Go.Shelf
theorem rdi1B_c (b:Bool) (s:ByteArray) (w:World) (hm:s.size≤1000) :
  Calls Tryz.prog 206 #[.agg #[.bool b,.string s]] w fun e w'=>e=.returned (.bool (!ivB b s))∧Bw w w':=by
 have HV:Hid (∀w,Calls Tryz.prog 182 #[.agg #[.bool b,.string s]] w fun e w'=>e=.returned (.bool (ivB b s))∧Bw w w'):=fun w=>ivalid_c b s w (by omega)
 generalize ivB b s=r at HV;clear hm;go_enter Tryz.func206,Tryz.ntmps206
 go_wp2_with fail
 refine (HV.out _).mono ?_;rintro e w1 ⟨rfl,hb⟩;cases r
 all_goals
  go_wp2;go_ret
  exact⟨rfl,bt (b1 _ _) hb⟩
def rdyE (bf bi:Bool) (kc:Nat):Nat:=if bf=false then 3 else if bi=true then 3 else kc
theorem ready_err (a1 a2 a3 a4:Option Addr) (n1 n2 n3 n4 c1 c2 c3 c4:Nat) (bf bi:Bool) (kc:Nat) (w:World) (hk:rdyE bf bi kc≠0)
  (h1:∀w',Bw w w'→Calls Tryz.prog 205 #[.agg #[.slice a1 n1 c1,.slice a2 n2 c2,.slice a3 n3 c3]] w' fun e w''=>e=.returned (.int .i64 (if bf then 0 else 3))∧Bw w' w'')
  (h2:∀w',Bw w w'→Calls Tryz.prog 173 #[.slice a4 n4 c4,.func (.func 206) #[] #[]] w' fun e w''=>e=.returned (.bool bi)∧Bw w' w'')
  (h3:bf=true→∀w',Bw w w'→Calls Tryz.prog 177 #[.agg #[.slice a1 n1 c1,.slice a2 n2 c2,.slice a3 n3 c3]] w' fun e w''=>e=.returned (.int .i64 (kc:Nat))∧Bw w' w'') :
  Calls Tryz.prog 110 #[.agg #[.slice a1 n1 c1,.slice a2 n2 c2,.slice a3 n3 c3],.slice a4 n4 c4] w fun e w'=>e=.returned (.int .i64 (rdyE bf bi kc:Nat))∧Bw w w':=by
 have H1:=Kh h1;have H2:=Kh h2;have H3:=Kh h3;have HN:=Kh hk;clear h1 h2 h3 hk;obtain⟨hP,hh⟩:=blk1 w #[.slice a1 n1 c1,.slice a2 n2 c2,.slice a3 n3 c3] 29;cases bf
 ·skip
  obtain⟨hb,hc,hd,he,hf,hg⟩:=hP.x3;go_enter Tryz.func110,Tryz.ntmps110
  go_wp2_with fail
  refine (H1.out _ hh).mono ?_;rintro e w2 ⟨rfl,hi⟩;go_wp2;go_ret
  exact⟨rfl,bt hh hi⟩
 ·have hl:=Kh (H3.out rfl);clear H3;cases bi
  ·have HK:Hid (rdyE true false kc=kc):=rfl;rw[HK.out];have hm:kc≠0:=by have:=HN.out;rwa [HK.out]at this
   have hn:((kc:Int) != 0)=true:=by rw[bne_iff_ne];omega
   clear hm;obtain⟨hb,hc,hd,he,hf,hg⟩:=hP.x3;go_enter Tryz.func110,Tryz.ntmps110
   go_wp2_with fail
   refine (H1.out _ hh).mono ?_;rintro e w2 ⟨rfl,hi⟩;clear hb hc hd he hf hg;replace hP:=hP.after hi;replace hh:=bt hh hi;clear hi;obtain⟨hb,hc,hd,he,hf,hg⟩:=hP.x3;go_wp2_with fail
   refine (H2.out _ hh).mono ?_;rintro e w3 ⟨rfl,hj⟩;clear hb hc hd he hf hg;replace hP:=hP.after hj;replace hh:=bt hh hj;clear hj;obtain⟨hb,hc,hd,he,hf,hg⟩:=hP.x3;go_wp2_with fail
   refine (hl.out _ hh).mono ?_;rintro e w4 ⟨rfl,hb4⟩;clear hb hc hd he hf hg;go_wp2;go_ret
   exact⟨rfl,bt hh hb4⟩
  ·skip
   obtain⟨hb,hc,hd,he,hf,hg⟩:=hP.x3;go_enter Tryz.func110,Tryz.ntmps110
   go_wp2_with fail
   refine (H1.out _ hh).mono ?_;rintro e w2 ⟨rfl,hi⟩;clear hb hc hd he hf hg;replace hP:=hP.after hi;replace hh:=bt hh hi;clear hi;obtain⟨hb,hc,hd,he,hf,hg⟩:=hP.x3;go_wp2_with fail
   refine (H2.out _ hh).mono ?_;rintro e w3 ⟨rfl,hj⟩;go_wp2;go_ret
   exact⟨rfl,bt hh hj⟩
theorem holds_err (a1 a2 a3 a4:Option Addr) (n1 n2 n3 n4 c1 c2 c3 c4 k:Nat) (w:World) (hk:k≠0)
  (h:∀w',Bw w w'→Calls Tryz.prog 110 #[.agg #[.slice a1 n1 c1,.slice a2 n2 c2,.slice a3 n3 c3],.slice a4 n4 c4] w' fun e w''=>e=.returned (.int .i64 (k:Nat))∧Bw w' w'') :
  Calls Tryz.prog 30 #[.agg #[.slice a1 n1 c1,.slice a2 n2 c2,.slice a3 n3 c3],.slice a4 n4 c4] w fun e w'=>e=.returned (.tuple #[.bool false,.int .i64 (k:Nat)])∧Bw w w':=by
 have H:=Kh h;have hj:((k:Int) != 0)=true:=by rw[bne_iff_ne];omega
 clear h hk;obtain⟨hP,hb⟩:=blk1 w #[.slice a1 n1 c1,.slice a2 n2 c2,.slice a3 n3 c3] 29;obtain⟨hc,hd,he,hf,hg,hh⟩:=hP.x3;go_enter Tryz.func30,Tryz.ntmps30
 go_wp2_with fail
 refine (H.out _ hb).mono ?_;rintro e w2 ⟨rfl,hi⟩;go_wp2;go_ret2
 exact⟨rfl,bt hb hi⟩
theorem holds_bad (S:Sta) (l:List (Bool × ByteArray)) (v1 v2 v3 v4:Value) (w:World) (hf:fewB S=true) (hS:StAt w v1 v2 v3 S) (hn:l.length≤1000) (hs:∀x∈l,x.2.size≤60) (hW:IsAt w v4 l)
  (hg:¬ ∃(N:NSta) (Z:List Int),S=N.s∧NOk N∧N.chk=0∧l=Z.map zI∧(∀z∈Z,z.natAbs<256^60)) :
  ∃m:Nat,m≠0∧∀w',Bw w w'→Calls Tryz.prog 30 #[.agg #[v1,v2,v3],v4] w' fun e w''=>e=.returned (.tuple #[.bool false,.int .i64 (m:Nat)])∧Bw w' w'':=by
 obtain⟨a4,c4,rfl⟩:=RAt.form hW;obtain⟨a1,c1,e1⟩:=hS.g.form;obtain⟨a2,c2,e2⟩:=hS.v.form;obtain⟨a3,c3,e3⟩:=hS.e.form;have hl:=few_ssm hf;have hc:=fun w' (hb:Bw w w')=>form_c S v1 v2 v3 w' hl (hS.after hb)
 have hd:=fun w' (hb:Bw w w')=>cont_rdi l (fun x=>!ivB x.1 x.2) (!ivsB l) _ w' hn (IsAt.after hW hb) (ivs_any l) (fun k hk w2 _=>rdi1B_c _ _ w2 (by have:=hs _ (Gm hk);omega))
 obtain⟨kc,ho,hp⟩:∃kc:Nat,(formB S=true→ivsB l=true→kc≠0)∧(formB S=true→∀w',Bw w w'→Calls Tryz.prog 177 #[.agg #[v1,v2,v3]] w' fun e w''=>e=.returned (.int .i64 (kc:Nat))∧Bw w' w''):=by
  by_cases h:formB S=true
  ·obtain⟨N,rfl,hm⟩:=to_num S h hf;have hN:NAt w v1 v2 v3 N:=hS;refine⟨N.chk,fun _ hi h0=>hg ?_,fun _ w' hb=>check_c N v1 v2 v3 w' hm (hN.after hb)⟩;unfold ivsB at hi;rw[List.all_eq_true]at hi;obtain⟨Z,hZ,hz⟩:=ints_lift l 60 hi hs;exact⟨N,Z,rfl,hm,h0,hZ.symm,hz⟩
  ·exact⟨0,fun h2=>absurd h2 h,fun h2=>absurd h2 h⟩
 have hh:rdyE (formB S) (!ivsB l) kc≠0:=by
  unfold rdyE;split
  ·decide
  ·rename_i hq;split
   ·decide
   ·rename_i hi;exact ho (by simpa using hq) (by simpa using hi)
 subst e1 e2 e3;exact⟨rdyE (formB S) (!ivsB l) kc,hh,fun w' hb=>holds_err a1 a2 a3 a4 _ _ _ _ c1 c2 c3 c4 _ w' hh (fun w2 hj=>ready_err a1 a2 a3 a4 _ _ _ _ c1 c2 c3 c4 (formB S) (!ivsB l) kc w2 hh (fun w3 he=>hc w3 (bt hb (bt hj he))) (fun w3 he=>hd w3 (bt hb (bt hj he))) (fun h w3 he=>hp h w3 (bt hb (bt hj he))))⟩
theorem holds_any (S:Sta) (l:List (Bool × ByteArray)) (v1 v2 v3 v4:Value) (w:World) (hf:fewB S=true) (hS:StAt w v1 v2 v3 S) (hn:l.length≤1000) (hs:∀x∈l,x.2.size≤60) (hW:IsAt w v4 l) :
  ∃(b:Bool) (m:Nat),∀w',Bw w w'→Calls Tryz.prog 30 #[.agg #[v1,v2,v3],v4] w' fun e w''=>e=.returned (.tuple #[.bool b,.int .i64 (m:Nat)])∧Bw w' w'':=by
 by_cases hg:∃(N:NSta) (Z:List Int),S=N.s∧NOk N∧N.chk=0∧l=Z.map zI∧(∀z∈Z,z.natAbs<256^60)
 ·obtain⟨N,Z,rfl,hm,h0,rfl,hz⟩:=hg;have hN:NAt w v1 v2 v3 N:=hS;exact⟨N.hldB Z,N.hldE Z,fun w' hb=>holds_c N Z v1 v2 v3 v4 w' hm (hN.after hb) (ZsAt.after hW hb) (fun z hc=>Nl (hz z hc) P8) (by simpa using hn) h0⟩
 ·obtain⟨m,_,h⟩:=holds_bad S l v1 v2 v3 v4 w hf hS hn hs hW hg;exact⟨false,m,h⟩
end Go.Proofs.YtihjpddbjhcbmaaGreatDoor
