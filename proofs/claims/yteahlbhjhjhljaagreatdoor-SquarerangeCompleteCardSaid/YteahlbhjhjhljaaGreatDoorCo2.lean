import Derived.Test.YteahlbhjhjhljaaGreatDoorBn16
import Derived.Test.YteahlbhjhjhljaaGreatDoorLdv2
import Derived.Test.YteahlbhjhjhljaaGreatDoorInt4
import Derived.Test.YteahlbhjhjhljaaGreatDoorIdx
import Derived.Test.YteahlbhjhjhljaaGreatDoorLck1
import Derived.Laws.CopyOwn
set_option linter.unusedVariables false
set_option linter.unusedSimpArgs false
set_option maxRecDepth 100000
set_option maxHeartbeats 16000000
namespace Go.Proofs.YteahlbhjhjhljaaGreatDoor
section
open Go.RowKit Go.Shelf
theorem ra_succ (n:Nat) (p:Nat→Bool):ra (n+1) p=(ra n p&&p n):=by
 unfold ra;rw [List.range_succ,List.all_append];simp
def inJ (N:NSta) (Z:List Int) (j:Nat):Bool:=blw (N.vars.getD j 0) (Z.getD j 0) (if N.vars.getD j 0=0 then N.ord else N.vars.getD j 0)
theorem inJ_at (N:NSta) (Z:List Int) (j:Nat) (h:j<N.vars.length) (h2:j<Z.length):inJ N Z j=blw N.vars[j] Z[j] (if N.vars[j]=0 then N.ord else N.vars[j]):=by
 unfold inJ;simp only [List.getD_eq_getElem?_getD,List.getElem?_eq_getElem h,List.getElem?_eq_getElem h2,Option.getD_some]
def NSta.hldE (N:NSta) (Z:List Int):Nat:=if Z.length≠N.vars.length then 6 else 0
def NSta.hldB (N:NSta) (Z:List Int):Bool:=decide (Z.length=N.vars.length)&&(ra N.vars.length (inJ N Z)&&decide (N.imgs Z=N.eqs.map (·.tgt)))
end
section
open Go.RowKit Go.Shelf
end
section
open Go.RowKit Go.Shelf
end
section
open Go.RowKit Go.Shelf
structure Tp where
 vals:List ByteArray
 seed:ByteArray
 pos:Int
def numb (s:ByteArray):Nat:=val s.data.toList
theorem numb_E (n:Nat):numb (E n)=n:=val_E n
def Tp.good (T:Tp):Bool:=T.vals.all vldB&&(decide (0≤T.pos)&&decide (T.pos≤2147483647))
def Tp.nil:Tp:=⟨[],⟨#[]⟩,0⟩
def Tp.on (T:Tp) (k:Nat):Tp:=⟨T.vals,T.seed,T.pos+k⟩
theorem Tp.on_on (T:Tp) (a b:Nat):(T.on a).on b=T.on (a+b):=by simp [Tp.on];omega
abbrev Att:=ByteArray→Nat→Nat→Nat→Nat
def coinS (att:Att) (T:Tp) (n:Nat):Nat × Nat:=
 match (List.range 256).find? (fun a=>decide (att T.seed T.pos.toNat a (nb n)<n)) with
 | some a=>(0,att T.seed T.pos.toNat a (nb n))
 | none=>(14,0)
def coinD (att:Att) (T:Tp) (n:Nat):Nat × Nat:=
 if T.pos.toNat<T.vals.length then (if numb (T.vals.getD T.pos.toNat ⟨#[]⟩)<n then (0,numb (T.vals.getD T.pos.toNat ⟨#[]⟩)) else (2,0))
 else if T.seed.size=0∨T.pos=2147483647 then (14,0) else coinS att T n
def coin (att:Att) (T:Tp) (n:Nat):Nat × Nat:=if T.good=false then (3,0) else if n=0 then (11,0) else coinD att T n
def Tp.after (T:Tp) (e:Nat):Tp:=if e=0 then T.on 1 else Tp.nil
theorem coinD_val {att:Att} {T:Tp} {n x:Nat} (h:T.pos.toNat<T.vals.length) (hx:T.vals[T.pos.toNat]=E x) (hn:x<n):coinD att T n=(0,x):=by
 have e:numb (T.vals.getD T.pos.toNat ⟨#[]⟩)=x:=by rw [List.getD_eq_getElem?_getD,List.getElem?_eq_getElem h,Option.getD_some,hx,numb_E]
 unfold coinD;rw [if_pos h,e,if_pos hn]
theorem coinD_big {att:Att} {T:Tp} {n x:Nat} (h:T.pos.toNat<T.vals.length) (hx:T.vals[T.pos.toNat]=E x) (hn:n≤x):coinD att T n=(2,0):=by
 have e:numb (T.vals.getD T.pos.toNat ⟨#[]⟩)=x:=by rw [List.getD_eq_getElem?_getD,List.getElem?_eq_getElem h,Option.getD_some,hx,numb_E]
 unfold coinD;rw [if_pos h,e,if_neg (by omega)]
theorem coinD_no {att:Att} {T:Tp} {n:Nat} (h:T.vals.length≤T.pos.toNat) (hs:T.seed.size=0∨T.pos=2147483647):coinD att T n=(14,0):=by
 unfold coinD;rw [if_neg (by omega),if_pos hs]
theorem coinD_s {att:Att} {T:Tp} {n:Nat} (h:T.vals.length≤T.pos.toNat) (hs:T.seed.size≠0) (hp:T.pos≠2147483647):coinD att T n=coinS att T n:=by
 unfold coinD;rw [if_neg (by omega),if_neg (by omega)]
theorem find_range {p:Nat→Bool} {k n:Nat} (hk:k<n) (h:∀j,j<k→p j=false) (hp:p k=true):(List.range n).find? p=some k:=by
 rw [List.find?_range_eq_some];exact ⟨hp,List.mem_range.2 hk,fun j hj=>by rw [h j hj];rfl⟩
theorem coinS_at {att:Att} {T:Tp} {n a:Nat} (ha:a<256) (h:∀j,j<a→n≤att T.seed T.pos.toNat j (nb n)) (hx:att T.seed T.pos.toNat a (nb n)<n):coinS att T n=(0,att T.seed T.pos.toNat a (nb n)):=by
 unfold coinS;rw [find_range (p:=fun a=>decide (att T.seed T.pos.toNat a (nb n)<n)) ha (fun j hj=>decide_eq_false (by have:=h j hj;omega)) (decide_eq_true hx)]
theorem coinS_no {att:Att} {T:Tp} {n:Nat} (h:∀j,j<256→n≤att T.seed T.pos.toNat j (nb n)):coinS att T n=(14,0):=by
 unfold coinS;rw [List.find?_eq_none.2 (fun j hj=>by have:=h j (List.mem_range.1 hj);simp;omega)]
theorem coinD_lt {att:Att} {T:Tp} {n:Nat} (h:(coinD att T n).1=0):(coinD att T n).2<n:=by
 unfold coinD coinS at *;split at h
 ·split at h
  ·rename_i h1 h2;rw [if_pos h1,if_pos h2];exact h2
  ·simp at h
 ·rename_i h1;split at h
  ·simp at h
  ·rename_i h2;rw [if_neg h1,if_neg h2];split at h
   ·rename_i a ha;have:=List.find?_some ha;simpa using this
   ·simp at h
def Tp.rdy (T:Tp) (n:Nat):Nat:=if T.good=false then 3 else if n=0 then 11 else 0
def TAt (w:World) (v:Value) (T:Tp):Prop:=∃u,v=.agg #[u,.string T.seed,.int .i64 T.pos]∧SsAt w u T.vals
theorem TAt.after {w w':World} {v:Value} {T:Tp} (h:TAt w v T) (hb:Below w.heap.size w w'):TAt w' v T:=by
 obtain ⟨u,h1,h2⟩:=h;exact ⟨u,h1,SsAt.after h2 hb⟩
structure Tp.Ok (T:Tp):Prop where
 n:T.vals.length≤100
 s:∀x∈T.vals,x.size≤100
 d:T.seed.size≤100
theorem Tp.Ok.on {T:Tp} (h:T.Ok) (k:Nat):(T.on k).Ok:=⟨h.n,h.s,h.d⟩
end
section
open Go.RowKit
theorem idx_cgd (l:List ByteArray) (p:ByteArray→Bool) (v:Value) (w:World) (hn:l.length≤1000) (hR:SsAt w v l)
  (hf:∀k (hk:k<l.length) (w':World),Below w.heap.size w w'→Calls Tryz.prog 260 #[.string (l[k]'hk)] w' fun e w''=>e=.returned (.bool (p (l[k]'hk)))∧Below w'.heap.size w' w'') :
  Calls Tryz.prog 150 #[v,.func (.func 260) #[] #[]] w (IPost (l.any p) w):=by
 obtain ⟨ao,c,rfl⟩:=RAt.form hR;obtain ⟨n,hn'⟩:∃n,n=l.length:=⟨_,rfl⟩;have HN:=Lib.hid hn';rw [←hn'] at hR hn ⊢;clear hn';have HF:=Lib.hid hf;clear hf;go_enter Tryz.func150,Tryz.ntmps150
 go_wp2;go_loopw [8] (fun i wr=>∃k:Nat,k≤n∧i=.int .i64 k∧Hid ((l.take k).any p=false)∧Below w.heap.size w wr) (fun i _=>n-(intOf i).toNat)
 case atStart=>exact ⟨0,by omega,rfl,rfl,Below.refl _ _⟩
 case round =>
  obtain ⟨k,hk,rfl,HA,hbr⟩:=hrel;obtain ⟨wp,hwp⟩:∃wp,wp=wr:=⟨_,rfl⟩;subst hwp;replace hR:=SsAt.after hR hbr;by_cases hlt:k<n
  ·have hkl:k<l.length:=by rw [←HN.out];exact hlt
   have HT:=Lib.hid (any_take p l k hkl);have HB:Hid (p (l[k]'hkl)=true→l.any p=true):=any_hit p l k hkl;obtain ⟨b,o,rfl,hbl,x1⟩:=SsAt.at_ hR hkl;have HC:=Lib.hid (HF.out k hkl _ hbr);generalize p (l[k]'hkl)=pk at HT HB HC;generalize (l[k]'hkl)=x at x1 HC;have h0k:(0:Int)≤(k:Int):=by omega
   have h1k:(k:Int)<(n:Int):=by omega
   clear hR;cases pk
   ·have HX:Hid ((l.take (k+1)).any p=false):=by rw [Hid,HT.out,HA.out];rfl
    clear HT HB;go_wp2_with fail
    refine (HC.out).mono ?_;rintro e w2 ⟨rfl,hb2⟩;go_wp2;go_roundw
    case rel=>exact ⟨k+1,by omega,by go_num,HX,bt hbr hb2⟩
    case measure=>simp [intOf];omega
   ·have HX:Hid (l.any p=true):=HB.out rfl;clear HT HB;go_wp2_with fail
    refine (HC.out).mono ?_;rintro e w2 ⟨rfl,hb2⟩;go_wp2;go_ret
    exact ⟨(k:Int),rfl,by rw [HX.out];exact decide_eq_true h0k,bt hbr hb2⟩
  ·have HX:Hid (l.any p=false):=any_end p l k (by rw [←HN.out];omega) HA.out;go_wp2;go_ret
   exact ⟨-1,rfl,by rw [HX.out];rfl,hbr⟩
theorem cont_cgd (l:List ByteArray) (p:ByteArray→Bool) (b:Bool) (v:Value) (w:World) (hn:l.length≤1000) (hR:SsAt w v l) (hb:l.any p=b)
  (hf:∀k (hk:k<l.length) (w':World),Below w.heap.size w w'→Calls Tryz.prog 260 #[.string (l[k]'hk)] w' fun e w''=>e=.returned (.bool (p (l[k]'hk)))∧Below w'.heap.size w' w'') :
  Calls Tryz.prog 80 #[v,.func (.func 260) #[] #[]] w fun e w'=>e=.returned (.bool b)∧Below w.heap.size w w':=by
 have HE:=Lib.hid (idx_cgd l p v w hn hR hf);rw [hb] at HE;obtain ⟨ao,c,rfl⟩:=RAt.form hR;generalize l.length=n at HE;clear hn hR hf hb;go_enter Tryz.func80,Tryz.ntmps80
 go_wp2_with fail
 refine HE.out.mono ?_;rintro e w1 ⟨i,rfl,hi,hb1⟩;have HI:=Lib.hid hi;clear hi;cases b
 ·have hi:decide (0≤i)=false:=HI.out;go_wp2;go_ret
  exact ⟨rfl,hb1⟩
 ·have hi:decide (0≤i)=true:=HI.out;go_wp2;go_ret
  exact ⟨rfl,hb1⟩
end
section
open Go.RowKit Go.Shelf
theorem ss_nil (w:World):SsAt w (.slice none 0 0) []:=⟨none,0,rfl,.inl rfl⟩
def FarS (u:Value) (g:Nat):Prop:=∀b o n c,u=.slice (some ⟨b,o,none⟩) n c→n≠0→b≠g
def TFar (t:Value) (g:Nat):Prop:=∀u x y,t=.agg #[u,x,y]→∀b,b<g→FarS u b
theorem TFar.zero (g:Nat) (x y:Value):TFar (.agg #[.slice none 0 0,x,y]) g:=fun u x' y' h b hb b' o n c e _=>by
 injection h with h
 have h:=congrArg (fun a=>a[0]?) h;simp at h;subst h;cases e
theorem TFar.of {u x y:Value} {g:Nat} (hf:∀b,b<g→FarS u b):TFar (.agg #[u,x,y]) g:=fun u' x' y' h b hb=>by
 injection h with h
 have h:=congrArg (fun a=>a[0]?) h;simp at h;subst h;exact hf b hb
theorem SsAt.set_other {w:World} {g n c g2 i:Nat} {x:Value} {V:List ByteArray} (h:SsAt w (.slice (some ⟨g,0,none⟩) n c) V) (hne:g≠g2):SsAt (w.setCell ⟨g2,i,none⟩ x) (.slice (some ⟨g,0,none⟩) n c) V:=by
 obtain ⟨ao,c',e,h⟩:=h;refine ⟨ao,c',e,?_⟩;rcases h with h | ⟨b,o,h1,h2,h3⟩
 ·exact .inl h
 ·subst h1;injection e with e1 e2 e3
  injection e1 with e1
  injection e1 with e4 e5 e6
  refine .inr ⟨b,o,rfl,by simpa using h2,fun j hj=>?_⟩;obtain ⟨cs,hq,hc⟩:=h3 j hj;refine ⟨cs,hq,fun i2 hi=>?_⟩;rw [←hc i2 hi];exact World.cell?_of_block (heap_setCell_other w ⟨g2,i,none⟩ b x (fun e=>hne (by rw [e4];exact e)))
theorem SsAt.set_far {w:World} {g i:Nat} {v x:Value} {V:List ByteArray} (h:SsAt w v V) (hf:FarS v g):SsAt (w.setCell ⟨g,i,none⟩ x) v V:=by
 obtain ⟨ao,c',rfl,h⟩:=h;refine ⟨ao,c',rfl,?_⟩;by_cases h0:V.length=0
 ·exact .inl h0
 rcases h with h | ⟨b,o,rfl,h2,h3⟩
 ·exact .inl h
 ·refine .inr ⟨b,o,rfl,by simpa using h2,fun j hj=>?_⟩;obtain ⟨cs,hq,hc⟩:=h3 j hj;refine ⟨cs,hq,fun i2 hi=>?_⟩;rw [←hc i2 hi];exact World.cell?_of_block (heap_setCell_other w ⟨g,i,none⟩ b x (fun e=>hf _ _ _ _ rfl h0 e))
theorem SsAt.grown {w w':World} {row:Option Nat} {v:Value} {V:List ByteArray} (h:SsAt w v V) (hg:w.grownBy w' row) (hf:∀g,row=some g→FarS v g):SsAt w' v V:=by
 obtain ⟨ao,c',rfl,h⟩:=h;refine ⟨ao,c',rfl,?_⟩;by_cases h0:V.length=0
 ·exact .inl h0
 rcases h with h | ⟨b,o,rfl,h2,h3⟩
 ·exact .inl h
 ·refine .inr ⟨b,o,rfl,Nat.lt_of_lt_of_le h2 hg.size,fun j hj=>?_⟩;obtain ⟨cs,hq,hc⟩:=h3 j hj;refine ⟨cs,hq,fun i hi=>?_⟩;rw [←hc i hi];exact World.cell?_of_block (hg.block b h2 (fun e=>hf b e.symm _ _ _ _ rfl h0 rfl))
theorem IsAt.set_far {w:World} {g i:Nat} {v x:Value} {V:List (Bool × ByteArray)} (h:IsAt w v V) (hf:FarS v g):IsAt (w.setCell ⟨g,i,none⟩ x) v V:=by
 obtain ⟨ao,c',rfl,h⟩:=h;refine ⟨ao,c',rfl,?_⟩;by_cases h0:V.length=0
 ·exact .inl h0
 rcases h with h | ⟨b,o,rfl,h2,h3⟩
 ·exact .inl h
 ·refine .inr ⟨b,o,rfl,by simpa using h2,fun j hj=>?_⟩;obtain ⟨cs,hq,hc⟩:=h3 j hj;refine ⟨cs,hq,fun i2 hi=>?_⟩;rw [←hc i2 hi];exact World.cell?_of_block (heap_setCell_other w ⟨g,i,none⟩ b x (fun e=>hf _ _ _ _ rfl h0 e))
end
section
open Go.RowKit Go.Shelf
def CPost (w:World) (T:Tp) (r:Nat × Nat) (e:Ending) (w':World):Prop:=∃t:Value,e=.returned (.tuple #[.string (E r.2),t,.int .i64 (r.1:Int)])∧TAt w' t (T.after r.1)∧TFar t w.heap.size∧Below w.heap.size w w'
def HAtt (att:Att) (sd:ByteArray) (w0:World):Prop:=sd.size≠0→∀(p a k:Nat),p≤2147483647→a<256→1≤k→k≤512→att sd p a k<256^64 ∧
 ∀(ao:Option Addr) (m c:Nat) (w:World),Below w0.heap.size w0 w→Calls Tryz.prog 221 #[.agg #[.slice ao m c,.string sd,.int .i64 (p:Int)],.int .i64 (a:Int),.int .i64 (k:Int)] w fun e w'=>e=.returned (.string (E (att sd p a k)))∧Below w.heap.size w w'
theorem HAtt.after {att:Att} {sd:ByteArray} {w w':World} (h:HAtt att sd w) (hb:Below w.heap.size w w'):HAtt att sd w':=fun hs p a k h1 h2 h3 h4=>⟨(h hs p a k h1 h2 h3 h4).1,fun ao m c W hW=>(h hs p a k h1 h2 h3 h4).2 ao m c W (bt hb hW)⟩
theorem cgd1_c (s:ByteArray) (w:World) (hs:s.size≤1000) :
  Calls Tryz.prog 260 #[.string s] w fun e w'=>e=.returned (.bool (!(vldB s)))∧Below w.heap.size w w':=by
 have HV:Hid (∀w,Calls Tryz.prog 67 #[.string s] w fun e w'=>e=.returned (.bool (vldB s))∧w'=w):=fun w=>valB_c s _ w hs rfl
 generalize vldB s=b at HV ⊢;cases b
 ·go_enter Tryz.func260,Tryz.ntmps260
  go_wp2_with fail
  refine (HV.out _).mono ?_;rintro e w2 ⟨rfl,rfl⟩;go_wp2;go_ret
  exact ⟨rfl,Below.refl _ _⟩
 ·go_enter Tryz.func260,Tryz.ntmps260
  go_wp2_with fail
  refine (HV.out _).mono ?_;rintro e w2 ⟨rfl,rfl⟩;go_wp2;go_ret
  exact ⟨rfl,Below.refl _ _⟩
theorem any_not (V:List ByteArray):V.any (fun x=>!(vldB x))=!(V.all vldB):=by
 induction V with
 | nil=>rfl
 | cons a t ih=>rw [List.any_cons,List.all_cons,ih];cases vldB a <;> rfl
theorem cgood_c (T:Tp) (v:Value) (w:World) (hok:T.Ok) (hV:SsAt w v T.vals) :
  Calls Tryz.prog 220 #[.agg #[v,.string T.seed,.int .i64 T.pos]] w fun e w'=>e=.returned (.bool T.good)∧Below w.heap.size w w':=by
 obtain ⟨V,sd,p⟩:=T;have HG:Hid (Tp.good ⟨V,sd,p⟩=(V.all vldB&&(decide (0≤p)&&decide (p≤2147483647)))):=rfl
 have HC:Hid (∀w',Below w.heap.size w w'→Calls Tryz.prog 80 #[v,.func (.func 260) #[] #[]] w' fun e w''=>e=.returned (.bool (!(V.all vldB)))∧Below w'.heap.size w' w''):=fun w' hb =>
  cont_cgd V (fun x=>!(vldB x)) _ v w' (by have:=hok.n;simp only [] at this;omega) (SsAt.after hV hb) (any_not V) (fun k hk w2 _=>cgd1_c _ w2 (by have:=hok.s _ (List.getElem_mem hk);omega))
 obtain ⟨ao,c,rfl⟩:=RAt.form hV;simp only [];generalize Tp.good ⟨V,sd,p⟩=g at HG ⊢;generalize V.all vldB=b at HG HC;generalize V.length=n at HC ⊢;clear hok hV;have hP:=Blk.new w #[.slice ao n c,.string sd,.int .i64 p] 35;have hBW:=b1 w (.cells #[.slice ao n c,.string sd,.int .i64 p] 35);obtain ⟨t1,ht1⟩:∃t:Bool,t=decide (0≤p):=⟨_,rfl⟩;obtain ⟨t2,ht2⟩:∃t:Bool,t=decide (p≤2147483647):=⟨_,rfl⟩;rw [←ht1,←ht2] at HG;have d1:=ht1.symm;have d2:=ht2.symm;clear ht1 ht2;obtain ⟨hPc0,hPf0,hPc1,hPf1,hPc2,hPf2⟩:=hP.x3;cases t1
 ·have HX:Hid (g=false):=by rw [Hid,HG.out];simp
  go_enter Tryz.func220,Tryz.ntmps220
  go_wp2;go_ret
  rw [HX.out];exact ⟨rfl,hBW⟩
 ·cases t2
  ·have HX:Hid (g=false):=by rw [Hid,HG.out];simp
   go_enter Tryz.func220,Tryz.ntmps220
   go_wp2;go_ret
   rw [HX.out];exact ⟨rfl,hBW⟩
  ·have HX:Hid (g=b):=by rw [Hid,HG.out];simp
   cases b
   ·go_enter Tryz.func220,Tryz.ntmps220
    go_wp2_with fail
    refine (HC.out _ hBW).mono ?_;rintro e w2 ⟨rfl,hb2⟩;go_wp2;go_ret
    rw [HX.out];exact ⟨rfl,bt hBW hb2⟩
   ·go_enter Tryz.func220,Tryz.ntmps220
    go_wp2_with fail
    refine (HC.out _ hBW).mono ?_;rintro e w2 ⟨rfl,hb2⟩;go_wp2;go_ret
    rw [HX.out];exact ⟨rfl,bt hBW hb2⟩
theorem cready_c (T:Tp) (v:Value) (n:Nat) (w:World) (hok:T.Ok) (hn:n<256^128) (hV:SsAt w v T.vals) :
  Calls Tryz.prog 174 #[.agg #[v,.string T.seed,.int .i64 T.pos],.string (E n)] w fun e w'=>e=.returned (.int .i64 (T.rdy n:Nat))∧Below w.heap.size w w':=by
 have HG:Hid (∀w',Below w.heap.size w w'→Calls Tryz.prog 220 #[.agg #[v,.string T.seed,.int .i64 T.pos]] w' fun e w''=>e=.returned (.bool T.good)∧Below w'.heap.size w' w''):=fun w' hb=>cgood_c T v w' hok (SsAt.after hV hb)
 have HV:Hid (∀w,Calls Tryz.prog 67 #[.string (E n)] w fun e w'=>e=.returned (.bool true)∧w=w'):=fun w=>validE_c n w hn
 have HR:Hid (T.rdy n=if T.good=false then 3 else if n=0 then 11 else 0):=rfl;obtain ⟨ao,c,rfl⟩:=RAt.form hV;obtain ⟨V,sd,p⟩:=T;simp only [] at HG ⊢;generalize Tp.rdy ⟨V,sd,p⟩ n=r at HR ⊢;generalize Tp.good ⟨V,sd,p⟩=g at HG HR;generalize V.length=m at HG ⊢;clear hok hn hV;have hP:=Blk.new w #[.slice ao m c,.string sd,.int .i64 p] 35;have hBW:=b1 w (.cells #[.slice ao m c,.string sd,.int .i64 p] 35);obtain ⟨hPc0,hPf0,hPc1,hPf1,hPc2,hPf2⟩:=hP.x3;cases g
 ·have HX:Hid (r=3):=by rw [Hid,HR.out];rfl
  go_enter Tryz.func174,Tryz.ntmps174
  go_wp2_with fail
  refine (HG.out _ hBW).mono ?_;rintro e w2 ⟨rfl,hb2⟩;go_wp2;go_ret
  rw [HX.out];exact ⟨rfl,bt hBW hb2⟩
 ·by_cases h0:n=0
  ·have HX:Hid (r=11):=by rw [Hid,HR.out,if_neg (by decide),if_pos h0]
   have hz:=zE h0;have hz2:((E n).toList==[])=true:=by simpa using hz
   clear h0;go_enter Tryz.func174,Tryz.ntmps174
   go_wp2_with fail
   refine (HG.out _ hBW).mono ?_;rintro e w2 ⟨rfl,hb2⟩;go_wp2_with fail
   refine (HV.out _).mono ?_;rintro e w' ⟨rfl,rfl⟩;go_wp2;go_ret
   rw [HX.out];exact ⟨rfl,bt hBW hb2⟩
  ·have HX:Hid (r=0):=by rw [Hid,HR.out,if_neg (by decide),if_neg h0]
   have hz:=nzE (Nat.pos_of_ne_zero h0);have hz2:=nzE2 (Nat.pos_of_ne_zero h0);clear h0;go_enter Tryz.func174,Tryz.ntmps174
   go_wp2_with fail
   refine (HG.out _ hBW).mono ?_;rintro e w2 ⟨rfl,hb2⟩;go_wp2_with fail
   refine (HV.out _).mono ?_;rintro e w' ⟨rfl,rfl⟩;go_wp2;go_ret
   rw [HX.out];exact ⟨rfl,bt hBW hb2⟩
end
end Go.Proofs.YteahlbhjhjhljaaGreatDoor
