import Derived.Test.YteahlbhjhjhljaaGreatDoorRMod1
import Derived.Test.YteahlbhjhjhljaaGreatDoorFs5
import Derived.Deep.CutBlock
import Derived.Deep.QuietTactic
import Derived.Deep.RegionHeld3
import Derived.Deep.DeepCutAuto
import Derived.Deep.WholeRow
import Derived.Great.BuildSlice
set_option linter.unusedVariables false
set_option linter.unusedSimpArgs false
set_option maxRecDepth 100000
set_option maxHeartbeats 16000000
namespace Go.Proofs.YteahlbhjhjhljaaGreatDoor
section
open Go.RowKit
def RAt {α:Type} (Q:World→α→List Value→Prop) (size:Nat) (w:World) (v:Value) (l:List α):Prop:=
 ∃ao c,v=.slice ao l.length c∧(l.length=0∨∃b o,ao=some ⟨b,o,none⟩∧b<w.heap.size∧∀j (h:j<l.length),∃cs,Q w l[j] cs∧∀i,i<size→w.cell? ⟨b,o+j*size+i,none⟩=cs[i]?)
theorem RAt.after {α:Type} {Q:World→α→List Value→Prop} {size:Nat} {w w':World} {v:Value} {l:List α} (h:RAt Q size w v l) (hb:Below w.heap.size w w') (hQ:∀a cs,Q w a cs→Q w' a cs):RAt Q size w' v l:=by
 obtain ⟨ao,c,rfl,h⟩:=h;refine ⟨ao,c,rfl,?_⟩;rcases h with h | ⟨b,o,h1,h2,h3⟩
 ·exact .inl h
 ·refine .inr ⟨b,o,h1,Nat.lt_of_lt_of_le h2 hb.size,fun j hj=>?_⟩;obtain ⟨cs,h4,h5⟩:=h3 j hj;exact ⟨cs,hQ _ _ h4,fun i hi=>(hb.cell (p:=⟨b,o+j*size+i,none⟩) h2).trans (h5 i hi)⟩
theorem RAt.form {α:Type} {Q:World→α→List Value→Prop} {size:Nat} {w:World} {v:Value} {l:List α} (h:RAt Q size w v l):∃ao c,v=.slice ao l.length c:=by
 obtain ⟨ao,c,h,_⟩:=h;exact ⟨ao,c,h⟩
theorem RAt.at_ {α:Type} {Q:World→α→List Value→Prop} {size n c:Nat} {w:World} {ao:Option Addr} {l:List α} (h:RAt Q size w (.slice ao n c) l) {k:Nat} (hk:k<l.length) :
  ∃b o cs,ao=some ⟨b,o,none⟩∧b<w.heap.size∧Q w l[k] cs∧∀i,i<size→w.cell? ⟨b,o+k*size+i,none⟩=cs[i]?:=by
 obtain ⟨ao',c',hv,h⟩:=h;injection hv with e1 e2 e3
 subst e1;rcases h with h | ⟨b,o,h1,h2,h3⟩
 ·omega
 ·obtain ⟨cs,h4,h5⟩:=h3 k hk;exact ⟨b,o,cs,h1,h2,h4,h5⟩
structure Trm where
 base:ByteArray
 var:Int
 neg:Bool
 abs:ByteArray
structure Eqn where
 grp:Int
 tgt:ByteArray
 trms:List Trm
structure Sta where
 grps:List (ByteArray × ByteArray)
 vars:List ByteArray
 eqs:List Eqn
def QStr (_:World) (s:ByteArray) (cs:List Value):Prop:=cs=[.string s]
def QGrp (_:World) (g:ByteArray × ByteArray) (cs:List Value):Prop:=cs=[.string g.1,.string g.2]
def QInt (_:World) (x:Bool × ByteArray) (cs:List Value):Prop:=cs=[.bool x.1,.string x.2]
def QTrm (_:World) (t:Trm) (cs:List Value):Prop:=cs=[.string t.base,.int .i64 t.var,.bool t.neg,.string t.abs]
def QEqn (w:World) (q:Eqn) (cs:List Value):Prop:=∃tv,cs=[.int .i64 q.grp,.string q.tgt,tv]∧RAt QTrm 4 w tv q.trms
def SsAt:=RAt QStr 1
def GsAt:=RAt QGrp 2
def IsAt:=RAt QInt 2
def TsAt:=RAt QTrm 4
def EsAt:=RAt QEqn 3
section
variable {w w':World} {v:Value}
theorem SsAt.after {l:List ByteArray} (h:SsAt w v l) (hb:Below w.heap.size w w'):SsAt w' v l:=RAt.after h hb (fun _ _ h=>h)
theorem GsAt.after {l:List (ByteArray × ByteArray)} (h:GsAt w v l) (hb:Below w.heap.size w w'):GsAt w' v l:=RAt.after h hb (fun _ _ h=>h)
theorem IsAt.after {l:List (Bool × ByteArray)} (h:IsAt w v l) (hb:Below w.heap.size w w'):IsAt w' v l:=RAt.after h hb (fun _ _ h=>h)
theorem TsAt.after {l:List Trm} (h:TsAt w v l) (hb:Below w.heap.size w w'):TsAt w' v l:=RAt.after h hb (fun _ _ h=>h)
theorem EsAt.after {l:List Eqn} (h:EsAt w v l) (hb:Below w.heap.size w w'):EsAt w' v l:=
 RAt.after h hb (fun _ _ ⟨tv,h1,h2⟩=>⟨tv,h1,RAt.after h2 hb (fun _ _ h=>h)⟩)
end
section
variable {w:World} {ao:Option Addr} {n c k:Nat}
theorem SsAt.at_ {l:List ByteArray} (h:SsAt w (.slice ao n c) l) (hk:k<l.length):∃b o,ao=some ⟨b,o,none⟩∧b<w.heap.size∧w.cell? ⟨b,o+k,none⟩=some (.string l[k]):=by
 obtain ⟨b,o,cs,h1,h2,h3,h4⟩:=RAt.at_ h hk;have:=h4 0 (by omega);rw [h3] at this;exact ⟨b,o,h1,h2,by simpa using this⟩
theorem GsAt.at_ {l:List (ByteArray × ByteArray)} (h:GsAt w (.slice ao n c) l) (hk:k<l.length):∃b o,ao=some ⟨b,o,none⟩∧b<w.heap.size∧w.cell? ⟨b,o+k*2,none⟩=some (.string l[k].1)∧w.cell? ⟨b,o+k*2+1,none⟩=some (.string l[k].2):=by
 obtain ⟨b,o,cs,h1,h2,h3,h4⟩:=RAt.at_ h hk;have e0:=h4 0 (by omega);have e1:=h4 1 (by omega);rw [h3] at e0 e1;exact ⟨b,o,h1,h2,by simpa using e0,by simpa using e1⟩
theorem IsAt.at_ {l:List (Bool × ByteArray)} (h:IsAt w (.slice ao n c) l) (hk:k<l.length):∃b o,ao=some ⟨b,o,none⟩∧b<w.heap.size∧w.cell? ⟨b,o+k*2,none⟩=some (.bool l[k].1)∧w.cell? ⟨b,o+k*2+1,none⟩=some (.string l[k].2):=by
 obtain ⟨b,o,cs,h1,h2,h3,h4⟩:=RAt.at_ h hk;have e0:=h4 0 (by omega);have e1:=h4 1 (by omega);rw [h3] at e0 e1;exact ⟨b,o,h1,h2,by simpa using e0,by simpa using e1⟩
theorem TsAt.at_ {l:List Trm} (h:TsAt w (.slice ao n c) l) (hk:k<l.length):∃b o,ao=some ⟨b,o,none⟩∧b<w.heap.size∧w.cell? ⟨b,o+k*4,none⟩=some (.string l[k].base)∧w.cell? ⟨b,o+k*4+1,none⟩=some (.int .i64 l[k].var)∧w.cell? ⟨b,o+k*4+2,none⟩=some (.bool l[k].neg)∧w.cell? ⟨b,o+k*4+3,none⟩=some (.string l[k].abs):=by
 obtain ⟨b,o,cs,h1,h2,h3,h4⟩:=RAt.at_ h hk;have e0:=h4 0 (by omega);have e1:=h4 1 (by omega);have e2:=h4 2 (by omega);have e3:=h4 3 (by omega);rw [h3] at e0 e1 e2 e3;exact ⟨b,o,h1,h2,by simpa using e0,by simpa using e1,by simpa using e2,by simpa using e3⟩
theorem EsAt.at_ {l:List Eqn} (h:EsAt w (.slice ao n c) l) (hk:k<l.length):∃b o tv,ao=some ⟨b,o,none⟩∧b<w.heap.size∧w.cell? ⟨b,o+k*3,none⟩=some (.int .i64 l[k].grp)∧w.cell? ⟨b,o+k*3+1,none⟩=some (.string l[k].tgt)∧w.cell? ⟨b,o+k*3+2,none⟩=some tv∧TsAt w tv l[k].trms:=by
 obtain ⟨b,o,cs,h1,h2,⟨tv,h3,h5⟩,h4⟩:=RAt.at_ h hk;have e0:=h4 0 (by omega);have e1:=h4 1 (by omega);have e2:=h4 2 (by omega);rw [h3] at e0 e1 e2;exact ⟨b,o,tv,h1,h2,by simpa using e0,by simpa using e1,by simpa using e2,h5⟩
end
structure StAt (w:World) (v1 v2 v3:Value) (S:Sta):Prop where
 g:GsAt w v1 S.grps
 v:SsAt w v2 S.vars
 e:EsAt w v3 S.eqs
theorem StAt.after {w w':World} {v1 v2 v3:Value} {S:Sta} (h:StAt w v1 v2 v3 S) (hb:Below w.heap.size w w'):StAt w' v1 v2 v3 S:=⟨h.g.after hb,h.v.after hb,h.e.after hb⟩
end
section
open Go.RowKit
theorem p8:(256:Nat)^8=18446744073709551616:=by decide
theorem p8':(256:Nat)^8=2^64:=by decide
theorem bits_or64 (a b:Nat) (ha:a<2^64) (hb:b<2^64):bits .or .u64 (a:Int) (b:Int)=((a ||| b:Nat):Int):=by
 have hx:a ||| b<2^64:=Nat.or_lt_two_pow ha hb
 have h1:(BitVec.ofInt 64 (a:Int)).toNat=a:=by
  rw [BitVec.ofInt_natCast,BitVec.toNat_ofNat];exact Nat.mod_eq_of_lt ha
 have h2:(BitVec.ofInt 64 (b:Int)).toNat=b:=by
  rw [BitVec.ofInt_natCast,BitVec.toNat_ofNat];exact Nat.mod_eq_of_lt hb
 show IntKind.u64.wrap ((BitVec.ofInt 64 (a:Int) ||| BitVec.ofInt 64 (b:Int)).toNat:Int)=_;rw [BitVec.toNat_or,h1,h2];exact wrapU _ (by rw [p8'];exact hx)
theorem bits_and64 (a b:Nat) (ha:a<2^64) (hb:b<2^64):bits .and .u64 (a:Int) (b:Int)=((a &&& b:Nat):Int):=by
 have hx:a &&& b<2^64:=Nat.and_lt_two_pow _ hb
 have h1:(BitVec.ofInt 64 (a:Int)).toNat=a:=by
  rw [BitVec.ofInt_natCast,BitVec.toNat_ofNat];exact Nat.mod_eq_of_lt ha
 have h2:(BitVec.ofInt 64 (b:Int)).toNat=b:=by
  rw [BitVec.ofInt_natCast,BitVec.toNat_ofNat];exact Nat.mod_eq_of_lt hb
 show IntKind.u64.wrap ((BitVec.ofInt 64 (a:Int) &&& BitVec.ofInt 64 (b:Int)).toNat:Int)=_;rw [BitVec.toNat_and,h1,h2];exact wrapU _ (by rw [p8'];exact hx)
theorem low32 (a:Nat) (ha:a<2^64):bits .and .u64 (a:Int) 4294967295=((a%4294967296:Nat):Int):=by
 have:=bits_and64 a 4294967295 ha (by decide);rw [show (4294967295:Nat)=2^32-1 by decide,Nat.and_two_pow_sub_one_eq_mod] at this;exact this
theorem bitLenAux_spec:∀(f x:Nat),x<2^f→x<2^(Lib.bitLenAux f x)∧(x≠0→0<Lib.bitLenAux f x∧2^(Lib.bitLenAux f x)≤2*x)∧Lib.bitLenAux f x≤f
 | 0,x,h=>by
  have:x=0:=by simpa using h
  subst this;simp [Lib.bitLenAux]
 | f+1,x,h=>by
  by_cases hx:x=0
  ·subst hx;simp [Lib.bitLenAux]
  ·have ih:=bitLenAux_spec f (x / 2) (by rw [Nat.pow_succ] at h;omega);rw [Lib.bitLenAux,if_neg hx,Nat.pow_add,Nat.pow_one];refine ⟨by omega,fun _=>⟨by omega,?_⟩,by omega⟩;by_cases h2:x / 2=0
   ·have:Lib.bitLenAux f (x / 2)=0:=by rw [h2];cases f <;> simp [Lib.bitLenAux]
    rw [this];omega
   ·have:=(ih.2.1 h2).2;omega
theorem lz_spec (y:Nat) (h0:0<y) (hy:y<256^8):∃s:Nat,64-(Lib.bitLen y:Int)=(s:Int)∧s<64∧2^63≤y*2^s∧y*2^s<2^64:=by
 rw [p8'] at hy;obtain ⟨h1,h2,h3⟩:=bitLenAux_spec 64 y hy;obtain ⟨h4,h5⟩:=h2 (by omega);unfold Lib.bitLen;generalize Lib.bitLenAux 64 y=k at h1 h3 h4 h5;refine ⟨64-k,by omega,by omega,?_,?_⟩
 ·have h6:(2:Nat)^64=2^k*2^(64-k):=by rw [←Nat.pow_add];congr 1;omega
  have h7:2^k*2^(64-k)≤2*y*2^(64-k):=Nat.mul_le_mul_right _ h5;rw [Nat.mul_assoc] at h7;omega
 ·have h6:(2:Nat)^64=2^k*2^(64-k):=by rw [←Nat.pow_add];congr 1;omega
  rw [h6];exact Nat.mul_lt_mul_of_pos_right h1 (Nat.two_pow_pos _)
theorem div_facts (hi lo y s:Nat) (h1:hi<y) (hl:lo<256^8) (hs:s<64) (h63:2^63≤y*2^s) (h64:y*2^s<2^64) :
  ∃Y Y1 Y0 U L D1 D0:Nat,IntKind.u64.wrap ((y:Int)*2^s)=(Y:Int)∧(Y:Int) / 4294967296=(Y1:Int)∧bits .and .u64 (Y:Int) 4294967295=(Y0:Int) ∧
   bits .or .u64 (IntKind.u64.wrap ((hi:Int)*2^s)) ((lo:Int) / 2^(64-s))=(U:Int)∧IntKind.u64.wrap ((lo:Int)*2^s)=(L:Int)∧(L:Int) / 4294967296=(D1:Int)∧bits .and .u64 (L:Int) 4294967295=(D0:Int) ∧
   Y=y*2^s∧Y=Y1*4294967296+Y0∧Y0<4294967296∧2147483648≤Y1∧Y1<4294967296∧U<Y∧D1<4294967296∧D0<4294967296∧(U*4294967296+D1)*4294967296+D0=(hi*256^8+lo)*2^s:=by
 rw [p8'] at hl ⊢;have hp:0<2^s:=Nat.two_pow_pos _;have hh:hi*2^s<2^64:=Nat.lt_trans (Nat.mul_lt_mul_of_pos_right h1 hp) h64;have hsplit:(2:Nat)^64=2^(64-s)*2^s:=by rw [←Nat.pow_add];congr 1;omega
 have hq:lo / 2^(64-s)<2^s:=by rw [Nat.div_lt_iff_lt_mul (Nat.two_pow_pos _),Nat.mul_comm,←hsplit];exact hl
 have hqd:lo*2^s / 2^64=lo / 2^(64-s):=by rw [hsplit,Nat.mul_div_mul_right _ _ hp]
 have hlm:lo*2^s%2^64<2^64:=Nat.mod_lt _ (by decide);have hdm:=Nat.div_add_mod (lo*2^s) (2^64);have hq64:lo / 2^(64-s)<2^64:=Nat.lt_of_le_of_lt (Nat.div_le_self _ _) hl;refine ⟨y*2^s,y*2^s / 4294967296,y*2^s%4294967296,hi*2^s+lo / 2^(64-s),lo*2^s%2^64,lo*2^s%2^64 / 4294967296,lo*2^s%2^64%4294967296,?_,by simp,low32 _ h64,?_,?_,by simp,low32 _ hlm,rfl,by omega,by omega,by omega,by omega,?_,by omega,by omega,?_⟩
 ·have:=wrapU (y*2^s) (by rw [p8'];exact h64);simpa using this
 ·have e1:=wrapU (hi*2^s) (by rw [p8'];exact hh);have e2:=bits_or64 (hi*2^s) (lo / 2^(64-s)) hh hq64;have e3:=Nat.two_pow_add_eq_or_of_lt hq hi;rw [Nat.mul_comm (2^s) hi] at e3;rw [←e3] at e2;rw [show ((hi:Int)*2^s)=((hi*2^s:Nat):Int) by simp,e1,show ((lo:Int) / 2^(64-s))=((lo / 2^(64-s):Nat):Int) by simp];exact e2
 ·simp [IntKind.wrap,IntKind.signed,IntKind.bits]
 ·have h2:(hi+1)*2^s≤y*2^s:=Nat.mul_le_mul_right _ h1;rw [Nat.add_mul,Nat.one_mul] at h2;omega
 ·have h3:(hi*2^64+lo)*2^s=hi*2^s*2^64+lo*2^s:=by rw [Nat.add_mul,Nat.mul_assoc,Nat.mul_comm (2^64),Nat.mul_assoc]
  rw [h3,←hqd];generalize hi*2^s=A at *;generalize lo*2^s=C at *;omega
theorem wv (z:Int) (n:Nat) (h:z=(n:Int)) (hn:n<18446744073709551616):∃v:Nat,IntKind.u64.wrap z=(v:Int)∧v=n:=by
 subst h;exact ⟨n,wrapU n (by rw [p8];exact hn),rfl⟩
theorem mulB {q Y0:Nat} (h1:q<4294967296) (h2:Y0<4294967296):q*Y0<18446744069414584321+1:=by
 have:q*Y0≤4294967295*4294967295:=Nat.mul_le_mul (by omega) (by omega);omega
theorem wrap_rest (U D Q Y n:Nat) (h:U*4294967296+D=Q*Y+n) (hn:n<18446744073709551616) :
  IntKind.u64.wrap (IntKind.u64.wrap (IntKind.u64.wrap ((U:Int)*4294967296)+(D:Int))-IntKind.u64.wrap ((Q:Int)*(Y:Int)))=(n:Int):=by
 rw [←Int.natCast_mul];generalize Q*Y=P at h;simp [IntKind.wrap,IntKind.signed,IntKind.bits];omega
theorem div_end (N y s Y Y1 Y0 U D1 D0 Q1 Q0 R1:Nat) (hY:Y=y*2^s) (hYY:Y=Y1*4294967296+Y0) (h0:0<Y) (h64:Y<18446744073709551616) (hU:U<Y) (hD1:D1<4294967296) (hD0:D0<4294967296) (hN:(U*4294967296+D1)*4294967296+D0=N*2^s)
  (hQ1:(U*4294967296+D1) / Y=Q1) (hR1:(U*4294967296+D1)%Y=R1) (hQ0:(R1*4294967296+D0) / Y=Q0) :
  IntKind.u64.wrap (IntKind.u64.wrap ((Q1:Int)*4294967296)+(Q0:Int))=((N / y:Nat):Int) ∧
  IntKind.u64.wrap (IntKind.u64.wrap (IntKind.u64.wrap ((R1:Int)*4294967296)+(D0:Int))-IntKind.u64.wrap ((Q0:Int)*(Y:Int))) / 2^s=((N%y:Nat):Int):=by
 have hp:0<2^s:=Nat.two_pow_pos _;obtain ⟨k1,k2⟩:=kn_scale N y (2^s) hp;have hRY:R1<Y:=by rw [←hR1];exact Nat.mod_lt _ h0
 have b1:=kn_lt hYY hU hD1;have b0:=kn_lt hYY hRY hD0;rw [hQ1] at b1;rw [hQ0] at b0;constructor
 ·rw [←k1,←hN,←hY,kn_two _ _ _ _ _ h0,hQ1,hR1,hQ0];simp [IntKind.wrap,IntKind.signed,IntKind.bits];omega
 ·rw [wrap_rest R1 D0 Q0 Y ((R1*4294967296+D0)%Y) (by have:=Nat.div_add_mod (R1*4294967296+D0) Y;rw [hQ0,Nat.mul_comm] at this;exact this.symm) (by have:=Nat.mod_lt (R1*4294967296+D0) h0;omega)];rw [←k2,←hN,←hY,kn_two_mod _ _ _ _ _ h0,hR1];simp
theorem div64_c (hi lo y:Nat) (w:World) (h0:0<hi) (h1:hi<y) (hy:y<256^8) (hl:lo<256^8) :
  Calls Tryz.prog 271 #[.int .u64 hi,.int .u64 lo,.int .u64 y] w fun e w'=>e=.returned (.tuple #[.int .u64 (((hi*256^8+lo) / y:Nat):Int),.int .u64 (((hi*256^8+lo)%y:Nat):Int)])∧w=w':=by
 obtain ⟨s,hs,hsl,h63,h64⟩:=lz_spec y (by omega) hy;obtain ⟨Y,Y1,Y0,U,L,D1,D0,e1,e2,e3,e4,e5,e6,e7,hY,hYY,hY0,hY1,hY1',hU,hD1,hD0,hN⟩:=div_facts hi lo y s h1 hl hsl h63 h64;have hy0:¬ (y:Int)=0:=by omega
 have hy1:¬ (y:Int)≤(hi:Int):=by omega
 have hi0:¬ (hi:Int)=0:=by omega
 have HS:=Lib.hid ((Tryz.bits_LeadingZeros64 (y:Int) w (by omega) (by rw [p8] at hy;omega)).mono fun _ _ h=>And.intro h.1 h.2.symm);rw [show ((y:Int)).toNat=y from rfl,hs] at HS;have H:=Lib.hid (And.intro hY (And.intro hYY (And.intro hY0 (And.intro hY1 (And.intro hY1' (And.intro hU (And.intro hD1 (And.intro hD0 hN))))))));clear h0 h1 hy hl hs hY hYY hY0 hY1 hY1' hU hD1 hD0 hN h63 h64;have hy10:¬ (Y1:Int)=0:=by have:=H.out;omega
 have HE:=Lib.hid (And.intro e1 (And.intro e2 (And.intro e3 (And.intro e4 (And.intro e5 (And.intro e6 e7))))));clear e1 e2 e3 e4 e5 e6 e7;go_enter Tryz.func271,Tryz.ntmps271
 go_wp2_with fail
 refine (HS.out).mono ?_;rintro e w' ⟨rfl,rfl⟩;go_upto_region 15 with fail
 obtain ⟨e1,e2,e3,e4,e5,e6,e7⟩:=HE.out;simp only [e1,e2,e3,e4,e5,e6,e7];clear e1 e2 e3 e4 e5 e6 e7;go_upto_block 0 with fail
 obtain ⟨hY,hYY,hY0,hY1,hY1',hU,hD1,hD0,hN⟩:=H.out;have hdm:=Nat.div_add_mod U Y1;have hml:=Nat.mod_lt U (show 0<Y1 by omega);have hcm:=Nat.mul_comm Y1 (U / Y1);obtain ⟨q0,hq0,hq0'⟩:=wv ((U:Int) / (Y1:Int)) (U / Y1) (by simp) (by have:=Nat.div_le_self U Y1;omega);obtain ⟨p0,hp0,hp0'⟩:=wv ((q0:Int)*(Y1:Int)) (q0*Y1) (by simp) (by rw [hq0'];omega);obtain ⟨r0,hr0,hr0'⟩:=wv ((U:Int)-(p0:Int)) (U%Y1) (by rw [hp0',hq0',←hcm];omega) (by omega);rw [hq0,hp0,hr0];have Hst:Hid (q0*Y1+r0=U∧(U*4294967296+D1) / Y≤q0∧r0<4294967296):=⟨by rw [hq0',hr0',←hcm];exact hdm,by rw [hq0'];exact kn_first hYY (by omega) hY0 hD1,by omega⟩;clear hY hYY hY0 hY1 hY1' hU hD1 hD0 hN hdm hml hcm hq0 hq0' hp0 hp0' hr0 hr0';go_cut [15,16] from 67 to 85 (fun q _ wx=>q=.int .u64 (((U*4294967296+D1) / Y:Nat):Int)∧w=wx)
 case first =>
  go_wp2_with fail
  go_loopw [15,16] (fun a b wr=>∃q r:Nat,a=.int .u64 (q:Int)∧b=.int .u64 (r:Int)∧q*Y1+r=U∧(U*4294967296+D1) / Y≤q∧r<4294967296∧w=wr) (fun a _ _=>(intOf a).toNat)
  case atStart=>exact ⟨q0,r0,rfl,rfl,Hst.out.1,Hst.out.2.1,Hst.out.2.2,rfl⟩
  case round =>
   obtain ⟨q,r,rfl,rfl,hqr,hQq,hrB,rfl⟩:=hrel;obtain ⟨hY,hYY,hY0,hY1,hY1',hU,hD1,hD0,hN⟩:=H.out;have hQB:=kn_lt hYY hU hD1;by_cases hB:(4294967296:Int)≤(q:Int)
   ·have hgt:(U*4294967296+D1) / Y<q:=by omega
    have hql:q<18446744073709551616:=by
     have:q*1≤q*Y1:=Nat.mul_le_mul_left _ (by omega);omega
    have hqp:0<q:=Nat.lt_of_le_of_lt (Nat.zero_le _) hgt;obtain ⟨q1,hq1,hq1'⟩:=wv ((q:Int)-1) (q-1) (by omega) (by omega);obtain ⟨r1,hr1,hr1'⟩:=wv ((r:Int)+(Y1:Int)) (r+Y1) (by simp) (by omega);have Hn:Hid (q1*Y1+r1=U∧(U*4294967296+D1) / Y≤q1∧q1<q):=⟨by rw [hq1',hr1'];exact kn_down hqr hqp,by rw [hq1'];exact Nat.le_sub_one_of_lt hgt,by omega⟩;by_cases hbr:(4294967296:Int)≤(r1:Int)
    ·have Hq:Hid ((U*4294967296+D1) / Y=q1):=Nat.le_antisymm Hn.out.2.1 (kn_le hYY (by omega) Hn.out.1 (kn_break hYY hY0 hU Hn.out.1 (by omega)));clear Hst hY hYY hY0 hY1 hY1' hU hD1 hD0 hN hqr hQq hrB hQB hq1' hr1' hgt hql hqp;go_wp2;go_meet
     exact ⟨by rw [Hq.out],rfl⟩
    ·have Hr:Hid (r1<4294967296):=by show r1<4294967296;omega
     clear Hst hY hYY hY0 hY1 hY1' hU hD1 hD0 hN hqr hQq hrB hQB hq1' hr1' hgt hql hqp;go_wp2;go_roundw
     case rel=>exact ⟨q1,r1,rfl,rfl,Hn.out.1,Hn.out.2.1,Hr.out,(by first | rfl | trivial)⟩
     case measure=>simp [intOf];exact Hn.out.2.2
   ·have hm1:=mulB (show q<4294967296 by omega) hY0;obtain ⟨pp,hpp,hpp'⟩:=wv ((q:Int)*(Y0:Int)) (q*Y0) (by simp) (by omega);obtain ⟨t0,ht0,ht0'⟩:=wv (4294967296*(r:Int)) (4294967296*r) (by simp) (by omega);obtain ⟨t1,ht1,ht1'⟩:=wv ((t0:Int)+(D1:Int)) (4294967296*r+D1) (by rw [ht0'];simp) (by omega);by_cases ht:(t1:Int)<(pp:Int)
    ·have hgt:(U*4294967296+D1) / Y<q:=kn_gt hYY (by omega) hqr (by omega);have hqp:0<q:=Nat.lt_of_le_of_lt (Nat.zero_le _) hgt;obtain ⟨q1,hq1,hq1'⟩:=wv ((q:Int)-1) (q-1) (by omega) (by omega);obtain ⟨r1,hr1,hr1'⟩:=wv ((r:Int)+(Y1:Int)) (r+Y1) (by simp) (by omega);have Hn:Hid (q1*Y1+r1=U∧(U*4294967296+D1) / Y≤q1∧q1<q):=⟨by rw [hq1',hr1'];exact kn_down hqr hqp,by rw [hq1'];exact Nat.le_sub_one_of_lt hgt,by omega⟩;by_cases hbr:(4294967296:Int)≤(r1:Int)
     ·have Hq:Hid ((U*4294967296+D1) / Y=q1):=Nat.le_antisymm Hn.out.2.1 (kn_le hYY (by omega) Hn.out.1 (kn_break hYY hY0 hU Hn.out.1 (by omega)));clear Hst hY hYY hY0 hY1 hY1' hU hD1 hD0 hN hqr hQq hrB hQB hq1' hr1' hgt hm1 hpp' ht0' ht1' hqp;go_wp2;go_meet
      exact ⟨by rw [Hq.out],rfl⟩
     ·have Hr:Hid (r1<4294967296):=by show r1<4294967296;omega
      clear Hst hY hYY hY0 hY1 hY1' hU hD1 hD0 hN hqr hQq hrB hQB hq1' hr1' hgt hm1 hpp' ht0' ht1' hqp;go_wp2;go_roundw
      case rel=>exact ⟨q1,r1,rfl,rfl,Hn.out.1,Hn.out.2.1,Hr.out,(by first | rfl | trivial)⟩
      case measure=>simp [intOf];exact Hn.out.2.2
    ·have Hq:Hid ((U*4294967296+D1) / Y=q):=Nat.le_antisymm hQq (kn_le hYY (by omega) hqr (by omega));clear Hst hY hYY hY0 hY1 hY1' hU hD1 hD0 hN hqr hQq hrB hQB hm1 hpp' ht0' ht1';go_wp2;go_meet
     exact ⟨by rw [Hq.out],rfl⟩
 case rest =>
  obtain ⟨rfl,rfl⟩:=hcut;obtain ⟨Q1,hQ1⟩:∃Q1,(U*4294967296+D1) / Y=Q1:=⟨_,rfl⟩;rw [hQ1];have HQ1:=Lib.hid hQ1;clear hQ1;go_upto_region 22 with fail
  obtain ⟨R1,hR1⟩:∃R1,(U*4294967296+D1)%Y=R1:=⟨_,rfl⟩;have hwr:=wrap_rest U D1 Q1 Y R1 (by have:=Nat.div_add_mod (U*4294967296+D1) Y;rw [HQ1.out,hR1,Nat.mul_comm] at this;exact this.symm) (by have:=Nat.mod_lt (U*4294967296+D1) (show 0<Y by have:=H.out;omega);have:=H.out;omega);have HR:Hid (R1<Y):=by show R1<Y;rw [←hR1];exact Nat.mod_lt _ (by have:=H.out;omega)
  have HR1:=Lib.hid hR1;rw [hwr];clear hwr hR1;go_upto_block 2 with fail
  obtain ⟨hY,hYY,hY0,hY1,hY1',hU,hD1,hD0,hN⟩:=H.out;have hRY:=HR.out;have hdm:=Nat.div_add_mod R1 Y1;have hml:=Nat.mod_lt R1 (show 0<Y1 by omega);have hcm:=Nat.mul_comm Y1 (R1 / Y1);obtain ⟨qa,hq0,hq0'⟩:=wv ((R1:Int) / (Y1:Int)) (R1 / Y1) (by simp) (by have:=Nat.div_le_self R1 Y1;omega);obtain ⟨pa,hp0,hp0'⟩:=wv ((qa:Int)*(Y1:Int)) (qa*Y1) (by simp) (by rw [hq0'];omega);obtain ⟨ra,hr0,hr0'⟩:=wv ((R1:Int)-(pa:Int)) (R1%Y1) (by rw [hp0',hq0',←hcm];omega) (by omega);rw [hq0,hp0,hr0];have Hsu:Hid (qa*Y1+ra=R1∧(R1*4294967296+D0) / Y≤qa∧ra<4294967296):=⟨by rw [hq0',hr0',←hcm];exact hdm,by rw [hq0'];exact kn_first hYY (by omega) hY0 hD0,by omega⟩;clear hRY hY hYY hY0 hY1 hY1' hU hD1 hD0 hN hdm hml hcm hq0 hq0' hp0 hp0' hr0 hr0';go_cut [18,16] from 102 to 121 (fun q _ wx=>q=.int .u64 (((R1*4294967296+D0) / Y:Nat):Int)∧w=wx)
  case first =>
   go_wp2_with fail
   go_loopw [18,16] (fun a b wr=>∃q r:Nat,a=.int .u64 (q:Int)∧b=.int .u64 (r:Int)∧q*Y1+r=R1∧(R1*4294967296+D0) / Y≤q∧r<4294967296∧w=wr) (fun a _ _=>(intOf a).toNat)
   case atStart=>exact ⟨qa,ra,rfl,rfl,Hsu.out.1,Hsu.out.2.1,Hsu.out.2.2,rfl⟩
   case round =>
    obtain ⟨q,r,rfl,rfl,hqr,hQq,hrB,rfl⟩:=hrel;obtain ⟨hY,hYY,hY0,hY1,hY1',hU,hD1,hD0,hN⟩:=H.out;have hQB:=kn_lt hYY HR.out hD0;by_cases hB:(4294967296:Int)≤(q:Int)
    ·have hgt:(R1*4294967296+D0) / Y<q:=by omega
     have hql:q<18446744073709551616:=by
      have hRY:=HR.out;have:q*1≤q*Y1:=Nat.mul_le_mul_left _ (by omega);omega
     have hqp:0<q:=Nat.lt_of_le_of_lt (Nat.zero_le _) hgt;obtain ⟨q1,hq1,hq1'⟩:=wv ((q:Int)-1) (q-1) (by omega) (by omega);obtain ⟨r1,hr1,hr1'⟩:=wv ((r:Int)+(Y1:Int)) (r+Y1) (by simp) (by omega);have Hn:Hid (q1*Y1+r1=R1∧(R1*4294967296+D0) / Y≤q1∧q1<q):=⟨by rw [hq1',hr1'];exact kn_down hqr hqp,by rw [hq1'];exact Nat.le_sub_one_of_lt hgt,by omega⟩;by_cases hbr:(4294967296:Int)≤(r1:Int)
     ·have Hq:Hid ((R1*4294967296+D0) / Y=q1):=Nat.le_antisymm Hn.out.2.1 (kn_le hYY (by omega) Hn.out.1 (kn_break hYY hY0 HR.out Hn.out.1 (by omega)));clear Hsu hY hYY hY0 hY1 hY1' hU hD1 hD0 hN hqr hQq hrB hQB hq1' hr1' hgt hql hqp;go_wp2;go_meet
      exact ⟨by rw [Hq.out],rfl⟩
     ·have Hr:Hid (r1<4294967296):=by show r1<4294967296;omega
      clear Hsu hY hYY hY0 hY1 hY1' hU hD1 hD0 hN hqr hQq hrB hQB hq1' hr1' hgt hql hqp;go_wp2;go_roundw
      case rel=>exact ⟨q1,r1,rfl,rfl,Hn.out.1,Hn.out.2.1,Hr.out,(by first | rfl | trivial)⟩
      case measure=>simp [intOf];exact Hn.out.2.2
    ·have hm1:=mulB (show q<4294967296 by omega) hY0;obtain ⟨pp,hpp,hpp'⟩:=wv ((q:Int)*(Y0:Int)) (q*Y0) (by simp) (by omega);obtain ⟨t0,ht0,ht0'⟩:=wv (4294967296*(r:Int)) (4294967296*r) (by simp) (by omega);obtain ⟨t1,ht1,ht1'⟩:=wv ((t0:Int)+(D0:Int)) (4294967296*r+D0) (by rw [ht0'];simp) (by omega);by_cases ht:(t1:Int)<(pp:Int)
     ·have hgt:(R1*4294967296+D0) / Y<q:=kn_gt hYY (by omega) hqr (by omega);have hqp:0<q:=Nat.lt_of_le_of_lt (Nat.zero_le _) hgt;obtain ⟨q1,hq1,hq1'⟩:=wv ((q:Int)-1) (q-1) (by omega) (by omega);obtain ⟨r1,hr1,hr1'⟩:=wv ((r:Int)+(Y1:Int)) (r+Y1) (by simp) (by omega);have Hn:Hid (q1*Y1+r1=R1∧(R1*4294967296+D0) / Y≤q1∧q1<q):=⟨by rw [hq1',hr1'];exact kn_down hqr hqp,by rw [hq1'];exact Nat.le_sub_one_of_lt hgt,by omega⟩;by_cases hbr:(4294967296:Int)≤(r1:Int)
      ·have Hq:Hid ((R1*4294967296+D0) / Y=q1):=Nat.le_antisymm Hn.out.2.1 (kn_le hYY (by omega) Hn.out.1 (kn_break hYY hY0 HR.out Hn.out.1 (by omega)));clear Hsu hY hYY hY0 hY1 hY1' hU hD1 hD0 hN hqr hQq hrB hQB hq1' hr1' hgt hm1 hpp' ht0' ht1' hqp;go_wp2;go_meet
       exact ⟨by rw [Hq.out],rfl⟩
      ·have Hr:Hid (r1<4294967296):=by show r1<4294967296;omega
       clear Hsu hY hYY hY0 hY1 hY1' hU hD1 hD0 hN hqr hQq hrB hQB hq1' hr1' hgt hm1 hpp' ht0' ht1' hqp;go_wp2;go_roundw
       case rel=>exact ⟨q1,r1,rfl,rfl,Hn.out.1,Hn.out.2.1,Hr.out,(by first | rfl | trivial)⟩
       case measure=>simp [intOf];exact Hn.out.2.2
     ·have Hq:Hid ((R1*4294967296+D0) / Y=q):=Nat.le_antisymm hQq (kn_le hYY (by omega) hqr (by omega));clear Hsu hY hYY hY0 hY1 hY1' hU hD1 hD0 hN hqr hQq hrB hQB hm1 hpp' ht0' ht1';go_wp2;go_meet
      exact ⟨by rw [Hq.out],rfl⟩
  case rest =>
   obtain ⟨rfl,rfl⟩:=hcut;obtain ⟨Q0,hQ0⟩:∃Q0,(R1*4294967296+D0) / Y=Q0:=⟨_,rfl⟩;rw [hQ0];have HQ0:=Lib.hid hQ0;clear hQ0;go_upto_region 28 with fail
   go_wp2;go_ret2
   obtain ⟨hY,hYY,hY0,hY1,hY1',hU,hD1,hD0,hN⟩:=H.out;obtain ⟨z1,z2⟩:=div_end (hi*256^8+lo) y s Y Y1 Y0 U D1 D0 Q1 Q0 R1 hY hYY (by omega) (by omega) hU hD1 hD0 hN HQ1.out HR1.out HQ0.out;rw [z1,z2];exact ⟨rfl,rfl⟩
end
section
open Go.RowKit
theorem bdrewN (w:World) (n:Nat):Below w.heap.size w (w.drewN n):=⟨rfl,rfl,rfl,Nat.le_refl _,fun _ _=>rfl⟩
theorem div64_zero (lo y:Nat) (w:World) (h1:0<y) (hy:y<256^8) (hl:lo<256^8) :
  Calls Tryz.prog 271 #[.int .u64 0,.int .u64 lo,.int .u64 y] w fun e w'=>e=.returned (.tuple #[.int .u64 ((lo / y:Nat):Int),.int .u64 ((lo%y:Nat):Int)])∧Below w.heap.size w w':=by
 have hy0:¬ (y:Int)=0:=by omega
 have hy1:¬ (y:Int)≤0:=by omega
 have hw1:=wrapU_div lo y (Nat.lt_of_le_of_lt (Nat.div_le_self _ _) hl);have hw2:=wrapU_mod lo y (Nat.lt_of_le_of_lt (Nat.mod_le _ _) hl);clear h1 hy hl;go_enter Tryz.func271,Tryz.ntmps271
 go_wp2;go_quiet (fail)
 all_goals (go_wp2;go_ret2;exact ⟨r2 (by simp) (by simp),bdrewN w _⟩)
theorem div64_all (hi lo y:Nat) (w:World) (h1:hi<y) (hy:y<256^8) (hl:lo<256^8) :
  Calls Tryz.prog 271 #[.int .u64 hi,.int .u64 lo,.int .u64 y] w fun e w'=>e=.returned (.tuple #[.int .u64 (((hi*256^8+lo) / y:Nat):Int),.int .u64 (((hi*256^8+lo)%y:Nat):Int)])∧Below w.heap.size w w':=by
 rcases Nat.eq_zero_or_pos hi with rfl | h0
 ·rw [Nat.zero_mul,Nat.zero_add];exact div64_zero lo y w h1 hy hl
 ·exact (div64_c hi lo y w h0 h1 hy hl).mono fun _ _ ⟨h,hw⟩=>⟨h,hw ▸ Below.refl _ _⟩
theorem rem64_c (hi lo y:Nat) (w:World) (h1:hi<y) (hy:y<256^8) (hl:lo<256^8) :
  Calls Tryz.prog 252 #[.int .u64 hi,.int .u64 lo,.int .u64 y] w fun e w'=>e=.returned (.int .u64 (((hi*256^8+lo)%y:Nat):Int))∧Below w.heap.size w w':=by
 have hy0:¬ y=0:=by omega
 have HC:=Lib.hid (div64_all hi lo y w h1 hy hl);have hm:(hi:Int)%(y:Int)=(hi:Int):=by rw [←Int.natCast_emod,Nat.mod_eq_of_lt h1]
 generalize (hi*256^8+lo) / y=q at HC;generalize (hi*256^8+lo)%y=r at HC;clear h1 hy hl;go_enter Tryz.func252,Tryz.ntmps252
 go_wp2_with fail
 refine HC.out.mono ?_;rintro e w1 ⟨rfl,hb1⟩;go_wp2;go_ret
 exact ⟨rfl,hb1⟩
end
section
open Go.RowKit Go.Shelf
theorem or4 (a b c d:Nat) (ha:a<256) (hb:b<256) (hc:c<256) (hd:d<256) :
  bits .or .u32 (bits .or .u32 (bits .or .u32 ((a:Int)*16777216%4294967296) ((b:Int)*65536%4294967296)) ((c:Int)*256%4294967296)) (d:Int)=((((a*256+b)*256+c)*256+d:Nat):Int):=by
 have s1:a*16777216 ||| b*65536=(a*256+b)*65536:=by
  have h:=Nat.shiftLeft_add_eq_or_of_lt (b:=b*65536) (i:=24) (by omega) a;rw [Nat.shiftLeft_eq,show (2:Nat)^24=16777216 from rfl] at h;rw [←h];omega
 have s2:(a*256+b)*65536 ||| c*256=((a*256+b)*256+c)*256:=by
  have h:=Nat.shiftLeft_add_eq_or_of_lt (b:=c*256) (i:=16) (by omega) (a*256+b);rw [Nat.shiftLeft_eq,show (2:Nat)^16=65536 from rfl] at h;rw [←h];omega
 have s3:((a*256+b)*256+c)*256 ||| d=((a*256+b)*256+c)*256+d:=by
  have h:=Nat.shiftLeft_add_eq_or_of_lt (b:=d) (i:=8) (by omega) ((a*256+b)*256+c);rw [Nat.shiftLeft_eq,show (2:Nat)^8=256 from rfl] at h;rw [←h]
 rw [show (a:Int)*16777216%4294967296=((a*16777216:Nat):Int) by omega,show (b:Int)*65536%4294967296=((b*65536:Nat):Int) by omega,show (c:Int)*256%4294967296=((c*256:Nat):Int) by omega,
  u32_or_nat _ _ (by omega) (by omega),s1,u32_or_nat _ _ (by omega) (by omega),s2,u32_or_nat _ _ (by omega) (by omega),s3]
theorem bigN4 (s:ByteArray) (o:Nat):bigN s o 4=((byt s o*256+byt s (o+1))*256+byt s (o+2))*256+byt s (o+3):=by
 show (((0*256+byt s (o+0))*256+byt s (o+1))*256+byt s (o+2))*256+byt s (o+3)=_;rw [Nat.add_zero,Nat.zero_mul,Nat.zero_add]
def BytA (w:World) (b o:Nat) (s:ByteArray):Prop:=b<w.heap.size∧∀j,j<s.size→w.cell? ⟨b,o+j,none⟩=some (.int .u8 (byt s j:Nat))
theorem BytA.after {w w':World} {b o:Nat} {s:ByteArray} (h:BytA w b o s) (hb:Below w.heap.size w w'):BytA w' b o s:=
 ⟨Nat.lt_of_lt_of_le h.1 hb.size,fun j hj=>(hb.cell (p:=⟨b,o+j,none⟩) h.1).trans (h.2 j hj)⟩
theorem BytA.set {w:World} {b o:Nat} {s:ByteArray} (h:BytA w b o s) (g i:Nat) (v:Value) (hne:b≠g):BytA (w.setCell ⟨g,i,none⟩ v).drew b o s:=
 ⟨by show b<(w.setCell _ _).heap.size;rw [World.size_setCell];exact h.1,fun j hj=>by show (w.setCell _ _).cell? _=_;rw [World.cell?_setCell_other _ _ _ _ (fun e=>hne (congrArg Addr.block e).symm)];exact h.2 j hj⟩
theorem gclH {w:World} {a:Addr} {v:Value} (hb:a.block<w.heap.size) (h:w.cell? a=some v):∀x:GW w,(Proofs.YteahlbhjhjhljaaGreatDoor.gw x).cell? a=some v:=fun x=>((gw_below x).cell hb).trans h
theorem size_w64 (F:Nat→Int):(Tryz.prog.info? 324).map (·.size)=some (u32f F 64).toArray.size:=by
 rw [show (u32f F 64).toArray.size=64 by simp [u32f]];kernel_rfl
theorem u32f_one (F:Nat→Int) (n:Nat):(u32f F n).toArray.all (·.oneCell')=true:=by
 rw [Array.all_eq_true];intro i hi;simp [u32f,Value.oneCell']
theorem setRow_below {B:Nat} {w0 w:World} {g:Nat} {cs:Array Value} (h:Below B w0 w) (hg:B≤g):Below B w0 (w.setRow g cs):=
 h.trans ⟨rfl,rfl,rfl,by simp,fun k hk=>setRow_other _ _ _ _ (by omega)⟩
theorem setRow_blk {w:World} {g:Nat} {T:TypeId} {cs:Array Value} {old:List Value} (h:Blk w g T old):Blk (w.setRow g cs) g T cs.toList:=by
 have h1:=setRow_heap w g _ cs T (0,0) h;exact h1
theorem z64:#[.int .u32 0,.int .u32 0,.int .u32 0,.int .u32 0,.int .u32 0,.int .u32 0,.int .u32 0,.int .u32 0,.int .u32 0,.int .u32 0,.int .u32 0,.int .u32 0,.int .u32 0,.int .u32 0,.int .u32 0,.int .u32 0,.int .u32 0,.int .u32 0,.int .u32 0,.int .u32 0,.int .u32 0,.int .u32 0,.int .u32 0,.int .u32 0,.int .u32 0,.int .u32 0,.int .u32 0,.int .u32 0,.int .u32 0,.int .u32 0,.int .u32 0,.int .u32 0,.int .u32 0,.int .u32 0,.int .u32 0,.int .u32 0,.int .u32 0,.int .u32 0,.int .u32 0,.int .u32 0,.int .u32 0,.int .u32 0,.int .u32 0,.int .u32 0,.int .u32 0,.int .u32 0,.int .u32 0,.int .u32 0,.int .u32 0,.int .u32 0,.int .u32 0,.int .u32 0,.int .u32 0,.int .u32 0,.int .u32 0,.int .u32 0,.int .u32 0,.int .u32 0,.int .u32 0,.int .u32 0,.int .u32 0,.int .u32 0,.int .u32 0,.int .u32 0].toList=u32f (fun _=>0) 64:=by rfl
theorem pschedule_v (s:ByteArray) (b o c:Nat) (w:World) (hs:s.size=64) (hA:BytA w b o s) (hc:64≤c) :
  Calls Tryz.prog 299 #[.slice (some ⟨b,o,none⟩) 64 c] w fun e w'=>e=.returned (.agg (u32f (sW s) 64).toArray)∧Below w.heap.size w w':=by
 go_enter Tryz.func299,Tryz.ntmps299
 go_upto_region 2 with fail
 obtain ⟨Z,hZ⟩:∃Z:Array Value,Z=#[.int .u32 0,.int .u32 0,.int .u32 0,.int .u32 0,.int .u32 0,.int .u32 0,.int .u32 0,.int .u32 0,.int .u32 0,.int .u32 0,.int .u32 0,.int .u32 0,.int .u32 0,.int .u32 0,.int .u32 0,.int .u32 0,.int .u32 0,.int .u32 0,.int .u32 0,.int .u32 0,.int .u32 0,.int .u32 0,.int .u32 0,.int .u32 0,.int .u32 0,.int .u32 0,.int .u32 0,.int .u32 0,.int .u32 0,.int .u32 0,.int .u32 0,.int .u32 0,.int .u32 0,.int .u32 0,.int .u32 0,.int .u32 0,.int .u32 0,.int .u32 0,.int .u32 0,.int .u32 0,.int .u32 0,.int .u32 0,.int .u32 0,.int .u32 0,.int .u32 0,.int .u32 0,.int .u32 0,.int .u32 0,.int .u32 0,.int .u32 0,.int .u32 0,.int .u32 0,.int .u32 0,.int .u32 0,.int .u32 0,.int .u32 0,.int .u32 0,.int .u32 0,.int .u32 0,.int .u32 0,.int .u32 0,.int .u32 0,.int .u32 0,.int .u32 0]:=⟨_,rfl⟩;rw [←hZ];have HZ:Hid (Z.toList=u32f (fun _=>0) 64):=by rw [Hid,hZ];exact z64
 clear hZ;have hR:Blk ((w.alloc (.cells Z 324)).alloc (.cells Z 324)) w.heap.size 324 (u32f (fun _=>0) 64):=((Blk.new w Z 324).as HZ.out).alloc _
 have hB:Blk ((w.alloc (.cells Z 324)).alloc (.cells Z 324)) (w.heap.size+1) 324 (u32f (sP s 0) 64):=by
  have h:=(Blk.new (w.alloc (.cells Z 324)) Z 324).as (HZ.out.trans (sP_zero s));rw [World.size_alloc] at h;exact h
 have hBW:=ba (b1 w (.cells Z 324)) (.cells Z 324);generalize (w.alloc (.cells Z 324)).alloc (.cells Z 324)=w1 at hR hB hBW ⊢;clear HZ;have hA1:=hA.after hBW;obtain ⟨g,hg⟩:∃g,w.heap.size+1=g:=⟨_,rfl⟩;obtain ⟨gr,hgr⟩:∃g,w.heap.size=g:=⟨_,rfl⟩;have HGE:Hid (w.heap.size≤g):=by rw [Hid];omega
 have HGR:Hid (w.heap.size≤gr∧gr≠g):=by rw [Hid];omega
 have HBL:Hid (b≠g):=by have:=hA.1;rw [Hid];omega
 rw [hg] at hB ⊢;rw [hgr] at hR ⊢;clear hg hgr hA;go_wp2;go_loopw [9] (fun i wr=>∃k:Nat,k≤16∧i=.int .i64 k∧Blk wr g 324 (u32f (sP s k) 64)∧Blk wr gr 324 (u32f (fun _=>0) 64)∧BytA wr b o s∧Below w.heap.size w wr) (fun i _=>16-(intOf i).toNat)
 case atStart=>exact ⟨0,by omega,rfl,hB,hR,hA1,hBW⟩
 case round =>
  clear hB hR hA1 hBW;obtain ⟨k,hk,rfl,hb,hr,hA,hbr⟩:=hrel;by_cases hlt:k<16
  ·have hbl:=hA.1;have l0:=hA.2 (4*k) (by omega);have l1:=hA.2 (4*k+1) (by omega);have l2:=hA.2 (4*k+2) (by omega);have l3:=hA.2 (4*k+3) (by omega);have e0:IntKind.i64.wrap (4*(k:Int))=4*(k:Int):=by rw [IntWalk.i64_in _ (by omega)]
   have e1:IntKind.i64.wrap (4*(k:Int)+4)=4*(k:Int)+4:=by rw [IntWalk.i64_in _ (by omega)]
   have hf:=hb.free k;have hbg:=hb.lt;have hck:wr.cell? ⟨g,k,none⟩=some (.int .u32 0):=by rw [hb.cell,u32f_get _ (by omega),sP,if_neg (by omega)]
   have HSS:=Lib.hid (sP_set s k);have HSW:Hid (sW s k=((((byt s (4*k)*256+byt s (4*k+1))*256+byt s (4*k+2))*256+byt s (4*k+3):Nat):Int)):=by rw [Hid,sW_lo s k hlt,bigN4]
   have HB0:=Lib.hid (byt_lt s (4*k));have HB1:=Lib.hid (byt_lt s (4*k+1));have HB2:=Lib.hid (byt_lt s (4*k+2));have HB3:=Lib.hid (byt_lt s (4*k+3));generalize byt s (4*k)=y0 at l0 HSW HB0;generalize byt s (4*k+1)=y1 at l1 HSW HB1;generalize byt s (4*k+2)=y2 at l2 HSW HB2;generalize byt s (4*k+3)=y3 at l3 HSW HB3;rw [←Nat.add_assoc] at l1 l2 l3;have f0:(0:Int)≤4*(k:Int):=by omega
   have f1:4*(k:Int)≤4*(k:Int)+4:=by omega
   have f2:4*(k:Int)+4≤(c:Int):=by omega
   have k0:(0:Int)≤(k:Int):=by omega
   have k1:(k:Int)<64:=by omega
   go_upto_region 6 with fail
   rw [show 4*k+4-4*k=4 by omega];go_region;go_wp2;go_roundw
   case rel =>
    have hv:bits BinOp.or IntKind.u32 (bits BinOp.or IntKind.u32 (bits BinOp.or IntKind.u32 ((y0:Int)%4294967296*16777216%4294967296) ((y1:Int)%4294967296*65536%4294967296)) ((y2:Int)%4294967296*256%4294967296)) ((y3:Int)%4294967296)=sW s k:=by
     have h0:=HB0.out;have h1:=HB1.out;have h2:=HB2.out;have h3:=HB3.out;rw [HSW.out,show (y0:Int)%4294967296=y0 by omega,show (y1:Int)%4294967296=y1 by omega,show (y2:Int)%4294967296=y2 by omega,show (y3:Int)%4294967296=y3 by omega];exact or4 _ _ _ _ h0 h1 h2 h3
    rw [hv];exact ⟨k+1,by omega,rfl,Blk.drewH (Blk.setv hb rfl HSS.out),Blk.drewH (hr.other _ _ HGR.out.2),hA.set _ _ _ HBL.out,(hbr.setCell HGE.out _).drew⟩
   case measure=>simp [intOf];omega
  ·obtain rfl:k=16:=by omega
   clear hA;go_wp2;go_loopw [6,7,8] (fun i _ _ wr=>∃k:Nat,16≤k∧k≤64∧i=.int .i64 k∧Blk wr g 324 (u32f (sP s k) 64)∧Blk wr gr 324 (u32f (fun _=>0) 64)∧Below w.heap.size w wr) (fun i _ _ _=>64-(intOf i).toNat)
   case atStart=>exact ⟨16,by omega,by omega,rfl,hb,hr,hbr⟩
   case round =>
    clear hb hr hbr hlt hk;obtain ⟨k,hk,hk2,rfl,hb,hr,hbr⟩:=hrel;by_cases hlt:k<64
    ·obtain ⟨a15,h15⟩:∃a,a=k-15:=⟨_,rfl⟩;obtain ⟨a2,h2⟩:∃a,a=k-2:=⟨_,rfl⟩;obtain ⟨a16,h16⟩:∃a,a=k-16:=⟨_,rfl⟩;obtain ⟨a7,h7⟩:∃a,a=k-7:=⟨_,rfl⟩;have c15:=sP_at hb (show a15<k by omega) hk2;have c2:=sP_at hb (show a2<k by omega) hk2;have HSW:Hid (sW s k=(sW s a16+sg0 (sW s a15)+sW s a7+sg1 (sW s a2))%4294967296):=by rw [Hid,sW_hi s k hk,h15,h2,h16,h7]
     have HSS:=Lib.hid (sP_set s k);have c16:=sP_at hb (show a16<k by omega) hk2;have c7:=sP_at hb (show a7<k by omega) hk2;have ck:wr.cell? ⟨g,k,none⟩=some (.int .u32 0):=by rw [hb.cell,u32f_get _ hlt,sP,if_neg (by omega)]
     generalize hx:sW s a15=x at c15 HSW;generalize hy:sW s a2=y at c2 HSW;generalize hz1:sW s a16=z1 at c16 HSW;generalize hz2:sW s a7=z2 at c7 HSW;clear hx hy hz1 hz2;have e15:IntKind.i64.wrap ((k:Int)-15)=(a15:Int):=by rw [IntWalk.i64_in _ (by omega)];omega
     have e2:IntKind.i64.wrap ((k:Int)-2)=(a2:Int):=by rw [IntWalk.i64_in _ (by omega)];omega
     have b15:(a15:Int)<64:=by omega
     have b2:(a2:Int)<64:=by omega
     have d15:(0:Int)≤(a15:Int):=by omega
     have d2:(0:Int)≤(a2:Int):=by omega
     have e16:IntKind.i64.wrap ((k:Int)-16)=(a16:Int):=by rw [IntWalk.i64_in _ (by omega)];omega
     have e7:IntKind.i64.wrap ((k:Int)-7)=(a7:Int):=by rw [IntWalk.i64_in _ (by omega)];omega
     have b16:(a16:Int)<64:=by omega
     have b7:(a7:Int)<64:=by omega
     have d16:(0:Int)≤(a16:Int):=by omega
     have d7:(0:Int)≤(a7:Int):=by omega
     have bk:(k:Int)<64:=by omega
     have dk:(0:Int)≤(k:Int):=by omega
     clear h15 h2 h16 h7;have hl:=hb.lt;go_wp2_with fail
     go_region;have hbA:=Blk.drewH hb;have hrA:=Blk.drewH hr;have hbrA:=hbr.drew;replace c16:wr.drew.cell? ⟨g,a16,none⟩=some (.int .u32 z1):=c16;replace c7:wr.drew.cell? ⟨g,a7,none⟩=some (.int .u32 z2):=c7;clear c15 c2 hb hr hbr hl ck;generalize wr.drew=wa at hbA hrA hbrA c16 c7 ⊢;have hlA:=hbA.lt;have g16:=gclH (a:=⟨g,a16,none⟩) hlA c16;have g7:=gclH (a:=⟨g,a7,none⟩) hlA c7;go_wp2_with fail
     refine wp_region_gw_tail 29 (by kernel_rfl) (by kernel_rfl) ?_;simp only [List.take_succ_cons,List.take_zero,List.drop_succ_cons,List.drop_zero];repeat (go_big_quiet_step (first | (go_at_call 300;exact gw_of (turn_c _ _ 7 _ rfl (by decide) (by decide))) | (go_at_call 300;exact gw_of (turn_c _ _ 18 _ rfl (by decide) (by decide))) | (go_at_call 300;exact gw_of (turn_c _ _ 17 _ rfl (by decide) (by decide))) | (go_at_call 300;exact gw_of (turn_c _ _ 19 _ rfl (by decide) (by decide)))))
     refine wpQuiet_nil ?_;rintro w9 ⟨xw9,rfl⟩;have hb9:=gw_below xw9;generalize gw xw9=w9 at hb9;have hbC:=hbA.after hb9;have hrC:=hrA.after hb9;have hbrC:=bt hbrA hb9;have fk:=hbC.free k;have hlC:=hbC.lt;have ck:w9.cell? ⟨g,k,none⟩=some (.int .u32 0):=by rw [hbC.cell,u32f_get _ hlt,sP,if_neg (by omega)]
     clear g16 g7 c16 c7 hbA hrA hbrA hb9;go_wp2;go_roundw
     case rel =>
      have h1:=HSW.out;unfold sg0 sg1 at h1;refine ⟨k+1,by omega,by omega,by go_num,Blk.setv hbC (by rw [h1]) HSS.out,hrC.other _ _ HGR.out.2,hbrC.setCell HGE.out _⟩
     case measure=>simp [intOf];omega
    ·obtain rfl:k=64:=by omega
     go_upto_region 13 with fail
     apply wp_region_lit
     refine wpList_load_row rfl 324 (.tmp 3) rfl g rfl 324 _ (0,0) _ hb Tryz.underlying324 rfl (size_w64 _) ?_;refine wpList_store_row rfl 324 (.tmp 2) (.tmp 85) rfl gr _ rfl rfl 324 _ hr (size_w64 _) (by simp [u32f]) (u32f_one _ _) ?_;apply wpList_nil
     go_wp2;refine bodyPost_ret (v:=.agg (u32f (sP s 64) 64).toArray) ?_ rfl ⟨?_,setRow_below hbr HGR.out.1⟩
     ·refine results_cell_row (p:=2) (ty:=324) rfl _ _ gr 324 _ (0,0) _ rfl (setRow_heap _ _ _ _ _ _ hr) Tryz.underlying324 rfl (size_w64 _)
     ·rw [sP_end]
end
section
open Go.RowKit Go.Shelf
theorem kL_eq:(kL.map (Value.int .u32))=u32f kC 64:=by rfl
theorem iL_eq:[Value.int .u32 1779033703,Value.int .u32 3144134277,Value.int .u32 1013904242,Value.int .u32 2773480762,Value.int .u32 1359893119,Value.int .u32 2600822924,Value.int .u32 528734635,Value.int .u32 1541459225]=u32f iC 8:=by rfl
theorem pconstants_v (w:World):Calls Tryz.prog 298 #[] w fun e w'=>e=.returned (.agg (u32f kC 64).toArray)∧Below w.heap.size w w':=by
 go_enter Tryz.func298,Tryz.ntmps298
 go_upto_region 1 with fail
 obtain ⟨Z,hZ⟩:∃Z:Array Value,Z=#[.int .u32 0,.int .u32 0,.int .u32 0,.int .u32 0,.int .u32 0,.int .u32 0,.int .u32 0,.int .u32 0,.int .u32 0,.int .u32 0,.int .u32 0,.int .u32 0,.int .u32 0,.int .u32 0,.int .u32 0,.int .u32 0,.int .u32 0,.int .u32 0,.int .u32 0,.int .u32 0,.int .u32 0,.int .u32 0,.int .u32 0,.int .u32 0,.int .u32 0,.int .u32 0,.int .u32 0,.int .u32 0,.int .u32 0,.int .u32 0,.int .u32 0,.int .u32 0,.int .u32 0,.int .u32 0,.int .u32 0,.int .u32 0,.int .u32 0,.int .u32 0,.int .u32 0,.int .u32 0,.int .u32 0,.int .u32 0,.int .u32 0,.int .u32 0,.int .u32 0,.int .u32 0,.int .u32 0,.int .u32 0,.int .u32 0,.int .u32 0,.int .u32 0,.int .u32 0,.int .u32 0,.int .u32 0,.int .u32 0,.int .u32 0,.int .u32 0,.int .u32 0,.int .u32 0,.int .u32 0,.int .u32 0,.int .u32 0,.int .u32 0,.int .u32 0]:=⟨_,rfl⟩;rw [←hZ];have HZ:Hid (Z.toList=u32f (fun _=>0) 64):=by rw [Hid,hZ];exact z64
 clear hZ;have hR:Blk (w.alloc (.cells Z 324)) w.heap.size 324 (u32f (fun _=>0) 64):=(Blk.new w Z 324).as HZ.out;have hBW:=b1 w (.cells Z 324);generalize w.alloc (.cells Z 324)=w1 at hR hBW ⊢;clear HZ;apply wp_region_lit
 refine wpList_buildFlatArr rfl 324 300 64 _ rfl .u32 kL Tryz.underlying324 (by kernel_rfl) (by kernel_rfl) (by kernel_rfl) ?_;rw [kL_eq];refine wpList_store_row rfl 324 (.tmp 0) (.tmp 1) rfl w.heap.size _ rfl rfl 324 _ hR (size_w64 _) (by simp [u32f]) (u32f_one _ _) ?_;apply wpList_nil
 go_wp2;refine bodyPost_ret (v:=.agg (u32f kC 64).toArray) ?_ rfl ⟨rfl,setRow_below hBW (Nat.le_refl _)⟩;exact results_cell_row (p:=0) (ty:=324) rfl _ _ w.heap.size 324 _ (0,0) _ rfl (setRow_heap _ _ _ _ _ _ hR) Tryz.underlying324 rfl (size_w64 _)
theorem size_s8 (F:Nat→Int):(Tryz.prog.info? 316).map (·.size)=some (u32f F 8).toArray.size:=by
 rw [show (u32f F 8).toArray.size=8 by simp [u32f]];kernel_rfl
theorem pfirst_v (w:World):Calls Tryz.prog 290 #[] w fun e w'=>e=.returned (.agg (u32f iC 8).toArray)∧Below w.heap.size w w':=by
 go_enter Tryz.func290,Tryz.ntmps290
 go_wp2;have h:=(Blk.new w #[Value.int IntKind.u32 1779033703,Value.int IntKind.u32 3144134277,Value.int IntKind.u32 1013904242,Value.int IntKind.u32 2773480762,Value.int IntKind.u32 1359893119,Value.int IntKind.u32 2600822924,Value.int IntKind.u32 528734635,Value.int IntKind.u32 1541459225] 316).as iL_eq;refine bodyPost_ret (v:=.agg (u32f iC 8).toArray) ?_ rfl ⟨rfl,b1 w _⟩;exact results_cell_row (p:=0) (ty:=316) rfl _ _ w.heap.size 316 _ (0,0) _ rfl h Tryz.underlying316 rfl (size_s8 _)
end
end Go.Proofs.YteahlbhjhjhljaaGreatDoor
