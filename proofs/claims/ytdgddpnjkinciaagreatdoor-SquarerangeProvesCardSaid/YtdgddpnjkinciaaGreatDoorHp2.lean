import Derived.Test.YtdgddpnjkinciaaGreatDoorHv1
import Derived.Deep.RegionHeld3
import Derived.Deep.CutBlock
import Derived.Deep.DeepCutAuto
import Derived.Deep.WholeRow
set_option linter.all false
set_option maxRecDepth 100000
set_option maxHeartbeats 16000000
namespace Go.Proofs.YtdgddpnjkinciaaGreatDoor
section
open Go.RowKit
def RAt {α:Type} (Q:World→α→List Value→Prop) (size:Nat) (w:World) (v:Value) (l:List α):Prop:=
 ∃ao c,v=.slice ao l.length c∧(l.length=0∨∃b o,ao=some ⟨b,o,none⟩∧b<w.heap.size∧∀j (h:j<l.length),∃cs,Q w l[j] cs∧∀i,i<size→w.cell? ⟨b,o+j*size+i,none⟩=cs[i]?)
theorem RAt.after {α:Type} {Q:World→α→List Value→Prop} {size:Nat} {w w':World} {v:Value} {l:List α} (h:RAt Q size w v l) (hb:Bw w w') (hQ:∀a cs,Q w a cs→Q w' a cs):RAt Q size w' v l:=by
 obtain⟨ao,c,rfl,h⟩:=h;refine⟨ao,c,rfl,?_⟩;rcases h with h | ⟨b,o,h1,h2,h3⟩
 ·exact .inl h
 ·refine .inr ⟨b,o,h1,Nl h2 hb.size,fun j hj=>?_⟩;obtain⟨cs,h4,h5⟩:=h3 j hj;exact⟨cs,hQ _ _ h4,fun i hi=>(hb.cell (p:=⟨b,o+j*size+i,none⟩) h2).trans (h5 i hi)⟩
theorem RAt.form {α:Type} {Q:World→α→List Value→Prop} {size:Nat} {w:World} {v:Value} {l:List α} (h:RAt Q size w v l):∃ao c,v=.slice ao l.length c:=by
 obtain⟨ao,c,h,_⟩:=h;exact⟨ao,c,h⟩
theorem RAt.at_ {α:Type} {Q:World→α→List Value→Prop} {size n c:Nat} {w:World} {ao:Option Addr} {l:List α} (h:RAt Q size w (.slice ao n c) l) {k:Nat} (hk:k<l.length) :
  ∃b o cs,ao=some ⟨b,o,none⟩∧b<w.heap.size∧Q w l[k] cs∧∀i,i<size→w.cell? ⟨b,o+k*size+i,none⟩=cs[i]?:=by
 obtain⟨ao',c',hv,h⟩:=h;injection hv with e1 e2 e3
 subst e1;rcases h with h | ⟨b,o,h1,h2,h3⟩
 ·omega
 ·obtain⟨cs,h4,h5⟩:=h3 k hk;exact⟨b,o,cs,h1,h2,h4,h5⟩
structure Trm where
 base:ByteArray
 var:Int
 neg:Bool
 abs:ByteArray
structure Eqn where
 grp:Int
 tgt:ByteArray
 trms:List Trm
structure Sta where
 grps:List (ByteArray × ByteArray)
 vars:List ByteArray
 eqs:List Eqn
def QStr (_:World) (s:ByteArray) (cs:List Value):Prop:=cs=[.string s]
def QGrp (_:World) (g:ByteArray × ByteArray) (cs:List Value):Prop:=cs=[.string g.1,.string g.2]
def QInt (_:World) (x:Bool × ByteArray) (cs:List Value):Prop:=cs=[.bool x.1,.string x.2]
def QTrm (_:World) (t:Trm) (cs:List Value):Prop:=cs=[.string t.base,.int .i64 t.var,.bool t.neg,.string t.abs]
def QEqn (w:World) (q:Eqn) (cs:List Value):Prop:=∃tv,cs=[.int .i64 q.grp,.string q.tgt,tv]∧RAt QTrm 4 w tv q.trms
def SsAt:=RAt QStr 1
def GsAt:=RAt QGrp 2
def IsAt:=RAt QInt 2
def TsAt:=RAt QTrm 4
def EsAt:=RAt QEqn 3
section
variable {w w':World} {v:Value}
theorem SsAt.after {l:List ByteArray} (h:SsAt w v l) (hb:Bw w w'):SsAt w' v l:=RAt.after h hb (fun _ _ h=>h)
theorem GsAt.after {l:List (ByteArray × ByteArray)} (h:GsAt w v l) (hb:Bw w w'):GsAt w' v l:=RAt.after h hb (fun _ _ h=>h)
theorem IsAt.after {l:List (Bool × ByteArray)} (h:IsAt w v l) (hb:Bw w w'):IsAt w' v l:=RAt.after h hb (fun _ _ h=>h)
theorem TsAt.after {l:List Trm} (h:TsAt w v l) (hb:Bw w w'):TsAt w' v l:=RAt.after h hb (fun _ _ h=>h)
theorem EsAt.after {l:List Eqn} (h:EsAt w v l) (hb:Bw w w'):EsAt w' v l:=
 RAt.after h hb (fun _ _ ⟨tv,h1,h2⟩=>⟨tv,h1,RAt.after h2 hb (fun _ _ h=>h)⟩)
end
section
variable {w:World} {ao:Option Addr} {n c k:Nat}
theorem SsAt.at_ {l:List ByteArray} (h:SsAt w (.slice ao n c) l) (hk:k<l.length):∃b o,ao=some ⟨b,o,none⟩∧b<w.heap.size∧w.cell? ⟨b,o+k,none⟩=some (.string l[k]):=by
 obtain⟨b,o,cs,h1,h2,h3,h4⟩:=RAt.at_ h hk;have:=h4 0 (by omega);rw[h3]at this;exact⟨b,o,h1,h2,by simpa using this⟩
theorem GsAt.at_ {l:List (ByteArray × ByteArray)} (h:GsAt w (.slice ao n c) l) (hk:k<l.length):∃b o,ao=some ⟨b,o,none⟩∧b<w.heap.size∧w.cell? ⟨b,o+k*2,none⟩=some (.string l[k].1)∧w.cell? ⟨b,o+k*2+1,none⟩=some (.string l[k].2):=by
 obtain⟨b,o,cs,h1,h2,h3,h4⟩:=RAt.at_ h hk;have e0:=h4 0 (by omega);have e1:=h4 1 (by omega);rw[h3]at e0 e1;exact⟨b,o,h1,h2,by simpa using e0,by simpa using e1⟩
theorem IsAt.at_ {l:List (Bool × ByteArray)} (h:IsAt w (.slice ao n c) l) (hk:k<l.length):∃b o,ao=some ⟨b,o,none⟩∧b<w.heap.size∧w.cell? ⟨b,o+k*2,none⟩=some (.bool l[k].1)∧w.cell? ⟨b,o+k*2+1,none⟩=some (.string l[k].2):=by
 obtain⟨b,o,cs,h1,h2,h3,h4⟩:=RAt.at_ h hk;have e0:=h4 0 (by omega);have e1:=h4 1 (by omega);rw[h3]at e0 e1;exact⟨b,o,h1,h2,by simpa using e0,by simpa using e1⟩
theorem TsAt.at_ {l:List Trm} (h:TsAt w (.slice ao n c) l) (hk:k<l.length):∃b o,ao=some ⟨b,o,none⟩∧b<w.heap.size∧w.cell? ⟨b,o+k*4,none⟩=some (.string l[k].base)∧w.cell? ⟨b,o+k*4+1,none⟩=some (.int .i64 l[k].var)∧w.cell? ⟨b,o+k*4+2,none⟩=some (.bool l[k].neg)∧w.cell? ⟨b,o+k*4+3,none⟩=some (.string l[k].abs):=by
 obtain⟨b,o,cs,h1,h2,h3,h4⟩:=RAt.at_ h hk;have e0:=h4 0 (by omega);have e1:=h4 1 (by omega);have e2:=h4 2 (by omega);have e3:=h4 3 (by omega);rw[h3]at e0 e1 e2 e3;exact⟨b,o,h1,h2,by simpa using e0,by simpa using e1,by simpa using e2,by simpa using e3⟩
theorem EsAt.at_ {l:List Eqn} (h:EsAt w (.slice ao n c) l) (hk:k<l.length):∃b o tv,ao=some ⟨b,o,none⟩∧b<w.heap.size∧w.cell? ⟨b,o+k*3,none⟩=some (.int .i64 l[k].grp)∧w.cell? ⟨b,o+k*3+1,none⟩=some (.string l[k].tgt)∧w.cell? ⟨b,o+k*3+2,none⟩=some tv∧TsAt w tv l[k].trms:=by
 obtain⟨b,o,cs,h1,h2,⟨tv,h3,h5⟩,h4⟩:=RAt.at_ h hk;have e0:=h4 0 (by omega);have e1:=h4 1 (by omega);have e2:=h4 2 (by omega);rw[h3]at e0 e1 e2;exact⟨b,o,tv,h1,h2,by simpa using e0,by simpa using e1,by simpa using e2,h5⟩
end
structure StAt (w:World) (v1 v2 v3:Value) (S:Sta):Prop where
 g:GsAt w v1 S.grps
 v:SsAt w v2 S.vars
 e:EsAt w v3 S.eqs
theorem StAt.after {w w':World} {v1 v2 v3:Value} {S:Sta} (h:StAt w v1 v2 v3 S) (hb:Bw w w'):StAt w' v1 v2 v3 S:=⟨h.g.after hb,h.v.after hb,h.e.after hb⟩
end
section
open Go.RowKit Go.Shelf
def kL:List Int:=[1116352408,1899447441,3049323471,3921009573,961987163,1508970993,2453635748,2870763221,3624381080,310598401,607225278,1426881987,1925078388,2162078206,2614888103,3248222580,3835390401,4022224774,264347078,604807628,770255983,1249150122,1555081692,1996064986,2554220882,2821834349,2952996808,3210313671,3336571891,3584528711,113926993,338241895,666307205,773529912,1294757372,1396182291,1695183700,1986661051,2177026350,2456956037,2730485921,2820302411,3259730800,3345764771,3516065817,3600352804,4094571909,275423344,430227734,506948616,659060556,883997877,958139571,1322822218,1537002063,1747873779,1955562222,2024104815,2227730452,2361852424,2428436474,2756734187,3204031479,3329325298]
def kC (j:Nat):Int:=kL.getD j 0
def iL:List Int:=[1779033703,3144134277,1013904242,2773480762,1359893119,2600822924,528734635,1541459225]
def iC (j:Nat):Int:=iL.getD j 0
def ch3 (e f g:Int):Int:=bits .xor .u32 (bits .and .u32 e f) (bits .and .u32 (bits .xor .u32 4294967295 e) g)
def mj3 (a b c:Int):Int:=bits .xor .u32 (bits .xor .u32 (bits .and .u32 a b) (bits .and .u32 a c)) (bits .and .u32 b c)
def bS1 (e:Int):Int:=bits .xor .u32 (bits .xor .u32 (rr e 6) (rr e 11)) (rr e 25)
def bS0 (a:Int):Int:=bits .xor .u32 (bits .xor .u32 (rr a 2) (rr a 13)) (rr a 22)
def tT (e f g h kk ww:Int):Int:=(h+bS1 e+ch3 e f g+kk+ww)%4294967296
def tU (a b c:Int):Int:=(bS0 a+mj3 a b c)%4294967296
def rT (v:Nat→Int) (kk ww:Int):Int:=tT (v 4) (v 5) (v 6) (v 7) kk ww
def rnd (v:Nat→Int) (kk ww:Int) (j:Nat):Int:=
 if j=0 then (rT v kk ww+tU (v 0) (v 1) (v 2))%4294967296 else if j=4 then (v 3+rT v kk ww)%4294967296 else v (j-1)
def vv (s:ByteArray) (S:Nat→Int):Nat→Nat→Int
 | 0=>S
 | k+1=>rnd (vv s S k) (kC k) (sW s k)
def cmp (S:Nat→Int) (s:ByteArray) (j:Nat):Int:=(vv s S 64 j+S j)%4294967296
def fP (s:ByteArray) (S:Nat→Int) (k j:Nat):Int:=if j<k then cmp S s j else vv s S 64 j
theorem fP_zero (s:ByteArray) (S:Nat→Int):u32f (fP s S 0) 8=u32f (vv s S 64) 8:=u32f_congr fun j _=>by rw[fP,if_neg (by omega)]
theorem fP_set (s:ByteArray) (S:Nat→Int) (k:Nat):(u32f (fP s S k) 8).set k (.int .u32 (cmp S s k))=u32f (fP s S (k+1)) 8:=by
 rw[u32f_set];refine u32f_congr fun j _=>?_
 unfold fP;by_cases h2:j=k
 ·subst h2;rw[if_pos rfl,if_pos (by omega)]
 ·rw[if_neg h2];by_cases h1:j<k
  ·rw[if_pos h1,if_pos (by omega)]
  ·rw[if_neg h1,if_neg (by omega)]
theorem fP_at {w:World} {g:Nat} {T:TypeId} {s:ByteArray} {S:Nat→Int} {k:Nat} (h:Blk w g T (u32f (fP s S k) 8)) (hk:k<8):w.cell? ⟨g,k,none⟩=some (.int .u32 (vv s S 64 k)):=by
 rw[h.cell,u32f_get _ hk,fP,if_neg (by omega)]
theorem Blk.as {w:World} {g:Nat} {T:TypeId} {cs cs':List Value} (h:Blk w g T cs) (e:cs=cs'):Blk w g T cs':=e ▸ h
end
section
open Go.RowKit Go.Shelf
theorem bits_or_comm (k:IntKind) (x y:Int):bits .or k x y=bits .or k y x:=by
 unfold bits;simp only[BitVec.or_comm]
theorem rot_and:∀n:Fin 32,0<n.val→bits .and .u64 (IntKind.u64.wrap (-(n.val:Int))) 31=32-(n.val:Int):=by decide +kernel
theorem rotl_c (x:Int) (n:Nat) (w:World) (hn:0<n) (hb:n<32) :
  Calls Tryz.prog 241 #[.int .u32 x,.int .i64 (-(n:Int))] w fun e w'=>e=.returned (.int .u32 (rr x n))∧Bw w w':=by
 obtain⟨r,hr⟩:∃r,r=32-n:=⟨_,rfl⟩;have HE:Hid (bits .or .u32 (x*2^r%4294967296) (x / 2^n)=rr x n):=by rw[Hid,bits_or_comm,rr,hr]
 have h1:=rot_and ⟨n,hb⟩ hn;simp only at h1;obtain⟨q,hq⟩:∃q,q=IntKind.u64.wrap (-(n:Int)):=⟨_,rfl⟩;have e0:=hq.symm;rw[e0]at h1;have e1:bits .and .u64 q 31=(r:Int):=by rw[h1];omega
 have e2:IntKind.u64.wrap (32-(r:Int))=(n:Int):=by rw[IntKind.wrap_u64];omega
 have r0:(0:Int)≤(r:Int):=by omega
 have r1:(r:Int)≤32:=by omega
 have n0:(0:Int)≤(n:Int):=by omega
 have n1:(n:Int)≤32:=by omega
 clear h1 hq hr;go_enter Tryz.func241,Tryz.ntmps241
 go_wp2;go_ret
 refine⟨?_,Br⟩;rw[←HE.out];rfl
theorem turn_c (x z:Int) (n:Nat) (w:World) (hz:z=(n:Int)) (hn:0<n) (hb:n<32) :
  Calls Tryz.prog 235 #[.int .u32 x,.int .i64 z] w fun e w'=>e=.returned (.int .u32 (rr x n))∧Bw w w':=by
 subst hz;have HR:=Kh (fun w=>rotl_c x n w hn hb);have e0:IntKind.i64.wrap (-(n:Int))=-(n:Int):=IntWalk.i64_in _ (by omega);have e1:IntKind.i64.wrap (0-(n:Int))=-(n:Int):=by rw[IntWalk.i64_in _ (by omega)];omega
 go_enter Tryz.func235,Tryz.ntmps235
 go_wp2_with fail
 refine (HR.out _).mono ?_;rintro e w2 ⟨rfl,hc⟩;go_wp2;go_ret
 exact⟨rfl,hc⟩
end
section
open Go.RowKit Go.Shelf
theorem or4 (a b c d:Nat) (ha:a<256) (hb:b<256) (hc:c<256) (hd:d<256) :
  bits .or .u32 (bits .or .u32 (bits .or .u32 ((a:Int)*16777216%4294967296) ((b:Int)*65536%4294967296)) ((c:Int)*256%4294967296)) (d:Int)=((((a*256+b)*256+c)*256+d:Nat):Int):=by
 have s1:a*16777216 ||| b*65536=(a*256+b)*65536:=by
  have h:=Nat.shiftLeft_add_eq_or_of_lt (b:=b*65536) (i:=24) (by omega) a;rw[Nat.shiftLeft_eq,show (2:Nat)^24=16777216 from rfl]at h;rw[←h];omega
 have s2:(a*256+b)*65536 ||| c*256=((a*256+b)*256+c)*256:=by
  have h:=Nat.shiftLeft_add_eq_or_of_lt (b:=c*256) (i:=16) (by omega) (a*256+b);rw[Nat.shiftLeft_eq,show (2:Nat)^16=65536 from rfl]at h;rw[←h];omega
 have s3:((a*256+b)*256+c)*256 ||| d=((a*256+b)*256+c)*256+d:=by
  have h:=Nat.shiftLeft_add_eq_or_of_lt (b:=d) (i:=8) (by omega) ((a*256+b)*256+c);rw[Nat.shiftLeft_eq,show (2:Nat)^8=256 from rfl]at h;rw[←h]
 rw[show (a:Int)*16777216%4294967296=((a*16777216:Nat):Int) by omega,show (b:Int)*65536%4294967296=((b*65536:Nat):Int) by omega,show (c:Int)*256%4294967296=((c*256:Nat):Int) by omega,
  u32_or_nat _ _ (by omega) (by omega),s1,u32_or_nat _ _ (by omega) (by omega),s2,u32_or_nat _ _ (by omega) (by omega),s3]
theorem bigN4 (s:ByteArray) (o:Nat):bigN s o 4=((byt s o*256+byt s (o+1))*256+byt s (o+2))*256+byt s (o+3):=by
 show (((0*256+byt s (o+0))*256+byt s (o+1))*256+byt s (o+2))*256+byt s (o+3)=_;rw[Nat.add_zero,Nat.zero_mul,Nat.zero_add]
def BytA (w:World) (b o:Nat) (s:ByteArray):Prop:=b<w.heap.size∧∀j,j<s.size→w.cell? ⟨b,o+j,none⟩=some (.int .u8 (byt s j:Nat))
theorem BytA.after {w w':World} {b o:Nat} {s:ByteArray} (h:BytA w b o s) (hb:Bw w w'):BytA w' b o s:=
 ⟨Nl h.1 hb.size,fun j hj=>(hb.cell (p:=⟨b,o+j,none⟩) h.1).trans (h.2 j hj)⟩
theorem BytA.set {w:World} {b o:Nat} {s:ByteArray} (h:BytA w b o s) (g i:Nat) (v:Value) (hb:b≠g):BytA (w.setCell ⟨g,i,none⟩ v).drew b o s:=
 ⟨by show b<(w.setCell _ _).heap.size;rw[World.size_setCell];exact h.1,fun j hj=>by show (w.setCell _ _).cell? _=_;rw[World.cell?_setCell_other _ _ _ _ (fun e=>hb (congrArg Addr.block e).symm)];exact h.2 j hj⟩
theorem gclH {w:World} {a:Addr} {v:Value} (hb:a.block<w.heap.size) (h:w.cell? a=some v):∀x:GW w,(Proofs.YtdgddpnjkinciaaGreatDoor.gw x).cell? a=some v:=fun x=>((gw_below x).cell hb).trans h
theorem size_w64 (F:Nat→Int):(Tryz.prog.info? 270).map (·.size)=some (u32f F 64).toArray.size:=by
 rw[show (u32f F 64).toArray.size=64 by simp[u32f]];kernel_rfl
theorem u32f_one (F:Nat→Int) (n:Nat):(u32f F n).toArray.all (·.oneCell')=true:=by
 rw[Array.all_eq_true];intro i hi;simp[u32f,Value.oneCell']
theorem setRow_below {B:Nat} {w0 w:World} {g:Nat} {cs:Array Value} (h:Below B w0 w) (hg:B≤g):Below B w0 (w.setRow g cs):=
 h.trans ⟨rfl,rfl,rfl,by simp,fun k hk=>setRow_other _ _ _ _ (by omega)⟩
theorem setRow_blk {w:World} {g:Nat} {T:TypeId} {cs:Array Value} {old:List Value} (h:Blk w g T old):Blk (w.setRow g cs) g T cs.toList:=by
 have h1:=setRow_heap w g _ cs T (0,0) h;exact h1
abbrev Z64:Array Value:=#[.int .u32 0,.int .u32 0,.int .u32 0,.int .u32 0,.int .u32 0,.int .u32 0,.int .u32 0,.int .u32 0,.int .u32 0,.int .u32 0,.int .u32 0,.int .u32 0,.int .u32 0,.int .u32 0,.int .u32 0,.int .u32 0,.int .u32 0,.int .u32 0,.int .u32 0,.int .u32 0,.int .u32 0,.int .u32 0,.int .u32 0,.int .u32 0,.int .u32 0,.int .u32 0,.int .u32 0,.int .u32 0,.int .u32 0,.int .u32 0,.int .u32 0,.int .u32 0,.int .u32 0,.int .u32 0,.int .u32 0,.int .u32 0,.int .u32 0,.int .u32 0,.int .u32 0,.int .u32 0,.int .u32 0,.int .u32 0,.int .u32 0,.int .u32 0,.int .u32 0,.int .u32 0,.int .u32 0,.int .u32 0,.int .u32 0,.int .u32 0,.int .u32 0,.int .u32 0,.int .u32 0,.int .u32 0,.int .u32 0,.int .u32 0,.int .u32 0,.int .u32 0,.int .u32 0,.int .u32 0,.int .u32 0,.int .u32 0,.int .u32 0,.int .u32 0]
abbrev Z8:Array Value:=#[.int .u32 0,.int .u32 0,.int .u32 0,.int .u32 0,.int .u32 0,.int .u32 0,.int .u32 0,.int .u32 0]
theorem z64:#[.int .u32 0,.int .u32 0,.int .u32 0,.int .u32 0,.int .u32 0,.int .u32 0,.int .u32 0,.int .u32 0,.int .u32 0,.int .u32 0,.int .u32 0,.int .u32 0,.int .u32 0,.int .u32 0,.int .u32 0,.int .u32 0,.int .u32 0,.int .u32 0,.int .u32 0,.int .u32 0,.int .u32 0,.int .u32 0,.int .u32 0,.int .u32 0,.int .u32 0,.int .u32 0,.int .u32 0,.int .u32 0,.int .u32 0,.int .u32 0,.int .u32 0,.int .u32 0,.int .u32 0,.int .u32 0,.int .u32 0,.int .u32 0,.int .u32 0,.int .u32 0,.int .u32 0,.int .u32 0,.int .u32 0,.int .u32 0,.int .u32 0,.int .u32 0,.int .u32 0,.int .u32 0,.int .u32 0,.int .u32 0,.int .u32 0,.int .u32 0,.int .u32 0,.int .u32 0,.int .u32 0,.int .u32 0,.int .u32 0,.int .u32 0,.int .u32 0,.int .u32 0,.int .u32 0,.int .u32 0,.int .u32 0,.int .u32 0,.int .u32 0,.int .u32 0].toList=u32f (fun _=>0) 64:=by rfl
theorem pschedule_v (s:ByteArray) (b o c:Nat) (w:World) (hs:s.size=64) (hA:BytA w b o s) (hc:64≤c) :
  Calls Tryz.prog 234 #[.slice (some ⟨b,o,none⟩) 64 c] w fun e w'=>e=.returned (.agg (u32f (sW s) 64).toArray)∧Bw w w':=by
 go_enter Tryz.func234,Tryz.ntmps234
 go_upto_region 2 with fail
 obtain⟨Z,hZ⟩:∃Z:Array Value,Z=#[.int .u32 0,.int .u32 0,.int .u32 0,.int .u32 0,.int .u32 0,.int .u32 0,.int .u32 0,.int .u32 0,.int .u32 0,.int .u32 0,.int .u32 0,.int .u32 0,.int .u32 0,.int .u32 0,.int .u32 0,.int .u32 0,.int .u32 0,.int .u32 0,.int .u32 0,.int .u32 0,.int .u32 0,.int .u32 0,.int .u32 0,.int .u32 0,.int .u32 0,.int .u32 0,.int .u32 0,.int .u32 0,.int .u32 0,.int .u32 0,.int .u32 0,.int .u32 0,.int .u32 0,.int .u32 0,.int .u32 0,.int .u32 0,.int .u32 0,.int .u32 0,.int .u32 0,.int .u32 0,.int .u32 0,.int .u32 0,.int .u32 0,.int .u32 0,.int .u32 0,.int .u32 0,.int .u32 0,.int .u32 0,.int .u32 0,.int .u32 0,.int .u32 0,.int .u32 0,.int .u32 0,.int .u32 0,.int .u32 0,.int .u32 0,.int .u32 0,.int .u32 0,.int .u32 0,.int .u32 0,.int .u32 0,.int .u32 0,.int .u32 0,.int .u32 0]:=⟨_,rfl⟩;rw[←hZ];have HZ:Hid (Z.toList=u32f (fun _=>0) 64):=by rw[Hid,hZ];exact z64
 clear hZ;have hR:Blk ((w.alloc (.cells Z 270)).alloc (.cells Z 270)) w.heap.size 270 (u32f (fun _=>0) 64):=((Blk.new w Z 270).as HZ.out).alloc _
 have hB:Blk ((w.alloc (.cells Z 270)).alloc (.cells Z 270)) (w.heap.size+1) 270 (u32f (sP s 0) 64):=by
  have h:=(Blk.new (w.alloc (.cells Z 270)) Z 270).as (HZ.out.trans (sP_zero s));rw[World.size_alloc]at h;exact h
 have hi:=ba (b1 w (.cells Z 270)) (.cells Z 270);generalize (w.alloc (.cells Z 270)).alloc (.cells Z 270)=w1 at hR hB hi ⊢;clear HZ;have hu:=hA.after hi;obtain⟨g,hg⟩:∃g,w.heap.size+1=g:=⟨_,rfl⟩;obtain⟨gr,hw⟩:∃g,w.heap.size=g:=⟨_,rfl⟩;have hz:Hid (w.heap.size≤g):=by rw[Hid];omega
 have ho:Hid (w.heap.size≤gr∧gr≠g):=by rw[Hid];omega
 have hJ:Hid (b≠g):=by have:=hA.1;rw[Hid];omega
 rw[hg]at hB ⊢;rw[hw]at hR ⊢;clear hg hw hA;go_wp2;go_loopw [9] (fun i wr=>∃k:Nat,k≤16∧i=.int .i64 k∧Blk wr g 270 (u32f (sP s k) 64)∧Blk wr gr 270 (u32f (fun _=>0) 64)∧BytA wr b o s∧Bw w wr) (fun i _=>16-(intOf i).toNat)
 case atStart=>exact⟨0,by omega,rfl,hB,hR,hu,hi⟩
 case round =>
  clear hB hR hu hi;obtain⟨k,hk,rfl,hb,hr,hA,he⟩:=hrel;by_cases hlt:k<16
  ·have hN:=hA.1;have l0:=hA.2 (4*k) (by omega);have l1:=hA.2 (4*k+1) (by omega);have l2:=hA.2 (4*k+2) (by omega);have l3:=hA.2 (4*k+3) (by omega);have e0:IntKind.i64.wrap (4*(k:Int))=4*(k:Int):=by rw[IntWalk.i64_in _ (by omega)]
   have e1:IntKind.i64.wrap (4*(k:Int)+4)=4*(k:Int)+4:=by rw[IntWalk.i64_in _ (by omega)]
   have hf:=hb.free k;have hO:=hb.lt;have hP:wr.cell? ⟨g,k,none⟩=some (.int .u32 0):=by rw[hb.cell,u32f_get _ (by omega),sP,if_neg (by omega)]
   have hp:=Kh (sP_set s k);have hd:Hid (sW s k=((((byt s (4*k)*256+byt s (4*k+1))*256+byt s (4*k+2))*256+byt s (4*k+3):Nat):Int)):=by rw[Hid,sW_lo s k hlt,bigN4]
   have hC:=Kh (byt_lt s (4*k));have hD:=Kh (byt_lt s (4*k+1));have hE:=Kh (byt_lt s (4*k+2));have hF:=Kh (byt_lt s (4*k+3));generalize byt s (4*k)=y0 at l0 hd hC;generalize byt s (4*k+1)=y1 at l1 hd hD;generalize byt s (4*k+2)=y2 at l2 hd hE;generalize byt s (4*k+3)=y3 at l3 hd hF;rw[←Nat.add_assoc]at l1 l2 l3;have f0:(0:Int)≤4*(k:Int):=by omega
   have f1:4*(k:Int)≤4*(k:Int)+4:=by omega
   have f2:4*(k:Int)+4≤(c:Int):=by omega
   have k0:(0:Int)≤(k:Int):=by omega
   have k1:(k:Int)<64:=by omega
   go_upto_region 6 with fail
   rw[show 4*k+4-4*k=4 by omega];go_region;go_wp2;go_roundw
   case rel =>
    have hv:bits BinOp.or IntKind.u32 (bits BinOp.or IntKind.u32 (bits BinOp.or IntKind.u32 ((y0:Int)%4294967296*16777216%4294967296) ((y1:Int)%4294967296*65536%4294967296)) ((y2:Int)%4294967296*256%4294967296)) ((y3:Int)%4294967296)=sW s k:=by
     have h0:=hC.out;have h1:=hD.out;have h2:=hE.out;have h3:=hF.out;rw[hd.out,show (y0:Int)%4294967296=y0 by omega,show (y1:Int)%4294967296=y1 by omega,show (y2:Int)%4294967296=y2 by omega,show (y3:Int)%4294967296=y3 by omega];exact or4 _ _ _ _ h0 h1 h2 h3
    rw[hv];exact⟨k+1,by omega,rfl,Blk.drewH (Blk.setv hb rfl hp.out),Blk.drewH (hr.other _ _ ho.out.2),hA.set _ _ _ hJ.out,(he.setCell hz.out _).drew⟩
   case measure=>simp[intOf];omega
  ·obtain rfl:k=16:=by omega
   clear hA;go_wp2;go_loopw [6,7,8] (fun i _ _ wr=>∃k:Nat,16≤k∧k≤64∧i=.int .i64 k∧Blk wr g 270 (u32f (sP s k) 64)∧Blk wr gr 270 (u32f (fun _=>0) 64)∧Bw w wr) (fun i _ _ _=>64-(intOf i).toNat)
   case atStart=>exact⟨16,by omega,by omega,rfl,hb,hr,he⟩
   case round =>
    clear hb hr he hlt hk;obtain⟨k,hk,hj,rfl,hb,hr,he⟩:=hrel;by_cases hlt:k<64
    ·obtain⟨a15,hG⟩:∃a,a=k-15:=⟨_,rfl⟩;obtain⟨a2,h2⟩:∃a,a=k-2:=⟨_,rfl⟩;obtain⟨a16,hH⟩:∃a,a=k-16:=⟨_,rfl⟩;obtain⟨a7,h7⟩:∃a,a=k-7:=⟨_,rfl⟩;have c15:=sP_at hb (show a15<k by omega) hj;have c2:=sP_at hb (show a2<k by omega) hj;have hd:Hid (sW s k=(sW s a16+sg0 (sW s a15)+sW s a7+sg1 (sW s a2))%4294967296):=by rw[Hid,sW_hi s k hk,hG,h2,hH,h7]
     have hp:=Kh (sP_set s k);have c16:=sP_at hb (show a16<k by omega) hj;have c7:=sP_at hb (show a7<k by omega) hj;have ck:wr.cell? ⟨g,k,none⟩=some (.int .u32 0):=by rw[hb.cell,u32f_get _ hlt,sP,if_neg (by omega)]
     generalize hx:sW s a15=x at c15 hd;generalize hy:sW s a2=y at c2 hd;generalize hK:sW s a16=z1 at c16 hd;generalize hL:sW s a7=z2 at c7 hd;clear hx hy hK hL;have e15:IntKind.i64.wrap ((k:Int)-15)=(a15:Int):=by rw[IntWalk.i64_in _ (by omega)];omega
     have e2:IntKind.i64.wrap ((k:Int)-2)=(a2:Int):=by rw[IntWalk.i64_in _ (by omega)];omega
     have b15:(a15:Int)<64:=by omega
     have b2:(a2:Int)<64:=by omega
     have d15:(0:Int)≤(a15:Int):=by omega
     have d2:(0:Int)≤(a2:Int):=by omega
     have e16:IntKind.i64.wrap ((k:Int)-16)=(a16:Int):=by rw[IntWalk.i64_in _ (by omega)];omega
     have e7:IntKind.i64.wrap ((k:Int)-7)=(a7:Int):=by rw[IntWalk.i64_in _ (by omega)];omega
     have b16:(a16:Int)<64:=by omega
     have b7:(a7:Int)<64:=by omega
     have d16:(0:Int)≤(a16:Int):=by omega
     have d7:(0:Int)≤(a7:Int):=by omega
     have bk:(k:Int)<64:=by omega
     have dk:(0:Int)≤(k:Int):=by omega
     clear hG h2 hH h7;have hl:=hb.lt;go_wp2_with fail
     go_region;have hm:=Blk.drewH hb;have hq:=Blk.drewH hr;have hh:=he.drew;replace c16:wr.drew.cell? ⟨g,a16,none⟩=some (.int .u32 z1):=c16;replace c7:wr.drew.cell? ⟨g,a7,none⟩=some (.int .u32 z2):=c7;clear c15 c2 hb hr he hl ck;generalize wr.drew=wa at hm hq hh c16 c7 ⊢;have hI:=hm.lt;have g16:=gclH (a:=⟨g,a16,none⟩) hI c16;have g7:=gclH (a:=⟨g,a7,none⟩) hI c7;go_wp2_with fail
     refine wp_region_gw_tail 29 (by kernel_rfl) (by kernel_rfl) ?_;simp only[List.take_succ_cons,List.take_zero,List.drop_succ_cons,List.drop_zero];repeat (go_big_quiet_step (first | (go_at_call 235;exact gw_of (turn_c _ _ 7 _ rfl (by decide) (by decide))) | (go_at_call 235;exact gw_of (turn_c _ _ 18 _ rfl (by decide) (by decide))) | (go_at_call 235;exact gw_of (turn_c _ _ 17 _ rfl (by decide) (by decide))) | (go_at_call 235;exact gw_of (turn_c _ _ 19 _ rfl (by decide) (by decide)))))
     refine wpQuiet_nil ?_;rintro w9 ⟨xw9,rfl⟩;have hb9:=gw_below xw9;generalize gw xw9=w9 at hb9;have hn:=hm.after hb9;have hM:=hq.after hb9;have ht:=bt hh hb9;have fk:=hn.free k;have hQ:=hn.lt;have ck:w9.cell? ⟨g,k,none⟩=some (.int .u32 0):=by rw[hn.cell,u32f_get _ hlt,sP,if_neg (by omega)]
     clear g16 g7 c16 c7 hm hq hh hb9;go_wp2;go_roundw
     case rel =>
      have h1:=hd.out;unfold sg0 sg1 at h1;refine⟨k+1,by omega,by omega,by go_num,Blk.setv hn (by rw[h1]) hp.out,hM.other _ _ ho.out.2,ht.setCell hz.out _⟩
     case measure=>simp[intOf];omega
    ·obtain rfl:k=64:=by omega
     go_upto_region 13 with fail
     apply wp_region_lit
     refine wpList_load_row rfl 270 (.tmp 3) rfl g rfl 270 _ (0,0) _ hb Tryz.underlying270 rfl (size_w64 _) ?_;refine wpList_store_row rfl 270 (.tmp 2) (.tmp 85) rfl gr _ rfl rfl 270 _ hr (size_w64 _) (by simp[u32f]) (u32f_one _ _) ?_;apply wpList_nil
     go_wp2;refine bodyPost_ret (v:=.agg (u32f (sP s 64) 64).toArray) ?_ rfl ⟨?_,setRow_below he ho.out.1⟩
     ·refine results_cell_row (p:=2) (ty:=270) rfl _ _ gr 270 _ (0,0) _ rfl (setRow_heap _ _ _ _ _ _ hr) Tryz.underlying270 rfl (size_w64 _)
     ·rw[sP_end]
end
end Go.Proofs.YtdgddpnjkinciaaGreatDoor
