import Derived.Test.YtihjpddbjhcbmaaGreatDoorRows
import Derived.Test.YtihjpddbjhcbmaaGreatDoorBits
import Derived.Test.YtihjpddbjhcbmaaGreatDoorShelf
import Derived.WalkKit
import Derived.WalkSpells
import Derived.WalkLawsBesides
import Derived.Lib.SlBytesRow
import Derived.Lib.Hide
import Derived.BigQuiet
set_option linter.unusedVariables false
set_option linter.unusedSimpArgs false
set_option maxRecDepth 100000
set_option maxHeartbeats 16000000
namespace Go.Proofs.YtihjpddbjhcbmaaGreatDoor
section
open Go.RowKit
theorem P8 {n a b:Nat} (h1:n > 0:=by decide) (h:a≤b:=by decide):n^a≤n^b:=Nat.pow_le_pow_right h1 h
theorem Nl {n m k:Nat} (h:n<m) (h2:m≤k):n<k:=Nat.lt_of_lt_of_le h h2
theorem Gm {α:Type} {l:List α} {n:Nat} (h:n<l.length):l[n]∈l:=List.getElem_mem h
theorem Dt {p:Prop} [h:Decidable p] (hp:p):decide p=true:=decide_eq_true hp
theorem Br {n:Nat} {w:World}:Below n w w:=Below.refl n w
theorem Kh {p:Prop} (h:p):Hid p:=h
abbrev Bw (w w':World):Prop:=Below w.heap.size w w'
def Row (w:World) (b o:Nat) (l:List UInt8):Prop:=∀j (h:j<l.length),w.cell? ⟨b,o+j,none⟩=some (.int .u8 (l[j].toNat:Int))
theorem Row.bytes {w:World} {b o:Nat} {l:List UInt8} (h:Row w b o l):Lib.Bytes w b o ⟨l.toArray⟩:=by
 intro i hi;have hb:i<l.length:=by simpa [ByteArray.size] using hi
 exact h i hb
theorem Row.drop {w:World} {b o:Nat} {l:List UInt8} (h:Row w b o l) (k:Nat):Row w b (o+k) (l.drop k):=by
 intro j hj;have hb:k+j<l.length:=by simp at hj;omega
 have:=h (k+j) hb;rw[Nat.add_assoc,List.getElem_drop];exact this
theorem Row.string {w:World} {b o c:Nat} {l:List UInt8} (h:Row w b o l) :
  (convert 177 22 (.slice (some ⟨b,o,none⟩) l.length c)).run Tryz.prog w=.ok (.string ⟨l.toArray⟩) w:=by
 have:=Lib.run_convert_whole (P:=Tryz.prog) w 177 5 22 Tryz.underlying177 Tryz.underlying5 Tryz.underlying22 b o ⟨l.toArray⟩ h.bytes c;simpa [ByteArray.size] using this
theorem rs {a b:ByteArray} (h:a=b):Ending.returned (.string a)=.returned (.string b):=by rw[h]
theorem ri {k:IntKind} {a b:Int} (h:a=b):Ending.returned (.int k a)=.returned (.int k b):=by rw[h]
theorem rb {a b:Bool} (h:a=b):Ending.returned (.bool a)=.returned (.bool b):=by rw[h]
theorem r2 {a b c d:Value} (h:a=b) (h':c=d):Ending.returned (.tuple #[a,c])=.returned (.tuple #[b,d]):=by rw[h,h']
theorem vi {k:IntKind} {a b:Int} (h:a=b):Value.int k a=.int k b:=by rw[h]
theorem vn {k:IntKind} {a b:Nat} (h:a=b):Value.int k (a:Int)=.int k (b:Int):=by rw[h]
theorem vs {a b:ByteArray} (h:a=b):Value.string a=.string b:=by rw[h]
theorem vE {a b:Nat} (h:a=b):Value.string (E a)=.string (E b):=by rw[h]
theorem vb {a b:Bool} (h:a=b):Value.bool a=.bool b:=by rw[h]
theorem rE {a b:Nat} (h:a=b):Ending.returned (.string (E a))=.returned (.string (E b)):=by rw[h]
theorem nz_str {s:ByteArray} (h:0<s.size):s.toList.isEmpty=false:=by
 rw[ByteArray.toList_eq];cases e:s.data.toList with
 | nil =>
  exfalso;have h2:s.data.toList.length=s.size:=by simp
  rw[e]at h2;simp only[List.length_nil]at h2;omega
 | cons x t=>rfl
theorem nzE {n:Nat} (h:0<n):(E n).toList.isEmpty=false:=nz_str ((E_size_pos n).2 h)
theorem nzE' {n:Nat} (h:0<n):¬ (E n).toList=[]:=by
 intro e;have:=nzE h;rw[e]at this;exact Bool.noConfusion this
theorem nzE2 {n:Nat} (h:0<n):((E n).toList==[])=false:=by
 rw[beq_eq_false_iff_ne];exact nzE' h
theorem zE {n:Nat} (h:n=0):(E n).toList.isEmpty=true:=by subst h;rw[ByteArray.toList_eq];rfl
theorem eqE {a b:Nat} (h:a=b):((E a).toList==(E b).toList)=true:=by rw[h];simp
theorem neE {a b:Nat} (h:a≠b):((E a).toList==(E b).toList)=false:=by
 rw[beq_eq_false_iff_ne,ByteArray.toList_eq,ByteArray.toList_eq,E_data,E_data];exact fun e=>h (enc_inj e)
def Blk (w:World) (g:Nat) (T:TypeId) (cs:List Value):Prop:=w.heap[g]?=some (.cells cs.toArray T (0,0))
def u8v (x:UInt8):Value:=.int .u8 (x.toNat:Int)
def u8s (l:List UInt8):List Value:=l.map u8v
theorem Blk.cell {w:World} {g:Nat} {T:TypeId} {cs:List Value} (h:Blk w g T cs) (j:Nat):w.cell? ⟨g,j,none⟩=cs[j]?:=by
 rw[cell_of_row w g j _ T _ h];simp
theorem Blk.free {w:World} {g:Nat} {T:TypeId} {cs:List Value} (h:Blk w g T cs) (j:Nat):w.frozen? ⟨g,j,none⟩=false:=
 frozen_of_row w g j _ T h
theorem Blk.x1 {w:World} {g:Nat} {T:TypeId} {cs:List Value} (h:Blk w g T cs):w.cell? ⟨g,0,none⟩=cs[0]?∧w.frozen? ⟨g,0,none⟩=false:=⟨h.cell 0,h.free 0⟩
theorem Blk.x2 {w:World} {g:Nat} {T:TypeId} {cs:List Value} (h:Blk w g T cs):w.cell? ⟨g,0,none⟩=cs[0]?∧w.frozen? ⟨g,0,none⟩=false∧w.cell? ⟨g,1,none⟩=cs[1]?∧w.frozen? ⟨g,1,none⟩=false:=⟨h.cell 0,h.free 0,h.cell 1,h.free 1⟩
theorem Blk.x3 {w:World} {g:Nat} {T:TypeId} {cs:List Value} (h:Blk w g T cs):w.cell? ⟨g,0,none⟩=cs[0]?∧w.frozen? ⟨g,0,none⟩=false∧w.cell? ⟨g,1,none⟩=cs[1]?∧w.frozen? ⟨g,1,none⟩=false∧w.cell? ⟨g,2,none⟩=cs[2]?∧w.frozen? ⟨g,2,none⟩=false:=⟨h.cell 0,h.free 0,h.cell 1,h.free 1,h.cell 2,h.free 2⟩
theorem Blk.x4 {w:World} {g:Nat} {T:TypeId} {cs:List Value} (h:Blk w g T cs):w.cell? ⟨g,0,none⟩=cs[0]?∧w.frozen? ⟨g,0,none⟩=false∧w.cell? ⟨g,1,none⟩=cs[1]?∧w.frozen? ⟨g,1,none⟩=false∧w.cell? ⟨g,2,none⟩=cs[2]?∧w.frozen? ⟨g,2,none⟩=false∧w.cell? ⟨g,3,none⟩=cs[3]?∧w.frozen? ⟨g,3,none⟩=false:=⟨h.cell 0,h.free 0,h.cell 1,h.free 1,h.cell 2,h.free 2,h.cell 3,h.free 3⟩
theorem Blk.x6 {w:World} {g:Nat} {T:TypeId} {cs:List Value} (h:Blk w g T cs):w.cell? ⟨g,0,none⟩=cs[0]?∧w.frozen? ⟨g,0,none⟩=false∧w.cell? ⟨g,1,none⟩=cs[1]?∧w.frozen? ⟨g,1,none⟩=false∧w.cell? ⟨g,2,none⟩=cs[2]?∧w.frozen? ⟨g,2,none⟩=false∧w.cell? ⟨g,3,none⟩=cs[3]?∧w.frozen? ⟨g,3,none⟩=false∧w.cell? ⟨g,4,none⟩=cs[4]?∧w.frozen? ⟨g,4,none⟩=false∧w.cell? ⟨g,5,none⟩=cs[5]?∧w.frozen? ⟨g,5,none⟩=false:=⟨h.cell 0,h.free 0,h.cell 1,h.free 1,h.cell 2,h.free 2,h.cell 3,h.free 3,h.cell 4,h.free 4,h.cell 5,h.free 5⟩
theorem Blk.x11 {w:World} {g:Nat} {T:TypeId} {cs:List Value} (h:Blk w g T cs):w.cell? ⟨g,0,none⟩=cs[0]?∧w.frozen? ⟨g,0,none⟩=false∧w.cell? ⟨g,1,none⟩=cs[1]?∧w.frozen? ⟨g,1,none⟩=false∧w.cell? ⟨g,2,none⟩=cs[2]?∧w.frozen? ⟨g,2,none⟩=false∧w.cell? ⟨g,3,none⟩=cs[3]?∧w.frozen? ⟨g,3,none⟩=false∧w.cell? ⟨g,4,none⟩=cs[4]?∧w.frozen? ⟨g,4,none⟩=false∧w.cell? ⟨g,5,none⟩=cs[5]?∧w.frozen? ⟨g,5,none⟩=false∧w.cell? ⟨g,6,none⟩=cs[6]?∧w.frozen? ⟨g,6,none⟩=false∧w.cell? ⟨g,7,none⟩=cs[7]?∧w.frozen? ⟨g,7,none⟩=false∧w.cell? ⟨g,8,none⟩=cs[8]?∧w.frozen? ⟨g,8,none⟩=false∧w.cell? ⟨g,9,none⟩=cs[9]?∧w.frozen? ⟨g,9,none⟩=false∧w.cell? ⟨g,10,none⟩=cs[10]?∧w.frozen? ⟨g,10,none⟩=false:=⟨h.cell 0,h.free 0,h.cell 1,h.free 1,h.cell 2,h.free 2,h.cell 3,h.free 3,h.cell 4,h.free 4,h.cell 5,h.free 5,h.cell 6,h.free 6,h.cell 7,h.free 7,h.cell 8,h.free 8,h.cell 9,h.free 9,h.cell 10,h.free 10⟩
theorem Blk.set {w:World} {g:Nat} {T:TypeId} {cs:List Value} (h:Blk w g T cs) (j:Nat) (v:Value):Blk (w.setCell ⟨g,j,none⟩ v) g T (cs.set j v):=by
 unfold Blk;rw[heap_setCell_same w g j _ T v h];simp
theorem Blk.lt {w:World} {g:Nat} {T:TypeId} {cs:List Value} (h:Blk w g T cs):g<w.heap.size:=by
 have:=Array.getElem?_eq_some_iff.1 h;exact this.1
theorem Blk.below {w w':World} {g B:Nat} {T:TypeId} {cs:List Value} (h:Blk w g T cs) (hb:Below B w w') (hg:g<B):Blk w' g T cs:=by
 unfold Blk;rw[hb.block g hg];exact h
theorem Blk.after {w w':World} {g:Nat} {T:TypeId} {cs:List Value} (h:Blk w g T cs) (hb:Bw w w'):Blk w' g T cs:=h.below hb h.lt
theorem Blk.alloc {w:World} {g:Nat} {T:TypeId} {cs:List Value} (h:Blk w g T cs) (o:Obj):Blk (w.alloc o) g T cs:=
 h.after ((Below.refl _ _).alloc (Nat.le_refl _) o)
theorem Blk.other {w:World} {g:Nat} {T:TypeId} {cs:List Value} (h:Blk w g T cs) (a:Addr) (v:Value) (hb:g≠a.block):Blk (w.setCell a v) g T cs:=by
 unfold Blk;rw[heap_setCell_other w a g v hb];exact h
theorem Blk.new (w:World) (cs:Array Value) (T:TypeId):Blk (w.alloc (.cells cs T)) w.heap.size T cs.toList:=by
 unfold Blk;rw[heap_alloc_new]
theorem Blk.row {w:World} {g:Nat} {T:TypeId} {l:List UInt8} (h:Blk w g T (u8s l)):Row w g 0 l:=by
 intro j hj;rw[h.cell,Nat.zero_add];simp[u8s,u8v,hj]
theorem run_mk {P:Program} {t e:TypeId} {k:IntKind} {bytes:Nat} (ht:P.underlying t=some (.slice e)) (hi:(P.info? e).map (fun i=>(i.zero,i.size,i.bytes))=some (some (.int k 0),1,bytes))
  (n:Nat) (hb:bytes*n≤281474976710656) (hm:n≤4611686018427387904) (w:World) :
  (Instr.makeSlice t (.int .i64 (n:Int)) (.int .i64 (n:Int))).run P w=.ok (.slice (some ⟨w.heap.size,0,none⟩) n n) (w.alloc (.cells (List.replicate n (Value.int k 0)).toArray e)):=by
 obtain⟨i,hc,hz,hs,hd⟩:=info_parts hi;have h:=run_make (P:=P) w t e i (.int k 0) ht hc hz .i64 .i64 (n:Int) (n:Int) (by omega) (Int.le_refl _) (by rw[hd];have h:((bytes*n:Nat):Int)≤((281474976710656:Nat):Int):=Int.ofNat_le.2 hb;rw[Int.natCast_mul]at h;exact h) (by omega);rw[hs,Nat.mul_one,Int.toNat_natCast]at h
 have e1:madeCells (Value.int k 0).cells n=(List.replicate n (Value.int k 0)).toArray:=by
  have:=toList_madeCells_one (.int k 0) n;rw[←this];simp[Value.cells]
 rw[e1]at h;exact h
theorem u8s_zeros (n:Nat):List.replicate n (Value.int .u8 0)=u8s (List.replicate n 0):=by simp[u8s,u8v]
theorem set_zeros (k:Nat) (t:List UInt8) (d:UInt8) (j:Nat) (hj:j=k):(List.replicate (k+1) 0++t).set j d=List.replicate k 0++d :: t:=by
 subst hj;induction j with
 | zero=>rfl
 | succ k ih=>rw[List.replicate_succ,List.cons_append,List.set_cons_succ,ih];rfl
theorem u8s_set (l:List UInt8) (j:Nat) (d:UInt8):(u8s l).set j (u8v d)=u8s (l.set j d):=by simp[u8s]
def Grew (w w':World):Prop:=Bw w w'
theorem Grew.out {w w':World} (h:Grew w w'):Bw w w':=h
@[go_sem] theorem grew_const {w:World} {p:Prop}:(∀w',Grew w w'→p)=p:=
 propext ⟨fun h=>h w (Below.refl _ _),fun h _ _=>h⟩
theorem wp_region_grew {P:Program} {id:Nat} {Q:Exit→Act→World→Prop} {a:Act} {w:World} {l:List Oper} (hm:P.follows .mixedOrders=true) (hB:Region.lexB .any l.toArray=true)
  (h:wpQuiet P l.toArray (Grew w) (fun a'=>∀w',Grew w w'→Q .normal a' w') l a):(Code.region id l.toArray true).wp P Q a w:=
 wp_region_quiet (C:=Grew w) hm hB (Below.refl _ _).drew (by simpa using h)
theorem grew_of {P:Program} {f:FuncId} {args:Array Value} {w w':World} {v:Value} (hC:Grew w w')
  (h:Calls P f args w' fun e w''=>e=.returned v∧Bw w' w''):Calls P f args w' fun e w''=>e=.returned v∧Grew w w'':=
 h.mono fun _ _ ⟨he,hb⟩=>⟨he,hC.out.trans (hb.mono hC.out.size)⟩
theorem info_u8:(Tryz.prog.info? 5).map (fun i=>(i.zero,i.size,i.bytes))=some (some (.int .u8 0),1,1):=by kernel_rfl
theorem info_int:(Tryz.prog.info? 3).map (fun i=>(i.zero,i.size,i.bytes))=some (some (.int .i64 0),1,8):=by kernel_rfl
end
section
open Go.RowKit
def slcLen:Value→Nat | .slice _ n _=>n | _=>0
theorem trim_step (l:List UInt8) (k:Nat) (h:k<l.length) (hz:(l[k].toNat:Int)=0) (hv:val (l.drop k)=val l):val (l.drop (k+1))=val l:=by
 rw[←hv,List.drop_eq_getElem_cons h,val_cons];have:l[k].toNat=0:=by omega
 simp[this]
theorem trim_end (l:List UInt8) (k:Nat) (hc:canon (l.drop k)) (hv:val (l.drop k)=val l):(⟨(l.drop k).toArray⟩:ByteArray)=E (val l):=by
 rw[←hv,E,enc_of_val _ hc]
theorem canon_drop (l:List UInt8) (k:Nat) (h:k<l.length) (hz:(l[k].toNat:Int)≠0):canon (l.drop k):=by
 rw[List.drop_eq_getElem_cons h];simp only[canon,List.head?_cons,ne_eq,Option.some.injEq];intro e;exact hz (by rw[e];rfl)
set_option maxRecDepth 100000 in
theorem trimmed_c (b o c:Nat) (l:List UInt8) (w:World) (hc:l.length≤c) (hm:c≤4611686018427387904) (hb:Row w b o l) :
  Calls Tryz.prog 122 #[.slice (some ⟨b,o,none⟩) l.length c] w fun e w'=>e=.returned (.string (E (val l)))∧w=w':=by
 go_enter Tryz.func122,Tryz.ntmps122
 go_wp2;go_loop [0] (fun v=>∃k o',k≤l.length∧v=.slice (some ⟨b,o',none⟩) (l.length-k:Nat) (c-k)∧(k<l.length→o'=o+k)∧val (l.drop k)=val l) (fun v=>slcLen v)
 case atStart=>exact⟨0,o,Nat.zero_le _,rfl,fun _=>rfl,rfl⟩
 case round =>
  obtain⟨k,o',hk,rfl,ho,hv⟩:=hrel;have HV:=Kh hv;clear hv;by_cases hlt:k<l.length
  ·obtain rfl:=ho hlt;have he:=hb k hlt;have hg:=(hb.drop k).string (c:=c-k);rw[List.length_drop]at hg;have HR:=Kh hb;clear hb;have hz:0≤(l[k].toNat:Int)∧(l[k].toNat:Int)≤255:=by have:=l[k].toNat_lt;omega
   generalize hh:(l[k].toNat:Int)=z at he hz;have HZ:=Kh hh;clear hh;obtain⟨hj,hl⟩:=hz;clear ho;by_cases hd:z=0
   ·have hi:(z==0)=true:=by simp[hd]
    have hf:=Kh hd;clear hd;go_wp2;go_round
    case rel =>
     have e:=trim_step l k hlt (HZ.out.trans hf.out) HV.out;by_cases h1:c-k=1
     ·rw[if_pos h1];exact⟨k+1,_,by omega,rfl,by omega,e⟩
     ·rw[if_neg h1];exact⟨k+1,_,by omega,rfl,fun _=>by omega,e⟩
    case measure=>simp[slcLen];omega
   ·have hi:(z==0)=false:=by simp[hd]
    have hf:=Kh hd;clear hd;go_wp2;go_ret
    exact⟨rs (trim_end l k (canon_drop l k hlt (by rw[HZ.out];exact hf.out)) HV.out),rfl⟩
  ·obtain rfl:k=l.length:=by omega
   have hg:(convert 177 22 (.slice (some ⟨b,o',none⟩) 0 (c-l.length))).run Tryz.prog w=.ok (.string ⟨#[]⟩) w:=Row.string (l:=[]) (fun j h=>by simp at h);have e0:l.length-l.length=0:=by omega
   rw[e0];have HE:Hid (E (val l)=⟨#[]⟩):=by rw[←HV.out];simp[Hid,val,E,enc_zero]
   go_wp2;go_ret
   exact⟨rs HE.out.symm,rfl⟩
end
end Go.Proofs.YtihjpddbjhcbmaaGreatDoor
