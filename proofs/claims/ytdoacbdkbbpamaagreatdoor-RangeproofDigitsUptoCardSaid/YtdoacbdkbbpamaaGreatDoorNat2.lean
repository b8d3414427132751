import Derived.Test.YtdoacbdkbbpamaaGreatDoorRows
import Derived.Test.YtdoacbdkbbpamaaGreatDoorShelf
import Derived.WalkKit
import Derived.WalkSpells
import Derived.WalkLawsBesides
import Derived.Lib.SlBytesRow
import Derived.Lib.Hide
import Derived.BigQuiet
import Derived.Laws.BitsAllLaws
set_option linter.unusedVariables false
set_option linter.unusedSimpArgs false
set_option maxRecDepth 100000
set_option maxHeartbeats 16000000
namespace Go.Proofs.YtdoacbdkbbpamaaGreatDoor
section
/- Numbers as byte strings,in plain Lean: the big-endian value of a list of bytes,the canonical list of a number,and how digits,lengths and the order of lists go with it. No program is in sight. -/
def val (l:List UInt8):Nat:=l.foldl (fun n b=>n*256+b.toNat) 0
def encF:Nat→Nat→List UInt8
 | 0,_=>[]
 | f+1,n=>if n=0 then [] else encF f (n / 256)++[UInt8.ofNat n]
def enc (n:Nat):List UInt8:=encF n n
def E (n:Nat):ByteArray:=⟨(enc n).toArray⟩
def canon (l:List UInt8):Prop:=l.head?≠some 0
theorem foldl_val (l:List UInt8) (n:Nat):l.foldl (fun n b=>n*256+b.toNat) n=n*256^l.length+val l:=by
 induction l generalizing n with
 | nil=>simp [val]
 | cons b t ih =>
  simp only [List.foldl_cons,List.length_cons,val];rw [ih,ih (0*256+b.toNat)];simp only [Nat.pow_succ,Nat.zero_mul,Nat.zero_add,Nat.add_mul];rw [Nat.mul_assoc,Nat.mul_comm 256,Nat.add_assoc]
theorem val_cons (b:UInt8) (t:List UInt8):val (b :: t)=b.toNat*256^t.length+val t:=by
 show List.foldl _ (0*256+b.toNat) t=_;rw [foldl_val];simp
theorem val_append (a b:List UInt8):val (a++b)=val a*256^b.length+val b:=by
 show List.foldl _ 0 (a++b)=_;rw [List.foldl_append,foldl_val];rfl
theorem val_snoc (a:List UInt8) (b:UInt8):val (a++[b])=val a*256+b.toNat:=by
 rw [val_append];simp [val]
theorem val_lt (l:List UInt8):val l<256^l.length:=by
 induction l with
 | nil=>simp [val]
 | cons b t ih =>
  rw [val_cons,List.length_cons,Nat.pow_succ];have hb:b.toNat≤255:=by have:=b.toNat_lt;omega
  have:b.toNat*256^t.length≤255*256^t.length:=Nat.mul_le_mul_right _ hb;omega
theorem val_zeros (k:Nat):val (List.replicate k 0)=0:=by
 induction k with
 | zero=>rfl
 | succ k ih=>rw [List.replicate_succ,val_cons,ih];simp
theorem encF_stable (f g n:Nat) (hf:n≤f) (hg:n≤g):encF f n=encF g n:=by
 induction f generalizing g n with
 | zero =>
      obtain rfl:n=0:=by omega
      cases g <;> simp [encF]
 | succ f ih =>
  cases g with
  | zero =>
       obtain rfl:n=0:=by omega
       simp [encF]
  | succ g =>
   simp only [encF];by_cases h:n=0
   ·simp [h]
   ·rw [if_neg h,if_neg h,ih g (n / 256) (by omega) (by omega)]
theorem enc_zero:enc 0=[]:=rfl
theorem enc_pos (n:Nat) (h:0<n):enc n=enc (n / 256)++[UInt8.ofNat n]:=by
 unfold enc;obtain ⟨m,rfl⟩:∃m,n=m+1:=⟨n-1,by omega⟩;rw [encF,if_neg (by omega),encF_stable m ((m+1) / 256) _ (by omega) (by omega)]
theorem val_enc (n:Nat):val (enc n)=n:=by
 induction n using Nat.strongRecOn with
 | ind n ih =>
  by_cases h:n=0
  ·subst h;rfl
  ·rw [enc_pos n (by omega),val_snoc,ih _ (by omega),UInt8.toNat_ofNat'];omega
theorem E_data (n:Nat):(E n).data.toList=enc n:=by simp [E]
theorem val_E (n:Nat):val (E n).data.toList=n:=by rw [E_data,val_enc]
theorem enc_inj {a b:Nat} (h:enc a=enc b):a=b:=by rw [←val_enc a,h,val_enc]
theorem E_size (n:Nat):(E n).size=(enc n).length:=by simp [E,ByteArray.size]
theorem canon_enc (n:Nat):canon (enc n):=by
 induction n using Nat.strongRecOn with
 | ind n ih =>
  by_cases h:n=0
  ·subst h;simp [canon,enc_zero]
  ·rw [enc_pos n (by omega)];by_cases h2:n / 256=0
   ·rw [h2,enc_zero];simp only [canon,List.nil_append,List.head?_cons,ne_eq,Option.some.injEq];intro e;have:=congrArg UInt8.toNat e;rw [UInt8.toNat_ofNat'] at this;simp at this;omega
   ·have h3:=ih (n / 256) (by omega)
    have h4:enc (n / 256)≠[]:=by
     intro e;have:=val_enc (n / 256);rw [e] at this;simp [val] at this;omega
    cases e:enc (n / 256) with
    | nil=>exact absurd e h4
    | cons x t=>rw [e] at h3;simpa [canon] using h3
theorem enc_of_val (l:List UInt8) (h:canon l):enc (val l)=l:=by
 induction hn:l.length generalizing l with
 | zero=>obtain rfl:=List.length_eq_zero_iff.1 hn;rfl
 | succ k ih =>
  obtain ⟨t,b,rfl⟩:∃t b,l=t++[b]:=⟨l.dropLast,l.getLast (by intro e;subst e;simp at hn),(List.dropLast_concat_getLast _).symm⟩
  have hc:canon t:=by
   cases t with
   | nil=>simp [canon]
   | cons x t=>simpa [canon] using h
  have hpos:0<val (t++[b]):=by
   rw [val_snoc];cases t with
   | nil =>
    simp only [canon,List.nil_append,List.head?_cons,ne_eq,Option.some.injEq] at h;have:b.toNat≠0:=fun e=>h (UInt8.toNat_inj.1 (by simpa using e))
    omega
   | cons x t =>
    simp only [canon,List.head?_cons,ne_eq,Option.some.injEq] at hc;have hx:x.toNat≠0:=fun e=>hc (UInt8.toNat_inj.1 (by simpa using e))
    rw [val_cons];have:0<x.toNat*256^t.length:=Nat.mul_pos (by omega) (Nat.pow_pos (by decide));omega
  rw [enc_pos _ hpos,val_snoc];have hb:=b.toNat_lt;have h1:(val t*256+b.toNat) / 256=val t:=by omega
  rw [h1,ih t hc (by simp at hn;omega)];congr 2
  apply UInt8.toNat_inj.1
  rw [UInt8.toNat_ofNat'];omega
theorem E_of_val (s:ByteArray) (h:canon s.data.toList):E (val s.data.toList)=s:=by
 apply ByteArray.ext
 apply Array.toList_inj.1
 rw [E_data,enc_of_val _ h]
theorem enc_length_le (n k:Nat):(enc n).length≤k↔n<256^k:=by
 induction k generalizing n with
 | zero =>
  constructor
  ·intro h;have:enc n=[]:=List.length_eq_zero_iff.1 (by omega);have e:=val_enc n;rw [this] at e;simp [val] at e;omega
  ·intro h;obtain rfl:n=0:=by simp at h;exact h
   simp [enc_zero]
 | succ k ih =>
  by_cases h0:n=0
  ·subst h0;simp [enc_zero];exact Nat.pow_pos (by decide)
  ·rw [enc_pos n (by omega)];simp only [List.length_append,List.length_cons,List.length_nil,Nat.zero_add,Nat.add_le_add_iff_right];rw [ih,Nat.pow_succ,Nat.div_lt_iff_lt_mul (by decide)]
theorem E_size_le (n k:Nat):(E n).size≤k↔n<256^k:=by rw [E_size];exact enc_length_le n k
theorem E_size_pos (n:Nat):0<(E n).size↔0<n:=by
 have h:=E_size_le n 0;rw [Nat.pow_zero] at h;constructor
 ·intro h1;rcases Nat.lt_or_ge n 1 with h2 | h2
  ·have:=h.2 h2;omega
  ·omega
 ·intro h1;rcases Nat.lt_or_ge 0 (E n).size with h2 | h2
  ·exact h2
  ·have:=h.1 h2;omega
theorem E_zero:E 0=ByteArray.empty:=rfl
theorem digit_val_aux (k:Nat):∀(l:List UInt8) (i j:Nat) (hk:l.length=k) (h:i<l.length) (hj:j=l.length-1-i),(l[j]'(by omega)).toNat=val l / 256^i%256:=by
 induction k with
 | zero=>intro l i j hk h;omega
 | succ k ih =>
  intro l i j hk h hj;obtain ⟨t,b,rfl⟩:∃t b,l=t++[b]:=⟨l.dropLast,l.getLast (by intro e;subst e;simp at h),(List.dropLast_concat_getLast _).symm⟩;simp only [List.length_append,List.length_cons,List.length_nil,Nat.zero_add] at hk h hj;have hb:=b.toNat_lt;rw [val_snoc];cases i with
  | zero =>
   simp only [Nat.pow_zero,Nat.div_one];rw [List.getElem_append_right (by omega)];simp
  | succ i =>
   rw [List.getElem_append_left (by omega)];rw [Nat.pow_succ,Nat.mul_comm (256^i),←Nat.div_div_eq_div_mul];have e:(val t*256+b.toNat) / 256=val t:=by omega
   rw [e,←ih t i j (by omega) (by omega) (by omega)]
theorem digit_out (l:List UInt8) (i:Nat) (h:l.length≤i):val l / 256^i%256=0:=by
 have:=val_lt l;have h2:val l<256^i:=Nat.lt_of_lt_of_le this (Nat.pow_le_pow_right (by decide) h);rw [Nat.div_eq_of_lt h2]
theorem mod_succ (a i:Nat):a%256^(i+1)=a / 256^i%256*256^i+a%256^i:=by
 rw [Nat.pow_succ,Nat.mod_mul,Nat.mul_comm (256^i),Nat.add_comm]
theorem val_lt_of_lex (p a b:List UInt8) (x y:UInt8) (h:x<y) (hl:a.length=b.length):val (p++x :: a)<val (p++y :: b):=by
 rw [val_append,val_append,val_cons,val_cons,List.length_cons,List.length_cons,hl];have h1:x.toNat+1≤y.toNat:=by have:=UInt8.lt_iff_toNat_lt.1 h;omega
 have ha:=val_lt a;rw [hl] at ha;have h2:(x.toNat+1)*256^b.length≤y.toNat*256^b.length:=Nat.mul_le_mul_right _ h1;rw [Nat.add_mul] at h2;omega
theorem val_lt_of_length {a b:List UInt8} (hb:canon b) (h:a.length<b.length):val a<val b:=by
 have h1:=val_lt a;have h2:¬ (enc (val b)).length≤a.length:=by rw [enc_of_val b hb];omega
 rw [enc_length_le] at h2;omega
end
section
open Go.RowKit
def Row (w:World) (b o:Nat) (l:List UInt8):Prop:=∀j (h:j<l.length),w.cell? ⟨b,o+j,none⟩=some (.int .u8 (l[j].toNat:Int))
theorem Row.bytes {w:World} {b o:Nat} {l:List UInt8} (h:Row w b o l):Lib.Bytes w b o ⟨l.toArray⟩:=by
 intro i hi;have hi':i<l.length:=by simpa [ByteArray.size] using hi
 exact h i hi'
theorem Row.drop {w:World} {b o:Nat} {l:List UInt8} (h:Row w b o l) (k:Nat):Row w b (o+k) (l.drop k):=by
 intro j hj;have hj':k+j<l.length:=by simp at hj;omega
 have:=h (k+j) hj';rw [Nat.add_assoc,List.getElem_drop];exact this
theorem Row.string {w:World} {b o c:Nat} {l:List UInt8} (h:Row w b o l) :
  (convert 122 31 (.slice (some ⟨b,o,none⟩) l.length c)).run Tryz.prog w=.ok (.string ⟨l.toArray⟩) w:=by
 have:=Lib.run_convert_whole (P:=Tryz.prog) w 122 5 31 Tryz.underlying122 Tryz.underlying5 Tryz.underlying31 b o ⟨l.toArray⟩ h.bytes c;simpa [ByteArray.size] using this
theorem rs {a b:ByteArray} (h:a=b):Ending.returned (.string a)=.returned (.string b):=by rw [h]
theorem ri {k:IntKind} {a b:Int} (h:a=b):Ending.returned (.int k a)=.returned (.int k b):=by rw [h]
theorem rb {a b:Bool} (h:a=b):Ending.returned (.bool a)=.returned (.bool b):=by rw [h]
theorem r2 {a b c d:Value} (h:a=b) (h':c=d):Ending.returned (.tuple #[a,c])=.returned (.tuple #[b,d]):=by rw [h,h']
theorem r3 {a b c d x y:Value} (h:a=b) (h':c=d) (h2:x=y):Ending.returned (.tuple #[a,c,x])=.returned (.tuple #[b,d,y]):=by rw [h,h',h2]
theorem vi {k:IntKind} {a b:Int} (h:a=b):Value.int k a=.int k b:=by rw [h]
theorem vn {k:IntKind} {a b:Nat} (h:a=b):Value.int k (a:Int)=.int k (b:Int):=by rw [h]
theorem vs {a b:ByteArray} (h:a=b):Value.string a=.string b:=by rw [h]
theorem vE {a b:Nat} (h:a=b):Value.string (E a)=.string (E b):=by rw [h]
theorem rE {a b:Nat} (h:a=b):Ending.returned (.string (E a))=.returned (.string (E b)):=by rw [h]
theorem nz_str {s:ByteArray} (h:0<s.size):s.toList.isEmpty=false:=by
 rw [ByteArray.toList_eq];cases e:s.data.toList with
 | nil =>
  exfalso;have h2:s.data.toList.length=s.size:=by simp
  rw [e] at h2;simp only [List.length_nil] at h2;omega
 | cons x t=>rfl
theorem nzE {n:Nat} (h:0<n):(E n).toList.isEmpty=false:=nz_str ((E_size_pos n).2 h)
theorem nzE' {n:Nat} (h:0<n):¬ (E n).toList=[]:=by
 intro e;have:=nzE h;rw [e] at this;exact Bool.noConfusion this
theorem nzE2 {n:Nat} (h:0<n):((E n).toList==[])=false:=by
 rw [beq_eq_false_iff_ne];exact nzE' h
theorem zE {n:Nat} (h:n=0):(E n).toList.isEmpty=true:=by subst h;rw [ByteArray.toList_eq];rfl
theorem eqE {a b:Nat} (h:a=b):((E a).toList==(E b).toList)=true:=by rw [h];simp
theorem neE {a b:Nat} (h:a≠b):((E a).toList==(E b).toList)=false:=by
 rw [beq_eq_false_iff_ne,ByteArray.toList_eq,ByteArray.toList_eq,E_data,E_data];exact fun e=>h (enc_inj e)
def Blk (w:World) (g:Nat) (T:TypeId) (cs:List Value):Prop:=w.heap[g]?=some (.cells cs.toArray T (0,0))
def u8v (x:UInt8):Value:=.int .u8 (x.toNat:Int)
def u8s (l:List UInt8):List Value:=l.map u8v
theorem Blk.cell {w:World} {g:Nat} {T:TypeId} {cs:List Value} (h:Blk w g T cs) (j:Nat):w.cell? ⟨g,j,none⟩=cs[j]?:=by
 rw [cell_of_row w g j _ T _ h];simp
theorem Blk.free {w:World} {g:Nat} {T:TypeId} {cs:List Value} (h:Blk w g T cs) (j:Nat):w.frozen? ⟨g,j,none⟩=false:=
 frozen_of_row w g j _ T h
theorem Blk.x1 {w:World} {g:Nat} {T:TypeId} {cs:List Value} (h:Blk w g T cs):w.cell? ⟨g,0,none⟩=cs[0]?∧w.frozen? ⟨g,0,none⟩=false:=⟨h.cell 0,h.free 0⟩
theorem Blk.x2 {w:World} {g:Nat} {T:TypeId} {cs:List Value} (h:Blk w g T cs):w.cell? ⟨g,0,none⟩=cs[0]?∧w.frozen? ⟨g,0,none⟩=false∧w.cell? ⟨g,1,none⟩=cs[1]?∧w.frozen? ⟨g,1,none⟩=false:=⟨h.cell 0,h.free 0,h.cell 1,h.free 1⟩
theorem Blk.x3 {w:World} {g:Nat} {T:TypeId} {cs:List Value} (h:Blk w g T cs):w.cell? ⟨g,0,none⟩=cs[0]?∧w.frozen? ⟨g,0,none⟩=false∧w.cell? ⟨g,1,none⟩=cs[1]?∧w.frozen? ⟨g,1,none⟩=false∧w.cell? ⟨g,2,none⟩=cs[2]?∧w.frozen? ⟨g,2,none⟩=false:=⟨h.cell 0,h.free 0,h.cell 1,h.free 1,h.cell 2,h.free 2⟩
theorem Blk.x4 {w:World} {g:Nat} {T:TypeId} {cs:List Value} (h:Blk w g T cs):w.cell? ⟨g,0,none⟩=cs[0]?∧w.frozen? ⟨g,0,none⟩=false∧w.cell? ⟨g,1,none⟩=cs[1]?∧w.frozen? ⟨g,1,none⟩=false∧w.cell? ⟨g,2,none⟩=cs[2]?∧w.frozen? ⟨g,2,none⟩=false∧w.cell? ⟨g,3,none⟩=cs[3]?∧w.frozen? ⟨g,3,none⟩=false:=⟨h.cell 0,h.free 0,h.cell 1,h.free 1,h.cell 2,h.free 2,h.cell 3,h.free 3⟩
theorem Blk.set {w:World} {g:Nat} {T:TypeId} {cs:List Value} (h:Blk w g T cs) (j:Nat) (v:Value):Blk (w.setCell ⟨g,j,none⟩ v) g T (cs.set j v):=by
 unfold Blk;rw [heap_setCell_same w g j _ T v h];simp
theorem Blk.lt {w:World} {g:Nat} {T:TypeId} {cs:List Value} (h:Blk w g T cs):g<w.heap.size:=by
 have:=Array.getElem?_eq_some_iff.1 h;exact this.1
theorem Blk.below {w w':World} {g B:Nat} {T:TypeId} {cs:List Value} (h:Blk w g T cs) (hb:Below B w w') (hg:g<B):Blk w' g T cs:=by
 unfold Blk;rw [hb.block g hg];exact h
theorem Blk.after {w w':World} {g:Nat} {T:TypeId} {cs:List Value} (h:Blk w g T cs) (hb:Below w.heap.size w w'):Blk w' g T cs:=h.below hb h.lt
theorem Blk.alloc {w:World} {g:Nat} {T:TypeId} {cs:List Value} (h:Blk w g T cs) (o:Obj):Blk (w.alloc o) g T cs:=
 h.after ((Below.refl _ _).alloc (Nat.le_refl _) o)
theorem Blk.other {w:World} {g:Nat} {T:TypeId} {cs:List Value} (h:Blk w g T cs) (a:Addr) (v:Value) (hne:g≠a.block):Blk (w.setCell a v) g T cs:=by
 unfold Blk;rw [heap_setCell_other w a g v hne];exact h
theorem Blk.new (w:World) (cs:Array Value) (T:TypeId):Blk (w.alloc (.cells cs T)) w.heap.size T cs.toList:=by
 unfold Blk;rw [heap_alloc_new]
theorem Blk.row {w:World} {g:Nat} {T:TypeId} {l:List UInt8} (h:Blk w g T (u8s l)):Row w g 0 l:=by
 intro j hj;rw [h.cell,Nat.zero_add];simp [u8s,u8v,hj]
theorem run_mk {P:Program} {t e:TypeId} {k:IntKind} {bytes:Nat} (ht:P.underlying t=some (.slice e)) (hi:(P.info? e).map (fun i=>(i.zero,i.size,i.bytes))=some (some (.int k 0),1,bytes))
  (n:Nat) (hb:bytes*n≤281474976710656) (hm:n≤4611686018427387904) (w:World) :
  (Instr.makeSlice t (.int .i64 (n:Int)) (.int .i64 (n:Int))).run P w=.ok (.slice (some ⟨w.heap.size,0,none⟩) n n) (w.alloc (.cells (List.replicate n (Value.int k 0)).toArray e)):=by
 obtain ⟨i,hi0,hz,hs,hbt⟩:=info_parts hi;have h:=run_make (P:=P) w t e i (.int k 0) ht hi0 hz .i64 .i64 (n:Int) (n:Int) (by omega) (Int.le_refl _) (by rw [hbt];have h:((bytes*n:Nat):Int)≤((281474976710656:Nat):Int):=Int.ofNat_le.2 hb;rw [Int.natCast_mul] at h;exact h) (by omega);rw [hs,Nat.mul_one,Int.toNat_natCast] at h
 have e1:madeCells (Value.int k 0).cells n=(List.replicate n (Value.int k 0)).toArray:=by
  have:=toList_madeCells_one (.int k 0) n;rw [←this];simp [Value.cells]
 rw [e1] at h;exact h
theorem u8s_zeros (n:Nat):List.replicate n (Value.int .u8 0)=u8s (List.replicate n 0):=by simp [u8s,u8v]
theorem set_zeros (k:Nat) (t:List UInt8) (d:UInt8) (j:Nat) (hj:j=k):(List.replicate (k+1) 0++t).set j d=List.replicate k 0++d :: t:=by
 subst hj;induction j with
 | zero=>rfl
 | succ k ih=>rw [List.replicate_succ,List.cons_append,List.set_cons_succ,ih];rfl
theorem u8s_set (l:List UInt8) (j:Nat) (d:UInt8):(u8s l).set j (u8v d)=u8s (l.set j d):=by simp [u8s]
def Grew (w w':World):Prop:=Below w.heap.size w w'
theorem Grew.out {w w':World} (h:Grew w w'):Below w.heap.size w w':=h
@[go_sem] theorem grew_const {w:World} {p:Prop}:(∀w',Grew w w'→p)=p:=
 propext ⟨fun h=>h w (Below.refl _ _),fun h _ _=>h⟩
theorem wp_region_grew {P:Program} {id:Nat} {Q:Exit→Act→World→Prop} {a:Act} {w:World} {l:List Oper} (hm:P.follows .mixedOrders=true) (hB:Region.lexB .any l.toArray=true)
  (h:wpQuiet P l.toArray (Grew w) (fun a'=>∀w',Grew w w'→Q .normal a' w') l a):(Code.region id l.toArray true).wp P Q a w:=
 wp_region_quiet (C:=Grew w) hm hB (Below.refl _ _).drew (by simpa using h)
theorem grew_of {P:Program} {f:FuncId} {args:Array Value} {w w':World} {v:Value} (hC:Grew w w')
  (h:Calls P f args w' fun e w''=>e=.returned v∧Below w'.heap.size w' w''):Calls P f args w' fun e w''=>e=.returned v∧Grew w w'':=
 h.mono fun _ _ ⟨he,hb⟩=>⟨he,hC.out.trans (hb.mono hC.out.size)⟩
theorem info_u8:(Tryz.prog.info? 5).map (fun i=>(i.zero,i.size,i.bytes))=some (some (.int .u8 0),1,1):=by kernel_rfl
theorem info_int:(Tryz.prog.info? 3).map (fun i=>(i.zero,i.size,i.bytes))=some (some (.int .i64 0),1,8):=by kernel_rfl
end
section
open Go.RowKit
def slcLen:Value→Nat | .slice _ n _=>n | _=>0
theorem trim_step (l:List UInt8) (k:Nat) (h:k<l.length) (hz:(l[k].toNat:Int)=0) (hv:val (l.drop k)=val l):val (l.drop (k+1))=val l:=by
 rw [←hv,List.drop_eq_getElem_cons h,val_cons];have:l[k].toNat=0:=by omega
 simp [this]
theorem trim_end (l:List UInt8) (k:Nat) (hc:canon (l.drop k)) (hv:val (l.drop k)=val l):(⟨(l.drop k).toArray⟩:ByteArray)=E (val l):=by
 rw [←hv,E,enc_of_val _ hc]
theorem canon_drop (l:List UInt8) (k:Nat) (h:k<l.length) (hz:(l[k].toNat:Int)≠0):canon (l.drop k):=by
 rw [List.drop_eq_getElem_cons h];simp only [canon,List.head?_cons,ne_eq,Option.some.injEq];intro e;exact hz (by rw [e];rfl)
set_option maxRecDepth 100000 in
theorem trimmed_c (b o c:Nat) (l:List UInt8) (w:World) (hc:l.length≤c) (hm:c≤4611686018427387904) (hrow:Row w b o l) :
  Calls Tryz.prog 105 #[.slice (some ⟨b,o,none⟩) l.length c] w fun e w'=>e=.returned (.string (E (val l)))∧w=w':=by
 go_enter Tryz.func105,Tryz.ntmps105
 go_wp2;go_loop [0] (fun v=>∃k o',k≤l.length∧v=.slice (some ⟨b,o',none⟩) (l.length-k:Nat) (c-k)∧(k<l.length→o'=o+k)∧val (l.drop k)=val l) (fun v=>slcLen v)
 case atStart=>exact ⟨0,o,Nat.zero_le _,rfl,fun _=>rfl,rfl⟩
 case round =>
  obtain ⟨k,o',hk,rfl,ho,hv⟩:=hrel;have HV:=Lib.hid hv;clear hv;by_cases hlt:k<l.length
  ·obtain rfl:=ho hlt;have hcell:=hrow k hlt;have hcv:=(hrow.drop k).string (c:=c-k);rw [List.length_drop] at hcv;have HR:=Lib.hid hrow;clear hrow;have hz:0≤(l[k].toNat:Int)∧(l[k].toNat:Int)≤255:=by have:=l[k].toNat_lt;omega
   generalize hzz:(l[k].toNat:Int)=z at hcell hz;have HZ:=Lib.hid hzz;clear hzz;obtain ⟨hz1,hz2⟩:=hz;clear ho;by_cases hz0:z=0
   ·have hzb:(z==0)=true:=by simp [hz0]
    have HZ0:=Lib.hid hz0;clear hz0;go_wp2;go_round
    case rel =>
     have e:=trim_step l k hlt (HZ.out.trans HZ0.out) HV.out;by_cases h1:c-k=1
     ·rw [if_pos h1];exact ⟨k+1,_,by omega,rfl,by omega,e⟩
     ·rw [if_neg h1];exact ⟨k+1,_,by omega,rfl,fun _=>by omega,e⟩
    case measure=>simp [slcLen];omega
   ·have hzb:(z==0)=false:=by simp [hz0]
    have HZ0:=Lib.hid hz0;clear hz0;go_wp2;go_ret
    exact ⟨rs (trim_end l k (canon_drop l k hlt (by rw [HZ.out];exact HZ0.out)) HV.out),rfl⟩
  ·obtain rfl:k=l.length:=by omega
   have hcv:(convert 122 31 (.slice (some ⟨b,o',none⟩) 0 (c-l.length))).run Tryz.prog w=.ok (.string ⟨#[]⟩) w:=Row.string (l:=[]) (fun j h=>by simp at h);have e0:l.length-l.length=0:=by omega
   rw [e0];have HE:Hid (E (val l)=⟨#[]⟩):=by rw [←HV.out];simp [Hid,val,E,enc_zero]
   go_wp2;go_ret
   exact ⟨rs HE.out.symm,rfl⟩
end
section
open Go.RowKit
def vldB (s:ByteArray):Bool:=decide (s.size≤128)&&(s.data.toList.head? != some 0)
theorem vldB_E (n:Nat) (h:n<256^128):vldB (E n)=true:=by
 have h1:=(E_size_le n 128).2 h;have h2:=canon_enc n;unfold canon at h2;unfold vldB;rw [E_data,decide_eq_true h1,Bool.true_and,bne_iff_ne];exact h2
theorem of_vldB {s:ByteArray} (h:vldB s=true):∃n,n<256^128∧s=E n:=by
 unfold vldB at h;rw [Bool.and_eq_true,decide_eq_true_iff,bne_iff_ne] at h;have e:=E_of_val s h.2;refine ⟨val s.data.toList,?_,e.symm⟩;have h1:=h.1;rw [←e,E_size_le] at h1;exact h1
theorem vldB_long {s:ByteArray} (h:128<s.size):vldB s=false:=by
 unfold vldB;rw [decide_eq_false (by omega)];rfl
theorem head_data {s:ByteArray} (h:0<s.size):s.data.toList.head?=some s[0]:=by
 rw [List.head?_eq_getElem?];rw [List.getElem?_eq_getElem (by simpa using h)];rfl
theorem vldB_empty:vldB ByteArray.empty=true:=rfl
theorem vldB_pos {s:ByteArray} (h:0<s.size) (h2:s.size≤128):vldB s=((s[0].toNat:Int) != 0):=by
 unfold vldB;rw [decide_eq_true h2,Bool.true_and,head_data h]
 have:(some s[0] != some 0)=((s[0].toNat:Int) != 0):=by
  rw [Bool.eq_iff_iff];simp only [bne_iff_ne,ne_eq,Option.some.injEq];constructor
  ·intro h e;apply h;apply UInt8.toNat_inj.1;have:s[0].toNat=0:=by omega
   simpa using this
  ·intro h e;apply h;rw [e];rfl
 exact this
theorem valid_c (s:ByteArray) (w:World) (hs:s.size≤4611686018427387904) :
  Calls Tryz.prog 59 #[.string s] w fun e w'=>e=.returned (.bool (vldB s))∧w=w':=by
 by_cases h1:128<s.size
 ·have HV:=Lib.hid (vldB_long h1);go_enter Tryz.func59,Tryz.ntmps59
  go_wp2;go_ret
  exact ⟨rb HV.out.symm,rfl⟩
 ·by_cases h2:s.size=0
  ·obtain rfl:s=ByteArray.empty:=by
    apply ByteArray.ext;apply Array.eq_empty_of_size_eq_zero;exact h2
   go_enter Tryz.func59,Tryz.ntmps59
   go_wp2;go_ret
   exact ⟨rb vldB_empty.symm,rfl⟩
  ·have h3:0<s.size:=by omega
   have h4:s.size≤128:=by omega
   have HV:=Lib.hid (vldB_pos h3 h4);have hz:((s.size:Int)==0)=false:=by rw [beq_eq_false_iff_ne];omega
   go_enter Tryz.func59,Tryz.ntmps59
   go_wp2;go_ret
   exact ⟨rb HV.out.symm,rfl⟩
def dgt (s:ByteArray) (i:Nat):Nat:=val s.data.toList / 256^i%256
theorem dgt_lt (s:ByteArray) (i:Nat):dgt s i<256:=Nat.mod_lt _ (by decide)
theorem dgt_E (n i:Nat):dgt (E n) i=n / 256^i%256:=by unfold dgt;rw [val_E]
theorem dgt_at (s:ByteArray) (i j:Nat) (h:i<s.size) (hj:j=s.size-1-i):(s[j]'(by omega)).toNat=dgt s i:=by
 have hl:s.data.toList.length=s.size:=by simp
 have:=digit_val_aux s.data.toList.length s.data.toList i j rfl (by omega) (by omega);unfold dgt;rw [←this];simp [ByteArray.getElem_eq_getElem_data]
theorem dgt_out (s:ByteArray) (i:Nat) (h:s.size≤i):dgt s i=0:=by
 have hl:s.data.toList.length=s.size:=by simp
 exact digit_out _ i (by omega)
theorem wb (x:UInt8):wrap64 (x.toNat:Int)=(x.toNat:Int):=IntWalk.wrap64_in _ ⟨by omega,by have:=x.toNat_lt;omega⟩
theorem digit_c (s:ByteArray) (i:Int) (w:World) (hs:s.size≤4611686018427387904) (h0:0≤i) (h1:i≤4611686018427387904) :
  Calls Tryz.prog 137 #[.string s,.int .i64 i] w fun e w'=>e=.returned (.int .i64 (dgt s i.toNat))∧w=w':=by
 by_cases h2:(s.size:Int)≤i
 ·have HV:=Lib.hid (dgt_out s i.toNat (by omega));go_enter Tryz.func137,Tryz.ntmps137
  go_wp2;go_ret
  exact ⟨ri (by rw [HV.out];rfl),rfl⟩
 ·obtain ⟨k,rfl⟩:=Int.eq_ofNat_of_zero_le h0;have HV:=Lib.hid (dgt_at s k (s.size-1-k) (by omega) rfl);go_enter Tryz.func137,Tryz.ntmps137
  go_wp2;go_ret
  exact ⟨ri (by rw [wb,HV.out,Int.toNat_natCast]),rfl⟩
theorem fitting_c (n:Nat) (w:World) (h:n<256^128) :
  Calls Tryz.prog 156 #[.string (E n)] w fun e w'=>e=.returned (.tuple #[.string (E n),.int .i64 0])∧w=w':=by
 have h1:=(E_size_le n 128).2 h;have H:=Lib.hid h;clear h;go_enter Tryz.func156,Tryz.ntmps156
 go_wp2;go_ret2
 exact ⟨rfl,rfl⟩
end
section
open Go.RowKit
theorem pow8 (k:Nat):2^(8*k)=256^k:=by rw [Nat.pow_mul]
theorem pow8i (k:Nat):(2:Int)^(8*k)=((256^k:Nat):Int):=by
 rw [←pow8];simp
theorem shr_byte (n k:Nat):Value.int .u8 ((n:Int) / 2^(8*k)%256)=u8v (UInt8.ofNat (n / 256^k%256)):=by
 unfold u8v;rw [pow8i,UInt8.toNat_ofNat'];congr 1
 have h1:(n / 256^k)%256%2^8=n / 256^k%256:=Nat.mod_eq_of_lt (by have:=Nat.mod_lt (n / 256^k) (show 0<256 by decide);omega);rw [h1];norm_cast
theorem val_digit_cons (n k:Nat) (t:List UInt8) (hl:t.length=k) (hv:val t=n%256^k):val (UInt8.ofNat (n / 256^k%256) :: t)=n%256^(k+1):=by
 rw [val_cons,mod_succ,hl,hv,UInt8.toNat_ofNat',Nat.mod_eq_of_lt (by have:=Nat.mod_lt (n / 256^k) (show 0<256 by decide);omega)]
theorem u64_as_pow:(18446744073709551616:Nat)=256^8:=by decide
theorem of_c (n:Nat) (w:World) (h:n<256^8) :
  Calls Tryz.prog 67 #[.int .u64 (n:Int)] w fun e w'=>e=.returned (.string (E n))∧Below w.heap.size w w':=by
 have H:=Lib.hid h;rw [←u64_as_pow] at h;go_enter Tryz.func67,Tryz.ntmps67
 go_wp2;go_loopw [5] (fun i wr=>∃(k:Nat) (t:List UInt8),k≤8∧i=.int .i64 k∧t.length=k∧val t=n%256^k∧Blk wr w.heap.size 140 (u8s (List.replicate (8-k) 0++t))∧Below w.heap.size w wr) (fun i _=>8-(intOf i).toNat)
 case atStart =>
  refine ⟨0,[],by omega,rfl,rfl,by simp [val,Nat.mod_one],Blk.new _ _ _,(Below.refl _ _).alloc (Nat.le_refl _) _⟩
 case round =>
  obtain ⟨k,t,hk,rfl,htl,hv,hb,hbel⟩:=hrel;have HV:=Lib.hid hv;clear hv;have HL:=Lib.hid htl;clear htl;by_cases hlt:k<8
  ·have hcell:wr.cell? ⟨w.heap.size,7-k,none⟩=some (.int .u8 0):=by
    rw [hb.cell];simp [u8s,u8v,List.getElem?_append,show 7-k<8-k by omega]
   have hfr:=hb.free (7-k);go_wp2;go_roundw
   case rel =>
    refine ⟨k+1,UInt8.ofNat (n / 256^k%256) :: t,by omega,by go_num,by simp [HL.out],val_digit_cons n k t HL.out HV.out,?_,hbel.setCell (Nat.le_refl _) _⟩;rw [shr_byte];have:=hb.set (7-k) (u8v (UInt8.ofNat (n / 256^k%256)));rw [u8s_set,show 8-k=(7-k)+1 by omega,set_zeros _ _ _ _ rfl] at this;rw [show 8-(k+1)=7-k by omega];exact this
   case measure=>simp [intOf];omega
  ·obtain rfl:k=8:=by omega
   have hr:Row wr w.heap.size 0 t:=hb.row;have HE:Hid (val t=n):=by rw [Hid,HV.out,Nat.mod_eq_of_lt H.out]
   go_wp2_with fail
   have:=(trimmed_c w.heap.size 0 8 t wr (by rw [HL.out];omega) (by omega) hr);rw [HL.out] at this;refine this.mono ?_;rintro e w' ⟨rfl,rfl⟩;go_wp2;go_ret
   exact ⟨rs (by rw [HE.out]),hbel⟩
theorem or_byte (a:Nat) (b:UInt8) (h:a*256+b.toNat<18446744073709551616) :
  bits .or .u64 (IntKind.u64.wrap ((a:Int)*256)) (IntKind.u64.wrap (b.toNat:Int))=((a*256+b.toNat:Nat):Int):=by
 have hb:=b.toNat_lt;have e1:IntKind.u64.wrap ((a:Int)*256)=((a*256:Nat):Int):=by simp [IntKind.wrap,IntKind.signed,IntKind.bits];omega
 have e2:IntKind.u64.wrap (b.toNat:Int)=(b.toNat:Int):=by simp [IntKind.wrap,IntKind.signed,IntKind.bits];omega
 rw [e1,e2,u64_or_nat _ _ (by omega) (by omega)];congr 1
 have:=Nat.shiftLeft_add_eq_or_of_lt (i:=8) (b:=b.toNat) (by omega) a;rw [Nat.shiftLeft_eq] at this;exact this.symm
theorem val_take_succ (s:ByteArray) (k:Nat) (h:k<s.size):val (s.data.toList.take (k+1))=val (s.data.toList.take k)*256+s[k].toNat:=by
 rw [List.take_succ_eq_append_getElem (by simpa using h),val_snoc];rfl
theorem val_take_le (s:ByteArray) (k:Nat) (h:k≤8):val (s.data.toList.take k)<18446744073709551616:=by
 have h1:=val_lt (s.data.toList.take k);have h2:(s.data.toList.take k).length≤8:=by simp;omega
 have h3:=Nat.pow_le_pow_right (show 0<256 by decide) h2;rw [u64_as_pow];omega
theorem small_c (n:Nat) (w:World) (h:n<256^8) :
  Calls Tryz.prog 65 #[.string (E n)] w fun e w'=>e=.returned (.tuple #[.int .u64 n,.bool true])∧w=w':=by
 have h1:=(E_size_le n 8).2 h;have h2:n<256^128:=Nat.lt_of_lt_of_le h (Nat.pow_le_pow_right (by decide) (by decide));have HV:=Lib.hid (vldB_E n h2);have H:=Lib.hid h;clear h h2;go_enter Tryz.func65,Tryz.ntmps65
 go_wp2_with fail
 refine (valid_c _ _ (by omega)).mono ?_;rintro e w' ⟨rfl,rfl⟩;rw [HV.out];go_wp2;go_loop [4,16] (fun x i=>∃k:Nat,k≤(E n).size∧i=.int .i64 k∧x=.int .u64 (val ((E n).data.toList.take k):Nat)) (fun _ i=>8-(intOf i).toNat)
 case atStart=>exact ⟨0,by omega,rfl,rfl⟩
 case round =>
  obtain ⟨k,hk,rfl,rfl⟩:=hrel;by_cases hlt:k<(E n).size
  ·have HS:Hid (val ((E n).data.toList.take (k+1))=val ((E n).data.toList.take k)*256+(E n)[k].toNat∧val ((E n).data.toList.take (k+1))<18446744073709551616):=
    ⟨val_take_succ (E n) k hlt,val_take_le (E n) (k+1) (by omega)⟩
   go_wp2;go_round
   case rel=>exact ⟨k+1,by omega,by go_num,by rw [or_byte _ _ (by rw [←HS.out.1];exact HS.out.2),HS.out.1]⟩
   case measure=>simp [intOf];omega
  ·obtain rfl:k=(E n).size:=by omega
   have HE:Hid (val ((E n).data.toList.take (E n).size)=n):=by
    rw [List.take_of_length_le (by simp)];exact val_E n
   go_wp2;go_ret2
   exact ⟨r2 (vn HE.out) rfl,rfl⟩
def cmpN (a b:Nat):Int:=if a<b then -1 else if b<a then 1 else 0
theorem cmpInt_c (x y:Int) (w:World):Calls Tryz.prog 96 #[.int .i64 x,.int .i64 y] w fun e w'=>e=.returned (.int .i64 (Lib.compareInt x y))∧w=w':=
 (Tryz.cmp_Compare_int x y w).mono fun _ _ h=>⟨h.1,h.2.symm⟩
theorem strCompare_c (a b:ByteArray) (w:World):Calls Tryz.prog 97 #[.string a,.string b] w fun e w'=>e=.returned (.int .i64 (Lib.compareBytes a.data.toList b.data.toList))∧w=w':=
 (Tryz.strings_Compare a b w).mono fun _ _ h=>⟨h.1,h.2.symm⟩
theorem compareBytes_val (p a b:List UInt8) (h:a.length=b.length):Lib.compareBytes a b=cmpN (val (p++a)) (val (p++b)):=by
 induction a generalizing p b with
 | nil =>
  obtain rfl:b=[]:=List.length_eq_zero_iff.1 h.symm;simp [Lib.compareBytes,cmpN]
 | cons x a ih =>
  cases b with
  | nil=>simp at h
  | cons y b =>
   have hl:a.length=b.length:=by simpa using h
   unfold Lib.compareBytes;by_cases h1:x<y
   ·rw [if_pos h1];have:=val_lt_of_lex p a b x y h1 hl;simp [cmpN,this]
   ·by_cases h2:y<x
    ·rw [if_neg h1,if_pos h2];have:=val_lt_of_lex p b a y x h2 hl.symm;unfold cmpN;rw [if_neg (by omega),if_pos this]
    ·rw [if_neg h1,if_neg h2]
     have e:x=y:=by
      apply UInt8.toNat_inj.1
      rw [UInt8.lt_iff_toNat_lt] at h1 h2;omega
     subst e;have:=ih (p++[x]) b hl;simpa using this
theorem cmp_lens (a b:Nat) (h:(E a).size≠(E b).size):Lib.compareInt ((E a).size:Int) ((E b).size:Int)=cmpN a b:=by
 unfold Lib.compareInt cmpN;rw [E_size,E_size] at *;rcases Nat.lt_or_gt_of_ne h with h1 | h1
 ·have:=val_lt_of_length (canon_enc b) h1;rw [val_enc,val_enc] at this;rw [if_pos (by omega),if_pos this]
 ·have:=val_lt_of_length (canon_enc a) h1;rw [val_enc,val_enc] at this;rw [if_neg (by omega),if_pos (by omega),if_neg (by omega),if_pos this]
theorem cmp_same (a b:Nat) (h:(E a).size=(E b).size):Lib.compareBytes (E a).data.toList (E b).data.toList=cmpN a b:=by
 have:=compareBytes_val [] (E a).data.toList (E b).data.toList (by simpa using h);simpa [val_E] using this
theorem cmp_zero_of (a b:Nat) (h:(E a).size=(E b).size):Lib.compareInt ((E a).size:Int) ((E b).size:Int)=0:=by
 unfold Lib.compareInt;rw [h];simp
theorem cmp_ne_zero (a b:Nat) (h:(E a).size≠(E b).size):(cmpN a b != 0)=true:=by
 rw [←cmp_lens a b h,bne_iff_ne];unfold Lib.compareInt;split <;> (try split) <;> omega
theorem compare_c (a b:Nat) (w:World) (ha:(E a).size≤4611686018427387904) (hb:(E b).size≤4611686018427387904) :
  Calls Tryz.prog 61 #[.string (E a),.string (E b)] w fun e w'=>e=.returned (.int .i64 (cmpN a b))∧w=w':=by
 by_cases h:(E a).size=(E b).size
 ·have H1:=Lib.hid (cmp_zero_of a b h);have H2:=Lib.hid (cmp_same a b h);clear h;go_enter Tryz.func61,Tryz.ntmps61
  go_wp2_with fail
  refine (cmpInt_c _ _ _).mono ?_;rintro e w' ⟨rfl,rfl⟩;rw [H1.out];go_wp2_with fail
  refine (strCompare_c _ _ _).mono ?_;rintro e w' ⟨rfl,rfl⟩;rw [H2.out];go_wp2;go_ret
  exact ⟨rfl,rfl⟩
 ·have H1:=Lib.hid (cmp_lens a b h);have H2:=cmp_ne_zero a b h;clear h;go_enter Tryz.func61,Tryz.ntmps61
  go_wp2_with fail
  refine (cmpInt_c _ _ _).mono ?_;rintro e w' ⟨rfl,rfl⟩;rw [H1.out];go_wp2;go_ret
  exact ⟨rfl,rfl⟩
end
end Go.Proofs.YtdoacbdkbbpamaaGreatDoor
