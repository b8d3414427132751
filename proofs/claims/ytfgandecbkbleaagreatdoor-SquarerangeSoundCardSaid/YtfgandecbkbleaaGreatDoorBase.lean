import Derived.Test.YtfgandecbkbleaaGreatDoorRows
import Derived.Test.YtfgandecbkbleaaGreatDoorShelf
import Derived.WalkKit
import Derived.WalkSpells
import Derived.WalkLawsBesides
import Derived.Lib.SlBytesRow
import Derived.Lib.Hide
import Derived.BigQuiet
set_option linter.unusedVariables false
set_option linter.unusedSimpArgs false
set_option maxRecDepth 100000
set_option maxHeartbeats 16000000
namespace Go.Proofs.YtfgandecbkbleaaGreatDoor
section
/- Numbers as byte strings,in plain Lean: the big-endian value of a list of bytes,the canonical list of a number,and how digits,lengths and the order of lists go with it. No program is in sight. -/
def val (l:List UInt8):Nat:=l.foldl (fun n b=>n*256+b.toNat) 0
def encF:Nat→Nat→List UInt8
 | 0,_=>[]
 | f+1,n=>if n=0 then [] else encF f (n / 256)++[UInt8.ofNat n]
def enc (n:Nat):List UInt8:=encF n n
def E (n:Nat):ByteArray:=⟨(enc n).toArray⟩
def canon (l:List UInt8):Prop:=l.head?≠some 0
theorem val_nil:val []=0:=rfl
theorem foldl_val (l:List UInt8) (n:Nat):l.foldl (fun n b=>n*256+b.toNat) n=n*256^l.length+val l:=by
 induction l generalizing n with
 | nil=>simp [val]
 | cons b t ih =>
  simp only [List.foldl_cons,List.length_cons,val];rw [ih,ih (0*256+b.toNat)];simp only [Nat.pow_succ,Nat.zero_mul,Nat.zero_add,Nat.add_mul];rw [Nat.mul_assoc,Nat.mul_comm 256,Nat.add_assoc]
theorem val_cons (b:UInt8) (t:List UInt8):val (b :: t)=b.toNat*256^t.length+val t:=by
 show List.foldl _ (0*256+b.toNat) t=_;rw [foldl_val];simp
theorem val_append (a b:List UInt8):val (a++b)=val a*256^b.length+val b:=by
 show List.foldl _ 0 (a++b)=_;rw [List.foldl_append,foldl_val];rfl
theorem val_snoc (a:List UInt8) (b:UInt8):val (a++[b])=val a*256+b.toNat:=by
 rw [val_append];simp [val]
theorem val_lt (l:List UInt8):val l<256^l.length:=by
 induction l with
 | nil=>simp [val]
 | cons b t ih =>
  rw [val_cons,List.length_cons,Nat.pow_succ];have hb:b.toNat≤255:=by have:=b.toNat_lt;omega
  have:b.toNat*256^t.length≤255*256^t.length:=Nat.mul_le_mul_right _ hb;omega
theorem val_zeros (k:Nat):val (List.replicate k 0)=0:=by
 induction k with
 | zero=>rfl
 | succ k ih=>rw [List.replicate_succ,val_cons,ih];simp
theorem val_zeros_append (k:Nat) (t:List UInt8):val (List.replicate k 0++t)=val t:=by
 rw [val_append,val_zeros];simp
theorem encF_stable (f g n:Nat) (hf:n≤f) (hg:n≤g):encF f n=encF g n:=by
 induction f generalizing g n with
 | zero =>
      obtain rfl:n=0:=by omega
      cases g <;> simp [encF]
 | succ f ih =>
  cases g with
  | zero =>
       obtain rfl:n=0:=by omega
       simp [encF]
  | succ g =>
   simp only [encF];by_cases h:n=0
   ·simp [h]
   ·rw [if_neg h,if_neg h,ih g (n / 256) (by omega) (by omega)]
theorem enc_zero:enc 0=[]:=rfl
theorem enc_pos (n:Nat) (h:0<n):enc n=enc (n / 256)++[UInt8.ofNat n]:=by
 unfold enc;obtain ⟨m,rfl⟩:∃m,n=m+1:=⟨n-1,by omega⟩;rw [encF,if_neg (by omega),encF_stable m ((m+1) / 256) _ (by omega) (by omega)]
theorem val_enc (n:Nat):val (enc n)=n:=by
 induction n using Nat.strongRecOn with
 | ind n ih =>
  by_cases h:n=0
  ·subst h;rfl
  ·rw [enc_pos n (by omega),val_snoc,ih _ (by omega),UInt8.toNat_ofNat'];omega
theorem E_data (n:Nat):(E n).data.toList=enc n:=by simp [E]
theorem val_E (n:Nat):val (E n).data.toList=n:=by rw [E_data,val_enc]
theorem enc_inj {a b:Nat} (h:enc a=enc b):a=b:=by rw [←val_enc a,h,val_enc]
theorem E_inj {a b:Nat} (h:E a=E b):a=b:=by
 apply enc_inj;rw [←E_data,h,E_data]
theorem E_eq_iff (a b:Nat):E a=E b↔a=b:=⟨E_inj,fun h=>by rw [h]⟩
theorem E_size (n:Nat):(E n).size=(enc n).length:=by simp [E,ByteArray.size]
theorem canon_enc (n:Nat):canon (enc n):=by
 induction n using Nat.strongRecOn with
 | ind n ih =>
  by_cases h:n=0
  ·subst h;simp [canon,enc_zero]
  ·rw [enc_pos n (by omega)];by_cases h2:n / 256=0
   ·rw [h2,enc_zero];simp only [canon,List.nil_append,List.head?_cons,ne_eq,Option.some.injEq];intro e;have:=congrArg UInt8.toNat e;rw [UInt8.toNat_ofNat'] at this;simp at this;omega
   ·have h3:=ih (n / 256) (by omega)
    have h4:enc (n / 256)≠[]:=by
     intro e;have:=val_enc (n / 256);rw [e] at this;simp [val] at this;omega
    cases e:enc (n / 256) with
    | nil=>exact absurd e h4
    | cons x t=>rw [e] at h3;simpa [canon] using h3
theorem enc_of_val (l:List UInt8) (h:canon l):enc (val l)=l:=by
 induction hn:l.length generalizing l with
 | zero=>obtain rfl:=List.length_eq_zero_iff.1 hn;rfl
 | succ k ih =>
  obtain ⟨t,b,rfl⟩:∃t b,l=t++[b]:=⟨l.dropLast,l.getLast (by intro e;subst e;simp at hn),(List.dropLast_concat_getLast _).symm⟩
  have hc:canon t:=by
   cases t with
   | nil=>simp [canon]
   | cons x t=>simpa [canon] using h
  have hpos:0<val (t++[b]):=by
   rw [val_snoc];cases t with
   | nil =>
    simp only [canon,List.nil_append,List.head?_cons,ne_eq,Option.some.injEq] at h;have:b.toNat≠0:=fun e=>h (UInt8.toNat_inj.1 (by simpa using e))
    omega
   | cons x t =>
    simp only [canon,List.head?_cons,ne_eq,Option.some.injEq] at hc;have hx:x.toNat≠0:=fun e=>hc (UInt8.toNat_inj.1 (by simpa using e))
    rw [val_cons];have:0<x.toNat*256^t.length:=Nat.mul_pos (by omega) (Nat.pow_pos (by decide));omega
  rw [enc_pos _ hpos,val_snoc];have hb:=b.toNat_lt;have h1:(val t*256+b.toNat) / 256=val t:=by omega
  rw [h1,ih t hc (by simp at hn;omega)];congr 2
  apply UInt8.toNat_inj.1
  rw [UInt8.toNat_ofNat'];omega
theorem E_of_val (s:ByteArray) (h:canon s.data.toList):E (val s.data.toList)=s:=by
 apply ByteArray.ext
 apply Array.toList_inj.1
 rw [E_data,enc_of_val _ h]
theorem enc_length_le (n k:Nat):(enc n).length≤k↔n<256^k:=by
 induction k generalizing n with
 | zero =>
  constructor
  ·intro h;have:enc n=[]:=List.length_eq_zero_iff.1 (by omega);have e:=val_enc n;rw [this] at e;simp [val] at e;omega
  ·intro h;obtain rfl:n=0:=by simp at h;exact h
   simp [enc_zero]
 | succ k ih =>
  by_cases h0:n=0
  ·subst h0;simp [enc_zero];exact Nat.pow_pos (by decide)
  ·rw [enc_pos n (by omega)];simp only [List.length_append,List.length_cons,List.length_nil,Nat.zero_add,Nat.add_le_add_iff_right];rw [ih,Nat.pow_succ,Nat.div_lt_iff_lt_mul (by decide)]
theorem E_size_le (n k:Nat):(E n).size≤k↔n<256^k:=by rw [E_size];exact enc_length_le n k
theorem E_size_pos (n:Nat):0<(E n).size↔0<n:=by
 have h:=E_size_le n 0;rw [Nat.pow_zero] at h;constructor
 ·intro h1;rcases Nat.lt_or_ge n 1 with h2 | h2
  ·have:=h.2 h2;omega
  ·omega
 ·intro h1;rcases Nat.lt_or_ge 0 (E n).size with h2 | h2
  ·exact h2
  ·have:=h.1 h2;omega
theorem E_size_zero (n:Nat):(E n).size=0↔n=0:=by
 have:=E_size_pos n;omega
theorem E_zero:E 0=ByteArray.empty:=rfl
theorem E_empty_iff (n:Nat):E n=ByteArray.empty↔n=0:=by rw [←E_zero,E_eq_iff]
theorem enc_val_zero_cons (t:List UInt8):enc (val (0 :: t))=enc (val t):=by rw [val_cons];simp
theorem digit_val_aux (k:Nat):∀(l:List UInt8) (i j:Nat) (hk:l.length=k) (h:i<l.length) (hj:j=l.length-1-i),(l[j]'(by omega)).toNat=val l / 256^i%256:=by
 induction k with
 | zero=>intro l i j hk h;omega
 | succ k ih =>
  intro l i j hk h hj;obtain ⟨t,b,rfl⟩:∃t b,l=t++[b]:=⟨l.dropLast,l.getLast (by intro e;subst e;simp at h),(List.dropLast_concat_getLast _).symm⟩;simp only [List.length_append,List.length_cons,List.length_nil,Nat.zero_add] at hk h hj;have hb:=b.toNat_lt;rw [val_snoc];cases i with
  | zero =>
   simp only [Nat.pow_zero,Nat.div_one];rw [List.getElem_append_right (by omega)];simp
  | succ i =>
   rw [List.getElem_append_left (by omega)];rw [Nat.pow_succ,Nat.mul_comm (256^i),←Nat.div_div_eq_div_mul];have e:(val t*256+b.toNat) / 256=val t:=by omega
   rw [e,←ih t i j (by omega) (by omega) (by omega)]
theorem digit_val (l:List UInt8) (i:Nat) (h:i<l.length):(l[l.length-1-i]'(by omega)).toNat=val l / 256^i%256:=
 digit_val_aux l.length l i _ rfl h rfl
theorem digit_out (l:List UInt8) (i:Nat) (h:l.length≤i):val l / 256^i%256=0:=by
 have:=val_lt l;have h2:val l<256^i:=Nat.lt_of_lt_of_le this (Nat.pow_le_pow_right (by decide) h);rw [Nat.div_eq_of_lt h2]
theorem mod_succ (a i:Nat):a%256^(i+1)=a / 256^i%256*256^i+a%256^i:=by
 rw [Nat.pow_succ,Nat.mod_mul,Nat.mul_comm (256^i),Nat.add_comm]
theorem val_lt_of_lex (p a b:List UInt8) (x y:UInt8) (h:x<y) (hl:a.length=b.length):val (p++x :: a)<val (p++y :: b):=by
 rw [val_append,val_append,val_cons,val_cons,List.length_cons,List.length_cons,hl];have h1:x.toNat+1≤y.toNat:=by have:=UInt8.lt_iff_toNat_lt.1 h;omega
 have ha:=val_lt a;rw [hl] at ha;have h2:(x.toNat+1)*256^b.length≤y.toNat*256^b.length:=Nat.mul_le_mul_right _ h1;rw [Nat.add_mul] at h2;omega
theorem val_lt_of_length {a b:List UInt8} (hb:canon b) (h:a.length<b.length):val a<val b:=by
 have h1:=val_lt a;have h2:¬ (enc (val b)).length≤a.length:=by rw [enc_of_val b hb];omega
 rw [enc_length_le] at h2;omega
end
section
open Go.RowKit
def Row (w:World) (b o:Nat) (l:List UInt8):Prop:=∀j (h:j<l.length),w.cell? ⟨b,o+j,none⟩=some (.int .u8 (l[j].toNat:Int))
theorem Row.bytes {w:World} {b o:Nat} {l:List UInt8} (h:Row w b o l):Lib.Bytes w b o ⟨l.toArray⟩:=by
 intro i hi;have hi':i<l.length:=by simpa [ByteArray.size] using hi
 exact h i hi'
theorem Row.drop {w:World} {b o:Nat} {l:List UInt8} (h:Row w b o l) (k:Nat):Row w b (o+k) (l.drop k):=by
 intro j hj;have hj':k+j<l.length:=by simp at hj;omega
 have:=h (k+j) hj';rw [Nat.add_assoc,List.getElem_drop];exact this
theorem Row.string {w:World} {b o c:Nat} {l:List UInt8} (h:Row w b o l) :
  (convert 160 22 (.slice (some ⟨b,o,none⟩) l.length c)).run Tryz.prog w=.ok (.string ⟨l.toArray⟩) w:=by
 have:=Lib.run_convert_whole (P:=Tryz.prog) w 160 5 22 Tryz.underlying160 Tryz.underlying5 Tryz.underlying22 b o ⟨l.toArray⟩ h.bytes c;simpa [ByteArray.size] using this
theorem rs {a b:ByteArray} (h:a=b):Ending.returned (.string a)=.returned (.string b):=by rw [h]
theorem ri {k:IntKind} {a b:Int} (h:a=b):Ending.returned (.int k a)=.returned (.int k b):=by rw [h]
theorem rb {a b:Bool} (h:a=b):Ending.returned (.bool a)=.returned (.bool b):=by rw [h]
theorem r2 {a b c d:Value} (h:a=b) (h':c=d):Ending.returned (.tuple #[a,c])=.returned (.tuple #[b,d]):=by rw [h,h']
theorem r3 {a b c d x y:Value} (h:a=b) (h':c=d) (h2:x=y):Ending.returned (.tuple #[a,c,x])=.returned (.tuple #[b,d,y]):=by rw [h,h',h2]
theorem vi {k:IntKind} {a b:Int} (h:a=b):Value.int k a=.int k b:=by rw [h]
theorem vn {k:IntKind} {a b:Nat} (h:a=b):Value.int k (a:Int)=.int k (b:Int):=by rw [h]
theorem vs {a b:ByteArray} (h:a=b):Value.string a=.string b:=by rw [h]
theorem vE {a b:Nat} (h:a=b):Value.string (E a)=.string (E b):=by rw [h]
theorem vb {a b:Bool} (h:a=b):Value.bool a=.bool b:=by rw [h]
theorem rE {a b:Nat} (h:a=b):Ending.returned (.string (E a))=.returned (.string (E b)):=by rw [h]
theorem nz_str {s:ByteArray} (h:0<s.size):s.toList.isEmpty=false:=by
 rw [ByteArray.toList_eq];cases e:s.data.toList with
 | nil =>
  exfalso;have h2:s.data.toList.length=s.size:=by simp
  rw [e] at h2;simp only [List.length_nil] at h2;omega
 | cons x t=>rfl
theorem nzE {n:Nat} (h:0<n):(E n).toList.isEmpty=false:=nz_str ((E_size_pos n).2 h)
theorem nzE' {n:Nat} (h:0<n):¬ (E n).toList=[]:=by
 intro e;have:=nzE h;rw [e] at this;exact Bool.noConfusion this
theorem nzE2 {n:Nat} (h:0<n):((E n).toList==[])=false:=by
 rw [beq_eq_false_iff_ne];exact nzE' h
theorem zE {n:Nat} (h:n=0):(E n).toList.isEmpty=true:=by subst h;rw [ByteArray.toList_eq];rfl
theorem eqE {a b:Nat} (h:a=b):((E a).toList==(E b).toList)=true:=by rw [h];simp
theorem neE {a b:Nat} (h:a≠b):((E a).toList==(E b).toList)=false:=by
 rw [beq_eq_false_iff_ne,ByteArray.toList_eq,ByteArray.toList_eq,E_data,E_data];exact fun e=>h (enc_inj e)
def Blk (w:World) (g:Nat) (T:TypeId) (cs:List Value):Prop:=w.heap[g]?=some (.cells cs.toArray T (0,0))
def u8v (x:UInt8):Value:=.int .u8 (x.toNat:Int)
def u8s (l:List UInt8):List Value:=l.map u8v
theorem Blk.cell {w:World} {g:Nat} {T:TypeId} {cs:List Value} (h:Blk w g T cs) (j:Nat):w.cell? ⟨g,j,none⟩=cs[j]?:=by
 rw [cell_of_row w g j _ T _ h];simp
theorem Blk.free {w:World} {g:Nat} {T:TypeId} {cs:List Value} (h:Blk w g T cs) (j:Nat):w.frozen? ⟨g,j,none⟩=false:=
 frozen_of_row w g j _ T h
theorem Blk.x1 {w:World} {g:Nat} {T:TypeId} {cs:List Value} (h:Blk w g T cs):w.cell? ⟨g,0,none⟩=cs[0]?∧w.frozen? ⟨g,0,none⟩=false:=⟨h.cell 0,h.free 0⟩
theorem Blk.x2 {w:World} {g:Nat} {T:TypeId} {cs:List Value} (h:Blk w g T cs):w.cell? ⟨g,0,none⟩=cs[0]?∧w.frozen? ⟨g,0,none⟩=false∧w.cell? ⟨g,1,none⟩=cs[1]?∧w.frozen? ⟨g,1,none⟩=false:=⟨h.cell 0,h.free 0,h.cell 1,h.free 1⟩
theorem Blk.x3 {w:World} {g:Nat} {T:TypeId} {cs:List Value} (h:Blk w g T cs):w.cell? ⟨g,0,none⟩=cs[0]?∧w.frozen? ⟨g,0,none⟩=false∧w.cell? ⟨g,1,none⟩=cs[1]?∧w.frozen? ⟨g,1,none⟩=false∧w.cell? ⟨g,2,none⟩=cs[2]?∧w.frozen? ⟨g,2,none⟩=false:=⟨h.cell 0,h.free 0,h.cell 1,h.free 1,h.cell 2,h.free 2⟩
theorem Blk.x4 {w:World} {g:Nat} {T:TypeId} {cs:List Value} (h:Blk w g T cs):w.cell? ⟨g,0,none⟩=cs[0]?∧w.frozen? ⟨g,0,none⟩=false∧w.cell? ⟨g,1,none⟩=cs[1]?∧w.frozen? ⟨g,1,none⟩=false∧w.cell? ⟨g,2,none⟩=cs[2]?∧w.frozen? ⟨g,2,none⟩=false∧w.cell? ⟨g,3,none⟩=cs[3]?∧w.frozen? ⟨g,3,none⟩=false:=⟨h.cell 0,h.free 0,h.cell 1,h.free 1,h.cell 2,h.free 2,h.cell 3,h.free 3⟩
theorem Blk.x6 {w:World} {g:Nat} {T:TypeId} {cs:List Value} (h:Blk w g T cs):w.cell? ⟨g,0,none⟩=cs[0]?∧w.frozen? ⟨g,0,none⟩=false∧w.cell? ⟨g,1,none⟩=cs[1]?∧w.frozen? ⟨g,1,none⟩=false∧w.cell? ⟨g,2,none⟩=cs[2]?∧w.frozen? ⟨g,2,none⟩=false∧w.cell? ⟨g,3,none⟩=cs[3]?∧w.frozen? ⟨g,3,none⟩=false∧w.cell? ⟨g,4,none⟩=cs[4]?∧w.frozen? ⟨g,4,none⟩=false∧w.cell? ⟨g,5,none⟩=cs[5]?∧w.frozen? ⟨g,5,none⟩=false:=⟨h.cell 0,h.free 0,h.cell 1,h.free 1,h.cell 2,h.free 2,h.cell 3,h.free 3,h.cell 4,h.free 4,h.cell 5,h.free 5⟩
theorem Blk.x11 {w:World} {g:Nat} {T:TypeId} {cs:List Value} (h:Blk w g T cs):w.cell? ⟨g,0,none⟩=cs[0]?∧w.frozen? ⟨g,0,none⟩=false∧w.cell? ⟨g,1,none⟩=cs[1]?∧w.frozen? ⟨g,1,none⟩=false∧w.cell? ⟨g,2,none⟩=cs[2]?∧w.frozen? ⟨g,2,none⟩=false∧w.cell? ⟨g,3,none⟩=cs[3]?∧w.frozen? ⟨g,3,none⟩=false∧w.cell? ⟨g,4,none⟩=cs[4]?∧w.frozen? ⟨g,4,none⟩=false∧w.cell? ⟨g,5,none⟩=cs[5]?∧w.frozen? ⟨g,5,none⟩=false∧w.cell? ⟨g,6,none⟩=cs[6]?∧w.frozen? ⟨g,6,none⟩=false∧w.cell? ⟨g,7,none⟩=cs[7]?∧w.frozen? ⟨g,7,none⟩=false∧w.cell? ⟨g,8,none⟩=cs[8]?∧w.frozen? ⟨g,8,none⟩=false∧w.cell? ⟨g,9,none⟩=cs[9]?∧w.frozen? ⟨g,9,none⟩=false∧w.cell? ⟨g,10,none⟩=cs[10]?∧w.frozen? ⟨g,10,none⟩=false:=⟨h.cell 0,h.free 0,h.cell 1,h.free 1,h.cell 2,h.free 2,h.cell 3,h.free 3,h.cell 4,h.free 4,h.cell 5,h.free 5,h.cell 6,h.free 6,h.cell 7,h.free 7,h.cell 8,h.free 8,h.cell 9,h.free 9,h.cell 10,h.free 10⟩
theorem Blk.set {w:World} {g:Nat} {T:TypeId} {cs:List Value} (h:Blk w g T cs) (j:Nat) (v:Value):Blk (w.setCell ⟨g,j,none⟩ v) g T (cs.set j v):=by
 unfold Blk;rw [heap_setCell_same w g j _ T v h];simp
theorem Blk.lt {w:World} {g:Nat} {T:TypeId} {cs:List Value} (h:Blk w g T cs):g<w.heap.size:=by
 have:=Array.getElem?_eq_some_iff.1 h;exact this.1
theorem Blk.below {w w':World} {g B:Nat} {T:TypeId} {cs:List Value} (h:Blk w g T cs) (hb:Below B w w') (hg:g<B):Blk w' g T cs:=by
 unfold Blk;rw [hb.block g hg];exact h
theorem Blk.after {w w':World} {g:Nat} {T:TypeId} {cs:List Value} (h:Blk w g T cs) (hb:Below w.heap.size w w'):Blk w' g T cs:=h.below hb h.lt
theorem Blk.alloc {w:World} {g:Nat} {T:TypeId} {cs:List Value} (h:Blk w g T cs) (o:Obj):Blk (w.alloc o) g T cs:=
 h.after ((Below.refl _ _).alloc (Nat.le_refl _) o)
theorem Blk.other {w:World} {g:Nat} {T:TypeId} {cs:List Value} (h:Blk w g T cs) (a:Addr) (v:Value) (hne:g≠a.block):Blk (w.setCell a v) g T cs:=by
 unfold Blk;rw [heap_setCell_other w a g v hne];exact h
theorem Blk.new (w:World) (cs:Array Value) (T:TypeId):Blk (w.alloc (.cells cs T)) w.heap.size T cs.toList:=by
 unfold Blk;rw [heap_alloc_new]
theorem Blk.row {w:World} {g:Nat} {T:TypeId} {l:List UInt8} (h:Blk w g T (u8s l)):Row w g 0 l:=by
 intro j hj;rw [h.cell,Nat.zero_add];simp [u8s,u8v,hj]
theorem run_mk {P:Program} {t e:TypeId} {k:IntKind} {bytes:Nat} (ht:P.underlying t=some (.slice e)) (hi:(P.info? e).map (fun i=>(i.zero,i.size,i.bytes))=some (some (.int k 0),1,bytes))
  (n:Nat) (hb:bytes*n≤281474976710656) (hm:n≤4611686018427387904) (w:World) :
  (Instr.makeSlice t (.int .i64 (n:Int)) (.int .i64 (n:Int))).run P w=.ok (.slice (some ⟨w.heap.size,0,none⟩) n n) (w.alloc (.cells (List.replicate n (Value.int k 0)).toArray e)):=by
 obtain ⟨i,hi0,hz,hs,hbt⟩:=info_parts hi;have h:=run_make (P:=P) w t e i (.int k 0) ht hi0 hz .i64 .i64 (n:Int) (n:Int) (by omega) (Int.le_refl _) (by rw [hbt];have h:((bytes*n:Nat):Int)≤((281474976710656:Nat):Int):=Int.ofNat_le.2 hb;rw [Int.natCast_mul] at h;exact h) (by omega);rw [hs,Nat.mul_one,Int.toNat_natCast] at h
 have e1:madeCells (Value.int k 0).cells n=(List.replicate n (Value.int k 0)).toArray:=by
  have:=toList_madeCells_one (.int k 0) n;rw [←this];simp [Value.cells]
 rw [e1] at h;exact h
theorem u8s_zeros (n:Nat):List.replicate n (Value.int .u8 0)=u8s (List.replicate n 0):=by simp [u8s,u8v]
theorem u8s_len (l:List UInt8):(u8s l).length=l.length:=by simp [u8s]
theorem set_zeros (k:Nat) (t:List UInt8) (d:UInt8) (j:Nat) (hj:j=k):(List.replicate (k+1) 0++t).set j d=List.replicate k 0++d :: t:=by
 subst hj;induction j with
 | zero=>rfl
 | succ k ih=>rw [List.replicate_succ,List.cons_append,List.set_cons_succ,ih];rfl
theorem u8s_set (l:List UInt8) (j:Nat) (d:UInt8):(u8s l).set j (u8v d)=u8s (l.set j d):=by simp [u8s]
theorem bcell {W w1:World} (hb:Below W.heap.size W w1):(∀b o,b<W.heap.size→w1.cell? ⟨b,o,none⟩=W.cell? ⟨b,o,none⟩)∧(∀b o,b<W.heap.size→w1.frozen? ⟨b,o,none⟩=W.frozen? ⟨b,o,none⟩):=
 ⟨fun b o h=>hb.cell (p:=⟨b,o,none⟩) h,fun b o h=>hb.frozen (p:=⟨b,o,none⟩) h⟩
def Grew (w w':World):Prop:=Below w.heap.size w w'
theorem Grew.out {w w':World} (h:Grew w w'):Below w.heap.size w w':=h
@[go_sem] theorem grew_const {w:World} {p:Prop}:(∀w',Grew w w'→p)=p:=
 propext ⟨fun h=>h w (Below.refl _ _),fun h _ _=>h⟩
theorem wp_region_grew {P:Program} {id:Nat} {Q:Exit→Act→World→Prop} {a:Act} {w:World} {l:List Oper} (hm:P.follows .mixedOrders=true) (hB:Region.lexB .any l.toArray=true)
  (h:wpQuiet P l.toArray (Grew w) (fun a'=>∀w',Grew w w'→Q .normal a' w') l a):(Code.region id l.toArray true).wp P Q a w:=
 wp_region_quiet (C:=Grew w) hm hB (Below.refl _ _).drew (by simpa using h)
theorem grew_of {P:Program} {f:FuncId} {args:Array Value} {w w':World} {v:Value} (hC:Grew w w')
  (h:Calls P f args w' fun e w''=>e=.returned v∧Below w'.heap.size w' w''):Calls P f args w' fun e w''=>e=.returned v∧Grew w w'':=
 h.mono fun _ _ ⟨he,hb⟩=>⟨he,hC.out.trans (hb.mono hC.out.size)⟩
theorem grew_same {P:Program} {f:FuncId} {args:Array Value} {w w':World} {v:Value} (hC:Grew w w')
  (h:Calls P f args w' fun e w''=>e=.returned v∧w'=w''):Calls P f args w' fun e w''=>e=.returned v∧Grew w w'':=
 h.mono fun _ _ ⟨he,hb⟩=>⟨he,hb ▸ hC⟩
theorem info_u8:(Tryz.prog.info? 5).map (fun i=>(i.zero,i.size,i.bytes))=some (some (.int .u8 0),1,1):=by kernel_rfl
theorem info_int:(Tryz.prog.info? 3).map (fun i=>(i.zero,i.size,i.bytes))=some (some (.int .i64 0),1,8):=by kernel_rfl
end
end Go.Proofs.YtfgandecbkbleaaGreatDoor
