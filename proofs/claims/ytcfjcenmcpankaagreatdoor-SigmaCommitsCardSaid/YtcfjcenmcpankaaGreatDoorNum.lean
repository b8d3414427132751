set_option linter.unusedVariables false
set_option linter.unusedSimpArgs false
set_option maxRecDepth 100000
set_option maxHeartbeats 16000000
namespace Go.Proofs.YtcfjcenmcpankaaGreatDoor
/- Numbers as byte strings,in plain Lean: the big-endian value of a list of bytes,the canonical list of a number,and how digits,lengths and the order of lists go with it. No program is in sight. -/
def val (l:List UInt8):Nat:=l.foldl (fun n b=>n*256+b.toNat) 0
def encF:Nat→Nat→List UInt8
 | 0,_=>[]
 | f+1,n=>if n=0 then [] else encF f (n / 256)++[UInt8.ofNat n]
def enc (n:Nat):List UInt8:=encF n n
def E (n:Nat):ByteArray:=⟨(enc n).toArray⟩
def canon (l:List UInt8):Prop:=l.head?≠some 0
theorem val_nil:val []=0:=rfl
theorem foldl_val (l:List UInt8) (n:Nat):l.foldl (fun n b=>n*256+b.toNat) n=n*256^l.length+val l:=by
 induction l generalizing n with
 | nil=>simp [val]
 | cons b t ih =>
  simp only [List.foldl_cons,List.length_cons,val];rw [ih,ih (0*256+b.toNat)];simp only [Nat.pow_succ,Nat.zero_mul,Nat.zero_add,Nat.add_mul];rw [Nat.mul_assoc,Nat.mul_comm 256,Nat.add_assoc]
theorem val_cons (b:UInt8) (t:List UInt8):val (b :: t)=b.toNat*256^t.length+val t:=by
 show List.foldl _ (0*256+b.toNat) t=_;rw [foldl_val];simp
theorem val_append (a b:List UInt8):val (a++b)=val a*256^b.length+val b:=by
 show List.foldl _ 0 (a++b)=_;rw [List.foldl_append,foldl_val];rfl
theorem val_snoc (a:List UInt8) (b:UInt8):val (a++[b])=val a*256+b.toNat:=by
 rw [val_append];simp [val]
theorem val_lt (l:List UInt8):val l<256^l.length:=by
 induction l with
 | nil=>simp [val]
 | cons b t ih =>
  rw [val_cons,List.length_cons,Nat.pow_succ];have hb:b.toNat≤255:=by have:=b.toNat_lt;omega
  have:b.toNat*256^t.length≤255*256^t.length:=Nat.mul_le_mul_right _ hb;omega
theorem val_zeros (k:Nat):val (List.replicate k 0)=0:=by
 induction k with
 | zero=>rfl
 | succ k ih=>rw [List.replicate_succ,val_cons,ih];simp
theorem val_zeros_append (k:Nat) (t:List UInt8):val (List.replicate k 0++t)=val t:=by
 rw [val_append,val_zeros];simp
theorem encF_stable (f g n:Nat) (hf:n≤f) (hg:n≤g):encF f n=encF g n:=by
 induction f generalizing g n with
 | zero =>
      obtain rfl:n=0:=by omega
      cases g <;> simp [encF]
 | succ f ih =>
  cases g with
  | zero =>
       obtain rfl:n=0:=by omega
       simp [encF]
  | succ g =>
   simp only [encF];by_cases h:n=0
   ·simp [h]
   ·rw [if_neg h,if_neg h,ih g (n / 256) (by omega) (by omega)]
theorem enc_zero:enc 0=[]:=rfl
theorem enc_pos (n:Nat) (h:0<n):enc n=enc (n / 256)++[UInt8.ofNat n]:=by
 unfold enc;obtain ⟨m,rfl⟩:∃m,n=m+1:=⟨n-1,by omega⟩;rw [encF,if_neg (by omega),encF_stable m ((m+1) / 256) _ (by omega) (by omega)]
theorem val_enc (n:Nat):val (enc n)=n:=by
 induction n using Nat.strongRecOn with
 | ind n ih =>
  by_cases h:n=0
  ·subst h;rfl
  ·rw [enc_pos n (by omega),val_snoc,ih _ (by omega),UInt8.toNat_ofNat'];omega
theorem E_data (n:Nat):(E n).data.toList=enc n:=by simp [E]
theorem val_E (n:Nat):val (E n).data.toList=n:=by rw [E_data,val_enc]
theorem enc_inj {a b:Nat} (h:enc a=enc b):a=b:=by rw [←val_enc a,h,val_enc]
theorem E_inj {a b:Nat} (h:E a=E b):a=b:=by
 apply enc_inj;rw [←E_data,h,E_data]
theorem E_eq_iff (a b:Nat):E a=E b↔a=b:=⟨E_inj,fun h=>by rw [h]⟩
theorem E_size (n:Nat):(E n).size=(enc n).length:=by simp [E,ByteArray.size]
theorem canon_enc (n:Nat):canon (enc n):=by
 induction n using Nat.strongRecOn with
 | ind n ih =>
  by_cases h:n=0
  ·subst h;simp [canon,enc_zero]
  ·rw [enc_pos n (by omega)];by_cases h2:n / 256=0
   ·rw [h2,enc_zero];simp only [canon,List.nil_append,List.head?_cons,ne_eq,Option.some.injEq];intro e;have:=congrArg UInt8.toNat e;rw [UInt8.toNat_ofNat'] at this;simp at this;omega
   ·have h3:=ih (n / 256) (by omega)
    have h4:enc (n / 256)≠[]:=by
     intro e;have:=val_enc (n / 256);rw [e] at this;simp [val] at this;omega
    cases e:enc (n / 256) with
    | nil=>exact absurd e h4
    | cons x t=>rw [e] at h3;simpa [canon] using h3
theorem enc_of_val (l:List UInt8) (h:canon l):enc (val l)=l:=by
 induction hn:l.length generalizing l with
 | zero=>obtain rfl:=List.length_eq_zero_iff.1 hn;rfl
 | succ k ih =>
  obtain ⟨t,b,rfl⟩:∃t b,l=t++[b]:=⟨l.dropLast,l.getLast (by intro e;subst e;simp at hn),(List.dropLast_concat_getLast _).symm⟩
  have hc:canon t:=by
   cases t with
   | nil=>simp [canon]
   | cons x t=>simpa [canon] using h
  have hpos:0<val (t++[b]):=by
   rw [val_snoc];cases t with
   | nil =>
    simp only [canon,List.nil_append,List.head?_cons,ne_eq,Option.some.injEq] at h;have:b.toNat≠0:=fun e=>h (UInt8.toNat_inj.1 (by simpa using e))
    omega
   | cons x t =>
    simp only [canon,List.head?_cons,ne_eq,Option.some.injEq] at hc;have hx:x.toNat≠0:=fun e=>hc (UInt8.toNat_inj.1 (by simpa using e))
    rw [val_cons];have:0<x.toNat*256^t.length:=Nat.mul_pos (by omega) (Nat.pow_pos (by decide));omega
  rw [enc_pos _ hpos,val_snoc];have hb:=b.toNat_lt;have h1:(val t*256+b.toNat) / 256=val t:=by omega
  rw [h1,ih t hc (by simp at hn;omega)];congr 2
  apply UInt8.toNat_inj.1
  rw [UInt8.toNat_ofNat'];omega
theorem E_of_val (s:ByteArray) (h:canon s.data.toList):E (val s.data.toList)=s:=by
 apply ByteArray.ext
 apply Array.toList_inj.1
 rw [E_data,enc_of_val _ h]
theorem enc_length_le (n k:Nat):(enc n).length≤k↔n<256^k:=by
 induction k generalizing n with
 | zero =>
  constructor
  ·intro h;have:enc n=[]:=List.length_eq_zero_iff.1 (by omega);have e:=val_enc n;rw [this] at e;simp [val] at e;omega
  ·intro h;obtain rfl:n=0:=by simp at h;exact h
   simp [enc_zero]
 | succ k ih =>
  by_cases h0:n=0
  ·subst h0;simp [enc_zero];exact Nat.pow_pos (by decide)
  ·rw [enc_pos n (by omega)];simp only [List.length_append,List.length_cons,List.length_nil,Nat.zero_add,Nat.add_le_add_iff_right];rw [ih,Nat.pow_succ,Nat.div_lt_iff_lt_mul (by decide)]
theorem E_size_le (n k:Nat):(E n).size≤k↔n<256^k:=by rw [E_size];exact enc_length_le n k
theorem E_size_pos (n:Nat):0<(E n).size↔0<n:=by
 have h:=E_size_le n 0;rw [Nat.pow_zero] at h;constructor
 ·intro h1;rcases Nat.lt_or_ge n 1 with h2 | h2
  ·have:=h.2 h2;omega
  ·omega
 ·intro h1;rcases Nat.lt_or_ge 0 (E n).size with h2 | h2
  ·exact h2
  ·have:=h.1 h2;omega
theorem E_size_zero (n:Nat):(E n).size=0↔n=0:=by
 have:=E_size_pos n;omega
theorem E_zero:E 0=ByteArray.empty:=rfl
theorem E_empty_iff (n:Nat):E n=ByteArray.empty↔n=0:=by rw [←E_zero,E_eq_iff]
theorem enc_val_zero_cons (t:List UInt8):enc (val (0 :: t))=enc (val t):=by rw [val_cons];simp
theorem digit_val_aux (k:Nat):∀(l:List UInt8) (i j:Nat) (hk:l.length=k) (h:i<l.length) (hj:j=l.length-1-i),(l[j]'(by omega)).toNat=val l / 256^i%256:=by
 induction k with
 | zero=>intro l i j hk h;omega
 | succ k ih =>
  intro l i j hk h hj;obtain ⟨t,b,rfl⟩:∃t b,l=t++[b]:=⟨l.dropLast,l.getLast (by intro e;subst e;simp at h),(List.dropLast_concat_getLast _).symm⟩;simp only [List.length_append,List.length_cons,List.length_nil,Nat.zero_add] at hk h hj;have hb:=b.toNat_lt;rw [val_snoc];cases i with
  | zero =>
   simp only [Nat.pow_zero,Nat.div_one];rw [List.getElem_append_right (by omega)];simp
  | succ i =>
   rw [List.getElem_append_left (by omega)];rw [Nat.pow_succ,Nat.mul_comm (256^i),←Nat.div_div_eq_div_mul];have e:(val t*256+b.toNat) / 256=val t:=by omega
   rw [e,←ih t i j (by omega) (by omega) (by omega)]
theorem digit_val (l:List UInt8) (i:Nat) (h:i<l.length):(l[l.length-1-i]'(by omega)).toNat=val l / 256^i%256:=
 digit_val_aux l.length l i _ rfl h rfl
theorem digit_out (l:List UInt8) (i:Nat) (h:l.length≤i):val l / 256^i%256=0:=by
 have:=val_lt l;have h2:val l<256^i:=Nat.lt_of_lt_of_le this (Nat.pow_le_pow_right (by decide) h);rw [Nat.div_eq_of_lt h2]
theorem mod_succ (a i:Nat):a%256^(i+1)=a / 256^i%256*256^i+a%256^i:=by
 rw [Nat.pow_succ,Nat.mod_mul,Nat.mul_comm (256^i),Nat.add_comm]
theorem val_lt_of_lex (p a b:List UInt8) (x y:UInt8) (h:x<y) (hl:a.length=b.length):val (p++x :: a)<val (p++y :: b):=by
 rw [val_append,val_append,val_cons,val_cons,List.length_cons,List.length_cons,hl];have h1:x.toNat+1≤y.toNat:=by have:=UInt8.lt_iff_toNat_lt.1 h;omega
 have ha:=val_lt a;rw [hl] at ha;have h2:(x.toNat+1)*256^b.length≤y.toNat*256^b.length:=Nat.mul_le_mul_right _ h1;rw [Nat.add_mul] at h2;omega
theorem val_lt_of_length {a b:List UInt8} (hb:canon b) (h:a.length<b.length):val a<val b:=by
 have h1:=val_lt a;have h2:¬ (enc (val b)).length≤a.length:=by rw [enc_of_val b hb];omega
 rw [enc_length_le] at h2;omega
end Go.Proofs.YtcfjcenmcpankaaGreatDoor
