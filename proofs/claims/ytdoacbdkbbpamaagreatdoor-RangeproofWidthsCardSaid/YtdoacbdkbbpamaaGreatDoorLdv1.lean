import Derived.Test.YtdoacbdkbbpamaaGreatDoorNat2
import Derived.Test.YtdoacbdkbbpamaaGreatDoorHp3
set_option linter.unusedVariables false
set_option linter.unusedSimpArgs false
set_option maxRecDepth 100000
set_option maxHeartbeats 16000000
namespace Go.Proofs.YtdoacbdkbbpamaaGreatDoor
/- Long division in base 256: the digits of a number as a list,one digit set,the steps of the loops. Plain Lean. -/
def digs (X M:Nat):List Nat:=(List.range M).map fun i=>X / 256^i%256
def setd (X p v:Nat):Nat:=X / 256^(p+1)*256^(p+1)+v*256^p+X%256^p
theorem p256 (k:Nat):0<256^k:=Nat.pow_pos (by decide)
theorem digs_len (X M:Nat):(digs X M).length=M:=by simp [digs]
theorem digs_get (X M i:Nat) (h:i<(digs X M).length):(digs X M)[i]=X / 256^i%256:=by simp [digs]
theorem digs_get? (X M i:Nat) (h:i<M):(digs X M)[i]?=some (X / 256^i%256):=by simp [digs,h]
theorem digs_zero (M:Nat):digs 0 M=List.replicate M 0:=by
 refine List.ext_getElem (by simp [digs]) fun i h1 h2=>?_
 simp [digs]
theorem dig_parts (X p:Nat):X=X / 256^(p+1)*256^(p+1)+X / 256^p%256*256^p+X%256^p:=by
 have h1:=Nat.div_add_mod X (256^(p+1));have h2:=mod_succ X p;rw [Nat.mul_comm] at h1;omega
theorem setd_eq (X p v:Nat):setd X p v+X / 256^p%256*256^p=X+v*256^p:=by
 have:=dig_parts X p;unfold setd;omega
theorem dig_low (A p L i:Nat) (h:i<p):(A*256^p+L) / 256^i%256=L / 256^i%256:=by
 obtain ⟨d,rfl⟩:∃d,p=i+1+d:=⟨p-i-1,by omega⟩;rw [show A*256^(i+1+d)+L=L+256^i*(256*(256^d*A)) by rw [Nat.pow_add,Nat.pow_add,Nat.pow_one];rw [Nat.add_comm];congr 1;rw [Nat.mul_comm A,Nat.mul_assoc,Nat.mul_assoc],Nat.add_mul_div_left _ _ (p256 i),Nat.add_mul_mod_self_left]
theorem dig_high (A p L i:Nat) (h:p≤i) (hL:L<256^p):(A*256^p+L) / 256^i=A / 256^(i-p):=by
 obtain ⟨d,rfl⟩:∃d,i=p+d:=⟨i-p,by omega⟩;rw [Nat.pow_add,←Nat.div_div_eq_div_mul,Nat.add_comm,Nat.add_mul_div_right _ _ (p256 p),Nat.div_eq_of_lt hL,Nat.zero_add,Nat.add_sub_cancel_left]
theorem low_lt (v r p:Nat) (hv:v<256) (hr:r<256^p):v*256^p+r<256^(p+1):=by
 have:(v+1)*256^p≤256*256^p:=Nat.mul_le_mul_right _ hv;rw [Nat.add_mul,Nat.one_mul] at this;rw [Nat.pow_succ,Nat.mul_comm (256^p)];omega
theorem setd_div (X p v M:Nat) (hv:v<256) (h:p<M):setd X p v / 256^M=X / 256^M:=by
 have hr:X%256^p<256^p:=Nat.mod_lt _ (p256 p)
 have e1:setd X p v / 256^M=X / 256^(p+1) / 256^(M-(p+1)):=by
  unfold setd;rw [Nat.add_assoc,dig_high _ (p+1) _ M (by omega) (low_lt v _ p hv hr)]
 rw [e1,Nat.div_div_eq_div_mul,←Nat.pow_add,show p+1+(M-(p+1))=M by omega]
theorem setd_dig (X p v i:Nat) (hv:v<256):setd X p v / 256^i%256=if i=p then v else X / 256^i%256:=by
 have hr:X%256^p<256^p:=Nat.mod_lt _ (p256 p);by_cases h:i=p
 ·subst h;rw [if_pos rfl];unfold setd
  rw [show X / 256^(i+1)*256^(i+1)+v*256^i+X%256^i=(X / 256^(i+1)*256+v)*256^i+X%256^i by rw [Nat.add_mul,Nat.pow_succ,Nat.mul_comm (256^i) 256,Nat.mul_assoc],
   dig_high _ _ _ _ (Nat.le_refl _) hr,Nat.sub_self,Nat.pow_zero,Nat.div_one,Nat.add_comm,Nat.mul_comm,Nat.add_mul_mod_self_left,Nat.mod_eq_of_lt hv]
 ·rw [if_neg h];rcases Nat.lt_or_gt_of_ne h with h1 | h1
  ·have e1:setd X p v / 256^i%256=X%256^p / 256^i%256:=by
    unfold setd;rw [show X / 256^(p+1)*256^(p+1)+v*256^p+X%256^p=(X / 256^(p+1)*256+v)*256^p+X%256^p by rw [Nat.add_mul,Nat.pow_succ,Nat.mul_comm (256^p) 256,Nat.mul_assoc],dig_low _ _ _ _ h1]
   have e2:X / 256^i%256=X%256^p / 256^i%256:=by
    conv=>lhs;rw [show X=X / 256^p*256^p+X%256^p by have:=Nat.div_add_mod X (256^p);rw [Nat.mul_comm] at this;omega]
    rw [dig_low _ _ _ _ h1]
   rw [e1,e2]
  ·rw [setd_div X p v i hv h1]
theorem digs_set (X p v M:Nat) (hv:v<256):(digs X M).set p v=digs (setd X p v) M:=by
 refine List.ext_getElem (by simp [digs]) fun i h1 h2=>?_
 rw [List.getElem_set,digs_get,digs_get,setd_dig X p v i hv];by_cases h:p=i
 ·rw [if_pos h,if_pos h.symm]
 ·rw [if_neg h,if_neg (fun e=>h e.symm)]
theorem setd_fill (X k:Nat):setd (X%256^k) k (X / 256^k%256)=X%256^(k+1):=by
 have h1:=setd_eq (X%256^k) k (X / 256^k%256);rw [Nat.div_eq_of_lt (Nat.mod_lt _ (p256 k)),Nat.zero_mod,Nat.zero_mul,Nat.add_zero] at h1;rw [h1,mod_succ];omega
theorem shl_dig0 (x s:Nat):x*2^s / 256^0%256=x%256*2^s%256:=by
 rw [Nat.pow_zero,Nat.div_one,Nat.mod_mul_mod]
theorem two8 {s:Nat} (hs:s≤7):2^(8-s)*2^s=256:=by
 rw [←Nat.pow_add,show 8-s+s=8 by omega]
theorem shl_dig (x s k:Nat) (hs:s≤7):x*2^s / 256^(k+1)%256=x / 256^(k+1)%256*2^s%256+x / 256^k%256 / 2^(8-s):=by
 have h8:=two8 hs;have hp:0<2^s:=Nat.pow_pos (by decide);have hq:0<2^(8-s):=Nat.pow_pos (by decide)
 have e1:x*2^s / 256^(k+1)=x / 256^k / 2^(8-s):=by
  rw [Nat.pow_succ,show 256^k*256=256^k*2^(8-s)*2^s by rw [Nat.mul_assoc,h8],Nat.mul_div_mul_right _ _ hp,Nat.div_div_eq_div_mul]
 have e2:x / 256^(k+1)=x / 256^k / 256:=by rw [Nat.pow_succ,Nat.div_div_eq_div_mul]
 rw [e1,e2];generalize x / 256^k=y
 have h1:y=y%256+2^(8-s)*(2^s*(y / 256)):=by
  have:=Nat.mod_add_div y 256;rw [←Nat.mul_assoc,h8];omega
 have h2:y / 2^(8-s)=y%256 / 2^(8-s)+2^s*(y / 256):=by
  conv=>lhs;rw [h1]
  rw [Nat.add_mul_div_left _ _ hq]
 have h3:y%256 / 2^(8-s)<2^s:=by
  rw [Nat.div_lt_iff_lt_mul hq,Nat.mul_comm,h8];exact Nat.mod_lt _ (by decide)
 rw [h2,Nat.mod_mul_mod,Nat.mul_comm (y / 256)];generalize y%256 / 2^(8-s)=r at h3
 have h4:2^s*(y / 256)%256=2^s*(y / 256%2^(8-s)):=by
  have:(256:Nat)=2^s*2^(8-s):=by rw [Nat.mul_comm,h8]
  conv=>lhs;arg 2;rw [this]
  rw [Nat.mul_mod_mul_left]
 have h5:2^s*(y / 256%2^(8-s))+2^s≤256:=by
  have:=Nat.mod_lt (y / 256) hq;have h6:2^s*(y / 256%2^(8-s)+1)≤2^s*2^(8-s):=Nat.mul_le_mul_left _ this;rw [Nat.mul_add,Nat.mul_one,Nat.mul_comm (2^s) (2^(8-s)),h8] at h6;exact h6
 rw [Nat.add_mod,h4,Nat.mod_eq_of_lt (a:=r) (by omega),Nat.mod_eq_of_lt (by omega)];omega
theorem shl_or (x y s:Nat) (hs:s≤7):(x%256*2^s%256) ||| (y%256 / 2^(8-s))=x%256*2^s%256+y%256 / 2^(8-s):=by
 have h8:=two8 hs;have hq:0<2^(8-s):=Nat.pow_pos (by decide)
 have h3:y%256 / 2^(8-s)<2^s:=by
  rw [Nat.div_lt_iff_lt_mul hq,Nat.mul_comm,h8];exact Nat.mod_lt _ (by decide)
 have h4:x%256*2^s%256=2^s*(x%256%2^(8-s)):=by
  have:(256:Nat)=2^s*2^(8-s):=by rw [Nat.mul_comm,h8]
  conv=>lhs;rw [Nat.mul_comm (x%256)]
  conv=>lhs;arg 2;rw [this]
  rw [Nat.mul_mod_mul_left]
 rw [h4,Nat.two_pow_add_eq_or_of_lt h3]
theorem ld_sub (X D Y j k g c t x' t':Nat) (h:Y+g*(D%256^k)*256^j=X+(c+t)*256^(j+k))
  (hx:x'+(c+g*(D / 256^k%256))%256+t=Y / 256^(j+k)%256+256*t') :
  setd Y (j+k) x'+g*(D%256^(k+1))*256^j=X+((c+g*(D / 256^k%256)) / 256+t')*256^(j+(k+1)):=by
 have h1:=setd_eq Y (j+k) x';have h2:=Nat.div_add_mod (c+g*(D / 256^k%256)) 256;have h3:=mod_succ D k;generalize (c+g*(D / 256^k%256)) / 256=c1 at *;generalize (c+g*(D / 256^k%256))%256=c0 at *;generalize Y / 256^(j+k)%256=y at *;generalize D / 256^k%256=d at *;rw [h3,show j+(k+1)=j+k+1 by omega,Nat.pow_succ]
 have e1:g*(d*256^k+D%256^k)*256^j=g*d*256^(j+k)+g*(D%256^k)*256^j:=by
  rw [Nat.mul_add,Nat.add_mul,Nat.pow_add,←Nat.mul_assoc,Nat.mul_assoc (g*d),Nat.mul_comm (256^k)]
 rw [e1];generalize g*(D%256^k)*256^j=G at *;generalize 256^(j+k)=P at *;have e2:(x'+c+g*d+t)*P=(y+256*t'+256*c1)*P:=by congr 1;omega
 rw [Nat.mul_comm P 256,show (c1+t')*(256*P)=(256*(c1+t'))*P by rw [Nat.mul_comm 256 (c1+t'),Nat.mul_assoc]];simp only [Nat.add_mul,Nat.mul_add] at *;omega
theorem ld_add (Y0 D Y j k c:Nat) (h:Y+c*256^(j+k)=Y0+D%256^k*256^j) :
  setd Y (j+k) ((c+(Y / 256^(j+k)%256+D / 256^k%256))%256)+(c+(Y / 256^(j+k)%256+D / 256^k%256)) / 256*256^(j+(k+1))=Y0+D%256^(k+1)*256^j:=by
 generalize hv:c+(Y / 256^(j+k)%256+D / 256^k%256)=v;have h1:=setd_eq Y (j+k) (v%256);have h2:=Nat.div_add_mod v 256;have h3:=mod_succ D k;generalize v / 256=c1 at *;generalize v%256=c0 at *;generalize Y / 256^(j+k)%256=y at *;generalize D / 256^k%256=d at *;rw [h3,show j+(k+1)=j+k+1 by omega,Nat.pow_succ]
 have e1:(d*256^k+D%256^k)*256^j=d*256^(j+k)+D%256^k*256^j:=by
  rw [Nat.add_mul,Nat.pow_add,Nat.mul_assoc,Nat.mul_comm (256^k)]
 rw [e1];generalize D%256^k*256^j=G at *;generalize 256^(j+k)=P at *;have e2:(c+(y+d))*P=(256*c1+c0)*P:=by congr 1;omega
 rw [Nat.mul_comm P 256,show c1*(256*P)=(256*c1)*P by rw [Nat.mul_comm 256 c1,Nat.mul_assoc]];simp only [Nat.add_mul] at *;omega
theorem ld_guess (X D j n:Nat) (hn:0<n) (hD:0<D / 256^(n-1)) (hX:X<D*256^(j+1)) :
  X<(min (X / 256^(j+n-1) / (D / 256^(n-1))) 255+1)*(D*256^j):=by
 have hD0:0<D:=by
  rcases Nat.eq_zero_or_pos D with h | h
  ·subst h;simp at hD
  ·exact h
 have hW:0<D*256^j:=Nat.mul_pos hD0 (p256 j);rw [←Nat.div_lt_iff_lt_mul hW]
 have h1:X / (D*256^j)≤255:=by
  have:X / (D*256^j)<256:=by
   rw [Nat.div_lt_iff_lt_mul hW];rw [Nat.pow_succ] at hX;rw [show 256*(D*256^j)=D*(256^j*256) by rw [Nat.mul_comm 256,Nat.mul_assoc]];exact hX
  omega
 have h2:X / (D*256^j)≤X / 256^(j+n-1) / (D / 256^(n-1)):=by
  rw [Nat.div_div_eq_div_mul];refine Nat.div_le_div_left ?_ (Nat.mul_pos (p256 _) hD);rw [show j+n-1=j+(n-1) by omega,Nat.pow_add,Nat.mul_assoc,Nat.mul_comm D,Nat.mul_comm (256^(n-1))];exact Nat.mul_le_mul_left _ (Nat.div_mul_le_self _ _)
 have:=Nat.le_min.2 ⟨h2,h1⟩;omega
theorem dig_two (X p:Nat) (h:X<256^(p+2)):X / 256^p=X / 256^(p+1)%256*256+X / 256^p%256:=by
 have e:X / 256^(p+1)=X / 256^p / 256:=by rw [Nat.pow_succ,Nat.div_div_eq_div_mul]
 have h2:X / 256^(p+1)<256:=by
  rw [Nat.div_lt_iff_lt_mul (p256 _),show 256*256^(p+1)=256^(p+2) by rw [Nat.pow_succ 256 (p+1),Nat.mul_comm]];exact h
 rw [Nat.mod_eq_of_lt h2,e];have:=Nat.div_add_mod (X / 256^p) 256;omega
theorem or8 (u v:Nat) (hv:v<256):(u*256) ||| v=u*256+v:=by
 have:=Nat.two_pow_add_eq_or_of_lt (i:=8) (show v<2^8 by omega) u;rw [Nat.mul_comm u 256];exact this.symm
theorem ld_neg (Y X G W M u:Nat) (T:Int) (hY:Y / M=u) (h:(Y:Int)+(T-u)*M=X-G*W) (hM:0<M) (hT:T<0):X<G*W:=by
 have h1:=Nat.div_add_mod Y M;have h2:=Nat.mod_lt Y hM;rw [hY] at h1;have h3:(Y:Int)=(M:Int)*(u:Int)+(Y%M:Nat):=by rw [←Int.natCast_mul];omega
 have h4:T*(M:Int)≤-1*(M:Int):=Int.mul_le_mul_of_nonneg_right (by omega) (by omega);rw [Int.sub_mul,Int.mul_comm (u:Int)] at h;have h5:(X:Int)<((G*W:Nat):Int):=by rw [Int.natCast_mul];omega
 exact Int.ofNat_lt.1 h5
theorem ld_exit (Y X G W M u:Nat) (T:Int) (hY:Y / M=u) (h:(Y:Int)+(T-u)*M=X-G*W) (hX:X<(G+1)*W) (hW:W≤M) (hM:0<M) (hT:¬ T<0):T=0∧G*W≤X∧Y%M=X-G*W:=by
 have h1:=Nat.div_add_mod Y M;rw [hY] at h1;have h3:(Y:Int)=(M:Int)*(u:Int)+(Y%M:Nat):=by rw [←Int.natCast_mul];omega
 rw [Int.sub_mul,Int.mul_comm (u:Int)] at h;rw [Nat.add_mul,Nat.one_mul] at hX;have h5:((G*W:Nat):Int)=(G:Int)*(W:Int):=Int.natCast_mul _ _
 have hT0:T=0:=by
  apply Classical.byContradiction
  intro hn;have h4:1*(M:Int)≤T*(M:Int):=Int.mul_le_mul_of_nonneg_right (by omega) (by omega);omega
 subst hT0;rw [Int.zero_mul] at h;refine ⟨rfl,?_,?_⟩ <;> omega
theorem setd_top (Y p u:Nat) (hY:Y / 256^p=u) (hu:u<256):setd Y p 0=Y%256^p:=by
 unfold setd;rw [Nat.pow_succ,←Nat.div_div_eq_div_mul,hY,Nat.div_eq_of_lt hu];omega
theorem ld_back (Y Y' X G W M u c:Nat) (T:Int) (h:(Y:Int)+(T-u)*M=X-G*W) (h0:0<G) (hb:Y'+c*M=Y+W):(Y':Int)+((T+c)-u)*M=X-((G-1:Nat):Int)*W:=by
 have e1:((G-1:Nat):Int)=(G:Int)-1:=by omega
 have e2:(Y':Int)+(c:Int)*(M:Int)=(Y:Int)+(W:Int):=by rw [←Int.natCast_mul];omega
 rw [e1];simp only [Int.sub_mul,Int.add_mul,Int.one_mul] at *;omega
theorem ld_first (Y X G W M u c t:Nat) (h:Y+G*W=X+(c+t)*M):(Y:Int)+(((u:Int)-c-t)-u)*M=X-G*W:=by
 have e:(Y:Int)+(G:Int)*(W:Int)=(X:Int)+((c:Int)+(t:Int))*(M:Int):=by rw [←Int.natCast_mul,←Int.natCast_add,←Int.natCast_add,←Int.natCast_mul,←Int.natCast_add];exact congrArg _ h
 simp only [Int.sub_mul,Int.add_mul] at *;omega
theorem ld_next (l:Nat) (A D X G j:Nat) (hv:l*(256^(j+1)*D)+X=A) (hg:G*(D*256^j)≤X):(l*256+G)*(256^j*D)+(X-G*(D*256^j))=A:=by
 rw [Nat.add_mul,Nat.mul_comm D] at *;have e:l*256*(256^j*D)=l*(256^(j+1)*D):=by rw [Nat.pow_succ,Nat.mul_comm (256^j) 256,Nat.mul_assoc,Nat.mul_assoc]
 rw [e];omega
theorem ld_end (v a b s X:Nat) (h:v*(b*2^s)+X=a*2^s) (hX:X<b*2^s):v=a / b∧X / 2^s=a%b:=by
 have hs:0<2^s:=Nat.pow_pos (by decide);obtain ⟨k1,k2⟩:=kn_scale a b (2^s) hs;have hD:0<b*2^s:=by omega
 have e1:a*2^s / (b*2^s)=v:=by
  rw [←h,Nat.add_comm,Nat.add_mul_div_right _ _ hD,Nat.div_eq_of_lt hX,Nat.zero_add]
 have e2:a*2^s%(b*2^s)=X:=by
  rw [←h,Nat.add_comm,Nat.add_mul_mod_self_right,Nat.mod_eq_of_lt hX]
 rw [e1] at k1;rw [e2] at k2;exact ⟨k1,k2⟩
theorem shr_dig (X s k:Nat) (hs:s≤7):((X / 256^k%256) ||| (X / 256^(k+1)%256*256)) / 2^s%256=X / 2^s / 256^k%256:=by
 rw [Nat.or_comm,or8 _ _ (Nat.mod_lt _ (by decide))];have e:X / 2^s / 256^k=X / 256^k / 2^s:=by rw [Nat.div_div_eq_div_mul,Nat.div_div_eq_div_mul,Nat.mul_comm]
 rw [e,Nat.pow_succ,←Nat.div_div_eq_div_mul];generalize X / 256^k=y;have h8:=two8 hs;have hp:0<2^s:=Nat.pow_pos (by decide)
 have h1:y=(y / 256%256*256+y%256)+2^s*(256*(2^(8-s)*(y / 256 / 256))):=by
  rw [show 2^s*(256*(2^(8-s)*(y / 256 / 256)))=256*256*(y / 256 / 256) by rw [Nat.mul_left_comm,←Nat.mul_assoc (2^s),Nat.mul_comm (2^s),h8,Nat.mul_assoc]];omega
 conv=>rhs;rw [h1]
 rw [Nat.add_mul_div_left _ _ hp,Nat.add_mul_mod_self_left]
end Go.Proofs.YtdoacbdkbbpamaaGreatDoor
