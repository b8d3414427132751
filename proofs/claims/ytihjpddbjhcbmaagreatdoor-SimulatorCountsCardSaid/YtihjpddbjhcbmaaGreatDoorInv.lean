import Derived.Test.YtihjpddbjhcbmaaGreatDoorRInt6
set_option linter.unusedVariables false
set_option linter.unusedSimpArgs false
set_option maxRecDepth 100000
set_option maxHeartbeats 16000000
namespace Go.Proofs.YtihjpddbjhcbmaaGreatDoor
/- Inverses modulo a number. Plain Lean. -/
def invN (a m:Nat):Nat:=((bz m a m).1%(m:Int)).toNat
theorem invN_lt (a m:Nat) (h:0<m):invN a m<m:=by
 unfold invN;have h1:=Int.emod_lt_of_pos (bz m a m).1 (show (0:Int)<(m:Int) by omega);have h2:=Int.emod_nonneg (bz m a m).1 (show (m:Int)≠0 by omega);omega
theorem mul_mod_of_bez (a m z:Nat) (x y:Int) (h:0<m) (hb:(a:Int)*x+(m:Int)*y=1) (hz:(z:Int)%(m:Int)=x%(m:Int)):a*z%m=1%m:=by
 have h1:((a*z:Nat):Int)%(m:Int)=1%(m:Int):=by
  rw[Int.natCast_mul,Int.mul_emod,hz,←Int.mul_emod];have:(a:Int)*x=1-(m:Int)*y:=by omega
  rw[this,Int.sub_mul_emod_self_left]
 have h2:((a*z%m:Nat):Int)=((1%m:Nat):Int):=by
  rw[Int.natCast_emod,h1];rfl
 exact Int.ofNat_inj.1 h2
theorem invN_spec (a m:Nat) (h:0<m) (hg:Nat.gcd a m=1):a*invN a m%m=1%m:=by
 have hb:=(bz_spec m a m (Nat.le_refl _)).1;rw[hg]at hb;refine mul_mod_of_bez a m _ _ _ h hb ?_;unfold invN;have h2:=Int.emod_nonneg (bz m a m).1 (show (m:Int)≠0 by omega);rw[Int.toNat_of_nonneg h2,Int.emod_emod_of_dvd _ (Int.dvd_refl _)]
theorem inv_unique (a m z z':Nat) (h1:a*z%m=1%m) (h2:a*z'%m=1%m) (hz:z<m) (hb:z'<m):z=z':=by
 have e:z*(a*z')%m=z'*(a*z)%m:=by
  congr 1
  rw[←Nat.mul_assoc,←Nat.mul_assoc,Nat.mul_comm z a,Nat.mul_comm z' a,Nat.mul_assoc,Nat.mul_assoc,Nat.mul_comm z z']
 rw[Nat.mul_mod,h2,Nat.mul_mod z' (a*z),h1,←Nat.mul_mod,←Nat.mul_mod,Nat.mul_one,Nat.mul_one,Nat.mod_eq_of_lt hz,Nat.mod_eq_of_lt hb]at e;exact e
theorem inv_eq (a m z:Nat) (h:0<m) (hg:Nat.gcd a m=1) (hz:z<m) (h1:a*z%m=1%m):z=invN a m:=
 inv_unique a m z _ h1 (invN_spec a m h hg) hz (invN_lt a m h)
end Go.Proofs.YtihjpddbjhcbmaaGreatDoor
