import Derived.Test.YtcfjcenmcpankaaGreatDoorBase
set_option linter.unusedVariables false
set_option linter.unusedSimpArgs false
set_option maxRecDepth 100000
set_option maxHeartbeats 16000000
namespace Go.Proofs.YtcfjcenmcpankaaGreatDoor
open Go.RowKit
def slcLen:Value→Nat | .slice _ n _=>n | _=>0
theorem trim_step (l:List UInt8) (k:Nat) (h:k<l.length) (hz:(l[k].toNat:Int)=0) (hv:val (l.drop k)=val l):val (l.drop (k+1))=val l:=by
 rw [←hv,List.drop_eq_getElem_cons h,val_cons];have:l[k].toNat=0:=by omega
 simp [this]
theorem trim_end (l:List UInt8) (k:Nat) (hc:canon (l.drop k)) (hv:val (l.drop k)=val l):(⟨(l.drop k).toArray⟩:ByteArray)=E (val l):=by
 rw [←hv,E,enc_of_val _ hc]
theorem canon_drop (l:List UInt8) (k:Nat) (h:k<l.length) (hz:(l[k].toNat:Int)≠0):canon (l.drop k):=by
 rw [List.drop_eq_getElem_cons h];simp only [canon,List.head?_cons,ne_eq,Option.some.injEq];intro e;exact hz (by rw [e];rfl)
set_option maxRecDepth 100000 in
theorem trimmed_c (b o c:Nat) (l:List UInt8) (w:World) (hc:l.length≤c) (hm:c≤4611686018427387904) (hrow:Row w b o l) :
  Calls Tryz.prog 136 #[.slice (some ⟨b,o,none⟩) l.length c] w fun e w'=>e=.returned (.string (E (val l)))∧w=w':=by
 go_enter Tryz.func136,Tryz.ntmps136
 go_wp2;go_loop [0] (fun v=>∃k o',k≤l.length∧v=.slice (some ⟨b,o',none⟩) (l.length-k:Nat) (c-k)∧(k<l.length→o'=o+k)∧val (l.drop k)=val l) (fun v=>slcLen v)
 case atStart=>exact ⟨0,o,Nat.zero_le _,rfl,fun _=>rfl,rfl⟩
 case round =>
  obtain ⟨k,o',hk,rfl,ho,hv⟩:=hrel;have HV:=Lib.hid hv;clear hv;by_cases hlt:k<l.length
  ·obtain rfl:=ho hlt;have hcell:=hrow k hlt;have hcv:=(hrow.drop k).string (c:=c-k);rw [List.length_drop] at hcv;have HR:=Lib.hid hrow;clear hrow;have hz:0≤(l[k].toNat:Int)∧(l[k].toNat:Int)≤255:=by have:=l[k].toNat_lt;omega
   generalize hzz:(l[k].toNat:Int)=z at hcell hz;have HZ:=Lib.hid hzz;clear hzz;obtain ⟨hz1,hz2⟩:=hz;clear ho;by_cases hz0:z=0
   ·have hzb:(z==0)=true:=by simp [hz0]
    have HZ0:=Lib.hid hz0;clear hz0;go_wp2;go_round
    case rel =>
     have e:=trim_step l k hlt (HZ.out.trans HZ0.out) HV.out;by_cases h1:c-k=1
     ·rw [if_pos h1];exact ⟨k+1,_,by omega,rfl,by omega,e⟩
     ·rw [if_neg h1];exact ⟨k+1,_,by omega,rfl,fun _=>by omega,e⟩
    case measure=>simp [slcLen];omega
   ·have hzb:(z==0)=false:=by simp [hz0]
    have HZ0:=Lib.hid hz0;clear hz0;go_wp2;go_ret
    exact ⟨rs (trim_end l k (canon_drop l k hlt (by rw [HZ.out];exact HZ0.out)) HV.out),rfl⟩
  ·obtain rfl:k=l.length:=by omega
   have hcv:(convert 134 22 (.slice (some ⟨b,o',none⟩) 0 (c-l.length))).run Tryz.prog w=.ok (.string ⟨#[]⟩) w:=Row.string (l:=[]) (fun j h=>by simp at h);have e0:l.length-l.length=0:=by omega
   rw [e0];have HE:Hid (E (val l)=⟨#[]⟩):=by rw [←HV.out];simp [Hid,val,E,enc_zero]
   go_wp2;go_ret
   exact ⟨rs HE.out.symm,rfl⟩
end Go.Proofs.YtcfjcenmcpankaaGreatDoor
