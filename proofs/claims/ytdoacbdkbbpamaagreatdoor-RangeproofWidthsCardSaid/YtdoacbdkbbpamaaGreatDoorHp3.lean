import Derived.Test.YtdoacbdkbbpamaaGreatDoorHp1
import Derived.Deep.RegionHeld3
import Derived.Deep.CutBlock
import Derived.Deep.DeepCutAuto
import Derived.Deep.WholeRow
import Derived.Great.BuildSlice
set_option linter.unusedVariables false
set_option linter.unusedSimpArgs false
set_option maxRecDepth 100000
set_option maxHeartbeats 16000000
namespace Go.Proofs.YtdoacbdkbbpamaaGreatDoor
section
/- one step of Knuth's division with two digits,in natural numbers -/
section
variable {B Y Y1 Y0 U D q r:Nat}
theorem kn_lt (hY:Y=Y1*B+Y0) (hU:U<Y) (hD:D<B):(U*B+D) / Y<B:=by
 rw [Nat.div_lt_iff_lt_mul (by omega)];have:(U+1)*B≤Y*B:=Nat.mul_le_mul_right B hU;have h2:(U+1)*B=U*B+B:=by rw [Nat.add_mul,Nat.one_mul]
 have h3:B*Y=Y*B:=Nat.mul_comm _ _;omega
theorem kn_le (hY:Y=Y1*B+Y0) (hY1:0<Y) (hq:q*Y1+r=U) (h:q*Y0≤B*r+D):q≤(U*B+D) / Y:=by
 rw [Nat.le_div_iff_mul_le hY1,hY,Nat.mul_add,←Nat.mul_assoc,←hq,Nat.add_mul,Nat.mul_comm r B];omega
theorem kn_gt (hY:Y=Y1*B+Y0) (hY1:0<Y) (hq:q*Y1+r=U) (h:B*r+D<q*Y0):(U*B+D) / Y<q:=by
 rw [Nat.div_lt_iff_lt_mul hY1,hY,Nat.mul_add,←Nat.mul_assoc,←hq,Nat.add_mul,Nat.mul_comm r B];omega
theorem kn_start (hY:Y=Y1*B+Y0) (h1:0<Y1) (h0:Y0<B):(U*B+D) / Y≤(U*B+D) / (Y1*B):=
 Nat.div_le_div_left (by omega) (Nat.mul_pos h1 (by omega))
theorem kn_first (hY:Y=Y1*B+Y0) (h1:0<Y1) (h0:Y0<B) (hD:D<B):(U*B+D) / Y≤U / Y1:=by
 refine Nat.le_trans (kn_start hY h1 h0) ?_;rw [Nat.mul_comm Y1 B,←Nat.div_div_eq_div_mul,Nat.mul_comm U B,Nat.mul_add_div (by omega),Nat.div_eq_of_lt hD,Nat.add_zero];exact Nat.le_refl _
theorem kn_break (hY:Y=Y1*B+Y0) (h0:Y0<B) (hU:U<Y) (hq:q*Y1+r=U) (hr:B≤r):q*Y0≤B*r+D:=by
 have h1:q*Y1<B*Y1:=by rw [Nat.mul_comm B Y1];omega
 have h2:q<B:=Nat.lt_of_mul_lt_mul_right h1;have h3:q*Y0≤B*Y0:=Nat.mul_le_mul_right _ (by omega);have h4:B*Y0≤B*r:=Nat.mul_le_mul_left _ (by omega);omega
theorem kn_down (hq:q*Y1+r=U) (h:0<q):(q-1)*Y1+(r+Y1)=U:=by
 have:q=q-1+1:=by omega
 rw [this,Nat.add_mul,Nat.one_mul] at hq;omega
end
theorem kn_two (n0 n1 n2 Y B:Nat) (hY:0<Y) :
  ((n0*B+n1)*B+n2) / Y=(n0*B+n1) / Y*B+((n0*B+n1)%Y*B+n2) / Y:=by
 have h:=Nat.div_add_mod (n0*B+n1) Y
 have:(n0*B+n1)*B+n2=Y*((n0*B+n1) / Y*B)+((n0*B+n1)%Y*B+n2):=by
  conv=>lhs;rw [←h]
  rw [Nat.add_mul,Nat.mul_assoc,Nat.add_assoc]
 rw [this,Nat.mul_add_div hY]
theorem kn_two_mod (n0 n1 n2 Y B:Nat) (hY:0<Y) :
  ((n0*B+n1)*B+n2)%Y=((n0*B+n1)%Y*B+n2)%Y:=by
 have h:=Nat.div_add_mod (n0*B+n1) Y
 have:(n0*B+n1)*B+n2=Y*((n0*B+n1) / Y*B)+((n0*B+n1)%Y*B+n2):=by
  conv=>lhs;rw [←h]
  rw [Nat.add_mul,Nat.mul_assoc,Nat.add_assoc]
 rw [this,Nat.mul_add_mod]
theorem kn_scale (N y t:Nat) (ht:0<t):(N*t) / (y*t)=N / y∧(N*t)%(y*t) / t=N%y:=by
 refine ⟨Nat.mul_div_mul_right _ _ ht,?_⟩;rw [Nat.mul_mod_mul_right,Nat.mul_div_cancel _ ht]
end
section
open Go.RowKit Go.Shelf
theorem or4 (a b c d:Nat) (ha:a<256) (hb:b<256) (hc:c<256) (hd:d<256) :
  bits .or .u32 (bits .or .u32 (bits .or .u32 ((a:Int)*16777216%4294967296) ((b:Int)*65536%4294967296)) ((c:Int)*256%4294967296)) (d:Int)=((((a*256+b)*256+c)*256+d:Nat):Int):=by
 have s1:a*16777216 ||| b*65536=(a*256+b)*65536:=by
  have h:=Nat.shiftLeft_add_eq_or_of_lt (b:=b*65536) (i:=24) (by omega) a;rw [Nat.shiftLeft_eq,show (2:Nat)^24=16777216 from rfl] at h;rw [←h];omega
 have s2:(a*256+b)*65536 ||| c*256=((a*256+b)*256+c)*256:=by
  have h:=Nat.shiftLeft_add_eq_or_of_lt (b:=c*256) (i:=16) (by omega) (a*256+b);rw [Nat.shiftLeft_eq,show (2:Nat)^16=65536 from rfl] at h;rw [←h];omega
 have s3:((a*256+b)*256+c)*256 ||| d=((a*256+b)*256+c)*256+d:=by
  have h:=Nat.shiftLeft_add_eq_or_of_lt (b:=d) (i:=8) (by omega) ((a*256+b)*256+c);rw [Nat.shiftLeft_eq,show (2:Nat)^8=256 from rfl] at h;rw [←h]
 rw [show (a:Int)*16777216%4294967296=((a*16777216:Nat):Int) by omega,show (b:Int)*65536%4294967296=((b*65536:Nat):Int) by omega,show (c:Int)*256%4294967296=((c*256:Nat):Int) by omega,
  u32_or_nat _ _ (by omega) (by omega),s1,u32_or_nat _ _ (by omega) (by omega),s2,u32_or_nat _ _ (by omega) (by omega),s3]
theorem bigN4 (s:ByteArray) (o:Nat):bigN s o 4=((byt s o*256+byt s (o+1))*256+byt s (o+2))*256+byt s (o+3):=by
 show (((0*256+byt s (o+0))*256+byt s (o+1))*256+byt s (o+2))*256+byt s (o+3)=_;rw [Nat.add_zero,Nat.zero_mul,Nat.zero_add]
def BytA (w:World) (b o:Nat) (s:ByteArray):Prop:=b<w.heap.size∧∀j,j<s.size→w.cell? ⟨b,o+j,none⟩=some (.int .u8 (byt s j:Nat))
theorem BytA.after {w w':World} {b o:Nat} {s:ByteArray} (h:BytA w b o s) (hb:Below w.heap.size w w'):BytA w' b o s:=
 ⟨Nat.lt_of_lt_of_le h.1 hb.size,fun j hj=>(hb.cell (p:=⟨b,o+j,none⟩) h.1).trans (h.2 j hj)⟩
theorem BytA.set {w:World} {b o:Nat} {s:ByteArray} (h:BytA w b o s) (g i:Nat) (v:Value) (hne:b≠g):BytA (w.setCell ⟨g,i,none⟩ v).drew b o s:=
 ⟨by show b<(w.setCell _ _).heap.size;rw [World.size_setCell];exact h.1,fun j hj=>by show (w.setCell _ _).cell? _=_;rw [World.cell?_setCell_other _ _ _ _ (fun e=>hne (congrArg Addr.block e).symm)];exact h.2 j hj⟩
theorem gclH {w:World} {a:Addr} {v:Value} (hb:a.block<w.heap.size) (h:w.cell? a=some v):∀x:GW w,(Proofs.YtdoacbdkbbpamaaGreatDoor.gw x).cell? a=some v:=fun x=>((gw_below x).cell hb).trans h
theorem size_w64 (F:Nat→Int):(Tryz.prog.info? 216).map (·.size)=some (u32f F 64).toArray.size:=by
 rw [show (u32f F 64).toArray.size=64 by simp [u32f]];kernel_rfl
theorem u32f_one (F:Nat→Int) (n:Nat):(u32f F n).toArray.all (·.oneCell')=true:=by
 rw [Array.all_eq_true];intro i hi;simp [u32f,Value.oneCell']
theorem setRow_below {B:Nat} {w0 w:World} {g:Nat} {cs:Array Value} (h:Below B w0 w) (hg:B≤g):Below B w0 (w.setRow g cs):=
 h.trans ⟨rfl,rfl,rfl,by simp,fun k hk=>setRow_other _ _ _ _ (by omega)⟩
theorem setRow_blk {w:World} {g:Nat} {T:TypeId} {cs:Array Value} {old:List Value} (h:Blk w g T old):Blk (w.setRow g cs) g T cs.toList:=by
 have h1:=setRow_heap w g _ cs T (0,0) h;exact h1
abbrev Z64:Array Value:=#[.int .u32 0,.int .u32 0,.int .u32 0,.int .u32 0,.int .u32 0,.int .u32 0,.int .u32 0,.int .u32 0,.int .u32 0,.int .u32 0,.int .u32 0,.int .u32 0,.int .u32 0,.int .u32 0,.int .u32 0,.int .u32 0,.int .u32 0,.int .u32 0,.int .u32 0,.int .u32 0,.int .u32 0,.int .u32 0,.int .u32 0,.int .u32 0,.int .u32 0,.int .u32 0,.int .u32 0,.int .u32 0,.int .u32 0,.int .u32 0,.int .u32 0,.int .u32 0,.int .u32 0,.int .u32 0,.int .u32 0,.int .u32 0,.int .u32 0,.int .u32 0,.int .u32 0,.int .u32 0,.int .u32 0,.int .u32 0,.int .u32 0,.int .u32 0,.int .u32 0,.int .u32 0,.int .u32 0,.int .u32 0,.int .u32 0,.int .u32 0,.int .u32 0,.int .u32 0,.int .u32 0,.int .u32 0,.int .u32 0,.int .u32 0,.int .u32 0,.int .u32 0,.int .u32 0,.int .u32 0,.int .u32 0,.int .u32 0,.int .u32 0,.int .u32 0]
abbrev Z8:Array Value:=#[.int .u32 0,.int .u32 0,.int .u32 0,.int .u32 0,.int .u32 0,.int .u32 0,.int .u32 0,.int .u32 0]
theorem z64:#[.int .u32 0,.int .u32 0,.int .u32 0,.int .u32 0,.int .u32 0,.int .u32 0,.int .u32 0,.int .u32 0,.int .u32 0,.int .u32 0,.int .u32 0,.int .u32 0,.int .u32 0,.int .u32 0,.int .u32 0,.int .u32 0,.int .u32 0,.int .u32 0,.int .u32 0,.int .u32 0,.int .u32 0,.int .u32 0,.int .u32 0,.int .u32 0,.int .u32 0,.int .u32 0,.int .u32 0,.int .u32 0,.int .u32 0,.int .u32 0,.int .u32 0,.int .u32 0,.int .u32 0,.int .u32 0,.int .u32 0,.int .u32 0,.int .u32 0,.int .u32 0,.int .u32 0,.int .u32 0,.int .u32 0,.int .u32 0,.int .u32 0,.int .u32 0,.int .u32 0,.int .u32 0,.int .u32 0,.int .u32 0,.int .u32 0,.int .u32 0,.int .u32 0,.int .u32 0,.int .u32 0,.int .u32 0,.int .u32 0,.int .u32 0,.int .u32 0,.int .u32 0,.int .u32 0,.int .u32 0,.int .u32 0,.int .u32 0,.int .u32 0,.int .u32 0].toList=u32f (fun _=>0) 64:=by rfl
theorem pschedule_v (s:ByteArray) (b o c:Nat) (w:World) (hs:s.size=64) (hA:BytA w b o s) (hc:64≤c) :
  Calls Tryz.prog 213 #[.slice (some ⟨b,o,none⟩) 64 c] w fun e w'=>e=.returned (.agg (u32f (sW s) 64).toArray)∧Below w.heap.size w w':=by
 go_enter Tryz.func213,Tryz.ntmps213
 go_upto_region 2 with fail
 obtain ⟨Z,hZ⟩:∃Z:Array Value,Z=#[.int .u32 0,.int .u32 0,.int .u32 0,.int .u32 0,.int .u32 0,.int .u32 0,.int .u32 0,.int .u32 0,.int .u32 0,.int .u32 0,.int .u32 0,.int .u32 0,.int .u32 0,.int .u32 0,.int .u32 0,.int .u32 0,.int .u32 0,.int .u32 0,.int .u32 0,.int .u32 0,.int .u32 0,.int .u32 0,.int .u32 0,.int .u32 0,.int .u32 0,.int .u32 0,.int .u32 0,.int .u32 0,.int .u32 0,.int .u32 0,.int .u32 0,.int .u32 0,.int .u32 0,.int .u32 0,.int .u32 0,.int .u32 0,.int .u32 0,.int .u32 0,.int .u32 0,.int .u32 0,.int .u32 0,.int .u32 0,.int .u32 0,.int .u32 0,.int .u32 0,.int .u32 0,.int .u32 0,.int .u32 0,.int .u32 0,.int .u32 0,.int .u32 0,.int .u32 0,.int .u32 0,.int .u32 0,.int .u32 0,.int .u32 0,.int .u32 0,.int .u32 0,.int .u32 0,.int .u32 0,.int .u32 0,.int .u32 0,.int .u32 0,.int .u32 0]:=⟨_,rfl⟩;rw [←hZ];have HZ:Hid (Z.toList=u32f (fun _=>0) 64):=by rw [Hid,hZ];exact z64
 clear hZ;have hR:Blk ((w.alloc (.cells Z 216)).alloc (.cells Z 216)) w.heap.size 216 (u32f (fun _=>0) 64):=((Blk.new w Z 216).as HZ.out).alloc _
 have hB:Blk ((w.alloc (.cells Z 216)).alloc (.cells Z 216)) (w.heap.size+1) 216 (u32f (sP s 0) 64):=by
  have h:=(Blk.new (w.alloc (.cells Z 216)) Z 216).as (HZ.out.trans (sP_zero s));rw [World.size_alloc] at h;exact h
 have hBW:=ba (b1 w (.cells Z 216)) (.cells Z 216);generalize (w.alloc (.cells Z 216)).alloc (.cells Z 216)=w1 at hR hB hBW ⊢;clear HZ;have hA1:=hA.after hBW;obtain ⟨g,hg⟩:∃g,w.heap.size+1=g:=⟨_,rfl⟩;obtain ⟨gr,hgr⟩:∃g,w.heap.size=g:=⟨_,rfl⟩;have HGE:Hid (w.heap.size≤g):=by rw [Hid];omega
 have HGR:Hid (w.heap.size≤gr∧gr≠g):=by rw [Hid];omega
 have HBL:Hid (b≠g):=by have:=hA.1;rw [Hid];omega
 rw [hg] at hB ⊢;rw [hgr] at hR ⊢;clear hg hgr hA;go_wp2;go_loopw [9] (fun i wr=>∃k:Nat,k≤16∧i=.int .i64 k∧Blk wr g 216 (u32f (sP s k) 64)∧Blk wr gr 216 (u32f (fun _=>0) 64)∧BytA wr b o s∧Below w.heap.size w wr) (fun i _=>16-(intOf i).toNat)
 case atStart=>exact ⟨0,by omega,rfl,hB,hR,hA1,hBW⟩
 case round =>
  clear hB hR hA1 hBW;obtain ⟨k,hk,rfl,hb,hr,hA,hbr⟩:=hrel;by_cases hlt:k<16
  ·have hbl:=hA.1;have l0:=hA.2 (4*k) (by omega);have l1:=hA.2 (4*k+1) (by omega);have l2:=hA.2 (4*k+2) (by omega);have l3:=hA.2 (4*k+3) (by omega);have e0:IntKind.i64.wrap (4*(k:Int))=4*(k:Int):=by rw [IntWalk.i64_in _ (by omega)]
   have e1:IntKind.i64.wrap (4*(k:Int)+4)=4*(k:Int)+4:=by rw [IntWalk.i64_in _ (by omega)]
   have hf:=hb.free k;have hbg:=hb.lt;have hck:wr.cell? ⟨g,k,none⟩=some (.int .u32 0):=by rw [hb.cell,u32f_get _ (by omega),sP,if_neg (by omega)]
   have HSS:=Lib.hid (sP_set s k);have HSW:Hid (sW s k=((((byt s (4*k)*256+byt s (4*k+1))*256+byt s (4*k+2))*256+byt s (4*k+3):Nat):Int)):=by rw [Hid,sW_lo s k hlt,bigN4]
   have HB0:=Lib.hid (byt_lt s (4*k));have HB1:=Lib.hid (byt_lt s (4*k+1));have HB2:=Lib.hid (byt_lt s (4*k+2));have HB3:=Lib.hid (byt_lt s (4*k+3));generalize byt s (4*k)=y0 at l0 HSW HB0;generalize byt s (4*k+1)=y1 at l1 HSW HB1;generalize byt s (4*k+2)=y2 at l2 HSW HB2;generalize byt s (4*k+3)=y3 at l3 HSW HB3;rw [←Nat.add_assoc] at l1 l2 l3;have f0:(0:Int)≤4*(k:Int):=by omega
   have f1:4*(k:Int)≤4*(k:Int)+4:=by omega
   have f2:4*(k:Int)+4≤(c:Int):=by omega
   have k0:(0:Int)≤(k:Int):=by omega
   have k1:(k:Int)<64:=by omega
   go_upto_region 6 with fail
   rw [show 4*k+4-4*k=4 by omega];go_region;go_wp2;go_roundw
   case rel =>
    have hv:bits BinOp.or IntKind.u32 (bits BinOp.or IntKind.u32 (bits BinOp.or IntKind.u32 ((y0:Int)%4294967296*16777216%4294967296) ((y1:Int)%4294967296*65536%4294967296)) ((y2:Int)%4294967296*256%4294967296)) ((y3:Int)%4294967296)=sW s k:=by
     have h0:=HB0.out;have h1:=HB1.out;have h2:=HB2.out;have h3:=HB3.out;rw [HSW.out,show (y0:Int)%4294967296=y0 by omega,show (y1:Int)%4294967296=y1 by omega,show (y2:Int)%4294967296=y2 by omega,show (y3:Int)%4294967296=y3 by omega];exact or4 _ _ _ _ h0 h1 h2 h3
    rw [hv];exact ⟨k+1,by omega,rfl,Blk.drewH (Blk.setv hb rfl HSS.out),Blk.drewH (hr.other _ _ HGR.out.2),hA.set _ _ _ HBL.out,(hbr.setCell HGE.out _).drew⟩
   case measure=>simp [intOf];omega
  ·obtain rfl:k=16:=by omega
   clear hA;go_wp2;go_loopw [6,7,8] (fun i _ _ wr=>∃k:Nat,16≤k∧k≤64∧i=.int .i64 k∧Blk wr g 216 (u32f (sP s k) 64)∧Blk wr gr 216 (u32f (fun _=>0) 64)∧Below w.heap.size w wr) (fun i _ _ _=>64-(intOf i).toNat)
   case atStart=>exact ⟨16,by omega,by omega,rfl,hb,hr,hbr⟩
   case round =>
    clear hb hr hbr hlt hk;obtain ⟨k,hk,hk2,rfl,hb,hr,hbr⟩:=hrel;by_cases hlt:k<64
    ·obtain ⟨a15,h15⟩:∃a,a=k-15:=⟨_,rfl⟩;obtain ⟨a2,h2⟩:∃a,a=k-2:=⟨_,rfl⟩;obtain ⟨a16,h16⟩:∃a,a=k-16:=⟨_,rfl⟩;obtain ⟨a7,h7⟩:∃a,a=k-7:=⟨_,rfl⟩;have c15:=sP_at hb (show a15<k by omega) hk2;have c2:=sP_at hb (show a2<k by omega) hk2;have HSW:Hid (sW s k=(sW s a16+sg0 (sW s a15)+sW s a7+sg1 (sW s a2))%4294967296):=by rw [Hid,sW_hi s k hk,h15,h2,h16,h7]
     have HSS:=Lib.hid (sP_set s k);have c16:=sP_at hb (show a16<k by omega) hk2;have c7:=sP_at hb (show a7<k by omega) hk2;have ck:wr.cell? ⟨g,k,none⟩=some (.int .u32 0):=by rw [hb.cell,u32f_get _ hlt,sP,if_neg (by omega)]
     generalize hx:sW s a15=x at c15 HSW;generalize hy:sW s a2=y at c2 HSW;generalize hz1:sW s a16=z1 at c16 HSW;generalize hz2:sW s a7=z2 at c7 HSW;clear hx hy hz1 hz2;have e15:IntKind.i64.wrap ((k:Int)-15)=(a15:Int):=by rw [IntWalk.i64_in _ (by omega)];omega
     have e2:IntKind.i64.wrap ((k:Int)-2)=(a2:Int):=by rw [IntWalk.i64_in _ (by omega)];omega
     have b15:(a15:Int)<64:=by omega
     have b2:(a2:Int)<64:=by omega
     have d15:(0:Int)≤(a15:Int):=by omega
     have d2:(0:Int)≤(a2:Int):=by omega
     have e16:IntKind.i64.wrap ((k:Int)-16)=(a16:Int):=by rw [IntWalk.i64_in _ (by omega)];omega
     have e7:IntKind.i64.wrap ((k:Int)-7)=(a7:Int):=by rw [IntWalk.i64_in _ (by omega)];omega
     have b16:(a16:Int)<64:=by omega
     have b7:(a7:Int)<64:=by omega
     have d16:(0:Int)≤(a16:Int):=by omega
     have d7:(0:Int)≤(a7:Int):=by omega
     have bk:(k:Int)<64:=by omega
     have dk:(0:Int)≤(k:Int):=by omega
     clear h15 h2 h16 h7;have hl:=hb.lt;go_wp2_with fail
     go_region;have hbA:=Blk.drewH hb;have hrA:=Blk.drewH hr;have hbrA:=hbr.drew;replace c16:wr.drew.cell? ⟨g,a16,none⟩=some (.int .u32 z1):=c16;replace c7:wr.drew.cell? ⟨g,a7,none⟩=some (.int .u32 z2):=c7;clear c15 c2 hb hr hbr hl ck;generalize wr.drew=wa at hbA hrA hbrA c16 c7 ⊢;have hlA:=hbA.lt;have g16:=gclH (a:=⟨g,a16,none⟩) hlA c16;have g7:=gclH (a:=⟨g,a7,none⟩) hlA c7;go_wp2_with fail
     refine wp_region_gw_tail 29 (by kernel_rfl) (by kernel_rfl) ?_;simp only [List.take_succ_cons,List.take_zero,List.drop_succ_cons,List.drop_zero];repeat (go_big_quiet_step (first | (go_at_call 214;exact gw_of (turn_c _ _ 7 _ rfl (by decide) (by decide))) | (go_at_call 214;exact gw_of (turn_c _ _ 18 _ rfl (by decide) (by decide))) | (go_at_call 214;exact gw_of (turn_c _ _ 17 _ rfl (by decide) (by decide))) | (go_at_call 214;exact gw_of (turn_c _ _ 19 _ rfl (by decide) (by decide)))))
     refine wpQuiet_nil ?_;rintro w9 ⟨xw9,rfl⟩;have hb9:=gw_below xw9;generalize gw xw9=w9 at hb9;have hbC:=hbA.after hb9;have hrC:=hrA.after hb9;have hbrC:=bt hbrA hb9;have fk:=hbC.free k;have hlC:=hbC.lt;have ck:w9.cell? ⟨g,k,none⟩=some (.int .u32 0):=by rw [hbC.cell,u32f_get _ hlt,sP,if_neg (by omega)]
     clear g16 g7 c16 c7 hbA hrA hbrA hb9;go_wp2;go_roundw
     case rel =>
      have h1:=HSW.out;unfold sg0 sg1 at h1;refine ⟨k+1,by omega,by omega,by go_num,Blk.setv hbC (by rw [h1]) HSS.out,hrC.other _ _ HGR.out.2,hbrC.setCell HGE.out _⟩
     case measure=>simp [intOf];omega
    ·obtain rfl:k=64:=by omega
     go_upto_region 13 with fail
     apply wp_region_lit
     refine wpList_load_row rfl 216 (.tmp 3) rfl g rfl 216 _ (0,0) _ hb Tryz.underlying216 rfl (size_w64 _) ?_;refine wpList_store_row rfl 216 (.tmp 2) (.tmp 85) rfl gr _ rfl rfl 216 _ hr (size_w64 _) (by simp [u32f]) (u32f_one _ _) ?_;apply wpList_nil
     go_wp2;refine bodyPost_ret (v:=.agg (u32f (sP s 64) 64).toArray) ?_ rfl ⟨?_,setRow_below hbr HGR.out.1⟩
     ·refine results_cell_row (p:=2) (ty:=216) rfl _ _ gr 216 _ (0,0) _ rfl (setRow_heap _ _ _ _ _ _ hr) Tryz.underlying216 rfl (size_w64 _)
     ·rw [sP_end]
end
section
open Go.RowKit Go.Shelf
theorem kL_eq:(kL.map (Value.int .u32))=u32f kC 64:=by rfl
theorem iL_eq:[Value.int .u32 1779033703,Value.int .u32 3144134277,Value.int .u32 1013904242,Value.int .u32 2773480762,Value.int .u32 1359893119,Value.int .u32 2600822924,Value.int .u32 528734635,Value.int .u32 1541459225]=u32f iC 8:=by rfl
theorem pconstants_v (w:World):Calls Tryz.prog 212 #[] w fun e w'=>e=.returned (.agg (u32f kC 64).toArray)∧Below w.heap.size w w':=by
 go_enter Tryz.func212,Tryz.ntmps212
 go_upto_region 1 with fail
 obtain ⟨Z,hZ⟩:∃Z:Array Value,Z=#[.int .u32 0,.int .u32 0,.int .u32 0,.int .u32 0,.int .u32 0,.int .u32 0,.int .u32 0,.int .u32 0,.int .u32 0,.int .u32 0,.int .u32 0,.int .u32 0,.int .u32 0,.int .u32 0,.int .u32 0,.int .u32 0,.int .u32 0,.int .u32 0,.int .u32 0,.int .u32 0,.int .u32 0,.int .u32 0,.int .u32 0,.int .u32 0,.int .u32 0,.int .u32 0,.int .u32 0,.int .u32 0,.int .u32 0,.int .u32 0,.int .u32 0,.int .u32 0,.int .u32 0,.int .u32 0,.int .u32 0,.int .u32 0,.int .u32 0,.int .u32 0,.int .u32 0,.int .u32 0,.int .u32 0,.int .u32 0,.int .u32 0,.int .u32 0,.int .u32 0,.int .u32 0,.int .u32 0,.int .u32 0,.int .u32 0,.int .u32 0,.int .u32 0,.int .u32 0,.int .u32 0,.int .u32 0,.int .u32 0,.int .u32 0,.int .u32 0,.int .u32 0,.int .u32 0,.int .u32 0,.int .u32 0,.int .u32 0,.int .u32 0,.int .u32 0]:=⟨_,rfl⟩;rw [←hZ];have HZ:Hid (Z.toList=u32f (fun _=>0) 64):=by rw [Hid,hZ];exact z64
 clear hZ;have hR:Blk (w.alloc (.cells Z 216)) w.heap.size 216 (u32f (fun _=>0) 64):=(Blk.new w Z 216).as HZ.out;have hBW:=b1 w (.cells Z 216);generalize w.alloc (.cells Z 216)=w1 at hR hBW ⊢;clear HZ;apply wp_region_lit
 refine wpList_buildFlatArr rfl 216 181 64 _ rfl .u32 kL Tryz.underlying216 (by kernel_rfl) (by kernel_rfl) (by kernel_rfl) ?_;rw [kL_eq];refine wpList_store_row rfl 216 (.tmp 0) (.tmp 1) rfl w.heap.size _ rfl rfl 216 _ hR (size_w64 _) (by simp [u32f]) (u32f_one _ _) ?_;apply wpList_nil
 go_wp2;refine bodyPost_ret (v:=.agg (u32f kC 64).toArray) ?_ rfl ⟨rfl,setRow_below hBW (Nat.le_refl _)⟩;exact results_cell_row (p:=0) (ty:=216) rfl _ _ w.heap.size 216 _ (0,0) _ rfl (setRow_heap _ _ _ _ _ _ hR) Tryz.underlying216 rfl (size_w64 _)
theorem size_s8 (F:Nat→Int):(Tryz.prog.info? 206).map (·.size)=some (u32f F 8).toArray.size:=by
 rw [show (u32f F 8).toArray.size=8 by simp [u32f]];kernel_rfl
theorem pfirst_v (w:World):Calls Tryz.prog 202 #[] w fun e w'=>e=.returned (.agg (u32f iC 8).toArray)∧Below w.heap.size w w':=by
 go_enter Tryz.func202,Tryz.ntmps202
 go_wp2;have h:=(Blk.new w #[Value.int IntKind.u32 1779033703,Value.int IntKind.u32 3144134277,Value.int IntKind.u32 1013904242,Value.int IntKind.u32 2773480762,Value.int IntKind.u32 1359893119,Value.int IntKind.u32 2600822924,Value.int IntKind.u32 528734635,Value.int IntKind.u32 1541459225] 206).as iL_eq;refine bodyPost_ret (v:=.agg (u32f iC 8).toArray) ?_ rfl ⟨rfl,b1 w _⟩;exact results_cell_row (p:=0) (ty:=206) rfl _ _ w.heap.size 206 _ (0,0) _ rfl h Tryz.underlying206 rfl (size_s8 _)
end
end Go.Proofs.YtdoacbdkbbpamaaGreatDoor
