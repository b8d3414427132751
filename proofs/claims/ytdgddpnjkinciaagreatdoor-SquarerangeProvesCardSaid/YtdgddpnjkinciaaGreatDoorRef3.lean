import Derived.Test.YtdgddpnjkinciaaGreatDoorNat4
set_option linter.all false
set_option maxRecDepth 100000
set_option maxHeartbeats 16000000
namespace Go.Proofs.YtdgddpnjkinciaaGreatDoor
section
open Go.RowKit
theorem bdrew {B:Nat} {a w:World} (h:Below B a w) (n:Nat):Below B a (w.drewN n):=below_drewN h n
theorem rvalid_c (s:ByteArray) (w:World) (hs:s.size≤4611686018427387904) :
  Calls Tryz.prog 89 #[.string s] w fun e w'=>e=.returned (.bool (vldB s))∧w=w':=by
 by_cases h1:128<s.size
 ·have HV:=Kh (vldB_long h1);go_enter Tryz.func89,Tryz.ntmps89
  go_wp2;go_ret
  exact⟨rb HV.out.symm,rfl⟩
 ·by_cases h2:s.size=0
  ·obtain rfl:s=ByteArray.empty:=by
    apply ByteArray.ext;apply Array.eq_empty_of_size_eq_zero;exact h2
   go_enter Tryz.func89,Tryz.ntmps89
   go_wp2;go_ret
   exact⟨rb vldB_empty.symm,rfl⟩
  ·have h3:0<s.size:=by omega
   have h4:s.size≤128:=by omega
   have HV:=Kh (vldB_pos h3 h4);have hz:((s.size:Int)==0)=false:=by rw[beq_eq_false_iff_ne];omega
   have hb:=nz_str h3;go_enter Tryz.func89,Tryz.ntmps89
   go_wp2;go_ret
   exact⟨rb HV.out.symm,rfl⟩
theorem rvalidE_c (n:Nat) (w:World) (h:n<256^128) :
  Calls Tryz.prog 89 #[.string (E n)] w fun e w'=>e=.returned (.bool true)∧w=w':=by
 have:=rvalid_c (E n) w (by have:=sz n h;omega);rw[vldB_E n h]at this;exact this
theorem rat_c (s:ByteArray) (i:Int) (w:World) (hs:s.size≤4611686018427387904) (h0:0≤i) (h1:i≤4611686018427387904) :
  Calls Tryz.prog 186 #[.string s,.int .i64 i] w fun e w'=>e=.returned (.int .i64 (dgt s i.toNat))∧w=w':=by
 by_cases h2:(s.size:Int)≤i
 ·have HV:=Kh (dgt_out s i.toNat (by omega));go_enter Tryz.func186,Tryz.ntmps186
  go_wp2;go_ret
  exact⟨ri (by rw[HV.out];rfl),rfl⟩
 ·obtain⟨k,rfl⟩:=Int.eq_ofNat_of_zero_le h0;have HV:=Kh (dgt_at s k (s.size-1-k) (by omega) rfl);go_enter Tryz.func186,Tryz.ntmps186
  go_wp2;go_ret
  exact⟨ri (by rw[wb,HV.out,Int.toNat_natCast]),rfl⟩
theorem rtrim_c (b o c:Nat) (l:List UInt8) (w:World) (hc:l.length≤c) (hm:c≤4611686018427387904) (hb:Row w b o l) :
  Calls Tryz.prog 68 #[.slice (some ⟨b,o,none⟩) l.length c] w fun e w'=>e=.returned (.string (E (val l)))∧w=w':=by
 go_enter Tryz.func68,Tryz.ntmps68
 go_wp2;go_loop [3] (fun v=>∃k:Nat,k≤l.length∧v=.int .i64 k∧val (l.drop k)=val l) (fun v=>l.length-(intOf v).toNat)
 case atStart=>exact⟨0,Nat.zero_le _,rfl,rfl⟩
 case round =>
  obtain⟨k,hk,rfl,hv⟩:=hrel;have HV:=Kh hv;clear hv;by_cases hlt:k<l.length
  ·have he:=hb k hlt;have hg:=(hb.drop k).string (c:=c-k);rw[List.length_drop]at hg;have HR:=Kh hb;clear hb;have hz:0≤(l[k].toNat:Int)∧(l[k].toNat:Int)≤255:=by have:=l[k].toNat_lt;omega
   generalize hh:(l[k].toNat:Int)=z at he hz;have HZ:=Kh hh;clear hh;obtain⟨hn,ho⟩:=hz;by_cases hd:z=0
   ·have hi:(z==0)=true:=by simp[hd]
    have hf:=Kh hd;clear hd;go_wp2;go_round
    case rel=>exact⟨k+1,by omega,by go_num,trim_step l k hlt (HZ.out.trans hf.out) HV.out⟩
    case measure=>simp[intOf];omega
   ·have hi:(z==0)=false:=by simp[hd]
    have hf:=Kh hd;clear hd;have hp:(k==c)=false:=by rw[beq_eq_false_iff_ne];omega
    have hj:¬ c=k:=by omega
    have hl:¬ k=c:=by omega
    go_wp2;go_ret
    exact⟨rs (trim_end l k (canon_drop l k hlt (by rw[HZ.out];exact hf.out)) HV.out),rfl⟩
  ·obtain rfl:k=l.length:=by omega
   have hg:∀o' cp,(convert 137 22 (.slice (some ⟨b,o',none⟩) 0 cp)).run Tryz.prog w=.ok (.string ⟨#[]⟩) w:=fun o' cp=>Row.string (l:=[]) (fun j h=>by simp at h)
   have HE:Hid (E (val l)=⟨#[]⟩):=by rw[←HV.out];simp[Hid,val,E,enc_zero]
   by_cases hq:c=l.length
   all_goals
    go_wp2;go_ret
    exact⟨rs HE.out.symm,rfl⟩
theorem rof_c (n:Nat) (w:World) (h:n<256^8) :
  Calls Tryz.prog 28 #[.int .u64 (n:Int)] w fun e w'=>e=.returned (.string (E n))∧Bw w w':=by
 have H:=Kh h;rw[←u64_as_pow]at h;have hg:∀W:World,(Instr.makeSlice 137 (.int .i64 8) (.int .i64 8)).run Tryz.prog W=.ok (.slice (some ⟨W.heap.size,0,none⟩) 8 8) (W.alloc (.cells (List.replicate 8 (Value.int .u8 0)).toArray 5)):=run_mk (P:=Tryz.prog) Tryz.underlying137 info_u8 8 (by omega) (by omega);go_enter Tryz.func28,Tryz.ntmps28
 go_wp2;go_loopw [0,4] (fun x i wr=>∃(k:Nat) (t:List UInt8),k≤8∧i=.int .i64 (7-(k:Int))∧x=.int .u64 (n / 256^k:Nat)∧t.length=k∧val t=n%256^k∧Blk wr w.heap.size 5 (u8s (List.replicate (8-k) 0++t))∧Bw w wr) (fun _ i _=>(intOf i+1).toNat)
 case atStart =>
  refine⟨0,[],by omega,rfl,by simp,rfl,by simp[val,Nat.mod_one],Blk.new _ _ _,Br.alloc (Nat.le_refl _) _⟩
 case round =>
  obtain⟨k,t,hk,rfl,rfl,hd,hv,hb,hc⟩:=hrel;have HV:=Kh hv;clear hv;have HL:=Kh hd;clear hd;have hq:n / 256^k<18446744073709551616:=Nat.lt_of_le_of_lt (Nat.div_le_self _ _) h;have HD:Hid (n / 256^(k+1)=n / 256^k / 256):=by unfold Hid;rw[Nat.pow_succ,Nat.div_div_eq_div_mul]
  generalize he:n / 256^k=q at hq;have HQ:=Kh he;clear he;by_cases hlt:k<8
  ·have hf:=front_cell (j:=7-k) hb hlt (by omega);have hh:=hb.free (7-k);go_wp2;go_roundw
   case rel =>
    rw[byteI q _ rfl];refine⟨k+1,UInt8.ofNat (q%256) :: t,by omega,vi (by omega),vi (by rw[HD.out,HQ.out];omega),by simp[HL.out],?_,?_,hc.setCell (Nat.le_refl _) _⟩
    ·rw[←HQ.out];exact val_digit_cons n k t HL.out HV.out
    ·exact front_set hb hlt (by omega) _
   case measure=>simp[intOf];omega
  ·obtain rfl:k=8:=by omega
   have hr:Row wr w.heap.size 0 t:=hb.row;have HE:Hid (val t=n):=by rw[Hid,HV.out,Nat.mod_eq_of_lt H.out]
   go_wp2_with fail
   have:=(rtrim_c w.heap.size 0 8 t wr (by rw[HL.out];omega) (by omega) hr);rw[HL.out]at this;refine this.mono ?_;rintro e w' ⟨rfl,rfl⟩;go_wp2;go_ret
   exact⟨rs (by rw[HE.out]),hc⟩
theorem wrap_add_byte (a:Nat) (b:UInt8) (h:a*256+b.toNat<18446744073709551616) :
  IntKind.u64.wrap (IntKind.u64.wrap ((a:Int)*256)+IntKind.u64.wrap (b.toNat:Int))=((a*256+b.toNat:Nat):Int):=by
 simp[IntKind.wrap,IntKind.signed,IntKind.bits];omega
theorem ru64_c (n:Nat) (w:World) (h:n<256^8) :
  Calls Tryz.prog 90 #[.string (E n)] w fun e w'=>e=.returned (.int .u64 n)∧w=w':=by
 have h1:=(E_size_le n 8).2 h;have H:=Kh h;clear h;go_enter Tryz.func90,Tryz.ntmps90
 go_wp2;go_loop [3,4] (fun x i=>∃k:Nat,k≤(E n).size∧i=.int .i64 k∧x=.int .u64 (val ((E n).data.toList.take k):Nat)) (fun _ i=>8-(intOf i).toNat)
 case atStart=>exact⟨0,by omega,rfl,rfl⟩
 case round =>
  obtain⟨k,hk,rfl,rfl⟩:=hrel;by_cases hlt:k<(E n).size
  ·have HS:Hid (val ((E n).data.toList.take (k+1))=val ((E n).data.toList.take k)*256+(E n)[k].toNat∧val ((E n).data.toList.take (k+1))<18446744073709551616):=
    ⟨val_take_succ (E n) k hlt,val_take_le (E n) (k+1) (by omega)⟩
   go_wp2;go_round
   case rel=>exact⟨k+1,by omega,by go_num,by rw[wrap_add_byte _ _ (by rw[←HS.out.1];exact HS.out.2),HS.out.1]⟩
   case measure=>simp[intOf];omega
  ·obtain rfl:k=(E n).size:=by omega
   have HE:Hid (val ((E n).data.toList.take (E n).size)=n):=by
    rw[List.take_of_length_le (by simp)];exact val_E n
   go_wp2;go_ret
   exact⟨ri (congrArg (fun x:Nat=>(x:Int)) HE.out),rfl⟩
theorem rsmall_c (n:Nat) (w:World) (h:n<256^8) :
  Calls Tryz.prog 45 #[.string (E n)] w fun e w'=>e=.returned (.tuple #[.int .u64 n,.bool true])∧w=w':=by
 have h1:=(E_size_le n 8).2 h;have h2:=Kh (lt128 h);have H:=Kh h;clear h;go_enter Tryz.func45,Tryz.ntmps45
 go_wp2_with fail
 refine (rvalidE_c n _ h2.out).mono ?_;rintro e w' ⟨rfl,rfl⟩;go_wp2_with fail
 refine (ru64_c n _ H.out).mono ?_;rintro e w' ⟨rfl,rfl⟩;go_wp2;go_ret2
 exact⟨rfl,rfl⟩
theorem rsmall_no (n:Nat) (w:World) (h:256^8≤n) (hm:(E n).size≤4611686018427387904) :
  Calls Tryz.prog 45 #[.string (E n)] w fun e w'=>e=.returned (.tuple #[.int .u64 0,.bool false])∧w=w':=by
 have h1:8<(E n).size:=by
  rcases Nat.lt_or_ge 8 (E n).size with h2 | h2
  ·exact h2
  ·have:=(E_size_le n 8).1 h2;omega
 clear h;cases hv:vldB (E n)
 ·go_enter Tryz.func45,Tryz.ntmps45
  go_wp2_with fail
  refine (rvalid_c (E n) _ (by omega)).mono ?_;rintro e w' ⟨rfl,rfl⟩;rw[hv];go_wp2;go_ret2
  exact⟨rfl,rfl⟩
 ·go_enter Tryz.func45,Tryz.ntmps45
  go_wp2_with fail
  refine (rvalid_c (E n) _ (by omega)).mono ?_;rintro e w' ⟨rfl,rfl⟩;rw[hv];go_wp2;go_ret2
  exact⟨rfl,rfl⟩
end
section
open Go.RowKit
theorem rplus_c (a b:Nat) (w:World) (h1:(E a).size≤1000000) (h2:(E b).size≤1000000) :
  Calls Tryz.prog 184 #[.string (E a),.string (E b)] w fun e w'=>e=.returned (.string (E (a+b)))∧Bw w w':=by
 obtain⟨n,hn⟩:∃n:Nat,n=max (E a).size (E b).size+1:=⟨_,rfl⟩;have HN:Hid (max ((E a).size:Int) ((E b).size:Int)+1=(n:Int)):=by unfold Hid;omega
 have HR:Hid (a+b<256^n):=by rw[hn];exact add_room a b _ (by omega) (by omega)
 have hh:n≤1000001:=by omega
 have he:=run_mk (P:=Tryz.prog) Tryz.underlying137 info_u8 n (by omega) (by omega);rw[←HN.out]at he;clear hn;go_enter Tryz.func184,Tryz.ntmps184
 go_wp2;clear he;rw[HN.out];go_loopw [7,8] (fun x i wr=>∃(k c:Nat) (t:List UInt8),k≤n∧c≤1∧i=.int .i64 k∧x=.int .i64 c∧t.length=k∧val t+c*256^k=a%256^k+b%256^k∧Blk wr w.heap.size 5 (u8s (List.replicate (n-k) 0++t))∧Bw w wr) (fun _ i _=>n-(intOf i).toNat)
 case atStart =>
  refine⟨0,0,[],by omega,by omega,rfl,rfl,rfl,by simp[val,Nat.mod_one],?_,Br.alloc (Nat.le_refl _) _⟩;have:=Blk.new w (List.replicate n (Value.int .u8 0)).toArray 5;simpa [u8s,u8v] using this
 case round =>
  obtain⟨k,c,t,hk,hc,rfl,rfl,hf,hv,hb,hd⟩:=hrel;have HV:=Kh hv;clear hv;have HL:=Kh hf;clear hf;by_cases hlt:k<n
  ·have hg:=front_cell hb hlt rfl;have hi:=hb.free (n-1-k);have hj:=dgt_lt (E a) k;have hl:=dgt_lt (E b) k;go_wp2_with fail
   refine (rat_c (E a) k _ (by omega) (by omega) (by omega)).mono ?_;rintro e w' ⟨rfl,rfl⟩;rw[Int.toNat_natCast];go_wp2_with fail
   refine (rat_c (E b) k _ (by omega) (by omega) (by omega)).mono ?_;rintro e w' ⟨rfl,rfl⟩;rw[Int.toNat_natCast];go_wp2;go_roundw
   case rel =>
    obtain⟨x,hx⟩:∃x,x=dgt (E a) k+dgt (E b) k+c:=⟨_,rfl⟩;rw[byteI x _ (by omega)];refine⟨k+1,x / 256,UInt8.ofNat (x%256) :: t,by omega,by omega,by go_num,vi (by omega),by simp[HL.out],add_step a b k c x t HL.out HV.out (by rw[hx,dgt_E,dgt_E];omega),front_set hb hlt rfl _,hd.setCell (Nat.le_refl _) _⟩
   case measure=>simp[intOf];omega
  ·obtain rfl:k=n:=by omega
   have hr:Row wr w.heap.size 0 t:=by
    have:=hb.row;simpa using this
   have HE:=Kh (add_end a b k c t HL.out HV.out HR.out);go_wp2_with fail
   have:=(rtrim_c w.heap.size 0 k t wr (by rw[HL.out];omega) (by omega) hr);rw[HL.out,HE.out]at this;refine this.mono ?_;rintro e w' ⟨rfl,rfl⟩;go_wp2;go_ret
   exact⟨rfl,hd⟩
theorem rminus_c (a b:Nat) (w:World) (ha:(E a).size≤1000000) (hb:b≤a) :
  Calls Tryz.prog 143 #[.string (E a),.string (E b)] w fun e w'=>e=.returned (.string (E (a-b)))∧Bw w w':=by
 have h2:(E b).size≤(E a).size:=(E_size_le b _).2 (Nat.lt_of_le_of_lt hb (E_lt a));have he:=Kh (E_lt a);have HB:=Kh hb;clear hb;obtain⟨n,hn⟩:∃n:Nat,(E a).size=n:=⟨_,rfl⟩;have hf:=run_mk (P:=Tryz.prog) Tryz.underlying137 info_u8 n (by omega) (by omega);have HN:Hid (((E a).size:Int)=(n:Int)):=by unfold Hid;omega
 have hj:=Kh hn;rw[←HN.out]at hf;have hl:n≤1000000:=by omega
 have hm:(E b).size≤1000000:=by omega
 rw[hn]at he;clear hn;go_enter Tryz.func143,Tryz.ntmps143
 go_wp2;clear hf;rw[HN.out];go_loopw [7,8] (fun x i wr=>∃(k c:Nat) (t:List UInt8),k≤n∧c≤1∧i=.int .i64 k∧x=.int .i64 c∧t.length=k∧val t+b%256^k=a%256^k+c*256^k∧Blk wr w.heap.size 5 (u8s (List.replicate (n-k) 0++t))∧Bw w wr) (fun _ i _=>n-(intOf i).toNat)
 case atStart =>
  refine⟨0,0,[],by omega,by omega,rfl,rfl,rfl,by simp[val,Nat.mod_one],?_,Br.alloc (Nat.le_refl _) _⟩;have:=Blk.new w (List.replicate n (Value.int .u8 0)).toArray 5;simpa [u8s,u8v] using this
 case round =>
  obtain⟨k,c,t,hk,hc,rfl,rfl,hg,hv,hb,hd⟩:=hrel;have HV:=Kh hv;clear hv;have HL:=Kh hg;clear hg;by_cases hlt:k<n
  ·have hh:=front_cell hb hlt rfl;have ho:=hb.free (n-1-k);have hp:=dgt_lt (E a) k;have hq:=dgt_lt (E b) k;go_wp2_with fail
   refine (rat_c (E a) k _ (by omega) (by omega) (by omega)).mono ?_;rintro e w' ⟨rfl,rfl⟩;rw[Int.toNat_natCast];go_wp2_with fail
   refine (rat_c (E b) k _ (by omega) (by omega) (by omega)).mono ?_;rintro e w' ⟨rfl,rfl⟩;rw[Int.toNat_natCast];by_cases hi:(dgt (E a) k:Int)-(dgt (E b) k:Int)-(c:Int)<0
   ·go_wp2;go_roundw
    case rel =>
     obtain⟨y,hy⟩:∃y:Nat,(y:Int)=(dgt (E a) k:Int)-(dgt (E b) k:Int)-(c:Int)+256:=⟨((dgt (E a) k:Int)-(dgt (E b) k:Int)-(c:Int)+256).toNat,by omega⟩;rw[byteJ y ((dgt (E a) k:Int)-(dgt (E b) k:Int)-(c:Int)+256) (by omega) (by omega)];refine⟨k+1,1,UInt8.ofNat (y%256) :: t,by omega,by omega,by go_num,vi (by omega),by simp[HL.out],sub_step a b k c y _ t HL.out HV.out (by rw[←dgt_E,←dgt_E]) 1 (by omega) (by omega),front_set hb hlt rfl _,hd.setCell (Nat.le_refl _) _⟩
    case measure=>simp[intOf];omega
   ·go_wp2;go_roundw
    case rel =>
     obtain⟨y,hy⟩:∃y:Nat,(y:Int)=(dgt (E a) k:Int)-(dgt (E b) k:Int)-(c:Int):=⟨((dgt (E a) k:Int)-(dgt (E b) k:Int)-(c:Int)).toNat,by omega⟩;rw[byteJ y ((dgt (E a) k:Int)-(dgt (E b) k:Int)-(c:Int)) (by omega) (by omega)];refine⟨k+1,0,UInt8.ofNat (y%256) :: t,by omega,by omega,by go_num,vi (by omega),by simp[HL.out],sub_step a b k c y _ t HL.out HV.out (by rw[←dgt_E,←dgt_E]) 0 (by omega) (by omega),front_set hb hlt rfl _,hd.setCell (Nat.le_refl _) _⟩
    case measure=>simp[intOf];omega
  ·obtain rfl:k=n:=by omega
   have hr:Row wr w.heap.size 0 t:=by
    have:=hb.row;simpa using this
   have HE:=Kh (sub_end a b k c t HL.out HV.out he.out HB.out);go_wp2_with fail
   have:=(rtrim_c w.heap.size 0 k t wr (by rw[HL.out];omega) (by omega) hr);rw[HL.out,HE.out]at this;refine this.mono ?_;rintro e w' ⟨rfl,rfl⟩;go_wp2;go_ret
   exact⟨rfl,hd⟩
end
section
open Go.RowKit
theorem cmp_lt {a b:Nat} (h:a<b):cmpN a b=-1:=by unfold cmpN;rw[if_pos h]
theorem cmp_gt {a b:Nat} (h:b<a):cmpN a b=1:=by unfold cmpN;rw[if_neg (by omega),if_pos h]
theorem cmp_eq {a b:Nat} (h:a=b):cmpN a b=0:=by unfold cmpN;rw[if_neg (by omega),if_neg (by omega)]
theorem len_lt {a b:Nat} (h:(E a).size<(E b).size):a<b:=by
 rw[E_size,E_size]at h;have:=val_lt_of_length (canon_enc b) h;rwa [val_enc,val_enc]at this
theorem split_at (s:ByteArray) (k:Nat) (h:k<s.size):s.data.toList=s.data.toList.take k++s[k] :: s.data.toList.drop (k+1):=by
 have h2:k<s.data.toList.length:=by simpa using h
 have e:s[k]=s.data.toList[k]:=by simp[ByteArray.getElem_eq_getElem_data]
 rw[e,←List.drop_eq_getElem_cons h2,List.take_append_drop]
theorem at_lt (a b k:Nat) (hl:(E a).size=(E b).size) (hk:k<(E a).size) (hb:k<(E b).size) (hp:(E a).data.toList.take k=(E b).data.toList.take k) (hx:(E a)[k].toNat<(E b)[k].toNat):a<b:=by
 have h1:=split_at (E a) k hk;have h2:=split_at (E b) k hb;have:=val_lt_of_lex ((E a).data.toList.take k) ((E a).data.toList.drop (k+1)) ((E b).data.toList.drop (k+1)) (E a)[k] (E b)[k] (UInt8.lt_iff_toNat_lt.2 hx) (by simp[hl]);rw[←h1,hp,←h2,val_E,val_E]at this;exact this
theorem at_eq (a b k:Nat) (hk:k<(E a).size) (hb:k<(E b).size) (hp:(E a).data.toList.take k=(E b).data.toList.take k) (hx:(E a)[k].toNat=(E b)[k].toNat):(E a).data.toList.take (k+1)=(E b).data.toList.take (k+1):=by
 rw[List.take_succ_eq_append_getElem (by simpa using hk),List.take_succ_eq_append_getElem (by simpa using hb),hp];have:=UInt8.toNat_inj.1 hx;simp only[ByteArray.getElem_eq_getElem_data]at this;simp[this]
theorem all_eq (a b:Nat) (hl:(E a).size=(E b).size) (hp:(E a).data.toList.take (E a).size=(E b).data.toList.take (E a).size):a=b:=by
 rw[List.take_of_length_le (by simp),List.take_of_length_le (by simp[hl])]at hp;rw[←val_E a,hp,val_E]
theorem rorder_c (a b:Nat) (w:World) (h1:(E a).size≤1000000) (h2:(E b).size≤1000000) :
  Calls Tryz.prog 112 #[.string (E a),.string (E b)] w fun e w'=>e=.returned (.int .i64 (cmpN a b))∧Bw w w':=by
 by_cases hl:(E a).size=(E b).size
 ·have HL:=Kh hl;have hd:(((E a).size:Int) != ((E b).size:Int))=false:=by simp[hl]
  have hj:(E a).size≤(E b).size:=by omega
  have hm:(E b).size≤(E a).size:=by omega
  clear hl;go_enter Tryz.func112,Tryz.ntmps112
  go_wp2;go_loopw [5] (fun i wr=>∃k:Nat,k≤(E a).size∧i=.int .i64 k∧(E a).data.toList.take k=(E b).data.toList.take k∧Bw w wr) (fun i _=>(E a).size-(intOf i).toNat)
  case atStart=>exact⟨0,by omega,rfl,rfl,Br⟩
  case round =>
   obtain⟨k,hk,rfl,hp,hb⟩:=hrel;have HP:=Kh hp;clear hp;by_cases hlt:k<(E a).size
   ·have hc:k<(E b).size:=by omega
    have i1:(0:Int)≤(k:Int):=by omega
    have i2:(k:Int)<((E a).size:Int):=by omega
    have i3:(k:Int)<((E b).size:Int):=by omega
    have he:=Kh (at_lt a b k HL.out hlt hc HP.out);have hf:=Kh (at_lt b a k HL.out.symm hc hlt HP.out.symm);have hg:=Kh (at_eq a b k hlt hc HP.out);by_cases hx:(E a)[k].toNat=(E b)[k].toNat
    ·have hh:(((E a)[k].toNat:Int) != ((E b)[k].toNat:Int))=false:=by simp[hx]
     have HX:=Kh hx;clear hx;go_wp2;go_quiet (fail)
     go_wp2;go_roundw
     case rel=>exact⟨k+1,by omega,by go_num,hg.out HX.out,bdrew hb _⟩
     case measure=>simp[intOf];omega
    ·have hh:(((E a)[k].toNat:Int) != ((E b)[k].toNat:Int))=true:=by rw[bne_iff_ne];omega
     by_cases hy:(E a)[k].toNat<(E b)[k].toNat
     ·have HC:=Kh (cmp_lt (he.out hy));have hi:decide (((E a)[k].toNat:Int)<((E b)[k].toNat:Int))=true:=by rw[decide_eq_true_iff];omega
      clear hx;go_wp2;go_quiet (fail)
      go_wp2;go_quiet (fail)
      go_wp2;go_ret
      exact⟨ri HC.out.symm,bdrew (bdrew hb _) _⟩
     ·have HC:=Kh (cmp_gt (hf.out (by omega)));have hi:decide (((E a)[k].toNat:Int)<((E b)[k].toNat:Int))=false:=by rw[decide_eq_false_iff_not];omega
      clear hx;go_wp2;go_quiet (fail)
      go_wp2;go_quiet (fail)
      go_wp2;go_ret
      exact⟨ri HC.out.symm,bdrew (bdrew hb _) _⟩
   ·obtain rfl:k=(E a).size:=by omega
    have HC:=Kh (cmp_eq (all_eq a b HL.out HP.out));go_wp2;go_ret
    exact⟨ri HC.out.symm,hb⟩
 ·have hd:(((E a).size:Int) != ((E b).size:Int))=true:=by rw[bne_iff_ne];omega
  by_cases hlt:(E a).size<(E b).size
  ·have HC:=Kh (cmp_lt (len_lt hlt));go_enter Tryz.func112,Tryz.ntmps112
   go_wp2;go_ret
   exact⟨ri HC.out.symm,Br⟩
  ·have HC:=Kh (cmp_gt (len_lt (show (E b).size<(E a).size by omega)));go_enter Tryz.func112,Tryz.ntmps112
   go_wp2;go_ret
   exact⟨ri HC.out.symm,Br⟩
end
end Go.Proofs.YtdgddpnjkinciaaGreatDoor
