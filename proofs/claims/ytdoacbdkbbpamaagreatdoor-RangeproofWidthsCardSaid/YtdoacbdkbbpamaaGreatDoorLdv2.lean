import Derived.Test.YtdoacbdkbbpamaaGreatDoorLdvl
set_option linter.unusedVariables false
set_option linter.unusedSimpArgs false
set_option maxRecDepth 100000
set_option maxHeartbeats 16000000
namespace Go.Proofs.YtdoacbdkbbpamaaGreatDoor
open Go.RowKit
theorem ldiv_c (a b:Nat) (w:World) (ha:a<256^128) (h8:8<(E a).size) (hb:b<256^128) (h0:0<b) (hle:b≤a) :
  Calls Tryz.prog 129 #[.string (E a),.string (E b)] w fun e w'=>e=.returned (.tuple #[.string (E (a / b)),.string (E (a%b))])∧Below w.heap.size w w':=by
 have h1:=sz a ha;have h2:=sz b hb;have hc:=cmp_nneg a b hle;have hz:=(E_size_pos b).2 h0;obtain ⟨m,hm⟩:∃m,m=(E a).size:=⟨_,rfl⟩;obtain ⟨n,hn⟩:∃n,n=(E b).size:=⟨_,rfl⟩;have hfb:=firstb b hz;have hx1:b / 256^(n-1)<256:=by rw [hn,←hfb];have:=(E b)[0].toNat_lt;omega
 have hx0:b / 256^(n-1)≠0:=by
  rw [hn,E_size];have:=(first_byte b h0).1;omega
 obtain ⟨s,hs,hs1,hs2⟩:=lz8_spec ⟨b / 256^(n-1),hx1⟩ hx0;obtain ⟨s,hs7⟩:=s;simp only at hs hs1 hs2;obtain ⟨hn0,hDn,hD128⟩:=scale_spec b s n hn h0 hs1 hs2;have HFB:Hid ((E b)[0].toNat=b / 256^(n-1)):=by rw [Hid,hn];exact hfb
 have HS:=Lib.hid hs;have HDN:=Lib.hid hDn;have HD128:=Lib.hid hD128
 have HLZ:Hid (∀w,Calls Tryz.prog 155 #[.int .u8 ((E b)[0].toNat:Int)] w fun e w'=>e=.returned (.int .i64 (s:Int))∧w=w'):=fun w=>by
  have:=lz8_c (E b)[0].toNat w (by have:=(E b)[0].toNat_lt;omega);rw [HFB.out,HS.out] at this;rw [HFB.out];exact this
 clear hfb hx1 hx0 hs hs1 hs2 hDn hD128;go_enter Tryz.func129,Tryz.ntmps129
 go_wp2_with fail
 refine (compare_c a b _ (by omega) (by omega)).mono ?_;rintro e w' ⟨rfl,rfl⟩;go_wp2_with fail
 refine (HLZ.out _).mono ?_;rintro e w' ⟨rfl,rfl⟩;have hmk:=run_mk (P:=Tryz.prog) Tryz.underlying167 info_int (E b).size (by omega) (by omega);go_wp2;clear hmk;obtain ⟨bd,hbd⟩:∃bd,bd=w.heap.size:=⟨_,rfl⟩;have HBDE:Hid (w.heap.size≤bd):=Nat.le_of_eq hbd.symm;have hblk0:=blk_digs w (E b).size;have hbel0:=b1' w (.cells (Array.replicate (E b).size (Value.int .i64 0)) 3);generalize w.alloc (.cells (Array.replicate (E b).size (Value.int .i64 0)) 3)=w1 at hblk0 hbel0 ⊢;rw [←hbd] at hblk0 ⊢;clear hbd;go_loopw [63] (fun x wr=>∃k:Nat,k≤(E b).size∧x=.int .i64 k∧Blk wr bd 3 (i64s (digs (b*2^s%256^k) ((E b).size)))∧Below w.heap.size w wr) (fun x _=>(E b).size-(intOf x).toNat)
 case atStart=>exact ⟨0,by omega,rfl,by rw [Nat.pow_zero,Nat.mod_one];exact hblk0,hbel0⟩
 case round =>
  obtain ⟨k,hk,rfl,hblk,hbel⟩:=hrel;by_cases hlt:k<(E b).size
  ·have hd:=dgt_lt (E b) k;have hfr:=hblk.free k;have hcell:=digs_cell hblk k hlt;obtain ⟨v0,hv0⟩:∃v0,v0=dgt (E b) k*2^s%256:=⟨_,rfl⟩;have HV:Hid (bits BinOp.and IntKind.i64 (wrap64 ((dgt (E b) k:Int)*2^s)) 255=(v0:Int)):=by rw [Hid,hv0];exact shl_val _ _ hd hs7
   have HV0:=Lib.hid hv0;have hv256:v0<256:=by rw [hv0];exact Nat.mod_lt _ (by decide)
   clear hv0;by_cases k0:k=0
   ·have hk0:decide (0<k)=false:=decide_eq_false (by omega);have K0:=Lib.hid k0;clear k0;go_wp2_with fail
    refine (digit_c (E b) k _ (by omega) (by omega) (by omega)).mono ?_;rintro e w' ⟨rfl,rfl⟩;rw [Int.toNat_natCast];go_wp2;go_roundw
    case rel =>
     rw [HV.out];refine ⟨k+1,by omega,by go_num,?_,hbel.setCell HBDE.out _⟩;have:=digs_put hblk k v0 hv256;have k0:=K0.out;have e0:v0=b*2^s / 256^k%256:=by rw [HV0.out,dgt_E,k0,shl_dig0,Nat.pow_zero,Nat.div_one]
     have e1:setd (b*2^s%256^k) k v0=b*2^s%256^(k+1):=by rw [e0,setd_fill]
     rw [e1] at this;exact this
    case measure=>simp [intOf];omega
   ·have hk0:decide (0<k)=true:=decide_eq_true (by omega);have K0:Hid (0<k):=Nat.pos_of_ne_zero k0;clear k0;go_wp2_with fail
    refine (digit_c (E b) k _ (by omega) (by omega) (by omega)).mono ?_;rintro e w' ⟨rfl,rfl⟩;rw [Int.toNat_natCast];go_wp2;rw [HV.out];have hb2:=digs_put hblk k v0 hv256;replace hbel:=hbel.setCell HBDE.out (p:=⟨bd,k,none⟩) (.int .i64 (v0:Int));generalize wr.setCell ⟨bd,k,none⟩ (.int .i64 (v0:Int))=wx at hb2 hbel  ⊢;clear hblk hfr hcell;have hfr:=hb2.free k;have hcell:=digs_cell hb2 k hlt;rw [setd_dig _ _ _ _ hv256,if_pos rfl] at hcell;have q1:IntKind.i64.wrap ((k:Int)-1)=(k:Int)-1:=IntWalk.i64_in _ (by omega);have q2:IntKind.i64.wrap (8-(s:Int))=8-(s:Int):=IntWalk.i64_in _ (by omega);refine wp_region_still_tail 12 (by kernel_rfl) (by kernel_rfl) ?_;simp only [List.take_succ_cons,List.take_zero,List.drop_succ_cons,List.drop_zero];have k1:0≤(k:Int)-1:=by have:=K0.out;omega
    repeat still_step
    still_call (digz_c (E b) ((k:Int)-1) _ (by omega) k1 (by omega))
    repeat still_step
    refine wpStill_nil ?_;change wpList _ _ _ _ _ wx.drew
    go_wp2;go_roundw
    case rel =>
     rw [or_val b s k v0 hs7 K0.out HV0.out];refine ⟨k+1,by omega,by go_num,?_,(hbel.setCell HBDE.out _).drew⟩;have:=digs_put hb2 k (b*2^s / 256^k%256) (Nat.mod_lt _ (by decide));rw [setd_setd _ _ _ _ hv256,setd_fill] at this;exact this
    case measure=>simp [intOf];omega
  ·obtain rfl:k=(E b).size:=by omega
   obtain ⟨D,hDd⟩:∃D,D=b*2^s:=⟨_,rfl⟩;rw [Nat.mod_eq_of_lt (show b*2^s<256^(E b).size by have:=HDN.out;rw [hn] at this;exact this)] at hblk;obtain ⟨M,hM⟩:∃M,M=(E a).size+1:=⟨_,rfl⟩;have HM:Hid (((E a).size:Int)+1=(M:Int)):=by unfold Hid;omega
   have HMM:=Lib.hid hM;have hMb:M≤129:=by omega
   have hMb2:M=(E a).size+1:=hM;have hmk:=run_mk (P:=Tryz.prog) Tryz.underlying167 info_int M (by omega) (by omega);rw [←HM.out] at hmk;clear hM hMb2 hlt hk;go_wp2;clear hmk;rw [HM.out];obtain ⟨br,hbr⟩:∃br,br=wr.heap.size:=⟨_,rfl⟩;have HBRE:Hid (w.heap.size≤br):=by rw [Hid,hbr];exact hbel.size
   have hne:bd≠br:=by have:=hblk.lt;omega
   have hblk0:=blk_digs wr M;have hD:=hblk.alloc (.cells (Array.replicate M (Value.int .i64 0)) 3);have hbel0:=hbel.alloc hbel.size (.cells (Array.replicate M (Value.int .i64 0)) 3);clear hblk hbel hblk0;have hblk0:=blk_digs wr M;generalize wr.alloc (.cells (Array.replicate M (Value.int .i64 0)) 3)=w2 at hblk0 hbel0 hD ⊢;rw [←hbr] at hblk0 ⊢;clear hbr;go_loopw [97] (fun x wr=>∃k:Nat,k≤M∧x=.int .i64 k∧Blk wr br 3 (i64s (digs (a*2^s%256^k) (M)))∧Blk wr bd 3 (i64s (digs (b*2^s) (E b).size))∧Below w.heap.size w wr) (fun x _=>M-(intOf x).toNat)
   case atStart=>exact ⟨0,by omega,rfl,by rw [Nat.pow_zero,Nat.mod_one];exact hblk0,hD,hbel0⟩
   case round =>
    obtain ⟨k,hk,rfl,hblk,hD,hbel⟩:=hrel;by_cases hlt:k<M
    ·have hd:=dgt_lt (E a) k;have hfr:=hblk.free k;have hcell:=digs_cell hblk k hlt;obtain ⟨v0,hv0⟩:∃v0,v0=dgt (E a) k*2^s%256:=⟨_,rfl⟩;have HV:Hid (bits BinOp.and IntKind.i64 (wrap64 ((dgt (E a) k:Int)*2^s)) 255=(v0:Int)):=by rw [Hid,hv0];exact shl_val _ _ hd hs7
     have HV0:=Lib.hid hv0;have hv256:v0<256:=by rw [hv0];exact Nat.mod_lt _ (by decide)
     clear hv0;by_cases k0:k=0
     ·have hk0:decide (0<k)=false:=decide_eq_false (by omega);have K0:=Lib.hid k0;clear k0;go_wp2_with fail
      refine (digit_c (E a) k _ (by omega) (by omega) (by omega)).mono ?_;rintro e w' ⟨rfl,rfl⟩;rw [Int.toNat_natCast];go_wp2;go_roundw
      case rel =>
       rw [HV.out];refine ⟨k+1,by omega,by go_num,?_,hD.other _ _ hne,hbel.setCell HBRE.out _⟩;have:=digs_put hblk k v0 hv256;have k0:=K0.out;have e0:v0=a*2^s / 256^k%256:=by rw [HV0.out,dgt_E,k0,shl_dig0,Nat.pow_zero,Nat.div_one]
       have e1:setd (a*2^s%256^k) k v0=a*2^s%256^(k+1):=by rw [e0,setd_fill]
       rw [e1] at this;exact this
      case measure=>simp [intOf];omega
     ·have hk0:decide (0<k)=true:=decide_eq_true (by omega);have K0:Hid (0<k):=Nat.pos_of_ne_zero k0;clear k0;go_wp2_with fail
      refine (digit_c (E a) k _ (by omega) (by omega) (by omega)).mono ?_;rintro e w' ⟨rfl,rfl⟩;rw [Int.toNat_natCast];go_wp2;rw [HV.out];have hb2:=digs_put hblk k v0 hv256;replace hD:=hD.other ⟨br,k,none⟩ (.int .i64 (v0:Int)) hne;replace hbel:=hbel.setCell HBRE.out (p:=⟨br,k,none⟩) (.int .i64 (v0:Int));generalize wr.setCell ⟨br,k,none⟩ (.int .i64 (v0:Int))=wx at hb2 hbel hD ⊢;clear hblk hfr hcell;have hfr:=hb2.free k;have hcell:=digs_cell hb2 k hlt;rw [setd_dig _ _ _ _ hv256,if_pos rfl] at hcell;have q1:IntKind.i64.wrap ((k:Int)-1)=(k:Int)-1:=IntWalk.i64_in _ (by omega);have q2:IntKind.i64.wrap (8-(s:Int))=8-(s:Int):=IntWalk.i64_in _ (by omega);refine wp_region_still_tail 12 (by kernel_rfl) (by kernel_rfl) ?_;simp only [List.take_succ_cons,List.take_zero,List.drop_succ_cons,List.drop_zero];have k1:0≤(k:Int)-1:=by have:=K0.out;omega
      repeat still_step
      still_call (digz_c (E a) ((k:Int)-1) _ (by omega) k1 (by omega))
      repeat still_step
      refine wpStill_nil ?_;change wpList _ _ _ _ _ wx.drew
      go_wp2;go_roundw
      case rel =>
       rw [or_val a s k v0 hs7 K0.out HV0.out];refine ⟨k+1,by omega,by go_num,?_,hD.other ⟨br,k,none⟩ _ hne,(hbel.setCell HBRE.out _).drew⟩;have:=digs_put hb2 k (a*2^s / 256^k%256) (Nat.mod_lt _ (by decide));rw [setd_setd _ _ _ _ hv256,setd_fill] at this;exact this
      case measure=>simp [intOf];omega
    ·obtain rfl:M=k:=by omega
     obtain ⟨A,hA⟩:∃A,A=a*2^s:=⟨_,rfl⟩;have hAM:a*2^s<256^M:=by rw [HMM.out,Nat.pow_succ];exact Nat.mul_lt_mul'' (E_lt a) (Nat.lt_of_le_of_lt (Nat.pow_le_pow_right (by decide) (show s≤7 by omega)) (by decide))
     rw [Nat.mod_eq_of_lt hAM,←hA] at hblk;rw [←hDd] at hD;have hsz:(E b).size≤(E a).size:=(E_size_le b _).2 (Nat.lt_of_le_of_lt hle (E_lt a));obtain ⟨Q,hQ⟩:∃Q,Q=(E a).size-(E b).size+1:=⟨_,rfl⟩;have HQ:Hid (((E a).size:Int)-((E b).size:Int)+1=(Q:Int)):=by unfold Hid;omega
     have HQ1:Hid (((E a).size:Int)-((E b).size:Int)=(Q:Int)-1):=by unfold Hid;omega
     have HQQ:=Lib.hid hQ;have HDD:=Lib.hid hDd;have HAA:=Lib.hid hA;have HDlt:Hid (D<256^(E b).size):=by rw [Hid,hDd,←hn];exact HDN.out
     have HD1:Hid (128≤D / 256^((E b).size-1)):=by rw [Hid,hDd,←hn];exact HD128.out
     have HAlt:Hid (A<D*256^Q):=by
      have g1:128*256^((E b).size-1)≤D:=by have:=HD1.out;rw [Nat.le_div_iff_mul_le (p256 _)] at this;exact this
      have g2:128*256^((E b).size-1)*256^Q≤D*256^Q:=Nat.mul_le_mul_right _ g1;rw [Nat.mul_assoc,←Nat.pow_add,show (E b).size-1+Q=(E a).size by omega] at g2;have g3:a*2^s<256^(E a).size*2^s:=Nat.mul_lt_mul_of_pos_right (E_lt a) (Nat.pow_pos (by decide));have g4:256^(E a).size*2^s≤256^(E a).size*128:=Nat.mul_le_mul_left _ (Nat.pow_le_pow_right (by decide) (show s≤7 by omega));unfold Hid;rw [hA];omega
     have hQ1:1≤Q:=by omega
     have hQn:Q+(E b).size=M:=by have:=HMM.out;omega
     have hmk:=run_mk (P:=Tryz.prog) Tryz.underlying122 info_u8 Q (by omega) (by omega);rw [←HQ.out] at hmk;clear hA hDd hQ hAM hlt hk;go_wp2;clear hmk;rw [HQ.out];obtain ⟨bq,hbq⟩:∃bq,bq=wr.heap.size:=⟨_,rfl⟩;have HBQE:Hid (w.heap.size≤bq):=by rw [Hid,hbq];exact hbel.size
     have hnq1:bd≠bq:=by have:=hD.lt;omega
     have hnq2:br≠bq:=by have:=hblk.lt;omega
     have hq0:Blk (wr.alloc (.cells (Array.replicate Q (Value.int .u8 0)) 5)) wr.heap.size 5 (u8s (List.replicate Q 0)):=by
      have:=Blk.new wr (Array.replicate Q (Value.int .u8 0)) 5;simpa [u8s,u8v] using this
     replace hD:=hD.alloc (.cells (Array.replicate Q (Value.int .u8 0)) 5);replace hblk:=hblk.alloc (.cells (Array.replicate Q (Value.int .u8 0)) 5);replace hbel:=hbel.alloc hbel.size (.cells (Array.replicate Q (Value.int .u8 0)) 5);generalize wr.alloc (.cells (Array.replicate Q (Value.int .u8 0)) 5)=w3 at hD hblk hbel hq0 ⊢;rw [←hbq] at hq0 ⊢;clear hbq;go_loopw [17] (fun x wr=>∃(i X:Nat) (l:List UInt8) (z:Int),i≤Q∧x=.int .i64 z∧z=(i:Int)-1∧l.length=Q-i∧val l*(256^i*D)+X=A∧X<D*256^i∧Blk wr bd 3 (i64s (digs D (E b).size))∧Blk wr br 3 (i64s (digs X M))∧Blk wr bq 5 (u8s (l++List.replicate i 0))∧Below w.heap.size w wr) (fun x _=>(intOf x+1).toNat)
     case atStart=>exact ⟨Q,A,[],_,Nat.le_refl _,rfl,HQ1.out,by simp,by simp [val_nil],HAlt.out,hD,hblk,by simpa using hq0,hbel⟩
     case round =>
      clear hD hblk hq0 hbel;obtain ⟨i,X,l,z,hi,rfl,hz1,hl,hval,hX,hD,hR,hq,hbel⟩:=hrel;have HL:=Lib.hid hl;have HVAL:=Lib.hid hval;clear hl hval;cases i with
      | succ j =>
       obtain rfl:z=(j:Int):=by omega
       clear hz1;have hjn:j+(E b).size<M:=by omega
       have hn0':0<(E b).size:=hz;have HX:=Lib.hid hX;clear hX;have c1:=digs_cell hR (j+(E b).size) hjn;have c2:=digs_cell hR (j+(E b).size-1) (by omega);have c3:=digs_cell hD ((E b).size-1) (by omega);have q1:IntKind.i64.wrap ((j:Int)+((E b).size:Int))=(j:Int)+((E b).size:Int):=IntWalk.i64_in _ (by omega);have q2:IntKind.i64.wrap ((j:Int)+((E b).size:Int)-1)=(j:Int)+((E b).size:Int)-1:=IntWalk.i64_in _ (by omega);have q3:IntKind.i64.wrap (((E b).size:Int)-1)=((E b).size:Int)-1:=IntWalk.i64_in _ (by omega);have q4:((j:Int)+((E b).size:Int)).toNat=j+(E b).size:=by omega
       have q5:((j:Int)+((E b).size:Int)-1).toNat=j+(E b).size-1:=by omega
       have q6:(((E b).size:Int)-1).toNat=(E b).size-1:=by omega
       have hdec:decide ((0:Int)≤(j:Int))=true:=decide_eq_true (by omega);go_wp2_with fail
       have q7:0≤(j:Int)+((E b).size:Int):=by omega
       have q8:(j:Int)+((E b).size:Int)<(M:Int):=by omega
       have q9:0≤(j:Int)+((E b).size:Int)-1:=by omega
       have q10:(j:Int)+((E b).size:Int)-1<(M:Int):=by omega
       have q11:0≤((E b).size:Int)-1:=by omega
       have q12:((E b).size:Int)-1<((E b).size:Int):=by omega
       have q13:(1:Int)≤(j:Int)+((E b).size:Int):=by omega
       have q14:(j:Int)+((E b).size:Int)≤(M:Int):=by omega
       have q15:(1:Int)≤((E b).size:Int):=by omega
       have q16:1≤(E b).size:=hz
       have hDt:D / 256^((E b).size-1)<256:=by
        rw [Nat.div_lt_iff_lt_mul (p256 _)];have:=HDlt.out;rw [show (E b).size=(E b).size-1+1 by omega,Nat.pow_succ,Nat.mul_comm] at this;exact this
       obtain ⟨u,hu⟩:∃u,u=X / 256^(j+(E b).size)%256:=⟨_,rfl⟩;obtain ⟨v,hv⟩:∃v,v=X / 256^(j+(E b).size-1)%256:=⟨_,rfl⟩;obtain ⟨t,ht⟩:∃t,t=D / 256^((E b).size-1)%256:=⟨_,rfl⟩;have HT1:Hid (t=D / 256^((E b).size-1)):=by rw [Hid,ht,Nat.mod_eq_of_lt hDt]
       have ht1:128≤t:=by have:=HD1.out;have:=HT1.out;omega
       have ht8:t<256:=by rw [ht];exact Nat.mod_lt _ (by decide)
       have hu8:u<256:=by rw [hu];exact Nat.mod_lt _ (by decide)
       have hv8:v<256:=by rw [hv];exact Nat.mod_lt _ (by decide)
       have ht0:¬ t=0:=by omega
       have cz:((t:Int)==0)=false:=by rw [beq_eq_false_iff_ne];omega
       rw [←hu] at c1;rw [←hv] at c2;rw [←ht] at c3;have HU:=Lib.hid hu;have HV:=Lib.hid hv;clear hu hv ht hDt;refine wp_region_still_tail 22 (by kernel_rfl) (by kernel_rfl) ?_;simp only [List.take_succ_cons,List.take_zero,List.drop_succ_cons,List.drop_zero];repeat still_step
       refine wpStill_nil ?_;change wpList _ _ _ _ _ wr.drew
       clear q1 q2 q3 q4 q5 q6 q7 q8 q9 q10 q11 q12 q13 q14 q15 q16;go_wp2;obtain ⟨G,hG⟩:∃G,G=min ((u*256+v) / t) 255:=⟨_,rfl⟩
       have HXW:Hid (X<256^(j+(E b).size-1+2)):=by
        have g1:=HX.out;have g2:D*256^(j+1)≤256^(E b).size*256^(j+1):=Nat.mul_le_mul_right _ (Nat.le_of_lt HDlt.out);rw [←Nat.pow_add,show (E b).size+(j+1)=j+(E b).size-1+2 by omega] at g2;unfold Hid;omega
       have HG1:Hid (X<(G+1)*(D*256^j)):=by
        have g1:=ld_guess X D j (E b).size hz (by have:=HD1.out;omega) HX.out;have g2:=dig_two X (j+(E b).size-1) HXW.out;rw [show j+(E b).size-1+1=j+(E b).size by omega,←HU.out,←HV.out] at g2;rw [g2,←HT1.out,←hG] at g1;exact g1
       have HU1:Hid (X / 256^(j+(E b).size)=u):=by
        rw [Hid,HU.out,Nat.mod_eq_of_lt];rw [Nat.div_lt_iff_lt_mul (p256 _),show 256*256^(j+(E b).size)=256^(j+(E b).size-1+2) by rw [show j+(E b).size-1+2=j+(E b).size+1 by omega,Nat.pow_succ,Nat.mul_comm]];exact HXW.out
       have hGb:G≤255:=by omega
       rw [guess_val u v t hu8 hv8 ht1 ht8,←hG];clear hG cz ht0 ht1 ht8 hv8 HV HT1 HU HXW c1 c2 c3 hdec;go_loopw [19,20,162] (fun c t i wr=>∃k cc tt Y:Nat,k≤(E b).size∧cc≤255∧tt≤1∧i=.int .i64 k∧c=.int .i64 cc∧t=.int .i64 tt∧Hid (Y+G*(D%256^k)*256^j=X+(cc+tt)*256^(j+k))∧Hid (Y / 256^(j+(E b).size)=u)∧Blk wr bd 3 (i64s (digs D (E b).size))∧Blk wr br 3 (i64s (digs Y M))∧Blk wr bq 5 (u8s (l++List.replicate (j+1) 0))∧Below w.heap.size w wr) (fun _ _ i _=>(E b).size-(intOf i).toNat)
       case atStart=>exact ⟨0,0,0,X,by omega,by omega,by omega,rfl,rfl,rfl,by unfold Hid;simp [Nat.mod_one],HU1,hD,hR,hq,hbel.drew⟩
       case round =>
        clear hD hR hq hbel;obtain ⟨k,cc,tt,Y,hk,hcc,htt,rfl,rfl,rfl,HY,HYU,hD,hR,hq,hbel⟩:=hrel;by_cases hlk:k<(E b).size
        ·have c1:=digs_cell hR (k+j) (by omega);have c2:=digs_cell hD k hlk;have hfr:=hR.free (k+j);obtain ⟨y,hy⟩:∃y,y=Y / 256^(k+j)%256:=⟨_,rfl⟩;obtain ⟨d,hd⟩:∃d,d=D / 256^k%256:=⟨_,rfl⟩;have hy8:y<256:=by rw [hy];exact Nat.mod_lt _ (by decide)
         have hd8:d<256:=by rw [hd];exact Nat.mod_lt _ (by decide)
         rw [←hy] at c1;rw [←hd] at c2;have HYY:=Lib.hid hy;have HDD2:=Lib.hid hd;clear hy hd;obtain ⟨m2,hm2⟩:∃m2,m2=G*d:=⟨_,rfl⟩;have hmb:m2≤65025:=by rw [hm2];exact Nat.le_trans (Nat.mul_le_mul hGb (show d≤255 by omega)) (by decide)
         have hmI:(G:Int)*(d:Int)=(m2:Int):=by rw [hm2,Int.natCast_mul]
         have HM2:=Lib.hid hm2;clear hm2;have hand:bits BinOp.and IntKind.i64 ((cc:Int)+(m2:Int)) 255=(((cc+m2)%256:Nat):Int):=by rw [i64_and255];omega
         obtain ⟨c0,hc0⟩:∃c0,c0=(cc+m2)%256:=⟨_,rfl⟩;have hc8:c0<256:=by omega
         rw [←hc0] at hand;have HC0:=Lib.hid hc0;clear hc0;by_cases hneg:(y:Int)-(c0:Int)-(tt:Int)<0
         ·go_wp2;go_roundw
          case rel =>
           obtain ⟨x,hx⟩:∃x:Nat,(x:Int)=(y:Int)-(c0:Int)-(tt:Int)+256:=⟨((y:Int)-(c0:Int)-(tt:Int)+256).toNat,by omega⟩;have hx8:x<256:=by omega
           rw [←hx];have e:=ld_sub X D Y j k G cc tt x 1 HY.out (by rw [←HDD2.out,←HM2.out,←HC0.out,Nat.add_comm j k,←HYY.out];omega);rw [←HDD2.out,←HM2.out,Nat.add_comm j k] at e;exact ⟨k+1,(cc+m2) / 256,1,setd Y (k+j) x,by omega,by omega,by omega,by go_num,vi (by omega),rfl,e,(setd_div Y (k+j) x _ hx8 (by omega)).trans HYU.out,hD.other _ _ hne,digs_put hR (k+j) x hx8,hq.other _ _ (Ne.symm hnq2),hbel.setCell HBRE.out _⟩
          case measure=>simp [intOf];omega
         ·go_wp2;go_roundw
          case rel =>
           obtain ⟨x,hx⟩:∃x:Nat,(x:Int)=(y:Int)-(c0:Int)-(tt:Int):=⟨((y:Int)-(c0:Int)-(tt:Int)).toNat,by omega⟩;have hx8:x<256:=by omega
           rw [←hx];have e:=ld_sub X D Y j k G cc tt x 0 HY.out (by rw [←HDD2.out,←HM2.out,←HC0.out,Nat.add_comm j k,←HYY.out];omega);rw [←HDD2.out,←HM2.out,Nat.add_comm j k] at e;exact ⟨k+1,(cc+m2) / 256,0,setd Y (k+j) x,by omega,by omega,by omega,by go_num,vi (by omega),rfl,e,(setd_div Y (k+j) x _ hx8 (by omega)).trans HYU.out,hD.other _ _ hne,digs_put hR (k+j) x hx8,hq.other _ _ (Ne.symm hnq2),hbel.setCell HBRE.out _⟩
          case measure=>simp [intOf];omega
        ·obtain rfl:k=(E b).size:=by omega
         clear hk hlk;have c1:=digs_cell hR (j+(E b).size) hjn;have hu9:Y / 256^(j+(E b).size)%256=u:=by rw [HYU.out,Nat.mod_eq_of_lt hu8]
         rw [hu9] at c1;clear hu9
         have HH0:Hid ((Y:Int)+(((u:Int)-cc-tt)-u)*((256^(j+(E b).size):Nat):Int)=X-G*((D*256^j:Nat):Int)):=by
          refine ld_first Y X G (D*256^j) (256^(j+(E b).size)) u cc tt ?_;have:=HY.out;rw [Nat.mod_eq_of_lt HDlt.out,Nat.mul_assoc] at this;exact this
         go_wp2;clear c1 HY;go_loopw [18,23] (fun g tp wr=>∃(G Y:Nat) (T:Int),G≤255∧-300≤T∧T≤300∧g=.int .i64 G∧tp=.int .i64 T∧Hid ((Y:Int)+(T-u)*((256^(j+(E b).size):Nat):Int)=X-G*((D*256^j:Nat):Int))∧Hid (X<(G+1)*(D*256^j))∧Hid (Y / 256^(j+(E b).size)=u)∧Blk wr bd 3 (i64s (digs D (E b).size))∧Blk wr br 3 (i64s (digs Y M))∧Blk wr bq 5 (u8s (l++List.replicate (j+1) 0))∧Below w.heap.size w wr) (fun g _ _=>(intOf g).toNat)
         case atStart=>exact ⟨G,Y,_,hGb,by omega,by omega,rfl,rfl,HH0.out,HG1.out,HYU.out,hD,hR,hq,hbel⟩
         case round =>
          clear hD hR hq hbel HG1 HH0 HYU hGb hcc htt;obtain ⟨G',Y',T,hGb,hT1,hT2,rfl,rfl,HH,HG1,HYU,hD,hR,hq,hbel⟩:=hrel
          have HWM:Hid (D*256^j≤256^(j+(E b).size)):=by
           rw [Hid,Nat.pow_add,Nat.mul_comm];exact Nat.mul_le_mul_left _ (Nat.le_of_lt HDlt.out)
          by_cases hT:T<0
          ·have HN:Hid (X<G'*(D*256^j)):=ld_neg Y' X G' _ _ u T HYU.out HH.out (p256 _) hT
           have hG0:0<G':=by
            rcases Nat.eq_zero_or_pos G' with h | h
            ·exact absurd HN.out (by rw [h,Nat.zero_mul];exact Nat.not_lt_zero _)
            ·exact h
           go_wp2;go_loopw [24,212] (fun c i wr=>∃k cc Y2:Nat,k≤(E b).size∧cc≤1∧i=.int .i64 k∧c=.int .i64 cc∧Hid (Y2+cc*256^(j+k)=Y'+D%256^k*256^j)∧Hid (Y2 / 256^(j+(E b).size)=u)∧Blk wr bd 3 (i64s (digs D (E b).size))∧Blk wr br 3 (i64s (digs Y2 M))∧Blk wr bq 5 (u8s (l++List.replicate (j+1) 0))∧Below w.heap.size w wr) (fun _ i _=>(E b).size-(intOf i).toNat)
           case atStart=>exact ⟨0,0,Y',by omega,by omega,rfl,rfl,by unfold Hid;simp [Nat.mod_one],HYU.out,hD,hR,hq,hbel⟩
           case round =>
            clear hD hR hq hbel;obtain ⟨k,cc,Y2,hk,hcc,rfl,rfl,HY2,HYU2,hD,hR,hq,hbel⟩:=hrel;by_cases hlk:k<(E b).size
            ·have c1:=digs_cell hR (k+j) (by omega);have c2:=digs_cell hD k hlk;have hfr:=hR.free (k+j);obtain ⟨y,hy⟩:∃y,y=Y2 / 256^(k+j)%256:=⟨_,rfl⟩;obtain ⟨d,hd⟩:∃d,d=D / 256^k%256:=⟨_,rfl⟩;have hy8:y<256:=by rw [hy];exact Nat.mod_lt _ (by decide)
             have hd8:d<256:=by rw [hd];exact Nat.mod_lt _ (by decide)
             rw [←hy] at c1;rw [←hd] at c2;have HYY:=Lib.hid hy;have HDD2:=Lib.hid hd;clear hy hd;obtain ⟨v,hv⟩:∃v,v=cc+(y+d):=⟨_,rfl⟩;have HV:=Lib.hid hv;have hvb:v≤600:=by omega
             have hvI:(cc:Int)+((y:Int)+(d:Int))=(v:Int):=by omega
             have hand:bits BinOp.and IntKind.i64 (v:Int) 255=((v%256:Nat):Int):=by rw [i64_and255];omega
             obtain ⟨v0,hv0⟩:∃v0,v0=v%256:=⟨_,rfl⟩;rw [←hv0] at hand;have HV0:=Lib.hid hv0;have hv08:v0<256:=by omega
             clear hv0 hv;have q1:IntKind.i64.wrap ((k:Int)+(j:Int))=(k:Int)+(j:Int):=IntWalk.i64_in _ (by omega);have q2:((k:Int)+(j:Int)).toNat=k+j:=by omega
             have q3:0≤(k:Int)+(j:Int):=by omega
             have q4:(k:Int)+(j:Int)<(M:Int):=by omega
             have q5:(k:Int)<((E b).size:Int):=by omega
             have q6:IntKind.i64.wrap ((y:Int)+(d:Int))=(y:Int)+(d:Int):=IntWalk.i64_in _ (by omega);have q7:IntKind.i64.wrap (v:Int)=(v:Int):=IntWalk.i64_in _ (by omega);go_wp2_with fail
             refine wp_region_still_tail 13 (by kernel_rfl) (by kernel_rfl) ?_;simp only [List.take_succ_cons,List.take_zero,List.drop_succ_cons,List.drop_zero];repeat still_step
             refine wpStill_nil ?_;change wpList _ _ _ _ _ wr.drew
             clear q1 q2 q3 q4 q5 q6 q7;go_wp2;go_roundw
             case rel =>
              have e:=ld_add Y' D Y2 j k cc HY2.out;rw [Nat.add_comm j k,←HDD2.out,←HYY.out,←HV.out,←HV0.out] at e;exact ⟨k+1,v / 256,setd Y2 (k+j) v0,by omega,by omega,by go_num,vi (by omega),e,(setd_div Y2 (k+j) v0 _ hv08 (by omega)).trans HYU2.out,(hD.other _ _ hne),digs_put hR (k+j) v0 hv08,(hq.other _ _ (Ne.symm hnq2)),(hbel.drew.setCell HBRE.out _)⟩
             case measure=>simp [intOf];omega
            ·obtain rfl:k=(E b).size:=by omega
             go_wp2;go_roundw
             case rel =>
              have hb:=HY2.out;rw [Nat.mod_eq_of_lt HDlt.out] at hb;have e:=ld_back Y' Y2 X G' (D*256^j) (256^(j+(E b).size)) u cc T HH.out hG0 hb;exact ⟨G'-1,Y2,T+cc,by omega,by omega,by omega,vi (by omega),rfl,e,by rw [Hid,show G'-1+1=G' by omega];exact HN.out,HYU2,hD,hR,hq,hbel⟩
             case measure=>simp [intOf];omega
          ·obtain ⟨rfl,HX1,HX2⟩:=ld_exit Y' X G' _ _ u T HYU.out HH.out HG1.out HWM.out (p256 _) hT;have HX1:=Lib.hid HX1;have HX2:=Lib.hid HX2;have HL2:=HL.out;have hfr:=hR.free (j+(E b).size);have c1:=digs_cell hR (j+(E b).size) hjn;have hfq:=hq.free (Q-1-j)
           have cq:wr.cell? ⟨bq,Q-1-j,none⟩=some (.int .u8 0):=by
            rw [hq.cell,show Q-1-j=l.length by omega];simp [u8s,u8v]
           have hne2:bq≠br:=Ne.symm hnq2;go_wp2;go_roundw
           case rel =>
            have e8:(UInt8.ofNat G').toNat=G':=by rw [UInt8.toNat_ofNat',Nat.mod_eq_of_lt (by omega)]
            have ev:Value.int .u8 (G':Int)=u8v (UInt8.ofNat G'):=by rw [u8v,e8]
            rw [ev];refine ⟨j,X-G'*(D*256^j),l++[UInt8.ofNat G'],(j:Int)-1,by omega,rfl,rfl,by rw [List.length_append,List.length_singleton];omega,?_,?_,(hD.other _ _ hne).other _ _ hnq1,?_,?_,(hbel.setCell HBRE.out _).setCell HBQE.out _⟩
            ·rw [val_snoc,e8];exact ld_next (val l) A D X G' j HVAL.out HX1.out
            ·have h1:=HG1.out;have h2:=HX1.out;rw [Nat.add_mul,Nat.one_mul] at h1;omega
            ·have h1:=digs_put hR (j+(E b).size) 0 (by decide);rw [setd_top Y' _ u HYU.out hu8,HX2.out] at h1;exact h1.other _ _ hnq2
            ·have h1:=(hq.other ⟨br,j+(E b).size,none⟩ (.int .i64 0) hne2).set (Q-1-j) (u8v (UInt8.ofNat G'))
             have e9:(l++List.replicate (j+1) (0:UInt8)).set (Q-1-j) (UInt8.ofNat G')=(l++[UInt8.ofNat G'])++List.replicate j 0:=by
              rw [show Q-1-j=l.length by omega,List.replicate_succ,List.set_append_right _ _ (Nat.le_refl _)];simp
             rw [u8s_set,e9] at h1;exact h1
           case measure=>simp [intOf] <;> omega
      | zero =>
       have hz2:z<0:=by omega
       have hzd:decide (0≤z)=false:=decide_eq_false (by omega);clear hz1;have hXD:X<D:=by simpa using hX
       have HXD:=Lib.hid hXD;have hmk:=run_mk (P:=Tryz.prog) Tryz.underlying122 info_u8 (E b).size (by omega) (by omega);clear hX hXD hi;go_wp2;clear hmk;obtain ⟨bt,hbt⟩:∃bt,bt=wr.heap.size:=⟨_,rfl⟩;have HBTE:Hid (w.heap.size≤bt):=by rw [Hid,hbt];exact hbel.size
       have hnt1:br≠bt:=by have:=hR.lt;omega
       have hnt2:bq≠bt:=by have:=hq.lt;omega
       have ht0:Blk (wr.alloc (.cells (Array.replicate (E b).size (Value.int .u8 0)) 5)) wr.heap.size 5 (u8s (List.replicate (E b).size 0)):=by
        have:=Blk.new wr (Array.replicate (E b).size (Value.int .u8 0)) 5;simpa [u8s,u8v] using this
       replace hR:=hR.alloc (.cells (Array.replicate (E b).size (Value.int .u8 0)) 5);replace hq:=hq.alloc (.cells (Array.replicate (E b).size (Value.int .u8 0)) 5);replace hbel:=hbel.alloc hbel.size (.cells (Array.replicate (E b).size (Value.int .u8 0)) 5);generalize wr.alloc (.cells (Array.replicate (E b).size (Value.int .u8 0)) 5)=w4 at hR hq hbel ht0 ⊢;rw [←hbt] at ht0 ⊢;clear hbt hD;go_loopw [259] (fun i wr=>∃(k:Nat) (t:List UInt8),k≤(E b).size∧i=.int .i64 k∧t.length=k∧Hid (val t=X / 2^s%256^k)∧Blk wr br 3 (i64s (digs X M))∧Blk wr bq 5 (u8s (l++List.replicate 0 0))∧Blk wr bt 5 (u8s (List.replicate ((E b).size-k) 0++t))∧Below w.heap.size w wr) (fun i _=>(E b).size-(intOf i).toNat)
       case atStart=>exact ⟨0,[],by omega,rfl,rfl,by unfold Hid;simp [val_nil,Nat.mod_one],hR,hq,by simpa using ht0,hbel⟩
       case round =>
        clear hR hq hbel ht0;obtain ⟨k,t,hk,rfl,htl,hvt,hR,hq,ht,hbel⟩:=hrel;have HTL:=Lib.hid htl;clear htl;by_cases hlk:k<(E b).size
        ·have c1:=digs_cell hR k (by omega);have c2:=digs_cell hR (k+1) (by omega);have hcell:=front_cell ht hlk rfl;have hfr:=ht.free ((E b).size-1-k);obtain ⟨y,hy⟩:∃y,y=X / 256^k%256:=⟨_,rfl⟩;obtain ⟨d,hd⟩:∃d,d=X / 256^(k+1)%256:=⟨_,rfl⟩;have hy8:y<256:=by rw [hy];exact Nat.mod_lt _ (by decide)
         have hd8:d<256:=by rw [hd];exact Nat.mod_lt _ (by decide)
         rw [←hy] at c1;rw [←hd] at c2;have HYY:=Lib.hid hy;have HDD2:=Lib.hid hd;clear hy hd;have hk1:(k:Int)+1<(M:Int):=by omega
         have hor:bits BinOp.or IntKind.i64 (y:Int) ((d:Int)*256)=((y ||| d*256:Nat):Int):=by
          have:=i64_or y (d*256) (by omega) (by omega);rw [Int.natCast_mul] at this;exact this
         go_wp2;go_roundw
         case rel =>
          rw [byteI ((y ||| d*256) / 2^s) _ (by rw [Int.natCast_ediv];simp)];refine ⟨k+1,UInt8.ofNat ((y ||| d*256) / 2^s%256) :: t,by omega,by go_num,by rw [List.length_cons,HTL.out],?_,hR.other _ _ hnt1,hq.other _ _ hnt2,front_set ht hlk rfl _,hbel.setCell HBTE.out _⟩;rw [Hid,val_byte_cons _ k t HTL.out,hvt.out,HYY.out,HDD2.out,shr_dig X s k (by omega),mod_succ]
         case measure=>simp [intOf];omega
        ·obtain rfl:k=(E b).size:=by omega
         have hv2:val t=X / 2^s:=by rw [hvt.out,Nat.mod_eq_of_lt (Nat.lt_of_le_of_lt (Nat.div_le_self _ _) (Nat.lt_trans HXD.out HDlt.out))]
         obtain ⟨r1,r2'⟩:=ld_end (val l) a b s X (by have:=HVAL.out;rw [Nat.pow_zero,Nat.one_mul,HAA.out,HDD.out] at this;exact this) (by rw [←HDD.out];exact HXD.out);have HE1:=Lib.hid r1;have HE2:Hid (val t=a%b):=by rw [Hid,hv2,r2']
         have hrq:Row wr bq 0 l:=by
          have:=hq.row;simpa using this
         have hrt:Row wr bt 0 t:=by
          have:=ht.row;simpa using this
         have hlQ:l.length=Q:=by have:=HL.out;omega
         clear hk hlk hv2 r1 r2' hvt hq ht hR;have k1:=trimmed_c bq 0 Q l wr (by omega) (by omega) hrq;rw [hlQ,HE1.out] at k1;have k2:=trimmed_c bt 0 (E b).size t wr (by rw [HTL.out];omega) (by omega) hrt;rw [HTL.out,HE2.out] at k2;have K1:=Lib.hid k1;have K2:=Lib.hid k2;clear k1 k2 hrq hrt hlQ;go_wp2_with fail
         refine K1.out.mono ?_;rintro e w' ⟨rfl,rfl⟩;go_wp2_with fail
         refine K2.out.mono ?_;rintro e w' ⟨rfl,rfl⟩;go_wp2;go_ret2
         exact ⟨rfl,hbel⟩
theorem dividedA_c (a b:Nat) (w:World) (ha:a<256^128) (hb:b<256^128) (h0:0<b) :
  Calls Tryz.prog 129 #[.string (E a),.string (E b)] w fun e w'=>e=.returned (.tuple #[.string (E (a / b)),.string (E (a%b))])∧Below w.heap.size w w':=by
 by_cases h8:(E a).size≤8
 ·exact divided_c a b w ((E_size_le a 8).1 h8) hb h0
 ·by_cases hlt:a<b
  ·have h1:=sz a ha;have h2:=sz b hb;have hc:=cmp_neg a b hlt;have H1:=Lib.hid (Nat.div_eq_of_lt hlt);have H2:=Lib.hid (Nat.mod_eq_of_lt hlt);clear ha hb h0 hlt;go_enter Tryz.func129,Tryz.ntmps129
   go_wp2_with fail
   refine (compare_c a b _ (by omega) (by omega)).mono ?_;rintro e w' ⟨rfl,rfl⟩;go_wp2;go_ret2
   exact ⟨r2 (vE H1.out.symm) (vE H2.out.symm),Below.refl _ _⟩
  ·exact ldiv_c a b w ha (by omega) hb h0 (by omega)
theorem divmodA_c (a b:Nat) (w:World) (ha:a<256^128) (hb:b<256^128) (h0:0<b) :
  Calls Tryz.prog 98 #[.string (E a),.string (E b)] w fun e w'=>e=.returned (.tuple #[.string (E (a / b)),.string (E (a%b)),.int .i64 0])∧Below w.heap.size w w':=by
 have HA:=Lib.hid ha;have HB:=Lib.hid hb;have H0:=Lib.hid h0;have hz:=nzE h0;clear ha hb h0;go_enter Tryz.func98,Tryz.ntmps98
 go_wp2_with fail
 refine (validE_c a _ HA.out).mono ?_;rintro e w' ⟨rfl,rfl⟩;go_wp2_with fail
 refine (validE_c b _ HB.out).mono ?_;rintro e w' ⟨rfl,rfl⟩;go_wp2_with fail
 refine (dividedA_c a b _ HA.out HB.out H0.out).mono ?_;rintro e w1 ⟨rfl,hb1⟩;go_wp2;go_ret3
 exact ⟨rfl,hb1⟩
end Go.Proofs.YtdoacbdkbbpamaaGreatDoor
