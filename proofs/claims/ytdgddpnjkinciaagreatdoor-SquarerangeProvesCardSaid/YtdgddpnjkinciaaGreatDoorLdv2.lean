import Derived.Test.YtdgddpnjkinciaaGreatDoorLdvl
set_option linter.all false
set_option maxRecDepth 100000
set_option maxHeartbeats 16000000
namespace Go.Proofs.YtdgddpnjkinciaaGreatDoor
open Go.RowKit
theorem ldiv_c (a b:Nat) (w:World) (ha:a<256^128) (h8:8<(E a).size) (hb:b<256^128) (h0:0<b) (HD:b≤a) :
  Calls Tryz.prog 165 #[.string (E a),.string (E b)] w fun e w'=>e=.returned (.tuple #[.string (E (a / b)),.string (E (a%b))])∧Bw w w':=by
 have h1:=sz a ha;have h2:=sz b hb;have hc:=cmp_nneg a b HD;have hz:=(E_size_pos b).2 h0;obtain⟨m,hm⟩:∃m,m=(E a).size:=⟨_,rfl⟩;obtain⟨n,hn⟩:∃n,n=(E b).size:=⟨_,rfl⟩;have Hf:=firstb b hz;have hx1:b / 256^(n-1)<256:=by rw[hn,←Hf];have:=(E b)[0].toNat_lt;omega
 have hx0:b / 256^(n-1)≠0:=by
  rw[hn,E_size];have:=(first_byte b h0).1;omega
 obtain⟨s,hs,Hg,Hh⟩:=lz8_spec ⟨b / 256^(n-1),hx1⟩ hx0;obtain⟨s,h7⟩:=s;simp only at hs Hg Hh;obtain⟨jo,HE,hJ⟩:=scale_spec b s n hn h0 Hg Hh;have HF:Hid ((E b)[0].toNat=b / 256^(n-1)):=by rw[Hid,hn];exact Hf
 have HS:=Kh hs;have HG:=Kh HE;have hV:=Kh hJ
 have jd:Hid (∀w,Calls Tryz.prog 197 #[.int .u8 ((E b)[0].toNat:Int)] w fun e w'=>e=.returned (.int .i64 (s:Int))∧w=w'):=fun w=>by
  have:=lz8_c (E b)[0].toNat w (by have:=(E b)[0].toNat_lt;omega);rw[HF.out,HS.out]at this;rw[HF.out];exact this
 clear Hf hx1 hx0 hs Hg Hh HE hJ;go_enter Tryz.func165,Tryz.ntmps165
 go_wp2_with fail
 refine (compare_c a b _ (by omega) (by omega)).mono ?_;rintro e w' ⟨rfl,rfl⟩;go_wp2_with fail
 refine (jd.out _).mono ?_;rintro e w' ⟨rfl,rfl⟩;have hF:=run_mk (P:=Tryz.prog) Tryz.underlying226 info_int (E b).size (by omega) (by omega);go_wp2;clear hF;obtain⟨bd,hbd⟩:∃bd,bd=w.heap.size:=⟨_,rfl⟩;have hL:Hid (w.heap.size≤bd):=Nat.le_of_eq hbd.symm;have hg:=blk_digs w (E b).size;have ho:=b1' w (.cells (Array.replicate (E b).size (Value.int .i64 0)) 3);generalize w.alloc (.cells (Array.replicate (E b).size (Value.int .i64 0)) 3)=w1 at hg ho ⊢;rw[←hbd]at hg ⊢;clear hbd;go_loopw [63] (fun x wr=>∃k:Nat,k≤(E b).size∧x=.int .i64 k∧Blk wr bd 3 (i64s (digs (b*2^s%256^k) ((E b).size)))∧Bw w wr) (fun x _=>(E b).size-(intOf x).toNat)
 case atStart=>exact⟨0,by omega,rfl,by rw[Nat.pow_zero,Nat.mod_one];exact hg,ho⟩
 case round =>
  obtain⟨k,hk,rfl,hf,he⟩:=hrel;by_cases hlt:k<(E b).size
  ·have hd:=dgt_lt (E b) k;have hH:=hf.free k;have hj:=digs_cell hf k hlt;obtain⟨v0,hw⟩:∃v0,v0=dgt (E b) k*2^s%256:=⟨_,rfl⟩;have HV:Hid (bits BinOp.and IntKind.i64 (wrap64 ((dgt (E b) k:Int)*2^s)) 255=(v0:Int)):=by rw[Hid,hw];exact shl_val _ _ hd h7
   have hN:=Kh hw;have hh:v0<256:=by rw[hw];exact Nat.mod_lt _ (by decide)
   clear hw;by_cases k0:k=0
   ·have Hi:decide (0<k)=false:=decide_eq_false (by omega);have K0:=Kh k0;clear k0;go_wp2_with fail
    refine (digit_c (E b) k _ (by omega) (by omega) (by omega)).mono ?_;rintro e w' ⟨rfl,rfl⟩;rw[Int.toNat_natCast];go_wp2;go_roundw
    case rel =>
     rw[HV.out];refine⟨k+1,by omega,by go_num,?_,he.setCell hL.out _⟩;have:=digs_put hf k v0 hh;have k0:=K0.out;have e0:v0=b*2^s / 256^k%256:=by rw[hN.out,dgt_E,k0,shl_dig0,Nat.pow_zero,Nat.div_one]
     have e1:setd (b*2^s%256^k) k v0=b*2^s%256^(k+1):=by rw[e0,setd_fill]
     rw[e1]at this;exact this
    case measure=>simp[intOf];omega
   ·have Hi:decide (0<k)=true:=Dt (by omega);have K0:Hid (0<k):=Nat.pos_of_ne_zero k0;clear k0;go_wp2_with fail
    refine (digit_c (E b) k _ (by omega) (by omega) (by omega)).mono ?_;rintro e w' ⟨rfl,rfl⟩;rw[Int.toNat_natCast];go_wp2;rw[HV.out];have hI:=digs_put hf k v0 hh;replace he:=he.setCell hL.out (p:=⟨bd,k,none⟩) (.int .i64 (v0:Int));generalize wr.setCell ⟨bd,k,none⟩ (.int .i64 (v0:Int))=wx at hI he  ⊢;clear hf hH hj;have hH:=hI.free k;have hj:=digs_cell hI k hlt;rw[setd_dig _ _ _ _ hh,if_pos rfl]at hj;have q1:IntKind.i64.wrap ((k:Int)-1)=(k:Int)-1:=IntWalk.i64_in _ (by omega);have q2:IntKind.i64.wrap (8-(s:Int))=8-(s:Int):=IntWalk.i64_in _ (by omega);refine wp_region_still_tail 12 (by kernel_rfl) (by kernel_rfl) ?_;simp only[List.take_succ_cons,List.take_zero,List.drop_succ_cons,List.drop_zero];have k1:0≤(k:Int)-1:=by have:=K0.out;omega
    repeat still_step
    still_call (digz_c (E b) ((k:Int)-1) _ (by omega) k1 (by omega))
    repeat still_step
    refine wpStill_nil ?_;change wpList _ _ _ _ _ wx.drew
    go_wp2;go_roundw
    case rel =>
     rw[or_val b s k v0 h7 K0.out hN.out];refine⟨k+1,by omega,by go_num,?_,(he.setCell hL.out _).drew⟩;have:=digs_put hI k (b*2^s / 256^k%256) (Nat.mod_lt _ (by decide));rw[setd_setd _ _ _ _ hh,setd_fill]at this;exact this
    case measure=>simp[intOf];omega
  ·obtain rfl:k=(E b).size:=by omega
   obtain⟨D,hW⟩:∃D,D=b*2^s:=⟨_,rfl⟩;rw[Nat.mod_eq_of_lt (show b*2^s<256^(E b).size by have:=HG.out;rw[hn]at this;exact this)]at hf;obtain⟨M,hM⟩:∃M,M=(E a).size+1:=⟨_,rfl⟩;have HM:Hid (((E a).size:Int)+1=(M:Int)):=by unfold Hid;omega
   have HI:=Kh hM;have jp:M≤129:=by omega
   have Hj:M=(E a).size+1:=hM;have hF:=run_mk (P:=Tryz.prog) Tryz.underlying226 info_int M (by omega) (by omega);rw[←HM.out]at hF;clear hM Hj hlt hk;go_wp2;clear hF;rw[HM.out];obtain⟨br,Hk⟩:∃br,br=wr.heap.size:=⟨_,rfl⟩;have hr:Hid (w.heap.size≤br):=by rw[Hid,Hk];exact he.size
   have hO:bd≠br:=by have:=hf.lt;omega
   have hg:=blk_digs wr M;have hD:=hf.alloc (.cells (Array.replicate M (Value.int .i64 0)) 3);have ho:=he.alloc he.size (.cells (Array.replicate M (Value.int .i64 0)) 3);clear hf he hg;have hg:=blk_digs wr M;generalize wr.alloc (.cells (Array.replicate M (Value.int .i64 0)) 3)=w2 at hg ho hD ⊢;rw[←Hk]at hg ⊢;clear Hk;go_loopw [97] (fun x wr=>∃k:Nat,k≤M∧x=.int .i64 k∧Blk wr br 3 (i64s (digs (a*2^s%256^k) (M)))∧Blk wr bd 3 (i64s (digs (b*2^s) (E b).size))∧Bw w wr) (fun x _=>M-(intOf x).toNat)
   case atStart=>exact⟨0,by omega,rfl,by rw[Nat.pow_zero,Nat.mod_one];exact hg,hD,ho⟩
   case round =>
    obtain⟨k,hk,rfl,hf,hD,he⟩:=hrel;by_cases hlt:k<M
    ·have hd:=dgt_lt (E a) k;have hH:=hf.free k;have hj:=digs_cell hf k hlt;obtain⟨v0,hw⟩:∃v0,v0=dgt (E a) k*2^s%256:=⟨_,rfl⟩;have HV:Hid (bits BinOp.and IntKind.i64 (wrap64 ((dgt (E a) k:Int)*2^s)) 255=(v0:Int)):=by rw[Hid,hw];exact shl_val _ _ hd h7
     have hN:=Kh hw;have hh:v0<256:=by rw[hw];exact Nat.mod_lt _ (by decide)
     clear hw;by_cases k0:k=0
     ·have Hi:decide (0<k)=false:=decide_eq_false (by omega);have K0:=Kh k0;clear k0;go_wp2_with fail
      refine (digit_c (E a) k _ (by omega) (by omega) (by omega)).mono ?_;rintro e w' ⟨rfl,rfl⟩;rw[Int.toNat_natCast];go_wp2;go_roundw
      case rel =>
       rw[HV.out];refine⟨k+1,by omega,by go_num,?_,hD.other _ _ hO,he.setCell hr.out _⟩;have:=digs_put hf k v0 hh;have k0:=K0.out;have e0:v0=a*2^s / 256^k%256:=by rw[hN.out,dgt_E,k0,shl_dig0,Nat.pow_zero,Nat.div_one]
       have e1:setd (a*2^s%256^k) k v0=a*2^s%256^(k+1):=by rw[e0,setd_fill]
       rw[e1]at this;exact this
      case measure=>simp[intOf];omega
     ·have Hi:decide (0<k)=true:=Dt (by omega);have K0:Hid (0<k):=Nat.pos_of_ne_zero k0;clear k0;go_wp2_with fail
      refine (digit_c (E a) k _ (by omega) (by omega) (by omega)).mono ?_;rintro e w' ⟨rfl,rfl⟩;rw[Int.toNat_natCast];go_wp2;rw[HV.out];have hI:=digs_put hf k v0 hh;replace hD:=hD.other ⟨br,k,none⟩ (.int .i64 (v0:Int)) hO;replace he:=he.setCell hr.out (p:=⟨br,k,none⟩) (.int .i64 (v0:Int));generalize wr.setCell ⟨br,k,none⟩ (.int .i64 (v0:Int))=wx at hI he hD ⊢;clear hf hH hj;have hH:=hI.free k;have hj:=digs_cell hI k hlt;rw[setd_dig _ _ _ _ hh,if_pos rfl]at hj;have q1:IntKind.i64.wrap ((k:Int)-1)=(k:Int)-1:=IntWalk.i64_in _ (by omega);have q2:IntKind.i64.wrap (8-(s:Int))=8-(s:Int):=IntWalk.i64_in _ (by omega);refine wp_region_still_tail 12 (by kernel_rfl) (by kernel_rfl) ?_;simp only[List.take_succ_cons,List.take_zero,List.drop_succ_cons,List.drop_zero];have k1:0≤(k:Int)-1:=by have:=K0.out;omega
      repeat still_step
      still_call (digz_c (E a) ((k:Int)-1) _ (by omega) k1 (by omega))
      repeat still_step
      refine wpStill_nil ?_;change wpList _ _ _ _ _ wx.drew
      go_wp2;go_roundw
      case rel =>
       rw[or_val a s k v0 h7 K0.out hN.out];refine⟨k+1,by omega,by go_num,?_,hD.other ⟨br,k,none⟩ _ hO,(he.setCell hr.out _).drew⟩;have:=digs_put hI k (a*2^s / 256^k%256) (Nat.mod_lt _ (by decide));rw[setd_setd _ _ _ _ hh,setd_fill]at this;exact this
      case measure=>simp[intOf];omega
    ·obtain rfl:M=k:=by omega
     obtain⟨A,hA⟩:∃A,A=a*2^s:=⟨_,rfl⟩;have HJ:a*2^s<256^M:=by rw[HI.out,Nat.pow_succ];exact Nat.mul_lt_mul'' (E_lt a) (Nat.lt_of_le_of_lt (Nat.pow_le_pow_right (by decide) (show s≤7 by omega)) (by decide))
     rw[Nat.mod_eq_of_lt HJ,←hA]at hf;rw[←hW]at hD;have jq:(E b).size≤(E a).size:=(E_size_le b _).2 (Nat.lt_of_le_of_lt HD (E_lt a));obtain⟨Q,hQ⟩:∃Q,Q=(E a).size-(E b).size+1:=⟨_,rfl⟩;have HQ:Hid (((E a).size:Int)-((E b).size:Int)+1=(Q:Int)):=by unfold Hid;omega
     have je:Hid (((E a).size:Int)-((E b).size:Int)=(Q:Int)-1):=by unfold Hid;omega
     have jr:=Kh hQ;have HK:=Kh hW;have jf:=Kh hA;have hB:Hid (D<256^(E b).size):=by rw[Hid,hW,←hn];exact HG.out
     have Hl:Hid (128≤D / 256^((E b).size-1)):=by rw[Hid,hW,←hn];exact hV.out
     have Hm:Hid (A<D*256^Q):=by
      have g1:128*256^((E b).size-1)≤D:=by have:=Hl.out;rw[Nat.le_div_iff_mul_le (p256 _)]at this;exact this
      have g2:128*256^((E b).size-1)*256^Q≤D*256^Q:=Nat.mul_le_mul_right _ g1;rw[Nat.mul_assoc,←Nat.pow_add,show (E b).size-1+Q=(E a).size by omega]at g2;have g3:a*2^s<256^(E a).size*2^s:=Nat.mul_lt_mul_of_pos_right (E_lt a) (Nat.pow_pos (by decide));have g4:256^(E a).size*2^s≤256^(E a).size*128:=Nat.mul_le_mul_left _ (Nat.pow_le_pow_right (by decide) (show s≤7 by omega));unfold Hid;rw[hA];omega
     have js:1≤Q:=by omega
     have jt:Q+(E b).size=M:=by have:=HI.out;omega
     have hF:=run_mk (P:=Tryz.prog) Tryz.underlying137 info_u8 Q (by omega) (by omega);rw[←HQ.out]at hF;clear hA hW hQ HJ hlt hk;go_wp2;clear hF;rw[HQ.out];obtain⟨bq,Hn⟩:∃bq,bq=wr.heap.size:=⟨_,rfl⟩;have Ho:Hid (w.heap.size≤bq):=by rw[Hid,Hn];exact he.size
     have Hp:bd≠bq:=by have:=hD.lt;omega
     have hC:br≠bq:=by have:=hf.lt;omega
     have h9:Blk (wr.alloc (.cells (Array.replicate Q (Value.int .u8 0)) 5)) wr.heap.size 5 (u8s (List.replicate Q 0)):=by
      have:=Blk.new wr (Array.replicate Q (Value.int .u8 0)) 5;simpa [u8s,u8v] using this
     replace hD:=hD.alloc (.cells (Array.replicate Q (Value.int .u8 0)) 5);replace hf:=hf.alloc (.cells (Array.replicate Q (Value.int .u8 0)) 5);replace he:=he.alloc he.size (.cells (Array.replicate Q (Value.int .u8 0)) 5);generalize wr.alloc (.cells (Array.replicate Q (Value.int .u8 0)) 5)=w3 at hD hf he h9 ⊢;rw[←Hn]at h9 ⊢;clear Hn;go_loopw [17] (fun x wr=>∃(i X:Nat) (l:List UInt8) (z:Int),i≤Q∧x=.int .i64 z∧z=(i:Int)-1∧l.length=Q-i∧val l*(256^i*D)+X=A∧X<D*256^i∧Blk wr bd 3 (i64s (digs D (E b).size))∧Blk wr br 3 (i64s (digs X M))∧Blk wr bq 5 (u8s (l++List.replicate i 0))∧Bw w wr) (fun x _=>(intOf x+1).toNat)
     case atStart=>exact⟨Q,A,[],_,Nat.le_refl _,rfl,je.out,by simp,by simp[val_nil],Hm.out,hD,hf,by simpa using h9,he⟩
     case round =>
      clear hD hf h9 he;obtain⟨i,X,l,z,hi,rfl,HO,hl,hY,hX,hD,hR,hq,he⟩:=hrel;have HL:=Kh hl;have hZ:=Kh hY;clear hl hY;cases i with
      | succ j =>
       obtain rfl:z=(j:Int):=by omega
       clear HO;have Hq:j+(E b).size<M:=by omega
       have jg:0<(E b).size:=hz;have HX:=Kh hX;clear hX;have c1:=digs_cell hR (j+(E b).size) Hq;have c2:=digs_cell hR (j+(E b).size-1) (by omega);have c3:=digs_cell hD ((E b).size-1) (by omega);have q1:IntKind.i64.wrap ((j:Int)+((E b).size:Int))=(j:Int)+((E b).size:Int):=IntWalk.i64_in _ (by omega);have q2:IntKind.i64.wrap ((j:Int)+((E b).size:Int)-1)=(j:Int)+((E b).size:Int)-1:=IntWalk.i64_in _ (by omega);have q3:IntKind.i64.wrap (((E b).size:Int)-1)=((E b).size:Int)-1:=IntWalk.i64_in _ (by omega);have q4:((j:Int)+((E b).size:Int)).toNat=j+(E b).size:=by omega
       have q5:((j:Int)+((E b).size:Int)-1).toNat=j+(E b).size-1:=by omega
       have q6:(((E b).size:Int)-1).toNat=(E b).size-1:=by omega
       have Hr:decide ((0:Int)≤(j:Int))=true:=Dt (by omega);go_wp2_with fail
       have q7:0≤(j:Int)+((E b).size:Int):=by omega
       have q8:(j:Int)+((E b).size:Int)<(M:Int):=by omega
       have q9:0≤(j:Int)+((E b).size:Int)-1:=by omega
       have q10:(j:Int)+((E b).size:Int)-1<(M:Int):=by omega
       have q11:0≤((E b).size:Int)-1:=by omega
       have q12:((E b).size:Int)-1<((E b).size:Int):=by omega
       have q13:(1:Int)≤(j:Int)+((E b).size:Int):=by omega
       have q14:(j:Int)+((E b).size:Int)≤(M:Int):=by omega
       have q15:(1:Int)≤((E b).size:Int):=by omega
       have q16:1≤(E b).size:=hz
       have HP:D / 256^((E b).size-1)<256:=by
        rw[Nat.div_lt_iff_lt_mul (p256 _)];have:=hB.out;rw[show (E b).size=(E b).size-1+1 by omega,Nat.pow_succ,Nat.mul_comm]at this;exact this
       obtain⟨u,hu⟩:∃u,u=X / 256^(j+(E b).size)%256:=⟨_,rfl⟩;obtain⟨v,hv⟩:∃v,v=X / 256^(j+(E b).size-1)%256:=⟨_,rfl⟩;obtain⟨t,ht⟩:∃t,t=D / 256^((E b).size-1)%256:=⟨_,rfl⟩;have Hs:Hid (t=D / 256^((E b).size-1)):=by rw[Hid,ht,Nat.mod_eq_of_lt HP]
       have HR:128≤t:=by have:=Hl.out;have:=Hs.out;omega
       have HT:t<256:=by rw[ht];exact Nat.mod_lt _ (by decide)
       have Ht:u<256:=by rw[hu];exact Nat.mod_lt _ (by decide)
       have HW:v<256:=by rw[hv];exact Nat.mod_lt _ (by decide)
       have hS:¬ t=0:=by omega
       have cz:((t:Int)==0)=false:=by rw[beq_eq_false_iff_ne];omega
       rw[←hu]at c1;rw[←hv]at c2;rw[←ht]at c3;have HU:=Kh hu;have HV:=Kh hv;clear hu hv ht HP;refine wp_region_still_tail 22 (by kernel_rfl) (by kernel_rfl) ?_;simp only[List.take_succ_cons,List.take_zero,List.drop_succ_cons,List.drop_zero];repeat still_step
       refine wpStill_nil ?_;change wpList _ _ _ _ _ wr.drew
       clear q1 q2 q3 q4 q5 q6 q7 q8 q9 q10 q11 q12 q13 q14 q15 q16;go_wp2;obtain⟨G,hG⟩:∃G,G=min ((u*256+v) / t) 255:=⟨_,rfl⟩
       have Hu:Hid (X<256^(j+(E b).size-1+2)):=by
        have g1:=HX.out;have g2:D*256^(j+1)≤256^(E b).size*256^(j+1):=Nat.mul_le_mul_right _ (Nat.le_of_lt hB.out);rw[←Nat.pow_add,show (E b).size+(j+1)=j+(E b).size-1+2 by omega]at g2;unfold Hid;omega
       have h3:Hid (X<(G+1)*(D*256^j)):=by
        have g1:=ld_guess X D j (E b).size hz (by have:=Hl.out;omega) HX.out;have g2:=dig_two X (j+(E b).size-1) Hu.out;rw[show j+(E b).size-1+1=j+(E b).size by omega,←HU.out,←HV.out]at g2;rw[g2,←Hs.out,←hG]at g1;exact g1
       have jh:Hid (X / 256^(j+(E b).size)=u):=by
        rw[Hid,HU.out,Nat.mod_eq_of_lt];rw[Nat.div_lt_iff_lt_mul (p256 _),show 256*256^(j+(E b).size)=256^(j+(E b).size-1+2) by rw[show j+(E b).size-1+2=j+(E b).size+1 by omega,Nat.pow_succ,Nat.mul_comm]];exact Hu.out
       have Ha:G≤255:=by omega
       rw[guess_val u v t Ht HW HR HT,←hG];clear hG cz hS HR HT HW HV Hs HU Hu c1 c2 c3 Hr;go_loopw [19,20,162] (fun c t i wr=>∃k cc tt Y:Nat,k≤(E b).size∧cc≤255∧tt≤1∧i=.int .i64 k∧c=.int .i64 cc∧t=.int .i64 tt∧Hid (Y+G*(D%256^k)*256^j=X+(cc+tt)*256^(j+k))∧Hid (Y / 256^(j+(E b).size)=u)∧Blk wr bd 3 (i64s (digs D (E b).size))∧Blk wr br 3 (i64s (digs Y M))∧Blk wr bq 5 (u8s (l++List.replicate (j+1) 0))∧Bw w wr) (fun _ _ i _=>(E b).size-(intOf i).toNat)
       case atStart=>exact⟨0,0,0,X,by omega,by omega,by omega,rfl,rfl,rfl,by unfold Hid;simp[Nat.mod_one],jh,hD,hR,hq,he.drew⟩
       case round =>
        clear hD hR hq he;obtain⟨k,cc,tt,Y,hk,HZ,ji,rfl,rfl,rfl,HY,hE,hD,hR,hq,he⟩:=hrel;by_cases hK:k<(E b).size
        ·have c1:=digs_cell hR (k+j) (by omega);have c2:=digs_cell hD k hK;have hH:=hR.free (k+j);obtain⟨y,hy⟩:∃y,y=Y / 256^(k+j)%256:=⟨_,rfl⟩;obtain⟨d,hd⟩:∃d,d=D / 256^k%256:=⟨_,rfl⟩;have H0:y<256:=by rw[hy];exact Nat.mod_lt _ (by decide)
         have H1:d<256:=by rw[hd];exact Nat.mod_lt _ (by decide)
         rw[←hy]at c1;rw[←hd]at c2;have hU:=Kh hy;have hp:=Kh hd;clear hy hd;obtain⟨m2,Hb⟩:∃m2,m2=G*d:=⟨_,rfl⟩;have ju:m2≤65025:=by rw[Hb];exact Nat.le_trans (Nat.mul_le_mul Ha (show d≤255 by omega)) (by decide)
         have jv:(G:Int)*(d:Int)=(m2:Int):=by rw[Hb,Int.natCast_mul]
         have Hc:=Kh Hb;clear Hb;have hP:bits BinOp.and IntKind.i64 ((cc:Int)+(m2:Int)) 255=(((cc+m2)%256:Nat):Int):=by rw[i64_and255];omega
         obtain⟨c0,Hv⟩:∃c0,c0=(cc+m2)%256:=⟨_,rfl⟩;have jw:c0<256:=by omega
         rw[←Hv]at hP;have H2:=Kh Hv;clear Hv;by_cases jj:(y:Int)-(c0:Int)-(tt:Int)<0
         ·go_wp2;go_roundw
          case rel =>
           obtain⟨x,hx⟩:∃x:Nat,(x:Int)=(y:Int)-(c0:Int)-(tt:Int)+256:=⟨((y:Int)-(c0:Int)-(tt:Int)+256).toNat,by omega⟩;have h4:x<256:=by omega
           rw[←hx];have e:=ld_sub X D Y j k G cc tt x 1 HY.out (by rw[←hp.out,←Hc.out,←H2.out,Nat.add_comm j k,←hU.out];omega);rw[←hp.out,←Hc.out,Nat.add_comm j k]at e;exact⟨k+1,(cc+m2) / 256,1,setd Y (k+j) x,by omega,by omega,by omega,by go_num,vi (by omega),rfl,e,(setd_div Y (k+j) x _ h4 (by omega)).trans hE.out,hD.other _ _ hO,digs_put hR (k+j) x h4,hq.other _ _ (Ne.symm hC),he.setCell hr.out _⟩
          case measure=>simp[intOf];omega
         ·go_wp2;go_roundw
          case rel =>
           obtain⟨x,hx⟩:∃x:Nat,(x:Int)=(y:Int)-(c0:Int)-(tt:Int):=⟨((y:Int)-(c0:Int)-(tt:Int)).toNat,by omega⟩;have h4:x<256:=by omega
           rw[←hx];have e:=ld_sub X D Y j k G cc tt x 0 HY.out (by rw[←hp.out,←Hc.out,←H2.out,Nat.add_comm j k,←hU.out];omega);rw[←hp.out,←Hc.out,Nat.add_comm j k]at e;exact⟨k+1,(cc+m2) / 256,0,setd Y (k+j) x,by omega,by omega,by omega,by go_num,vi (by omega),rfl,e,(setd_div Y (k+j) x _ h4 (by omega)).trans hE.out,hD.other _ _ hO,digs_put hR (k+j) x h4,hq.other _ _ (Ne.symm hC),he.setCell hr.out _⟩
          case measure=>simp[intOf];omega
        ·obtain rfl:k=(E b).size:=by omega
         clear hk hK;have c1:=digs_cell hR (j+(E b).size) Hq;have H3:Y / 256^(j+(E b).size)%256=u:=by rw[hE.out,Nat.mod_eq_of_lt Ht]
         rw[H3]at c1;clear H3
         have H4:Hid ((Y:Int)+(((u:Int)-cc-tt)-u)*((256^(j+(E b).size):Nat):Int)=X-G*((D*256^j:Nat):Int)):=by
          refine ld_first Y X G (D*256^j) (256^(j+(E b).size)) u cc tt ?_;have:=HY.out;rw[Nat.mod_eq_of_lt hB.out,Nat.mul_assoc]at this;exact this
         go_wp2;clear c1 HY;go_loopw [18,23] (fun g tp wr=>∃(G Y:Nat) (T:Int),G≤255∧-300≤T∧T≤300∧g=.int .i64 G∧tp=.int .i64 T∧Hid ((Y:Int)+(T-u)*((256^(j+(E b).size):Nat):Int)=X-G*((D*256^j:Nat):Int))∧Hid (X<(G+1)*(D*256^j))∧Hid (Y / 256^(j+(E b).size)=u)∧Blk wr bd 3 (i64s (digs D (E b).size))∧Blk wr br 3 (i64s (digs Y M))∧Blk wr bq 5 (u8s (l++List.replicate (j+1) 0))∧Bw w wr) (fun g _ _=>(intOf g).toNat)
         case atStart=>exact⟨G,Y,_,Ha,by omega,by omega,rfl,rfl,H4.out,h3.out,hE.out,hD,hR,hq,he⟩
         case round =>
          clear hD hR hq he h3 H4 hE Ha HZ ji;obtain⟨G',Y',T,Ha,jx,jy,rfl,rfl,HH,h3,hE,hD,hR,hq,he⟩:=hrel
          have jk:Hid (D*256^j≤256^(j+(E b).size)):=by
           rw[Hid,Nat.pow_add,Nat.mul_comm];exact Nat.mul_le_mul_left _ (Nat.le_of_lt hB.out)
          by_cases hT:T<0
          ·have HN:Hid (X<G'*(D*256^j)):=ld_neg Y' X G' _ _ u T hE.out HH.out (p256 _) hT
           have jl:0<G':=by
            rcases Nat.eq_zero_or_pos G' with h | h
            ·exact absurd HN.out (by rw[h,Nat.zero_mul];exact Nat.not_lt_zero _)
            ·exact h
           go_wp2;go_loopw [24,212] (fun c i wr=>∃k cc Y2:Nat,k≤(E b).size∧cc≤1∧i=.int .i64 k∧c=.int .i64 cc∧Hid (Y2+cc*256^(j+k)=Y'+D%256^k*256^j)∧Hid (Y2 / 256^(j+(E b).size)=u)∧Blk wr bd 3 (i64s (digs D (E b).size))∧Blk wr br 3 (i64s (digs Y2 M))∧Blk wr bq 5 (u8s (l++List.replicate (j+1) 0))∧Bw w wr) (fun _ i _=>(E b).size-(intOf i).toNat)
           case atStart=>exact⟨0,0,Y',by omega,by omega,rfl,rfl,by unfold Hid;simp[Nat.mod_one],hE.out,hD,hR,hq,he⟩
           case round =>
            clear hD hR hq he;obtain⟨k,cc,Y2,hk,HZ,rfl,rfl,H5,h5,hD,hR,hq,he⟩:=hrel;by_cases hK:k<(E b).size
            ·have c1:=digs_cell hR (k+j) (by omega);have c2:=digs_cell hD k hK;have hH:=hR.free (k+j);obtain⟨y,hy⟩:∃y,y=Y2 / 256^(k+j)%256:=⟨_,rfl⟩;obtain⟨d,hd⟩:∃d,d=D / 256^k%256:=⟨_,rfl⟩;have H0:y<256:=by rw[hy];exact Nat.mod_lt _ (by decide)
             have H1:d<256:=by rw[hd];exact Nat.mod_lt _ (by decide)
             rw[←hy]at c1;rw[←hd]at c2;have hU:=Kh hy;have hp:=Kh hd;clear hy hd;obtain⟨v,hv⟩:∃v,v=cc+(y+d):=⟨_,rfl⟩;have HV:=Kh hv;have jz:v≤600:=by omega
             have jA:(cc:Int)+((y:Int)+(d:Int))=(v:Int):=by omega
             have hP:bits BinOp.and IntKind.i64 (v:Int) 255=((v%256:Nat):Int):=by rw[i64_and255];omega
             obtain⟨v0,hw⟩:∃v0,v0=v%256:=⟨_,rfl⟩;rw[←hw]at hP;have hN:=Kh hw;have h6:v0<256:=by omega
             clear hw hv;have q1:IntKind.i64.wrap ((k:Int)+(j:Int))=(k:Int)+(j:Int):=IntWalk.i64_in _ (by omega);have q2:((k:Int)+(j:Int)).toNat=k+j:=by omega
             have q3:0≤(k:Int)+(j:Int):=by omega
             have q4:(k:Int)+(j:Int)<(M:Int):=by omega
             have q5:(k:Int)<((E b).size:Int):=by omega
             have q6:IntKind.i64.wrap ((y:Int)+(d:Int))=(y:Int)+(d:Int):=IntWalk.i64_in _ (by omega);have q7:IntKind.i64.wrap (v:Int)=(v:Int):=IntWalk.i64_in _ (by omega);go_wp2_with fail
             refine wp_region_still_tail 13 (by kernel_rfl) (by kernel_rfl) ?_;simp only[List.take_succ_cons,List.take_zero,List.drop_succ_cons,List.drop_zero];repeat still_step
             refine wpStill_nil ?_;change wpList _ _ _ _ _ wr.drew
             clear q1 q2 q3 q4 q5 q6 q7;go_wp2;go_roundw
             case rel =>
              have e:=ld_add Y' D Y2 j k cc H5.out;rw[Nat.add_comm j k,←hp.out,←hU.out,←HV.out,←hN.out]at e;exact⟨k+1,v / 256,setd Y2 (k+j) v0,by omega,by omega,by go_num,vi (by omega),e,(setd_div Y2 (k+j) v0 _ h6 (by omega)).trans h5.out,(hD.other _ _ hO),digs_put hR (k+j) v0 h6,(hq.other _ _ (Ne.symm hC)),(he.drew.setCell hr.out _)⟩
             case measure=>simp[intOf];omega
            ·obtain rfl:k=(E b).size:=by omega
             go_wp2;go_roundw
             case rel =>
              have hb:=H5.out;rw[Nat.mod_eq_of_lt hB.out]at hb;have e:=ld_back Y' Y2 X G' (D*256^j) (256^(j+(E b).size)) u cc T HH.out jl hb;exact⟨G'-1,Y2,T+cc,by omega,by omega,by omega,vi (by omega),rfl,e,by rw[Hid,show G'-1+1=G' by omega];exact HN.out,h5,hD,hR,hq,he⟩
             case measure=>simp[intOf];omega
          ·obtain⟨rfl,Hd,Hw⟩:=ld_exit Y' X G' _ _ u T hE.out HH.out h3.out jk.out (p256 _) hT;have Hd:=Kh Hd;have Hw:=Kh Hw;have jB:=HL.out;have hH:=hR.free (j+(E b).size);have c1:=digs_cell hR (j+(E b).size) Hq;have jC:=hq.free (Q-1-j)
           have cq:wr.cell? ⟨bq,Q-1-j,none⟩=some (.int .u8 0):=by
            rw[hq.cell,show Q-1-j=l.length by omega];simp[u8s,u8v]
           have Hx:bq≠br:=Ne.symm hC;go_wp2;go_roundw
           case rel =>
            have e8:(UInt8.ofNat G').toNat=G':=by rw[UInt8.toNat_ofNat',Nat.mod_eq_of_lt (by omega)]
            have ev:Value.int .u8 (G':Int)=u8v (UInt8.ofNat G'):=by rw[u8v,e8]
            rw[ev];refine⟨j,X-G'*(D*256^j),l++[UInt8.ofNat G'],(j:Int)-1,by omega,rfl,rfl,by rw[List.length_append,List.length_singleton];omega,?_,?_,(hD.other _ _ hO).other _ _ Hp,?_,?_,(he.setCell hr.out _).setCell Ho.out _⟩
            ·rw[val_snoc,e8];exact ld_next (val l) A D X G' j hZ.out Hd.out
            ·have h1:=h3.out;have h2:=Hd.out;rw[Nat.add_mul,Nat.one_mul]at h1;omega
            ·have h1:=digs_put hR (j+(E b).size) 0 (by decide);rw[setd_top Y' _ u hE.out Ht,Hw.out]at h1;exact h1.other _ _ hC
            ·have h1:=(hq.other ⟨br,j+(E b).size,none⟩ (.int .i64 0) Hx).set (Q-1-j) (u8v (UInt8.ofNat G'))
             have e9:(l++List.replicate (j+1) (0:UInt8)).set (Q-1-j) (UInt8.ofNat G')=(l++[UInt8.ofNat G'])++List.replicate j 0:=by
              rw[show Q-1-j=l.length by omega,List.replicate_succ,List.set_append_right _ _ (Nat.le_refl _)];simp
             rw[u8s_set,e9]at h1;exact h1
           case measure=>simp[intOf] <;> omega
      | zero =>
       have jD:z<0:=by omega
       have jE:decide (0≤z)=false:=decide_eq_false (by omega);clear HO;have H6:X<D:=by simpa using hX
       have H7:=Kh H6;have hF:=run_mk (P:=Tryz.prog) Tryz.underlying137 info_u8 (E b).size (by omega) (by omega);clear hX H6 hi;go_wp2;clear hF;obtain⟨bt,Hy⟩:∃bt,bt=wr.heap.size:=⟨_,rfl⟩;have Hz:Hid (w.heap.size≤bt):=by rw[Hid,Hy];exact he.size
       have HA:br≠bt:=by have:=hR.lt;omega
       have HB:bq≠bt:=by have:=hq.lt;omega
       have hS:Blk (wr.alloc (.cells (Array.replicate (E b).size (Value.int .u8 0)) 5)) wr.heap.size 5 (u8s (List.replicate (E b).size 0)):=by
        have:=Blk.new wr (Array.replicate (E b).size (Value.int .u8 0)) 5;simpa [u8s,u8v] using this
       replace hR:=hR.alloc (.cells (Array.replicate (E b).size (Value.int .u8 0)) 5);replace hq:=hq.alloc (.cells (Array.replicate (E b).size (Value.int .u8 0)) 5);replace he:=he.alloc he.size (.cells (Array.replicate (E b).size (Value.int .u8 0)) 5);generalize wr.alloc (.cells (Array.replicate (E b).size (Value.int .u8 0)) 5)=w4 at hR hq he hS ⊢;rw[←Hy]at hS ⊢;clear Hy hD;go_loopw [259] (fun i wr=>∃(k:Nat) (t:List UInt8),k≤(E b).size∧i=.int .i64 k∧t.length=k∧Hid (val t=X / 2^s%256^k)∧Blk wr br 3 (i64s (digs X M))∧Blk wr bq 5 (u8s (l++List.replicate 0 0))∧Blk wr bt 5 (u8s (List.replicate ((E b).size-k) 0++t))∧Bw w wr) (fun i _=>(E b).size-(intOf i).toNat)
       case atStart=>exact⟨0,[],by omega,rfl,rfl,by unfold Hid;simp[val_nil,Nat.mod_one],hR,hq,by simpa using hS,he⟩
       case round =>
        clear hR hq he hS;obtain⟨k,t,hk,rfl,H8,HC,hR,hq,ht,he⟩:=hrel;have He:=Kh H8;clear H8;by_cases hK:k<(E b).size
        ·have c1:=digs_cell hR k (by omega);have c2:=digs_cell hR (k+1) (by omega);have hj:=front_cell ht hK rfl;have hH:=ht.free ((E b).size-1-k);obtain⟨y,hy⟩:∃y,y=X / 256^k%256:=⟨_,rfl⟩;obtain⟨d,hd⟩:∃d,d=X / 256^(k+1)%256:=⟨_,rfl⟩;have H0:y<256:=by rw[hy];exact Nat.mod_lt _ (by decide)
         have H1:d<256:=by rw[hd];exact Nat.mod_lt _ (by decide)
         rw[←hy]at c1;rw[←hd]at c2;have hU:=Kh hy;have hp:=Kh hd;clear hy hd;have jF:(k:Int)+1<(M:Int):=by omega
         have jG:bits BinOp.or IntKind.i64 (y:Int) ((d:Int)*256)=((y ||| d*256:Nat):Int):=by
          have:=i64_or y (d*256) (by omega) (by omega);rw[Int.natCast_mul]at this;exact this
         go_wp2;go_roundw
         case rel =>
          rw[byteI ((y ||| d*256) / 2^s) _ (by rw[Int.natCast_ediv];simp)];refine⟨k+1,UInt8.ofNat ((y ||| d*256) / 2^s%256) :: t,by omega,by go_num,by rw[List.length_cons,He.out],?_,hR.other _ _ HA,hq.other _ _ HB,front_set ht hK rfl _,he.setCell Hz.out _⟩;rw[Hid,val_byte_cons _ k t He.out,HC.out,hU.out,hp.out,shr_dig X s k (by omega),mod_succ]
         case measure=>simp[intOf];omega
        ·obtain rfl:k=(E b).size:=by omega
         have H9:val t=X / 2^s:=by rw[HC.out,Nat.mod_eq_of_lt (Nat.lt_of_le_of_lt (Nat.div_le_self _ _) (Nat.lt_trans H7.out hB.out))]
         obtain⟨r1,r2'⟩:=ld_end (val l) a b s X (by have:=hZ.out;rw[Nat.pow_zero,Nat.one_mul,jf.out,HK.out]at this;exact this) (by rw[←HK.out];exact H7.out);have jm:=Kh r1;have jn:Hid (val t=a%b):=by rw[Hid,H9,r2']
         have ja:Row wr bq 0 l:=by
          have:=hq.row;simpa using this
         have jb:Row wr bt 0 t:=by
          have:=ht.row;simpa using this
         have jc:l.length=Q:=by have:=HL.out;omega
         clear hk hK H9 r1 r2' HC hq ht hR;have k1:=trimmed_c bq 0 Q l wr (by omega) (by omega) ja;rw[jc,jm.out]at k1;have k2:=trimmed_c bt 0 (E b).size t wr (by rw[He.out];omega) (by omega) jb;rw[He.out,jn.out]at k2;have K1:=Kh k1;have K2:=Kh k2;clear k1 k2 ja jb jc;go_wp2_with fail
         refine K1.out.mono ?_;rintro e w' ⟨rfl,rfl⟩;go_wp2_with fail
         refine K2.out.mono ?_;rintro e w' ⟨rfl,rfl⟩;go_wp2;go_ret2
         exact⟨rfl,he⟩
theorem dividedA_c (a b:Nat) (w:World) (ha:a<256^128) (hb:b<256^128) (h0:0<b) :
  Calls Tryz.prog 165 #[.string (E a),.string (E b)] w fun e w'=>e=.returned (.tuple #[.string (E (a / b)),.string (E (a%b))])∧Bw w w':=by
 by_cases h8:(E a).size≤8
 ·exact divided_c a b w ((E_size_le a 8).1 h8) hb h0
 ·by_cases hlt:a<b
  ·have h1:=sz a ha;have h2:=sz b hb;have hc:=cmp_neg a b hlt;have H1:=Kh (Nat.div_eq_of_lt hlt);have H2:=Kh (Nat.mod_eq_of_lt hlt);clear ha hb h0 hlt;go_enter Tryz.func165,Tryz.ntmps165
   go_wp2_with fail
   refine (compare_c a b _ (by omega) (by omega)).mono ?_;rintro e w' ⟨rfl,rfl⟩;go_wp2;go_ret2
   exact⟨r2 (vE H1.out.symm) (vE H2.out.symm),Br⟩
  ·exact ldiv_c a b w ha (by omega) hb h0 (by omega)
theorem divmodA_c (a b:Nat) (w:World) (ha:a<256^128) (hb:b<256^128) (h0:0<b) :
  Calls Tryz.prog 126 #[.string (E a),.string (E b)] w fun e w'=>e=.returned (.tuple #[.string (E (a / b)),.string (E (a%b)),.int .i64 0])∧Bw w w':=by
 have HA:=Kh ha;have HB:=Kh hb;have H0:=Kh h0;have hz:=nzE h0;clear ha hb h0;go_enter Tryz.func126,Tryz.ntmps126
 go_wp2_with fail
 refine (validE_c a _ HA.out).mono ?_;rintro e w' ⟨rfl,rfl⟩;go_wp2_with fail
 refine (validE_c b _ HB.out).mono ?_;rintro e w' ⟨rfl,rfl⟩;go_wp2_with fail
 refine (dividedA_c a b _ HA.out HB.out H0.out).mono ?_;rintro e w1 ⟨rfl,hc⟩;go_wp2;go_ret3
 exact⟨rfl,hc⟩
end Go.Proofs.YtdgddpnjkinciaaGreatDoor
