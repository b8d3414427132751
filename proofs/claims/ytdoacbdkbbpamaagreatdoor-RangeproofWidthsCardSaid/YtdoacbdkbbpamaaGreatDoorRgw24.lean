/- RangeproofWidths: the law. -/
import Derived.Test.YtdoacbdkbbpamaaGreatDoorSl24
import Derived.Test.YtdoacbdkbbpamaaGreatDoorBvl24
set_option linter.unusedVariables false
set_option linter.unusedSimpArgs false
set_option maxRecDepth 100000
set_option maxHeartbeats 16000000
namespace Go.Proofs.YtdoacbdkbbpamaaGreatDoor
section
/- law 24's awake returns true. -/
open Go.RowKit Go.Shelf
theorem e47:E 47=⟨#[47]⟩:=by kernel_rfl
theorem e23:E 23=⟨#[23]⟩:=by kernel_rfl
theorem e4:E 4=⟨#[4]⟩:=by kernel_rfl
theorem e9:E 9=⟨#[9]⟩:=by kernel_rfl
theorem e5:E 5=⟨#[5]⟩:=by kernel_rfl
theorem e22:E 22=⟨#[22]⟩:=by kernel_rfl
theorem e0:E 0=⟨#[]⟩:=by kernel_rfl
theorem awake24_c (w:World) (ht:TabW w):Calls Tryz.prog 9 #[] w fun e w'=>e=.returned (.bool true)∧Below w.heap.size w w':=by
 have HW:Hid (∀(lo hi:Int) (n:Nat) (w:World),widE lo hi=(n,0)→(-9223372036854775808≤lo∧lo≤9223372036854775807∧-9223372036854775808≤hi∧hi≤9223372036854775807)→Calls Tryz.prog 7 #[.int .i64 lo,.int .i64 hi] w fun e w'=>e=.returned (.tuple #[.int .i64 (n:Int),.int .i64 0])∧Below w.heap.size w w'):=fun lo hi n w h hh=>by
  have h5:=width_c lo hi w hh.1 hh.2.1 hh.2.2.1 hh.2.2.2;rw [h] at h5;exact h5
 have HW1:=Lib.hid (fun w=>HW.out 3 8 3 w (by kernel_rfl) (by decide));have HW2:=Lib.hid (fun w=>HW.out 5 5 0 w (by kernel_rfl) (by decide));have HW3:=Lib.hid (fun w=>HW.out 0 8 4 w (by kernel_rfl) (by decide));have hz:∀n k:Nat,n<256^k→(E n).size≤k:=fun n k h=>(E_size_le n k).2 h
 have HP1:Hid (∀w',Below w.heap.size w w'→Calls Tryz.prog 13 #[.agg #[.string ⟨#[47]⟩,.string ⟨#[23]⟩,.string ⟨#[4]⟩,.string ⟨#[9]⟩],.int .i64 3,.int .i64 8,.agg #[.bool false,.string ⟨#[5]⟩,.bool false,.string ⟨#[]⟩],.agg #[.slice none 0 0,.string ⟨#[120]⟩,.int .i64 0]] w' (PrPost w' exP1)):=fun w' hb=>by
  have h:=rgprep_c attN (E 47) (E 23) (E 4) (E 9) 3 8 false (E 5) false (E 0) tpX (.slice none 0 0) w' (hatt _ _ (by decide) (ht.after hb)) tpX_ok (hz 47 8 (by decide)) (hz 23 8 (by decide)) (hz 4 8 (by decide)) (hz 9 8 (by decide)) (hz 5 16 (by decide)) (hz 0 16 (by decide)) (by decide) (by decide) (by decide) (by decide) (ss_nil _);have h2:PrPost w' (rgR attN (E 47) (E 23) (E 4) (E 9) 3 8 false (E 5) false (E 0) tpX)=PrPost w' exP1:=rfl;rw [h2,e47,e23,e4,e9,e5,e0] at h;exact h
 have HP2:Hid (∀w',Below w.heap.size w w'→Calls Tryz.prog 13 #[.agg #[.string ⟨#[47]⟩,.string ⟨#[23]⟩,.string ⟨#[4]⟩,.string ⟨#[9]⟩],.int .i64 (-2),.int .i64 1,.agg #[.bool false,.string ⟨#[22]⟩,.bool false,.string ⟨#[]⟩],.agg #[.slice none 0 0,.string ⟨#[120]⟩,.int .i64 0]] w' (PrPost w' exP2)):=fun w' hb=>by
  have h:=rgprep_c attN (E 47) (E 23) (E 4) (E 9) (-2) 1 false (E 22) false (E 0) tpX (.slice none 0 0) w' (hatt _ _ (by decide) (ht.after hb)) tpX_ok (hz 47 8 (by decide)) (hz 23 8 (by decide)) (hz 4 8 (by decide)) (hz 9 8 (by decide)) (hz 22 16 (by decide)) (hz 0 16 (by decide)) (by decide) (by decide) (by decide) (by decide) (ss_nil _);have h2:PrPost w' (rgR attN (E 47) (E 23) (E 4) (E 9) (-2) 1 false (E 22) false (E 0) tpX)=PrPost w' exP2:=rfl;rw [h2,e47,e23,e4,e9,e22,e0] at h;exact h
 have HE1:=Lib.hid exP1_ok;have HE2:=Lib.hid exP2_ok;have hlo:∀(M:List (Nat × Nat)),M=exP1.ops∨M=exP2.ops→∀y∈M.map nop,y.va.size≤100∧y.ra.size≤100:=exP_size;have HLO:=Lib.hid hlo;clear HW hz hlo;obtain ⟨R1,hR1⟩:∃R,R=exP1:=⟨_,rfl⟩;obtain ⟨R2,hR2⟩:∃R,R=exP2:=⟨_,rfl⟩;rw [←hR1] at HP1 HE1 HLO;rw [←hR2] at HP2 HE2 HLO;clear hR1 hR2;obtain ⟨er1,p1,M1,t1⟩:=R1;obtain ⟨er2,p2,M2,t2⟩:=R2;simp only [] at HE1 HE2 HLO;obtain ⟨rfl,_⟩:=HE1.out;obtain ⟨rfl,_⟩:=HE2.out;have hK:=Blk.new w #[.string ⟨#[47]⟩,.string ⟨#[23]⟩,.string ⟨#[4]⟩,.string ⟨#[9]⟩] 35;have hBW:=b1 w (.cells #[.string ⟨#[47]⟩,.string ⟨#[23]⟩,.string ⟨#[4]⟩,.string ⟨#[9]⟩] 35);go_enter Tryz.func9,Tryz.ntmps9
 go_upto_region 2 with fail
 generalize w.alloc (.cells #[.string ⟨#[47]⟩,.string ⟨#[23]⟩,.string ⟨#[4]⟩,.string ⟨#[9]⟩] 35)=w1 at hK hBW ⊢;obtain ⟨gK,hgK⟩:∃g,w.heap.size=g:=⟨_,rfl⟩;rw [hgK] at hK ⊢;replace hK:Blk w1 gK 35 [.string ⟨#[47]⟩,.string ⟨#[23]⟩,.string ⟨#[4]⟩,.string ⟨#[9]⟩]:=hK;clear hgK;go_wp2_with fail
 refine (HW1.out _).mono ?_;rintro e wx1 ⟨rfl,hb⟩;replace hK:=hK.after hb;replace hBW:=bt hBW hb;clear hb;go_wp2_with fail
 refine (HW2.out _).mono ?_;rintro e wx2 ⟨rfl,hb⟩;replace hK:=hK.after hb;replace hBW:=bt hBW hb;clear hb;go_wp2_with fail
 refine (HW3.out _).mono ?_;rintro e wx3 ⟨rfl,hb⟩;replace hK:=hK.after hb;replace hBW:=bt hBW hb;clear hb;clear HW1 HW2 HW3;go_upto_region 6 with fail
 have hT:=Blk.new wx3 #[.slice none 0 0,.string ⟨#[120]⟩,.int .i64 0] 42;have hbT:=b1 wx3 (.cells #[.slice none 0 0,.string ⟨#[120]⟩,.int .i64 0] 42);replace hK:=hK.after hbT;replace hBW:=bt hBW hbT;clear hbT;generalize wx3.alloc (.cells #[.slice none 0 0,.string ⟨#[120]⟩,.int .i64 0] 42)=w5 at hK hT hBW ⊢;obtain ⟨gT,hgT⟩:∃g,wx3.heap.size=g:=⟨_,rfl⟩;rw [hgT] at hT ⊢;replace hT:Blk w5 gT 42 [.slice none 0 0,.string ⟨#[120]⟩,.int .i64 0]:=hT;clear hgT;obtain ⟨hKc0,hKf0,hKc1,hKf1,hKc2,hKf2,hKc3,hKf3⟩:=hK.x4;obtain ⟨hTc0,hTf0,hTc1,hTf1,hTc2,hTf2⟩:=hT.x3;go_wp2_with fail
 refine (HP1.out _ hBW).mono ?_;rintro e v1 ⟨p1',o1,t1',rfl,hp,hO1,⟨x,rfl,hx⟩,hb⟩;clear hKc0 hKf0 hKc1 hKf1 hKc2 hKf2 hKc3 hKf3;clear hTc0 hTf0 hTc1 hTf1 hTc2 hTf2;obtain ⟨ta1,tc1,rfl⟩:=RAt.form hx;replace hK:=hK.after hb;replace hT:=hT.after hb;replace hBW:=bt hBW hb;simp only [] at hO1 ⊢;clear hp hx HP1;replace hO1:=own_mono hO1 (Nat.zero_le _);clear hb;go_upto_region 7 with fail
 obtain ⟨tb,htb⟩:∃o:Obj,o=.cells #[.slice ta1 t1.vals.length tc1,.string t1.seed,.int .i64 t1.pos] 42:=⟨_,rfl⟩;have hbA:=b1 v1 tb;replace hK:=hK.after hbA;replace hT:=hT.after hbA;replace hO1:=own_after hO1 hbA;replace hBW:=bt hBW hbA;subst htb;generalize v1.alloc (.cells #[.slice ta1 t1.vals.length tc1,.string t1.seed,.int .i64 t1.pos] 42)=w6 at hK hT hO1 hBW ⊢;clear hbA;obtain ⟨hKc0,hKf0,hKc1,hKf1,hKc2,hKf2,hKc3,hKf3⟩:=hK.x4;obtain ⟨hTc0,hTf0,hTc1,hTf1,hTc2,hTf2⟩:=hT.x3;go_wp2_with fail
 refine (HP2.out _ hBW).mono ?_;rintro e v2 ⟨p2',o2,t2',rfl,hp,hO2,⟨x,rfl,hx⟩,hb⟩;clear hKc0 hKf0 hKc1 hKf1 hKc2 hKf2 hKc3 hKf3;clear hTc0 hTf0 hTc1 hTf1 hTc2 hTf2;obtain ⟨ta2,tc2,rfl⟩:=RAt.form hx;replace hK:=hK.after hb;replace hT:=hT.after hb;replace hBW:=bt hBW hb;simp only [] at hO2 ⊢;clear hp hx HP2;replace hO1:=own_after hO1 hb;replace hO2:=own_mono hO2 (Nat.zero_le _);clear hb;go_upto_region 8 with fail
 obtain ⟨tb,htb⟩:∃o:Obj,o=.cells #[.slice ta2 t2.vals.length tc2,.string t2.seed,.int .i64 t2.pos] 42:=⟨_,rfl⟩;have hbA:=b1 v2 tb;replace hO1:=own_after hO1 hbA;replace hO2:=own_after hO2 hbA;replace hBW:=bt hBW hbA;subst htb;generalize v2.alloc (.cells #[.slice ta2 t2.vals.length tc2,.string t2.seed,.int .i64 t2.pos] 42)=w7 at hO1 hO2 hBW ⊢;clear hbA hK hT;obtain ⟨_,hl1,hv1,hv2⟩:=HE1.out;obtain ⟨_,hl2,hv3⟩:=HE2.out;have HV1:=Lib.hid hv1;have HV2:=Lib.hid hv2;have HV3:=Lib.hid hv3;clear hv1 hv2 hv3 HE1 HE2;obtain ⟨u1,u2,hu1,hu2,ho1,ho2⟩:=os_parts hO1 3 (by omega);obtain ⟨u3,u4,hu3,hu4,ho3,ho4⟩:=os_parts hO2 2 (by omega)
 have HB1:Hid (∀w',Below w7.heap.size w7 w'→Calls Tryz.prog 14 #[u1] w' fun e w''=>e=.returned (.tuple #[.int .i64 2,.int .i64 0])∧Below w'.heap.size w' w''):=fun w' hb=>by
  have h:=bval_c ((M1.take 3).map nop) u1 w' (by rw [List.length_map,List.length_take];omega) (fun x hx=>HLO.out M1 (.inl rfl) x (by rw [List.map_take] at hx;exact List.mem_of_mem_take hx)) (OsAt.after ho1 hb);rw [HV1.out] at h;exact h
 have HB2:Hid (∀w',Below w7.heap.size w7 w'→Calls Tryz.prog 14 #[u2] w' fun e w''=>e=.returned (.tuple #[.int .i64 3,.int .i64 0])∧Below w'.heap.size w' w''):=fun w' hb=>by
  have h:=bval_c ((M1.drop 3).map nop) u2 w' (by rw [List.length_map,List.length_drop];omega) (fun x hx=>HLO.out M1 (.inl rfl) x (by rw [List.map_drop] at hx;exact List.mem_of_mem_drop hx)) (OsAt.after ho2 hb);rw [HV2.out] at h;exact h
 have HB3:Hid (∀w',Below w7.heap.size w7 w'→Calls Tryz.prog 14 #[u3] w' fun e w''=>e=.returned (.tuple #[.int .i64 1,.int .i64 0])∧Below w'.heap.size w' w''):=fun w' hb=>by
  have h:=bval_c ((M2.take 2).map nop) u3 w' (by rw [List.length_map,List.length_take];omega) (fun x hx=>HLO.out M2 (.inr rfl) x (by rw [List.map_take] at hx;exact List.mem_of_mem_take hx)) (OsAt.after ho3 hb);rw [HV3.out] at h;exact h
 obtain ⟨g1,c1,hf1⟩:=own_form hO1 (by omega);obtain ⟨g2,c2,hf2⟩:=own_form hO2 (by omega);rw [hl1] at hf1;rw [hl2] at hf2;subst hf1 hf2;clear hO1 hO2 ho1 ho2 ho3 ho4 HLO HV1 HV2 HV3 hl1 hl2 hu4;go_upto_region 10 with fail
 generalize (Value.slice (some ⟨g1,0,none⟩) 6 c1)=l1 at hu1 hu2 ⊢;generalize (Value.slice (some ⟨g2,0,none⟩) 4 c2)=l2 at hu3 ⊢;have hs1:∀w':World,(Instr.slice 43 l1 none (some (.int .i64 3)) none).run Tryz.prog w'=.ok u1 w':=hu1;have hs2:∀w':World,(Instr.slice 43 l1 (some (.int .i64 3)) none none).run Tryz.prog w'=.ok u2 w':=hu2;have hs3:∀w':World,(Instr.slice 43 l2 none (some (.int .i64 2)) none).run Tryz.prog w'=.ok u3 w':=hu3;clear hu1 hu2 hu3;go_wp2_with fail
 refine (HB1.out _ (by first | exact Below.refl _ _ | exact Below.drew (Below.refl _ _))).mono ?_;rintro e wa ⟨rfl,hba⟩;go_wp2_with fail
 refine (HB2.out _ (by first | exact hba | exact Below.drew hba | exact hba.drew)).mono ?_;rintro e wb ⟨rfl,hbb⟩;have hbc:=bt hba hbb;go_wp2_with fail
 refine (HB3.out _ (by first | exact hbc | exact Below.drew hbc | exact hbc.drew)).mono ?_;rintro e we ⟨rfl,hbe⟩;go_wp2;go_ret
 exact ⟨rfl,bt hBW (bt hbc hbe)⟩
end
section
open Go.RowKit Go.Shelf
theorem rgw24_c (lo hi:Int) (w:World) (h1:-9223372036854775808≤lo) (h2:lo≤9223372036854775807) (h3:-9223372036854775808≤hi) (h4:hi≤9223372036854775807) (ht:TabW w) :
  Calls Tryz.prog 3 #[.agg #[.int .i64 lo,.int .i64 hi]] w fun e w'=>e=.returned (.bool true)∧Below w.heap.size w w':=by
 obtain ⟨n,hn⟩:∃n,n=(widE lo hi).1:=⟨_,rfl⟩;obtain ⟨k,hk⟩:∃k,k=(widE lo hi).2:=⟨_,rfl⟩;have HA:Hid (∀w:World,Calls Tryz.prog 7 #[.int .i64 lo,.int .i64 hi] w fun e w'=>e=.returned (.tuple #[.int .i64 (n:Int),.int .i64 (k:Int)])∧Below w.heap.size w w'):=fun w=>by rw [hn,hk];exact width_c lo hi w h1 h2 h3 h4
 have HB:Hid (∀w:World,Calls Tryz.prog 8 #[.int .i64 lo,.int .i64 hi] w fun e w'=>e=.returned (.tuple #[.int .i64 (n:Int),.int .i64 (k:Int)])∧Below w.heap.size w w'):=fun w=>by rw [hn,hk];exact rwidth_c lo hi w h1 h2 h3 h4
 have HW:Hid (∀w',Below w.heap.size w w'→Calls Tryz.prog 9 #[] w' fun e w''=>e=.returned (.bool true)∧Below w'.heap.size w' w''):=fun w' hb=>awake24_c w' (ht.after hb)
 clear hn hk h1 h2 h3 h4;have hX:=Blk.new w #[.int .i64 lo,.int .i64 hi] 23;have hBW:=b1 w (.cells #[.int .i64 lo,.int .i64 hi] 23);have hXl:=hX.lt;obtain ⟨hXc0,hXf0,hXc1,hXf1⟩:=hX.x2;go_enter Tryz.func3,Tryz.ntmps3
 go_wp2_with fail
 refine (HA.out _).mono ?_;rintro e w2 ⟨rfl,hb⟩;clear hXc0 hXf0 hXc1 hXf1;clear hXl;replace hX:=hX.after hb;replace hBW:=bt hBW hb;clear hb;have hXl:=hX.lt;obtain ⟨hXc0,hXf0,hXc1,hXf1⟩:=hX.x2;go_wp2_with fail
 refine (HB.out _).mono ?_;rintro e w3 ⟨rfl,hb⟩;replace hBW:=bt hBW hb;clear hb;go_wp2_with fail
 refine (HW.out _ (by first | exact hBW | exact hBW.drew)).mono ?_;rintro e w4 ⟨rfl,hb⟩;go_wp2;go_ret
 exact ⟨rfl,by first | exact bt hBW hb | exact bt hBW.drew hb⟩
end
end Go.Proofs.YtdoacbdkbbpamaaGreatDoor
