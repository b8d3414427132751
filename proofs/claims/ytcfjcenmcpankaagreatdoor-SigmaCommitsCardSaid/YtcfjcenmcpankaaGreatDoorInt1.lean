import Derived.Test.YtcfjcenmcpankaaGreatDoorNat5
set_option linter.unusedVariables false
set_option linter.unusedSimpArgs false
set_option maxRecDepth 100000
set_option maxHeartbeats 16000000
namespace Go.Proofs.YtcfjcenmcpankaaGreatDoor
open Go.RowKit
def sg (z:Int):Bool:=decide (z<0)
theorem sg_nat (n:Nat):sg (n:Int)=false:=by unfold sg;rw [decide_eq_false_iff_not];omega
theorem sg_zero:sg 0=false:=rfl
theorem sg_neg (n:Nat):sg (-(n:Int))=!(E n).toList.isEmpty:=by
 unfold sg;rcases Nat.eq_zero_or_pos n with h | h
 ·subst h;rw [zE rfl];rfl
 ·rw [nzE h,decide_eq_true (by omega)];rfl
theorem sg_of_neg {z:Int} (h:z<0):sg z=true:=decide_eq_true h
theorem sg_of_nonneg {z:Int} (h:0≤z):sg z=false:=decide_eq_false (by omega)
theorem b1 (w:World) (o:Obj):Below w.heap.size w (w.alloc o):=(Below.refl _ _).alloc (Nat.le_refl _) o
theorem ba {a w:World} (h:Below a.heap.size a w) (o:Obj):Below a.heap.size a (w.alloc o):=h.alloc h.size o
theorem b2 (w:World) (o p:Obj):Below w.heap.size w ((w.alloc o).alloc p):=(b1 w o).alloc (by simp) p
theorem b3 (w:World) (o p q:Obj):Below w.heap.size w (((w.alloc o).alloc p).alloc q):=(b2 w o p).alloc (by simp;omega) q
theorem ragg {a b c d:Value} (h:a=b) (h':c=d):Ending.returned (.agg #[a,c])=.returned (.agg #[b,d]):=by rw [h,h']
theorem vagg {a b c d:Value} (h:a=b) (h':c=d):Value.agg #[a,c]=.agg #[b,d]:=by rw [h,h']
theorem vI {x y:Int} (h:x=y):Value.agg #[.bool (sg x),.string (E x.natAbs)]=.agg #[.bool (sg y),.string (E y.natAbs)]:=by rw [h]
theorem made_val (b:Bool) (n:Nat):Value.agg #[.bool (b&&!(E n).toList.isEmpty),.string (E n)]=.agg #[.bool (sg (if b then -(n:Int) else (n:Int))),.string (E (if b then -(n:Int) else (n:Int)).natAbs)]:=by
 cases b
 ·simp [sg_nat]
 ·simp [sg_neg]
theorem made_c (b:Bool) (n:Nat) (z:Int) (w:World) (hm:(E n).size≤4611686018427387904) (hz:z=if b then -(n:Int) else (n:Int)) :
  Calls Tryz.prog 113 #[.bool b,.string (E n)] w fun e w'=>e=.returned (.agg #[.bool (sg (z)),.string (E (z).natAbs)])∧Below w.heap.size w w':=by
 have H:=made_val b n;rw [←hz] at H;have HM:=Lib.hid H;clear H hz;cases b
 all_goals
  go_enter Tryz.func113,Tryz.ntmps113
  go_wp2;refine bodyPost_ret (v:=.agg #[.bool (sg (z)),.string (E (z).natAbs)]) (by rw [←HM.out];simp [results,Tryz.results113,go_sem]) rfl ⟨rfl,b1 _ _⟩
def ivB (b:Bool) (s:ByteArray):Bool:=vldB s&&!(b&&s.toList.isEmpty)
theorem ivalid_c (b:Bool) (s:ByteArray) (w:World) (hm:s.size≤4611686018427387904) :
  Calls Tryz.prog 101 #[.agg #[.bool b,.string s]] w fun e w'=>e=.returned (.bool (ivB b s))∧Below w.heap.size w w':=by
 have HI:=Lib.hid (show ivB b s=(vldB s&&!(b&&s.toList.isEmpty)) from rfl);generalize ivB b s=r at HI;cases hv:vldB s
 ·rw [hv] at HI;go_enter Tryz.func101,Tryz.ntmps101
  go_wp2_with fail
  refine (valid_c s _ (by omega)).mono ?_;rintro e w' ⟨rfl,rfl⟩;rw [hv];go_wp2;go_ret
  exact ⟨rb (by rw [HI.out];rfl),b1 _ _⟩
 ·rw [hv] at HI;cases b
  ·go_enter Tryz.func101,Tryz.ntmps101
   go_wp2_with fail
   refine (valid_c s _ (by omega)).mono ?_;rintro e w' ⟨rfl,rfl⟩;rw [hv];go_wp2;go_ret
   exact ⟨rb (by rw [HI.out];rfl),b1 _ _⟩
  ·cases he:s.toList.isEmpty
   all_goals
    rw [he] at HI;go_enter Tryz.func101,Tryz.ntmps101
    go_wp2_with fail
    refine (valid_c s _ (by omega)).mono ?_;rintro e w' ⟨rfl,rfl⟩;rw [hv];go_wp2;go_ret
    exact ⟨rb (by rw [HI.out];rfl),b1 _ _⟩
theorem ivB_I (z:Int) (h:z.natAbs<256^128):ivB (sg z) (E z.natAbs)=true:=by
 unfold ivB;rw [vldB_E _ h];rcases Int.lt_or_le z 0 with h1 | h1
 ·rw [nzE (show 0<z.natAbs by omega)];simp
 ·rw [sg_of_nonneg h1];simp
theorem of_ivB {b:Bool} {s:ByteArray} (h:ivB b s=true):∃z:Int,z.natAbs<256^128∧b=sg z∧s=E z.natAbs:=by
 unfold ivB at h;rw [Bool.and_eq_true] at h;obtain ⟨n,hn,rfl⟩:=of_vldB h.1;have h2:=h.2;cases b
 ·exact ⟨(n:Int),by simpa using hn,(sg_nat n).symm,by simp⟩
 ·have:0<n:=by
   rcases Nat.eq_zero_or_pos n with h0 | h0
   ·rw [zE h0] at h2;simp at h2
   ·exact h0
  exact ⟨-(n:Int),by simpa using hn,(sg_of_neg (by omega)).symm,by simp⟩
theorem ivalidI_c (z:Int) (w:World) (h:z.natAbs<256^128) :
  Calls Tryz.prog 101 #[.agg #[.bool (sg (z)),.string (E (z).natAbs)]] w fun e w'=>e=.returned (.bool true)∧Below w.heap.size w w':=by
 have:=ivalid_c (sg z) (E z.natAbs) w (by have:=sz z.natAbs h;omega);rw [ivB_I z h] at this;exact this
theorem wrap_neg (z:Int) (h1:-9223372036854775808≤z) (h:z<0):IntKind.u64.wrap (-IntKind.u64.wrap z)=(z.natAbs:Int):=by
 simp [IntKind.wrap,IntKind.signed,IntKind.bits];omega
theorem iof_c (z:Int) (w:World) (h1:-9223372036854775808≤z) (h2:z≤9223372036854775807) :
  Calls Tryz.prog 170 #[.int .i64 z] w fun e w'=>e=.returned (.agg #[.bool (sg (z)),.string (E (z).natAbs)])∧Below w.heap.size w w':=by
 have HN:Hid (z.natAbs<256^8):=by unfold Hid;rw [←u64_as_pow];omega
 have hs:=(E_size_le z.natAbs 8).2 HN.out;by_cases h:z<0
 ·have HW:=Lib.hid (wrap_neg z h1 h);have HZ:Hid (z=if true then -(z.natAbs:Int) else (z.natAbs:Int)):=by unfold Hid;simp;omega
  go_enter Tryz.func170,Tryz.ntmps170
  go_wp2_with fail
  rw [HW.out];have hB:=Blk.new w #[Value.bool false,Value.string { data:=#[] }] 72;refine (of_c z.natAbs _ HN.out).mono ?_;rintro e w1 ⟨rfl,hb1⟩;have hB1:=hB.after hb1;go_wp2_with fail
  refine (made_c true z.natAbs z _ (by omega) HZ.out).mono ?_;rintro e w2 ⟨rfl,hb2⟩;have hB2:=hB1.after hb2;have c0:=hB2.cell 0;have c1:=hB2.cell 1;have f0:=hB2.free 0;have f1:=hB2.free 1;go_wp2;refine bodyPost_ret (v:=.agg #[.bool (sg (z)),.string (E (z).natAbs)]) ?_ rfl ⟨rfl,?_⟩
  ·simp [results,Tryz.results170,go_sem,c0,c1]
  ·exact ((bt (bt (b1 _ _) hb1) hb2).setCell (Nat.le_refl _) _).setCell (Nat.le_refl _) _
 ·have HZ:Hid (z=if false then -(z.natAbs:Int) else (z.natAbs:Int)):=by unfold Hid;simp;omega
  have HZ2:Hid (z=(z.natAbs:Int)):=by unfold Hid;omega
  have h0:0≤z:=by omega
  go_enter Tryz.func170,Tryz.ntmps170
  go_wp2_with fail
  have hof:=of_c z.natAbs (w.alloc (Obj.cells #[Value.bool false,Value.string { data:=#[] }] 72)) HN.out;rw [←HZ2.out] at hof;have hB:=Blk.new w #[Value.bool false,Value.string { data:=#[] }] 72;refine hof.mono ?_;clear hof;rintro e w1 ⟨rfl,hb1⟩;have hB1:=hB.after hb1;go_wp2_with fail
  refine (made_c false z.natAbs z _ (by omega) HZ.out).mono ?_;rintro e w2 ⟨rfl,hb2⟩;have hB2:=hB1.after hb2;have c0:=hB2.cell 0;have c1:=hB2.cell 1;have f0:=hB2.free 0;have f1:=hB2.free 1;go_wp2;refine bodyPost_ret (v:=.agg #[.bool (sg (z)),.string (E (z).natAbs)]) ?_ rfl ⟨rfl,?_⟩
  ·simp [results,Tryz.results170,go_sem,c0,c1]
  ·exact ((bt (bt (b1 _ _) hb1) hb2).setCell (Nat.le_refl _) _).setCell (Nat.le_refl _) _
end Go.Proofs.YtcfjcenmcpankaaGreatDoor
