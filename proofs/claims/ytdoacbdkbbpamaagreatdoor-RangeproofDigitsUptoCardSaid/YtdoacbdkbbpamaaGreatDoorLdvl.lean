import Derived.Test.YtdoacbdkbbpamaaGreatDoorRef5
import Derived.Test.YtdoacbdkbbpamaaGreatDoorInt2
import Derived.Lib.SliceRun
import Derived.Lib.SlBuf
import Derived.Test.YtdoacbdkbbpamaaGreatDoorDiv
import Derived.Deep.QuietTactic
import Derived.Test.YtdoacbdkbbpamaaGreatDoorHp2
import Derived.Great.BuildSlice
import Derived.Test.YtdoacbdkbbpamaaGreatDoorRinv
set_option linter.unusedVariables false
set_option linter.unusedSimpArgs false
set_option maxRecDepth 100000
set_option maxHeartbeats 16000000
namespace Go.Proofs.YtdoacbdkbbpamaaGreatDoor
section
open Go.RowKit
theorem b1' (w:World) (o:Obj):Below w.heap.size w (w.alloc o):=(Below.refl _ _).alloc (Nat.le_refl _) o
end
section
open Go.RowKit
theorem bdrewN (w:World) (n:Nat):Below w.heap.size w (w.drewN n):=⟨rfl,rfl,rfl,Nat.le_refl _,fun _ _=>rfl⟩
theorem div64_zero (lo y:Nat) (w:World) (h1:0<y) (hy:y<256^8) (hl:lo<256^8) :
  Calls Tryz.prog 169 #[.int .u64 0,.int .u64 lo,.int .u64 y] w fun e w'=>e=.returned (.tuple #[.int .u64 ((lo / y:Nat):Int),.int .u64 ((lo%y:Nat):Int)])∧Below w.heap.size w w':=by
 have hy0:¬ (y:Int)=0:=by omega
 have hy1:¬ (y:Int)≤0:=by omega
 have hw1:=wrapU_div lo y (Nat.lt_of_le_of_lt (Nat.div_le_self _ _) hl);have hw2:=wrapU_mod lo y (Nat.lt_of_le_of_lt (Nat.mod_le _ _) hl);clear h1 hy hl;go_enter Tryz.func169,Tryz.ntmps169
 go_wp2;go_quiet (fail)
 all_goals (go_wp2;go_ret2;exact ⟨r2 (by simp) (by simp),bdrewN w _⟩)
theorem div64_all (hi lo y:Nat) (w:World) (h1:hi<y) (hy:y<256^8) (hl:lo<256^8) :
  Calls Tryz.prog 169 #[.int .u64 hi,.int .u64 lo,.int .u64 y] w fun e w'=>e=.returned (.tuple #[.int .u64 (((hi*256^8+lo) / y:Nat):Int),.int .u64 (((hi*256^8+lo)%y:Nat):Int)])∧Below w.heap.size w w':=by
 rcases Nat.eq_zero_or_pos hi with rfl | h0
 ·rw [Nat.zero_mul,Nat.zero_add];exact div64_zero lo y w h1 hy hl
 ·exact (div64_c hi lo y w h0 h1 hy hl).mono fun _ _ ⟨h,hw⟩=>⟨h,hw ▸ Below.refl _ _⟩
theorem rem64_c (hi lo y:Nat) (w:World) (h1:hi<y) (hy:y<256^8) (hl:lo<256^8) :
  Calls Tryz.prog 146 #[.int .u64 hi,.int .u64 lo,.int .u64 y] w fun e w'=>e=.returned (.int .u64 (((hi*256^8+lo)%y:Nat):Int))∧Below w.heap.size w w':=by
 have hy0:¬ y=0:=by omega
 have HC:=Lib.hid (div64_all hi lo y w h1 hy hl);have hm:(hi:Int)%(y:Int)=(hi:Int):=by rw [←Int.natCast_emod,Nat.mod_eq_of_lt h1]
 generalize (hi*256^8+lo) / y=q at HC;generalize (hi*256^8+lo)%y=r at HC;clear h1 hy hl;go_enter Tryz.func146,Tryz.ntmps146
 go_wp2_with fail
 refine HC.out.mono ?_;rintro e w1 ⟨rfl,hb1⟩;go_wp2;go_ret
 exact ⟨rfl,hb1⟩
end
section
open Go.RowKit Go.Shelf
theorem kL_eq:(kL.map (Value.int .u32))=u32f kC 64:=by rfl
theorem iL_eq:[Value.int .u32 1779033703,Value.int .u32 3144134277,Value.int .u32 1013904242,Value.int .u32 2773480762,Value.int .u32 1359893119,Value.int .u32 2600822924,Value.int .u32 528734635,Value.int .u32 1541459225]=u32f iC 8:=by rfl
theorem pconstants_v (w:World):Calls Tryz.prog 212 #[] w fun e w'=>e=.returned (.agg (u32f kC 64).toArray)∧Below w.heap.size w w':=by
 go_enter Tryz.func212,Tryz.ntmps212
 go_upto_region 1 with fail
 obtain ⟨Z,hZ⟩:∃Z:Array Value,Z=#[.int .u32 0,.int .u32 0,.int .u32 0,.int .u32 0,.int .u32 0,.int .u32 0,.int .u32 0,.int .u32 0,.int .u32 0,.int .u32 0,.int .u32 0,.int .u32 0,.int .u32 0,.int .u32 0,.int .u32 0,.int .u32 0,.int .u32 0,.int .u32 0,.int .u32 0,.int .u32 0,.int .u32 0,.int .u32 0,.int .u32 0,.int .u32 0,.int .u32 0,.int .u32 0,.int .u32 0,.int .u32 0,.int .u32 0,.int .u32 0,.int .u32 0,.int .u32 0,.int .u32 0,.int .u32 0,.int .u32 0,.int .u32 0,.int .u32 0,.int .u32 0,.int .u32 0,.int .u32 0,.int .u32 0,.int .u32 0,.int .u32 0,.int .u32 0,.int .u32 0,.int .u32 0,.int .u32 0,.int .u32 0,.int .u32 0,.int .u32 0,.int .u32 0,.int .u32 0,.int .u32 0,.int .u32 0,.int .u32 0,.int .u32 0,.int .u32 0,.int .u32 0,.int .u32 0,.int .u32 0,.int .u32 0,.int .u32 0,.int .u32 0,.int .u32 0]:=⟨_,rfl⟩;rw [←hZ];have HZ:Hid (Z.toList=u32f (fun _=>0) 64):=by rw [Hid,hZ];exact z64
 clear hZ;have hR:Blk (w.alloc (.cells Z 216)) w.heap.size 216 (u32f (fun _=>0) 64):=(Blk.new w Z 216).as HZ.out;have hBW:=b1 w (.cells Z 216);generalize w.alloc (.cells Z 216)=w1 at hR hBW ⊢;clear HZ;apply wp_region_lit
 refine wpList_buildFlatArr rfl 216 181 64 _ rfl .u32 kL Tryz.underlying216 (by kernel_rfl) (by kernel_rfl) (by kernel_rfl) ?_;rw [kL_eq];refine wpList_store_row rfl 216 (.tmp 0) (.tmp 1) rfl w.heap.size _ rfl rfl 216 _ hR (size_w64 _) (by simp [u32f]) (u32f_one _ _) ?_;apply wpList_nil
 go_wp2;refine bodyPost_ret (v:=.agg (u32f kC 64).toArray) ?_ rfl ⟨rfl,setRow_below hBW (Nat.le_refl _)⟩;exact results_cell_row (p:=0) (ty:=216) rfl _ _ w.heap.size 216 _ (0,0) _ rfl (setRow_heap _ _ _ _ _ _ hR) Tryz.underlying216 rfl (size_w64 _)
theorem size_s8 (F:Nat→Int):(Tryz.prog.info? 206).map (·.size)=some (u32f F 8).toArray.size:=by
 rw [show (u32f F 8).toArray.size=8 by simp [u32f]];kernel_rfl
theorem pfirst_v (w:World):Calls Tryz.prog 202 #[] w fun e w'=>e=.returned (.agg (u32f iC 8).toArray)∧Below w.heap.size w w':=by
 go_enter Tryz.func202,Tryz.ntmps202
 go_wp2;have h:=(Blk.new w #[Value.int IntKind.u32 1779033703,Value.int IntKind.u32 3144134277,Value.int IntKind.u32 1013904242,Value.int IntKind.u32 2773480762,Value.int IntKind.u32 1359893119,Value.int IntKind.u32 2600822924,Value.int IntKind.u32 528734635,Value.int IntKind.u32 1541459225] 206).as iL_eq;refine bodyPost_ret (v:=.agg (u32f iC 8).toArray) ?_ rfl ⟨rfl,b1 w _⟩;exact results_cell_row (p:=0) (ty:=206) rfl _ _ w.heap.size 206 _ (0,0) _ rfl h Tryz.underlying206 rfl (size_s8 _)
end
section
open Go.RowKit
end
end Go.Proofs.YtdoacbdkbbpamaaGreatDoor
