import Derived.Test.YtcfjcenmcpankaaGreatDoorHp2
import Derived.Great.BuildSlice
import Derived.Laws.CopyRow
import Derived.Test.YtcfjcenmcpankaaGreatDoorHv8
import Derived.Lib.BufferWrite
import Derived.Test.YtcfjcenmcpankaaGreatDoorLck6
set_option linter.unusedVariables false
set_option linter.unusedSimpArgs false
set_option maxRecDepth 100000
set_option maxHeartbeats 16000000
namespace Go.Proofs.YtcfjcenmcpankaaGreatDoor
section
open Go.RowKit Go.Shelf
theorem kL_eq:(kL.map (Value.int .u32))=u32f kC 64:=by rfl
theorem iL_eq:[Value.int .u32 1779033703,Value.int .u32 3144134277,Value.int .u32 1013904242,Value.int .u32 2773480762,Value.int .u32 1359893119,Value.int .u32 2600822924,Value.int .u32 528734635,Value.int .u32 1541459225]=u32f iC 8:=by rfl
theorem pconstants_v (w:World):Calls Tryz.prog 254 #[] w fun e w'=>e=.returned (.agg (u32f kC 64).toArray)∧Below w.heap.size w w':=by
 go_enter Tryz.func254,Tryz.ntmps254
 go_upto_region 1 with fail
 obtain ⟨Z,hZ⟩:∃Z:Array Value,Z=#[.int .u32 0,.int .u32 0,.int .u32 0,.int .u32 0,.int .u32 0,.int .u32 0,.int .u32 0,.int .u32 0,.int .u32 0,.int .u32 0,.int .u32 0,.int .u32 0,.int .u32 0,.int .u32 0,.int .u32 0,.int .u32 0,.int .u32 0,.int .u32 0,.int .u32 0,.int .u32 0,.int .u32 0,.int .u32 0,.int .u32 0,.int .u32 0,.int .u32 0,.int .u32 0,.int .u32 0,.int .u32 0,.int .u32 0,.int .u32 0,.int .u32 0,.int .u32 0,.int .u32 0,.int .u32 0,.int .u32 0,.int .u32 0,.int .u32 0,.int .u32 0,.int .u32 0,.int .u32 0,.int .u32 0,.int .u32 0,.int .u32 0,.int .u32 0,.int .u32 0,.int .u32 0,.int .u32 0,.int .u32 0,.int .u32 0,.int .u32 0,.int .u32 0,.int .u32 0,.int .u32 0,.int .u32 0,.int .u32 0,.int .u32 0,.int .u32 0,.int .u32 0,.int .u32 0,.int .u32 0,.int .u32 0,.int .u32 0,.int .u32 0,.int .u32 0]:=⟨_,rfl⟩;rw [←hZ];have HZ:Hid (Z.toList=u32f (fun _=>0) 64):=by rw [Hid,hZ];exact z64
 clear hZ;have hR:Blk (w.alloc (.cells Z 273)) w.heap.size 273 (u32f (fun _=>0) 64):=(Blk.new w Z 273).as HZ.out;have hBW:=b1 w (.cells Z 273);generalize w.alloc (.cells Z 273)=w1 at hR hBW ⊢;clear HZ;apply wp_region_lit
 refine wpList_buildFlatArr rfl 273 229 64 _ rfl .u32 kL Tryz.underlying273 (by kernel_rfl) (by kernel_rfl) (by kernel_rfl) ?_;rw [kL_eq];refine wpList_store_row rfl 273 (.tmp 0) (.tmp 1) rfl w.heap.size _ rfl rfl 273 _ hR (size_w64 _) (by simp [u32f]) (u32f_one _ _) ?_;apply wpList_nil
 go_wp2;refine bodyPost_ret (v:=.agg (u32f kC 64).toArray) ?_ rfl ⟨rfl,setRow_below hBW (Nat.le_refl _)⟩;exact results_cell_row (p:=0) (ty:=273) rfl _ _ w.heap.size 273 _ (0,0) _ rfl (setRow_heap _ _ _ _ _ _ hR) Tryz.underlying273 rfl (size_w64 _)
theorem size_s8 (F:Nat→Int):(Tryz.prog.info? 266).map (·.size)=some (u32f F 8).toArray.size:=by
 rw [show (u32f F 8).toArray.size=8 by simp [u32f]];kernel_rfl
theorem pfirst_v (w:World):Calls Tryz.prog 248 #[] w fun e w'=>e=.returned (.agg (u32f iC 8).toArray)∧Below w.heap.size w w':=by
 go_enter Tryz.func248,Tryz.ntmps248
 go_wp2;have h:=(Blk.new w #[Value.int IntKind.u32 1779033703,Value.int IntKind.u32 3144134277,Value.int IntKind.u32 1013904242,Value.int IntKind.u32 2773480762,Value.int IntKind.u32 1359893119,Value.int IntKind.u32 2600822924,Value.int IntKind.u32 528734635,Value.int IntKind.u32 1541459225] 266).as iL_eq;refine bodyPost_ret (v:=.agg (u32f iC 8).toArray) ?_ rfl ⟨rfl,b1 w _⟩;exact results_cell_row (p:=0) (ty:=266) rfl _ _ w.heap.size 266 _ (0,0) _ rfl h Tryz.underlying266 rfl (size_s8 _)
end
section
open Go.RowKit Go.Shelf
def shf (F:Nat→Int) (j:Nat):Int:=if j=0 then F 0 else F (j-1)
theorem shf_eq (F:Nat→Int):(u32f F 8).toArray.toList.take 1++u32f F 7++(u32f F 8).toArray.toList.drop (1+(u32f F 7).length)=u32f (shf F) 8:=by rfl
theorem rnd_set (F:Nat→Int) (kk ww t u:Int) (ht:t=rT F kk ww) (hu:u=tU (F 0) (F 1) (F 2)) :
  ((u32f (shf F) 8).set 4 (.int .u32 ((F 3+t)%4294967296))).set 0 (.int .u32 ((t+u)%4294967296))=u32f (rnd F kk ww) 8:=by
 subst ht hu;rw [u32f_set,u32f_set];refine u32f_congr fun j hj=>?_
 unfold rnd shf;by_cases h0:j=0
 ·rw [if_pos h0,if_pos h0]
 ·rw [if_neg h0];by_cases h4:j=4
  ·rw [if_pos h4,if_neg h0,if_pos h4]
  ·rw [if_neg h4,if_neg h0,if_neg h4,if_neg h0]
theorem z8:#[.int .u32 0,.int .u32 0,.int .u32 0,.int .u32 0,.int .u32 0,.int .u32 0,.int .u32 0,.int .u32 0].toList=u32f (fun _=>0) 8:=by rfl
theorem after_v (S:Nat→Int) (s:ByteArray) (b o c:Nat) (w:World) (hs:s.size=64) (hA:BytA w b o s) (hc:64≤c) :
  Calls Tryz.prog 249 #[.agg (u32f S 8).toArray,.slice (some ⟨b,o,none⟩) 64 c] w fun e w'=>e=.returned (.agg (u32f (cmp S s) 8).toArray)∧Below w.heap.size w w':=by
 go_enter Tryz.func249,Tryz.ntmps249
 go_upto_region 1 with fail
 have hS2:=((Blk.new w (u32f S 8).toArray 266).as (cs':=u32f S 8) (by simp)).alloc (.cells #[.int .u32 0,.int .u32 0,.int .u32 0,.int .u32 0,.int .u32 0,.int .u32 0,.int .u32 0,.int .u32 0] 266);have hR4:=(Blk.new (w.alloc (.cells (u32f S 8).toArray 266)) #[.int .u32 0,.int .u32 0,.int .u32 0,.int .u32 0,.int .u32 0,.int .u32 0,.int .u32 0,.int .u32 0] 266).as z8;rw [World.size_alloc] at hR4;have hBW:=ba (b1 w (.cells (u32f S 8).toArray 266)) (.cells #[.int .u32 0,.int .u32 0,.int .u32 0,.int .u32 0,.int .u32 0,.int .u32 0,.int .u32 0,.int .u32 0] 266);generalize (w.alloc (.cells (u32f S 8).toArray 266)).alloc (.cells #[.int .u32 0,.int .u32 0,.int .u32 0,.int .u32 0,.int .u32 0,.int .u32 0,.int .u32 0,.int .u32 0] 266)=w1 at hS2 hR4 hBW ⊢;obtain ⟨g4,hg4⟩:∃g,w.heap.size+1=g:=⟨_,rfl⟩;obtain ⟨g2,hg2⟩:∃g,w.heap.size=g:=⟨_,rfl⟩;have HG4:Hid (w.heap.size≤g4):=by rw [Hid];omega
 rw [hg4] at hR4 ⊢;rw [hg2] at hS2 ⊢;clear hg4 hg2;go_wp2_with fail
 refine (pconstants_v _).mono ?_;rintro e w2 ⟨rfl,hb2⟩;replace hS2:=hS2.after hb2;replace hR4:=hR4.after hb2;replace hBW:=bt hBW hb2;go_wp2_with fail
 refine (pschedule_v s b o c _ hs (hA.after hBW) hc).mono ?_;rintro e w3 ⟨rfl,hb3⟩;replace hS2:=hS2.after hb3;replace hR4:=hR4.after hb3;replace hBW:=bt hBW hb3;have hb3z:=hBW.size;have HG2:Hid (g2<w3.heap.size∧g4<w3.heap.size):=⟨hS2.lt,hR4.lt⟩;clear hb2 hb3;have h5:=((Blk.new w3 #[.int .u32 0,.int .u32 0,.int .u32 0,.int .u32 0,.int .u32 0,.int .u32 0,.int .u32 0,.int .u32 0,.int .u32 0,.int .u32 0,.int .u32 0,.int .u32 0,.int .u32 0,.int .u32 0,.int .u32 0,.int .u32 0,.int .u32 0,.int .u32 0,.int .u32 0,.int .u32 0,.int .u32 0,.int .u32 0,.int .u32 0,.int .u32 0,.int .u32 0,.int .u32 0,.int .u32 0,.int .u32 0,.int .u32 0,.int .u32 0,.int .u32 0,.int .u32 0,.int .u32 0,.int .u32 0,.int .u32 0,.int .u32 0,.int .u32 0,.int .u32 0,.int .u32 0,.int .u32 0,.int .u32 0,.int .u32 0,.int .u32 0,.int .u32 0,.int .u32 0,.int .u32 0,.int .u32 0,.int .u32 0,.int .u32 0,.int .u32 0,.int .u32 0,.int .u32 0,.int .u32 0,.int .u32 0,.int .u32 0,.int .u32 0,.int .u32 0,.int .u32 0,.int .u32 0,.int .u32 0,.int .u32 0,.int .u32 0,.int .u32 0,.int .u32 0] 273).as z64).alloc (.cells #[.int .u32 0,.int .u32 0,.int .u32 0,.int .u32 0,.int .u32 0,.int .u32 0,.int .u32 0,.int .u32 0,.int .u32 0,.int .u32 0,.int .u32 0,.int .u32 0,.int .u32 0,.int .u32 0,.int .u32 0,.int .u32 0,.int .u32 0,.int .u32 0,.int .u32 0,.int .u32 0,.int .u32 0,.int .u32 0,.int .u32 0,.int .u32 0,.int .u32 0,.int .u32 0,.int .u32 0,.int .u32 0,.int .u32 0,.int .u32 0,.int .u32 0,.int .u32 0,.int .u32 0,.int .u32 0,.int .u32 0,.int .u32 0,.int .u32 0,.int .u32 0,.int .u32 0,.int .u32 0,.int .u32 0,.int .u32 0,.int .u32 0,.int .u32 0,.int .u32 0,.int .u32 0,.int .u32 0,.int .u32 0,.int .u32 0,.int .u32 0,.int .u32 0,.int .u32 0,.int .u32 0,.int .u32 0,.int .u32 0,.int .u32 0,.int .u32 0,.int .u32 0,.int .u32 0,.int .u32 0,.int .u32 0,.int .u32 0,.int .u32 0,.int .u32 0] 273);have h6:=(Blk.new (w3.alloc (.cells #[.int .u32 0,.int .u32 0,.int .u32 0,.int .u32 0,.int .u32 0,.int .u32 0,.int .u32 0,.int .u32 0,.int .u32 0,.int .u32 0,.int .u32 0,.int .u32 0,.int .u32 0,.int .u32 0,.int .u32 0,.int .u32 0,.int .u32 0,.int .u32 0,.int .u32 0,.int .u32 0,.int .u32 0,.int .u32 0,.int .u32 0,.int .u32 0,.int .u32 0,.int .u32 0,.int .u32 0,.int .u32 0,.int .u32 0,.int .u32 0,.int .u32 0,.int .u32 0,.int .u32 0,.int .u32 0,.int .u32 0,.int .u32 0,.int .u32 0,.int .u32 0,.int .u32 0,.int .u32 0,.int .u32 0,.int .u32 0,.int .u32 0,.int .u32 0,.int .u32 0,.int .u32 0,.int .u32 0,.int .u32 0,.int .u32 0,.int .u32 0,.int .u32 0,.int .u32 0,.int .u32 0,.int .u32 0,.int .u32 0,.int .u32 0,.int .u32 0,.int .u32 0,.int .u32 0,.int .u32 0,.int .u32 0,.int .u32 0,.int .u32 0,.int .u32 0] 273)) #[.int .u32 0,.int .u32 0,.int .u32 0,.int .u32 0,.int .u32 0,.int .u32 0,.int .u32 0,.int .u32 0,.int .u32 0,.int .u32 0,.int .u32 0,.int .u32 0,.int .u32 0,.int .u32 0,.int .u32 0,.int .u32 0,.int .u32 0,.int .u32 0,.int .u32 0,.int .u32 0,.int .u32 0,.int .u32 0,.int .u32 0,.int .u32 0,.int .u32 0,.int .u32 0,.int .u32 0,.int .u32 0,.int .u32 0,.int .u32 0,.int .u32 0,.int .u32 0,.int .u32 0,.int .u32 0,.int .u32 0,.int .u32 0,.int .u32 0,.int .u32 0,.int .u32 0,.int .u32 0,.int .u32 0,.int .u32 0,.int .u32 0,.int .u32 0,.int .u32 0,.int .u32 0,.int .u32 0,.int .u32 0,.int .u32 0,.int .u32 0,.int .u32 0,.int .u32 0,.int .u32 0,.int .u32 0,.int .u32 0,.int .u32 0,.int .u32 0,.int .u32 0,.int .u32 0,.int .u32 0,.int .u32 0,.int .u32 0,.int .u32 0,.int .u32 0] 273).as z64
 rw [World.size_alloc] at h6;replace hS2:=(hS2.alloc (.cells #[.int .u32 0,.int .u32 0,.int .u32 0,.int .u32 0,.int .u32 0,.int .u32 0,.int .u32 0,.int .u32 0,.int .u32 0,.int .u32 0,.int .u32 0,.int .u32 0,.int .u32 0,.int .u32 0,.int .u32 0,.int .u32 0,.int .u32 0,.int .u32 0,.int .u32 0,.int .u32 0,.int .u32 0,.int .u32 0,.int .u32 0,.int .u32 0,.int .u32 0,.int .u32 0,.int .u32 0,.int .u32 0,.int .u32 0,.int .u32 0,.int .u32 0,.int .u32 0,.int .u32 0,.int .u32 0,.int .u32 0,.int .u32 0,.int .u32 0,.int .u32 0,.int .u32 0,.int .u32 0,.int .u32 0,.int .u32 0,.int .u32 0,.int .u32 0,.int .u32 0,.int .u32 0,.int .u32 0,.int .u32 0,.int .u32 0,.int .u32 0,.int .u32 0,.int .u32 0,.int .u32 0,.int .u32 0,.int .u32 0,.int .u32 0,.int .u32 0,.int .u32 0,.int .u32 0,.int .u32 0,.int .u32 0,.int .u32 0,.int .u32 0,.int .u32 0] 273)).alloc (.cells #[.int .u32 0,.int .u32 0,.int .u32 0,.int .u32 0,.int .u32 0,.int .u32 0,.int .u32 0,.int .u32 0,.int .u32 0,.int .u32 0,.int .u32 0,.int .u32 0,.int .u32 0,.int .u32 0,.int .u32 0,.int .u32 0,.int .u32 0,.int .u32 0,.int .u32 0,.int .u32 0,.int .u32 0,.int .u32 0,.int .u32 0,.int .u32 0,.int .u32 0,.int .u32 0,.int .u32 0,.int .u32 0,.int .u32 0,.int .u32 0,.int .u32 0,.int .u32 0,.int .u32 0,.int .u32 0,.int .u32 0,.int .u32 0,.int .u32 0,.int .u32 0,.int .u32 0,.int .u32 0,.int .u32 0,.int .u32 0,.int .u32 0,.int .u32 0,.int .u32 0,.int .u32 0,.int .u32 0,.int .u32 0,.int .u32 0,.int .u32 0,.int .u32 0,.int .u32 0,.int .u32 0,.int .u32 0,.int .u32 0,.int .u32 0,.int .u32 0,.int .u32 0,.int .u32 0,.int .u32 0,.int .u32 0,.int .u32 0,.int .u32 0,.int .u32 0] 273);replace hR4:=(hR4.alloc (.cells #[.int .u32 0,.int .u32 0,.int .u32 0,.int .u32 0,.int .u32 0,.int .u32 0,.int .u32 0,.int .u32 0,.int .u32 0,.int .u32 0,.int .u32 0,.int .u32 0,.int .u32 0,.int .u32 0,.int .u32 0,.int .u32 0,.int .u32 0,.int .u32 0,.int .u32 0,.int .u32 0,.int .u32 0,.int .u32 0,.int .u32 0,.int .u32 0,.int .u32 0,.int .u32 0,.int .u32 0,.int .u32 0,.int .u32 0,.int .u32 0,.int .u32 0,.int .u32 0,.int .u32 0,.int .u32 0,.int .u32 0,.int .u32 0,.int .u32 0,.int .u32 0,.int .u32 0,.int .u32 0,.int .u32 0,.int .u32 0,.int .u32 0,.int .u32 0,.int .u32 0,.int .u32 0,.int .u32 0,.int .u32 0,.int .u32 0,.int .u32 0,.int .u32 0,.int .u32 0,.int .u32 0,.int .u32 0,.int .u32 0,.int .u32 0,.int .u32 0,.int .u32 0,.int .u32 0,.int .u32 0,.int .u32 0,.int .u32 0,.int .u32 0,.int .u32 0] 273)).alloc (.cells #[.int .u32 0,.int .u32 0,.int .u32 0,.int .u32 0,.int .u32 0,.int .u32 0,.int .u32 0,.int .u32 0,.int .u32 0,.int .u32 0,.int .u32 0,.int .u32 0,.int .u32 0,.int .u32 0,.int .u32 0,.int .u32 0,.int .u32 0,.int .u32 0,.int .u32 0,.int .u32 0,.int .u32 0,.int .u32 0,.int .u32 0,.int .u32 0,.int .u32 0,.int .u32 0,.int .u32 0,.int .u32 0,.int .u32 0,.int .u32 0,.int .u32 0,.int .u32 0,.int .u32 0,.int .u32 0,.int .u32 0,.int .u32 0,.int .u32 0,.int .u32 0,.int .u32 0,.int .u32 0,.int .u32 0,.int .u32 0,.int .u32 0,.int .u32 0,.int .u32 0,.int .u32 0,.int .u32 0,.int .u32 0,.int .u32 0,.int .u32 0,.int .u32 0,.int .u32 0,.int .u32 0,.int .u32 0,.int .u32 0,.int .u32 0,.int .u32 0,.int .u32 0,.int .u32 0,.int .u32 0,.int .u32 0,.int .u32 0,.int .u32 0,.int .u32 0] 273)
 replace hBW:=ba (ba hBW (.cells #[.int .u32 0,.int .u32 0,.int .u32 0,.int .u32 0,.int .u32 0,.int .u32 0,.int .u32 0,.int .u32 0,.int .u32 0,.int .u32 0,.int .u32 0,.int .u32 0,.int .u32 0,.int .u32 0,.int .u32 0,.int .u32 0,.int .u32 0,.int .u32 0,.int .u32 0,.int .u32 0,.int .u32 0,.int .u32 0,.int .u32 0,.int .u32 0,.int .u32 0,.int .u32 0,.int .u32 0,.int .u32 0,.int .u32 0,.int .u32 0,.int .u32 0,.int .u32 0,.int .u32 0,.int .u32 0,.int .u32 0,.int .u32 0,.int .u32 0,.int .u32 0,.int .u32 0,.int .u32 0,.int .u32 0,.int .u32 0,.int .u32 0,.int .u32 0,.int .u32 0,.int .u32 0,.int .u32 0,.int .u32 0,.int .u32 0,.int .u32 0,.int .u32 0,.int .u32 0,.int .u32 0,.int .u32 0,.int .u32 0,.int .u32 0,.int .u32 0,.int .u32 0,.int .u32 0,.int .u32 0,.int .u32 0,.int .u32 0,.int .u32 0,.int .u32 0] 273)) (.cells #[.int .u32 0,.int .u32 0,.int .u32 0,.int .u32 0,.int .u32 0,.int .u32 0,.int .u32 0,.int .u32 0,.int .u32 0,.int .u32 0,.int .u32 0,.int .u32 0,.int .u32 0,.int .u32 0,.int .u32 0,.int .u32 0,.int .u32 0,.int .u32 0,.int .u32 0,.int .u32 0,.int .u32 0,.int .u32 0,.int .u32 0,.int .u32 0,.int .u32 0,.int .u32 0,.int .u32 0,.int .u32 0,.int .u32 0,.int .u32 0,.int .u32 0,.int .u32 0,.int .u32 0,.int .u32 0,.int .u32 0,.int .u32 0,.int .u32 0,.int .u32 0,.int .u32 0,.int .u32 0,.int .u32 0,.int .u32 0,.int .u32 0,.int .u32 0,.int .u32 0,.int .u32 0,.int .u32 0,.int .u32 0,.int .u32 0,.int .u32 0,.int .u32 0,.int .u32 0,.int .u32 0,.int .u32 0,.int .u32 0,.int .u32 0,.int .u32 0,.int .u32 0,.int .u32 0,.int .u32 0,.int .u32 0,.int .u32 0,.int .u32 0,.int .u32 0] 273);have HS3:=Lib.hid hBW.size
 have h6':Blk (((w3.alloc (.cells #[.int .u32 0,.int .u32 0,.int .u32 0,.int .u32 0,.int .u32 0,.int .u32 0,.int .u32 0,.int .u32 0,.int .u32 0,.int .u32 0,.int .u32 0,.int .u32 0,.int .u32 0,.int .u32 0,.int .u32 0,.int .u32 0,.int .u32 0,.int .u32 0,.int .u32 0,.int .u32 0,.int .u32 0,.int .u32 0,.int .u32 0,.int .u32 0,.int .u32 0,.int .u32 0,.int .u32 0,.int .u32 0,.int .u32 0,.int .u32 0,.int .u32 0,.int .u32 0,.int .u32 0,.int .u32 0,.int .u32 0,.int .u32 0,.int .u32 0,.int .u32 0,.int .u32 0,.int .u32 0,.int .u32 0,.int .u32 0,.int .u32 0,.int .u32 0,.int .u32 0,.int .u32 0,.int .u32 0,.int .u32 0,.int .u32 0,.int .u32 0,.int .u32 0,.int .u32 0,.int .u32 0,.int .u32 0,.int .u32 0,.int .u32 0,.int .u32 0,.int .u32 0,.int .u32 0,.int .u32 0,.int .u32 0,.int .u32 0,.int .u32 0,.int .u32 0] 273)).alloc (.cells #[.int .u32 0,.int .u32 0,.int .u32 0,.int .u32 0,.int .u32 0,.int .u32 0,.int .u32 0,.int .u32 0,.int .u32 0,.int .u32 0,.int .u32 0,.int .u32 0,.int .u32 0,.int .u32 0,.int .u32 0,.int .u32 0,.int .u32 0,.int .u32 0,.int .u32 0,.int .u32 0,.int .u32 0,.int .u32 0,.int .u32 0,.int .u32 0,.int .u32 0,.int .u32 0,.int .u32 0,.int .u32 0,.int .u32 0,.int .u32 0,.int .u32 0,.int .u32 0,.int .u32 0,.int .u32 0,.int .u32 0,.int .u32 0,.int .u32 0,.int .u32 0,.int .u32 0,.int .u32 0,.int .u32 0,.int .u32 0,.int .u32 0,.int .u32 0,.int .u32 0,.int .u32 0,.int .u32 0,.int .u32 0,.int .u32 0,.int .u32 0,.int .u32 0,.int .u32 0,.int .u32 0,.int .u32 0,.int .u32 0,.int .u32 0,.int .u32 0,.int .u32 0,.int .u32 0,.int .u32 0,.int .u32 0,.int .u32 0,.int .u32 0,.int .u32 0] 273)).setRow w3.heap.size (u32f kC 64).toArray) (w3.heap.size+1) 273 (u32f (fun _=>0) 64):=by
  show ((_:World).setRow _ _).heap[_]?=_;rw [setRow_other _ _ _ _ (by omega)];exact h6
 go_upto_region 2 with (first | (refine wpList_store_row rfl 273 (.tmp 5) (.tmp 18) rfl w3.heap.size (u32f kC 64).toArray rfl rfl 273 _ h5 (size_w64 _) (by simp [u32f]) (u32f_one _ _) ?_) | (refine wpList_store_row rfl 273 (.tmp 6) (.tmp 20) rfl (w3.heap.size+1) (u32f (sW s) 64).toArray rfl rfl 273 _ h6' (size_w64 _) (by simp [u32f]) (u32f_one _ _) ?_))
 have hW:=setRow_blk (cs:=(u32f (sW s) 64).toArray) h6'
 have hK:Blk ((((w3.alloc (.cells #[.int .u32 0,.int .u32 0,.int .u32 0,.int .u32 0,.int .u32 0,.int .u32 0,.int .u32 0,.int .u32 0,.int .u32 0,.int .u32 0,.int .u32 0,.int .u32 0,.int .u32 0,.int .u32 0,.int .u32 0,.int .u32 0,.int .u32 0,.int .u32 0,.int .u32 0,.int .u32 0,.int .u32 0,.int .u32 0,.int .u32 0,.int .u32 0,.int .u32 0,.int .u32 0,.int .u32 0,.int .u32 0,.int .u32 0,.int .u32 0,.int .u32 0,.int .u32 0,.int .u32 0,.int .u32 0,.int .u32 0,.int .u32 0,.int .u32 0,.int .u32 0,.int .u32 0,.int .u32 0,.int .u32 0,.int .u32 0,.int .u32 0,.int .u32 0,.int .u32 0,.int .u32 0,.int .u32 0,.int .u32 0,.int .u32 0,.int .u32 0,.int .u32 0,.int .u32 0,.int .u32 0,.int .u32 0,.int .u32 0,.int .u32 0,.int .u32 0,.int .u32 0,.int .u32 0,.int .u32 0,.int .u32 0,.int .u32 0,.int .u32 0,.int .u32 0] 273)).alloc (.cells #[.int .u32 0,.int .u32 0,.int .u32 0,.int .u32 0,.int .u32 0,.int .u32 0,.int .u32 0,.int .u32 0,.int .u32 0,.int .u32 0,.int .u32 0,.int .u32 0,.int .u32 0,.int .u32 0,.int .u32 0,.int .u32 0,.int .u32 0,.int .u32 0,.int .u32 0,.int .u32 0,.int .u32 0,.int .u32 0,.int .u32 0,.int .u32 0,.int .u32 0,.int .u32 0,.int .u32 0,.int .u32 0,.int .u32 0,.int .u32 0,.int .u32 0,.int .u32 0,.int .u32 0,.int .u32 0,.int .u32 0,.int .u32 0,.int .u32 0,.int .u32 0,.int .u32 0,.int .u32 0,.int .u32 0,.int .u32 0,.int .u32 0,.int .u32 0,.int .u32 0,.int .u32 0,.int .u32 0,.int .u32 0,.int .u32 0,.int .u32 0,.int .u32 0,.int .u32 0,.int .u32 0,.int .u32 0,.int .u32 0,.int .u32 0,.int .u32 0,.int .u32 0,.int .u32 0,.int .u32 0,.int .u32 0,.int .u32 0,.int .u32 0,.int .u32 0] 273)).setRow w3.heap.size (u32f kC 64).toArray).setRow (w3.heap.size+1) (u32f (sW s) 64).toArray) w3.heap.size 273 (u32f kC 64):=by
  show ((_:World).setRow _ _).heap[_]?=_;rw [setRow_other _ _ _ _ (by omega)];exact setRow_blk (cs:=(u32f kC 64).toArray) h5
 have hl3:=hS2.lt;have hl4:=hR4.lt;have HB3:=Lib.hid hb3z
 have hS5:Blk ((((w3.alloc (.cells #[.int .u32 0,.int .u32 0,.int .u32 0,.int .u32 0,.int .u32 0,.int .u32 0,.int .u32 0,.int .u32 0,.int .u32 0,.int .u32 0,.int .u32 0,.int .u32 0,.int .u32 0,.int .u32 0,.int .u32 0,.int .u32 0,.int .u32 0,.int .u32 0,.int .u32 0,.int .u32 0,.int .u32 0,.int .u32 0,.int .u32 0,.int .u32 0,.int .u32 0,.int .u32 0,.int .u32 0,.int .u32 0,.int .u32 0,.int .u32 0,.int .u32 0,.int .u32 0,.int .u32 0,.int .u32 0,.int .u32 0,.int .u32 0,.int .u32 0,.int .u32 0,.int .u32 0,.int .u32 0,.int .u32 0,.int .u32 0,.int .u32 0,.int .u32 0,.int .u32 0,.int .u32 0,.int .u32 0,.int .u32 0,.int .u32 0,.int .u32 0,.int .u32 0,.int .u32 0,.int .u32 0,.int .u32 0,.int .u32 0,.int .u32 0,.int .u32 0,.int .u32 0,.int .u32 0,.int .u32 0,.int .u32 0,.int .u32 0,.int .u32 0,.int .u32 0] 273)).alloc (.cells #[.int .u32 0,.int .u32 0,.int .u32 0,.int .u32 0,.int .u32 0,.int .u32 0,.int .u32 0,.int .u32 0,.int .u32 0,.int .u32 0,.int .u32 0,.int .u32 0,.int .u32 0,.int .u32 0,.int .u32 0,.int .u32 0,.int .u32 0,.int .u32 0,.int .u32 0,.int .u32 0,.int .u32 0,.int .u32 0,.int .u32 0,.int .u32 0,.int .u32 0,.int .u32 0,.int .u32 0,.int .u32 0,.int .u32 0,.int .u32 0,.int .u32 0,.int .u32 0,.int .u32 0,.int .u32 0,.int .u32 0,.int .u32 0,.int .u32 0,.int .u32 0,.int .u32 0,.int .u32 0,.int .u32 0,.int .u32 0,.int .u32 0,.int .u32 0,.int .u32 0,.int .u32 0,.int .u32 0,.int .u32 0,.int .u32 0,.int .u32 0,.int .u32 0,.int .u32 0,.int .u32 0,.int .u32 0,.int .u32 0,.int .u32 0,.int .u32 0,.int .u32 0,.int .u32 0,.int .u32 0,.int .u32 0,.int .u32 0,.int .u32 0,.int .u32 0] 273)).setRow w3.heap.size (u32f kC 64).toArray).setRow (w3.heap.size+1) (u32f (sW s) 64).toArray) g2 266 (u32f S 8):=by
  show (((_:World).setRow _ _).setRow _ _).heap[_]?=_;rw [setRow_other _ _ _ _ (by have:=HG2.out;omega),setRow_other _ _ _ _ (by have:=HG2.out;omega)];exact hS2
 have hR5:Blk ((((w3.alloc (.cells #[.int .u32 0,.int .u32 0,.int .u32 0,.int .u32 0,.int .u32 0,.int .u32 0,.int .u32 0,.int .u32 0,.int .u32 0,.int .u32 0,.int .u32 0,.int .u32 0,.int .u32 0,.int .u32 0,.int .u32 0,.int .u32 0,.int .u32 0,.int .u32 0,.int .u32 0,.int .u32 0,.int .u32 0,.int .u32 0,.int .u32 0,.int .u32 0,.int .u32 0,.int .u32 0,.int .u32 0,.int .u32 0,.int .u32 0,.int .u32 0,.int .u32 0,.int .u32 0,.int .u32 0,.int .u32 0,.int .u32 0,.int .u32 0,.int .u32 0,.int .u32 0,.int .u32 0,.int .u32 0,.int .u32 0,.int .u32 0,.int .u32 0,.int .u32 0,.int .u32 0,.int .u32 0,.int .u32 0,.int .u32 0,.int .u32 0,.int .u32 0,.int .u32 0,.int .u32 0,.int .u32 0,.int .u32 0,.int .u32 0,.int .u32 0,.int .u32 0,.int .u32 0,.int .u32 0,.int .u32 0,.int .u32 0,.int .u32 0,.int .u32 0,.int .u32 0] 273)).alloc (.cells #[.int .u32 0,.int .u32 0,.int .u32 0,.int .u32 0,.int .u32 0,.int .u32 0,.int .u32 0,.int .u32 0,.int .u32 0,.int .u32 0,.int .u32 0,.int .u32 0,.int .u32 0,.int .u32 0,.int .u32 0,.int .u32 0,.int .u32 0,.int .u32 0,.int .u32 0,.int .u32 0,.int .u32 0,.int .u32 0,.int .u32 0,.int .u32 0,.int .u32 0,.int .u32 0,.int .u32 0,.int .u32 0,.int .u32 0,.int .u32 0,.int .u32 0,.int .u32 0,.int .u32 0,.int .u32 0,.int .u32 0,.int .u32 0,.int .u32 0,.int .u32 0,.int .u32 0,.int .u32 0,.int .u32 0,.int .u32 0,.int .u32 0,.int .u32 0,.int .u32 0,.int .u32 0,.int .u32 0,.int .u32 0,.int .u32 0,.int .u32 0,.int .u32 0,.int .u32 0,.int .u32 0,.int .u32 0,.int .u32 0,.int .u32 0,.int .u32 0,.int .u32 0,.int .u32 0,.int .u32 0,.int .u32 0,.int .u32 0,.int .u32 0,.int .u32 0] 273)).setRow w3.heap.size (u32f kC 64).toArray).setRow (w3.heap.size+1) (u32f (sW s) 64).toArray) g4 266 (u32f (fun _=>0) 8):=by
  show (((_:World).setRow _ _).setRow _ _).heap[_]?=_;rw [setRow_other _ _ _ _ (by have:=HG2.out;omega),setRow_other _ _ _ _ (by have:=HG2.out;omega)];exact hR4
 have hB5:=setRow_below (cs:=(u32f (sW s) 64).toArray) (setRow_below (cs:=(u32f kC 64).toArray) hBW (g:=w3.heap.size) HB3.out) (g:=w3.heap.size+1) (by have:=HB3.out;omega);clear h5 h6 h6' hS2 hR4 hBW HS3 hl3 hl4;generalize (((w3.alloc (.cells #[.int .u32 0,.int .u32 0,.int .u32 0,.int .u32 0,.int .u32 0,.int .u32 0,.int .u32 0,.int .u32 0,.int .u32 0,.int .u32 0,.int .u32 0,.int .u32 0,.int .u32 0,.int .u32 0,.int .u32 0,.int .u32 0,.int .u32 0,.int .u32 0,.int .u32 0,.int .u32 0,.int .u32 0,.int .u32 0,.int .u32 0,.int .u32 0,.int .u32 0,.int .u32 0,.int .u32 0,.int .u32 0,.int .u32 0,.int .u32 0,.int .u32 0,.int .u32 0,.int .u32 0,.int .u32 0,.int .u32 0,.int .u32 0,.int .u32 0,.int .u32 0,.int .u32 0,.int .u32 0,.int .u32 0,.int .u32 0,.int .u32 0,.int .u32 0,.int .u32 0,.int .u32 0,.int .u32 0,.int .u32 0,.int .u32 0,.int .u32 0,.int .u32 0,.int .u32 0,.int .u32 0,.int .u32 0,.int .u32 0,.int .u32 0,.int .u32 0,.int .u32 0,.int .u32 0,.int .u32 0,.int .u32 0,.int .u32 0,.int .u32 0,.int .u32 0] 273)).alloc (.cells #[.int .u32 0,.int .u32 0,.int .u32 0,.int .u32 0,.int .u32 0,.int .u32 0,.int .u32 0,.int .u32 0,.int .u32 0,.int .u32 0,.int .u32 0,.int .u32 0,.int .u32 0,.int .u32 0,.int .u32 0,.int .u32 0,.int .u32 0,.int .u32 0,.int .u32 0,.int .u32 0,.int .u32 0,.int .u32 0,.int .u32 0,.int .u32 0,.int .u32 0,.int .u32 0,.int .u32 0,.int .u32 0,.int .u32 0,.int .u32 0,.int .u32 0,.int .u32 0,.int .u32 0,.int .u32 0,.int .u32 0,.int .u32 0,.int .u32 0,.int .u32 0,.int .u32 0,.int .u32 0,.int .u32 0,.int .u32 0,.int .u32 0,.int .u32 0,.int .u32 0,.int .u32 0,.int .u32 0,.int .u32 0,.int .u32 0,.int .u32 0,.int .u32 0,.int .u32 0,.int .u32 0,.int .u32 0,.int .u32 0,.int .u32 0,.int .u32 0,.int .u32 0,.int .u32 0,.int .u32 0,.int .u32 0,.int .u32 0,.int .u32 0,.int .u32 0] 273)).setRow w3.heap.size (u32f kC 64).toArray).setRow (w3.heap.size+1) (u32f (sW s) 64).toArray=w5 at hW hK hS5 hR5 hB5 ⊢;replace hW:Blk w5 (w3.heap.size+1) 273 (u32f (sW s) 64):=hW;obtain ⟨g6,hg6⟩:∃g,w3.heap.size+1=g:=⟨_,rfl⟩;obtain ⟨g5,hg5⟩:∃g,w3.heap.size=g:=⟨_,rfl⟩;rw [hg6] at hW ⊢;rw [hg5] at hK ⊢;clear hg5 hg6 HB3 HG2;apply wp_region_lit
 refine wpList_load_row rfl 266 (.tmp 2) rfl g2 rfl 266 _ (0,0) _ hS5 Tryz.underlying266 rfl (size_s8 _) ?_;have h7:=(Blk.new w5 #[.int .u32 0,.int .u32 0,.int .u32 0,.int .u32 0,.int .u32 0,.int .u32 0,.int .u32 0,.int .u32 0] 266).as z8;have hB7:=setRow_below (cs:=(u32f S 8).toArray) (b1 w5 (.cells #[.int .u32 0,.int .u32 0,.int .u32 0,.int .u32 0,.int .u32 0,.int .u32 0,.int .u32 0,.int .u32 0] 266)) (Nat.le_refl _);have hV:=setRow_blk (cs:=(u32f S 8).toArray) h7;go_upto_region 3 with (first | (refine wpList_store_row rfl 266 (.tmp 7) (.tmp 21) rfl w5.heap.size (u32f S 8).toArray rfl rfl 266 _ h7 (size_s8 _) (by simp [u32f]) (u32f_one _ _) ?_))
 clear h7;generalize (w5.alloc (.cells #[.int .u32 0,.int .u32 0,.int .u32 0,.int .u32 0,.int .u32 0,.int .u32 0,.int .u32 0,.int .u32 0] 266)).setRow w5.heap.size (u32f S 8).toArray=w7 at hB7 hV ⊢;replace hV:Blk w7 w5.heap.size 266 (u32f S 8):=hV;obtain ⟨g7,hg7⟩:∃g,w5.heap.size=g:=⟨_,rfl⟩;rw [hg7] at hV ⊢;have HG7:Hid (w5.heap.size≤g7):=by rw [Hid];omega
 clear hg7;go_wp2;go_loopw [22] (fun i wr=>∃k:Nat,k≤64∧i=.int .i64 k∧Blk wr g7 266 (u32f (vv s S k) 8)∧Below w5.heap.size w5 wr) (fun i _=>64-(intOf i).toNat)
 case atStart=>exact ⟨0,by omega,rfl,hV,hB7⟩
 case round =>
  clear hV hB7;obtain ⟨k,hk,rfl,hV,hbr⟩:=hrel;obtain ⟨wp,hwp⟩:∃wp,wp=wr:=⟨_,rfl⟩;subst hwp;by_cases hlt:k<64
  ·have hKr:=hK.after hbr;have hWr:=hW.after hbr;have HV3:Hid (∀j,j<8→vv s S (k+1) j=rnd (vv s S k) (kC k) (sW s k) j):=fun j _=>rfl
   have HRT:Hid (rT (vv s S k) (kC k) (sW s k)=tT (vv s S k 4) (vv s S k 5) (vv s S k 6) (vv s S k 7) (kC k) (sW s k)):=rfl;have ck:wp.cell? ⟨g5,k,none⟩=some (.int .u32 (kC k)):=by rw [hKr.cell,u32f_get _ hlt]
   have cw:wp.cell? ⟨g6,k,none⟩=some (.int .u32 (sW s k)):=by rw [hWr.cell,u32f_get _ hlt]
   have hKl:=hKr.lt;have hWl:=hWr.lt;have hVl:=hV.lt;obtain ⟨VK,hVK⟩:∃F,F=vv s S k:=⟨_,rfl⟩;rw [←hVK] at hV HV3 HRT;have HVK:=Lib.hid hVK;clear hVK hKr hWr;generalize hkk:kC k=kk at ck HV3 HRT;generalize hwk:sW s k=wk at cw HV3 HRT;clear hkk hwk;have c0:wp.cell? ⟨g7,0,none⟩=some (.int .u32 (VK 0)):=by rw [hV.cell,u32f_get _ (by omega)]
   have c1:wp.cell? ⟨g7,1,none⟩=some (.int .u32 (VK 1)):=by rw [hV.cell,u32f_get _ (by omega)]
   have c2:wp.cell? ⟨g7,2,none⟩=some (.int .u32 (VK 2)):=by rw [hV.cell,u32f_get _ (by omega)]
   have c3:wp.cell? ⟨g7,3,none⟩=some (.int .u32 (VK 3)):=by rw [hV.cell,u32f_get _ (by omega)]
   have c4:wp.cell? ⟨g7,4,none⟩=some (.int .u32 (VK 4)):=by rw [hV.cell,u32f_get _ (by omega)]
   have c5:wp.cell? ⟨g7,5,none⟩=some (.int .u32 (VK 5)):=by rw [hV.cell,u32f_get _ (by omega)]
   have c6:wp.cell? ⟨g7,6,none⟩=some (.int .u32 (VK 6)):=by rw [hV.cell,u32f_get _ (by omega)]
   have c7:wp.cell? ⟨g7,7,none⟩=some (.int .u32 (VK 7)):=by rw [hV.cell,u32f_get _ (by omega)]
   obtain ⟨y0,hy0⟩:∃y,y=VK 0:=⟨_,rfl⟩;rw [←hy0] at c0;have HY0:=Lib.hid hy0;clear hy0;obtain ⟨y1,hy1⟩:∃y,y=VK 1:=⟨_,rfl⟩;rw [←hy1] at c1;have HY1:=Lib.hid hy1;clear hy1;obtain ⟨y2,hy2⟩:∃y,y=VK 2:=⟨_,rfl⟩;rw [←hy2] at c2;have HY2:=Lib.hid hy2;clear hy2;obtain ⟨y3,hy3⟩:∃y,y=VK 3:=⟨_,rfl⟩;rw [←hy3] at c3;have HY3:=Lib.hid hy3;clear hy3;obtain ⟨y4,hy4⟩:∃y,y=VK 4:=⟨_,rfl⟩;rw [←hy4] at c4;have HY4:=Lib.hid hy4;clear hy4;obtain ⟨y5,hy5⟩:∃y,y=VK 5:=⟨_,rfl⟩;rw [←hy5] at c5;have HY5:=Lib.hid hy5;clear hy5;obtain ⟨y6,hy6⟩:∃y,y=VK 6:=⟨_,rfl⟩;rw [←hy6] at c6;have HY6:=Lib.hid hy6;clear hy6;obtain ⟨y7,hy7⟩:∃y,y=VK 7:=⟨_,rfl⟩;rw [←hy7] at c7;have HY7:=Lib.hid hy7;clear hy7;have HTT:Hid (tT y4 y5 y6 y7 kk wk=rT VK kk wk):=by rw [Hid,HY4.out,HY5.out,HY6.out,HY7.out];exact HRT.out.symm
   have HUU:Hid (tU y0 y1 y2=tU (VK 0) (VK 1) (VK 2)):=by rw [Hid,HY0.out,HY1.out,HY2.out]
   clear HRT;have k1:(0:Int)≤(k:Int):=by omega
   have k2:(k:Int)<64:=by omega
   go_upto_region 6 with fail
   go_cut [9,10,11,12,13,14] (fun s9 s10 s11 s12 s13 s14 wc'=>s9=.int .u32 y0∧s10=.int .u32 y1∧s11=.int .u32 y2∧s12=.int .u32 y4∧s13=.int .u32 y5∧s14=.int .u32 y6∧wc'=wp.drew)
   case first =>
    as_aux_lemma =>
    clear ck cw hK hW;go_wp2_with fail
    go_region;go_wp2_with fail
    go_meet
    exact ⟨rfl,rfl,rfl,rfl,rfl,rfl,rfl⟩
   case rest =>
   obtain ⟨rfl,rfl,rfl,rfl,rfl,rfl,rfl⟩:=hcut;have hV2:=Blk.drewH hV;have hbr2:=hbr.drew;have g7c:=gclH (w:=wp.drew) (a:=⟨g7,7,none⟩) hVl c7;have gkc:=gclH (w:=wp.drew) (a:=⟨g5,k,none⟩) hKl ck;have gwc:=gclH (w:=wp.drew) (a:=⟨g6,k,none⟩) hWl cw;clear c0 c1 c2 c3 c4 c5 c6 c7 ck cw hV hbr hKl hWl;generalize wp.drew=wx at hV2 hbr2 g7c gkc gwc ⊢;go_upto_region 7 with fail
   go_cut [15] (fun s15 wc'=>s15=.int .u32 (tT y4 y5 y6 y7 kk wk)∧Below wx.heap.size wx wc')
   case first =>
    clear hbr2 hV2 hK hW;go_wp2_with fail
    refine wp_region_gw (by kernel_rfl) (by kernel_rfl) ?_;repeat (go_big_quiet_step (first | (go_at_call 256;exact gw_of (turn_c _ _ 6 _ rfl (by decide) (by decide))) | (go_at_call 256;exact gw_of (turn_c _ _ 11 _ rfl (by decide) (by decide))) | (go_at_call 256;exact gw_of (turn_c _ _ 25 _ rfl (by decide) (by decide)))))
    refine wpQuiet_nil ?_;rintro w9 ⟨xw9,rfl⟩;have hb9:=gw_below xw9;generalize gw xw9=w9 at hb9;clear g7c gkc gwc;go_wp2_with fail
    go_meet
    exact ⟨rfl,hb9⟩
   case rest =>
   obtain ⟨rfl,hbc⟩:=hcut;rw [HTT.out];obtain ⟨wy,hwy⟩:∃wx,wx=wc:=⟨_,rfl⟩;subst hwy;replace hbr2:=bt hbr2 hbc;replace hV2:=hV2.after hbc;clear hbc g7c gkc gwc;go_upto_region 8 with fail
   go_cut [16] (fun s16 wc'=>s16=.int .u32 (tU y0 y1 y2)∧Below wy.heap.size wy wc')
   case first =>
    clear hbr2 hV2 hK hW;go_wp2_with fail
    refine (turn_c _ _ 2 _ rfl (by decide) (by decide)).mono ?_;rintro e wa ⟨rfl,hba⟩;go_wp2_with fail
    refine (turn_c _ _ 13 _ rfl (by decide) (by decide)).mono ?_;rintro e wb ⟨rfl,hbb⟩;go_wp2_with fail
    refine (turn_c _ _ 22 _ rfl (by decide) (by decide)).mono ?_;rintro e wd ⟨rfl,hbd⟩;have hb6:=bt hba (bt hbb hbd);go_wp2_with fail
    go_meet
    exact ⟨rfl,hb6⟩
   case rest =>
   obtain ⟨rfl,hbc⟩:=hcut;rw [HUU.out];obtain ⟨wd,hwd⟩:∃wx,wx=wc:=⟨_,rfl⟩;subst hwd;replace hbr2:=bt hbr2 hbc;replace hV2:=hV2.after hbc;clear hbc;obtain ⟨u2,hu2⟩:∃u,u=tU (VK 0) (VK 1) (VK 2):=⟨_,rfl⟩;obtain ⟨t,ht⟩:∃t,t=rT VK kk wk:=⟨_,rfl⟩;rw [←hu2,←ht];have HU2:=Lib.hid hu2;have HT2:=Lib.hid ht;clear hu2 ht;have HSH:=Lib.hid (rnd_set VK kk wk t u2 HT2.out HU2.out);replace hV2:=Blk.drewH hV2;replace hbr2:=hbr2.drew;have hRS:=setRow_blk (cs:=((u32f VK 8).toArray.toList.take 1++u32f VK 7++(u32f VK 8).toArray.toList.drop (1+(u32f VK 7).length)).toArray) hV2
   have hcp:=run_copy_row (P:=Tryz.prog) wd.drew 207 207 3 229 g7 1 7 7 ⟨g7,0,none⟩ 7 8 (u32f VK 8).toArray 266 (u32f VK 7) Tryz.underlying207 (by kernel_rfl) hV2 (by simp [u32f]) (fun j v hv=>by
    have hj:j<7:=by
     apply Classical.byContradiction
     intro hn;rw [List.getElem?_eq_none (by rw [u32f_len];omega)] at hv;cases hv
    rw [u32f_get _ hj] at hv;rw [show (⟨g7,0,none⟩:Addr).add j=⟨g7,j,none⟩ by unfold Addr.add;split <;> simp_all,hV2.cell,u32f_get _ (by omega)];exact hv) (by simp [u32f]) (fun v hv=>by
    obtain ⟨j,_,rfl⟩:=List.mem_map.1 hv;rfl)
   have e9:((u32f VK 8).toArray.toList.take 1++u32f VK 7++(u32f VK 8).toArray.toList.drop (1+(u32f VK 7).length)).toArray.toList=u32f (shf VK) 8:=shf_eq VK;rw [e9] at hRS;clear e9;have hBR:=setRow_below (cs:=((u32f VK 8).toArray.toList.take 1++u32f VK 7++(u32f VK 8).toArray.toList.drop (1+(u32f VK 7).length)).toArray) hbr2 HG7.out;generalize ((u32f VK 8).toArray.toList.take 1++u32f VK 7++(u32f VK 8).toArray.toList.drop (1+(u32f VK 7).length)).toArray=xs at hcp hRS hBR;generalize (u32f VK 7).length=nl at hcp;have hVl:=hV2.lt;clear hV2 hbr2;have s0:=hRS.cell 0;have s4:=hRS.cell 4;have f0:=hRS.free 0;have f4:=hRS.free 4;have hVl:=hRS.lt;rw [u32f_get _ (by omega)] at s0 s4;have hs4:shf VK 4=VK 3:=rfl;rw [hs4] at s4;clear hs4;generalize shf VK 0=z0 at s0;obtain ⟨z3,hz3⟩:∃y,y=VK 3:=⟨_,rfl⟩;rw [←hz3] at s4;have HZ3:=Lib.hid hz3;clear hz3;go_wp2_with fail
   go_region;go_wp2;go_roundw
   case rel =>
    refine ⟨k+1,by omega,by go_num,?_,(hBR.setCell HG7.out _).setCell HG7.out _⟩;exact Blk.setv (Blk.setv hRS (by rw [HZ3.out]) rfl) rfl (HSH.out.trans (u32f_congr fun j hj=>(HV3.out j hj).symm))
   case measure=>simp [intOf];omega
  ·obtain rfl:k=64:=by omega
   clear hlt hk hK hW;go_wp2;go_loopw [98] (fun i wr=>∃k:Nat,k≤8∧i=.int .i64 k∧Blk wr g7 266 (u32f (fP s S k) 8)∧Below w5.heap.size w5 wr) (fun i _=>8-(intOf i).toNat)
   case atStart=>exact ⟨0,by omega,rfl,by rw [fP_zero];exact hV,hbr⟩
   case round =>
    clear hV hbr;obtain ⟨k,hk,rfl,hV,hbr⟩:=hrel;obtain ⟨wp,hwp⟩:∃wp,wp=wr:=⟨_,rfl⟩;subst hwp;have hSr:=hS5.after hbr;by_cases hlt:k<8
    ·have c1:=fP_at hV hlt;have c2:wp.cell? ⟨g2,k,none⟩=some (.int .u32 (S k)):=by rw [hSr.cell,u32f_get _ hlt]
     have HSS:=Lib.hid (fP_set s S k);have HCM:Hid (cmp S s k=(vv s S 64 k+S k)%4294967296):=rfl;generalize vv s S 64 k=x at c1 HCM;generalize S k=y at c2 HCM;have f1:=hV.free k;have l1:=hV.lt;have l2:=hSr.lt;have k1:(0:Int)≤(k:Int):=by omega
     have k2:(k:Int)<8:=by omega
     go_wp2_with fail
     go_region;go_wp2;go_roundw
     case rel=>exact ⟨k+1,by omega,by go_num,Blk.drewH (Blk.setv hV (by rw [HCM.out]) HSS.out),(hbr.setCell HG7.out _).drew⟩
     case measure=>simp [intOf];omega
    ·obtain rfl:k=8:=by omega
     have hRr:=hR5.after hbr;have hBB:=bt hB5 hbr;go_upto_region 18 with fail
     apply wp_region_lit
     refine wpList_load_row rfl 266 (.tmp 7) rfl g7 rfl 266 _ (0,0) _ hV Tryz.underlying266 rfl (size_s8 _) ?_;refine wpList_store_row rfl 266 (.tmp 4) (.tmp 110) rfl g4 _ rfl rfl 266 _ hRr (size_s8 _) (by simp [u32f]) (u32f_one _ _) ?_;apply wpList_nil
     go_wp2;refine bodyPost_ret (v:=.agg (u32f (fP s S 8) 8).toArray) ?_ rfl ⟨?_,setRow_below hBB HG4.out⟩
     ·refine results_cell_row (p:=4) (ty:=266) rfl _ _ g4 266 _ (0,0) _ rfl (setRow_heap _ _ _ _ _ _ hRr) Tryz.underlying266 rfl (size_s8 _)
     ·rw [u32f_congr (f:=fP s S 8) (g:=cmp S s) fun j hj=>by rw [fP,if_pos hj]]
end
section
open Go.RowKit Go.Shelf
theorem own_capS {w:World} {base g n c size:Nat} {e:TypeId} {xs:List Value} (h:w.ownsRow base e size (.slice (some ⟨g,0,none⟩) n c) n xs):g<w.heap.size∧n≤c:=by
 rcases h.2 with ⟨h1,h2⟩ | ⟨g',cap,cur,hv,h3,h4,h5,_⟩
 ·cases h1
 ·injection hv with e1 e2 e3
  injection e1 with e1
  injection e1 with e1
  subst e1 e3;exact ⟨(Array.getElem?_eq_some_iff.1 h4).1,h5⟩
theorem run_mk2 {P:Program} {t e:TypeId} {k:IntKind} {bytes:Nat} (ht:P.underlying t=some (.slice e)) (hi:(P.info? e).map (fun i=>(i.zero,i.size,i.bytes))=some (some (.int k 0),1,bytes))
  (n c:Nat) (hnc:n≤c) (hb:bytes*c≤281474976710656) (hm:c≤4611686018427387904) (w:World) :
  (Instr.makeSlice t (.int .i64 (n:Int)) (.int .i64 (c:Int))).run P w=.ok (.slice (some ⟨w.heap.size,0,none⟩) n c) (w.alloc (.cells (List.replicate c (Value.int k 0)).toArray e)):=by
 obtain ⟨i,hi0,hz,hs,hbt⟩:=info_parts hi;have h:=run_make (P:=P) w t e i (.int k 0) ht hi0 hz .i64 .i64 (n:Int) (c:Int) (by omega) (by omega) (by rw [hbt];have h:((bytes*c:Nat):Int)≤((281474976710656:Nat):Int):=Int.ofNat_le.2 hb;rw [Int.natCast_mul] at h;exact h) (by omega);rw [hs,Nat.mul_one,Int.toNat_natCast,Int.toNat_natCast] at h
 have e1:madeCells (Value.int k 0).cells c=(List.replicate c (Value.int k 0)).toArray:=by
  have:=toList_madeCells_one (.int k 0) c;rw [←this];simp [Value.cells]
 rw [e1] at h;exact h
theorem agg_u32 (w:World):(isAgg 229).run Tryz.prog w=.ok false w:=by
 simp [isAgg,run_underlying Tryz.underlying229,go_sem]
theorem size_u32:(Tryz.prog.info? 229).map (fun i=>i.size)=some 1:=by kernel_rfl
theorem ixS (F:Nat→Int) (i:Nat) (hi:i<8) (w:World):(Instr.index 266 (.agg (u32f F 8).toArray) (.int .i64 (i:Int))).run Tryz.prog w=.ok (.int .u32 (F i)) w:=
 run_index_agg 266 229 8 _ .i64 i _ Tryz.underlying266 (by omega) (by omega) size_u32 (agg_u32 w) (by rw [Int.toNat_natCast,List.getElem?_toArray];exact u32f_get F hi)
theorem psum_v (s:ByteArray) (w:World) (hs:s.size≤1000) :
  Calls Tryz.prog 243 #[.string s] w fun e w'=>e=.returned (.string (sumV s))∧Below w.heap.size w w':=by
 obtain ⟨i0,hi0,hz00,hz01,hz02⟩:=info_parts info_u8;have HI0:=Lib.hid hi0;have HA0:=Lib.hid hz00;have HB0:=Lib.hid hz01;have HC0:=Lib.hid hz02;clear hi0 hz00 hz01 hz02;obtain ⟨n,hn⟩:∃n,n=s.size:=⟨_,rfl⟩;obtain ⟨c,hc⟩:∃c,c=n+72:=⟨_,rfl⟩;have hmk:∀W:World,(Instr.makeSlice 134 (.int .i64 (n:Int)) (.int .i64 (c:Int))).run Tryz.prog W=.ok (.slice (some ⟨W.heap.size,0,none⟩) n c) (W.alloc (.cells (List.replicate c (Value.int .u8 0)).toArray 5)):=run_mk2 (P:=Tryz.prog) Tryz.underlying134 info_u8 n c (by omega) (by omega) (by omega);have hcz:IntKind.i64.wrap ((n:Int)+72)=(c:Int):=by rw [IntWalk.i64_in _ (by omega)];omega
 have hls:s.size=n:=hn.symm;obtain ⟨Z,hZ⟩:∃Z:Array Value,Z=(List.replicate c (Value.int .u8 0)).toArray:=⟨_,rfl⟩;have hB:=Blk.new w Z 5;have hBW:=b1 w (.cells Z 5);rw [←hZ] at hmk;have HZ:=Lib.hid hZ;have HN:=Lib.hid hn;have HC:=Lib.hid hc;clear hZ hn hc;go_enter Tryz.func243,Tryz.ntmps243
 go_upto_region 2 with fail
 have hcp:=Lib.run_copy_row_string (P:=Tryz.prog) (w.alloc (.cells Z 5)) 134 9 3 5 w.heap.size 0 n c s Z 5 Tryz.underlying134 (by kernel_rfl) (heap_alloc_new w _) (by omega) (by rw [HZ.out];simp;have:=HC.out;omega)
 have hO:((w.alloc (.cells Z 5)).setRow w.heap.size (Z.toList.take 0++Lib.byteCells s.data.toList++Z.toList.drop (0+s.size)).toArray).ownsRow w.heap.size 5 1 (.slice (some ⟨w.heap.size,0,none⟩) n c) n (u8s s.data.toList):=by
  have hl:s.data.toList.length=n:=by rw [Array.length_toList];exact hls
  refine ⟨by rw [u8s,List.length_map,hl,Nat.mul_one],.inr ⟨w.heap.size,c,_,rfl,Nat.le_refl _,setRow_heap _ _ _ _ _ (0,0) (heap_alloc_new w _),by have:=HC.out;omega,by have:=HC.out;simp only [maxLen];omega,?_,?_⟩⟩
  ·rw [HZ.out];have hsz:s.data.size=s.size:=rfl;simp [Lib.byteCells,hsz];have:=HC.out;omega
  ·rw [List.take_zero,List.nil_append,Nat.mul_one];show List.take n (Lib.byteCells s.data.toList++_)=_;rw [List.take_append_of_le_length (by rw [Lib.byteCells,List.length_map,hl];exact Nat.le_refl _),List.take_of_length_le (by rw [Lib.byteCells,List.length_map,hl];exact Nat.le_refl _)];rfl
 have hB1:=setRow_below (cs:=(Z.toList.take 0++Lib.byteCells s.data.toList++Z.toList.drop (0+s.size)).toArray) hBW (g:=w.heap.size) (Nat.le_refl _);generalize (Z.toList.take 0++Lib.byteCells s.data.toList++Z.toList.drop (0+s.size)).toArray=xs at hcp hO hB1;have hlen0:s.data.toList.length=n:=by rw [Array.length_toList];exact hls
 have HLEN:=Lib.hid hlen0;generalize (w.alloc (.cells Z 5)).setRow w.heap.size xs=w2 at hcp hO hB1;clear hlen0 hB hBW;go_upto_region 3 with fail
 have hsz2:=hB1.size;clear hcp;go_wp2_with (at_builtin;refine wpList_append_lies _ rfl (.tmp 19) (.tmp 20) _ rfl w.heap.size 5 i0 _ 1 1 Tryz.underlying134 HI0.out HA0.out HB0.out HC0.out rfl (by omega) (.slice (some ⟨w.heap.size,0,none⟩) n c) n (u8s s.data.toList) rfl (own_after hO (b1 _ (.cells #[.int .u8 128] 5))) ⟨w2.heap.size,0,none⟩ 1 1 [.int .u8 128] rfl rfl (Blk.new w2 #[.int .u8 128] 5).cells (by simp [Value.oneCell']) (by omega) (by simp only [maxLen];omega) (by omega) (by rw [World.size_alloc];omega) (w2.heap.size+1) (by simp) ?_;intro ga ca wz hown hgrow hat hlt2)
 have hOA:BOwn wz w.heap.size (.slice (some ⟨ga,0,none⟩) (n+1) ca) (s.data.toList++[128]):=by
  rw [BOwn,List.length_append,HLEN.out,u8s,List.map_append];exact hown
 have hBA:=(ba hB1 (.cells #[.int .u8 128] 5)).grown hgrow (by rw [World.size_alloc];omega) (fun x hx=>(own_lt hO hx).2);clear hown hgrow hat hlt2 hO hB1 hsz2;obtain ⟨N2,hT1,hT2,hT3⟩:∃T,T%64=56∧n<T∧T≤n+64:=⟨n+1+(120-(n+1)%64)%64,by omega,by omega,by omega⟩;go_loopw [3] (fun v wr=>∃(k:Nat) (l:List UInt8) (g2 cc:Nat),v=.slice (some ⟨g2,0,none⟩) (n+1+k) cc∧Hid (l=s.data.toList++[128]++List.replicate k 0)∧Hid (l.length=n+1+k)∧n+1+k≤N2∧BOwn wr w.heap.size v l∧Below w.heap.size w wr) (fun v _=>N2-(match v with | .slice _ m _=>m | _=>0))
 case atStart=>exact ⟨0,_,ga,ca,rfl,by simp [Hid],by rw [Hid,List.length_append,HLEN.out];rfl,by omega,hOA,hBA⟩
 case round =>
  obtain ⟨k,l,g2,cc,rfl,HLV,HLL,hkN,hO,hbr⟩:=hrel;obtain ⟨wp,hwp⟩:∃wp,wp=wr:=⟨_,rfl⟩;subst hwp;by_cases he:(n+1+k)%64=56
  ·have hd:(((n+1+k:Nat):Int)%64 != 56)=false:=by rw [bne_eq_false_iff_eq];omega
   have HKZ:Hid (k=zc s.size):=by rw [Hid,zc];omega
   obtain ⟨q,hq⟩:∃q,q=n*8:=⟨_,rfl⟩;have HQ:=Lib.hid hq;have hw1:IntKind.u64.wrap (n:Int)=(n:Int):=by rw [IntKind.wrap_u64];omega
   have hw2:IntKind.u64.wrap ((n:Int)*8)=(q:Int):=by rw [IntKind.wrap_u64];omega
   have hqb:q≤8000:=by omega
   clear hq he;go_wp2;clear hd hw1 hw2;generalize (((n:Int)+1+(k:Int))%64 != 56)=bb25;go_loopw [3,5] (fun v i wr=>∃(j:Nat) (l:List UInt8) (g2 cc:Nat),j≤8∧i=.int .i64 (56-8*(j:Int))∧v=.slice (some ⟨g2,0,none⟩) (n+1+k+j) cc∧Hid (l=s.data.toList++[128]++List.replicate k 0++(be8L q).take j)∧Hid (l.length=n+1+k+j)∧BOwn wr w.heap.size v l∧Below w.heap.size w wr) (fun _ i _=>(intOf i+8).toNat)
   case atStart=>exact ⟨0,l,g2,cc,by omega,rfl,rfl,by rw [Hid,HLV.out];simp,HLL.out,hO,hbr⟩
   case round =>
    clear hO hbr HLV HLL;obtain ⟨j,l,g2,cc,hj,rfl,rfl,HLV,HLL,hO,hbr⟩:=hrel;obtain ⟨wp,hwp⟩:∃wp,wp=wr:=⟨_,rfl⟩;subst hwp;by_cases hlt:j<8
    ·obtain ⟨sh,hsh⟩:∃sh:Nat,56-8*(j:Int)=(sh:Int):=⟨56-8*j,by omega⟩;obtain ⟨qq,hqq⟩:∃qq,qq=q / 256^(7-j):=⟨_,rfl⟩
     have hq2:(q:Int) / 2^sh=(qq:Int):=by
      rw [hqq,Int.natCast_ediv];congr 1
      rw [show sh=8*(7-j) by omega,show (256:Nat)^(7-j)=2^(8*(7-j)) by rw [Nat.pow_mul],Int.natCast_pow];rfl
     have HBE:Hid ((be8L q).take (j+1)=(be8L q).take j++[UInt8.ofNat (qq%256)]):=by
      rw [Hid,List.take_add_one,hqq];congr 1
      rw [be8L,List.getElem?_map,List.getElem?_range hlt];rfl
     have HBY:Hid (Value.int .u8 ((qq:Int)%256)=u8v (UInt8.ofNat (qq%256))):=by
      rw [Hid,byteZ];congr 2
     have s0:(0:Int)≤(sh:Int):=by omega
     have s1:(sh:Int)≤64:=by omega
     have HSH:=Lib.hid hsh;rw [hsh];clear hsh hqq;have hOl:wp.ownsRow w.heap.size 5 1 (.slice (some ⟨g2,0,none⟩) (n+1+k+j) cc) (n+1+k+j) (u8s l):=by have h:wp.ownsRow _ _ _ _ _ _:=hO;rw [HLL.out] at h;exact h
     have hsz3:=hbr.size;go_wp2_with (at_builtin;refine wpList_append_lies _ rfl (.tmp 37) (.tmp 42) _ rfl w.heap.size 5 i0 _ 1 1 Tryz.underlying134 HI0.out HA0.out HB0.out HC0.out rfl (by omega) (.slice (some ⟨g2,0,none⟩) (n+1+k+j) cc) (n+1+k+j) (u8s l) rfl (own_after hOl (b1 _ (.cells #[.int .u8 ((qq:Int)%256)] 5))) ⟨wp.heap.size,0,none⟩ 1 1 [.int .u8 ((qq:Int)%256)] rfl rfl (Blk.new wp #[.int .u8 ((qq:Int)%256)] 5).cells (by simp [Value.oneCell']) (by omega) (by simp only [maxLen];omega) (by omega) (by rw [World.size_alloc];omega) (wp.heap.size+1) (by simp) ?_;intro ga ca wz hown hgrow hat hlt2)
     have hOA:BOwn wz w.heap.size (.slice (some ⟨ga,0,none⟩) (n+1+k+j+1) ca) (l++[UInt8.ofNat (qq%256)]):=by
      rw [BOwn,List.length_append,HLL.out,u8s,List.map_append];rw [HBY.out] at hown;exact hown
     have hBA:=(ba hbr (.cells #[.int .u8 ((qq:Int)%256)] 5)).grown hgrow (by rw [World.size_alloc];omega) (fun x hx=>(own_lt hOl hx).2);clear hown hgrow hat hlt2 hO hOl hbr;have hs8:IntKind.i64.wrap ((sh:Int)-8)=(sh:Int)-8:=by rw [IntWalk.i64_in _ (by omega)]
     go_wp2;go_roundw
     case rel=>exact ⟨j+1,_,ga,ca,by omega,vi (by have:=HSH.out;omega),rfl,by rw [Hid,HLV.out,HBE.out,List.append_assoc _ _ [UInt8.ofNat (qq%256)]],by rw [Hid,List.length_append,HLL.out];rfl,hOA,hBA⟩
     case measure=>simp [intOf];have:=HSH.out;omega
    ·obtain rfl:j=8:=by omega
     have HPV:Hid (l=(padV s).data.toList):=by
      rw [Hid,HLV.out,HKZ.out,HQ.out,←HLEN.out];show _=((s++(⟨#[128]⟩:ByteArray))++zb (zc s.size)++(⟨(be8L (s.size*8)).toArray⟩:ByteArray)).data.toList;rw [ByteArray.data_append,ByteArray.data_append,ByteArray.data_append];have hb8:(be8L (s.data.toList.length*8)).take 8=be8L (s.data.toList.length*8):=List.take_of_length_le (by rw [be8_len];exact Nat.le_refl _);rw [hb8];simp [zb]
     have HLM:Hid (l.length=(padV s).size):=by rw [HPV.out,Array.length_toList];rfl
     obtain ⟨t,htp⟩:∃t,t=padV s:=⟨_,rfl⟩;obtain ⟨m,hm0⟩:∃m,m=t.size / 64:=⟨_,rfl⟩
     have ht:t.size=64*m:=by
      have h:=padV_size s;rw [←htp] at h;omega
     have hm:m≤100:=by
      have h:=padV_size s;rw [←htp] at h;split at h <;> omega
     have HSV:Hid (sumV s=⟨(wL (stN t m) 8).toArray⟩):=by rw [Hid,hm0,htp];rfl
     rw [←htp] at HPV HLM;have hl64:n+1+k+8=64*m:=by rw [←ht,←HLM.out,HLL.out]
     have hOl:wp.ownsRow w.heap.size 5 1 (.slice (some ⟨g2,0,none⟩) (n+1+k+8) cc) (n+1+k+8) (u8s l):=by have h:wp.ownsRow _ _ _ _ _ _:=hO;rw [HLL.out] at h;exact h
     rw [hl64] at hOl ⊢
     have hA:BytA wp g2 0 t:=by
      refine ⟨(own_capS hOl).1,fun j hj=>?_⟩;rw [Nat.zero_add];refine own_cellS hOl j _ ?_;rw [u8s,List.getElem?_map,HPV.out,Array.getElem?_toList,Array.getElem?_eq_getElem hj,byt,Array.getD_eq_getD_getElem?,Array.getElem?_eq_getElem hj];rfl
     have hcc:64*m≤cc:=(own_capS hOl).2;have HT:=Lib.hid ht;clear htp hm0 hl64 hO hOl HLV HLL HPV HLM hmk;go_wp2_with fail
     refine (pfirst_v _).mono ?_;rintro e w4 ⟨rfl,hb4⟩;replace hA:=hA.after hb4;replace hbr:=bt hbr hb4;clear hb4;have h6:=(Blk.new w4 #[.int .u32 0,.int .u32 0,.int .u32 0,.int .u32 0,.int .u32 0,.int .u32 0,.int .u32 0,.int .u32 0] 266).as z8;have hb6:=b1' w4 (.cells #[.int .u32 0,.int .u32 0,.int .u32 0,.int .u32 0,.int .u32 0,.int .u32 0,.int .u32 0,.int .u32 0] 266);have hb7:=setRow_below (cs:=(u32f iC 8).toArray) hb6 (Nat.le_refl _);have hX:=setRow_blk (cs:=(u32f iC 8).toArray) h6;go_upto_region 12 with (first | (refine wpList_store_rowTo rfl 266 (.tmp 6) (.tmp 44) rfl rfl w4.heap.size (u32f iC 8).toArray rfl rfl 266 _ h6 (size_s8 _) (by simp [u32f]) (u32f_one _ _) ?_))
     generalize (w4.alloc (.cells #[.int .u32 0,.int .u32 0,.int .u32 0,.int .u32 0,.int .u32 0,.int .u32 0,.int .u32 0,.int .u32 0] 266)).setRow w4.heap.size (u32f iC 8).toArray=w6 at hb7 hX ⊢;replace hX:Blk w6 w4.heap.size 266 (u32f iC 8):=hX;obtain ⟨gx,hgx⟩:∃g,w4.heap.size=g:=⟨_,rfl⟩;rw [hgx] at hX ⊢;have HGX:Hid (w4.heap.size≤gx):=by rw [Hid];omega
     clear hgx h6 hb6;go_loopw [3] (fun v wr=>∃(b o r c':Nat),b≤m∧Hid (b<m→o=64*b)∧Hid (r+64*b=64*m)∧Hid (c'+64*b=cc)∧v=.slice (some ⟨g2,o,none⟩) r c'∧Blk wr gx 266 (u32f (stN t b) 8)∧Below w4.heap.size w4 wr) (fun v _=>match v with | .slice _ r _=>r | _=>0)
     case atStart=>exact ⟨0,0,64*m,cc,by omega,fun _=>rfl,by simp [Hid],by simp [Hid],rfl,hX,hb7⟩
     case round =>
      clear hX hb7;obtain ⟨b,o,r,c',hbm,HO,HR,HC',rfl,hX,hbr4⟩:=hrel;obtain ⟨wp,hwp⟩:∃wp,wp=wr:=⟨_,rfl⟩;subst hwp;by_cases hlt:b<m
      ·replace HO:Hid (o=64*b):=HO.out hlt;have hr64:64≤r:=by have:=HR.out;omega
       have hc64:64≤c':=by have:=HR.out;have:=HC'.out;omega
       have hrc:r≤c':=by have:=HR.out;have:=HC'.out;omega
       have hd:decide ((0:Int)<(r:Int))=true:=decide_eq_true (by omega);have hAr:=hA.after hbr4;have HBL:Hid ((t.extract (64*b) (64*b+64)).size=64):=by rw [Hid,ByteArray.size_extract];have:=HT.out;omega
       have HAB:Hid (∀W,Below wp.heap.size wp W→BytA W g2 o (t.extract (64*b) (64*b+64))):=fun W hb=>by
        have h:=hAr.after hb;refine ⟨h.1,fun j hj=>?_⟩;rw [HBL.out] at hj;have h2:=h.2 (64*b+j) (by have:=HT.out;omega);rw [Nat.zero_add] at h2;rw [HO.out,h2];congr 2
        rw [byt,byt,ByteArray.data_extract,Array.getD_eq_getD_getElem?,Array.getD_eq_getD_getElem?,Array.getElem?_extract,if_pos (by
         show j<min (64*b+64) t.data.size-64*b;have h3:t.data.size=t.size:=rfl;have:=HT.out;omega)]
       have HAF:Hid (∀W,Below wp.heap.size wp W→Calls Tryz.prog 249 #[.agg #[.int .u32 (stN t b 0),.int .u32 (stN t b 1),.int .u32 (stN t b 2),.int .u32 (stN t b 3),.int .u32 (stN t b 4),.int .u32 (stN t b 5),.int .u32 (stN t b 6),.int .u32 (stN t b 7)],.slice (some ⟨g2,o,none⟩) 64 c'] W fun e w'=>e=.returned (.agg (u32f (stN t (b+1)) 8).toArray)∧Below W.heap.size W w'):=fun W hb=>after_v (stN t b) (t.extract (64*b) (64*b+64)) g2 o c' W HBL.out (HAB.out W hb) hc64
       clear hA hbr;have gc0:=gclH (a:=⟨gx,0,none⟩) hX.lt ((hX.cell 0).trans (u32f_get (stN t b) (by decide:0<8)));have gc1:=gclH (a:=⟨gx,1,none⟩) hX.lt ((hX.cell 1).trans (u32f_get (stN t b) (by decide:1<8)));have gc2:=gclH (a:=⟨gx,2,none⟩) hX.lt ((hX.cell 2).trans (u32f_get (stN t b) (by decide:2<8)));have gc3:=gclH (a:=⟨gx,3,none⟩) hX.lt ((hX.cell 3).trans (u32f_get (stN t b) (by decide:3<8)));have gc4:=gclH (a:=⟨gx,4,none⟩) hX.lt ((hX.cell 4).trans (u32f_get (stN t b) (by decide:4<8)));have gc5:=gclH (a:=⟨gx,5,none⟩) hX.lt ((hX.cell 5).trans (u32f_get (stN t b) (by decide:5<8)));have gc6:=gclH (a:=⟨gx,6,none⟩) hX.lt ((hX.cell 6).trans (u32f_get (stN t b) (by decide:6<8)));have gc7:=gclH (a:=⟨gx,7,none⟩) hX.lt ((hX.cell 7).trans (u32f_get (stN t b) (by decide:7<8)));go_wp2;go_wp2_with fail
       refine wp_region_gw_tail 4 (by kernel_rfl) (by kernel_rfl) ?_;simp only [List.take_succ_cons,List.take_zero,List.drop_succ_cons,List.drop_zero];repeat (go_big_quiet_step (first | (go_at_call 249;exact gw_of (HAF.out _ (gw_below _)))))
       refine wpQuiet_nil ?_;rintro w9 ⟨xw9,rfl⟩;have hb9:=gw_below xw9;generalize gw xw9=w9 at hb9;have hX9:=hX.after hb9;have hbr9:=bt hbr4 hb9;clear gc0 gc1 gc2 gc3 gc4 gc5 gc6 gc7;clear hX hbr4 hb9 hAr;refine wpList_store_rowTo rfl 266 (.tmp 6) (.tmp 53) rfl rfl gx (u32f (stN t (b+1)) 8).toArray rfl rfl 266 _ hX9 (size_s8 _) (by simp [u32f]) (u32f_one _ _) ?_;have hXA:Blk (w9.setRow gx (u32f (stN t (b+1)) 8).toArray) gx 266 (u32f (stN t (b+1)) 8):=setRow_blk (cs:=(u32f (stN t (b+1)) 8).toArray) hX9;have hbrA:=setRow_below (cs:=(u32f (stN t (b+1)) 8).toArray) hbr9 HGX.out;generalize w9.setRow gx (u32f (stN t (b+1)) 8).toArray=wA at hXA hbrA ⊢;clear hX9 hbr9;apply wpList_nil
       go_wp2_with fail
       go_roundw
       case rel =>
        refine ⟨b+1,if c'=64 then o else o+64,r-64,c'-64,by omega,fun hb1=>?_,by rw [Hid];have:=HR.out;omega,by rw [Hid];have:=HC'.out;omega,?_,hXA,hbrA⟩
        ·rw [if_neg (by have:=HR.out;have:=HC'.out;omega),HO.out];omega
        ·by_cases hq:c'=64
         ·rw [if_pos hq,if_pos hq]
         ·rw [if_neg hq,if_neg hq]
       case measure=>show r-64<r;omega
      ·obtain rfl:b=m:=by omega
       replace hbr:=bt hbr hbr4;clear hbr4 HO HC' hA;obtain ⟨F,hF⟩:∃F,F=stN t b:=⟨_,rfl⟩;rw [←hF] at hX HSV;clear hF;have hr0:r=0:=by have:=HR.out;omega
       have hd:decide ((0:Int)<(r:Int))=false:=by rw [decide_eq_false_iff_not];omega
       go_upto_region 16 with fail
       clear hd hr0 HR hlt;apply wp_region_lit
       refine wpList_load_row rfl 266 (.tmp 6) rfl gx rfl 266 _ (0,0) _ hX Tryz.underlying266 rfl (size_s8 _) ?_;clear hX;have hix:∀(k:Nat) (W:World),k<8→(Instr.index 266 (.agg (u32f F 8).toArray) (.int .i64 (k:Int))).run Tryz.prog W=.ok (.int .u32 (F k)) W:=fun k W h=>ixS F k h W
       obtain ⟨AG,hAG⟩:∃A,A=(u32f F 8).toArray:=⟨_,rfl⟩;rw [←hAG] at hix ⊢;clear hAG;have HIX:=Lib.hid hix;clear hix;go_wp2_with fail
       go_loopw [7,55] (fun v i wr=>∃(k':Nat) (l:List UInt8),k'≤8∧i=.int .i64 k'∧Hid (l=wL F k')∧Hid (l.length=4*k')∧BOwn wr w.heap.size v l∧Below w.heap.size w wr) (fun _ i _=>8-(intOf i).toNat)
       case atStart=>exact ⟨0,[],by omega,rfl,rfl,rfl,World.ownsRow_nil _ _ _ _,hbr⟩
       case round =>
        clear hbr;obtain ⟨k',l,hk,rfl,HWL,HL,hO,hbr⟩:=hrel;obtain ⟨wq,hwq⟩:∃wp,wp=wr:=⟨_,rfl⟩;subst hwq;by_cases hlt:k'<8
        ·have hix:∀W:World,(Instr.index 266 (.agg AG) (.int .i64 (k':Int))).run Tryz.prog W=.ok (.int .u32 (F k')) W:=fun W=>HIX.out k' W hlt
         have HWN:Hid (wL F (k'+1)=l++Go.Proofs.YtcfjcenmcpankaaGreatDoor.w4 (F k')):=by rw [Hid,HWL.out];rfl
         generalize F k'=x at hix HWN;have h0k:(0:Int)≤(k':Int):=by omega
         have h1k:(k':Int)<8:=by omega
         have hO4:wq.ownsRow w.heap.size 5 1 u7 (4*k') (u8s l):=by have h:wq.ownsRow _ _ _ _ _ _:=hO;rw [HL.out] at h;exact h
         have HB4:Hid (u8s (l++[UInt8.ofNat (x / 16777216%256).toNat,UInt8.ofNat (x / 65536%256).toNat,UInt8.ofNat (x / 256%256).toNat,UInt8.ofNat (x%256).toNat])=u8s l++[.int .u8 (x / 16777216%256),.int .u8 (x / 65536%256),.int .u8 (x / 256%256),.int .u8 (x%256)]):=by
          rw [Hid,u8s,List.map_append,byteZ,byteZ,byteZ,byteZ];rfl
         have hsz8:=hbr.size;go_wp2_with (at_builtin;refine wpList_append_lies _ rfl (.tmp 58) (.tmp 70) _ rfl w.heap.size 5 i0 _ 1 1 Tryz.underlying134 HI0.out HA0.out HB0.out HC0.out rfl (by omega) u7 (4*k') (u8s l) rfl (own_after hO4 (b1 _ (.cells #[.int .u8 (x / 16777216%256),.int .u8 (x / 65536%256),.int .u8 (x / 256%256),.int .u8 (x%256)] 5))) ⟨wq.heap.size,0,none⟩ 4 4 [.int .u8 (x / 16777216%256),.int .u8 (x / 65536%256),.int .u8 (x / 256%256),.int .u8 (x%256)] rfl rfl (Blk.new wq #[.int .u8 (x / 16777216%256),.int .u8 (x / 65536%256),.int .u8 (x / 256%256),.int .u8 (x%256)] 5).cells (by simp [Value.oneCell']) (by omega) (by simp only [maxLen];omega) (by omega) (by rw [World.size_alloc];omega) (wq.heap.size+1) (by simp) ?_;intro ga ca wz hown hgrow hat hlt2)
         have hOA:BOwn wz w.heap.size (.slice (some ⟨ga,0,none⟩) (4*k'+4) ca) (l++[UInt8.ofNat (x / 16777216%256).toNat,UInt8.ofNat (x / 65536%256).toNat,UInt8.ofNat (x / 256%256).toNat,UInt8.ofNat (x%256).toNat]):=by
          rw [BOwn,HB4.out,List.length_append,HL.out];exact hown
         have hbA:=(ba hbr (.cells #[.int .u8 (x / 16777216%256),.int .u8 (x / 65536%256),.int .u8 (x / 256%256),.int .u8 (x%256)] 5)).grown hgrow (by rw [World.size_alloc];omega) (fun x hx=>(own_lt hO4 hx).2);clear hown hgrow hat hlt2 hO4 hO hix;go_wp2;go_roundw
         case rel=>exact ⟨k'+1,_,by omega,by go_num,by rw [Hid,HWN.out];rfl,by rw [Hid,List.length_append,HL.out];simp;omega,hOA,hbA⟩
         case measure=>simp [intOf];omega
        ·obtain rfl:k'=8:=by omega
         have hO4:wq.ownsRow w.heap.size 5 1 u7 32 (u8s l):=by have h:wq.ownsRow _ _ _ _ _ _:=hO;rw [HL.out] at h;exact h
         rcases hO4.2 with ⟨hv,h2⟩ | ⟨g9,cap,cur,hv,h3,h4,_⟩
         ·omega
         ·subst hv
          have hr:Row wq g9 0 l:=fun j hj=>by
           have h:=own_cellS hO4 j (u8v l[j]) (by simp [u8s,hj]);rw [Nat.zero_add];exact h
          have hcv:=row_str (c:=cap) hr;rw [HL.out] at hcv;have hL:=HL.out;go_wp2;go_ret
          exact ⟨by rw [HSV.out,←HWL.out];rfl,hbr⟩
  ·have hd:(((n+1+k:Nat):Int)%64 != 56)=true:=by rw [bne_iff_ne];omega
   have hkT:n+1+k<N2:=by omega
   have hOl:wp.ownsRow w.heap.size 5 1 (.slice (some ⟨g2,0,none⟩) (n+1+k) cc) (n+1+k) (u8s l):=by have h:wp.ownsRow _ _ _ _ _ _:=hO;rw [HLL.out] at h;exact h
   have hsz3:=hbr.size;go_wp2_with (at_builtin;refine wpList_append_lies _ rfl (.tmp 26) (.tmp 27) _ rfl w.heap.size 5 i0 _ 1 1 Tryz.underlying134 HI0.out HA0.out HB0.out HC0.out rfl (by omega) (.slice (some ⟨g2,0,none⟩) (n+1+k) cc) (n+1+k) (u8s l) rfl (own_after hOl (b1 _ (.cells #[.int .u8 0] 5))) ⟨wp.heap.size,0,none⟩ 1 1 [.int .u8 0] rfl rfl (Blk.new wp #[.int .u8 0] 5).cells (by simp [Value.oneCell']) (by omega) (by simp only [maxLen];omega) (by omega) (by rw [World.size_alloc];omega) (wp.heap.size+1) (by simp) ?_;intro ga ca wz hown hgrow hat hlt2)
   have hOA:BOwn wz w.heap.size (.slice (some ⟨ga,0,none⟩) (n+1+k+1) ca) (l++[0]):=by
    rw [BOwn,List.length_append,HLL.out,u8s,List.map_append];exact hown
   have hBA:=(ba hbr (.cells #[.int .u8 0] 5)).grown hgrow (by rw [World.size_alloc];omega) (fun x hx=>(own_lt hOl hx).2);clear hown hgrow hat hlt2 hO hOl hbr;go_wp2;go_roundw
   case rel=>exact ⟨k+1,_,ga,ca,rfl,by rw [Hid,HLV.out,List.replicate_succ',List.append_assoc],by rw [Hid,List.length_append,HLL.out];rfl,by omega,hOA,hBA⟩
   case measure=>show N2-(n+1+k+1)<N2-(n+1+k);omega
end
section
open Go.RowKit Go.Shelf
def mL (key:ByteArray) (x:UInt8) (k:Nat):List UInt8:=(List.range 64).map fun j=>if j<k then xb key x j else key.data.getD j 0
theorem mL_len (key:ByteArray) (x:UInt8) (k:Nat):(mL key x k).length=64:=by simp [mL]
theorem mL_get (key:ByteArray) (x:UInt8) {k j:Nat} (h:j<64):(mL key x k)[j]?=some (if j<k then xb key x j else key.data.getD j 0):=by
 rw [mL,List.getElem?_map,List.getElem?_range h];rfl
theorem mL_none (key:ByteArray) (x:UInt8) {k j:Nat} (h:¬ j<64):(mL key x k)[j]?=none:=List.getElem?_eq_none (by rw [mL_len];omega)
theorem mL_set (key:ByteArray) (x:UInt8) {k:Nat} (h:k<64):(mL key x k).set k (xb key x k)=mL key x (k+1):=by
 refine List.ext_getElem? fun j=>?_
 by_cases hj:j<64
 ·rw [mL_get key x hj];by_cases e:k=j
  ·subst e;rw [List.getElem?_set_self (by rw [mL_len];exact h),if_pos (by omega)]
  ·rw [List.getElem?_set_ne e,mL_get key x hj];by_cases h2:j<k
   ·rw [if_pos h2,if_pos (by omega)]
   ·rw [if_neg h2,if_neg (by omega)]
 ·rw [mL_none key x hj,List.getElem?_eq_none (by rw [List.length_set,mL_len];omega)]
theorem mL_end (key:ByteArray) (x:UInt8):(⟨(mL key x 64).toArray⟩:ByteArray)=xorV key x:=by
 rw [xorV];refine congrArg (fun l:List UInt8=>(⟨l.toArray⟩:ByteArray)) (List.ext_getElem? fun j=>?_);by_cases hj:j<64
 ·rw [mL_get key x hj,List.getElem?_map,List.getElem?_range hj,if_pos hj];rfl
 ·rw [mL_none key x hj,List.getElem?_eq_none (by simp;omega)]
theorem mL_copy (key:ByteArray) (x:UInt8) (hk:key.size≤64) (Z:List Value) (hZ:Z=List.replicate 64 (.int .u8 0)):Z.take 0++Lib.byteCells key.data.toList++Z.drop (0+key.size)=u8s (mL key x 0):=by
 rw [List.take_zero,List.nil_append,Nat.zero_add,hZ,List.drop_replicate];have hl:(Lib.byteCells key.data.toList).length=key.size:=by rw [Lib.byteCells,List.length_map,Array.length_toList];rfl
 refine List.ext_getElem? fun j=>?_
 have hR:(u8s (mL key x 0))[j]?=((mL key x 0)[j]?).map u8v:=by rw [u8s,List.getElem?_map]
 by_cases hj:j<64
 ·rw [hR,mL_get key x hj,if_neg (Nat.not_lt_zero _)];by_cases h1:j<key.size
  ·rw [List.getElem?_append_left (by rw [hl];exact h1),Lib.byteCells,List.getElem?_map,Array.getElem?_toList,Array.getD_eq_getD_getElem?,Array.getElem?_eq_getElem h1];rfl
  ·rw [List.getElem?_append_right (by rw [hl];omega),hl,List.getElem?_replicate,if_pos (by omega),Array.getD_eq_getD_getElem?,Array.getElem?_eq_none (by show key.size≤j;omega)];rfl
 ·rw [hR,mL_none key x hj,List.getElem?_eq_none (by rw [List.length_append,hl,List.length_replicate];omega)];try rfl
theorem zb64:#[.int .u8 0,.int .u8 0,.int .u8 0,.int .u8 0,.int .u8 0,.int .u8 0,.int .u8 0,.int .u8 0,.int .u8 0,.int .u8 0,.int .u8 0,.int .u8 0,.int .u8 0,.int .u8 0,.int .u8 0,.int .u8 0,.int .u8 0,.int .u8 0,.int .u8 0,.int .u8 0,.int .u8 0,.int .u8 0,.int .u8 0,.int .u8 0,.int .u8 0,.int .u8 0,.int .u8 0,.int .u8 0,.int .u8 0,.int .u8 0,.int .u8 0,.int .u8 0,.int .u8 0,.int .u8 0,.int .u8 0,.int .u8 0,.int .u8 0,.int .u8 0,.int .u8 0,.int .u8 0,.int .u8 0,.int .u8 0,.int .u8 0,.int .u8 0,.int .u8 0,.int .u8 0,.int .u8 0,.int .u8 0,.int .u8 0,.int .u8 0,.int .u8 0,.int .u8 0,.int .u8 0,.int .u8 0,.int .u8 0,.int .u8 0,.int .u8 0,.int .u8 0,.int .u8 0,.int .u8 0,.int .u8 0,.int .u8 0,.int .u8 0,.int .u8 0].toList=List.replicate 64 (Value.int .u8 0):=by rfl
theorem pmac1_v (key s:ByteArray) (w:World) (hk9:key.size≤64) (hs:s.size≤900) :
  Calls Tryz.prog 238 #[.string key,.string s] w fun e w'=>e=.returned (.string (mac1 key s))∧Below w.heap.size w w':=by
 have hd:decide ((64:Int)<(key.size:Int))=false:=decide_eq_false (by omega);have HM:Hid (mac1 key s=sumV (xorV key 92++sumV (xorV key 54++s))):=rfl;go_enter Tryz.func238,Tryz.ntmps238
 have ha:=xorV_size key 92;have hb:=xorV_size key 54;have hn64:(0:Int)≤64:=by omega
 obtain ⟨Z,hZ⟩:∃Z:Array Value,Z=#[.int .u8 0,.int .u8 0,.int .u8 0,.int .u8 0,.int .u8 0,.int .u8 0,.int .u8 0,.int .u8 0,.int .u8 0,.int .u8 0,.int .u8 0,.int .u8 0,.int .u8 0,.int .u8 0,.int .u8 0,.int .u8 0,.int .u8 0,.int .u8 0,.int .u8 0,.int .u8 0,.int .u8 0,.int .u8 0,.int .u8 0,.int .u8 0,.int .u8 0,.int .u8 0,.int .u8 0,.int .u8 0,.int .u8 0,.int .u8 0,.int .u8 0,.int .u8 0,.int .u8 0,.int .u8 0,.int .u8 0,.int .u8 0,.int .u8 0,.int .u8 0,.int .u8 0,.int .u8 0,.int .u8 0,.int .u8 0,.int .u8 0,.int .u8 0,.int .u8 0,.int .u8 0,.int .u8 0,.int .u8 0,.int .u8 0,.int .u8 0,.int .u8 0,.int .u8 0,.int .u8 0,.int .u8 0,.int .u8 0,.int .u8 0,.int .u8 0,.int .u8 0,.int .u8 0,.int .u8 0,.int .u8 0,.int .u8 0,.int .u8 0,.int .u8 0]:=⟨_,rfl⟩;go_upto_region 4 with fail
 rw [←hZ];have hz:Z.toList=List.replicate 64 (Value.int .u8 0):=by rw [hZ];exact zb64
 clear hZ;have h5:=(Blk.new w Z 260).alloc (.cells Z 260);have h6:=Blk.new (w.alloc (.cells Z 260)) Z 260;rw [World.size_alloc] at h6;have hBW:=ba (b1' w (.cells Z 260)) (.cells Z 260);obtain ⟨g5,hg5⟩:∃g,g=w.heap.size:=⟨_,rfl⟩;obtain ⟨g6,hg6⟩:∃g,g=w.heap.size+1:=⟨_,rfl⟩;have HG:Hid (w.heap.size≤g5∧w.heap.size≤g6∧g5≠g6):=⟨by omega,by omega,by omega⟩;rw [←hg6] at h6;rw [←hg5] at h5;try rw [World.size_alloc]
 rw [←hg6,←hg5];clear hg5 hg6;generalize (w.alloc (.cells Z 260)).alloc (.cells Z 260)=wa at h5 h6 hBW ⊢;have hcp:=Lib.run_copy_row_string (P:=Tryz.prog) wa 134 9 3 5 g5 0 64 64 key Z 260 Tryz.underlying134 (by kernel_rfl) h5 hk9 (by rw [←Array.length_toList,hz,List.length_replicate];omega);rw [mL_copy key 54 hk9 Z.toList hz] at hcp;have h5':Blk (wa.setRow g5 (u8s (mL key 54 0)).toArray) g5 260 (u8s (mL key 54 0)):=setRow_blk (cs:=(u8s (mL key 54 0)).toArray) h5
 have h6':Blk (wa.setRow g5 (u8s (mL key 54 0)).toArray) g6 260 Z.toList:=by
  show ((_:World).setRow _ _).heap[_]?=_;rw [setRow_other _ _ _ _ (Ne.symm HG.out.2.2)];exact h6
 have hBW':=setRow_below (cs:=(u8s (mL key 54 0)).toArray) hBW HG.out.1;clear h5 h6 hBW;go_upto_region 5 with fail
 clear hcp;generalize wa.setRow g5 (u8s (mL key 54 0)).toArray=wb at h5' h6' hBW' ⊢;have hcp:=Lib.run_copy_row_string (P:=Tryz.prog) wb 134 9 3 5 g6 0 64 64 key Z 260 Tryz.underlying134 (by kernel_rfl) h6' hk9 (by rw [←Array.length_toList,hz,List.length_replicate];omega);rw [mL_copy key 92 hk9 Z.toList hz] at hcp;have h6:Blk (wb.setRow g6 (u8s (mL key 92 0)).toArray) g6 260 (u8s (mL key 92 0)):=setRow_blk (cs:=(u8s (mL key 92 0)).toArray) h6'
 have h5:Blk (wb.setRow g6 (u8s (mL key 92 0)).toArray) g5 260 (u8s (mL key 54 0)):=by
  show ((_:World).setRow _ _).heap[_]?=_;rw [setRow_other _ _ _ _ HG.out.2.2];exact h5'
 have hBW:=setRow_below (cs:=(u8s (mL key 92 0)).toArray) hBW' HG.out.2.1;clear h5' h6' hBW' hz;go_upto_region 6 with fail
 clear hcp;generalize wb.setRow g6 (u8s (mL key 92 0)).toArray=wc at h5 h6 hBW ⊢;have HX5:Hid (∀y:UInt8,Value.int .u8 (bits .xor .u8 (y.toNat:Int) 54)=u8v (y ^^^ 54)):=fun y=>xor_u8v y 54
 have HX6:Hid (∀y:UInt8,Value.int .u8 (bits .xor .u8 (y.toNat:Int) 92)=u8v (y ^^^ 92)):=fun y=>xor_u8v y 92
 have HME:Hid ((⟨(mL key 54 64).toArray⟩:ByteArray)=xorV key 54∧(⟨(mL key 92 64).toArray⟩:ByteArray)=xorV key 92):=⟨mL_end _ _,mL_end _ _⟩;go_wp2;go_loopw [19] (fun i wr=>∃k:Nat,k≤64∧i=.int .i64 k∧Blk wr g5 260 (u8s (mL key 54 k))∧Blk wr g6 260 (u8s (mL key 92 k))∧Below w.heap.size w wr) (fun i _=>64-(intOf i).toNat)
 case atStart=>exact ⟨0,by omega,rfl,h5,h6,hBW⟩
 case round =>
  clear h5 h6 hBW;obtain ⟨k,hk,rfl,h5,h6,hbr⟩:=hrel;by_cases hlt:k<64
  ·have c5:wr.cell? ⟨g5,k,none⟩=some (u8v (key.data.getD k 0)):=by rw [h5.cell,u8s,List.getElem?_map,mL_get _ _ hlt,if_neg (by omega)];rfl
   have c6:wr.cell? ⟨g6,k,none⟩=some (u8v (key.data.getD k 0)):=by rw [h6.cell,u8s,List.getElem?_map,mL_get _ _ hlt,if_neg (by omega)];rfl
   have HS5:Hid (∀y,y=xb key 54 k→(mL key 54 k).set k y=mL key 54 (k+1)):=fun y e=>by rw [e];exact mL_set key 54 hlt
   have HS6:Hid (∀y,y=xb key 92 k→(mL key 92 k).set k y=mL key 92 (k+1)):=fun y e=>by rw [e];exact mL_set key 92 hlt
   have HXB:Hid (key.data.getD k 0 ^^^ 54=xb key 54 k∧key.data.getD k 0 ^^^ 92=xb key 92 k):=⟨rfl,rfl⟩;generalize key.data.getD k 0=y at c5 c6 HXB;unfold u8v at c5 c6;have hne:g5≠g6:=HG.out.2.2;have f5:=h5.free k;have f6:=h6.free k;have l5:=h5.lt;have l6:=h6.lt;have k1:(0:Int)≤(k:Int):=by omega
   have k2:(k:Int)<64:=by omega
   go_wp2;go_roundw
   case rel =>
    refine ⟨k+1,by omega,by go_num,?_,?_,(hbr.setCell HG.out.1 _).setCell HG.out.2.1 _⟩
    ·rw [HX5.out,←HS5.out _ HXB.out.1,←u8s_set];exact (h5.set k _).other _ _ HG.out.2.2
    ·rw [HX6.out,←HS6.out _ HXB.out.2,←u8s_set];exact (h6.other _ _ (Ne.symm HG.out.2.2)).set k _
   case measure=>simp [intOf];omega
  ·obtain rfl:k=64:=by omega
   have L54:=mL_len key 54 64;have L92:=mL_len key 92 64
   have hr5:∀x:GW wr,(convert 134 9 (.slice (some ⟨g5,0,none⟩) 64 64)).run Tryz.prog (gw x)=.ok (.string (xorV key 54)) (gw x):=fun x=>by
    have h:=row_str (c:=64) (h5.after (gw_below x)).row;rw [L54,HME.out.1] at h;exact h
   have hr6:∀x:GW wr,(convert 134 9 (.slice (some ⟨g6,0,none⟩) 64 64)).run Tryz.prog (gw x)=.ok (.string (xorV key 92)) (gw x):=fun x=>by
    have h:=row_str (c:=64) (h6.after (gw_below x)).row;rw [L92,HME.out.2] at h;exact h
   clear h5 h6 L54 L92;generalize xorV key 92=a at ha HM hr6 ⊢;generalize xorV key 54=b at hb HM hr5 ⊢;have HS:Hid (∀(x:ByteArray) (w:World),x.size≤1000→Calls Tryz.prog 243 #[.string x] w fun e w'=>e=.returned (.string (sumV x))∧Below w.heap.size w w'):=fun x w h=>psum_v x w h
   have hc:=sumV_size (b++s);generalize sumV=sm at hc HM HS ⊢;have h1:¬ 9223372036854775807<b.size+s.size:=by omega
   have hbs:(b++s).size≤1000:=by rw [ByteArray.size_append];omega
   have h2:¬ 9223372036854775807<a.size+(sm (b++s)).size:=by omega
   have hac:(a++sm (b++s)).size≤1000:=by rw [ByteArray.size_append];omega
   go_wp2_with fail
   refine wp_region_gw (by kernel_rfl) (by kernel_rfl) ?_;repeat (go_big_quiet_step (first | (go_at_call 243;exact gw_of (HS.out _ _ hbs)) | (go_at_call 243;exact gw_of (HS.out _ _ hac))))
   refine wpQuiet_nil ?_;rintro w9 ⟨xw9,rfl⟩;have hb9:=gw_below xw9;generalize gw xw9=w9 at hb9;go_wp2;go_ret
   exact ⟨by rw [HM.out];try rfl,bt hbr hb9⟩
theorem pmac_v (key s:ByteArray) (w:World) (hk:key.size≤1000) (hs:s.size≤900) :
  Calls Tryz.prog 238 #[.string key,.string s] w fun e w'=>e=.returned (.string (macV key s))∧Below w.heap.size w w':=by
 by_cases h64:64<key.size
 rotate_left
 ·rw [macV,if_neg h64];exact pmac1_v key s w (by omega) hs
 have hd:decide ((64:Int)<(key.size:Int))=true:=decide_eq_true (by omega);have HM:Hid (macV key s=sumV (xorV (sumV key) 92++sumV (xorV (sumV key) 54++s))):=by rw [Hid,macV,if_pos h64];rfl
 have hk9:(sumV key).size≤64:=by rw [sumV_size];omega
 go_enter Tryz.func238,Tryz.ntmps238
 go_wp2_with fail
 refine (psum_v _ _ hk).mono ?_;rintro e w1 ⟨rfl,hb1⟩;generalize sumV key=key' at hk9 HM ⊢;clear hd;have ha:=xorV_size key' 92;have hb:=xorV_size key' 54;have hn64:(0:Int)≤64:=by omega
 obtain ⟨Z,hZ⟩:∃Z:Array Value,Z=#[.int .u8 0,.int .u8 0,.int .u8 0,.int .u8 0,.int .u8 0,.int .u8 0,.int .u8 0,.int .u8 0,.int .u8 0,.int .u8 0,.int .u8 0,.int .u8 0,.int .u8 0,.int .u8 0,.int .u8 0,.int .u8 0,.int .u8 0,.int .u8 0,.int .u8 0,.int .u8 0,.int .u8 0,.int .u8 0,.int .u8 0,.int .u8 0,.int .u8 0,.int .u8 0,.int .u8 0,.int .u8 0,.int .u8 0,.int .u8 0,.int .u8 0,.int .u8 0,.int .u8 0,.int .u8 0,.int .u8 0,.int .u8 0,.int .u8 0,.int .u8 0,.int .u8 0,.int .u8 0,.int .u8 0,.int .u8 0,.int .u8 0,.int .u8 0,.int .u8 0,.int .u8 0,.int .u8 0,.int .u8 0,.int .u8 0,.int .u8 0,.int .u8 0,.int .u8 0,.int .u8 0,.int .u8 0,.int .u8 0,.int .u8 0,.int .u8 0,.int .u8 0,.int .u8 0,.int .u8 0,.int .u8 0,.int .u8 0,.int .u8 0,.int .u8 0]:=⟨_,rfl⟩;go_upto_region 4 with fail
 rw [←hZ];have hz:Z.toList=List.replicate 64 (Value.int .u8 0):=by rw [hZ];exact zb64
 clear hZ;have h5:=(Blk.new w1 Z 260).alloc (.cells Z 260);have h6:=Blk.new (w1.alloc (.cells Z 260)) Z 260;rw [World.size_alloc] at h6;have hBW:=ba (b1' w1 (.cells Z 260)) (.cells Z 260);obtain ⟨g5,hg5⟩:∃g,g=w1.heap.size:=⟨_,rfl⟩;obtain ⟨g6,hg6⟩:∃g,g=w1.heap.size+1:=⟨_,rfl⟩;have HG:Hid (w1.heap.size≤g5∧w1.heap.size≤g6∧g5≠g6):=⟨by omega,by omega,by omega⟩;rw [←hg6] at h6;rw [←hg5] at h5;try rw [World.size_alloc]
 rw [←hg6,←hg5];clear hg5 hg6;generalize (w1.alloc (.cells Z 260)).alloc (.cells Z 260)=wa at h5 h6 hBW ⊢;have hcp:=Lib.run_copy_row_string (P:=Tryz.prog) wa 134 9 3 5 g5 0 64 64 key' Z 260 Tryz.underlying134 (by kernel_rfl) h5 hk9 (by rw [←Array.length_toList,hz,List.length_replicate];omega);rw [mL_copy key' 54 hk9 Z.toList hz] at hcp;have h5':Blk (wa.setRow g5 (u8s (mL key' 54 0)).toArray) g5 260 (u8s (mL key' 54 0)):=setRow_blk (cs:=(u8s (mL key' 54 0)).toArray) h5
 have h6':Blk (wa.setRow g5 (u8s (mL key' 54 0)).toArray) g6 260 Z.toList:=by
  show ((_:World).setRow _ _).heap[_]?=_;rw [setRow_other _ _ _ _ (Ne.symm HG.out.2.2)];exact h6
 have hBW':=setRow_below (cs:=(u8s (mL key' 54 0)).toArray) hBW HG.out.1;clear h5 h6 hBW;go_upto_region 5 with fail
 clear hcp;generalize wa.setRow g5 (u8s (mL key' 54 0)).toArray=wb at h5' h6' hBW' ⊢;have hcp:=Lib.run_copy_row_string (P:=Tryz.prog) wb 134 9 3 5 g6 0 64 64 key' Z 260 Tryz.underlying134 (by kernel_rfl) h6' hk9 (by rw [←Array.length_toList,hz,List.length_replicate];omega);rw [mL_copy key' 92 hk9 Z.toList hz] at hcp;have h6:Blk (wb.setRow g6 (u8s (mL key' 92 0)).toArray) g6 260 (u8s (mL key' 92 0)):=setRow_blk (cs:=(u8s (mL key' 92 0)).toArray) h6'
 have h5:Blk (wb.setRow g6 (u8s (mL key' 92 0)).toArray) g5 260 (u8s (mL key' 54 0)):=by
  show ((_:World).setRow _ _).heap[_]?=_;rw [setRow_other _ _ _ _ HG.out.2.2];exact h5'
 have hBW:=setRow_below (cs:=(u8s (mL key' 92 0)).toArray) hBW' HG.out.2.1;clear h5' h6' hBW' hz;go_upto_region 6 with fail
 clear hcp;generalize wb.setRow g6 (u8s (mL key' 92 0)).toArray=wc at h5 h6 hBW ⊢;have HX5:Hid (∀y:UInt8,Value.int .u8 (bits .xor .u8 (y.toNat:Int) 54)=u8v (y ^^^ 54)):=fun y=>xor_u8v y 54
 have HX6:Hid (∀y:UInt8,Value.int .u8 (bits .xor .u8 (y.toNat:Int) 92)=u8v (y ^^^ 92)):=fun y=>xor_u8v y 92
 have HME:Hid ((⟨(mL key' 54 64).toArray⟩:ByteArray)=xorV key' 54∧(⟨(mL key' 92 64).toArray⟩:ByteArray)=xorV key' 92):=⟨mL_end _ _,mL_end _ _⟩;go_wp2;go_loopw [19] (fun i wr=>∃k:Nat,k≤64∧i=.int .i64 k∧Blk wr g5 260 (u8s (mL key' 54 k))∧Blk wr g6 260 (u8s (mL key' 92 k))∧Below w1.heap.size w1 wr) (fun i _=>64-(intOf i).toNat)
 case atStart=>exact ⟨0,by omega,rfl,h5,h6,hBW⟩
 case round =>
  clear h5 h6 hBW;obtain ⟨k,hk,rfl,h5,h6,hbr⟩:=hrel;by_cases hlt:k<64
  ·have c5:wr.cell? ⟨g5,k,none⟩=some (u8v (key'.data.getD k 0)):=by rw [h5.cell,u8s,List.getElem?_map,mL_get _ _ hlt,if_neg (by omega)];rfl
   have c6:wr.cell? ⟨g6,k,none⟩=some (u8v (key'.data.getD k 0)):=by rw [h6.cell,u8s,List.getElem?_map,mL_get _ _ hlt,if_neg (by omega)];rfl
   have HS5:Hid (∀y,y=xb key' 54 k→(mL key' 54 k).set k y=mL key' 54 (k+1)):=fun y e=>by rw [e];exact mL_set key' 54 hlt
   have HS6:Hid (∀y,y=xb key' 92 k→(mL key' 92 k).set k y=mL key' 92 (k+1)):=fun y e=>by rw [e];exact mL_set key' 92 hlt
   have HXB:Hid (key'.data.getD k 0 ^^^ 54=xb key' 54 k∧key'.data.getD k 0 ^^^ 92=xb key' 92 k):=⟨rfl,rfl⟩;generalize key'.data.getD k 0=y at c5 c6 HXB;unfold u8v at c5 c6;have hne:g5≠g6:=HG.out.2.2;have f5:=h5.free k;have f6:=h6.free k;have l5:=h5.lt;have l6:=h6.lt;have k1:(0:Int)≤(k:Int):=by omega
   have k2:(k:Int)<64:=by omega
   go_wp2;go_roundw
   case rel =>
    refine ⟨k+1,by omega,by go_num,?_,?_,(hbr.setCell HG.out.1 _).setCell HG.out.2.1 _⟩
    ·rw [HX5.out,←HS5.out _ HXB.out.1,←u8s_set];exact (h5.set k _).other _ _ HG.out.2.2
    ·rw [HX6.out,←HS6.out _ HXB.out.2,←u8s_set];exact (h6.other _ _ (Ne.symm HG.out.2.2)).set k _
   case measure=>simp [intOf];omega
  ·obtain rfl:k=64:=by omega
   have L54:=mL_len key' 54 64;have L92:=mL_len key' 92 64
   have hr5:∀x:GW wr,(convert 134 9 (.slice (some ⟨g5,0,none⟩) 64 64)).run Tryz.prog (gw x)=.ok (.string (xorV key' 54)) (gw x):=fun x=>by
    have h:=row_str (c:=64) (h5.after (gw_below x)).row;rw [L54,HME.out.1] at h;exact h
   have hr6:∀x:GW wr,(convert 134 9 (.slice (some ⟨g6,0,none⟩) 64 64)).run Tryz.prog (gw x)=.ok (.string (xorV key' 92)) (gw x):=fun x=>by
    have h:=row_str (c:=64) (h6.after (gw_below x)).row;rw [L92,HME.out.2] at h;exact h
   clear h5 h6 L54 L92;generalize xorV key' 92=a at ha HM hr6 ⊢;generalize xorV key' 54=b at hb HM hr5 ⊢;have HS:Hid (∀(x:ByteArray) (w:World),x.size≤1000→Calls Tryz.prog 243 #[.string x] w fun e w'=>e=.returned (.string (sumV x))∧Below w.heap.size w w'):=fun x w h=>psum_v x w h
   have hc:=sumV_size (b++s);generalize sumV=sm at hc HM HS ⊢;have h1:¬ 9223372036854775807<b.size+s.size:=by omega
   have hbs:(b++s).size≤1000:=by rw [ByteArray.size_append];omega
   have h2:¬ 9223372036854775807<a.size+(sm (b++s)).size:=by omega
   have hac:(a++sm (b++s)).size≤1000:=by rw [ByteArray.size_append];omega
   go_wp2_with fail
   refine wp_region_gw (by kernel_rfl) (by kernel_rfl) ?_;repeat (go_big_quiet_step (first | (go_at_call 243;exact gw_of (HS.out _ _ hbs)) | (go_at_call 243;exact gw_of (HS.out _ _ hac))))
   refine wpQuiet_nil ?_;rintro w9 ⟨xw9,rfl⟩;have hb9:=gw_below xw9;generalize gw xw9=w9 at hb9;go_wp2;go_ret
   exact ⟨by rw [HM.out];try rfl,bt hb1 (bt hbr hb9)⟩
end
end Go.Proofs.YtcfjcenmcpankaaGreatDoor
