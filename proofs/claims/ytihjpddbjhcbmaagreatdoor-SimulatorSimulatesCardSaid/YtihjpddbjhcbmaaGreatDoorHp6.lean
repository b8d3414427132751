import Derived.Great.BuildSlice
import Derived.Laws.CopyRow
import Derived.Test.YtihjpddbjhcbmaaGreatDoorHv8
import Derived.Lib.BufferWrite
set_option linter.unusedVariables false
set_option linter.unusedSimpArgs false
set_option maxRecDepth 100000
set_option maxHeartbeats 16000000
namespace Go.Proofs.YtihjpddbjhcbmaaGreatDoor
section
open Go.RowKit Go.Shelf
theorem kL_eq:(kL.map (Value.int .u32))=u32f kC 64:=by rfl
theorem iL_eq:[Value.int .u32 1779033703,Value.int .u32 3144134277,Value.int .u32 1013904242,Value.int .u32 2773480762,Value.int .u32 1359893119,Value.int .u32 2600822924,Value.int .u32 528734635,Value.int .u32 1541459225]=u32f iC 8:=by rfl
theorem pconstants_v (w:World):Calls Tryz.prog 363 #[] w fun e w'=>e=.returned (.agg (u32f kC 64).toArray)∧Bw w w':=by
 go_enter Tryz.func363,Tryz.ntmps363
 go_upto_region 1 with fail
 obtain⟨Z,hZ⟩:∃Z:Array Value,Z=#[.int .u32 0,.int .u32 0,.int .u32 0,.int .u32 0,.int .u32 0,.int .u32 0,.int .u32 0,.int .u32 0,.int .u32 0,.int .u32 0,.int .u32 0,.int .u32 0,.int .u32 0,.int .u32 0,.int .u32 0,.int .u32 0,.int .u32 0,.int .u32 0,.int .u32 0,.int .u32 0,.int .u32 0,.int .u32 0,.int .u32 0,.int .u32 0,.int .u32 0,.int .u32 0,.int .u32 0,.int .u32 0,.int .u32 0,.int .u32 0,.int .u32 0,.int .u32 0,.int .u32 0,.int .u32 0,.int .u32 0,.int .u32 0,.int .u32 0,.int .u32 0,.int .u32 0,.int .u32 0,.int .u32 0,.int .u32 0,.int .u32 0,.int .u32 0,.int .u32 0,.int .u32 0,.int .u32 0,.int .u32 0,.int .u32 0,.int .u32 0,.int .u32 0,.int .u32 0,.int .u32 0,.int .u32 0,.int .u32 0,.int .u32 0,.int .u32 0,.int .u32 0,.int .u32 0,.int .u32 0,.int .u32 0,.int .u32 0,.int .u32 0,.int .u32 0]:=⟨_,rfl⟩;rw[←hZ];have HZ:Hid (Z.toList=u32f (fun _=>0) 64):=by rw[Hid,hZ];exact z64
 clear hZ;have hR:Blk (w.alloc (.cells Z 368)) w.heap.size 368 (u32f (fun _=>0) 64):=(Blk.new w Z 368).as HZ.out;have hb:=b1 w (.cells Z 368);generalize w.alloc (.cells Z 368)=w1 at hR hb ⊢;clear HZ;apply wp_region_lit
 refine wpList_buildFlatArr rfl 368 324 64 _ rfl .u32 kL Tryz.underlying368 (by kernel_rfl) (by kernel_rfl) (by kernel_rfl) ?_;rw[kL_eq];refine wpList_store_row rfl 368 (.tmp 0) (.tmp 1) rfl w.heap.size _ rfl rfl 368 _ hR (size_w64 _) (by simp[u32f]) (u32f_one _ _) ?_;apply wpList_nil
 go_wp2;refine bodyPost_ret (v:=.agg (u32f kC 64).toArray) ?_ rfl ⟨rfl,setRow_below hb (Nat.le_refl _)⟩;exact results_cell_row (p:=0) (ty:=368) rfl _ _ w.heap.size 368 _ (0,0) _ rfl (setRow_heap _ _ _ _ _ _ hR) Tryz.underlying368 rfl (size_w64 _)
theorem size_s8 (F:Nat→Int):(Tryz.prog.info? 358).map (·.size)=some (u32f F 8).toArray.size:=by
 rw[show (u32f F 8).toArray.size=8 by simp[u32f]];kernel_rfl
theorem pfirst_v (w:World):Calls Tryz.prog 354 #[] w fun e w'=>e=.returned (.agg (u32f iC 8).toArray)∧Bw w w':=by
 go_enter Tryz.func354,Tryz.ntmps354
 go_wp2;have h:=(Blk.new w #[Value.int IntKind.u32 1779033703,Value.int IntKind.u32 3144134277,Value.int IntKind.u32 1013904242,Value.int IntKind.u32 2773480762,Value.int IntKind.u32 1359893119,Value.int IntKind.u32 2600822924,Value.int IntKind.u32 528734635,Value.int IntKind.u32 1541459225] 358).as iL_eq;refine bodyPost_ret (v:=.agg (u32f iC 8).toArray) ?_ rfl ⟨rfl,b1 w _⟩;exact results_cell_row (p:=0) (ty:=358) rfl _ _ w.heap.size 358 _ (0,0) _ rfl h Tryz.underlying358 rfl (size_s8 _)
end
section
open Go.RowKit Go.Shelf
def shf (F:Nat→Int) (j:Nat):Int:=if j=0 then F 0 else F (j-1)
theorem shf_eq (F:Nat→Int):(u32f F 8).toArray.toList.take 1++u32f F 7++(u32f F 8).toArray.toList.drop (1+(u32f F 7).length)=u32f (shf F) 8:=by rfl
theorem rnd_set (F:Nat→Int) (kk ww t u:Int) (ht:t=rT F kk ww) (hu:u=tU (F 0) (F 1) (F 2)) :
  ((u32f (shf F) 8).set 4 (.int .u32 ((F 3+t)%4294967296))).set 0 (.int .u32 ((t+u)%4294967296))=u32f (rnd F kk ww) 8:=by
 subst ht hu;rw[u32f_set,u32f_set];refine u32f_congr fun j hj=>?_
 unfold rnd shf;by_cases h0:j=0
 ·rw[if_pos h0,if_pos h0]
 ·rw[if_neg h0];by_cases h4:j=4
  ·rw[if_pos h4,if_neg h0,if_pos h4]
  ·rw[if_neg h4,if_neg h0,if_neg h4,if_neg h0]
theorem z8:#[.int .u32 0,.int .u32 0,.int .u32 0,.int .u32 0,.int .u32 0,.int .u32 0,.int .u32 0,.int .u32 0].toList=u32f (fun _=>0) 8:=by rfl
theorem after_v (S:Nat→Int) (s:ByteArray) (b o c:Nat) (w:World) (hs:s.size=64) (hA:BytA w b o s) (hc:64≤c) :
  Calls Tryz.prog 355 #[.agg (u32f S 8).toArray,.slice (some ⟨b,o,none⟩) 64 c] w fun e w'=>e=.returned (.agg (u32f (cmp S s) 8).toArray)∧Bw w w':=by
 go_enter Tryz.func355,Tryz.ntmps355
 go_upto_region 1 with fail
 have hf:=((Blk.new w (u32f S 8).toArray 358).as (cs':=u32f S 8) (by simp)).alloc (.cells #[.int .u32 0,.int .u32 0,.int .u32 0,.int .u32 0,.int .u32 0,.int .u32 0,.int .u32 0,.int .u32 0] 358);have he:=(Blk.new (w.alloc (.cells (u32f S 8).toArray 358)) #[.int .u32 0,.int .u32 0,.int .u32 0,.int .u32 0,.int .u32 0,.int .u32 0,.int .u32 0,.int .u32 0] 358).as z8;rw[World.size_alloc]at he;have hg:=ba (b1 w (.cells (u32f S 8).toArray 358)) (.cells #[.int .u32 0,.int .u32 0,.int .u32 0,.int .u32 0,.int .u32 0,.int .u32 0,.int .u32 0,.int .u32 0] 358);generalize (w.alloc (.cells (u32f S 8).toArray 358)).alloc (.cells #[.int .u32 0,.int .u32 0,.int .u32 0,.int .u32 0,.int .u32 0,.int .u32 0,.int .u32 0,.int .u32 0] 358)=w1 at hf he hg ⊢;obtain⟨g4,hR⟩:∃g,w.heap.size+1=g:=⟨_,rfl⟩;obtain⟨g2,hS⟩:∃g,w.heap.size=g:=⟨_,rfl⟩;have Ha:Hid (w.heap.size≤g4):=by rw[Hid];omega
 rw[hR]at he ⊢;rw[hS]at hf ⊢;clear hR hS;go_wp2_with fail
 refine (pconstants_v _).mono ?_;rintro e w2 ⟨rfl,hp⟩;replace hf:=hf.after hp;replace he:=he.after hp;replace hg:=bt hg hp;go_wp2_with fail
 refine (pschedule_v s b o c _ hs (hA.after hg) hc).mono ?_;rintro e w3 ⟨rfl,hq⟩;replace hf:=hf.after hq;replace he:=he.after hq;replace hg:=bt hg hq;have hw:=hg.size;have hm:Hid (g2<w3.heap.size∧g4<w3.heap.size):=⟨hf.lt,he.lt⟩;clear hp hq;have h5:=((Blk.new w3 #[.int .u32 0,.int .u32 0,.int .u32 0,.int .u32 0,.int .u32 0,.int .u32 0,.int .u32 0,.int .u32 0,.int .u32 0,.int .u32 0,.int .u32 0,.int .u32 0,.int .u32 0,.int .u32 0,.int .u32 0,.int .u32 0,.int .u32 0,.int .u32 0,.int .u32 0,.int .u32 0,.int .u32 0,.int .u32 0,.int .u32 0,.int .u32 0,.int .u32 0,.int .u32 0,.int .u32 0,.int .u32 0,.int .u32 0,.int .u32 0,.int .u32 0,.int .u32 0,.int .u32 0,.int .u32 0,.int .u32 0,.int .u32 0,.int .u32 0,.int .u32 0,.int .u32 0,.int .u32 0,.int .u32 0,.int .u32 0,.int .u32 0,.int .u32 0,.int .u32 0,.int .u32 0,.int .u32 0,.int .u32 0,.int .u32 0,.int .u32 0,.int .u32 0,.int .u32 0,.int .u32 0,.int .u32 0,.int .u32 0,.int .u32 0,.int .u32 0,.int .u32 0,.int .u32 0,.int .u32 0,.int .u32 0,.int .u32 0,.int .u32 0,.int .u32 0] 368).as z64).alloc (.cells #[.int .u32 0,.int .u32 0,.int .u32 0,.int .u32 0,.int .u32 0,.int .u32 0,.int .u32 0,.int .u32 0,.int .u32 0,.int .u32 0,.int .u32 0,.int .u32 0,.int .u32 0,.int .u32 0,.int .u32 0,.int .u32 0,.int .u32 0,.int .u32 0,.int .u32 0,.int .u32 0,.int .u32 0,.int .u32 0,.int .u32 0,.int .u32 0,.int .u32 0,.int .u32 0,.int .u32 0,.int .u32 0,.int .u32 0,.int .u32 0,.int .u32 0,.int .u32 0,.int .u32 0,.int .u32 0,.int .u32 0,.int .u32 0,.int .u32 0,.int .u32 0,.int .u32 0,.int .u32 0,.int .u32 0,.int .u32 0,.int .u32 0,.int .u32 0,.int .u32 0,.int .u32 0,.int .u32 0,.int .u32 0,.int .u32 0,.int .u32 0,.int .u32 0,.int .u32 0,.int .u32 0,.int .u32 0,.int .u32 0,.int .u32 0,.int .u32 0,.int .u32 0,.int .u32 0,.int .u32 0,.int .u32 0,.int .u32 0,.int .u32 0,.int .u32 0] 368);have h6:=(Blk.new (w3.alloc (.cells #[.int .u32 0,.int .u32 0,.int .u32 0,.int .u32 0,.int .u32 0,.int .u32 0,.int .u32 0,.int .u32 0,.int .u32 0,.int .u32 0,.int .u32 0,.int .u32 0,.int .u32 0,.int .u32 0,.int .u32 0,.int .u32 0,.int .u32 0,.int .u32 0,.int .u32 0,.int .u32 0,.int .u32 0,.int .u32 0,.int .u32 0,.int .u32 0,.int .u32 0,.int .u32 0,.int .u32 0,.int .u32 0,.int .u32 0,.int .u32 0,.int .u32 0,.int .u32 0,.int .u32 0,.int .u32 0,.int .u32 0,.int .u32 0,.int .u32 0,.int .u32 0,.int .u32 0,.int .u32 0,.int .u32 0,.int .u32 0,.int .u32 0,.int .u32 0,.int .u32 0,.int .u32 0,.int .u32 0,.int .u32 0,.int .u32 0,.int .u32 0,.int .u32 0,.int .u32 0,.int .u32 0,.int .u32 0,.int .u32 0,.int .u32 0,.int .u32 0,.int .u32 0,.int .u32 0,.int .u32 0,.int .u32 0,.int .u32 0,.int .u32 0,.int .u32 0] 368)) #[.int .u32 0,.int .u32 0,.int .u32 0,.int .u32 0,.int .u32 0,.int .u32 0,.int .u32 0,.int .u32 0,.int .u32 0,.int .u32 0,.int .u32 0,.int .u32 0,.int .u32 0,.int .u32 0,.int .u32 0,.int .u32 0,.int .u32 0,.int .u32 0,.int .u32 0,.int .u32 0,.int .u32 0,.int .u32 0,.int .u32 0,.int .u32 0,.int .u32 0,.int .u32 0,.int .u32 0,.int .u32 0,.int .u32 0,.int .u32 0,.int .u32 0,.int .u32 0,.int .u32 0,.int .u32 0,.int .u32 0,.int .u32 0,.int .u32 0,.int .u32 0,.int .u32 0,.int .u32 0,.int .u32 0,.int .u32 0,.int .u32 0,.int .u32 0,.int .u32 0,.int .u32 0,.int .u32 0,.int .u32 0,.int .u32 0,.int .u32 0,.int .u32 0,.int .u32 0,.int .u32 0,.int .u32 0,.int .u32 0,.int .u32 0,.int .u32 0,.int .u32 0,.int .u32 0,.int .u32 0,.int .u32 0,.int .u32 0,.int .u32 0,.int .u32 0] 368).as z64
 rw[World.size_alloc]at h6;replace hf:=(hf.alloc (.cells #[.int .u32 0,.int .u32 0,.int .u32 0,.int .u32 0,.int .u32 0,.int .u32 0,.int .u32 0,.int .u32 0,.int .u32 0,.int .u32 0,.int .u32 0,.int .u32 0,.int .u32 0,.int .u32 0,.int .u32 0,.int .u32 0,.int .u32 0,.int .u32 0,.int .u32 0,.int .u32 0,.int .u32 0,.int .u32 0,.int .u32 0,.int .u32 0,.int .u32 0,.int .u32 0,.int .u32 0,.int .u32 0,.int .u32 0,.int .u32 0,.int .u32 0,.int .u32 0,.int .u32 0,.int .u32 0,.int .u32 0,.int .u32 0,.int .u32 0,.int .u32 0,.int .u32 0,.int .u32 0,.int .u32 0,.int .u32 0,.int .u32 0,.int .u32 0,.int .u32 0,.int .u32 0,.int .u32 0,.int .u32 0,.int .u32 0,.int .u32 0,.int .u32 0,.int .u32 0,.int .u32 0,.int .u32 0,.int .u32 0,.int .u32 0,.int .u32 0,.int .u32 0,.int .u32 0,.int .u32 0,.int .u32 0,.int .u32 0,.int .u32 0,.int .u32 0] 368)).alloc (.cells #[.int .u32 0,.int .u32 0,.int .u32 0,.int .u32 0,.int .u32 0,.int .u32 0,.int .u32 0,.int .u32 0,.int .u32 0,.int .u32 0,.int .u32 0,.int .u32 0,.int .u32 0,.int .u32 0,.int .u32 0,.int .u32 0,.int .u32 0,.int .u32 0,.int .u32 0,.int .u32 0,.int .u32 0,.int .u32 0,.int .u32 0,.int .u32 0,.int .u32 0,.int .u32 0,.int .u32 0,.int .u32 0,.int .u32 0,.int .u32 0,.int .u32 0,.int .u32 0,.int .u32 0,.int .u32 0,.int .u32 0,.int .u32 0,.int .u32 0,.int .u32 0,.int .u32 0,.int .u32 0,.int .u32 0,.int .u32 0,.int .u32 0,.int .u32 0,.int .u32 0,.int .u32 0,.int .u32 0,.int .u32 0,.int .u32 0,.int .u32 0,.int .u32 0,.int .u32 0,.int .u32 0,.int .u32 0,.int .u32 0,.int .u32 0,.int .u32 0,.int .u32 0,.int .u32 0,.int .u32 0,.int .u32 0,.int .u32 0,.int .u32 0,.int .u32 0] 368);replace he:=(he.alloc (.cells #[.int .u32 0,.int .u32 0,.int .u32 0,.int .u32 0,.int .u32 0,.int .u32 0,.int .u32 0,.int .u32 0,.int .u32 0,.int .u32 0,.int .u32 0,.int .u32 0,.int .u32 0,.int .u32 0,.int .u32 0,.int .u32 0,.int .u32 0,.int .u32 0,.int .u32 0,.int .u32 0,.int .u32 0,.int .u32 0,.int .u32 0,.int .u32 0,.int .u32 0,.int .u32 0,.int .u32 0,.int .u32 0,.int .u32 0,.int .u32 0,.int .u32 0,.int .u32 0,.int .u32 0,.int .u32 0,.int .u32 0,.int .u32 0,.int .u32 0,.int .u32 0,.int .u32 0,.int .u32 0,.int .u32 0,.int .u32 0,.int .u32 0,.int .u32 0,.int .u32 0,.int .u32 0,.int .u32 0,.int .u32 0,.int .u32 0,.int .u32 0,.int .u32 0,.int .u32 0,.int .u32 0,.int .u32 0,.int .u32 0,.int .u32 0,.int .u32 0,.int .u32 0,.int .u32 0,.int .u32 0,.int .u32 0,.int .u32 0,.int .u32 0,.int .u32 0] 368)).alloc (.cells #[.int .u32 0,.int .u32 0,.int .u32 0,.int .u32 0,.int .u32 0,.int .u32 0,.int .u32 0,.int .u32 0,.int .u32 0,.int .u32 0,.int .u32 0,.int .u32 0,.int .u32 0,.int .u32 0,.int .u32 0,.int .u32 0,.int .u32 0,.int .u32 0,.int .u32 0,.int .u32 0,.int .u32 0,.int .u32 0,.int .u32 0,.int .u32 0,.int .u32 0,.int .u32 0,.int .u32 0,.int .u32 0,.int .u32 0,.int .u32 0,.int .u32 0,.int .u32 0,.int .u32 0,.int .u32 0,.int .u32 0,.int .u32 0,.int .u32 0,.int .u32 0,.int .u32 0,.int .u32 0,.int .u32 0,.int .u32 0,.int .u32 0,.int .u32 0,.int .u32 0,.int .u32 0,.int .u32 0,.int .u32 0,.int .u32 0,.int .u32 0,.int .u32 0,.int .u32 0,.int .u32 0,.int .u32 0,.int .u32 0,.int .u32 0,.int .u32 0,.int .u32 0,.int .u32 0,.int .u32 0,.int .u32 0,.int .u32 0,.int .u32 0,.int .u32 0] 368)
 replace hg:=ba (ba hg (.cells #[.int .u32 0,.int .u32 0,.int .u32 0,.int .u32 0,.int .u32 0,.int .u32 0,.int .u32 0,.int .u32 0,.int .u32 0,.int .u32 0,.int .u32 0,.int .u32 0,.int .u32 0,.int .u32 0,.int .u32 0,.int .u32 0,.int .u32 0,.int .u32 0,.int .u32 0,.int .u32 0,.int .u32 0,.int .u32 0,.int .u32 0,.int .u32 0,.int .u32 0,.int .u32 0,.int .u32 0,.int .u32 0,.int .u32 0,.int .u32 0,.int .u32 0,.int .u32 0,.int .u32 0,.int .u32 0,.int .u32 0,.int .u32 0,.int .u32 0,.int .u32 0,.int .u32 0,.int .u32 0,.int .u32 0,.int .u32 0,.int .u32 0,.int .u32 0,.int .u32 0,.int .u32 0,.int .u32 0,.int .u32 0,.int .u32 0,.int .u32 0,.int .u32 0,.int .u32 0,.int .u32 0,.int .u32 0,.int .u32 0,.int .u32 0,.int .u32 0,.int .u32 0,.int .u32 0,.int .u32 0,.int .u32 0,.int .u32 0,.int .u32 0,.int .u32 0] 368)) (.cells #[.int .u32 0,.int .u32 0,.int .u32 0,.int .u32 0,.int .u32 0,.int .u32 0,.int .u32 0,.int .u32 0,.int .u32 0,.int .u32 0,.int .u32 0,.int .u32 0,.int .u32 0,.int .u32 0,.int .u32 0,.int .u32 0,.int .u32 0,.int .u32 0,.int .u32 0,.int .u32 0,.int .u32 0,.int .u32 0,.int .u32 0,.int .u32 0,.int .u32 0,.int .u32 0,.int .u32 0,.int .u32 0,.int .u32 0,.int .u32 0,.int .u32 0,.int .u32 0,.int .u32 0,.int .u32 0,.int .u32 0,.int .u32 0,.int .u32 0,.int .u32 0,.int .u32 0,.int .u32 0,.int .u32 0,.int .u32 0,.int .u32 0,.int .u32 0,.int .u32 0,.int .u32 0,.int .u32 0,.int .u32 0,.int .u32 0,.int .u32 0,.int .u32 0,.int .u32 0,.int .u32 0,.int .u32 0,.int .u32 0,.int .u32 0,.int .u32 0,.int .u32 0,.int .u32 0,.int .u32 0,.int .u32 0,.int .u32 0,.int .u32 0,.int .u32 0] 368);have Hb:=Kh hg.size
 have hx:Blk (((w3.alloc (.cells #[.int .u32 0,.int .u32 0,.int .u32 0,.int .u32 0,.int .u32 0,.int .u32 0,.int .u32 0,.int .u32 0,.int .u32 0,.int .u32 0,.int .u32 0,.int .u32 0,.int .u32 0,.int .u32 0,.int .u32 0,.int .u32 0,.int .u32 0,.int .u32 0,.int .u32 0,.int .u32 0,.int .u32 0,.int .u32 0,.int .u32 0,.int .u32 0,.int .u32 0,.int .u32 0,.int .u32 0,.int .u32 0,.int .u32 0,.int .u32 0,.int .u32 0,.int .u32 0,.int .u32 0,.int .u32 0,.int .u32 0,.int .u32 0,.int .u32 0,.int .u32 0,.int .u32 0,.int .u32 0,.int .u32 0,.int .u32 0,.int .u32 0,.int .u32 0,.int .u32 0,.int .u32 0,.int .u32 0,.int .u32 0,.int .u32 0,.int .u32 0,.int .u32 0,.int .u32 0,.int .u32 0,.int .u32 0,.int .u32 0,.int .u32 0,.int .u32 0,.int .u32 0,.int .u32 0,.int .u32 0,.int .u32 0,.int .u32 0,.int .u32 0,.int .u32 0] 368)).alloc (.cells #[.int .u32 0,.int .u32 0,.int .u32 0,.int .u32 0,.int .u32 0,.int .u32 0,.int .u32 0,.int .u32 0,.int .u32 0,.int .u32 0,.int .u32 0,.int .u32 0,.int .u32 0,.int .u32 0,.int .u32 0,.int .u32 0,.int .u32 0,.int .u32 0,.int .u32 0,.int .u32 0,.int .u32 0,.int .u32 0,.int .u32 0,.int .u32 0,.int .u32 0,.int .u32 0,.int .u32 0,.int .u32 0,.int .u32 0,.int .u32 0,.int .u32 0,.int .u32 0,.int .u32 0,.int .u32 0,.int .u32 0,.int .u32 0,.int .u32 0,.int .u32 0,.int .u32 0,.int .u32 0,.int .u32 0,.int .u32 0,.int .u32 0,.int .u32 0,.int .u32 0,.int .u32 0,.int .u32 0,.int .u32 0,.int .u32 0,.int .u32 0,.int .u32 0,.int .u32 0,.int .u32 0,.int .u32 0,.int .u32 0,.int .u32 0,.int .u32 0,.int .u32 0,.int .u32 0,.int .u32 0,.int .u32 0,.int .u32 0,.int .u32 0,.int .u32 0] 368)).setRow w3.heap.size (u32f kC 64).toArray) (w3.heap.size+1) 368 (u32f (fun _=>0) 64):=by
  show ((_:World).setRow _ _).heap[_]?=_;rw[setRow_other _ _ _ _ (by omega)];exact h6
 go_upto_region 2 with (first | (refine wpList_store_row rfl 368 (.tmp 5) (.tmp 18) rfl w3.heap.size (u32f kC 64).toArray rfl rfl 368 _ h5 (size_w64 _) (by simp[u32f]) (u32f_one _ _) ?_) | (refine wpList_store_row rfl 368 (.tmp 6) (.tmp 20) rfl (w3.heap.size+1) (u32f (sW s) 64).toArray rfl rfl 368 _ hx (size_w64 _) (by simp[u32f]) (u32f_one _ _) ?_))
 have hW:=setRow_blk (cs:=(u32f (sW s) 64).toArray) hx
 have hK:Blk ((((w3.alloc (.cells #[.int .u32 0,.int .u32 0,.int .u32 0,.int .u32 0,.int .u32 0,.int .u32 0,.int .u32 0,.int .u32 0,.int .u32 0,.int .u32 0,.int .u32 0,.int .u32 0,.int .u32 0,.int .u32 0,.int .u32 0,.int .u32 0,.int .u32 0,.int .u32 0,.int .u32 0,.int .u32 0,.int .u32 0,.int .u32 0,.int .u32 0,.int .u32 0,.int .u32 0,.int .u32 0,.int .u32 0,.int .u32 0,.int .u32 0,.int .u32 0,.int .u32 0,.int .u32 0,.int .u32 0,.int .u32 0,.int .u32 0,.int .u32 0,.int .u32 0,.int .u32 0,.int .u32 0,.int .u32 0,.int .u32 0,.int .u32 0,.int .u32 0,.int .u32 0,.int .u32 0,.int .u32 0,.int .u32 0,.int .u32 0,.int .u32 0,.int .u32 0,.int .u32 0,.int .u32 0,.int .u32 0,.int .u32 0,.int .u32 0,.int .u32 0,.int .u32 0,.int .u32 0,.int .u32 0,.int .u32 0,.int .u32 0,.int .u32 0,.int .u32 0,.int .u32 0] 368)).alloc (.cells #[.int .u32 0,.int .u32 0,.int .u32 0,.int .u32 0,.int .u32 0,.int .u32 0,.int .u32 0,.int .u32 0,.int .u32 0,.int .u32 0,.int .u32 0,.int .u32 0,.int .u32 0,.int .u32 0,.int .u32 0,.int .u32 0,.int .u32 0,.int .u32 0,.int .u32 0,.int .u32 0,.int .u32 0,.int .u32 0,.int .u32 0,.int .u32 0,.int .u32 0,.int .u32 0,.int .u32 0,.int .u32 0,.int .u32 0,.int .u32 0,.int .u32 0,.int .u32 0,.int .u32 0,.int .u32 0,.int .u32 0,.int .u32 0,.int .u32 0,.int .u32 0,.int .u32 0,.int .u32 0,.int .u32 0,.int .u32 0,.int .u32 0,.int .u32 0,.int .u32 0,.int .u32 0,.int .u32 0,.int .u32 0,.int .u32 0,.int .u32 0,.int .u32 0,.int .u32 0,.int .u32 0,.int .u32 0,.int .u32 0,.int .u32 0,.int .u32 0,.int .u32 0,.int .u32 0,.int .u32 0,.int .u32 0,.int .u32 0,.int .u32 0,.int .u32 0] 368)).setRow w3.heap.size (u32f kC 64).toArray).setRow (w3.heap.size+1) (u32f (sW s) 64).toArray) w3.heap.size 368 (u32f kC 64):=by
  show ((_:World).setRow _ _).heap[_]?=_;rw[setRow_other _ _ _ _ (by omega)];exact setRow_blk (cs:=(u32f kC 64).toArray) h5
 have Hc:=hf.lt;have Hd:=he.lt;have hy:=Kh hw
 have hz:Blk ((((w3.alloc (.cells #[.int .u32 0,.int .u32 0,.int .u32 0,.int .u32 0,.int .u32 0,.int .u32 0,.int .u32 0,.int .u32 0,.int .u32 0,.int .u32 0,.int .u32 0,.int .u32 0,.int .u32 0,.int .u32 0,.int .u32 0,.int .u32 0,.int .u32 0,.int .u32 0,.int .u32 0,.int .u32 0,.int .u32 0,.int .u32 0,.int .u32 0,.int .u32 0,.int .u32 0,.int .u32 0,.int .u32 0,.int .u32 0,.int .u32 0,.int .u32 0,.int .u32 0,.int .u32 0,.int .u32 0,.int .u32 0,.int .u32 0,.int .u32 0,.int .u32 0,.int .u32 0,.int .u32 0,.int .u32 0,.int .u32 0,.int .u32 0,.int .u32 0,.int .u32 0,.int .u32 0,.int .u32 0,.int .u32 0,.int .u32 0,.int .u32 0,.int .u32 0,.int .u32 0,.int .u32 0,.int .u32 0,.int .u32 0,.int .u32 0,.int .u32 0,.int .u32 0,.int .u32 0,.int .u32 0,.int .u32 0,.int .u32 0,.int .u32 0,.int .u32 0,.int .u32 0] 368)).alloc (.cells #[.int .u32 0,.int .u32 0,.int .u32 0,.int .u32 0,.int .u32 0,.int .u32 0,.int .u32 0,.int .u32 0,.int .u32 0,.int .u32 0,.int .u32 0,.int .u32 0,.int .u32 0,.int .u32 0,.int .u32 0,.int .u32 0,.int .u32 0,.int .u32 0,.int .u32 0,.int .u32 0,.int .u32 0,.int .u32 0,.int .u32 0,.int .u32 0,.int .u32 0,.int .u32 0,.int .u32 0,.int .u32 0,.int .u32 0,.int .u32 0,.int .u32 0,.int .u32 0,.int .u32 0,.int .u32 0,.int .u32 0,.int .u32 0,.int .u32 0,.int .u32 0,.int .u32 0,.int .u32 0,.int .u32 0,.int .u32 0,.int .u32 0,.int .u32 0,.int .u32 0,.int .u32 0,.int .u32 0,.int .u32 0,.int .u32 0,.int .u32 0,.int .u32 0,.int .u32 0,.int .u32 0,.int .u32 0,.int .u32 0,.int .u32 0,.int .u32 0,.int .u32 0,.int .u32 0,.int .u32 0,.int .u32 0,.int .u32 0,.int .u32 0,.int .u32 0] 368)).setRow w3.heap.size (u32f kC 64).toArray).setRow (w3.heap.size+1) (u32f (sW s) 64).toArray) g2 358 (u32f S 8):=by
  show (((_:World).setRow _ _).setRow _ _).heap[_]?=_;rw[setRow_other _ _ _ _ (by have:=hm.out;omega),setRow_other _ _ _ _ (by have:=hm.out;omega)];exact hf
 have hT:Blk ((((w3.alloc (.cells #[.int .u32 0,.int .u32 0,.int .u32 0,.int .u32 0,.int .u32 0,.int .u32 0,.int .u32 0,.int .u32 0,.int .u32 0,.int .u32 0,.int .u32 0,.int .u32 0,.int .u32 0,.int .u32 0,.int .u32 0,.int .u32 0,.int .u32 0,.int .u32 0,.int .u32 0,.int .u32 0,.int .u32 0,.int .u32 0,.int .u32 0,.int .u32 0,.int .u32 0,.int .u32 0,.int .u32 0,.int .u32 0,.int .u32 0,.int .u32 0,.int .u32 0,.int .u32 0,.int .u32 0,.int .u32 0,.int .u32 0,.int .u32 0,.int .u32 0,.int .u32 0,.int .u32 0,.int .u32 0,.int .u32 0,.int .u32 0,.int .u32 0,.int .u32 0,.int .u32 0,.int .u32 0,.int .u32 0,.int .u32 0,.int .u32 0,.int .u32 0,.int .u32 0,.int .u32 0,.int .u32 0,.int .u32 0,.int .u32 0,.int .u32 0,.int .u32 0,.int .u32 0,.int .u32 0,.int .u32 0,.int .u32 0,.int .u32 0,.int .u32 0,.int .u32 0] 368)).alloc (.cells #[.int .u32 0,.int .u32 0,.int .u32 0,.int .u32 0,.int .u32 0,.int .u32 0,.int .u32 0,.int .u32 0,.int .u32 0,.int .u32 0,.int .u32 0,.int .u32 0,.int .u32 0,.int .u32 0,.int .u32 0,.int .u32 0,.int .u32 0,.int .u32 0,.int .u32 0,.int .u32 0,.int .u32 0,.int .u32 0,.int .u32 0,.int .u32 0,.int .u32 0,.int .u32 0,.int .u32 0,.int .u32 0,.int .u32 0,.int .u32 0,.int .u32 0,.int .u32 0,.int .u32 0,.int .u32 0,.int .u32 0,.int .u32 0,.int .u32 0,.int .u32 0,.int .u32 0,.int .u32 0,.int .u32 0,.int .u32 0,.int .u32 0,.int .u32 0,.int .u32 0,.int .u32 0,.int .u32 0,.int .u32 0,.int .u32 0,.int .u32 0,.int .u32 0,.int .u32 0,.int .u32 0,.int .u32 0,.int .u32 0,.int .u32 0,.int .u32 0,.int .u32 0,.int .u32 0,.int .u32 0,.int .u32 0,.int .u32 0,.int .u32 0,.int .u32 0] 368)).setRow w3.heap.size (u32f kC 64).toArray).setRow (w3.heap.size+1) (u32f (sW s) 64).toArray) g4 358 (u32f (fun _=>0) 8):=by
  show (((_:World).setRow _ _).setRow _ _).heap[_]?=_;rw[setRow_other _ _ _ _ (by have:=hm.out;omega),setRow_other _ _ _ _ (by have:=hm.out;omega)];exact he
 have hU:=setRow_below (cs:=(u32f (sW s) 64).toArray) (setRow_below (cs:=(u32f kC 64).toArray) hg (g:=w3.heap.size) hy.out) (g:=w3.heap.size+1) (by have:=hy.out;omega);clear h5 h6 hx hf he hg Hb Hc Hd;generalize (((w3.alloc (.cells #[.int .u32 0,.int .u32 0,.int .u32 0,.int .u32 0,.int .u32 0,.int .u32 0,.int .u32 0,.int .u32 0,.int .u32 0,.int .u32 0,.int .u32 0,.int .u32 0,.int .u32 0,.int .u32 0,.int .u32 0,.int .u32 0,.int .u32 0,.int .u32 0,.int .u32 0,.int .u32 0,.int .u32 0,.int .u32 0,.int .u32 0,.int .u32 0,.int .u32 0,.int .u32 0,.int .u32 0,.int .u32 0,.int .u32 0,.int .u32 0,.int .u32 0,.int .u32 0,.int .u32 0,.int .u32 0,.int .u32 0,.int .u32 0,.int .u32 0,.int .u32 0,.int .u32 0,.int .u32 0,.int .u32 0,.int .u32 0,.int .u32 0,.int .u32 0,.int .u32 0,.int .u32 0,.int .u32 0,.int .u32 0,.int .u32 0,.int .u32 0,.int .u32 0,.int .u32 0,.int .u32 0,.int .u32 0,.int .u32 0,.int .u32 0,.int .u32 0,.int .u32 0,.int .u32 0,.int .u32 0,.int .u32 0,.int .u32 0,.int .u32 0,.int .u32 0] 368)).alloc (.cells #[.int .u32 0,.int .u32 0,.int .u32 0,.int .u32 0,.int .u32 0,.int .u32 0,.int .u32 0,.int .u32 0,.int .u32 0,.int .u32 0,.int .u32 0,.int .u32 0,.int .u32 0,.int .u32 0,.int .u32 0,.int .u32 0,.int .u32 0,.int .u32 0,.int .u32 0,.int .u32 0,.int .u32 0,.int .u32 0,.int .u32 0,.int .u32 0,.int .u32 0,.int .u32 0,.int .u32 0,.int .u32 0,.int .u32 0,.int .u32 0,.int .u32 0,.int .u32 0,.int .u32 0,.int .u32 0,.int .u32 0,.int .u32 0,.int .u32 0,.int .u32 0,.int .u32 0,.int .u32 0,.int .u32 0,.int .u32 0,.int .u32 0,.int .u32 0,.int .u32 0,.int .u32 0,.int .u32 0,.int .u32 0,.int .u32 0,.int .u32 0,.int .u32 0,.int .u32 0,.int .u32 0,.int .u32 0,.int .u32 0,.int .u32 0,.int .u32 0,.int .u32 0,.int .u32 0,.int .u32 0,.int .u32 0,.int .u32 0,.int .u32 0,.int .u32 0] 368)).setRow w3.heap.size (u32f kC 64).toArray).setRow (w3.heap.size+1) (u32f (sW s) 64).toArray=w5 at hW hK hz hT hU ⊢;replace hW:Blk w5 (w3.heap.size+1) 368 (u32f (sW s) 64):=hW;obtain⟨g6,hX⟩:∃g,w3.heap.size+1=g:=⟨_,rfl⟩;obtain⟨g5,hY⟩:∃g,w3.heap.size=g:=⟨_,rfl⟩;rw[hX]at hW ⊢;rw[hY]at hK ⊢;clear hY hX hy hm;apply wp_region_lit
 refine wpList_load_row rfl 358 (.tmp 2) rfl g2 rfl 358 _ (0,0) _ hz Tryz.underlying358 rfl (size_s8 _) ?_;have h7:=(Blk.new w5 #[.int .u32 0,.int .u32 0,.int .u32 0,.int .u32 0,.int .u32 0,.int .u32 0,.int .u32 0,.int .u32 0] 358).as z8;have hB:=setRow_below (cs:=(u32f S 8).toArray) (b1 w5 (.cells #[.int .u32 0,.int .u32 0,.int .u32 0,.int .u32 0,.int .u32 0,.int .u32 0,.int .u32 0,.int .u32 0] 358)) (Nat.le_refl _);have hV:=setRow_blk (cs:=(u32f S 8).toArray) h7;go_upto_region 3 with (first | (refine wpList_store_row rfl 358 (.tmp 7) (.tmp 21) rfl w5.heap.size (u32f S 8).toArray rfl rfl 358 _ h7 (size_s8 _) (by simp[u32f]) (u32f_one _ _) ?_))
 clear h7;generalize (w5.alloc (.cells #[.int .u32 0,.int .u32 0,.int .u32 0,.int .u32 0,.int .u32 0,.int .u32 0,.int .u32 0,.int .u32 0] 358)).setRow w5.heap.size (u32f S 8).toArray=w7 at hB hV ⊢;replace hV:Blk w7 w5.heap.size 358 (u32f S 8):=hV;obtain⟨g7,hZ⟩:∃g,w5.heap.size=g:=⟨_,rfl⟩;rw[hZ]at hV ⊢;have hr:Hid (w5.heap.size≤g7):=by rw[Hid];omega
 clear hZ;go_wp2;go_loopw [22] (fun i wr=>∃k:Nat,k≤64∧i=.int .i64 k∧Blk wr g7 358 (u32f (vv s S k) 8)∧Bw w5 wr) (fun i _=>64-(intOf i).toNat)
 case atStart=>exact⟨0,by omega,rfl,hV,hB⟩
 case round =>
  clear hV hB;obtain⟨k,hk,rfl,hV,hh⟩:=hrel;obtain⟨wp,hC⟩:∃wp,wp=wr:=⟨_,rfl⟩;subst hC;by_cases hlt:k<64
  ·have hD:=hK.after hh;have hE:=hW.after hh;have hu:Hid (∀j,j<8→vv s S (k+1) j=rnd (vv s S k) (kC k) (sW s k) j):=fun j _=>rfl
   have ho:Hid (rT (vv s S k) (kC k) (sW s k)=tT (vv s S k 4) (vv s S k 5) (vv s S k 6) (vv s S k 7) (kC k) (sW s k)):=rfl;have ck:wp.cell? ⟨g5,k,none⟩=some (.int .u32 (kC k)):=by rw[hD.cell,u32f_get _ hlt]
   have cw:wp.cell? ⟨g6,k,none⟩=some (.int .u32 (sW s k)):=by rw[hE.cell,u32f_get _ hlt]
   have h0:=hD.lt;have h1:=hE.lt;have hF:=hV.lt;obtain⟨VK,hG⟩:∃F,F=vv s S k:=⟨_,rfl⟩;rw[←hG]at hV hu ho;have HA:=Kh hG;clear hG hD hE;generalize He:kC k=kk at ck hu ho;generalize Hf:sW s k=wk at cw hu ho;clear He Hf;have c0:wp.cell? ⟨g7,0,none⟩=some (.int .u32 (VK 0)):=by rw[hV.cell,u32f_get _ (by omega)]
   have c1:wp.cell? ⟨g7,1,none⟩=some (.int .u32 (VK 1)):=by rw[hV.cell,u32f_get _ (by omega)]
   have c2:wp.cell? ⟨g7,2,none⟩=some (.int .u32 (VK 2)):=by rw[hV.cell,u32f_get _ (by omega)]
   have c3:wp.cell? ⟨g7,3,none⟩=some (.int .u32 (VK 3)):=by rw[hV.cell,u32f_get _ (by omega)]
   have c4:wp.cell? ⟨g7,4,none⟩=some (.int .u32 (VK 4)):=by rw[hV.cell,u32f_get _ (by omega)]
   have c5:wp.cell? ⟨g7,5,none⟩=some (.int .u32 (VK 5)):=by rw[hV.cell,u32f_get _ (by omega)]
   have c6:wp.cell? ⟨g7,6,none⟩=some (.int .u32 (VK 6)):=by rw[hV.cell,u32f_get _ (by omega)]
   have c7:wp.cell? ⟨g7,7,none⟩=some (.int .u32 (VK 7)):=by rw[hV.cell,u32f_get _ (by omega)]
   obtain⟨y0,hy0⟩:∃y,y=VK 0:=⟨_,rfl⟩;rw[←hy0]at c0;have Hg:=Kh hy0;clear hy0;obtain⟨y1,hy1⟩:∃y,y=VK 1:=⟨_,rfl⟩;rw[←hy1]at c1;have Hh:=Kh hy1;clear hy1;obtain⟨y2,hH⟩:∃y,y=VK 2:=⟨_,rfl⟩;rw[←hH]at c2;have Hi:=Kh hH;clear hH;obtain⟨y3,hI⟩:∃y,y=VK 3:=⟨_,rfl⟩;rw[←hI]at c3;have HB:=Kh hI;clear hI;obtain⟨y4,hJ⟩:∃y,y=VK 4:=⟨_,rfl⟩;rw[←hJ]at c4;have Hj:=Kh hJ;clear hJ;obtain⟨y5,hL⟩:∃y,y=VK 5:=⟨_,rfl⟩;rw[←hL]at c5;have Hk:=Kh hL;clear hL;obtain⟨y6,hM⟩:∃y,y=VK 6:=⟨_,rfl⟩;rw[←hM]at c6;have Hl:=Kh hM;clear hM;obtain⟨y7,hN⟩:∃y,y=VK 7:=⟨_,rfl⟩;rw[←hN]at c7;have Hm:=Kh hN;clear hN;have Hn:Hid (tT y4 y5 y6 y7 kk wk=rT VK kk wk):=by rw[Hid,Hj.out,Hk.out,Hl.out,Hm.out];exact ho.out.symm
   have Ho:Hid (tU y0 y1 y2=tU (VK 0) (VK 1) (VK 2)):=by rw[Hid,Hg.out,Hh.out,Hi.out]
   clear ho;have k1:(0:Int)≤(k:Int):=by omega
   have k2:(k:Int)<64:=by omega
   go_upto_region 6 with fail
   go_cut [9,10,11,12,13,14] (fun s9 s10 s11 s12 s13 s14 wc'=>s9=.int .u32 y0∧s10=.int .u32 y1∧s11=.int .u32 y2∧s12=.int .u32 y4∧s13=.int .u32 y5∧s14=.int .u32 y6∧wc'=wp.drew)
   case first =>
    as_aux_lemma =>
    clear ck cw hK hW;go_wp2_with fail
    go_region;go_wp2_with fail
    go_meet
    exact⟨rfl,rfl,rfl,rfl,rfl,rfl,rfl⟩
   case rest =>
   obtain⟨rfl,rfl,rfl,rfl,rfl,rfl,rfl⟩:=hcut;have hd:=Blk.drewH hV;have hb:=hh.drew;have g7c:=gclH (w:=wp.drew) (a:=⟨g7,7,none⟩) hF c7;have gkc:=gclH (w:=wp.drew) (a:=⟨g5,k,none⟩) h0 ck;have gwc:=gclH (w:=wp.drew) (a:=⟨g6,k,none⟩) h1 cw;clear c0 c1 c2 c3 c4 c5 c6 c7 ck cw hV hh h0 h1;generalize wp.drew=wx at hd hb g7c gkc gwc ⊢;go_upto_region 7 with fail
   go_cut [15] (fun s15 wc'=>s15=.int .u32 (tT y4 y5 y6 y7 kk wk)∧Bw wx wc')
   case first =>
    clear hb hd hK hW;go_wp2_with fail
    refine wp_region_gw (by kernel_rfl) (by kernel_rfl) ?_;repeat (go_big_quiet_step (first | (go_at_call 365;exact gw_of (turn_c _ _ 6 _ rfl (by decide) (by decide))) | (go_at_call 365;exact gw_of (turn_c _ _ 11 _ rfl (by decide) (by decide))) | (go_at_call 365;exact gw_of (turn_c _ _ 25 _ rfl (by decide) (by decide)))))
    refine wpQuiet_nil ?_;rintro w9 ⟨xw9,rfl⟩;have hb9:=gw_below xw9;generalize gw xw9=w9 at hb9;clear g7c gkc gwc;go_wp2_with fail
    go_meet
    exact⟨rfl,hb9⟩
   case rest =>
   obtain⟨rfl,hl⟩:=hcut;rw[Hn.out];obtain⟨wy,Hp⟩:∃wx,wx=wc:=⟨_,rfl⟩;subst Hp;replace hb:=bt hb hl;replace hd:=hd.after hl;clear hl g7c gkc gwc;go_upto_region 8 with fail
   go_cut [16] (fun s16 wc'=>s16=.int .u32 (tU y0 y1 y2)∧Bw wy wc')
   case first =>
    clear hb hd hK hW;go_wp2_with fail
    refine (turn_c _ _ 2 _ rfl (by decide) (by decide)).mono ?_;rintro e wa ⟨rfl,Hq⟩;go_wp2_with fail
    refine (turn_c _ _ 13 _ rfl (by decide) (by decide)).mono ?_;rintro e wb ⟨rfl,Hr⟩;go_wp2_with fail
    refine (turn_c _ _ 22 _ rfl (by decide) (by decide)).mono ?_;rintro e wd ⟨rfl,hbd⟩;have Hs:=bt Hq (bt Hr hbd);go_wp2_with fail
    go_meet
    exact⟨rfl,Hs⟩
   case rest =>
   obtain⟨rfl,hl⟩:=hcut;rw[Ho.out];obtain⟨wd,Ht⟩:∃wx,wx=wc:=⟨_,rfl⟩;subst Ht;replace hb:=bt hb hl;replace hd:=hd.after hl;clear hl;obtain⟨u2,hO⟩:∃u,u=tU (VK 0) (VK 1) (VK 2):=⟨_,rfl⟩;obtain⟨t,ht⟩:∃t,t=rT VK kk wk:=⟨_,rfl⟩;rw[←hO,←ht];have Hu:=Kh hO;have Hv:=Kh ht;clear hO ht;have Hw:=Kh (rnd_set VK kk wk t u2 Hv.out Hu.out);replace hd:=Blk.drewH hd;replace hb:=hb.drew;have hi:=setRow_blk (cs:=((u32f VK 8).toArray.toList.take 1++u32f VK 7++(u32f VK 8).toArray.toList.drop (1+(u32f VK 7).length)).toArray) hd
   have h2:=run_copy_row (P:=Tryz.prog) wd.drew 295 295 3 324 g7 1 7 7 ⟨g7,0,none⟩ 7 8 (u32f VK 8).toArray 358 (u32f VK 7) Tryz.underlying295 (by kernel_rfl) hd (by simp[u32f]) (fun j v hv=>by
    have hj:j<7:=by
     apply Classical.byContradiction
     intro hn;rw[List.getElem?_eq_none (by rw[u32f_len];omega)]at hv;cases hv
    rw[u32f_get _ hj]at hv;rw[show (⟨g7,0,none⟩:Addr).add j=⟨g7,j,none⟩ by unfold Addr.add;split <;> simp_all,hd.cell,u32f_get _ (by omega)];exact hv) (by simp[u32f]) (fun v hv=>by
    obtain⟨j,_,rfl⟩:=List.mem_map.1 hv;rfl)
   have e9:((u32f VK 8).toArray.toList.take 1++u32f VK 7++(u32f VK 8).toArray.toList.drop (1+(u32f VK 7).length)).toArray.toList=u32f (shf VK) 8:=shf_eq VK;rw[e9]at hi;clear e9;have h3:=setRow_below (cs:=((u32f VK 8).toArray.toList.take 1++u32f VK 7++(u32f VK 8).toArray.toList.drop (1+(u32f VK 7).length)).toArray) hb hr.out;generalize ((u32f VK 8).toArray.toList.take 1++u32f VK 7++(u32f VK 8).toArray.toList.drop (1+(u32f VK 7).length)).toArray=xs at h2 hi h3;generalize (u32f VK 7).length=nl at h2;have hF:=hd.lt;clear hd hb;have s0:=hi.cell 0;have s4:=hi.cell 4;have f0:=hi.free 0;have f4:=hi.free 4;have hF:=hi.lt;rw[u32f_get _ (by omega)]at s0 s4;have h4:shf VK 4=VK 3:=rfl;rw[h4]at s4;clear h4;generalize shf VK 0=z0 at s0;obtain⟨z3,hP⟩:∃y,y=VK 3:=⟨_,rfl⟩;rw[←hP]at s4;have Hx:=Kh hP;clear hP;go_wp2_with fail
   go_region;go_wp2;go_roundw
   case rel =>
    refine⟨k+1,by omega,by go_num,?_,(h3.setCell hr.out _).setCell hr.out _⟩;exact Blk.setv (Blk.setv hi (by rw[Hx.out]) rfl) rfl (Hw.out.trans (u32f_congr fun j hj=>(hu.out j hj).symm))
   case measure=>simp[intOf];omega
  ·obtain rfl:k=64:=by omega
   clear hlt hk hK hW;go_wp2;go_loopw [98] (fun i wr=>∃k:Nat,k≤8∧i=.int .i64 k∧Blk wr g7 358 (u32f (fP s S k) 8)∧Bw w5 wr) (fun i _=>8-(intOf i).toNat)
   case atStart=>exact⟨0,by omega,rfl,by rw[fP_zero];exact hV,hh⟩
   case round =>
    clear hV hh;obtain⟨k,hk,rfl,hV,hh⟩:=hrel;obtain⟨wp,hC⟩:∃wp,wp=wr:=⟨_,rfl⟩;subst hC;have h8:=hz.after hh;by_cases hlt:k<8
    ·have c1:=fP_at hV hlt;have c2:wp.cell? ⟨g2,k,none⟩=some (.int .u32 (S k)):=by rw[h8.cell,u32f_get _ hlt]
     have Hy:=Kh (fP_set s S k);have hQ:Hid (cmp S s k=(vv s S 64 k+S k)%4294967296):=rfl;generalize vv s S 64 k=x at c1 hQ;generalize S k=y at c2 hQ;have f1:=hV.free k;have l1:=hV.lt;have l2:=h8.lt;have k1:(0:Int)≤(k:Int):=by omega
     have k2:(k:Int)<8:=by omega
     go_wp2_with fail
     go_region;go_wp2;go_roundw
     case rel=>exact⟨k+1,by omega,by go_num,Blk.drewH (Blk.setv hV (by rw[hQ.out]) Hy.out),(hh.setCell hr.out _).drew⟩
     case measure=>simp[intOf];omega
    ·obtain rfl:k=8:=by omega
     have h9:=hT.after hh;have Hz:=bt hU hh;go_upto_region 18 with fail
     apply wp_region_lit
     refine wpList_load_row rfl 358 (.tmp 7) rfl g7 rfl 358 _ (0,0) _ hV Tryz.underlying358 rfl (size_s8 _) ?_;refine wpList_store_row rfl 358 (.tmp 4) (.tmp 110) rfl g4 _ rfl rfl 358 _ h9 (size_s8 _) (by simp[u32f]) (u32f_one _ _) ?_;apply wpList_nil
     go_wp2;refine bodyPost_ret (v:=.agg (u32f (fP s S 8) 8).toArray) ?_ rfl ⟨?_,setRow_below Hz Ha.out⟩
     ·refine results_cell_row (p:=4) (ty:=358) rfl _ _ g4 358 _ (0,0) _ rfl (setRow_heap _ _ _ _ _ _ h9) Tryz.underlying358 rfl (size_s8 _)
     ·rw[u32f_congr (f:=fP s S 8) (g:=cmp S s) fun j hj=>by rw[fP,if_pos hj]]
end
section
open Go.RowKit Go.Shelf
theorem own_capS {w:World} {base g n c size:Nat} {e:TypeId} {xs:List Value} (h:w.ownsRow base e size (.slice (some ⟨g,0,none⟩) n c) n xs):g<w.heap.size∧n≤c:=by
 rcases h.2 with⟨h1,h2⟩ | ⟨g',cap,cur,hv,h3,h4,h5,_⟩
 ·cases h1
 ·injection hv with e1 e2 e3
  injection e1 with e1
  injection e1 with e1
  subst e1 e3;exact⟨(Array.getElem?_eq_some_iff.1 h4).1,h5⟩
theorem run_mk2 {P:Program} {t e:TypeId} {k:IntKind} {bytes:Nat} (ht:P.underlying t=some (.slice e)) (hi:(P.info? e).map (fun i=>(i.zero,i.size,i.bytes))=some (some (.int k 0),1,bytes))
  (n c:Nat) (he:n≤c) (hb:bytes*c≤281474976710656) (hm:c≤4611686018427387904) (w:World) :
  (Instr.makeSlice t (.int .i64 (n:Int)) (.int .i64 (c:Int))).run P w=.ok (.slice (some ⟨w.heap.size,0,none⟩) n c) (w.alloc (.cells (List.replicate c (Value.int k 0)).toArray e)):=by
 obtain⟨i,hc,hz,hs,hd⟩:=info_parts hi;have h:=run_make (P:=P) w t e i (.int k 0) ht hc hz .i64 .i64 (n:Int) (c:Int) (by omega) (by omega) (by rw[hd];have h:((bytes*c:Nat):Int)≤((281474976710656:Nat):Int):=Int.ofNat_le.2 hb;rw[Int.natCast_mul]at h;exact h) (by omega);rw[hs,Nat.mul_one,Int.toNat_natCast,Int.toNat_natCast]at h
 have e1:madeCells (Value.int k 0).cells c=(List.replicate c (Value.int k 0)).toArray:=by
  have:=toList_madeCells_one (.int k 0) c;rw[←this];simp[Value.cells]
 rw[e1]at h;exact h
theorem agg_u32 (w:World):(isAgg 324).run Tryz.prog w=.ok false w:=by
 simp[isAgg,run_underlying Tryz.underlying324,go_sem]
theorem size_u32:(Tryz.prog.info? 324).map (fun i=>i.size)=some 1:=by kernel_rfl
theorem ixS (F:Nat→Int) (i:Nat) (hi:i<8) (w:World):(Instr.index 358 (.agg (u32f F 8).toArray) (.int .i64 (i:Int))).run Tryz.prog w=.ok (.int .u32 (F i)) w:=
 run_index_agg 358 324 8 _ .i64 i _ Tryz.underlying358 (by omega) (by omega) size_u32 (agg_u32 w) (by rw[Int.toNat_natCast,List.getElem?_toArray];exact u32f_get F hi)
theorem psum_v (s:ByteArray) (w:World) (hs:s.size≤1000) :
  Calls Tryz.prog 348 #[.string s] w fun e w'=>e=.returned (.string (sumV s))∧Bw w w':=by
 obtain⟨i0,He,hH,hI,hJ⟩:=info_parts info_u8;have hU:=Kh He;have hV:=Kh hH;have hW:=Kh hI;have hY:=Kh hJ;clear He hH hI hJ;obtain⟨n,hn⟩:∃n,n=s.size:=⟨_,rfl⟩;obtain⟨c,hc⟩:∃c,c=n+72:=⟨_,rfl⟩;have Hf:∀W:World,(Instr.makeSlice 177 (.int .i64 (n:Int)) (.int .i64 (c:Int))).run Tryz.prog W=.ok (.slice (some ⟨W.heap.size,0,none⟩) n c) (W.alloc (.cells (List.replicate c (Value.int .u8 0)).toArray 5)):=run_mk2 (P:=Tryz.prog) Tryz.underlying177 info_u8 n c (by omega) (by omega) (by omega);have HP:IntKind.i64.wrap ((n:Int)+72)=(c:Int):=by rw[IntWalk.i64_in _ (by omega)];omega
 have Hg:s.size=n:=hn.symm;obtain⟨Z,hZ⟩:∃Z:Array Value,Z=(List.replicate c (Value.int .u8 0)).toArray:=⟨_,rfl⟩;have hB:=Blk.new w Z 5;have Hh:=b1 w (.cells Z 5);rw[←hZ]at Hf;have HZ:=Kh hZ;have HN:=Kh hn;have HC:=Kh hc;clear hZ hn hc;go_enter Tryz.func348,Tryz.ntmps348
 go_upto_region 2 with fail
 have h1:=Lib.run_copy_row_string (P:=Tryz.prog) (w.alloc (.cells Z 5)) 177 9 3 5 w.heap.size 0 n c s Z 5 Tryz.underlying177 (by kernel_rfl) (heap_alloc_new w _) (by omega) (by rw[HZ.out];simp;have:=HC.out;omega)
 have hO:((w.alloc (.cells Z 5)).setRow w.heap.size (Z.toList.take 0++Lib.byteCells s.data.toList++Z.toList.drop (0+s.size)).toArray).ownsRow w.heap.size 5 1 (.slice (some ⟨w.heap.size,0,none⟩) n c) n (u8s s.data.toList):=by
  have hl:s.data.toList.length=n:=by rw[Array.length_toList];exact Hg
  refine⟨by rw[u8s,List.length_map,hl,Nat.mul_one],.inr ⟨w.heap.size,c,_,rfl,Nat.le_refl _,setRow_heap _ _ _ _ _ (0,0) (heap_alloc_new w _),by have:=HC.out;omega,by have:=HC.out;simp only[maxLen];omega,?_,?_⟩⟩
  ·rw[HZ.out];have Ht:s.data.size=s.size:=rfl;simp[Lib.byteCells,Ht];have:=HC.out;omega
  ·rw[List.take_zero,List.nil_append,Nat.mul_one];show List.take n (Lib.byteCells s.data.toList++_)=_;rw[List.take_append_of_le_length (by rw[Lib.byteCells,List.length_map,hl];exact Nat.le_refl _),List.take_of_length_le (by rw[Lib.byteCells,List.length_map,hl];exact Nat.le_refl _)];rfl
 have hK:=setRow_below (cs:=(Z.toList.take 0++Lib.byteCells s.data.toList++Z.toList.drop (0+s.size)).toArray) Hh (g:=w.heap.size) (Nat.le_refl _);generalize (Z.toList.take 0++Lib.byteCells s.data.toList++Z.toList.drop (0+s.size)).toArray=xs at h1 hO hK;have hw:s.data.toList.length=n:=by rw[Array.length_toList];exact Hg
 have hy:=Kh hw;generalize (w.alloc (.cells Z 5)).setRow w.heap.size xs=w2 at h1 hO hK;clear hw hB Hh;go_upto_region 3 with fail
 have h5:=hK.size;clear h1;go_wp2_with (at_builtin;refine wpList_append_lies _ rfl (.tmp 19) (.tmp 20) _ rfl w.heap.size 5 i0 _ 1 1 Tryz.underlying177 hU.out hV.out hW.out hY.out rfl (by omega) (.slice (some ⟨w.heap.size,0,none⟩) n c) n (u8s s.data.toList) rfl (own_after hO (b1 _ (.cells #[.int .u8 128] 5))) ⟨w2.heap.size,0,none⟩ 1 1 [.int .u8 128] rfl rfl (Blk.new w2 #[.int .u8 128] 5).cells (by simp[Value.oneCell']) (by omega) (by simp only[maxLen];omega) (by omega) (by rw[World.size_alloc];omega) (w2.heap.size+1) (by simp) ?_;intro ga ca wz hg hf hz hi)
 have hC:BOwn wz w.heap.size (.slice (some ⟨ga,0,none⟩) (n+1) ca) (s.data.toList++[128]):=by
  rw[BOwn,List.length_append,hy.out,u8s,List.map_append];exact hg
 have hM:=(ba hK (.cells #[.int .u8 128] 5)).grown hf (by rw[World.size_alloc];omega) (fun x hx=>(own_lt hO hx).2);clear hg hf hz hi hO hK h5;obtain⟨N2,HS,HU,HV⟩:∃T,T%64=56∧n<T∧T≤n+64:=⟨n+1+(120-(n+1)%64)%64,by omega,by omega,by omega⟩;go_loopw [3] (fun v wr=>∃(k:Nat) (l:List UInt8) (g2 cc:Nat),v=.slice (some ⟨g2,0,none⟩) (n+1+k) cc∧Hid (l=s.data.toList++[128]++List.replicate k 0)∧Hid (l.length=n+1+k)∧n+1+k≤N2∧BOwn wr w.heap.size v l∧Bw w wr) (fun v _=>N2-(match v with | .slice _ m _=>m | _=>0))
 case atStart=>exact⟨0,_,ga,ca,rfl,by simp[Hid],by rw[Hid,List.length_append,hy.out];rfl,by omega,hC,hM⟩
 case round =>
  obtain⟨k,l,g2,cc,rfl,hD,hp,HW,hO,hh⟩:=hrel;obtain⟨wp,hN⟩:∃wp,wp=wr:=⟨_,rfl⟩;subst hN;by_cases he:(n+1+k)%64=56
  ·have hd:(((n+1+k:Nat):Int)%64 != 56)=false:=by rw[bne_eq_false_iff_eq];omega
   have Hu:Hid (k=zc s.size):=by rw[Hid,zc];omega
   obtain⟨q,hq⟩:∃q,q=n*8:=⟨_,rfl⟩;have HQ:=Kh hq;have Hv:IntKind.u64.wrap (n:Int)=(n:Int):=by rw[IntKind.wrap_u64];omega
   have Hw:IntKind.u64.wrap ((n:Int)*8)=(q:Int):=by rw[IntKind.wrap_u64];omega
   have HX:q≤8000:=by omega
   clear hq he;go_wp2;clear hd Hv Hw;generalize (((n:Int)+1+(k:Int))%64 != 56)=bb25;go_loopw [3,5] (fun v i wr=>∃(j:Nat) (l:List UInt8) (g2 cc:Nat),j≤8∧i=.int .i64 (56-8*(j:Int))∧v=.slice (some ⟨g2,0,none⟩) (n+1+k+j) cc∧Hid (l=s.data.toList++[128]++List.replicate k 0++(be8L q).take j)∧Hid (l.length=n+1+k+j)∧BOwn wr w.heap.size v l∧Bw w wr) (fun _ i _=>(intOf i+8).toNat)
   case atStart=>exact⟨0,l,g2,cc,by omega,rfl,rfl,by rw[Hid,hD.out];simp,hp.out,hO,hh⟩
   case round =>
    clear hO hh hD hp;obtain⟨j,l,g2,cc,hj,rfl,rfl,hD,hp,hO,hh⟩:=hrel;obtain⟨wp,hN⟩:∃wp,wp=wr:=⟨_,rfl⟩;subst hN;by_cases hlt:j<8
    ·obtain⟨sh,h7⟩:∃sh:Nat,56-8*(j:Int)=(sh:Int):=⟨56-8*j,by omega⟩;obtain⟨qq,h8⟩:∃qq,qq=q / 256^(7-j):=⟨_,rfl⟩
     have HY:(q:Int) / 2^sh=(qq:Int):=by
      rw[h8,Int.natCast_ediv];congr 1
      rw[show sh=8*(7-j) by omega,show (256:Nat)^(7-j)=2^(8*(7-j)) by rw[Nat.pow_mul],Int.natCast_pow];rfl
     have Hx:Hid ((be8L q).take (j+1)=(be8L q).take j++[UInt8.ofNat (qq%256)]):=by
      rw[Hid,List.take_add_one,h8];congr 1
      rw[be8L,List.getElem?_map,List.getElem?_range hlt];rfl
     have Hy:Hid (Value.int .u8 ((qq:Int)%256)=u8v (UInt8.ofNat (qq%256))):=by
      rw[Hid,byteZ];congr 2
     have s0:(0:Int)≤(sh:Int):=by omega
     have s1:(sh:Int)≤64:=by omega
     have Hi:=Kh h7;rw[h7];clear h7 h8;have ho:wp.ownsRow w.heap.size 5 1 (.slice (some ⟨g2,0,none⟩) (n+1+k+j) cc) (n+1+k+j) (u8s l):=by have h:wp.ownsRow _ _ _ _ _ _:=hO;rw[hp.out]at h;exact h
     have h9:=hh.size;go_wp2_with (at_builtin;refine wpList_append_lies _ rfl (.tmp 37) (.tmp 42) _ rfl w.heap.size 5 i0 _ 1 1 Tryz.underlying177 hU.out hV.out hW.out hY.out rfl (by omega) (.slice (some ⟨g2,0,none⟩) (n+1+k+j) cc) (n+1+k+j) (u8s l) rfl (own_after ho (b1 _ (.cells #[.int .u8 ((qq:Int)%256)] 5))) ⟨wp.heap.size,0,none⟩ 1 1 [.int .u8 ((qq:Int)%256)] rfl rfl (Blk.new wp #[.int .u8 ((qq:Int)%256)] 5).cells (by simp[Value.oneCell']) (by omega) (by simp only[maxLen];omega) (by omega) (by rw[World.size_alloc];omega) (wp.heap.size+1) (by simp) ?_;intro ga ca wz hg hf hz hi)
     have hC:BOwn wz w.heap.size (.slice (some ⟨ga,0,none⟩) (n+1+k+j+1) ca) (l++[UInt8.ofNat (qq%256)]):=by
      rw[BOwn,List.length_append,hp.out,u8s,List.map_append];rw[Hy.out]at hg;exact hg
     have hM:=(ba hh (.cells #[.int .u8 ((qq:Int)%256)] 5)).grown hf (by rw[World.size_alloc];omega) (fun x hx=>(own_lt ho hx).2);clear hg hf hz hi hO ho hh;have H0:IntKind.i64.wrap ((sh:Int)-8)=(sh:Int)-8:=by rw[IntWalk.i64_in _ (by omega)]
     go_wp2;go_roundw
     case rel=>exact⟨j+1,_,ga,ca,by omega,vi (by have:=Hi.out;omega),rfl,by rw[Hid,hD.out,Hx.out,List.append_assoc _ _ [UInt8.ofNat (qq%256)]],by rw[Hid,List.length_append,hp.out];rfl,hC,hM⟩
     case measure=>simp[intOf];have:=Hi.out;omega
    ·obtain rfl:j=8:=by omega
     have h0:Hid (l=(padV s).data.toList):=by
      rw[Hid,hD.out,Hu.out,HQ.out,←hy.out];show _=((s++(⟨#[128]⟩:ByteArray))++zb (zc s.size)++(⟨(be8L (s.size*8)).toArray⟩:ByteArray)).data.toList;rw[ByteArray.data_append,ByteArray.data_append,ByteArray.data_append];have Hz:(be8L (s.data.toList.length*8)).take 8=be8L (s.data.toList.length*8):=List.take_of_length_le (by rw[be8_len];exact Nat.le_refl _);rw[Hz];simp[zb]
     have Ha:Hid (l.length=(padV s).size):=by rw[h0.out,Array.length_toList];rfl
     obtain⟨t,hP⟩:∃t,t=padV s:=⟨_,rfl⟩;obtain⟨m,Hj⟩:∃m,m=t.size / 64:=⟨_,rfl⟩
     have ht:t.size=64*m:=by
      have h:=padV_size s;rw[←hP]at h;omega
     have hm:m≤100:=by
      have h:=padV_size s;rw[←hP]at h;split at h <;> omega
     have Hk:Hid (sumV s=⟨(wL (stN t m) 8).toArray⟩):=by rw[Hid,Hj,hP];rfl
     rw[←hP]at h0 Ha;have hQ:n+1+k+8=64*m:=by rw[←ht,←Ha.out,hp.out]
     have ho:wp.ownsRow w.heap.size 5 1 (.slice (some ⟨g2,0,none⟩) (n+1+k+8) cc) (n+1+k+8) (u8s l):=by have h:wp.ownsRow _ _ _ _ _ _:=hO;rw[hp.out]at h;exact h
     rw[hQ]at ho ⊢
     have hA:BytA wp g2 0 t:=by
      refine⟨(own_capS ho).1,fun j hj=>?_⟩;rw[Nat.zero_add];refine own_cellS ho j _ ?_;rw[u8s,List.getElem?_map,h0.out,Array.getElem?_toList,Array.getElem?_eq_getElem hj,byt,Array.getD_eq_getD_getElem?,Array.getElem?_eq_getElem hj];rfl
     have H1:64*m≤cc:=(own_capS ho).2;have HT:=Kh ht;clear hP Hj hQ hO ho hD hp h0 Ha Hf;go_wp2_with fail
     refine (pfirst_v _).mono ?_;rintro e w4 ⟨rfl,hb4⟩;replace hA:=hA.after hb4;replace hh:=bt hh hb4;clear hb4;have h6:=(Blk.new w4 #[.int .u32 0,.int .u32 0,.int .u32 0,.int .u32 0,.int .u32 0,.int .u32 0,.int .u32 0,.int .u32 0] 358).as z8;have Hl:=b1' w4 (.cells #[.int .u32 0,.int .u32 0,.int .u32 0,.int .u32 0,.int .u32 0,.int .u32 0,.int .u32 0,.int .u32 0] 358);have Hb:=setRow_below (cs:=(u32f iC 8).toArray) Hl (Nat.le_refl _);have hX:=setRow_blk (cs:=(u32f iC 8).toArray) h6;go_upto_region 12 with (first | (refine wpList_store_rowTo rfl 358 (.tmp 6) (.tmp 44) rfl rfl w4.heap.size (u32f iC 8).toArray rfl rfl 358 _ h6 (size_s8 _) (by simp[u32f]) (u32f_one _ _) ?_))
     generalize (w4.alloc (.cells #[.int .u32 0,.int .u32 0,.int .u32 0,.int .u32 0,.int .u32 0,.int .u32 0,.int .u32 0,.int .u32 0] 358)).setRow w4.heap.size (u32f iC 8).toArray=w6 at Hb hX ⊢;replace hX:Blk w6 w4.heap.size 358 (u32f iC 8):=hX;obtain⟨gx,Hm⟩:∃g,w4.heap.size=g:=⟨_,rfl⟩;rw[Hm]at hX ⊢;have HA:Hid (w4.heap.size≤gx):=by rw[Hid];omega
     clear Hm h6 Hl;go_loopw [3] (fun v wr=>∃(b o r c':Nat),b≤m∧Hid (b<m→o=64*b)∧Hid (r+64*b=64*m)∧Hid (c'+64*b=cc)∧v=.slice (some ⟨g2,o,none⟩) r c'∧Blk wr gx 358 (u32f (stN t b) 8)∧Bw w4 wr) (fun v _=>match v with | .slice _ r _=>r | _=>0)
     case atStart=>exact⟨0,0,64*m,cc,by omega,fun _=>rfl,by simp[Hid],by simp[Hid],rfl,hX,Hb⟩
     case round =>
      clear hX Hb;obtain⟨b,o,r,c',H2,HO,HR,hR,rfl,hX,hu⟩:=hrel;obtain⟨wp,hN⟩:∃wp,wp=wr:=⟨_,rfl⟩;subst hN;by_cases hlt:b<m
      ·replace HO:Hid (o=64*b):=HO.out hlt;have HB:64≤r:=by have:=HR.out;omega
       have Hc:64≤c':=by have:=HR.out;have:=hR.out;omega
       have H3:r≤c':=by have:=HR.out;have:=hR.out;omega
       have hd:decide ((0:Int)<(r:Int))=true:=Dt (by omega);have Hn:=hA.after hu;have Ho:Hid ((t.extract (64*b) (64*b+64)).size=64):=by rw[Hid,ByteArray.size_extract];have:=HT.out;omega
       have HD:Hid (∀W,Bw wp W→BytA W g2 o (t.extract (64*b) (64*b+64))):=fun W hb=>by
        have h:=Hn.after hb;refine⟨h.1,fun j hj=>?_⟩;rw[Ho.out]at hj;have h2:=h.2 (64*b+j) (by have:=HT.out;omega);rw[Nat.zero_add]at h2;rw[HO.out,h2];congr 2
        rw[byt,byt,ByteArray.data_extract,Array.getD_eq_getD_getElem?,Array.getD_eq_getD_getElem?,Array.getElem?_extract,if_pos (by
         show j<min (64*b+64) t.data.size-64*b;have h3:t.data.size=t.size:=rfl;have:=HT.out;omega)]
       have HE:Hid (∀W,Bw wp W→Calls Tryz.prog 355 #[.agg #[.int .u32 (stN t b 0),.int .u32 (stN t b 1),.int .u32 (stN t b 2),.int .u32 (stN t b 3),.int .u32 (stN t b 4),.int .u32 (stN t b 5),.int .u32 (stN t b 6),.int .u32 (stN t b 7)],.slice (some ⟨g2,o,none⟩) 64 c'] W fun e w'=>e=.returned (.agg (u32f (stN t (b+1)) 8).toArray)∧Bw W w'):=fun W hb=>after_v (stN t b) (t.extract (64*b) (64*b+64)) g2 o c' W Ho.out (HD.out W hb) Hc
       clear hA hh;have gc0:=gclH (a:=⟨gx,0,none⟩) hX.lt ((hX.cell 0).trans (u32f_get (stN t b) (by decide:0<8)));have gc1:=gclH (a:=⟨gx,1,none⟩) hX.lt ((hX.cell 1).trans (u32f_get (stN t b) (by decide:1<8)));have gc2:=gclH (a:=⟨gx,2,none⟩) hX.lt ((hX.cell 2).trans (u32f_get (stN t b) (by decide:2<8)));have gc3:=gclH (a:=⟨gx,3,none⟩) hX.lt ((hX.cell 3).trans (u32f_get (stN t b) (by decide:3<8)));have gc4:=gclH (a:=⟨gx,4,none⟩) hX.lt ((hX.cell 4).trans (u32f_get (stN t b) (by decide:4<8)));have gc5:=gclH (a:=⟨gx,5,none⟩) hX.lt ((hX.cell 5).trans (u32f_get (stN t b) (by decide:5<8)));have gc6:=gclH (a:=⟨gx,6,none⟩) hX.lt ((hX.cell 6).trans (u32f_get (stN t b) (by decide:6<8)));have gc7:=gclH (a:=⟨gx,7,none⟩) hX.lt ((hX.cell 7).trans (u32f_get (stN t b) (by decide:7<8)));go_wp2;go_wp2_with fail
       refine wp_region_gw_tail 4 (by kernel_rfl) (by kernel_rfl) ?_;simp only[List.take_succ_cons,List.take_zero,List.drop_succ_cons,List.drop_zero];repeat (go_big_quiet_step (first | (go_at_call 355;exact gw_of (HE.out _ (gw_below _)))))
       refine wpQuiet_nil ?_;rintro w9 ⟨xw9,rfl⟩;have hb9:=gw_below xw9;generalize gw xw9=w9 at hb9;have Hd:=hX.after hb9;have hS:=bt hu hb9;clear gc0 gc1 gc2 gc3 gc4 gc5 gc6 gc7;clear hX hu hb9 Hn;refine wpList_store_rowTo rfl 358 (.tmp 6) (.tmp 53) rfl rfl gx (u32f (stN t (b+1)) 8).toArray rfl rfl 358 _ Hd (size_s8 _) (by simp[u32f]) (u32f_one _ _) ?_;have Hp:Blk (w9.setRow gx (u32f (stN t (b+1)) 8).toArray) gx 358 (u32f (stN t (b+1)) 8):=setRow_blk (cs:=(u32f (stN t (b+1)) 8).toArray) Hd;have hT:=setRow_below (cs:=(u32f (stN t (b+1)) 8).toArray) hS HA.out;generalize w9.setRow gx (u32f (stN t (b+1)) 8).toArray=wA at Hp hT ⊢;clear Hd hS;apply wpList_nil
       go_wp2_with fail
       go_roundw
       case rel =>
        refine⟨b+1,if c'=64 then o else o+64,r-64,c'-64,by omega,fun H4=>?_,by rw[Hid];have:=HR.out;omega,by rw[Hid];have:=hR.out;omega,?_,Hp,hT⟩
        ·rw[if_neg (by have:=HR.out;have:=hR.out;omega),HO.out];omega
        ·by_cases hq:c'=64
         ·rw[if_pos hq,if_pos hq]
         ·rw[if_neg hq,if_neg hq]
       case measure=>show r-64<r;omega
      ·obtain rfl:b=m:=by omega
       replace hh:=bt hh hu;clear hu HO hR hA;obtain⟨F,hF⟩:∃F,F=stN t b:=⟨_,rfl⟩;rw[←hF]at hX Hk;clear hF;have HF:r=0:=by have:=HR.out;omega
       have hd:decide ((0:Int)<(r:Int))=false:=by rw[decide_eq_false_iff_not];omega
       go_upto_region 16 with fail
       clear hd HF HR hlt;apply wp_region_lit
       refine wpList_load_row rfl 358 (.tmp 6) rfl gx rfl 358 _ (0,0) _ hX Tryz.underlying358 rfl (size_s8 _) ?_;clear hX;have hE:∀(k:Nat) (W:World),k<8→(Instr.index 358 (.agg (u32f F 8).toArray) (.int .i64 (k:Int))).run Tryz.prog W=.ok (.int .u32 (F k)) W:=fun k W h=>ixS F k h W
       obtain⟨AG,Hq⟩:∃A,A=(u32f F 8).toArray:=⟨_,rfl⟩;rw[←Hq]at hE ⊢;clear Hq;have HG:=Kh hE;clear hE;go_wp2_with fail
       go_loopw [7,55] (fun v i wr=>∃(k':Nat) (l:List UInt8),k'≤8∧i=.int .i64 k'∧Hid (l=wL F k')∧Hid (l.length=4*k')∧BOwn wr w.heap.size v l∧Bw w wr) (fun _ i _=>8-(intOf i).toNat)
       case atStart=>exact⟨0,[],by omega,rfl,rfl,rfl,World.ownsRow_nil _ _ _ _,hh⟩
       case round =>
        clear hh;obtain⟨k',l,hk,rfl,Hr,HL,hO,hh⟩:=hrel;obtain⟨wq,HH⟩:∃wp,wp=wr:=⟨_,rfl⟩;subst HH;by_cases hlt:k'<8
        ·have hE:∀W:World,(Instr.index 358 (.agg AG) (.int .i64 (k':Int))).run Tryz.prog W=.ok (.int .u32 (F k')) W:=fun W=>HG.out k' W hlt
         have Hs:Hid (wL F (k'+1)=l++Go.Proofs.YtihjpddbjhcbmaaGreatDoor.w4 (F k')):=by rw[Hid,Hr.out];rfl
         generalize F k'=x at hE Hs;have H5:(0:Int)≤(k':Int):=by omega
         have H6:(k':Int)<8:=by omega
         have hG:wq.ownsRow w.heap.size 5 1 u7 (4*k') (u8s l):=by have h:wq.ownsRow _ _ _ _ _ _:=hO;rw[HL.out]at h;exact h
         have HI:Hid (u8s (l++[UInt8.ofNat (x / 16777216%256).toNat,UInt8.ofNat (x / 65536%256).toNat,UInt8.ofNat (x / 256%256).toNat,UInt8.ofNat (x%256).toNat])=u8s l++[.int .u8 (x / 16777216%256),.int .u8 (x / 65536%256),.int .u8 (x / 256%256),.int .u8 (x%256)]):=by
          rw[Hid,u8s,List.map_append,byteZ,byteZ,byteZ,byteZ];rfl
         have HJ:=hh.size;go_wp2_with (at_builtin;refine wpList_append_lies _ rfl (.tmp 58) (.tmp 70) _ rfl w.heap.size 5 i0 _ 1 1 Tryz.underlying177 hU.out hV.out hW.out hY.out rfl (by omega) u7 (4*k') (u8s l) rfl (own_after hG (b1 _ (.cells #[.int .u8 (x / 16777216%256),.int .u8 (x / 65536%256),.int .u8 (x / 256%256),.int .u8 (x%256)] 5))) ⟨wq.heap.size,0,none⟩ 4 4 [.int .u8 (x / 16777216%256),.int .u8 (x / 65536%256),.int .u8 (x / 256%256),.int .u8 (x%256)] rfl rfl (Blk.new wq #[.int .u8 (x / 16777216%256),.int .u8 (x / 65536%256),.int .u8 (x / 256%256),.int .u8 (x%256)] 5).cells (by simp[Value.oneCell']) (by omega) (by simp only[maxLen];omega) (by omega) (by rw[World.size_alloc];omega) (wq.heap.size+1) (by simp) ?_;intro ga ca wz hg hf hz hi)
         have hC:BOwn wz w.heap.size (.slice (some ⟨ga,0,none⟩) (4*k'+4) ca) (l++[UInt8.ofNat (x / 16777216%256).toNat,UInt8.ofNat (x / 65536%256).toNat,UInt8.ofNat (x / 256%256).toNat,UInt8.ofNat (x%256).toNat]):=by
          rw[BOwn,HI.out,List.length_append,HL.out];exact hg
         have HK:=(ba hh (.cells #[.int .u8 (x / 16777216%256),.int .u8 (x / 65536%256),.int .u8 (x / 256%256),.int .u8 (x%256)] 5)).grown hf (by rw[World.size_alloc];omega) (fun x hx=>(own_lt hG hx).2);clear hg hf hz hi hG hO hE;go_wp2;go_roundw
         case rel=>exact⟨k'+1,_,by omega,by go_num,by rw[Hid,Hs.out];rfl,by rw[Hid,List.length_append,HL.out];simp;omega,hC,HK⟩
         case measure=>simp[intOf];omega
        ·obtain rfl:k'=8:=by omega
         have hG:wq.ownsRow w.heap.size 5 1 u7 32 (u8s l):=by have h:wq.ownsRow _ _ _ _ _ _:=hO;rw[HL.out]at h;exact h
         rcases hG.2 with⟨hv,h2⟩ | ⟨g9,cap,cur,hv,h3,h4,_⟩
         ·omega
         ·subst hv
          have hr:Row wq g9 0 l:=fun j hj=>by
           have h:=own_cellS hG j (u8v l[j]) (by simp[u8s,hj]);rw[Nat.zero_add];exact h
          have HM:=row_str (c:=cap) hr;rw[HL.out]at HM;have hL:=HL.out;go_wp2;go_ret
          exact⟨by rw[Hk.out,←Hr.out];rfl,hh⟩
  ·have hd:(((n+1+k:Nat):Int)%64 != 56)=true:=by rw[bne_iff_ne];omega
   have H7:n+1+k<N2:=by omega
   have ho:wp.ownsRow w.heap.size 5 1 (.slice (some ⟨g2,0,none⟩) (n+1+k) cc) (n+1+k) (u8s l):=by have h:wp.ownsRow _ _ _ _ _ _:=hO;rw[hp.out]at h;exact h
   have h9:=hh.size;go_wp2_with (at_builtin;refine wpList_append_lies _ rfl (.tmp 26) (.tmp 27) _ rfl w.heap.size 5 i0 _ 1 1 Tryz.underlying177 hU.out hV.out hW.out hY.out rfl (by omega) (.slice (some ⟨g2,0,none⟩) (n+1+k) cc) (n+1+k) (u8s l) rfl (own_after ho (b1 _ (.cells #[.int .u8 0] 5))) ⟨wp.heap.size,0,none⟩ 1 1 [.int .u8 0] rfl rfl (Blk.new wp #[.int .u8 0] 5).cells (by simp[Value.oneCell']) (by omega) (by simp only[maxLen];omega) (by omega) (by rw[World.size_alloc];omega) (wp.heap.size+1) (by simp) ?_;intro ga ca wz hg hf hz hi)
   have hC:BOwn wz w.heap.size (.slice (some ⟨ga,0,none⟩) (n+1+k+1) ca) (l++[0]):=by
    rw[BOwn,List.length_append,hp.out,u8s,List.map_append];exact hg
   have hM:=(ba hh (.cells #[.int .u8 0] 5)).grown hf (by rw[World.size_alloc];omega) (fun x hx=>(own_lt ho hx).2);clear hg hf hz hi hO ho hh;go_wp2;go_roundw
   case rel=>exact⟨k+1,_,ga,ca,rfl,by rw[Hid,hD.out,List.replicate_succ',List.append_assoc],by rw[Hid,List.length_append,hp.out];rfl,by omega,hC,hM⟩
   case measure=>show N2-(n+1+k+1)<N2-(n+1+k);omega
end
section
open Go.RowKit Go.Shelf
def mL (key:ByteArray) (x:UInt8) (k:Nat):List UInt8:=(List.range 64).map fun j=>if j<k then xb key x j else key.data.getD j 0
theorem mL_len (key:ByteArray) (x:UInt8) (k:Nat):(mL key x k).length=64:=by simp[mL]
theorem mL_get (key:ByteArray) (x:UInt8) {k j:Nat} (h:j<64):(mL key x k)[j]?=some (if j<k then xb key x j else key.data.getD j 0):=by
 rw[mL,List.getElem?_map,List.getElem?_range h];rfl
theorem mL_none (key:ByteArray) (x:UInt8) {k j:Nat} (h:¬ j<64):(mL key x k)[j]?=none:=List.getElem?_eq_none (by rw[mL_len];omega)
theorem mL_set (key:ByteArray) (x:UInt8) {k:Nat} (h:k<64):(mL key x k).set k (xb key x k)=mL key x (k+1):=by
 refine List.ext_getElem? fun j=>?_
 by_cases hj:j<64
 ·rw[mL_get key x hj];by_cases e:k=j
  ·subst e;rw[List.getElem?_set_self (by rw[mL_len];exact h),if_pos (by omega)]
  ·rw[List.getElem?_set_ne e,mL_get key x hj];by_cases h2:j<k
   ·rw[if_pos h2,if_pos (by omega)]
   ·rw[if_neg h2,if_neg (by omega)]
 ·rw[mL_none key x hj,List.getElem?_eq_none (by rw[List.length_set,mL_len];omega)]
theorem mL_end (key:ByteArray) (x:UInt8):(⟨(mL key x 64).toArray⟩:ByteArray)=xorV key x:=by
 rw[xorV];refine congrArg (fun l:List UInt8=>(⟨l.toArray⟩:ByteArray)) (List.ext_getElem? fun j=>?_);by_cases hj:j<64
 ·rw[mL_get key x hj,List.getElem?_map,List.getElem?_range hj,if_pos hj];rfl
 ·rw[mL_none key x hj,List.getElem?_eq_none (by simp;omega)]
theorem mL_copy (key:ByteArray) (x:UInt8) (hk:key.size≤64) (Z:List Value) (hZ:Z=List.replicate 64 (.int .u8 0)):Z.take 0++Lib.byteCells key.data.toList++Z.drop (0+key.size)=u8s (mL key x 0):=by
 rw[List.take_zero,List.nil_append,Nat.zero_add,hZ,List.drop_replicate];have hl:(Lib.byteCells key.data.toList).length=key.size:=by rw[Lib.byteCells,List.length_map,Array.length_toList];rfl
 refine List.ext_getElem? fun j=>?_
 have hR:(u8s (mL key x 0))[j]?=((mL key x 0)[j]?).map u8v:=by rw[u8s,List.getElem?_map]
 by_cases hj:j<64
 ·rw[hR,mL_get key x hj,if_neg (Nat.not_lt_zero _)];by_cases h1:j<key.size
  ·rw[List.getElem?_append_left (by rw[hl];exact h1),Lib.byteCells,List.getElem?_map,Array.getElem?_toList,Array.getD_eq_getD_getElem?,Array.getElem?_eq_getElem h1];rfl
  ·rw[List.getElem?_append_right (by rw[hl];omega),hl,List.getElem?_replicate,if_pos (by omega),Array.getD_eq_getD_getElem?,Array.getElem?_eq_none (by show key.size≤j;omega)];rfl
 ·rw[hR,mL_none key x hj,List.getElem?_eq_none (by rw[List.length_append,hl,List.length_replicate];omega)];try rfl
theorem zb64:#[.int .u8 0,.int .u8 0,.int .u8 0,.int .u8 0,.int .u8 0,.int .u8 0,.int .u8 0,.int .u8 0,.int .u8 0,.int .u8 0,.int .u8 0,.int .u8 0,.int .u8 0,.int .u8 0,.int .u8 0,.int .u8 0,.int .u8 0,.int .u8 0,.int .u8 0,.int .u8 0,.int .u8 0,.int .u8 0,.int .u8 0,.int .u8 0,.int .u8 0,.int .u8 0,.int .u8 0,.int .u8 0,.int .u8 0,.int .u8 0,.int .u8 0,.int .u8 0,.int .u8 0,.int .u8 0,.int .u8 0,.int .u8 0,.int .u8 0,.int .u8 0,.int .u8 0,.int .u8 0,.int .u8 0,.int .u8 0,.int .u8 0,.int .u8 0,.int .u8 0,.int .u8 0,.int .u8 0,.int .u8 0,.int .u8 0,.int .u8 0,.int .u8 0,.int .u8 0,.int .u8 0,.int .u8 0,.int .u8 0,.int .u8 0,.int .u8 0,.int .u8 0,.int .u8 0,.int .u8 0,.int .u8 0,.int .u8 0,.int .u8 0,.int .u8 0].toList=List.replicate 64 (Value.int .u8 0):=by rfl
theorem pmac1_v (key s:ByteArray) (w:World) (hh:key.size≤64) (hs:s.size≤900) :
  Calls Tryz.prog 339 #[.string key,.string s] w fun e w'=>e=.returned (.string (mac1 key s))∧Bw w w':=by
 have hd:decide ((64:Int)<(key.size:Int))=false:=decide_eq_false (by omega);have HM:Hid (mac1 key s=sumV (xorV key 92++sumV (xorV key 54++s))):=rfl;go_enter Tryz.func339,Tryz.ntmps339
 have ha:=xorV_size key 92;have hb:=xorV_size key 54;have hq:(0:Int)≤64:=by omega
 obtain⟨Z,hZ⟩:∃Z:Array Value,Z=#[.int .u8 0,.int .u8 0,.int .u8 0,.int .u8 0,.int .u8 0,.int .u8 0,.int .u8 0,.int .u8 0,.int .u8 0,.int .u8 0,.int .u8 0,.int .u8 0,.int .u8 0,.int .u8 0,.int .u8 0,.int .u8 0,.int .u8 0,.int .u8 0,.int .u8 0,.int .u8 0,.int .u8 0,.int .u8 0,.int .u8 0,.int .u8 0,.int .u8 0,.int .u8 0,.int .u8 0,.int .u8 0,.int .u8 0,.int .u8 0,.int .u8 0,.int .u8 0,.int .u8 0,.int .u8 0,.int .u8 0,.int .u8 0,.int .u8 0,.int .u8 0,.int .u8 0,.int .u8 0,.int .u8 0,.int .u8 0,.int .u8 0,.int .u8 0,.int .u8 0,.int .u8 0,.int .u8 0,.int .u8 0,.int .u8 0,.int .u8 0,.int .u8 0,.int .u8 0,.int .u8 0,.int .u8 0,.int .u8 0,.int .u8 0,.int .u8 0,.int .u8 0,.int .u8 0,.int .u8 0,.int .u8 0,.int .u8 0,.int .u8 0,.int .u8 0]:=⟨_,rfl⟩;go_upto_region 4 with fail
 rw[←hZ];have hz:Z.toList=List.replicate 64 (Value.int .u8 0):=by rw[hZ];exact zb64
 clear hZ;have h5:=(Blk.new w Z 349).alloc (.cells Z 349);have h6:=Blk.new (w.alloc (.cells Z 349)) Z 349;rw[World.size_alloc]at h6;have he:=ba (b1' w (.cells Z 349)) (.cells Z 349);obtain⟨g5,hj⟩:∃g,g=w.heap.size:=⟨_,rfl⟩;obtain⟨g6,hl⟩:∃g,g=w.heap.size+1:=⟨_,rfl⟩;have HG:Hid (w.heap.size≤g5∧w.heap.size≤g6∧g5≠g6):=⟨by omega,by omega,by omega⟩;rw[←hl]at h6;rw[←hj]at h5;try rw[World.size_alloc]
 rw[←hl,←hj];clear hj hl;generalize (w.alloc (.cells Z 349)).alloc (.cells Z 349)=wa at h5 h6 he ⊢;have hg:=Lib.run_copy_row_string (P:=Tryz.prog) wa 177 9 3 5 g5 0 64 64 key Z 349 Tryz.underlying177 (by kernel_rfl) h5 hh (by rw[←Array.length_toList,hz,List.length_replicate];omega);rw[mL_copy key 54 hh Z.toList hz]at hg;have hm:Blk (wa.setRow g5 (u8s (mL key 54 0)).toArray) g5 349 (u8s (mL key 54 0)):=setRow_blk (cs:=(u8s (mL key 54 0)).toArray) h5
 have hi:Blk (wa.setRow g5 (u8s (mL key 54 0)).toArray) g6 349 Z.toList:=by
  show ((_:World).setRow _ _).heap[_]?=_;rw[setRow_other _ _ _ _ (Ne.symm HG.out.2.2)];exact h6
 have hf:=setRow_below (cs:=(u8s (mL key 54 0)).toArray) he HG.out.1;clear h5 h6 he;go_upto_region 5 with fail
 clear hg;generalize wa.setRow g5 (u8s (mL key 54 0)).toArray=wb at hm hi hf ⊢;have hg:=Lib.run_copy_row_string (P:=Tryz.prog) wb 177 9 3 5 g6 0 64 64 key Z 349 Tryz.underlying177 (by kernel_rfl) hi hh (by rw[←Array.length_toList,hz,List.length_replicate];omega);rw[mL_copy key 92 hh Z.toList hz]at hg;have h6:Blk (wb.setRow g6 (u8s (mL key 92 0)).toArray) g6 349 (u8s (mL key 92 0)):=setRow_blk (cs:=(u8s (mL key 92 0)).toArray) hi
 have h5:Blk (wb.setRow g6 (u8s (mL key 92 0)).toArray) g5 349 (u8s (mL key 54 0)):=by
  show ((_:World).setRow _ _).heap[_]?=_;rw[setRow_other _ _ _ _ HG.out.2.2];exact hm
 have he:=setRow_below (cs:=(u8s (mL key 92 0)).toArray) hf HG.out.2.1;clear hm hi hf hz;go_upto_region 6 with fail
 clear hg;generalize wb.setRow g6 (u8s (mL key 92 0)).toArray=wc at h5 h6 he ⊢;have hr:Hid (∀y:UInt8,Value.int .u8 (bits .xor .u8 (y.toNat:Int) 54)=u8v (y ^^^ 54)):=fun y=>xor_u8v y 54
 have ht:Hid (∀y:UInt8,Value.int .u8 (bits .xor .u8 (y.toNat:Int) 92)=u8v (y ^^^ 92)):=fun y=>xor_u8v y 92
 have ho:Hid ((⟨(mL key 54 64).toArray⟩:ByteArray)=xorV key 54∧(⟨(mL key 92 64).toArray⟩:ByteArray)=xorV key 92):=⟨mL_end _ _,mL_end _ _⟩;go_wp2;go_loopw [19] (fun i wr=>∃k:Nat,k≤64∧i=.int .i64 k∧Blk wr g5 349 (u8s (mL key 54 k))∧Blk wr g6 349 (u8s (mL key 92 k))∧Bw w wr) (fun i _=>64-(intOf i).toNat)
 case atStart=>exact⟨0,by omega,rfl,h5,h6,he⟩
 case round =>
  clear h5 h6 he;obtain⟨k,hk,rfl,h5,h6,hp⟩:=hrel;by_cases hlt:k<64
  ·have c5:wr.cell? ⟨g5,k,none⟩=some (u8v (key.data.getD k 0)):=by rw[h5.cell,u8s,List.getElem?_map,mL_get _ _ hlt,if_neg (by omega)];rfl
   have c6:wr.cell? ⟨g6,k,none⟩=some (u8v (key.data.getD k 0)):=by rw[h6.cell,u8s,List.getElem?_map,mL_get _ _ hlt,if_neg (by omega)];rfl
   have hu:Hid (∀y,y=xb key 54 k→(mL key 54 k).set k y=mL key 54 (k+1)):=fun y e=>by rw[e];exact mL_set key 54 hlt
   have hv:Hid (∀y,y=xb key 92 k→(mL key 92 k).set k y=mL key 92 (k+1)):=fun y e=>by rw[e];exact mL_set key 92 hlt
   have hn:Hid (key.data.getD k 0 ^^^ 54=xb key 54 k∧key.data.getD k 0 ^^^ 92=xb key 92 k):=⟨rfl,rfl⟩;generalize key.data.getD k 0=y at c5 c6 hn;unfold u8v at c5 c6;have hB:g5≠g6:=HG.out.2.2;have f5:=h5.free k;have f6:=h6.free k;have l5:=h5.lt;have l6:=h6.lt;have k1:(0:Int)≤(k:Int):=by omega
   have k2:(k:Int)<64:=by omega
   go_wp2;go_roundw
   case rel =>
    refine⟨k+1,by omega,by go_num,?_,?_,(hp.setCell HG.out.1 _).setCell HG.out.2.1 _⟩
    ·rw[hr.out,←hu.out _ hn.out.1,←u8s_set];exact (h5.set k _).other _ _ HG.out.2.2
    ·rw[ht.out,←hv.out _ hn.out.2,←u8s_set];exact (h6.other _ _ (Ne.symm HG.out.2.2)).set k _
   case measure=>simp[intOf];omega
  ·obtain rfl:k=64:=by omega
   have L54:=mL_len key 54 64;have L92:=mL_len key 92 64
   have hw:∀x:GW wr,(convert 177 9 (.slice (some ⟨g5,0,none⟩) 64 64)).run Tryz.prog (gw x)=.ok (.string (xorV key 54)) (gw x):=fun x=>by
    have h:=row_str (c:=64) (h5.after (gw_below x)).row;rw[L54,ho.out.1]at h;exact h
   have hx:∀x:GW wr,(convert 177 9 (.slice (some ⟨g6,0,none⟩) 64 64)).run Tryz.prog (gw x)=.ok (.string (xorV key 92)) (gw x):=fun x=>by
    have h:=row_str (c:=64) (h6.after (gw_below x)).row;rw[L92,ho.out.2]at h;exact h
   clear h5 h6 L54 L92;generalize xorV key 92=a at ha HM hx ⊢;generalize xorV key 54=b at hb HM hw ⊢;have HS:Hid (∀(x:ByteArray) (w:World),x.size≤1000→Calls Tryz.prog 348 #[.string x] w fun e w'=>e=.returned (.string (sumV x))∧Bw w w'):=fun x w h=>psum_v x w h
   have hc:=sumV_size (b++s);generalize sumV=sm at hc HM HS ⊢;have h1:¬ 9223372036854775807<b.size+s.size:=by omega
   have hy:(b++s).size≤1000:=by rw[ByteArray.size_append];omega
   have h2:¬ 9223372036854775807<a.size+(sm (b++s)).size:=by omega
   have hA:(a++sm (b++s)).size≤1000:=by rw[ByteArray.size_append];omega
   go_wp2_with fail
   refine wp_region_gw (by kernel_rfl) (by kernel_rfl) ?_;repeat (go_big_quiet_step (first | (go_at_call 348;exact gw_of (HS.out _ _ hy)) | (go_at_call 348;exact gw_of (HS.out _ _ hA))))
   refine wpQuiet_nil ?_;rintro w9 ⟨xw9,rfl⟩;have hb9:=gw_below xw9;generalize gw xw9=w9 at hb9;go_wp2;go_ret
   exact⟨by rw[HM.out];try rfl,bt hp hb9⟩
theorem pmac_v (key s:ByteArray) (w:World) (hk:key.size≤1000) (hs:s.size≤900) :
  Calls Tryz.prog 339 #[.string key,.string s] w fun e w'=>e=.returned (.string (macV key s))∧Bw w w':=by
 by_cases ho:64<key.size
 rotate_left
 ·rw[macV,if_neg ho];exact pmac1_v key s w (by omega) hs
 have hd:decide ((64:Int)<(key.size:Int))=true:=Dt (by omega);have HM:Hid (macV key s=sumV (xorV (sumV key) 92++sumV (xorV (sumV key) 54++s))):=by rw[Hid,macV,if_pos ho];rfl
 have hg:(sumV key).size≤64:=by rw[sumV_size];omega
 go_enter Tryz.func339,Tryz.ntmps339
 go_wp2_with fail
 refine (psum_v _ _ hk).mono ?_;rintro e w1 ⟨rfl,hr⟩;generalize sumV key=key' at hg HM ⊢;clear hd;have ha:=xorV_size key' 92;have hb:=xorV_size key' 54;have ht:(0:Int)≤64:=by omega
 obtain⟨Z,hZ⟩:∃Z:Array Value,Z=#[.int .u8 0,.int .u8 0,.int .u8 0,.int .u8 0,.int .u8 0,.int .u8 0,.int .u8 0,.int .u8 0,.int .u8 0,.int .u8 0,.int .u8 0,.int .u8 0,.int .u8 0,.int .u8 0,.int .u8 0,.int .u8 0,.int .u8 0,.int .u8 0,.int .u8 0,.int .u8 0,.int .u8 0,.int .u8 0,.int .u8 0,.int .u8 0,.int .u8 0,.int .u8 0,.int .u8 0,.int .u8 0,.int .u8 0,.int .u8 0,.int .u8 0,.int .u8 0,.int .u8 0,.int .u8 0,.int .u8 0,.int .u8 0,.int .u8 0,.int .u8 0,.int .u8 0,.int .u8 0,.int .u8 0,.int .u8 0,.int .u8 0,.int .u8 0,.int .u8 0,.int .u8 0,.int .u8 0,.int .u8 0,.int .u8 0,.int .u8 0,.int .u8 0,.int .u8 0,.int .u8 0,.int .u8 0,.int .u8 0,.int .u8 0,.int .u8 0,.int .u8 0,.int .u8 0,.int .u8 0,.int .u8 0,.int .u8 0,.int .u8 0,.int .u8 0]:=⟨_,rfl⟩;go_upto_region 4 with fail
 rw[←hZ];have hz:Z.toList=List.replicate 64 (Value.int .u8 0):=by rw[hZ];exact zb64
 clear hZ;have h5:=(Blk.new w1 Z 349).alloc (.cells Z 349);have h6:=Blk.new (w1.alloc (.cells Z 349)) Z 349;rw[World.size_alloc]at h6;have he:=ba (b1' w1 (.cells Z 349)) (.cells Z 349);obtain⟨g5,hj⟩:∃g,g=w1.heap.size:=⟨_,rfl⟩;obtain⟨g6,hl⟩:∃g,g=w1.heap.size+1:=⟨_,rfl⟩;have HG:Hid (w1.heap.size≤g5∧w1.heap.size≤g6∧g5≠g6):=⟨by omega,by omega,by omega⟩;rw[←hl]at h6;rw[←hj]at h5;try rw[World.size_alloc]
 rw[←hl,←hj];clear hj hl;generalize (w1.alloc (.cells Z 349)).alloc (.cells Z 349)=wa at h5 h6 he ⊢;have hh:=Lib.run_copy_row_string (P:=Tryz.prog) wa 177 9 3 5 g5 0 64 64 key' Z 349 Tryz.underlying177 (by kernel_rfl) h5 hg (by rw[←Array.length_toList,hz,List.length_replicate];omega);rw[mL_copy key' 54 hg Z.toList hz]at hh;have hm:Blk (wa.setRow g5 (u8s (mL key' 54 0)).toArray) g5 349 (u8s (mL key' 54 0)):=setRow_blk (cs:=(u8s (mL key' 54 0)).toArray) h5
 have hi:Blk (wa.setRow g5 (u8s (mL key' 54 0)).toArray) g6 349 Z.toList:=by
  show ((_:World).setRow _ _).heap[_]?=_;rw[setRow_other _ _ _ _ (Ne.symm HG.out.2.2)];exact h6
 have hf:=setRow_below (cs:=(u8s (mL key' 54 0)).toArray) he HG.out.1;clear h5 h6 he;go_upto_region 5 with fail
 clear hh;generalize wa.setRow g5 (u8s (mL key' 54 0)).toArray=wb at hm hi hf ⊢;have hh:=Lib.run_copy_row_string (P:=Tryz.prog) wb 177 9 3 5 g6 0 64 64 key' Z 349 Tryz.underlying177 (by kernel_rfl) hi hg (by rw[←Array.length_toList,hz,List.length_replicate];omega);rw[mL_copy key' 92 hg Z.toList hz]at hh;have h6:Blk (wb.setRow g6 (u8s (mL key' 92 0)).toArray) g6 349 (u8s (mL key' 92 0)):=setRow_blk (cs:=(u8s (mL key' 92 0)).toArray) hi
 have h5:Blk (wb.setRow g6 (u8s (mL key' 92 0)).toArray) g5 349 (u8s (mL key' 54 0)):=by
  show ((_:World).setRow _ _).heap[_]?=_;rw[setRow_other _ _ _ _ HG.out.2.2];exact hm
 have he:=setRow_below (cs:=(u8s (mL key' 92 0)).toArray) hf HG.out.2.1;clear hm hi hf hz;go_upto_region 6 with fail
 clear hh;generalize wb.setRow g6 (u8s (mL key' 92 0)).toArray=wc at h5 h6 he ⊢;have hu:Hid (∀y:UInt8,Value.int .u8 (bits .xor .u8 (y.toNat:Int) 54)=u8v (y ^^^ 54)):=fun y=>xor_u8v y 54
 have hv:Hid (∀y:UInt8,Value.int .u8 (bits .xor .u8 (y.toNat:Int) 92)=u8v (y ^^^ 92)):=fun y=>xor_u8v y 92
 have hp:Hid ((⟨(mL key' 54 64).toArray⟩:ByteArray)=xorV key' 54∧(⟨(mL key' 92 64).toArray⟩:ByteArray)=xorV key' 92):=⟨mL_end _ _,mL_end _ _⟩;go_wp2;go_loopw [19] (fun i wr=>∃k:Nat,k≤64∧i=.int .i64 k∧Blk wr g5 349 (u8s (mL key' 54 k))∧Blk wr g6 349 (u8s (mL key' 92 k))∧Bw w1 wr) (fun i _=>64-(intOf i).toNat)
 case atStart=>exact⟨0,by omega,rfl,h5,h6,he⟩
 case round =>
  clear h5 h6 he;obtain⟨k,hk,rfl,h5,h6,hq⟩:=hrel;by_cases hlt:k<64
  ·have c5:wr.cell? ⟨g5,k,none⟩=some (u8v (key'.data.getD k 0)):=by rw[h5.cell,u8s,List.getElem?_map,mL_get _ _ hlt,if_neg (by omega)];rfl
   have c6:wr.cell? ⟨g6,k,none⟩=some (u8v (key'.data.getD k 0)):=by rw[h6.cell,u8s,List.getElem?_map,mL_get _ _ hlt,if_neg (by omega)];rfl
   have hw:Hid (∀y,y=xb key' 54 k→(mL key' 54 k).set k y=mL key' 54 (k+1)):=fun y e=>by rw[e];exact mL_set key' 54 hlt
   have hx:Hid (∀y,y=xb key' 92 k→(mL key' 92 k).set k y=mL key' 92 (k+1)):=fun y e=>by rw[e];exact mL_set key' 92 hlt
   have hn:Hid (key'.data.getD k 0 ^^^ 54=xb key' 54 k∧key'.data.getD k 0 ^^^ 92=xb key' 92 k):=⟨rfl,rfl⟩;generalize key'.data.getD k 0=y at c5 c6 hn;unfold u8v at c5 c6;have hD:g5≠g6:=HG.out.2.2;have f5:=h5.free k;have f6:=h6.free k;have l5:=h5.lt;have l6:=h6.lt;have k1:(0:Int)≤(k:Int):=by omega
   have k2:(k:Int)<64:=by omega
   go_wp2;go_roundw
   case rel =>
    refine⟨k+1,by omega,by go_num,?_,?_,(hq.setCell HG.out.1 _).setCell HG.out.2.1 _⟩
    ·rw[hu.out,←hw.out _ hn.out.1,←u8s_set];exact (h5.set k _).other _ _ HG.out.2.2
    ·rw[hv.out,←hx.out _ hn.out.2,←u8s_set];exact (h6.other _ _ (Ne.symm HG.out.2.2)).set k _
   case measure=>simp[intOf];omega
  ·obtain rfl:k=64:=by omega
   have L54:=mL_len key' 54 64;have L92:=mL_len key' 92 64
   have hy:∀x:GW wr,(convert 177 9 (.slice (some ⟨g5,0,none⟩) 64 64)).run Tryz.prog (gw x)=.ok (.string (xorV key' 54)) (gw x):=fun x=>by
    have h:=row_str (c:=64) (h5.after (gw_below x)).row;rw[L54,hp.out.1]at h;exact h
   have hA:∀x:GW wr,(convert 177 9 (.slice (some ⟨g6,0,none⟩) 64 64)).run Tryz.prog (gw x)=.ok (.string (xorV key' 92)) (gw x):=fun x=>by
    have h:=row_str (c:=64) (h6.after (gw_below x)).row;rw[L92,hp.out.2]at h;exact h
   clear h5 h6 L54 L92;generalize xorV key' 92=a at ha HM hA ⊢;generalize xorV key' 54=b at hb HM hy ⊢;have HS:Hid (∀(x:ByteArray) (w:World),x.size≤1000→Calls Tryz.prog 348 #[.string x] w fun e w'=>e=.returned (.string (sumV x))∧Bw w w'):=fun x w h=>psum_v x w h
   have hc:=sumV_size (b++s);generalize sumV=sm at hc HM HS ⊢;have h1:¬ 9223372036854775807<b.size+s.size:=by omega
   have hB:(b++s).size≤1000:=by rw[ByteArray.size_append];omega
   have h2:¬ 9223372036854775807<a.size+(sm (b++s)).size:=by omega
   have hC:(a++sm (b++s)).size≤1000:=by rw[ByteArray.size_append];omega
   go_wp2_with fail
   refine wp_region_gw (by kernel_rfl) (by kernel_rfl) ?_;repeat (go_big_quiet_step (first | (go_at_call 348;exact gw_of (HS.out _ _ hB)) | (go_at_call 348;exact gw_of (HS.out _ _ hC))))
   refine wpQuiet_nil ?_;rintro w9 ⟨xw9,rfl⟩;have hb9:=gw_below xw9;generalize gw xw9=w9 at hb9;go_wp2;go_ret
   exact⟨by rw[HM.out];try rfl,bt hr (bt hq hb9)⟩
end
end Go.Proofs.YtihjpddbjhcbmaaGreatDoor
