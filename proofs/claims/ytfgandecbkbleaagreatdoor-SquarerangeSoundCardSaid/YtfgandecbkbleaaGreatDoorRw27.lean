/- dominoref27.Witness. -/
import Derived.Test.YtfgandecbkbleaaGreatDoorWt27
import Derived.Test.YtfgandecbkbleaaGreatDoorSat1
set_option linter.unusedVariables false
set_option linter.unusedSimpArgs false
set_option maxRecDepth 100000
set_option maxHeartbeats 16000000
namespace Go.Proofs.YtfgandecbkbleaaGreatDoor
open Go.RowKit Go.Shelf
def op2 (o:Opn):Bool:=ivB o.vn o.va&&ivB o.rn o.ra
theorem oL_all (P:List Opn):(oL P).all iv2=P.all op2:=by
 induction P with
 | nil=>rfl
 | cons x t ih =>
  rw [List.all_cons,←ih];unfold oL;rw [List.flatMap_cons,List.all_append];simp [iv2,op2]
theorem oZ_snoc (P:List Opn) (k:Nat) (h:k<P.length):oZ (P.take (k+1))=oZ (P.take k)++[intb P[k].vn P[k].va,intb P[k].rn P[k].ra]:=by
 unfold oZ;rw [take_snoc P k h,List.flatMap_append];simp
theorem rwit_c (a b c d:ByteArray) (lo:Int) (vn:Bool) (va:ByteArray) (rn:Bool) (ra:ByteArray) (P:List Opn) (v:Value) (w:World)
  (ha:a.size≤8) (hb:b.size≤100) (hc:c.size≤100) (hd:d.size≤100) (hva:va.size≤12) (hra:ra.size≤12) (hP:P.length≤6) (hPs:∀o∈P,o.va.size≤12∧o.ra.size≤12) (hO:OsAt w v P) :
  Calls Tryz.prog 12 #[.agg #[.string a,.string b,.string c,.string d],.int .i64 lo,.agg #[.bool vn,.string va,.bool rn,.string ra],v] w (WtPost w (witR a b c d vn va rn ra P)):=by
 obtain ⟨i1,hi1,hz10,hz11,hz12⟩:=info_parts info_Int;have HI1:=Lib.hid hi1;have HA1:=Lib.hid hz10;have HB1:=Lib.hid hz11;have HC1:=Lib.hid hz12;clear hi1 hz10 hz11 hz12;obtain ⟨m,hm⟩:∃m,chkV ((vn,va) :: (rn,ra) :: oL P) [] a b c d=m:=⟨_,rfl⟩;obtain ⟨R,hR⟩:∃R,R=witR a b c d vn va rn ra P:=⟨_,rfl⟩;rw [←hR];have HRB:Hid (m≠0→R=(m,[])):=fun h=>by rw [hR,witR,hm,if_pos h]
 have HRM:Hid (m=0→P.length≠4→R=(6,[])):=fun h h2=>by rw [hR,witR,hm,if_neg (by omega),if_pos h2]
 have HRG:Hid (m=0→P.length=4→R=(0,oZ P++[restL (intb rn ra) P])):=fun h h2=>by rw [hR,witR,hm,if_neg (by omega),if_neg (by omega)]
 have hme:m=if (ivB vn va&&ivB rn ra)=true∧P.all op2=true then kyV a b c d else 3:=by
  rw [←hm,chkV]
  have:((vn,va) :: (rn,ra) :: oL P).all iv2=((ivB vn va&&ivB rn ra)&&P.all op2):=by
   rw [List.all_cons,List.all_cons,oL_all,←Bool.and_assoc];rfl
  rw [this];generalize (ivB vn va&&ivB rn ra)=x;generalize P.all op2=y;cases x <;> cases y <;> simp
 have HB1':Hid (vl4 a b c d=false→m=3):=fun h=>by
  rw [hme];split
  ·unfold kyV pedV;rw [h];rfl
  ·rfl
 have HB2:Hid ((ivB vn va&&ivB rn ra)=false→m=3):=fun h=>by rw [hme,if_neg (by rw [h];simp)]
 have HB3:Hid (P.all op2=false→m=3):=fun h=>by rw [hme,if_neg (by rw [h];simp)]
 have HB4:Hid ((ivB vn va&&ivB rn ra)=true→P.all op2=true→m=kyV a b c d):=fun h h2=>by rw [hme,if_pos ⟨h,h2⟩]
 obtain ⟨vb,hvb⟩:∃q,q=vl4 a b c d:=⟨_,rfl⟩;obtain ⟨ob,hob⟩:∃q,q=(ivB vn va&&ivB rn ra):=⟨_,rfl⟩
 have HF:Hid (∀w,Calls Tryz.prog 43 #[.agg #[.string a,.string b,.string c,.string d]] w fun e w'=>e=.returned (.bool vb)∧Below w.heap.size w w'):=fun w=>by
  rw [hvb];exact r27form_c a b c d w (by omega) (by omega) (by omega) (by omega)
 have HO:Hid (∀w,Calls Tryz.prog 44 #[.agg #[.bool vn,.string va,.bool rn,.string ra]] w fun e w'=>e=.returned (.bool ob)∧Below w.heap.size w w'):=fun w=>by
  rw [hob];exact r27openingB_c vn rn va ra w (by omega) (by omega)
 have HOP:Hid (∀o:Opn,o.va.size≤12→o.ra.size≤12→∀w,Calls Tryz.prog 44 #[.agg #[.bool o.vn,.string o.va,.bool o.rn,.string o.ra]] w fun e w'=>e=.returned (.bool (op2 o))∧Below w.heap.size w w'):=fun o h1 h2 w =>
  r27openingB_c o.vn o.rn o.va o.ra w (by omega) (by omega)
 have HKY:Hid (∀w,Calls Tryz.prog 45 #[.agg #[.string a,.string b,.string c,.string d]] w fun e w'=>e=.returned (.int .i64 (kyV a b c d:Nat))∧Below w.heap.size w w'):=fun w=>r27key_c a b c d _ w ha hb hc hd rfl
 rw [←hvb] at HB1';rw [←hob] at HB2 HB4;have HPS:=Lib.hid hPs;have HRA:Hid ((intb rn ra).natAbs<256^12):=by rw [Hid,intb_abs];exact numb_lt hra
 have HOB:=Lib.hid hob;clear ha hb hc hd hva hra hR hPs hm hme hvb hob;obtain ⟨po,pc,rfl⟩:=RAt.form hO;obtain ⟨n,hn⟩:∃n,n=P.length:=⟨_,rfl⟩;have HN:=Lib.hid hn;rw [←hn] at hO hP ⊢;clear hn;have hB:=blk2a w #[Value.string a,Value.string b,Value.string c,Value.string d] #[.bool vn,.string va,.bool rn,.string ra] 26 30;have hI:=blk2b w #[Value.string a,Value.string b,Value.string c,Value.string d] #[.bool vn,.string va,.bool rn,.string ra] 26 30;have hBW:=b2 w (.cells #[Value.string a,Value.string b,Value.string c,Value.string d] 26) (.cells #[.bool vn,.string va,.bool rn,.string ra] 30);obtain ⟨hBc0,hBf0,hBc1,hBf1,hBc2,hBf2,hBc3,hBf3⟩:=hB.x4;obtain ⟨hIc0,hIf0,hIc1,hIf1,hIc2,hIf2,hIc3,hIf3⟩:=hI.x4;go_enter Tryz.func12,Tryz.ntmps12
 go_wp2_with fail
 refine (HF.out _).mono ?_;rintro e w1 ⟨rfl,hb1⟩;clear hBc0 hBf0 hBc1 hBf1 hBc2 hBf2 hBc3 hBf3;clear hIc0 hIf0 hIc1 hIf1 hIc2 hIf2 hIc3 hIf3;replace hB:=hB.after hb1;replace hI:=hI.after hb1;replace hBW:=bt hBW hb1;clear hb1;cases vb
 ·have HM3:=Lib.hid (HB1'.out rfl);have HR2:=Lib.hid (HRB.out (by rw [HM3.out];decide));clear hB hI;go_wp2;go_ret2
  rw [HR2.out,HM3.out];exact ⟨_,rfl,zs_nil _,hBW⟩
 clear HB1';obtain ⟨hBc0,hBf0,hBc1,hBf1,hBc2,hBf2,hBc3,hBf3⟩:=hB.x4;obtain ⟨hIc0,hIf0,hIc1,hIf1,hIc2,hIf2,hIc3,hIf3⟩:=hI.x4;go_wp2_with fail
 refine (HO.out _).mono ?_;rintro e w2 ⟨rfl,hb2⟩;clear hBc0 hBf0 hBc1 hBf1 hBc2 hBf2 hBc3 hBf3;clear hIc0 hIf0 hIc1 hIf1 hIc2 hIf2 hIc3 hIf3;replace hB:=hB.after hb2;replace hI:=hI.after hb2;replace hBW:=bt hBW hb2;clear hb2;cases ob
 ·have HM3:=Lib.hid (HB2.out rfl);have HR2:=Lib.hid (HRB.out (by rw [HM3.out];decide));clear hB hI;go_wp2;go_ret2
  rw [HR2.out,HM3.out];exact ⟨_,rfl,zs_nil _,hBW⟩
 clear HB2;have HB4':=Lib.hid (HB4.out rfl);clear HB4;obtain ⟨gI,hgI⟩:∃g,w.heap.size+1=g:=⟨_,rfl⟩;rw [hgI] at hI;replace hB:Blk w2 w.heap.size 26 [Value.string a,Value.string b,Value.string c,Value.string d]:=hB;replace hI:Blk w2 gI 30 [.bool vn,.string va,.bool rn,.string ra]:=hI;have HGI:=Lib.hid hgI;go_wp2;clear hgI;go_loopw [10] (fun i wr=>∃k:Nat,k≤n∧i=.int .i64 k∧Hid ((P.take k).all op2=true)∧Below w2.heap.size w2 wr) (fun i _=>n-(intOf i).toNat)
 case atStart=>exact ⟨0,by omega,rfl,rfl,Below.refl _ _⟩
 case round =>
  obtain ⟨k,hk,rfl,HJ,hbr⟩:=hrel;obtain ⟨wp,hwp⟩:∃wp,wp=wr:=⟨_,rfl⟩;subst hwp;have hO1:=OsAt.after hO (bt hBW hbr);by_cases hlt:k<n
  ·have hkl:k<P.length:=by rw [←HN.out];exact hlt
   obtain ⟨bo,oo,rfl,hbo,x1,x2,x3,x4⟩:=OsAt.at_ hO1 hkl;have HT:=Lib.hid (all_take op2 P k hkl);have HBD:Hid (op2 P[k]=false→m=3):=fun h=>HB3.out (all_bad op2 P k hkl h)
   have HSZ:=Lib.hid (HPS.out _ (List.getElem_mem hkl));have HIV:=Lib.hid (HOP.out P[k] HSZ.out.1 HSZ.out.2);generalize op2 (P[k]'hkl)=q at HT HBD HIV;generalize (P[k]'hkl)=o at x1 x2 x3 x4 HIV;clear HSZ;obtain ⟨o1,o2,o3,o4⟩:=o;simp only [] at x1 x2 x3 x4 HIV;have h0k:(0:Int)≤(k:Int):=by omega
   have h1k:(k:Int)<(n:Int):=by omega
   go_wp2_with fail
   refine (HIV.out _).mono ?_;rintro e w3 ⟨rfl,hb3⟩;have hbn:=bt hbr hb3;cases q
   ·have HM3:=Lib.hid (HBD.out rfl);have HR2:=Lib.hid (HRB.out (by rw [HM3.out];decide));go_wp2;go_ret2
    rw [HR2.out,HM3.out];exact ⟨_,rfl,zs_nil _,bt hBW hbn⟩
   ·have HX:Hid ((P.take (k+1)).all op2=true):=by rw [Hid,HT.out,HJ.out];rfl
    go_wp2;go_roundw
    case rel=>exact ⟨k+1,by omega,by go_num,HX,hbn⟩
    case measure=>simp [intOf];omega
  ·obtain rfl:n=k:=by omega
   have HAL:Hid (P.all op2=true):=by
    have:=HJ.out;rwa [List.take_of_length_le (by rw [←HN.out];omega)] at this
   have HMK:=Lib.hid (HB4'.out HAL.out);clear HB3 HB4' HJ hO1 HOP HF HO;have hB2:=hB.after hbr;have hI2:=hI.after hbr;replace hBW:=bt hBW hbr;clear hbr hB hI;rw [←HMK.out] at HKY;obtain ⟨hB2c0,hB2f0,hB2c1,hB2f1,hB2c2,hB2f2,hB2c3,hB2f3⟩:=hB2.x4;go_wp2_with fail
   refine (HKY.out _).mono ?_;rintro e w4 ⟨rfl,hb4⟩;clear hB2c0 hB2f0 hB2c1 hB2f1 hB2c2 hB2f2 hB2c3 hB2f3;have hI4:=hI2.after hb4;replace hBW:=bt hBW hb4;clear hb4 hB2 hI2;by_cases hm0:m=0
   ·subst hm0;clear HRB HMK HKY;by_cases hn4:n=4
    ·subst hn4;have HR2:=Lib.hid (HRG.out rfl HN.out.symm);clear HRM HRG;have HOV:ivB vn va=true∧ivB rn ra=true:=by have:=HOB.out;rw [←Bool.and_eq_true];exact this.symm
     obtain ⟨z,hz,rfl,rfl⟩:=of_ivB HOV.2;rw [intb_I] at HR2 HRA;have HPA:Hid ((oL P).all iv2=true):=by rw [Hid,oL_all];exact HAL.out
     clear HOV hz HOB HAL;have hS:=Blk.new w4 #[.bool (sg z),.string (E z.natAbs)] 28;have hbS:=b1 w4 (.cells #[.bool (sg z),.string (E z.natAbs)] 28);have hBW3:=bt hBW hbS;have hIl:=hI4.lt;have HGS0:w.heap.size≤w4.heap.size:=hBW.size;have HOW0:(w4.alloc (.cells #[.bool (sg z),.string (E z.natAbs)] 28)).ownsRow (w4.alloc (.cells #[.bool (sg z),.string (E z.natAbs)] 28)).heap.size 28 2 (.slice none 0 0) 0 []:=World.ownsRow_nil _ _ _ _;obtain ⟨hI4c0,hI4f0,hI4c1,hI4f1,hI4c2,hI4f2,hI4c3,hI4f3⟩:=hI4.x4;go_wp2;clear hI4c0 hI4f0 hI4c1 hI4f1 hI4c2 hI4f2 hI4c3 hI4f3;generalize w4.alloc (.cells #[.bool (sg z),.string (E z.natAbs)] 28)=w3 at hS hBW3 hbS HOW0 ⊢;obtain ⟨gS,hgS⟩:∃g,w4.heap.size=g:=⟨_,rfl⟩;rw [hgS] at hS HGS0 ⊢;replace hS:Blk w3 gS 28 [.bool (sg (restL z (P.take 0))),.string (E (restL z (P.take 0)).natAbs)]:=hS;have HGS:=Lib.hid HGS0;have HGL:=Lib.hid hS.lt;have HW3:Hid (w.heap.size≤w3.heap.size):=hBW3.size;clear hgS hI4 hBW hbS hIl HGS0;go_loopw [12,14] (fun v12 i wr=>∃k:Nat,k≤4∧i=.int .i64 k∧wr.ownsRow w3.heap.size 28 2 v12 (2*k) (ics ((oZ (P.take k)).map zI))∧Blk wr gS 28 [.bool (sg (restL z (P.take k))),.string (E (restL z (P.take k)).natAbs)]∧w3.heap.size≤wr.heap.size∧Below w.heap.size w wr) (fun _ i _=>4-(intOf i).toNat)
     case atStart=>exact ⟨0,by omega,rfl,HOW0,hS,Nat.le_refl _,hBW3⟩
     case round =>
      clear hS hBW3 HOW0;obtain ⟨k,hk,rfl,hR,hS,hsz3,hBW⟩:=hrel;obtain ⟨wp,hwp⟩:∃wp,wp=wr:=⟨_,rfl⟩;subst hwp;have hO1:=OsAt.after hO hBW
      have HRB:Hid ((restL z (P.take k)).natAbs≤256^12+k*256^24):=by
       have:=restL_lt z (P.take k) HRA.out (fun o ho=>HPS.out o (List.mem_of_mem_take ho));rwa [List.length_take,show min k P.length=k by rw [←HN.out];omega] at this
      by_cases hlt:k<4
      ·have hkl:k<P.length:=by rw [←HN.out];exact hlt
       obtain ⟨bo,oo,rfl,hbw,x1,x2,x3,x4⟩:=OsAt.at_ hO hkl;replace x1:=(hBW.cell (p:=⟨bo,oo+k*4,none⟩) hbw).trans x1;replace x2:=(hBW.cell (p:=⟨bo,oo+k*4+1,none⟩) hbw).trans x2;replace x3:=(hBW.cell (p:=⟨bo,oo+k*4+2,none⟩) hbw).trans x3;replace x4:=(hBW.cell (p:=⟨bo,oo+k*4+3,none⟩) hbw).trans x4;have hbo:=Nat.lt_of_lt_of_le hbw hBW.size;have HBG:Hid (bo≠gS):=by have:=HGS.out;rw [Hid];omega
       have HV:=Lib.hid (oL_at P HPA.out k hkl);have HSZ:=Lib.hid (HPS.out _ (List.getElem_mem hkl));have HST:=Lib.hid (restL_snoc z P k hkl);have HOZ:=Lib.hid (oZ_snoc P k hkl);generalize (P[k]'hkl)=o at x1 x2 x3 x4 HV HSZ HST HOZ;obtain ⟨o1,o2,o3,o4⟩:=o;simp only [] at x1 x2 x3 x4 HV HSZ HST HOZ;obtain ⟨x,hx,rfl,rfl⟩:=of_ivB HV.out.1;obtain ⟨y,hy,rfl,rfl⟩:=of_ivB HV.out.2;rw [intb_I,intb_I] at HST HOZ;have HXB:=Lib.hid (lt_of_size HSZ.out.1);have HYB:=Lib.hid (lt_of_size HSZ.out.2);clear HV HSZ hx hy
       have HPB:Hid ((x*y).natAbs<256^24):=by
        rw [Hid,Int.natAbs_mul];have:=Nat.mul_lt_mul'' HXB.out HYB.out;rwa [←Nat.pow_add] at this
       have HMU:Hid (∀w:World,Calls Tryz.prog 31 #[.agg #[.bool (sg (x)),.string (E (x).natAbs)],.agg #[.bool (sg (y)),.string (E (y).natAbs)]] w fun e w'=>e=.returned (.tuple #[.agg #[.bool (sg (x*y)),.string (E (x*y).natAbs)],.int .i64 0])∧Below w.heap.size w w'):=fun w =>
        rimul_c x y w (Nat.lt_of_lt_of_le HXB.out (Nat.pow_le_pow_right (by decide) (by decide))) (Nat.lt_of_lt_of_le HYB.out (Nat.pow_le_pow_right (by decide) (by decide))) (by rw [←Int.natAbs_mul];exact Nat.lt_of_lt_of_le HPB.out (Nat.pow_le_pow_right (by decide) (by decide)))
       obtain ⟨pz,hpz⟩:∃p,p=x*y:=⟨_,rfl⟩;rw [←hpz] at HMU HPB HST;clear hpz;generalize restL z (P.take k)=r at hS HRB HST
       have HSU:Hid (∀w:World,Calls Tryz.prog 25 #[.agg #[.bool (sg (r)),.string (E (r).natAbs)],.agg #[.bool (sg (pz)),.string (E (pz).natAbs)]] w fun e w'=>e=.returned (.tuple #[.agg #[.bool (sg (r-pz)),.string (E (r-pz).natAbs)],.int .i64 0])∧Below w.heap.size w w'):=fun w=>by
        have h1:=HRB.out;have h2:=HPB.out;have h3:(256:Nat)^12+4*256^24+256^24<256^128:=by decide
        have h4:k*256^24≤4*256^24:=Nat.mul_le_mul_right _ hk;exact risub_c (x:=r) (y:=pz) (w:=w) (by omega) (by omega) (by omega)
       have h0k:(0:Int)≤(k:Int):=by omega
       have h1k:(k:Int)<4:=by omega
       have hC:CA wp [(⟨bo,oo+k*4,none⟩,.bool (sg x)),(⟨bo,oo+k*4+1,none⟩,.string (E x.natAbs)),(⟨bo,oo+k*4+2,none⟩,.bool (sg y)),(⟨bo,oo+k*4+3,none⟩,.string (E y.natAbs))]:=CA.cons hbo x1 (CA.cons hbo x2 (CA.cons hbo x3 (CA.cons hbo x4 (CA.nil _))));have hneA:=fun x hx=>Nat.ne_of_lt (hC x hx).1
       clear hO1 x1 x2 x3 x4;go_upto_region 18 with fail
       go_cut [15,16] (fun s15 s16 wx=>ZBox wp pz s15 s16 wx)
       case first =>
        go_region_held3 (fun w'=>w'.cell? ⟨bo,oo+k*4,none⟩=some (.bool (sg x))∧w'.cell? ⟨bo,oo+k*4+1,none⟩=some (.string (E x.natAbs))∧w'.cell? ⟨bo,oo+k*4+2,none⟩=some (.bool (sg y))∧w'.cell? ⟨bo,oo+k*4+3,none⟩=some (.string (E y.natAbs))) ((refine CA.k4 ?_;repeat (first | (with_reducible exact hCf) | (with_reducible exact hC) | (with_reducible refine CA.drew ?_) | (with_reducible refine CA.alloc ?_ _) | (refine CA.set ?_ _ _ _ hneA))))
         ((go_at_call 31;refine (HMU.out _).mono ?_;rintro e wf ⟨rfl,hbf⟩;have hCf:CA wf [(⟨bo,oo+k*4,none⟩,.bool (sg x)),(⟨bo,oo+k*4+1,none⟩,.string (E x.natAbs)),(⟨bo,oo+k*4+2,none⟩,.bool (sg y)),(⟨bo,oo+k*4+3,none⟩,.string (E y.natAbs))]:=(by first | exact hC.drew.after hbf | exact (hC.alloc _).drew.after hbf | exact (hC.drew.alloc _).after hbf);(try (have kA:=(Blk.new wp #[.bool false,.string { data:=#[] }] 28).drew.after hbf;have kA0:=kA.cell 0;have kA1:=kA.cell 1;have kA2:=kA.free 0;have kA3:=kA.free 1))))
        all_goals
         go_wp2_with fail
         go_meet
         first
          | exact ⟨_,rfl,rfl,Blk.new _ _ _,hbf.size,ba ((Below.drew (Below.refl _ _)).trans hbf) _⟩
          | exact ⟨_,rfl,rfl,(kA.set 0 _).set 1 _,Nat.le_refl _,((bt ((b1 wp _).drew) hbf).setCell (by simp) _).setCell (by simp) _⟩
       case rest =>
        obtain ⟨gX,rfl,rfl,hX,hgX,hbX⟩:=hcut;obtain ⟨wx,hwx⟩:∃wx,wx=wc:=⟨_,rfl⟩;subst hwx;have hS4:=hS.after hbX;have hR4:=own_after hR hbX;have hBW4:=bt hBW hbX;have hC4:=hC.after hbX;have hXl:=hX.lt;have hSl:=hS4.lt;have hszx:=Nat.le_trans hsz3 hbX.size;clear hS hR hBW hbX hC hneA hsz3;obtain ⟨hXc0,hXf0,hXc1,hXf1⟩:=hX.x2;obtain ⟨hS4c0,hS4f0,hS4c1,hS4f1⟩:=hS4.x2;go_wp2_with fail
        refine (HSU.out _).mono ?_;rintro e w5 ⟨rfl,hb5⟩;clear hXc0 hXf0 hXc1 hXf1;clear hS4c0 hS4f0 hS4c1 hS4f1;have hS5:=hS4.after hb5;have hR5:=own_after hR4 hb5;have hBW5:=bt hBW4 hb5;have hC5:=hC4.after hb5;have hsz5:=Nat.le_trans hszx hb5.size;have hSl5:=hS5.lt;clear hb5 hS4 hR4 hBW4 hC4 hX hXl hSl hszx;obtain ⟨hS5c0,hS5f0,hS5c1,hS5f1⟩:=hS5.x2;go_upto_region 24 with fail
        clear hS5c0 hS5f0 hS5c1 hS5f1;have HNG:u12.ownBlock≠some gS:=fun e=>by have h1:=(own_lt hR5 e).2;have h2:=HGL.out;omega
        have hS6:=(hS5.set 0 (.bool (sg (r-pz)))).set 1 (.string (E (r-pz).natAbs));have hR6:=own_set (i:=1) (u:=.string (E (r-pz).natAbs)) (own_set (i:=0) (u:=.bool (sg (r-pz))) hR5 HNG) HNG
        have hne6:∀q∈[((⟨bo,oo+k*4,none⟩:Addr),Value.bool (sg x)),(⟨bo,oo+k*4+1,none⟩,.string (E x.natAbs)),(⟨bo,oo+k*4+2,none⟩,.bool (sg y)),(⟨bo,oo+k*4+3,none⟩,.string (E y.natAbs))],q.1.block≠gS:=by
         intro q hq;simp only [List.mem_cons,List.not_mem_nil,or_false] at hq;rcases hq with rfl | rfl | rfl | rfl <;> exact HBG.out
        have hC6:=CA.set (CA.set hC5 gS 0 (.bool (sg (r-pz))) hne6) gS 1 (.string (E (r-pz).natAbs)) hne6;have hBW6:=(hBW5.setCell (p:=⟨gS,0,none⟩) HGS.out (.bool (sg (r-pz)))).setCell (p:=⟨gS,1,none⟩) HGS.out (.string (E (r-pz).natAbs));have hsz6:w3.heap.size≤((w5.setCell ⟨gS,0,none⟩ (.bool (sg (r-pz)))).setCell ⟨gS,1,none⟩ (.string (E (r-pz).natAbs))).heap.size:=by simp only [World.size_setCell];exact hsz5
        clear hS5 hR5 hBW5 hC5 hSl5 hsz5 HNG hne6;generalize (w5.setCell ⟨gS,0,none⟩ (.bool (sg (r-pz)))).setCell ⟨gS,1,none⟩ (.string (E (r-pz).natAbs))=ws at hS6 hR6 hC6 hBW6 hsz6 ⊢;replace hS6:Blk ws gS 28 [.bool (sg (r-pz)),.string (E (r-pz).natAbs)]:=hS6;obtain ⟨q1,q2,q3,q4⟩:=hC6.k4;have HSZ6:=Lib.hid hsz6;go_region_law (refine step_append_lies _ (by rfl) (.tmp 77) (.tmp 88) _ (by rfl) w3.heap.size 28 i1 _ 2 24 Tryz.underlying37 HI1.out HA1.out HB1.out HC1.out rfl (by omega) u12 (2*k) (ics ((oZ (P.take k)).map zI)) (by rfl) (World.ownsRow.drew (own_after hR6 (b1 ws (.cells #[.bool (sg x),.string (E x.natAbs),.bool (sg y),.string (E y.natAbs)] 28)))) ⟨ws.heap.size,0,none⟩ 2 2 [.bool (sg x),.string (E x.natAbs),.bool (sg y),.string (E y.natAbs)] (by rfl) rfl (Blk.new ws #[.bool (sg x),.string (E x.natAbs),.bool (sg y),.string (E y.natAbs)] 28).drew.cells (by simp [Value.oneCell']) (by omega) (by simp only [maxLen];omega) (by omega) (by show w3.heap.size≤(ws.alloc (.cells #[.bool (sg x),.string (E x.natAbs),.bool (sg y),.string (E y.natAbs)] 28)).heap.size;rw [World.size_alloc];have:=HSZ6.out;omega) (ws.heap.size+1) (by simp) ?_;intro ga ca wa hown hgrow hat hlt2)
        all_goals
         have hSA:=Blk.grown ((hS6.alloc (.cells #[.bool (sg x),.string (E x.natAbs),.bool (sg y),.string (E y.natAbs)] 28)).drew) hgrow (fun e=>by have h1:=(own_lt hR6 e).2;have h2:=HGL.out;omega);have hbA:=((ba hBW6 (.cells #[.bool (sg x),.string (E x.natAbs),.bool (sg y),.string (E y.natAbs)] 28)).drew).grown hgrow (by show w.heap.size≤(ws.alloc (.cells #[.bool (sg x),.string (E x.natAbs),.bool (sg y),.string (E y.natAbs)] 28)).heap.size;rw [World.size_alloc];have h1:=HSZ6.out;have h2:=HW3.out;omega) (fun q hq=>Nat.le_trans HW3.out (own_lt hR6 hq).2)
         have hszA:w3.heap.size≤wa.heap.size:=by
          have h1:(ws.alloc (.cells #[.bool (sg x),.string (E x.natAbs),.bool (sg y),.string (E y.natAbs)] 28)).heap.size≤wa.heap.size:=hgrow.size;rw [World.size_alloc] at h1;omega
         have hOA:wa.ownsRow w3.heap.size 28 2 (.slice (some ⟨ga,0,none⟩) (2*k+2) ca) (2*(k+1)) (ics ((oZ (P.take (k+1))).map zI)):=by
          rw [HOZ.out,List.map_append,ics_app2];exact hown
         clear hown hgrow hat hlt2 hS6 hR6 hC6 hBW6 hsz6;go_wp2;go_roundw
         case rel=>exact ⟨k+1,by omega,by go_num,hOA,by rw [HST.out];exact hSA,hszA,hbA⟩
         case measure=>simp [intOf];omega
      ·obtain rfl:4=k:=by omega
       have HTK:Hid (P.take 4=P):=List.take_of_length_le (by rw [←HN.out];exact Nat.le_refl _);rw [HTK.out] at hS HRB hR;clear hlt hk hO1 HTK;generalize restL z P=r at hS HRB HR2;have hSl:=hS.lt;have hRJ:=own_after hR (b1 wp (.cells #[.bool (sg r),.string (E r.natAbs)] 28));have hBWJ:=ba hBW (.cells #[.bool (sg r),.string (E r.natAbs)] 28);obtain ⟨hSc0,hSf0,hSc1,hSf1⟩:=hS.x2;go_wp2_with (at_builtin;go_loud (refine wpList_append_lies _ rfl (.tmp 90) (.tmp 92) _ rfl w3.heap.size 28 i1 _ 2 24 Tryz.underlying37 HI1.out HA1.out HB1.out HC1.out rfl (by omega) u12 (2*4) (ics ((oZ P).map zI)) rfl hRJ ⟨wp.heap.size,0,none⟩ 1 1 [.bool (sg r),.string (E r.natAbs)] rfl rfl (Blk.new wp #[.bool (sg r),.string (E r.natAbs)] 28).cells (by simp [Value.oneCell']) (by omega) (by simp only [maxLen];omega) (by omega) (by rw [World.size_alloc];omega) (wp.heap.size+1) (by simp) ?_);intro ga ca wa hown hgrow hat hlt2)
       have hbA:=hBWJ.grown hgrow (by rw [World.size_alloc];have h2:=HW3.out;omega) (fun q hq=>Nat.le_trans HW3.out (own_lt hR hq).2);go_wp2;go_ret2
       rw [HR2.out];refine ⟨_,rfl,?_,hbA⟩;refine is_own ((oZ P++[r]).map zI) (by simp [oZ_len,←HN.out]) (base:=w3.heap.size) (n:=2*4+1) ?_;rw [List.map_append,ics_app2];exact hown
    ·have HR2:=Lib.hid (HRM.out rfl (by rw [←HN.out];exact hn4));have hnz:((n:Int) != 4)=true:=by rw [bne_iff_ne];omega
     go_wp2;go_ret2
     rw [HR2.out];exact ⟨_,rfl,zs_nil _,hBW⟩
   ·have hmb:((m:Int) != 0)=true:=by rw [bne_iff_ne];omega
    have HR2:=Lib.hid (HRB.out hm0);clear hm0;go_wp2;go_ret2
    rw [HR2.out];exact ⟨_,rfl,zs_nil _,hBW⟩
end Go.Proofs.YtfgandecbkbleaaGreatDoor
