/- For every case (rule, statement, two proofs), dominolaw18.ExtractorRelates returns true and its argument reads as it did: in each equation the powers of the bases with the differences multiply to the target raised to the difference of the challenges. No condition. -/
import Derived.Test.YtbcgimgkcdpjcaaGreatExm2
import Derived.Test.YtbcgimgkcdpjcaaGreatArg
set_option linter.unusedVariables false
set_option linter.unusedSimpArgs false
set_option maxRecDepth 100000
section
namespace Go.Proofs.YtbcgimgkcdpjcaaGreat
open Go.RowKit Go.Shelf

/-- products modulo p -/
theorem mmod {a b c d p : Nat} (h1 : a % p = b % p) (h2 : c % p = d % p) : a * c % p = b * d % p := by
 rw [Nat.mul_mod, h1, h2, ← Nat.mul_mod]
theorem pmod {a b p : Nat} (n : Nat) (h : a % p = b % p) : a ^ n % p = b ^ n % p := by
 rw [Nat.pow_mod, h, ← Nat.pow_mod]
/-- a power with an integer exponent -/
def fx (p x : Nat) (z : Int) : Nat := bse p x z ^ z.natAbs
theorem fx_eq (p x : Nat) (z : Int) : fx p x z = x ^ z.toNat * invN x p ^ (-z).toNat := by
 unfold fx bse
 by_cases h : z < 0
 ·rw [if_pos h, show z.toNat = 0 by omega, show (-z).toNat = z.natAbs by omega, Nat.pow_zero, Nat.one_mul]
 ·rw [if_neg h, show (-z).toNat = 0 by omega, show z.toNat = z.natAbs by omega, Nat.pow_zero, Nat.mul_one]
theorem xy_pow {p x y : Nat} (h : x * y % p = 1 % p) (n : Nat) : x ^ n * y ^ n % p = 1 % p := by
 rw [← Nat.mul_pow, Nat.pow_mod, h, ← Nat.pow_mod, Nat.one_pow]
theorem fx_sub {p x : Nat} (hp : 0 < p) (hg : Nat.gcd x p = 1) (m n : Nat) : x ^ m * invN x p ^ n % p = fx p x ((m : Int) - n) % p := by
 have h := invN_spec x p hp hg
 rw [fx_eq]
 generalize invN x p = y at h
 by_cases hl : n ≤ m
 ·rw [show ((m : Int) - n).toNat = m - n by omega, show (-((m : Int) - n)).toNat = 0 by omega, Nat.pow_zero, Nat.mul_one]
  obtain ⟨d, rfl⟩ : ∃ d, m = d + n := ⟨m - n, by omega⟩
  rw [Nat.pow_add, Nat.mul_assoc, Nat.add_sub_cancel]
  have := mmod (p := p) (a := x ^ d) (b := x ^ d) rfl (xy_pow h n)
  rwa [Nat.mul_one] at this
 ·rw [show ((m : Int) - n).toNat = 0 by omega, show (-((m : Int) - n)).toNat = n - m by omega, Nat.pow_zero, Nat.one_mul]
  obtain ⟨d, rfl⟩ : ∃ d, n = m + d := ⟨n - m, by omega⟩
  rw [Nat.pow_add, ← Nat.mul_assoc, Nat.add_sub_cancel_left]
  have := mmod (p := p) (c := y ^ d) (d := y ^ d) (xy_pow h m) rfl
  rwa [Nat.one_mul] at this
theorem fx_add {p x : Nat} (hp : 0 < p) (hg : Nat.gcd x p = 1) (a b : Int) : fx p x a * fx p x b % p = fx p x (a + b) % p := by
 have h := fx_sub hp hg (a.toNat + b.toNat) ((-a).toNat + (-b).toNat)
 rw [show ((a.toNat + b.toNat : Nat) : Int) - (((-a).toNat + (-b).toNat : Nat) : Int) = a + b by omega] at h
 rw [← h, fx_eq, fx_eq, Nat.pow_add, Nat.pow_add]
 congr 1
 simp only [Nat.mul_assoc, Nat.mul_left_comm, Nat.mul_comm]
theorem fx_pos {p x q : Nat} (h : x ^ q % p = 1 % p) (k : Nat) : fx p x ((q : Int) * k) % p = 1 % p := by
 rw [fx_eq, ← Int.natCast_mul, Int.toNat_natCast, show (-((q * k : Nat) : Int)).toNat = 0 by omega, Nat.pow_zero, Nat.mul_one, Nat.pow_mul, Nat.pow_mod, h, ← Nat.pow_mod, Nat.one_pow]
theorem fx_ord {p x q : Nat} (hp : 0 < p) (hg : Nat.gcd x p = 1) (h : x ^ q % p = 1 % p) (k : Int) : fx p x ((q : Int) * k) % p = 1 % p := by
 obtain ⟨n, rfl | rfl⟩ := k.eq_nat_or_neg
 ·exact fx_pos h n
 ·have h1 := fx_add hp hg ((q : Int) * -(n : Int)) ((q : Int) * n)
  rw [← Int.mul_add, Int.add_left_neg, Int.mul_zero] at h1
  have h2 := mmod (p := p) (a := fx p x ((q : Int) * -(n : Int))) rfl (fx_pos h n)
  rw [Nat.mul_one] at h2
  rw [← h2, h1]
  rfl
/-- the product of an equation's terms -/
def ptx (p : Nat) (Z : List Int) (ts : List NTrm) : Nat := pw (prs p (ts.map (·.base)) (ts.map fun t => t.coef * Z.getD t.var 0)) 0
theorem ptx_cons (p : Nat) (Z : List Int) (t : NTrm) (ts : List NTrm) : ptx p Z (t :: ts) = fx p t.base (t.coef * Z.getD t.var 0) * ptx p Z ts := by
 unfold ptx fx
 simp [prs, pw]
theorem ptx_mul {p : Nat} (D Y X : List Int) (ts : List NTrm) (h : ∀ t ∈ ts, fx p t.base (t.coef * D.getD t.var 0) * fx p t.base (t.coef * Y.getD t.var 0) % p = fx p t.base (t.coef * X.getD t.var 0) % p) : ptx p D ts * ptx p Y ts % p = ptx p X ts % p := by
 induction ts with
 | nil => rfl
 | cons t ts ih =>
  rw [ptx_cons, ptx_cons, ptx_cons]
  have h1 := mmod (h t (by simp)) (ih fun u hu => h u (by simp [hu]))
  rw [← h1]
  congr 1
  simp only [Nat.mul_assoc, Nat.mul_left_comm]
theorem mcancel {a b u p : Nat} (hp : 0 < p) (hg : Nat.gcd u p = 1) (h : a * u % p = b * u % p) : a % p = b % p := by
 have hv := invN_spec u p hp hg
 have h1 := mmod (p := p) (c := invN u p) (d := invN u p) h rfl
 have e : ∀ z : Nat, z * u * invN u p % p = z % p := fun z => by
  rw [Nat.mul_assoc]
  have := mmod (p := p) (a := z) (b := z) rfl hv
  rwa [Nat.mul_one] at this
 rwa [e, e] at h1
/-- D is X - Y modulo q -/
theorem sub_mod_k (x y q : Nat) (hq : 0 < q) : ∃ k : Int, ((subM x y q : Nat) : Int) + (y : Int) = (x : Int) + (q : Int) * k := by
 have h1 := Nat.div_add_mod x q
 have h2 := Nat.div_add_mod y q
 have h3 := Nat.div_add_mod (x % q + q - y % q) q
 have h4 := Nat.mod_lt y hq
 unfold subM
 refine ⟨(y / q : Nat) - (x / q : Nat) + 1 - ((x % q + q - y % q) / q : Nat), ?_⟩
 generalize x / q = a at *
 generalize y / q = b at *
 generalize x % q = r at *
 generalize y % q = s at *
 generalize (r + q - s) / q = c at *
 generalize (r + q - s) % q = d at *
 rw [Int.mul_sub, Int.mul_add, Int.mul_sub, Int.mul_one, ← Int.natCast_mul, ← Int.natCast_mul, ← Int.natCast_mul]
 omega

theorem difs_at (N : NSta) (X Y : List Int) (v : Nat) (h : v < N.vars.length) (hx : v < X.length) (hy : v < Y.length) : (N.difs X Y).getD v 0 = difI N.ord N.vars[v] X[v] Y[v] := by
 unfold NSta.difs
 rw [List.getD_eq_getElem?_getD, List.getElem?_map, List.getElem?_range h]
 simp only [Option.map_some, Option.getD_some, List.getD_eq_getElem?_getD, List.getElem?_eq_getElem h, List.getElem?_eq_getElem hx, List.getElem?_eq_getElem hy]

/-- a base of a term whose variable is modulo the order -/
theorem typ_base {N : NSta} (hc : N.chk = 0) (q : NEqn) (hq : q ∈ N.eqs) (hg : q.grp < N.grps.length) (t : NTrm) (ht : t ∈ q.trms) (hv : t.var < N.vars.length) (h0 : N.vars[t.var] = 0) (hb : hasB (N.gp q).1 (N.gp q).2 t.base = true) : t.base ^ N.ord % (N.gp q).1 = 1 % (N.gp q).1 := by
 obtain ⟨_, _, ht2⟩ := chk_inv hc
 have hany : N.vars.any vz = true := by rw [List.any_eq_true]; exact ⟨N.vars[t.var], List.getElem_mem hv, by simp [vz, h0]⟩
 unfold NSta.typ at ht2
 rw [hany] at ht2
 simp only [Bool.not_true, Bool.false_or, Bool.and_eq_true, List.all_eq_true] at ht2
 obtain ⟨⟨h1, h2⟩, h3⟩ := ht2
 have hk := h3 q hq
 have htz : q.trms.any N.tz = true := by
  rw [List.any_eq_true]
  refine ⟨t, ht, ?_⟩
  unfold NSta.tz
  rw [List.getD_eq_getElem?_getD, List.getElem?_eq_getElem hv, Option.getD_some, h0]
  rfl
 unfold kindQ at hk
 rw [htz] at hk
 simp only [Bool.not_true, Bool.or_false, Bool.not_eq_true', vz, beq_eq_false_iff_ne] at hk
 have hgq : gq N.ord (N.gp q) = false := by
  cases e : gq N.ord (N.gp q)
  ·rfl
  ·exfalso
   have : N.grps.any (gq N.ord) = true := by rw [List.any_eq_true]; exact ⟨N.gp q, by rw [gp_at N q hg]; exact List.getElem_mem hg, e⟩
   rw [this] at h2
   simp at h2
 have hor : (N.gp q).2 = N.ord := by
  apply Classical.byContradiction
  intro hn
  unfold gq at hgq
  simp [hk, hn] at hgq
 unfold hasB at hb
 rw [if_neg hk, decide_eq_true_iff, hor] at hb
 exact hb.2.2

/-- in each equation the differences' image is the target raised to the difference of the challenges -/
theorem two_rel {N : NSta} {C K ca cb : Nat} {F : List Nat} {X Y : List Int} (h : Two N C K ca cb F X Y) (j : Nat) (hj : j < N.eqs.length) :
  imgV N (N.difs X Y) N.eqs[j] = powI N.eqs[j].tgt ((ca - cb : Nat) : Int) (N.gp N.eqs[j]).1 := by
 obtain ⟨f1, l1, _, _⟩ := ver_inv h.va
 obtain ⟨_, l2, _, _⟩ := ver_inv h.vb
 have hmo := mod_of_ver h.m h.va h.vb
 have hg := (h.m.e _ (List.getElem_mem hj)).1
 obtain ⟨e1, e2, e3⟩ := chk_elem h.c j hj hg
 have hgp := gp_at N N.eqs[j] hg
 rw [← hgp] at e1 e2 e3
 have hp := grp_gt e1
 have hp0 : 0 < (N.gp N.eqs[j]).1 := by omega
 have hF : j < F.length := by omega
 have v1 : ∀ (c : Nat) (Z : List Int), N.ver C K F c Z = 0 → F[j] * N.eqs[j].tgt ^ c % (N.gp N.eqs[j]).1 = ptx (N.gp N.eqs[j]).1 Z N.eqs[j].trms % (N.gp N.eqs[j]).1 := by
  intro c Z hv
  unfold NSta.ver at hv
  split at hv
  ·omega
  split at hv
  ·omega
  split at hv
  ·omega
  split at hv
  ·omega
  split at hv
  ·omega
  ·rename_i h5
   have h6 := ra_at (by simpa using h5) hj
   rw [imJ_at N F c Z j hj hF hg, decide_eq_true_iff, powI_nat, ← hgp] at h6
   rw [Nat.mul_mod, Nat.mod_mod, ← Nat.mul_mod] at h6
   exact h6
 have hFB : hasB (N.gp N.eqs[j]).1 (N.gp N.eqs[j]).2 F[j] = true := by
  have hv := h.va
  unfold NSta.ver at hv
  split at hv
  ·omega
  split at hv
  ·omega
  split at hv
  ·omega
  split at hv
  ·omega
  ·rename_i h5
   have h6 := ra_at (by simpa using h5) hj
   rw [hsJ_at N F j hj hF hg, ← hgp] at h6
   exact h6
 have hmul := ptx_mul (p := (N.gp N.eqs[j]).1) (N.difs X Y) Y X N.eqs[j].trms (fun t ht => by
  have hv := ((h.m.e _ (List.getElem_mem hj)).2.2.2 t ht).2.1
  have hb := e3 t.base (List.mem_map.2 ⟨t, ht, rfl⟩)
  have hco := has_coprime hp hb
  rw [difs_at N X Y t.var hv (by omega) (by omega), List.getD_eq_getElem?_getD, List.getElem?_eq_getElem (show t.var < Y.length by omega), List.getD_eq_getElem?_getD, List.getElem?_eq_getElem (show t.var < X.length by omega), Option.getD_some, Option.getD_some, fx_add hp0 hco]
  unfold difI
  by_cases h0 : N.vars[t.var] = 0
  ·rw [if_pos h0]
   obtain ⟨o1, o2, o3, o4, o5⟩ := hmo t.var hv (by omega) (by omega) h0
   have hor := typ_base h.c _ (List.getElem_mem hj) hg t ht hv h0 hb
   obtain ⟨k, hk⟩ := sub_mod_k X[t.var].natAbs Y[t.var].natAbs N.ord o1
   have ex : ((X[t.var].natAbs : Nat) : Int) = X[t.var] := by omega
   have ey : ((Y[t.var].natAbs : Nat) : Int) = Y[t.var] := by omega
   rw [ex, ey] at hk
   rw [← Int.mul_add, hk, Int.mul_add, Int.mul_left_comm t.coef]
   rw [← fx_add hp0 hco]
   have := mmod (p := (N.gp N.eqs[j]).1) (a := fx (N.gp N.eqs[j]).1 t.base (t.coef * X[t.var])) rfl (fx_ord hp0 hco hor (t.coef * k))
   rwa [Nat.mul_one] at this
  ·rw [if_neg h0, ← Int.mul_add, Int.sub_add_cancel])
 have w1 := v1 ca X h.va
 have w2 := v1 cb Y h.vb
 have hlt := h.lt
 show ptx (N.gp N.eqs[j]).1 (N.difs X Y) N.eqs[j].trms % (N.gp N.eqs[j]).1 = _
 rw [powI_nat]
 refine mcancel (u := F[j] * N.eqs[j].tgt ^ cb) hp0 ?_ ?_
 ·exact Nat.Coprime.mul_left (has_coprime hp hFB) (Nat.Coprime.pow_left cb (has_coprime hp e2))
 ·have a1 := mmod (p := (N.gp N.eqs[j]).1) (a := ptx (N.gp N.eqs[j]).1 (N.difs X Y) N.eqs[j].trms) rfl w2
  rw [a1, hmul, ← w1]
  congr 1
  rw [Nat.mul_left_comm, ← Nat.pow_add, show ca - cb + cb = ca by omega]
end Go.Proofs.YtbcgimgkcdpjcaaGreat
end

section
namespace Go.Proofs.YtbcgimgkcdpjcaaGreat
open Go.RowKit Go.Shelf

set_option maxHeartbeats 4000000 in
theorem relates_big (C K cha chb : ByteArray) (s1 s2 s3 xa ya xb yb : Option Addr) (m1 m2 m3 d1 d2 d3 na pa ma qa nb pb mb qb : Nat) (w : World)
  (HF : ∀ w', Below w.heap.size w w' → Calls Tryz.prog 8 #[.agg #[.string C, .string K, .slice s1 m1 d1, .slice s2 m2 d2, .slice s3 m3 d3, .slice xa na pa, .string cha, .slice ya ma qa, .slice xb nb pb, .string chb, .slice yb mb qb]] w' fun e w'' => e = .returned (.bool false) ∧ Below w'.heap.size w' w'') :
  Calls Tryz.prog 5 #[.agg #[.string C, .string K, .slice s1 m1 d1, .slice s2 m2 d2, .slice s3 m3 d3, .slice xa na pa, .string cha, .slice ya ma qa, .slice xb nb pb, .string chb, .slice yb mb qb]] w fun e w' => e = .returned (.bool true) ∧ Below w.heap.size w w' := by
 have HFF := Lib.hid HF
 have hP := Blk.new w #[.string C, .string K, .slice s1 m1 d1, .slice s2 m2 d2, .slice s3 m3 d3, .slice xa na pa, .string cha, .slice ya ma qa, .slice xb nb pb, .string chb, .slice yb mb qb] 35
 have hBW := b1 w (.cells #[.string C, .string K, .slice s1 m1 d1, .slice s2 m2 d2, .slice s3 m3 d3, .slice xa na pa, .string cha, .slice ya ma qa, .slice xb nb pb, .string chb, .slice yb mb qb] 35)
 clear HF
 have hPc0 := hP.cell 0
 have hPf0 := hP.free 0
 have hPc1 := hP.cell 1
 have hPf1 := hP.free 1
 have hPc2 := hP.cell 2
 have hPf2 := hP.free 2
 have hPc3 := hP.cell 3
 have hPf3 := hP.free 3
 have hPc4 := hP.cell 4
 have hPf4 := hP.free 4
 have hPc5 := hP.cell 5
 have hPf5 := hP.free 5
 have hPc6 := hP.cell 6
 have hPf6 := hP.free 6
 have hPc7 := hP.cell 7
 have hPf7 := hP.free 7
 have hPc8 := hP.cell 8
 have hPf8 := hP.free 8
 have hPc9 := hP.cell 9
 have hPf9 := hP.free 9
 have hPc10 := hP.cell 10
 have hPf10 := hP.free 10
 go_enter Tryz.func5, Tryz.ntmps5
 go_wp2_with fail
 refine (HFF.out _ hBW).mono ?_
 rintro e w2 ⟨rfl, hb2⟩
 clear hPc0 hPf0 hPc1 hPf1 hPc2 hPf2 hPc3 hPf3 hPc4 hPf4 hPc5 hPf5 hPc6 hPf6 hPc7 hPf7 hPc8 hPf8 hPc9 hPf9 hPc10 hPf10
 go_wp2_with fail
 refine (awake_c _).mono ?_
 rintro e w3 ⟨rfl, hb3⟩
 go_wp2
 go_ret
 exact ⟨rfl, bt (bt hBW hb2) hb3⟩

set_option maxHeartbeats 4000000 in
theorem relates_err (C K cha chb : ByteArray) (k : Nat) (s1 s2 s3 xa ya xb yb : Option Addr) (m1 m2 m3 d1 d2 d3 na pa ma qa nb pb mb qb : Nat) (w : World) (hk : k ≠ 0)
  (HF : ∀ w', Below w.heap.size w w' → Calls Tryz.prog 8 #[.agg #[.string C, .string K, .slice s1 m1 d1, .slice s2 m2 d2, .slice s3 m3 d3, .slice xa na pa, .string cha, .slice ya ma qa, .slice xb nb pb, .string chb, .slice yb mb qb]] w' fun e w'' => e = .returned (.bool true) ∧ Below w'.heap.size w' w'')
  (H1 : ∀ w', Below w.heap.size w w' → Calls Tryz.prog 10 #[.agg #[.string C, .string K], .agg #[.slice s1 m1 d1, .slice s2 m2 d2, .slice s3 m3 d3], .agg #[.slice xa na pa, .string cha, .slice ya ma qa], .agg #[.slice xb nb pb, .string chb, .slice yb mb qb]] w' fun e w'' => e = .returned (.tuple #[.agg #[.bool false, .string { data := #[] }], .slice none 0 0, .int .i64 k]) ∧ Below w'.heap.size w' w'') :
  Calls Tryz.prog 5 #[.agg #[.string C, .string K, .slice s1 m1 d1, .slice s2 m2 d2, .slice s3 m3 d3, .slice xa na pa, .string cha, .slice ya ma qa, .slice xb nb pb, .string chb, .slice yb mb qb]] w fun e w' => e = .returned (.bool true) ∧ Below w.heap.size w w' := by
 have HFF := Lib.hid HF
 have HH1 := Lib.hid H1
 have hkb : ((k : Int) != 0) = true := by rw [bne_iff_ne]; omega
 clear HF H1
 have hP := Blk.new w #[.string C, .string K, .slice s1 m1 d1, .slice s2 m2 d2, .slice s3 m3 d3, .slice xa na pa, .string cha, .slice ya ma qa, .slice xb nb pb, .string chb, .slice yb mb qb] 35
 have hBW := b1 w (.cells #[.string C, .string K, .slice s1 m1 d1, .slice s2 m2 d2, .slice s3 m3 d3, .slice xa na pa, .string cha, .slice ya ma qa, .slice xb nb pb, .string chb, .slice yb mb qb] 35)
 obtain ⟨gp, hgp⟩ : ∃ g, w.heap.size = g := ⟨_, rfl⟩
 have HGP := Lib.hid hgp
 go_enter Tryz.func5, Tryz.ntmps5
 go_wp2_with fail
 refine (HFF.out _ hBW).mono ?_
 rintro e w2 ⟨rfl, hb2⟩
 replace hP := hP.after hb2
 replace hBW := bt hBW hb2
 clear hb2
 replace hP : Blk w2 w.heap.size 35 [.string C, .string K, .slice s1 m1 d1, .slice s2 m2 d2, .slice s3 m3 d3, .slice xa na pa, .string cha, .slice ya ma qa, .slice xb nb pb, .string chb, .slice yb mb qb] := hP
 rw [hgp] at hP
 clear hgp
 have hPc0 := hP.cell 0
 have hPf0 := hP.free 0
 have hPc1 := hP.cell 1
 have hPf1 := hP.free 1
 have hPc2 := hP.cell 2
 have hPf2 := hP.free 2
 have hPc3 := hP.cell 3
 have hPf3 := hP.free 3
 have hPc4 := hP.cell 4
 have hPf4 := hP.free 4
 have hPc5 := hP.cell 5
 have hPf5 := hP.free 5
 have hPc6 := hP.cell 6
 have hPf6 := hP.free 6
 have hPc7 := hP.cell 7
 have hPf7 := hP.free 7
 have hPc8 := hP.cell 8
 have hPf8 := hP.free 8
 have hPc9 := hP.cell 9
 have hPf9 := hP.free 9
 have hPc10 := hP.cell 10
 have hPf10 := hP.free 10
 go_wp2_with fail
 refine (HH1.out _ hBW).mono ?_
 rintro e w3 ⟨rfl, hb3⟩
 clear hPc0 hPf0 hPc1 hPf1 hPc2 hPf2 hPc3 hPf3 hPc4 hPf4 hPc5 hPf5 hPc6 hPf6 hPc7 hPf7 hPc8 hPf8 hPc9 hPf9 hPc10 hPf10
 have hD1 := Blk.new w3 #[.bool false, .string { data := #[] }] 39
 replace hBW := ba (bt hBW hb3) (.cells #[.bool false, .string { data := #[] }] 39)
 clear hb3
 go_wp2_with fail
 refine (awake_c _).mono ?_
 rintro e w5 ⟨rfl, hb5⟩
 replace hD1 := hD1.after hb5
 have hD1c0 := hD1.cell 0
 have hD1f0 := hD1.free 0
 have hD1c1 := hD1.cell 1
 have hD1f1 := hD1.free 1
 go_wp2
 go_ret
 exact ⟨rfl, bt hBW hb5⟩

set_option maxHeartbeats 8000000 in
theorem relates_ok (N : NSta) (c : Nat) (L : List Int) (C K cha chb : ByteArray) (s1 s2 s3 xa ya xb yb : Option Addr) (m1 m2 m3 d1 d2 d3 na pa ma qa nb pb mb qb : Nat) (w : World) (hm : NOk N) (h0 : N.chk = 0) (hc : 0 < c) (hcb : c < 256 ^ 16) (hLn : L.length = N.vars.length) (hLs : ∀ z ∈ L, z.natAbs < 256 ^ 64)
  (hrel : ∀ j (hj : j < N.eqs.length), imgV N L N.eqs[j] = powI N.eqs[j].tgt (c : Int) (N.gp N.eqs[j]).1)
  (hS : NAt w (.slice s1 m1 d1) (.slice s2 m2 d2) (.slice s3 m3 d3) N)
  (HF : ∀ w', Below w.heap.size w w' → Calls Tryz.prog 8 #[.agg #[.string C, .string K, .slice s1 m1 d1, .slice s2 m2 d2, .slice s3 m3 d3, .slice xa na pa, .string cha, .slice ya ma qa, .slice xb nb pb, .string chb, .slice yb mb qb]] w' fun e w'' => e = .returned (.bool true) ∧ Below w'.heap.size w' w'')
  (H1 : ∀ w', Below w.heap.size w w' → Calls Tryz.prog 10 #[.agg #[.string C, .string K], .agg #[.slice s1 m1 d1, .slice s2 m2 d2, .slice s3 m3 d3], .agg #[.slice xa na pa, .string cha, .slice ya ma qa], .agg #[.slice xb nb pb, .string chb, .slice yb mb qb]] w' (DPost w' c L)) :
  Calls Tryz.prog 5 #[.agg #[.string C, .string K, .slice s1 m1 d1, .slice s2 m2 d2, .slice s3 m3 d3, .slice xa na pa, .string cha, .slice ya ma qa, .slice xb nb pb, .string chb, .slice yb mb qb]] w fun e w' => e = .returned (.bool true) ∧ Below w.heap.size w w' := by
 have HFF := Lib.hid HF
 have HH1 := Lib.hid H1
 have HM := Lib.hid hm
 have HC0 := Lib.hid h0
 have HREL := Lib.hid hrel
 have HCB := Lib.hid hcb
 have HLN := Lib.hid hLn
 have HLS := Lib.hid hLs
 have HS0 := Lib.hid hS
 have HN1 : Hid (m1 = N.grps.length) := by have h := RAt.len hS.g; rw [Hid, h]; simp [NSta.s]
 have HN2 : Hid (m2 = N.vars.length) := by have h := RAt.len hS.v; rw [Hid, h]; simp [NSta.s]
 have HN3 : Hid (m3 = N.eqs.length) := by have h := RAt.len hS.e; rw [Hid, h]; simp [NSta.s]
 have l1 : m1 ≤ 9 := by rw [HN1.out]; exact hm.ng
 have l2 : m2 ≤ 6 := by rw [HN2.out]; exact hm.nv
 have l3 : m3 ≤ 6 := by rw [HN3.out]; exact hm.ne
 have hz := nzE hc
 have hz2 := nzE2 hc
 clear HF H1 hm h0 hrel hcb hLn hLs hS hc
 have hP := Blk.new w #[.string C, .string K, .slice s1 m1 d1, .slice s2 m2 d2, .slice s3 m3 d3, .slice xa na pa, .string cha, .slice ya ma qa, .slice xb nb pb, .string chb, .slice yb mb qb] 35
 have hBW := b1 w (.cells #[.string C, .string K, .slice s1 m1 d1, .slice s2 m2 d2, .slice s3 m3 d3, .slice xa na pa, .string cha, .slice ya ma qa, .slice xb nb pb, .string chb, .slice yb mb qb] 35)
 obtain ⟨gp, hgp⟩ : ∃ g, w.heap.size = g := ⟨_, rfl⟩
 have HGP := Lib.hid hgp
 go_enter Tryz.func5, Tryz.ntmps5
 go_wp2_with fail
 refine (HFF.out _ hBW).mono ?_
 rintro e w2 ⟨rfl, hb2⟩
 replace hP := hP.after hb2
 replace hBW := bt hBW hb2
 clear hb2
 replace hP : Blk w2 w.heap.size 35 [.string C, .string K, .slice s1 m1 d1, .slice s2 m2 d2, .slice s3 m3 d3, .slice xa na pa, .string cha, .slice ya ma qa, .slice xb nb pb, .string chb, .slice yb mb qb] := hP
 rw [hgp] at hP
 clear hgp
 have hPc0 := hP.cell 0
 have hPf0 := hP.free 0
 have hPc1 := hP.cell 1
 have hPf1 := hP.free 1
 have hPc2 := hP.cell 2
 have hPf2 := hP.free 2
 have hPc3 := hP.cell 3
 have hPf3 := hP.free 3
 have hPc4 := hP.cell 4
 have hPf4 := hP.free 4
 have hPc5 := hP.cell 5
 have hPf5 := hP.free 5
 have hPc6 := hP.cell 6
 have hPf6 := hP.free 6
 have hPc7 := hP.cell 7
 have hPf7 := hP.free 7
 have hPc8 := hP.cell 8
 have hPf8 := hP.free 8
 have hPc9 := hP.cell 9
 have hPf9 := hP.free 9
 have hPc10 := hP.cell 10
 have hPf10 := hP.free 10
 go_wp2_with fail
 refine (HH1.out _ hBW).mono ?_
 rintro e w3 ⟨lv, rfl, hLO, hb3⟩
 clear hPc0 hPf0 hPc1 hPf1 hPc2 hPf2 hPc3 hPf3 hPc4 hPf4 hPc5 hPf5 hPc6 hPf6 hPc7 hPf7 hPc8 hPf8 hPc9 hPf9 hPc10 hPf10
 have hLz := hLO.zs
 clear hLO
 obtain ⟨a4, c4, rfl⟩ := hLz.form
 have HLL : Hid (L.length = m2) := by rw [Hid, HLN.out, HN2.out]
 rw [HLL.out] at hLz ⊢
 have hD1 := Blk.new w3 #[.bool false, .string (E c)] 39
 replace hP := (hP.after hb3).alloc (.cells #[.bool false, .string (E c)] 39)
 replace hBW := ba (bt hBW hb3) (.cells #[.bool false, .string (E c)] 39)
 replace hLz := ZsAt.after hLz (b1 _ (.cells #[.bool false, .string (E c)] 39))
 clear hb3
 have HIM := Lib.hid (Images_c N L _ _ _ _ _ HM.out (HS0.out.after hBW) hLz HLS.out HLN.out HC0.out)
 have hPc0 := hP.cell 0
 have hPf0 := hP.free 0
 have hPc1 := hP.cell 1
 have hPf1 := hP.free 1
 have hPc2 := hP.cell 2
 have hPf2 := hP.free 2
 have hPc3 := hP.cell 3
 have hPf3 := hP.free 3
 have hPc4 := hP.cell 4
 have hPf4 := hP.free 4
 have hPc5 := hP.cell 5
 have hPf5 := hP.free 5
 have hPc6 := hP.cell 6
 have hPf6 := hP.free 6
 have hPc7 := hP.cell 7
 have hPf7 := hP.free 7
 have hPc8 := hP.cell 8
 have hPf8 := hP.free 8
 have hPc9 := hP.cell 9
 have hPf9 := hP.free 9
 have hPc10 := hP.cell 10
 have hPf10 := hP.free 10
 go_wp2_with fail
 refine HIM.out.mono ?_
 rintro e w4 ⟨iv, rfl, hIO, hb4⟩
 clear hPc0 hPf0 hPc1 hPf1 hPc2 hPf2 hPc3 hPf3 hPc4 hPf4 hPc5 hPf5 hPc6 hPf6 hPc7 hPf7 hPc8 hPf8 hPc9 hPf9 hPc10 hPf10
 have hIs := hIO.ss
 clear hIO HIM
 obtain ⟨a7, c7, rfl⟩ := RAt.form hIs
 have HIL : Hid (((N.imgs L).map E).length = m3) := by rw [Hid, List.length_map, NSta.imgs, List.length_map, HN3.out]
 rw [HIL.out] at hIs ⊢
 replace hP := hP.after hb4
 replace hD1 := hD1.after hb4
 replace hBW := bt hBW hb4
 clear hb4 hLz
 obtain ⟨gd, hgd⟩ : ∃ g, w3.heap.size = g := ⟨_, rfl⟩
 rw [hgd] at hD1 ⊢
 clear hgd
 have HCK := Lib.hid (rCheck_c N _ _ _ w4 HM.out (HS0.out.after hBW))
 rw [HC0.out] at HCK
 replace hD1 : Blk w4 gd 39 [.bool false, .string (E c)] := hD1
 have hPc0 := hP.cell 0
 have hPf0 := hP.free 0
 have hPc1 := hP.cell 1
 have hPf1 := hP.free 1
 have hPc2 := hP.cell 2
 have hPf2 := hP.free 2
 have hPc3 := hP.cell 3
 have hPf3 := hP.free 3
 have hPc4 := hP.cell 4
 have hPf4 := hP.free 4
 have hPc5 := hP.cell 5
 have hPf5 := hP.free 5
 have hPc6 := hP.cell 6
 have hPf6 := hP.free 6
 have hPc7 := hP.cell 7
 have hPf7 := hP.free 7
 have hPc8 := hP.cell 8
 have hPf8 := hP.free 8
 have hPc9 := hP.cell 9
 have hPf9 := hP.free 9
 have hPc10 := hP.cell 10
 have hPf10 := hP.free 10
 have hD1c0 := hD1.cell 0
 have hD1f0 := hD1.free 0
 have hD1c1 := hD1.cell 1
 have hD1f1 := hD1.free 1
 go_wp2_with fail
 refine HCK.out.mono ?_
 rintro e w5 ⟨rfl, hb5⟩
 clear hPc0 hPf0 hPc1 hPf1 hPc2 hPf2 hPc3 hPf3 hPc4 hPf4 hPc5 hPf5 hPc6 hPf6 hPc7 hPf7 hPc8 hPf8 hPc9 hPf9 hPc10 hPf10
 clear hD1c0 hD1f0 hD1c1 hD1f1
 replace hP := hP.after hb5
 replace hD1 := hD1.after hb5
 replace hIs := SsAt.after hIs hb5
 replace hBW := bt hBW hb5
 clear hb5 HCK
 go_wp2
 go_loopw [8] (fun i wr => ∃ k : Nat, k ≤ m3 ∧ i = .int .i64 k ∧ Below w5.heap.size w5 wr) (fun i _ => m3 - (intOf i).toNat)
 case atStart => exact ⟨0, by omega, rfl, Below.refl _ _⟩
 case round =>
  obtain ⟨k, hk, rfl, hbr⟩ := hrel
  obtain ⟨wq, hwq⟩ : ∃ wq, wq = wr := ⟨_, rfl⟩
  subst hwq
  have hBW1 := bt hBW hbr
  have hP1 := hP.after hbr
  by_cases hlt : k < m3
  ·have hkl : k < N.eqs.length := by rw [← HN3.out]; exact hlt
   have hki : k < ((N.imgs L).map E).length := by rw [HIL.out]; exact hlt
   have hS1 := HS0.out.after hBW1
   have hqg := (HM.out.e _ (List.getElem_mem hkl)).1
   obtain ⟨e1, e2, e3⟩ := chk_elem HC0.out k hkl hqg
   have hpq := HM.out.g _ (List.getElem_mem hqg)
   have hr := HREL.out k hkl
   rw [gp_at N _ hqg] at hr
   obtain ⟨b, o, tv, rfl, hbl, x1, x2, x3, hTs⟩ := NAt.eat hS1 hkl
   obtain ⟨b1', o1, rfl, hbg, y1, y2⟩ := NAt.gat hS1 hqg
   obtain ⟨b7, o7, rfl, hbl7, i1'⟩ := SsAt.at_ (SsAt.after hIs hbr) hki
   rw [show ((N.imgs L).map E)[k] = E (imgV N L (N.eqs[k]'hkl)) by simp [NSta.imgs], hr] at i1'
   obtain ⟨to_, tc, rfl⟩ := hTs.form
   have HEX : Hid (∀ w, Calls Tryz.prog 17 #[.agg #[.string (E N.grps[N.eqs[k].grp].1), .string (E N.grps[N.eqs[k].grp].2)], .string (E N.eqs[k].tgt), .agg #[.bool false, .string (E c)]] w fun e w' => e = .returned (.tuple #[.string (E (powI N.eqs[k].tgt (c : Int) N.grps[N.eqs[k].grp].1)), .int .i64 0]) ∧ Below w.heap.size w w') := fun w => by
    have h := pexp_c N.grps[N.eqs[k].grp].1 N.grps[N.eqs[k].grp].2 N.eqs[k].tgt (c : Int) w hpq.1 (lt128 hpq.2) e1 e2 (by rw [Int.natAbs_natCast]; exact up16 HCB.out)
    rw [sg_nat, Int.natAbs_natCast] at h
    exact h
   generalize (N.eqs[k]'hkl).trms.length = n4 at x3
   clear hTs hS1 e1 e2 e3 hpq hr
   have h0g : (0 : Int) ≤ (((N.eqs[k]'hkl).grp : Nat) : Int) := by omega
   have h1g : (((N.eqs[k]'hkl).grp : Nat) : Int) < (m1 : Int) := by have := HN1.out; omega
   generalize powI N.eqs[k].tgt (c : Int) N.grps[N.eqs[k].grp].1 = iq at i1' HEX
   generalize (N.grps[N.eqs[k].grp]'hqg).1 = gp1 at y1 HEX
   generalize (N.grps[N.eqs[k].grp]'hqg).2 = gp2 at y2 HEX
   clear hqg
   generalize (N.eqs[k]'hkl).grp = qg at x1 y1 y2 h0g h1g
   generalize (N.eqs[k]'hkl).tgt = qt at x2 HEX
   have h0k : (0 : Int) ≤ (k : Int) := by omega
   have h1k : (k : Int) < (m3 : Int) := by omega
   have hQb := Blk.new wq #[.int .i64 (qg : Int), .string (E qt), .slice to_ n4 tc] 55
   have hbq := b1 wq (.cells #[.int .i64 (qg : Int), .string (E qt), .slice to_ n4 tc] 55)
   have hP2 := hP1.after hbq
   have hD2 := (hD1.after hbr).after hbq
   have z1 := (hbq.cell (p := ⟨b1', o1 + qg * 2, none⟩) hbg).trans y1
   have z2 := (hbq.cell (p := ⟨b1', o1 + qg * 2 + 1, none⟩) hbg).trans y2
   have z3 := (hbq.cell (p := ⟨b7, o7 + k, none⟩) hbl7).trans i1'
   have g1 := gcl (a := ⟨b1', o1 + qg * 2, none⟩) (Nat.lt_of_lt_of_le hbg hbq.size) z1
   have g2 := gcl (a := ⟨b1', o1 + qg * 2 + 1, none⟩) (Nat.lt_of_lt_of_le hbg hbq.size) z2
   have hbl8 := Nat.lt_of_lt_of_le hbl7 hbq.size
   have hP1c0 := hP1.cell 0
   have hP1f0 := hP1.free 0
   have hP1c1 := hP1.cell 1
   have hP1f1 := hP1.free 1
   have hP1c2 := hP1.cell 2
   have hP1f2 := hP1.free 2
   have hP1c3 := hP1.cell 3
   have hP1f3 := hP1.free 3
   have hP1c4 := hP1.cell 4
   have hP1f4 := hP1.free 4
   have hP1c5 := hP1.cell 5
   have hP1f5 := hP1.free 5
   have hP1c6 := hP1.cell 6
   have hP1f6 := hP1.free 6
   have hP1c7 := hP1.cell 7
   have hP1f7 := hP1.free 7
   have hP1c8 := hP1.cell 8
   have hP1f8 := hP1.free 8
   have hP1c9 := hP1.cell 9
   have hP1f9 := hP1.free 9
   have hP1c10 := hP1.cell 10
   have hP1f10 := hP1.free 10
   go_upto_region 13 with fail
   clear hP1c0 hP1f0 hP1c1 hP1f1 hP1c2 hP1f2 hP1c3 hP1f3 hP1c4 hP1f4 hP1c5 hP1f5 hP1c6 hP1f6 hP1c7 hP1f7 hP1c8 hP1f8 hP1c9 hP1f9 hP1c10 hP1f10
   generalize wq.alloc (.cells #[.int .i64 (qg : Int), .string (E qt), .slice to_ n4 tc] 55) = wv at hQb hbq hP2 hD2 z1 z2 z3 g1 g2 hbl8 ⊢
   obtain ⟨g9, hg9⟩ : ∃ g, wq.heap.size = g := ⟨_, rfl⟩
   rw [hg9] at hQb ⊢
   clear hg9 y1 y2 x1 x2 x3 i1' hbl hbg hbl7
   replace hQb : Blk wv g9 55 [.int .i64 (qg : Int), .string (E qt), .slice to_ n4 tc] := hQb
   have hPl := hP2.lt
   have hDl := hD2.lt
   have hQl := hQb.lt
   have hP2c0 := hP2.cell 0
   have hP2f0 := hP2.free 0
   have hP2c1 := hP2.cell 1
   have hP2f1 := hP2.free 1
   have hP2c2 := hP2.cell 2
   have hP2f2 := hP2.free 2
   have hP2c3 := hP2.cell 3
   have hP2f3 := hP2.free 3
   have hP2c4 := hP2.cell 4
   have hP2f4 := hP2.free 4
   have hP2c5 := hP2.cell 5
   have hP2f5 := hP2.free 5
   have hP2c6 := hP2.cell 6
   have hP2f6 := hP2.free 6
   have hP2c7 := hP2.cell 7
   have hP2f7 := hP2.free 7
   have hP2c8 := hP2.cell 8
   have hP2f8 := hP2.free 8
   have hP2c9 := hP2.cell 9
   have hP2f9 := hP2.free 9
   have hP2c10 := hP2.cell 10
   have hP2f10 := hP2.free 10
   have hD2c0 := hD2.cell 0
   have hD2f0 := hD2.free 0
   have hD2c1 := hD2.cell 1
   have hD2f1 := hD2.free 1
   have hQbc0 := hQb.cell 0
   have hQbf0 := hQb.free 0
   have hQbc1 := hQb.cell 1
   have hQbf1 := hQb.free 1
   have hQbc2 := hQb.cell 2
   have hQbf2 := hQb.free 2
   have hP2g0 := hP2.gcell 0
   have hP2g1 := hP2.gcell 1
   have hP2g2 := hP2.gcell 2
   have hP2g3 := hP2.gcell 3
   have hP2g4 := hP2.gcell 4
   have hP2g5 := hP2.gcell 5
   have hP2g6 := hP2.gcell 6
   have hP2g7 := hP2.gcell 7
   have hP2g8 := hP2.gcell 8
   have hP2g9 := hP2.gcell 9
   have hP2g10 := hP2.gcell 10
   have hD2g0 := hD2.gcell 0
   have hD2g1 := hD2.gcell 1
   have hQbg0 := hQb.gcell 0
   have hQbg1 := hQb.gcell 1
   have hQbg2 := hQb.gcell 2
   go_wp2_with fail
   refine wp_region_gw (by kernel_rfl) (by kernel_rfl) ?_
   repeat (go_big_quiet_step (first | (go_at_call 17; exact gw_of (HEX.out _))))
   refine wpQuiet_nil ?_
   rintro w9 ⟨xw9, rfl⟩
   have hb9 := gw_below xw9
   generalize gw xw9 = w9 at hb9
   have z4 := (hb9.cell (p := ⟨b7, o7 + k, none⟩) hbl8).trans z3
   clear hP2c0 hP2f0 hP2c1 hP2f1 hP2c2 hP2f2 hP2c3 hP2f3 hP2c4 hP2f4 hP2c5 hP2f5 hP2c6 hP2f6 hP2c7 hP2f7 hP2c8 hP2f8 hP2c9 hP2f9 hP2c10 hP2f10
   clear hD2c0 hD2f0 hD2c1 hD2f1
   clear hQbc0 hQbf0 hQbc1 hQbf1 hQbc2 hQbf2
   clear hP2g0 hP2g1 hP2g2 hP2g3 hP2g4 hP2g5 hP2g6 hP2g7 hP2g8 hP2g9 hP2g10
   clear hD2g0 hD2g1
   clear hQbg0 hQbg1 hQbg2
   clear g1 g2 z1 z2 z3 hPl hDl hQl hQb
   go_wp2
   go_roundw
   case rel => exact ⟨k + 1, by omega, by go_num, bt (bt hbr hbq) hb9⟩
   case measure => simp [intOf]; omega
  ·go_wp2_with fail
   refine (awake_c _).mono ?_
   rintro e w8 ⟨rfl, hb8⟩
   go_wp2
   go_ret
   exact ⟨rfl, bt hBW1 hb8⟩
end Go.Proofs.YtbcgimgkcdpjcaaGreat
end

section
namespace Go.Proofs.YtbcgimgkcdpjcaaGreat
open Go.RowKit Go.WideShapes Go.ChangeShapes Go.ChangeAt Go.Joins Go.Deep
open Go.ChangeMaps (open_string shut_string)

theorem relates_c (S : Sta) (C K cha chb : ByteArray) (FA FB : List ByteArray) (RA RB : List (Bool × ByteArray)) (s1 s2 s3 xa ya xb yb : Option Addr) (m1 m2 m3 d1 d2 d3 na pa ma qa nb pb mb qb : Nat) (w : World)
  (hC : C.size ≤ 9223372036854775807) (hK : K.size ≤ 9223372036854775807) (hz : SSz S) (hS : StAt w (.slice s1 m1 d1) (.slice s2 m2 d2) (.slice s3 m3 d3) S)
  (hpa : PSz FA cha RA) (hFa : SsAt w (.slice xa na pa) FA) (hRa : IsAt w (.slice ya ma qa) RA)
  (hpb : PSz FB chb RB) (hFb : SsAt w (.slice xb nb pb) FB) (hRb : IsAt w (.slice yb mb qb) RB) :
  Calls Tryz.prog 5 #[.agg #[.string C, .string K, .slice s1 m1 d1, .slice s2 m2 d2, .slice s3 m3 d3, .slice xa na pa, .string cha, .slice ya ma qa, .slice xb nb pb, .string chb, .slice yb mb qb]] w fun e w' => e = .returned (.bool true) ∧ Below w.heap.size w w' := by
 have HF := fun w' (hb : Below w.heap.size w w') => fewC_c S C K cha chb FA FB RA RB s1 s2 s3 xa ya xb yb m1 m2 m3 d1 d2 d3 na pa ma qa nb pb mb qb w' hC hK hz (hS.after hb) hpa (SsAt.after hFa hb) (IsAt.after hRa hb) hpb (SsAt.after hFb hb) (IsAt.after hRb hb)
 cases hr : (prfB FA cha RA && prfB FB chb RB && fewB S && (decide (C.size ≤ 8) && decide (K.size ≤ 8)))
 ·rw [hr] at HF
  exact relates_big C K cha chb s1 s2 s3 xa ya xb yb m1 m2 m3 d1 d2 d3 na pa ma qa nb pb mb qb w HF
 ·rw [hr] at HF
  simp only [prfB, shB, rszB, Bool.and_eq_true, decide_eq_true_eq, List.all_eq_true] at hr
  obtain ⟨⟨⟨⟨⟨⟨⟨a1, a2⟩, a3⟩, a4⟩, a5⟩, ⟨⟨⟨⟨b1, b2⟩, b3⟩, b4⟩, b5⟩⟩, hf⟩, hc8, hk8⟩ := hr
  obtain ⟨k, hk, h1, h2⟩ | ⟨N, c, k, ca, cb, F, X, Y, rfl, rfl, rfl, hT, h1, h2⟩ := dif_two S C K cha chb FA FB RA RB s1 s2 s3 xa ya xb yb m1 m2 m3 d1 d2 d3 na pa ma qa nb pb mb qb w hc8 hk8 hf hS a1 a3 a2 a5 a4 hFa hRa b1 b3 b2 b5 b4 hFb hRb
  ·exact relates_err C K cha chb k s1 s2 s3 xa ya xb yb m1 m2 m3 d1 d2 d3 na pa ma qa nb pb mb qb w hk HF h1
  ·obtain ⟨e1, e2, e3, e4, _⟩ := hT.dif
   exact relates_ok N (ca - cb) (N.difs X Y) (E c) (E k) cha chb s1 s2 s3 xa ya xb yb m1 m2 m3 d1 d2 d3 na pa ma qa nb pb mb qb w hT.m hT.c e3 (Nat.lt_of_lt_of_le e4 (by decide)) e1 e2 (fun j hj => two_rel hT j hj) hS HF h1

theorem relates_lifted (os : Os) (started : os.Started) (H : Type) (enc : TypeId × Value → H) :
  ReturnsInHanded {} Tryz.checked os 5 .any (Rows.extractorRelatesSpec.pre6 enc Tryz.prog Tryz.f5 Rows.extractorRelatesRow.domain false) (Rows.extractorRelatesSpec.post enc Tryz.prog Tryz.f5 false true false false) := by
 refine returnsInHanded_of_change (C := Tryz.checked) own_knob started (by kernel_rfl) Tryz.func5
  (ChangeSpec.witness6 (enc := enc) (C := Tryz.checked) false ⟨#[], #[.agg #[.string ⟨#[]⟩, .string ⟨#[]⟩, .slice none 0 0, .slice none 0 0, .slice none 0 0, .slice none 0 0, .string ⟨#[]⟩, .slice none 0 0, .slice none 0 0, .string ⟨#[]⟩, .slice none 0 0]], []⟩ 8 (by kernel_rfl) (by kernel_rfl) (by kernel_rfl) (by kernel_rfl)) ?_
 intro W base args ds gs before hval0 hW _ _
 have hval : ∀ (j : Nat) t v, Tryz.f5.params[j]? = some t → args[j]? = some v → Value.okWide Tryz.prog W .any base t v := hval0
 have hW' := hW
 obtain ⟨p, q, hA0, hV, rfl, _, _⟩ := hW
 have hA : DataW.TrodAll enc Tryz.prog W 0 (fun _ => true) true Tryz.f5.params.toList args.toList ds p := hA0
 rw [Tryz.params5] at hA hval
 obtain ⟨v0, vs0, d0, ds0, p0, q0, hargs, rfl, rfl, h0, r0⟩ := trodAll_cons hA
 obtain ⟨rfl, rfl, rfl⟩ := trodAll_nil r0
 obtain rfl : args = #[v0] := by cases args; simp_all
 obtain ⟨rfl, rfl⟩ := trodVars_none hV
 simp only [List.append_nil] at hW'
 have hlt : ∀ x ∈ p0, x.block < W.heap.size := fun x hx => hW'.lt x (by simpa using hx)
 have k0 := h0
 obtain ⟨C, K, cha, chb, S, FA, FB, RA, RB, s1, s2, s3, xa, ya, xb, yb, m1, m2, m3, d1, d2, d3, na, pa, ma, qa, nb, pb, mb, qb, rfl, hC, hK, hz, hS, hpa, hFa, hRa, hpb, hFb, hRb⟩ := open_case (hval 0 35 v0 rfl rfl) h0
 clear hA0 hval0 hA r0 h0
 refine (relates_c S C K cha chb FA FB RA RB s1 s2 s3 xa ya xb yb m1 m2 m3 d1 d2 d3 na pa ma qa nb pb mb qb W hC hK hz hS hpa hFa hRa hpb hFb hRb).mono fun en W' hh => ?_
 obtain ⟨rfl, hb⟩ := hh
 have stay : ∀ {t : TypeId} (hr : Tryz.prog.readableRec t = true) (hrow : t < Tryz.prog.types.size) {v : Value} {d : DataW H} {ps : List MemPlace} (h : DataW.Trod enc Tryz.prog W 0 (fun _ => true) true t v d ps) (hl : ∀ z ∈ ps, z.block < W.heap.size) (sp : Nat → Bool) (hs : ∀ z ∈ ps, sp z.block = true), DataW.Trod enc Tryz.prog W' 0 sp true t v d ps :=
  fun hr hrow _ _ _ h hl sp hs => WideElems.Trod_stays laid_out hr hrow h (fun z hz => hb.same (hl z hz)) hs
 exact ⟨_, rfl, post_of_below (pa := p0 ++ []) (pv := []) hW' (fun _ _ _ => trodAll_cons_mk (shut_bool Tryz.underlying4 _) trodAll_mk0)
  (fun sp hs => trodAll_cons_mk (stay (by kernel_rfl) (of_decide_eq_true (by kernel_rfl)) k0 (fun z hz => hlt z (by simp [hz])) sp (fun z hz => hs z (by simp [hz]))) trodAll_mk0) (fun _ _ => rfl) (by simp) hb
  (ok_one (by kernel_rfl) rfl (okWide_bool_mk Tryz.underlying4 _))⟩

theorem relates_holds : Rows.ExtractorRelatesSaid :=
 OpenClaim.holds_of_wide 5 Tryz.f5 rfl rfl rfl rfl rfl rfl rfl ⟨rfl, rfl, rfl, rfl, rfl⟩ rfl rfl rfl rfl rfl (by kernel_rfl) Tryz.func5 (by kernel_rfl)
  (of_decide_eq_true (by kernel_rfl)) (by unfold Func.isWrapper; first | (rw [if_pos (by decide +kernel)]; kernel_rfl) | (rw [if_neg (by decide +kernel)]; exact ⟨rfl, rfl⟩))
  (fun os started H enc _ => relates_lifted os started H enc)

#print axioms relates_holds
end Go.Proofs.YtbcgimgkcdpjcaaGreat
end
