/- Texts put together, in the order in which they build: Q1, L63, L64, S1, S2, L65, L66, L67, L68, L69, S3, L70, S4, S5, T1, T2, T4, T20, T3, T5, Q2, T6, T21, T22, T23. No condition. -/
import Derived.Test.YtmnplonkijkblaaZ3
import Derived.Below
import Derived.OpenShut
set_option linter.unusedVariables false
set_option linter.unusedSimpArgs false
/-! Fractions: how many digits they take, and what a quotient in lowest terms is. No condition. -/
namespace Go.Proofs.Ytmnplonkijkblaa.Dig

/-- How many digits. -/
def ln (n : Nat) : Nat := (mag n).length
theorem ln_mono {a b : Nat} (h : a ≤ b) : ln a ≤ ln b := mag_len_le h
theorem ln_iff {n k : Nat} : ln n ≤ k ↔ n < B ^ k := mag_lt
theorem ln_mul (a b : Nat) : ln (a * b) ≤ ln a + ln b := by
  have h1 := ln_iff.1 (Nat.le_refl (ln a))
  have h2 := ln_iff.1 (Nat.le_refl (ln b))
  refine ln_iff.2 ?_
  rw [Nat.pow_add]
  exact Nat.mul_lt_mul'' h1 h2
theorem ln_add (a b : Nat) : ln (a + b) ≤ max (ln a) (ln b) + 1 := by
  refine ln_iff.2 ?_
  have h1 := ln_iff.1 (Nat.le_max_left (ln a) (ln b))
  have h2 := ln_iff.1 (Nat.le_max_right (ln a) (ln b))
  rw [Nat.pow_succ]
  have h3 : B ^ max (ln a) (ln b) * 2 ≤ B ^ max (ln a) (ln b) * B := Nat.mul_le_mul_left _ (by decide)
  generalize B ^ max (ln a) (ln b) * B = z1 at *
  generalize B ^ max (ln a) (ln b) = z at *
  omega
theorem ln_one : ln 1 = 1 := by unfold ln; rw [mag_small (by decide) (by decide)]; rfl
theorem ln_zero : ln 0 = 0 := by unfold ln; rw [mag_zero]; rfl
theorem ln_pos {n : Nat} (h : 0 < n) : 1 ≤ ln n := by
  rcases Nat.eq_zero_or_pos (ln n) with h0 | h0
  · unfold ln at h0; rw [mag_len_zero] at h0; omega
  · exact h0
theorem ln_i64 {n : Nat} (h : n < 18446744073709551616) : ln n ≤ 2 := ln_iff.2 (by simp only [B]; omega)

theorem natAbs_ediv_le (n g : Int) : (n / g).natAbs ≤ n.natAbs := by
  by_cases hg : g = 0
  · subst hg; simp
  · exact Int.natAbs_ediv_le_natAbs n g

theorem num_le (n d : Int) : (Rat.divInt n d).num.natAbs ≤ n.natAbs := by
  rw [Rat.num_divInt]
  refine Nat.le_trans (natAbs_ediv_le _ _) ?_
  rw [Int.natAbs_mul]
  have : d.sign.natAbs ≤ 1 := by
    rcases Int.lt_trichotomy d 0 with h | h | h
    · rw [Int.sign_eq_neg_one_of_neg h]; decide
    · subst h; decide
    · rw [Int.sign_eq_one_of_pos h]; decide
  calc d.sign.natAbs * n.natAbs ≤ 1 * n.natAbs := Nat.mul_le_mul_right _ this
    _ = n.natAbs := Nat.one_mul _
theorem den_le {n d : Int} (h : d ≠ 0) : (Rat.divInt n d).den ≤ d.natAbs := by
  rw [Rat.den_divInt, if_neg h]
  exact Nat.div_le_self _ _

/-- How many digits a fraction takes. -/
def qsz (q : Rat) : Nat := max (ln q.num.natAbs) (ln q.den)
theorem qsz_num (q : Rat) : ln q.num.natAbs ≤ qsz q := Nat.le_max_left _ _
theorem qsz_den (q : Rat) : ln q.den ≤ qsz q := Nat.le_max_right _ _
theorem qsz_pos (q : Rat) : 1 ≤ qsz q := Nat.le_trans (ln_pos q.den_pos) (qsz_den q)
theorem qsz_divInt {n d : Int} (h : d ≠ 0) : qsz (Rat.divInt n d) ≤ max (ln n.natAbs) (ln d.natAbs) :=
  Nat.max_le.2 ⟨Nat.le_trans (ln_mono (num_le n d)) (Nat.le_max_left _ _), Nat.le_trans (ln_mono (den_le h)) (Nat.le_max_right _ _)⟩
theorem dz (q : Rat) : (q.den : Int) ≠ 0 := by have := q.den_pos; omega
theorem add_divInt (a b : Rat) : a + b = Rat.divInt (a.num * b.den + b.num * a.den) (a.den * b.den) := by
  have := Rat.divInt_add_divInt a.num b.num (dz a) (dz b)
  rw [Rat.num_divInt_den, Rat.num_divInt_den] at this
  exact this
theorem mul_divInt (a b : Rat) : a * b = Rat.divInt (a.num * b.num) (a.den * b.den) := by
  have := Rat.divInt_mul_divInt a.num b.num (d₁ := a.den) (d₂ := b.den)
  rw [Rat.num_divInt_den, Rat.num_divInt_den] at this
  exact this
theorem neg_divInt (a : Rat) : -a = Rat.divInt (-a.num) a.den := by
  have h : Rat.divInt (-a).num (-a).den = -a := Rat.num_divInt_den _
  rw [Rat.neg_num, Rat.neg_den] at h
  exact h.symm
theorem inv_divInt (a : Rat) : a⁻¹ = Rat.divInt a.den a.num := Rat.inv_def a
theorem div_divInt (a b : Rat) : a / b = Rat.divInt (a.num * b.den) (a.den * b.num) := by
  rw [Rat.div_def, inv_divInt]
  have h := Rat.divInt_mul_divInt a.num b.den (d₁ := a.den) (d₂ := b.num)
  rw [Rat.num_divInt_den] at h
  exact h
theorem dd_ne (a b : Rat) : ((a.den : Int) * b.den) ≠ 0 := Int.mul_ne_zero (dz a) (dz b)
theorem ln_na_mul (a b : Int) : ln (a * b).natAbs ≤ ln a.natAbs + ln b.natAbs := by rw [Int.natAbs_mul]; exact ln_mul _ _
theorem ln_na_add (a b : Int) : ln (a + b).natAbs ≤ max (ln a.natAbs) (ln b.natAbs) + 1 := Nat.le_trans (ln_mono (Int.natAbs_add_le a b)) (ln_add _ _)
theorem ln_na_nat (n : Nat) : ln ((n : Int)).natAbs = ln n := by rw [Int.natAbs_natCast]
theorem add_parts (a b : Rat) : ln (a.num * b.den).natAbs ≤ qsz a + qsz b ∧ ln (b.num * a.den).natAbs ≤ qsz a + qsz b ∧ ln (a.num * b.den + b.num * a.den).natAbs ≤ qsz a + qsz b + 1 ∧ ln ((a.den : Int) * b.den).natAbs ≤ qsz a + qsz b := by
  have h1 := ln_na_mul a.num b.den
  have h2 := ln_na_mul b.num a.den
  have h3 := ln_na_add (a.num * b.den) (b.num * a.den)
  have h4 := ln_na_mul (a.den : Int) b.den
  rw [ln_na_nat] at h1 h2 h4
  rw [ln_na_nat] at h4
  have p1 := qsz_num a
  have p2 := qsz_num b
  have p3 := qsz_den a
  have p4 := qsz_den b
  omega
theorem qsz_add (a b : Rat) : qsz (a + b) ≤ qsz a + qsz b + 1 := by
  obtain ⟨h1, h2, h3, h4⟩ := add_parts a b
  have := qsz_divInt (n := a.num * b.den + b.num * a.den) (dd_ne a b)
  rw [← add_divInt] at this
  omega
theorem mul_parts (a b : Rat) : ln (a.num * b.num).natAbs ≤ qsz a + qsz b ∧ ln ((a.den : Int) * b.den).natAbs ≤ qsz a + qsz b := by
  have h1 := ln_na_mul a.num b.num
  have h4 := ln_na_mul (a.den : Int) b.den
  rw [ln_na_nat, ln_na_nat] at h4
  have p1 := qsz_num a
  have p2 := qsz_num b
  have p3 := qsz_den a
  have p4 := qsz_den b
  omega
theorem qsz_mul (a b : Rat) : qsz (a * b) ≤ qsz a + qsz b := by
  obtain ⟨h1, h2⟩ := mul_parts a b
  have := qsz_divInt (n := a.num * b.num) (dd_ne a b)
  rw [← mul_divInt] at this
  omega
theorem qsz_neg (a : Rat) : qsz (-a) = qsz a := by
  unfold qsz
  rw [Rat.neg_num, Rat.neg_den, Int.natAbs_neg]
theorem qsz_sub (a b : Rat) : qsz (a - b) ≤ qsz a + qsz b + 1 := by
  rw [Rat.sub_eq_add_neg]
  have := qsz_add a (-b)
  rw [qsz_neg] at this
  exact this
theorem num_ne {a : Rat} (h : a ≠ 0) : a.num ≠ 0 := fun h' => h (by rw [← Rat.num_divInt_den a, h']; exact Rat.zero_divInt _)
theorem qsz_inv {a : Rat} (h : a ≠ 0) : qsz a⁻¹ ≤ qsz a := by
  rw [inv_divInt]
  have := qsz_divInt (n := a.den) (num_ne h)
  rw [ln_na_nat] at this
  have p1 := qsz_num a
  have p3 := qsz_den a
  omega
theorem qsz_div {a b : Rat} (h : b ≠ 0) : qsz (a / b) ≤ qsz a + qsz b := by
  rw [Rat.div_def]
  have h1 := qsz_mul a b⁻¹
  have h2 := qsz_inv h
  omega

/-- A quotient in lowest terms, by the greatest common divisor. -/
theorem low_pos {a b : Int} (h : 0 < b) : Int.tdiv a (Int.gcd a b) = (Rat.divInt a b).num ∧ Int.tdiv b (Int.gcd a b) = (Rat.divInt a b).den := by
  rw [Rat.num_divInt, Rat.den_divInt, if_neg (by omega), Int.sign_eq_one_of_pos h, Int.one_mul, Int.gcd_comm b a]
  have h1 : (Int.gcd a b : Int) ∣ a := Int.gcd_dvd_left ..
  have h2 : (Int.gcd a b : Int) ∣ b := Int.gcd_dvd_right ..
  refine ⟨Int.tdiv_eq_ediv_of_dvd h1, ?_⟩
  rw [Int.tdiv_eq_ediv_of_dvd h2]
  obtain ⟨m, rfl⟩ : ∃ m : Nat, b = m := ⟨b.natAbs, by omega⟩
  rw [Int.natAbs_natCast, Int.natCast_ediv]
theorem low_neg {a b : Int} (h : b < 0) : Int.tdiv a (-(Int.gcd a b : Int)) = (Rat.divInt a b).num ∧ Int.tdiv b (-(Int.gcd a b : Int)) = (Rat.divInt a b).den := by
  rw [Rat.num_divInt, Rat.den_divInt, if_neg (by omega), Int.sign_eq_neg_one_of_neg h, Int.gcd_comm b a, Int.tdiv_neg, Int.tdiv_neg]
  have h1 : (Int.gcd a b : Int) ∣ a := Int.gcd_dvd_left ..
  have h2 : (Int.gcd a b : Int) ∣ b := Int.gcd_dvd_right ..
  rw [Int.tdiv_eq_ediv_of_dvd h1, Int.tdiv_eq_ediv_of_dvd h2]
  constructor
  · rw [Int.neg_one_mul, Int.neg_ediv_of_dvd h1]
  · obtain ⟨m, rfl⟩ : ∃ m : Nat, b = -(m : Int) := ⟨b.natAbs, by omega⟩
    rw [Int.natAbs_neg, Int.natAbs_natCast, Int.natCast_ediv]
    have h3 : (Int.gcd a (-(m : Int)) : Int) ∣ (m : Int) := by rw [Int.gcd_neg]; exact Int.gcd_dvd_right ..
    rw [Int.neg_ediv_of_dvd h3, Int.neg_neg]
end Go.Proofs.Ytmnplonkijkblaa.Dig

/-! impl.bigRat: SetFrac, Num, Denom, Neg, Inv, Add, Sub, Mul, Cmp, Sign, SetInt, newBigRat. No condition. -/
namespace Go.Proofs.Ytmnplonkijkblaa.Ae
open Go Go.RowKit Go.Proofs.Ytmnplonkijkblaa.Dig
variable {N : NR}

/-- What lies in a bigRat: a fraction in lowest terms, or what new makes. -/
def eBR (q : Rat) : D := .agg [eZ q.num, eZ q.den]
def eBN : D := .agg [eB .new, eB .new]
@[simp] theorem eBR_size (q : Rat) : (eBR q).size = 4 := rfl
@[simp] theorem eBR_agg (q : Rat) : (eBR q).isAgg = true := rfl
@[simp] theorem eBR_lit (q : Rat) : (eBR q).isLit = false := rfl
theorem eBR_inj {a b : Rat} (h : eBR a = eBR b) : a = b := by
  simp only [eBR, D.agg.injEq, List.cons.injEq, and_true] at h
  have h2 := eZ_inj h.2
  exact Rat.ext (eZ_inj h.1) (by omega)
/-- Numbers of moderate length: fewer than 2 to the 39 digits. -/
def MX : Nat := 549755813888
theorem SZ_ln {a : Int} : SZ a ↔ ln a.natAbs < 1099511627776 := Iff.rfl

structure ZZ where
  a : Int
  b : Int
def sfE (p : ZZ) : List Ar × List D := ([.ref 0, .dat (.ptr (eZ p.a)), .dat (.ptr (eZ p.b))], [eBN])
theorem sfE_inj (p q : ZZ) (h : sfE p = sfE q) : p = q := by
  obtain ⟨a, b⟩ := p; obtain ⟨a', b'⟩ := q
  simp only [sfE, Prod.mk.injEq, List.cons.injEq, and_true, true_and, Ar.dat.injEq, D.ptr.injEq] at h
  rw [eZ_inj h.1, eZ_inj h.2]
noncomputable def sfC := ctM sfE (fun p => SZ p.a ∧ SZ p.b ∧ p.b ≠ 0) (fun p => ([.ref 0], [eBR (Rat.divInt p.a p.b)]))
theorem sfC_at (a b : Int) : sfC [.ref 0, .dat (.ptr (eZ a)), .dat (.ptr (eZ b))] [eBN] = ((SZ a ∧ SZ b ∧ b ≠ 0), [.ref 0], [eBR (Rat.divInt a b)]) := ctM_at sfE_inj ⟨a, b⟩
noncomputable def sfTb : List (FuncId × Ct) := [(49, .data sgDC)]
theorem sfTb_ok : TbOK N Try.prog (tbl sfTb) := tbl_cons (c := .data sgDC) SignD_spec Sign_ok tbl_nil

@[simp] theorem sfTb2 : tbl sfTb 49 = some (.data sgDC) := rfl
theorem SZ_gcd {a b : Int} (hb : SZ b) (h0 : b ≠ 0) : SZ (Int.gcd a b) := by
  refine SZ_le ?_ hb
  rw [Int.natAbs_natCast]
  exact Nat.le_of_dvd (by omega) (Nat.gcd_dvd_right _ _)
/-! Num, Denom, Sign -/
structure Q1 where
  a : Rat
def pbE (p : Q1) : List D := [.ptr (eBR p.a)]
theorem pbE_inj (p q : Q1) (h : pbE p = pbE q) : p = q := by
  obtain ⟨a⟩ := p; obtain ⟨b⟩ := q
  simp only [pbE, List.cons.injEq, and_true, D.ptr.injEq] at h
  rw [eBR_inj h]
noncomputable def numC := ctD pbE (fun p => qsz p.a < 1099511627776) (fun p => [.ptr (eZ p.a.num)])
theorem numC_at (a : Rat) : numC [.ptr (eBR a)] = (qsz a < 1099511627776, [.ptr (eZ a.num)]) := ctD_at pbE_inj ⟨a⟩
noncomputable def denC := ctD pbE (fun p => qsz p.a < 1099511627776) (fun p => [.ptr (eZ p.a.den)])
theorem denC_at (a : Rat) : denC [.ptr (eBR a)] = (qsz a < 1099511627776, [.ptr (eZ a.den)]) := ctD_at pbE_inj ⟨a⟩
noncomputable def bsgC := ctD pbE (fun p => True) (fun p => [i64D p.a.num.sign])
theorem bsgC_at (a : Rat) : bsgC [.ptr (eBR a)] = (True, [i64D a.num.sign]) := ctD_at pbE_inj ⟨a⟩
theorem SZ_num {q : Rat} (h : qsz q < 1099511627776) : SZ q.num := Nat.lt_of_le_of_lt (qsz_num q) h
theorem SZ_den {q : Rat} (h : qsz q < 1099511627776) : SZ (q.den : Int) := by
  have := qsz_den q
  rw [SZ_ln, Int.natAbs_natCast]
  omega
noncomputable def ndTb : List (FuncId × Ct) := [(49, .data sgDC)]
theorem ndTb_ok : TbOK N Try.prog (tbl ndTb) := tbl_cons (c := .data sgDC) SignD_spec Sign_ok tbl_nil

@[simp] theorem ndTb2 : tbl ndTb 49 = some (.data sgDC) := rfl
theorem RSign_spec : SpecD N Try.prog 47 bsgC := by
  refine rdD (mf := fun f => false) ndTb_ok (fn := Try.f47) (by kernel_rfl) rfl (by kernel_rfl) ?_
  rintro ⟨a⟩ _
  refine ⟨by show 1 ≤ 7; decide, ?_⟩
  simp only [pbE, Try.f47, eBR]
  have c2 := sgDC_at a.num
  simp only [i64D] at c2 ⊢
  simp [c2]
theorem RSign_ok : callable Try.prog 47 = true := by kernel_rfl
end Go.Proofs.Ytmnplonkijkblaa.Ae

/-! impl.bigRat: Neg, Inv, Add, Sub, Mul, Cmp, SetInt, newBigRat. No condition. -/
namespace Go.Proofs.Ytmnplonkijkblaa.Ae
open Go Go.RowKit Go.Proofs.Ytmnplonkijkblaa.Dig
variable {N : NR}

def q1E (p : Q1) : List Ar × List D := ([.ref 0, .dat (.ptr (eBR p.a))], [eBN])
theorem q1E_inj (p q : Q1) (h : q1E p = q1E q) : p = q := by
  obtain ⟨a⟩ := p; obtain ⟨b⟩ := q
  simp only [q1E, Prod.mk.injEq, List.cons.injEq, and_true, true_and, Ar.dat.injEq, D.ptr.injEq] at h
  rw [eBR_inj h]
structure Q2 where
  a : Rat
  b : Rat
def q2E (p : Q2) : List Ar × List D := ([.ref 0, .dat (.ptr (eBR p.a)), .dat (.ptr (eBR p.b))], [eBN])
theorem q2E_inj (p q : Q2) (h : q2E p = q2E q) : p = q := by
  obtain ⟨a, b⟩ := p; obtain ⟨c, d⟩ := q
  simp only [q2E, Prod.mk.injEq, List.cons.injEq, and_true, true_and, Ar.dat.injEq, D.ptr.injEq] at h
  rw [eBR_inj h.1, eBR_inj h.2]
def brMf : FuncId → Bool := fun f => f == 99999999 || f == 99999999 || f == 99999999 || f == 99999999 || f == 99999999
attribute [simp] brMf
@[simp] theorem eBN_size : eBN.size = 4 := rfl
@[simp] theorem eBN_agg : eBN.isAgg = true := rfl
theorem eBN_eq : eBN = .agg [.agg [.lit (.bool false), .lit (.slice none 0 0)], .agg [.lit (.bool false), .lit (.slice none 0 0)]] := rfl
theorem sfC_n (a b : Int) : sfC [.ref 0, .dat (.ptr (eZ a)), .dat (.ptr (eZ b))] [.agg [.agg [.lit (.bool false), .lit (.slice none 0 0)], .agg [.lit (.bool false), .lit (.slice none 0 0)]]] = ((SZ a ∧ SZ b ∧ b ≠ 0), [.ref 0], [eBR (Rat.divInt a b)]) := sfC_at a b
theorem iMulC_n (x y : Int) : iMulC [.ref 0, .dat (.ptr (eZ x)), .dat (.ptr (eZ y))] [.agg [.lit (.bool false), .lit (.slice none 0 0)]] = ((SZ x ∧ SZ y), [.ref 0], [eZ (x * y)]) := iMulC_dd x y .new

noncomputable def bNegC := ctM q1E (fun p => qsz p.a < MX) (fun p => ([.ref 0], [eBR (-p.a)]))
theorem bNegC_at (a : Rat) : bNegC [.ref 0, .dat (.ptr (eBR a))] [eBN] = (qsz a < MX, [.ref 0], [eBR (-a)]) := ctM_at q1E_inj ⟨a⟩
noncomputable def bInvC := ctM q1E (fun p => qsz p.a < MX ∧ p.a ≠ 0) (fun p => ([.ref 0], [eBR p.a⁻¹]))
theorem bInvC_at (a : Rat) : bInvC [.ref 0, .dat (.ptr (eBR a))] [eBN] = ((qsz a < MX ∧ a ≠ 0), [.ref 0], [eBR a⁻¹]) := ctM_at q1E_inj ⟨a⟩
noncomputable def bMulC := ctM q2E (fun p => qsz p.a + qsz p.b < MX) (fun p => ([.ref 0], [eBR (p.a * p.b)]))
theorem bMulC_at (a b : Rat) : bMulC [.ref 0, .dat (.ptr (eBR a)), .dat (.ptr (eBR b))] [eBN] = (qsz a + qsz b < MX, [.ref 0], [eBR (a * b)]) := ctM_at q2E_inj ⟨a, b⟩
noncomputable def bAddC := ctM q2E (fun p => qsz p.a + qsz p.b < MX) (fun p => ([.ref 0], [eBR (p.a + p.b)]))
theorem bAddC_at (a b : Rat) : bAddC [.ref 0, .dat (.ptr (eBR a)), .dat (.ptr (eBR b))] [eBN] = (qsz a + qsz b < MX, [.ref 0], [eBR (a + b)]) := ctM_at q2E_inj ⟨a, b⟩
noncomputable def bSubC := ctM q2E (fun p => qsz p.a + qsz p.b < MX) (fun p => ([.ref 0], [eBR (p.a - p.b)]))
theorem bSubC_at (a b : Rat) : bSubC [.ref 0, .dat (.ptr (eBR a)), .dat (.ptr (eBR b))] [eBN] = (qsz a + qsz b < MX, [.ref 0], [eBR (a - b)]) := ctM_at q2E_inj ⟨a, b⟩
structure Q2c where
  a : Rat
  b : Rat
def bcE (p : Q2c) : List D := [.ptr (eBR p.a), .ptr (eBR p.b)]
theorem bcE_inj (p q : Q2c) (h : bcE p = bcE q) : p = q := by
  obtain ⟨a, b⟩ := p; obtain ⟨c, d⟩ := q
  simp only [bcE, List.cons.injEq, and_true, D.ptr.injEq] at h
  rw [eBR_inj h.1, eBR_inj h.2]
/-- How two fractions compare. -/
def qcmp (a b : Rat) : Int := (a.num * b.den - b.num * a.den).sign
noncomputable def bCmpC := ctD bcE (fun p => qsz p.a + qsz p.b < MX) (fun p => [i64D (qcmp p.a p.b)])
theorem bCmpC_at (a b : Rat) : bCmpC [.ptr (eBR a), .ptr (eBR b)] = (qsz a + qsz b < MX, [i64D (qcmp a b)]) := ctD_at bcE_inj ⟨a, b⟩
def siE (p : Z1) : List Ar × List D := ([.ref 0, .dat (.ptr (eZ p.a))], [eBN])
theorem siE_inj (p q : Z1) (h : siE p = siE q) : p = q := by
  obtain ⟨a⟩ := p; obtain ⟨b⟩ := q
  simp only [siE, Prod.mk.injEq, List.cons.injEq, and_true, true_and, Ar.dat.injEq, D.ptr.injEq] at h
  rw [eZ_inj h]
noncomputable def siC := ctM siE (fun p => SZ p.a) (fun p => ([.ref 0], [eBR (p.a : Rat)]))
theorem siC_at (a : Int) : siC [.ref 0, .dat (.ptr (eZ a))] [eBN] = (SZ a, [.ref 0], [eBR (a : Rat)]) := ctM_at siE_inj ⟨a⟩
noncomputable def nbrC := ctD iiE (fun p => I64 p.a ∧ I64 p.b ∧ p.b ≠ 0) (fun p => [.ptr (eBR (Rat.divInt p.a p.b))])
theorem nbrC_at (a b : Int) : nbrC [i64D a, i64D b] = ((I64 a ∧ I64 b ∧ b ≠ 0), [.ptr (eBR (Rat.divInt a b))]) := ctD_at iiE_inj ⟨a, b⟩
end Go.Proofs.Ytmnplonkijkblaa.Ae

/-! The reference's fractions: what they are worth. No condition. -/
namespace Go.Proofs.Ytmnplonkijkblaa.Ae
open Go Go.RowKit Go.Proofs.Ytmnplonkijkblaa.Dig

def SR.val (r : SR) : Rat := Rat.divInt r.num r.den
/-- A fraction of the reference: of moderate size, great ones in lowest terms. -/
def WV (r : SR) : Prop := WR r ∧ ∀ p q, r = .big p q → Int.gcd p q = 1
theorem WR_den {r : SR} (h : WR r) : 0 < r.den := (WR_SZ h).2.2
/-- In lowest terms. -/
theorem low_div {n d : Int} (h : 0 < d) : n / (Int.gcd n d : Int) = (Rat.divInt n d).num ∧ d / (Int.gcd n d : Int) = (Rat.divInt n d).den := by
  obtain ⟨e1, e2⟩ := low_pos (a := n) h
  have h1 : (Int.gcd n d : Int) ∣ n := Int.gcd_dvd_left ..
  have h2 : (Int.gcd n d : Int) ∣ d := Int.gcd_dvd_right ..
  rw [Int.tdiv_eq_ediv_of_dvd h1] at e1
  rw [Int.tdiv_eq_ediv_of_dvd h2] at e2
  exact ⟨e1, e2⟩
theorem low_k {n d : Int} (h : 0 < d) : ∃ k : Int, 0 < k ∧ n = k * (Rat.divInt n d).num ∧ d = k * (Rat.divInt n d).den := by
  obtain ⟨e1, e2⟩ := low_div (n := n) h
  refine ⟨Int.gcd n d, ?_, ?_, ?_⟩
  · have : Int.gcd n d ≠ 0 := fun h0 => by have := (Int.gcd_eq_zero_iff.1 h0).2; omega
    omega
  · rw [← e1, Int.mul_ediv_cancel' (Int.gcd_dvd_left ..)]
  · rw [← e2, Int.mul_ediv_cancel' (Int.gcd_dvd_right ..)]
theorem val_k {r : SR} (h : WR r) : ∃ k : Int, 0 < k ∧ r.num = k * r.val.num ∧ r.den = k * r.val.den := low_k (WR_den h)
theorem gcd_red (q : Rat) : Int.gcd q.num q.den = 1 := q.reduced
theorem packR_ok {p q : Int} (h0 : 0 < q) (hp : SZ p) (hq : SZ q) (hg : Int.gcd p q = 1) : WV (packR p q) ∧ (packR p q).val = Rat.divInt p q := by
  unfold packR
  split
  · rename_i h
    exact ⟨⟨⟨by omega, h0, by omega⟩, fun _ _ e => by cases e⟩, rfl⟩
  · exact ⟨⟨⟨hp, hq, h0⟩, fun _ _ e => by cases e; exact hg⟩, rfl⟩
theorem packR_low {n d : Int} (h : 0 < d) (hn : SZ n) (hd : SZ d) : WV (packR (n / (Int.gcd n d : Int)) (d / (Int.gcd n d : Int))) ∧ (packR (n / (Int.gcd n d : Int)) (d / (Int.gcd n d : Int))).val = Rat.divInt n d := by
  obtain ⟨e1, e2⟩ := low_div (n := n) h
  rw [e1, e2]
  have h1 := packR_ok (p := (Rat.divInt n d).num) (q := (Rat.divInt n d).den) (by have := (Rat.divInt n d).den_pos; omega) (SZ_le (num_le n d) hn) (SZ_le (by rw [Int.natAbs_natCast]; exact den_le (by omega)) hd) (gcd_red _)
  rw [Rat.num_divInt_den] at h1
  exact h1
theorem ofR_ok {n d : Int} (h0 : 0 < d) (hn : I64 n) (hd : I64 d) : WV (ofR n d) ∧ (ofR n d).val = Rat.divInt n d := by
  unfold ofR
  split
  · rename_i h
    exact ⟨⟨⟨by omega, h0, by omega⟩, fun _ _ e => by cases e⟩, rfl⟩
  · exact packR_low h0 (SZ_I64 hn) (SZ_I64 hd)
theorem bigR_ok {n d : Int} (h0 : d ≠ 0) (hn : SZ n) (hd : SZ d) : WV (bigR n d) ∧ (bigR n d).val = Rat.divInt n d := by
  unfold bigR
  split
  · rename_i h
    subst h
    refine ⟨⟨⟨by decide, by decide, by decide⟩, fun _ _ e => by cases e⟩, ?_⟩
    show Rat.divInt 0 1 = _
    rw [Rat.zero_divInt, Rat.zero_divInt]
  · split
    · rename_i h
      have e : Int.gcd n d = Int.gcd (-n) (-d) := by rw [Int.neg_gcd, Int.gcd_neg]
      rw [e]
      have := packR_low (n := -n) (d := -d) (by omega) (SZ_neg.2 hn) (SZ_neg.2 hd)
      rw [Rat.neg_divInt_neg] at this
      exact this
    · exact packR_low (by omega) hn hd
/-- How many digits it takes. -/
theorem rep_sz {r : SR} (h : WV r) : ln r.num.natAbs ≤ qsz r.val ∧ ln r.den.natAbs ≤ qsz r.val := by
  have h1 := qsz_pos r.val
  have one : ∀ x : Nat, x < 2147483648 → ln x ≤ 1 := fun x hx => ln_iff.2 (by simp only [B]; omega)
  cases r with
  | small n d =>
    obtain ⟨⟨x1, x2, x3⟩, _⟩ := h
    have a1 : ln (SR.small n d).num.natAbs ≤ 1 := one _ x1
    have a2 : ln (SR.small n d).den.natAbs ≤ 1 := one _ (by show d.natAbs < _; omega)
    omega
  | lit n d =>
    obtain ⟨⟨x1, x2, x3⟩, _⟩ := h
    have a1 : ln (SR.lit n d).num.natAbs ≤ 1 := one _ x1
    have a2 : ln (SR.lit n d).den.natAbs ≤ 1 := one _ (by show d.natAbs < _; omega)
    omega
  | big p q =>
    obtain ⟨⟨x1, x2, x3⟩, hg⟩ := h
    have hg := hg p q rfl
    obtain ⟨e1, e2⟩ := low_div (n := p) x3
    rw [hg] at e1 e2
    simp at e1 e2
    have v1 : (SR.big p q).val = Rat.divInt p q := rfl
    have v2 : (SR.big p q).num = p := rfl
    have v3 : (SR.big p q).den = q := rfl
    rw [v1, v2, v3]
    have p1 := qsz_num (Rat.divInt p q)
    have p2 := qsz_den (Rat.divInt p q)
    rw [← e1] at p1
    refine ⟨p1, ?_⟩
    rw [show q.natAbs = (Rat.divInt p q).den by omega]
    exact p2
theorem neg_val (r : SR) : (negR r).val = -r.val := by
  unfold SR.val
  rw [negR_num, negR_den, Rat.neg_divInt]
theorem neg_WV {r : SR} (h : WV r) : WV (negR r) := by
  refine ⟨negR_WR h.1, fun p q e => ?_⟩
  cases r with
  | small n d => cases e
  | lit n d => cases e
  | big p' q' =>
    simp only [negR, SR.big.injEq] at e
    obtain ⟨rfl, rfl⟩ := e
    have := h.2 _ _ rfl
    rw [Int.neg_gcd]
    exact this
theorem SZ_of {a : Int} {k : Nat} (h : ln a.natAbs ≤ k) (hk : k < 1099511627776) : SZ a := by rw [SZ_ln]; omega
/-- The products and sums that a sum asks for. -/
theorem cross_sz {a b : SR} (ha : WV a) (hb : WV b) (h : qsz a.val + qsz b.val < MX) :
    SZ (a.num * b.den) ∧ SZ (b.num * a.den) ∧ SZ (a.num * b.den + b.num * a.den) ∧ SZ (a.num * b.den - b.num * a.den) ∧ SZ (a.den * b.den) ∧ SZ (a.num * b.num) ∧ SZ (a.den * b.num) := by
  unfold MX at h
  obtain ⟨a1, a2⟩ := rep_sz ha
  obtain ⟨b1, b2⟩ := rep_sz hb
  have m1 := ln_na_mul a.num b.den
  have m2 := ln_na_mul b.num a.den
  have m3 := ln_na_add (a.num * b.den) (b.num * a.den)
  have m4 := ln_na_add (a.num * b.den) (-(b.num * a.den))
  rw [Int.natAbs_neg, ← Int.sub_eq_add_neg] at m4
  have m5 := ln_na_mul a.den b.den
  have m6 := ln_na_mul a.num b.num
  have m7 := ln_na_mul a.den b.num
  refine ⟨SZ_of m1 ?_, SZ_of m2 ?_, SZ_of m3 ?_, SZ_of m4 ?_, SZ_of m5 ?_, SZ_of m6 ?_, SZ_of m7 ?_⟩ <;> omega
theorem I64_prod {n d : Int} (hn : n.natAbs < 2147483648) (hd : d.natAbs < 2147483648) : (n * d).natAbs ≤ 4611686014132420609 := by
  rw [Int.natAbs_mul]
  have := Nat.mul_le_mul (show n.natAbs ≤ 2147483647 by omega) (show d.natAbs ≤ 2147483647 by omega)
  omega
theorem not_big {r : SR} (h : WR r) (hb : r.isBig = false) : r.num.natAbs < 2147483648 ∧ 0 < r.den ∧ r.den.natAbs < 2147483648 := by
  cases r with
  | small n d => obtain ⟨x1, x2, x3⟩ := h; exact ⟨x1, x2, by show d.natAbs < _; omega⟩
  | lit n d => obtain ⟨x1, x2, x3⟩ := h; exact ⟨x1, x2, by show d.natAbs < _; omega⟩
  | big p q => cases hb
theorem den_val_ne {r : SR} (h : WR r) : r.den ≠ 0 := by have := WR_den h; omega
theorem add_ok {a b : SR} (ha : WV a) (hb : WV b) (h : qsz a.val + qsz b.val < MX) : WV (addR a b) ∧ (addR a b).val = a.val + b.val := by
  obtain ⟨s1, s2, s3, s4, s5, s6, s7⟩ := cross_sz ha hb h
  have hv : a.val + b.val = Rat.divInt (a.num * b.den + b.num * a.den) (a.den * b.den) := Rat.divInt_add_divInt _ _ (den_val_ne ha.1) (den_val_ne hb.1)
  have hd := Int.mul_pos (WR_den ha.1) (WR_den hb.1)
  rw [hv]
  unfold addR
  split
  · exact bigR_ok (by omega) s3 s5
  · rename_i hbig
    simp only [Bool.or_eq_true, not_or, Bool.not_eq_true] at hbig
    obtain ⟨x1, x2, x3⟩ := not_big ha.1 hbig.1
    obtain ⟨y1, y2, y3⟩ := not_big hb.1 hbig.2
    have p1 := I64_prod x1 y3
    have p2 := I64_prod y1 x3
    have p3 := I64_prod x3 y3
    exact ofR_ok hd (by unfold I64; omega) (by unfold I64; omega)
theorem mul_ok {a b : SR} (ha : WV a) (hb : WV b) (h : qsz a.val + qsz b.val < MX) : WV (mulR a b) ∧ (mulR a b).val = a.val * b.val := by
  obtain ⟨s1, s2, s3, s4, s5, s6, s7⟩ := cross_sz ha hb h
  have hv : a.val * b.val = Rat.divInt (a.num * b.num) (a.den * b.den) := Rat.divInt_mul_divInt _ _
  have hd := Int.mul_pos (WR_den ha.1) (WR_den hb.1)
  rw [hv]
  unfold mulR
  split
  · exact bigR_ok (by omega) s6 s5
  · rename_i hbig
    simp only [Bool.or_eq_true, not_or, Bool.not_eq_true] at hbig
    obtain ⟨x1, x2, x3⟩ := not_big ha.1 hbig.1
    obtain ⟨y1, y2, y3⟩ := not_big hb.1 hbig.2
    have p1 := I64_prod x1 y1
    have p3 := I64_prod x3 y3
    exact ofR_ok hd (by unfold I64; omega) (by unfold I64; omega)
theorem sub_ok {a b : SR} (ha : WV a) (hb : WV b) (h : qsz a.val + qsz b.val < MX) : WV (subR a b) ∧ (subR a b).val = a.val - b.val := by
  have := add_ok ha (neg_WV hb) (by rw [neg_val, qsz_neg]; exact h)
  rw [neg_val, ← Rat.sub_eq_add_neg] at this
  exact this
theorem val_zero {r : SR} (h : WR r) : r.val = 0 ↔ r.num = 0 := by
  obtain ⟨k, h1, h2, h3⟩ := val_k h
  constructor
  · intro h0; rw [h2, h0]; simp
  · intro h0
    unfold SR.val
    rw [h0, Rat.zero_divInt]
theorem div_ok {a b : SR} (ha : WV a) (hb : WV b) (h0 : b.val ≠ 0) (h : qsz a.val + qsz b.val < MX) : WV (divR a b) ∧ (divR a b).val = a.val / b.val := by
  have hn : b.num ≠ 0 := fun h' => h0 ((val_zero hb.1).2 h')
  have inv : b.val⁻¹ = Rat.divInt b.den b.num := by unfold SR.val; exact Rat.inv_divInt _ _
  have small : ∀ n d : Int, b.num = n → b.den = d → n.natAbs < 2147483648 → 0 < d → d < 2147483648 → WV (invR n d) ∧ (invR n d).val = b.val⁻¹ := by
    intro n d e1 e2 x1 x2 x3
    rw [inv, e1, e2]
    rw [e1] at hn
    unfold invR
    split
    · refine ⟨⟨⟨by omega, by omega, by omega⟩, fun _ _ e => by cases e⟩, ?_⟩
      show Rat.divInt (-d) (-n) = _
      rw [Rat.neg_divInt_neg]
    · exact ⟨⟨⟨by omega, by omega, by omega⟩, fun _ _ e => by cases e⟩, rfl⟩
  have hq := qsz_inv h0
  have way : ∀ c : SR, WV c → c.val = b.val⁻¹ → WV (mulR a c) ∧ (mulR a c).val = a.val / b.val := by
    intro c hc he
    have := mul_ok ha hc (by rw [he]; omega)
    rw [he, ← Rat.div_def] at this
    exact this
  cases b with
  | small n d =>
    obtain ⟨x1, x2, x3⟩ := hb.1
    obtain ⟨w1, w2⟩ := small n d rfl rfl x1 x2 x3
    exact way _ w1 w2
  | lit n d =>
    obtain ⟨x1, x2, x3⟩ := hb.1
    obtain ⟨w1, w2⟩ := small n d rfl rfl x1 x2 x3
    exact way _ w1 w2
  | big p q =>
    obtain ⟨s1, s2, s3, s4, s5, s6, s7⟩ := cross_sz ha hb h
    have hv : a.val / (SR.big p q).val = Rat.divInt (a.num * q) (a.den * p) := by
      rw [Rat.div_def, inv]
      exact Rat.divInt_mul_divInt _ _
    rw [hv]
    exact bigR_ok (Int.mul_ne_zero (den_val_ne ha.1) hn) s1 s7
theorem sign_val {r : SR} (h : WR r) : r.num.sign = r.val.num.sign := by
  obtain ⟨k, h1, h2, h3⟩ := val_k h
  rw [h2, Int.sign_mul, Int.sign_eq_one_of_pos h1, Int.one_mul]
theorem cmp_val {a b : SR} (ha : WR a) (hb : WR b) : (a.num * b.den - b.num * a.den).sign = qcmp a.val b.val := by
  obtain ⟨k, h1, h2, h3⟩ := val_k ha
  obtain ⟨l, l1, l2, l3⟩ := val_k hb
  unfold qcmp
  have e : a.num * b.den - b.num * a.den = (k * l) * (a.val.num * b.val.den - b.val.num * a.val.den) := by
    rw [h2, h3, l2, l3]
    grind
  rw [e, Int.sign_mul, Int.sign_eq_one_of_pos (Int.mul_pos h1 l1), Int.one_mul]
theorem floor_val {r : SR} (h : WR r) : r.num / r.den = r.val.floor := by
  obtain ⟨k, h1, h2, h3⟩ := val_k h
  rw [Rat.floor_def]
  conv => lhs; rw [h2, h3]
  exact Int.mul_ediv_mul_of_pos _ _ h1
/-- A Q out of a fraction. -/
def oq (q : Rat) : Int × Int × Bool := if q.num.natAbs ≤ 1000000000000000000 ∧ q.den ≤ 1000000000000000000 then (q.num, q.den, true) else (0, 0, false)
theorem qOf_val {r : SR} (h : WV r) : qOfR r = oq r.val := by
  have small : ∀ n d : Int, r.num = n → r.den = d → n.natAbs < 2147483648 → 0 < d → d < 2147483648 → (n / (Int.gcd n d : Int), d / (Int.gcd n d : Int), true) = oq r.val := by
    intro n d e1 e2 x1 x2 x3
    obtain ⟨k1, k2⟩ := low_div (n := n) x2
    have v : r.val = Rat.divInt n d := by unfold SR.val; rw [e1, e2]
    rw [v, k1, k2]
    unfold oq
    have n1 := num_le n d
    have n2 := den_le (n := n) (d := d) (by omega)
    rw [if_pos ⟨by omega, by omega⟩]
  cases r with
  | small n d =>
    obtain ⟨x1, x2, x3⟩ := h.1
    exact small n d rfl rfl x1 x2 x3
  | lit n d =>
    obtain ⟨x1, x2, x3⟩ := h.1
    exact small n d rfl rfl x1 x2 x3
  | big p q =>
    obtain ⟨⟨x1, x2, x3⟩, hg⟩ := h
    have hg := hg p q rfl
    obtain ⟨e1, e2⟩ := low_div (n := p) x3
    rw [hg] at e1 e2
    simp at e1 e2
    have v1 : (SR.big p q).val = Rat.divInt p q := rfl
    rw [v1]
    unfold qOfR oq
    simp only
    rw [← e1, ← e2]
    have : (q.natAbs ≤ 1000000000000000000) ↔ (Rat.divInt p q).den ≤ 1000000000000000000 := by omega
    simp only [this]
end Go.Proofs.Ytmnplonkijkblaa.Ae

/-! The reference's fractions as opaque numbers. No condition. -/
namespace Go.Proofs.Ytmnplonkijkblaa.Ae
open Go Go.RowKit Go.Proofs.Ytmnplonkijkblaa.Dig

mutual
/-- No opaque number is in it. -/
def D.pl : D → Bool
  | .lit _ => true
  | .num _ _ => false
  | .agg ds => D.pls ds
  | .sl _ xs => D.pls xs
  | .ptr d => D.pl d
def D.pls : List D → Bool
  | [] => true
  | d :: ds => D.pl d && D.pls ds
end
theorem pls_at : ∀ (ds : List D) (i : Nat) (d : D), D.pls ds = true → ds[i]? = some d → d.pl = true
  | [], i, d, _, h => by simp at h
  | x :: ds, 0, d, hp, h => by
    simp at h
    subst h
    simp only [D.pls, Bool.and_eq_true] at hp
    exact hp.1
  | x :: ds, i + 1, d, hp, h => by
    simp only [D.pls, Bool.and_eq_true] at hp
    exact pls_at ds i d hp.2 (by simpa using h)
theorem Rep.plain {N N' : NR} {F : Nat → Prop} {w : World} {d : D} {cs : List Value} (h : Rep N F w d cs) (hp : d.pl = true) : Rep N' F w d cs := by
  induction h with
  | lit h => exact .lit h
  | num h => simp [D.pl] at hp
  | agg hl h ih =>
    simp only [D.pl] at hp
    exact .agg hl (fun i d cs h1 h2 => ih i d cs h1 h2 (pls_at _ i d hp h1))
  | sl A c es hc hm ha h ih =>
    simp only [D.pl] at hp
    exact .sl A c es hc hm ha (fun i d h1 => ih i d h1 (pls_at _ i d hp h1))
  | ptr b off es hb hc h ih =>
    simp only [D.pl] at hp
    exact .ptr b off es hb hc (ih hp)
def NN : NR := ⟨fun _ _ _ _ _ => False, fun h => h.elim, fun h => h.elim, fun _ h => h.elim⟩
/-- A number of the kind 1 is a fraction of the reference with that worth. -/
def NF : NR where
  R k F w q cs := k = 1 ∧ ∃ r, WV r ∧ r.val = q ∧ Rep NN F w (eR r) cs
  len := by
    rintro k F w q cs ⟨rfl, r, _, _, h⟩
    rw [h.len, eR_size]; rfl
  one := by
    rintro k F w q cs ⟨rfl, r, _, _, h⟩
    exact h.one
  mono := by
    rintro k F F' w w' q cs hF ⟨rfl, r, h1, h2, h⟩
    exact ⟨rfl, r, h1, h2, h.mono hF⟩
theorem pls_dg : ∀ l : List Nat, D.pls (l.map dg) = true
  | [] => rfl
  | x :: l => by simp only [List.map_cons, D.pls, pls_dg l, dg, D.pl, Bool.and_self]
theorem pl_eZ (z : Int) : (eZ z).pl = true := by
  simp only [eZ, eM, eW, D.pl, D.pls, pls_dg, Bool.and_self]
theorem pl_eR (r : SR) : (eR r).pl = true := by
  cases r <;> simp [eR, D.pl, D.pls, i64D, pl_eZ]

inductive Cv : D → D → Prop
  | same (d : D) (h : ∀ k q, d ≠ .num k q) : Cv d d
  | num (r : SR) (h : WV r) : Cv (.num 1 r.val) (eR r)
def CvL : List D → List D → Prop
  | [], [] => True
  | x :: a, y :: b => Cv x y ∧ CvL a b
  | _, _ => False
theorem cv_in {F : Nat → Prop} {w : World} {d : D} {v : Value} (h : RepV NF F w d v) : ∃ d', Cv d d' ∧ RepV NF F w d' v := by
  cases d with
  | num k q =>
    obtain ⟨cs, hr, hv⟩ := h
    cases hr with
    | num hr =>
      obtain ⟨rfl, r, h1, rfl, h3⟩ := hr
      refine ⟨eR r, .num r h1, cs, h3.plain (pl_eR r), ?_⟩
      rw [hv]
      unfold mkV
      rw [eR_isAgg]
      rfl
  | _ => exact ⟨_, .same _ (fun k q e => by cases e), h⟩
theorem cv_out {F : Nat → Prop} {w : World} {d d' : D} {v : Value} (hc : Cv d d') (h : RepV NF F w d' v) : RepV NF F w d v := by
  cases hc with
  | same _ _ => exact h
  | num r hw =>
    obtain ⟨cs, hr, hv⟩ := h
    refine ⟨cs, .num ⟨rfl, r, hw, rfl, hr.plain (pl_eR r)⟩, ?_⟩
    rw [hv]
    unfold mkV
    rw [eR_isAgg]
    rfl
theorem cvL_in {F : Nat → Prop} {w : World} : ∀ (ds : List D) (vs : List Value), RepVs NF F w ds vs → ∃ ds', CvL ds ds' ∧ RepVs NF F w ds' vs
  | [], vs, h => ⟨[], trivial, h⟩
  | d :: ds, [], h => by have := h.1; simp at this
  | d :: ds, v :: vs, h => by
    obtain ⟨d', c1, r1⟩ := cv_in (h.2 0 d v rfl rfl)
    obtain ⟨ds', c2, r2⟩ := cvL_in ds vs ⟨by simpa using h.1, fun i d v h1 h2 => h.2 (i + 1) d v (by simpa using h1) (by simpa using h2)⟩
    refine ⟨d' :: ds', ⟨c1, c2⟩, by simp only [List.length_cons]; rw [r2.1], fun i e u h1 h2 => ?_⟩
    cases i with
    | zero =>
      simp only [List.getElem?_cons_zero, Option.some.injEq] at h1 h2
      subst h1 h2
      exact r1
    | succ i => exact r2.2 i e u (by simpa using h1) (by simpa using h2)
theorem cvL_out {F : Nat → Prop} {w : World} : ∀ (ds ds' : List D) (vs : List Value), CvL ds ds' → RepVs NF F w ds' vs → RepVs NF F w ds vs
  | [], [], vs, _, h => h
  | d :: ds, d' :: ds', [], _, h => by have := h.1; simp at this
  | d :: ds, d' :: ds', v :: vs, hc, h => by
    have r1 := cv_out hc.1 (h.2 0 d' v rfl rfl)
    have r2 := cvL_out ds ds' vs hc.2 ⟨by simpa using h.1, fun i d v h1 h2 => h.2 (i + 1) d v (by simpa using h1) (by simpa using h2)⟩
    refine ⟨by simp only [List.length_cons]; rw [r2.1], fun i e u h1 h2 => ?_⟩
    cases i with
    | zero =>
      simp only [List.getElem?_cons_zero, Option.some.injEq] at h1 h2
      subst h1 h2
      exact r1
    | succ i => exact r2.2 i e u (by simpa using h1) (by simpa using h2)
  | [], _ :: _, _, hc, _ => hc.elim
  | _ :: _, [], _, hc, _ => hc.elim
theorem cvR_out {F : Nat → Prop} {w : World} {ds ds' : List D} {v : Value} (hc : CvL ds ds') (h : RepRes NF F w ds' v) : RepRes NF F w ds v := by
  cases ds with
  | nil =>
    cases ds' with
    | nil => exact h
    | cons => exact hc.elim
  | cons d t =>
    cases ds' with
    | nil => exact hc.elim
    | cons d' t' =>
      cases t with
      | nil =>
        cases t' with
        | nil => exact cv_out hc.1 h
        | cons => exact hc.2.elim
      | cons e t =>
        cases t' with
        | nil => exact hc.2.elim
        | cons e' t' =>
          obtain ⟨vs, h1, h2⟩ := h
          exact ⟨vs, h1, cvL_out _ _ _ hc h2⟩
/-- A contract over the reference's fractions is one over opaque numbers. -/
theorem specD_num {P : Program} {f : FuncId} {g g' : List D → Prop × List D} (h : SpecD NF P f g) (hg : ∀ ds', (g' ds').1 → ∀ ds, CvL ds' ds → (g ds).1 ∧ CvL (g' ds').2 (g ds).2) : SpecD NF P f g' := by
  intro ds' hp F w vs hF hr
  obtain ⟨ds, c, hr'⟩ := cvL_in ds' vs hr
  obtain ⟨h1, h2⟩ := hg ds' hp ds c
  exact (h ds h1 F w vs hF hr').mono fun e w' ⟨v, he, hv, hfr⟩ => ⟨v, he, cvR_out h2 hv, hfr⟩
/-- The same for contracts over inputs of a kind. -/
theorem specD_num' {P : Program} {f : FuncId} {g : List D → Prop × List D} {β : Type} {e' : β → List D} {pre' : β → Prop} {post' : β → List D} (h : SpecD NF P f g) (hg : ∀ b, pre' b → ∀ ds, CvL (e' b) ds → (g ds).1 ∧ CvL (post' b) (g ds).2) : SpecD NF P f (ctD e' pre' post') := by
  refine specD_num h (fun ds' hp ds hc => ?_)
  obtain ⟨b, rfl, h1, h2⟩ := ctD_pre hp
  rw [h2]
  exact hg b h1 ds hc
theorem cv_num {q : Rat} {d : D} (h : Cv (.num 1 q) d) : ∃ r, WV r ∧ r.val = q ∧ d = eR r := by
  generalize hx : D.num 1 q = x at h
  cases h with
  | same _ hh => exact absurd hx.symm (hh 1 q)
  | num r hw =>
    injection hx with _ hx
    exact ⟨r, hw, hx.symm, rfl⟩
theorem cv_same {d d' : D} (hd : ∀ k q, d ≠ .num k q) (h : Cv d d') : d' = d := by
  cases h with
  | same _ _ => rfl
  | num r _ => exact absurd rfl (hd 1 r.val)
theorem cv_to {r : SR} {q : Rat} (h : WV r ∧ r.val = q) : Cv (.num 1 q) (eR r) := by
  obtain ⟨h1, rfl⟩ := h
  exact .num r h1
theorem cv1 {q : Rat} {ds : List D} (h : CvL [.num 1 q] ds) : ∃ r, WV r ∧ r.val = q ∧ ds = [eR r] := by
  cases ds with
  | nil => exact h.elim
  | cons d t =>
    cases t with
    | cons e t => exact h.2.elim
    | nil =>
      obtain ⟨r, h1, h2, rfl⟩ := cv_num h.1
      exact ⟨r, h1, h2, rfl⟩
theorem cv2 {q p : Rat} {ds : List D} (h : CvL [.num 1 q, .num 1 p] ds) : ∃ r s, WV r ∧ r.val = q ∧ WV s ∧ s.val = p ∧ ds = [eR r, eR s] := by
  cases ds with
  | nil => exact h.elim
  | cons d t =>
    obtain ⟨r, h1, h2, rfl⟩ := cv_num h.1
    obtain ⟨s, h3, h4, rfl⟩ := cv1 h.2
    exact ⟨r, s, h1, h2, h3, h4, rfl⟩
theorem cvs1 {d : D} {ds : List D} (hd : ∀ k q, d ≠ .num k q) (h : CvL [d] ds) : ds = [d] := by
  cases ds with
  | nil => exact h.elim
  | cons e t =>
    cases t with
    | cons e t => exact h.2.elim
    | nil => rw [cv_same hd h.1]
theorem cvs2 {d e : D} {ds : List D} (hd : ∀ k q, d ≠ .num k q) (he : ∀ k q, e ≠ .num k q) (h : CvL [d, e] ds) : ds = [d, e] := by
  cases ds with
  | nil => exact h.elim
  | cons x t => rw [cv_same hd h.1, cvs1 he h.2]
theorem cvo1 {d : D} (hd : ∀ k q, d ≠ .num k q) : CvL [d] [d] := ⟨.same d hd, trivial⟩
theorem cvo2 {d e : D} (hd : ∀ k q, d ≠ .num k q) (he : ∀ k q, e ≠ .num k q) : CvL [d, e] [d, e] := ⟨.same d hd, .same e he, trivial⟩

def nD (q : Rat) : D := .num 1 q
@[simp] theorem nD_size (q : Rat) : (nD q).size = 3 := rfl
@[simp] theorem nD_agg (q : Rat) : (nD q).isAgg = true := rfl
@[simp] theorem nD_lit (q : Rat) : (nD q).isLit = false := rfl
theorem nD_inj {a b : Rat} (h : nD a = nD b) : a = b := by unfold nD at h; injection h
def f1E (p : Q1) : List D := [nD p.a]
theorem f1E_inj (p q : Q1) (h : f1E p = f1E q) : p = q := by
  obtain ⟨a⟩ := p; obtain ⟨b⟩ := q
  simp only [f1E, List.cons.injEq, and_true] at h
  rw [nD_inj h]
def f2E (p : Q2) : List D := [nD p.a, nD p.b]
theorem f2E_inj (p q : Q2) (h : f2E p = f2E q) : p = q := by
  obtain ⟨a, b⟩ := p; obtain ⟨c, d⟩ := q
  simp only [f2E, List.cons.injEq, and_true] at h
  rw [nD_inj h.1, nD_inj h.2]
end Go.Proofs.Ytmnplonkijkblaa.Ae

/-! impl.rat: what it holds; little, big, fit, ri, rq, low, neg. No condition. -/
namespace Go.Proofs.Ytmnplonkijkblaa.Ae
open Go Go.RowKit Go.Proofs.Ytmnplonkijkblaa.Dig
variable {N : NR}

def smallQ (q : Rat) : Prop := q.num.natAbs < 9223372036854775808 ∧ q.den < 9223372036854775808
instance (q : Rat) : Decidable (smallQ q) := by unfold smallQ; infer_instance
/-- A fraction as the program holds it. -/
def eRat (q : Rat) : D := if smallQ q then .agg [i64D q.num, i64D q.den, .lit (.pointer none)] else .agg [i64D 0, i64D 0, .ptr (eBR q)]
theorem eRat_s {q : Rat} (h : smallQ q) : eRat q = .agg [i64D q.num, i64D q.den, .lit (.pointer none)] := by unfold eRat; rw [if_pos h]
theorem eRat_b {q : Rat} (h : ¬ smallQ q) : eRat q = .agg [i64D 0, i64D 0, .ptr (eBR q)] := by unfold eRat; rw [if_neg h]
@[simp] theorem eRat_size (q : Rat) : (eRat q).size = 3 := by unfold eRat; split <;> rfl
@[simp] theorem eRat_agg (q : Rat) : (eRat q).isAgg = true := by unfold eRat; split <;> rfl
@[simp] theorem eRat_lit (q : Rat) : (eRat q).isLit = false := by unfold eRat; split <;> rfl
theorem eRat_inj {a b : Rat} (h : eRat a = eRat b) : a = b := by
  by_cases ha : smallQ a <;> by_cases hb : smallQ b
  · rw [eRat_s ha, eRat_s hb] at h
    simp only [D.agg.injEq, List.cons.injEq, and_true, i64D, D.lit.injEq, Value.int.injEq, true_and] at h
    exact Rat.ext h.1 (by omega)
  · rw [eRat_s ha, eRat_b hb] at h; simp at h
  · rw [eRat_b ha, eRat_s hb] at h; simp at h
  · rw [eRat_b ha, eRat_b hb] at h
    simp only [D.agg.injEq, List.cons.injEq, and_true, true_and, D.ptr.injEq] at h
    exact eBR_inj h
def r1E (p : Q1) : List D := [eRat p.a]
theorem r1E_inj (p q : Q1) (h : r1E p = r1E q) : p = q := by
  obtain ⟨a⟩ := p; obtain ⟨b⟩ := q
  simp only [r1E, List.cons.injEq, and_true] at h
  rw [eRat_inj h]
def r2E (p : Q2) : List D := [eRat p.a, eRat p.b]
theorem r2E_inj (p q : Q2) (h : r2E p = r2E q) : p = q := by
  obtain ⟨a, b⟩ := p; obtain ⟨c, d⟩ := q
  simp only [r2E, List.cons.injEq, and_true] at h
  rw [eRat_inj h.1, eRat_inj h.2]
def boolD (b : Bool) : D := .lit (.bool b)
theorem smallQ_qsz {q : Rat} (h : smallQ q) : qsz q ≤ 2 := by
  unfold smallQ at h
  exact Nat.max_le.2 ⟨ln_i64 (by omega), ln_i64 (by omega)⟩

/-! little -/
def lit31 (q : Rat) : Prop := q.num.natAbs < 2147483648 ∧ q.den < 2147483648
instance (q : Rat) : Decidable (lit31 q) := by unfold lit31; infer_instance
theorem lit31_small {q : Rat} (h : lit31 q) : smallQ q := ⟨by unfold lit31 at h; omega, by unfold lit31 at h; omega⟩
noncomputable def littleC := ctD r1E (fun p => True) (fun p => [boolD (decide (lit31 p.a))])
theorem littleC_at (a : Rat) : littleC [eRat a] = (True, [boolD (decide (lit31 a))]) := ctD_at r1E_inj ⟨a⟩
/-! big -/
noncomputable def bigIC := ctD r1E (fun p => True) (fun p => [.ptr (eBR p.a)])
theorem bigIC_at (a : Rat) : bigIC [eRat a] = (True, [.ptr (eBR a)]) := ctD_at r1E_inj ⟨a⟩
/-! fit -/
noncomputable def fitC := ctD pbE (fun p => qsz p.a < 1099511627776) (fun p => [eRat p.a])
theorem fitC_at (a : Rat) : fitC [.ptr (eBR a)] = (qsz a < 1099511627776, [eRat a]) := ctD_at pbE_inj ⟨a⟩
/-! ri, rq, low, neg -/
theorem smallQ_int {n : Int} (h : n.natAbs < 9223372036854775808) : smallQ (n : Rat) := ⟨by rw [Rat.num_intCast]; exact h, by rw [Rat.den_intCast]; decide⟩
noncomputable def riC := ctD z1E (fun p => p.a.natAbs < 9223372036854775808) (fun p => [eRat (p.a : Rat)])
theorem riC_at (a : Int) : riC [i64D a] = (a.natAbs < 9223372036854775808, [eRat (a : Rat)]) := ctD_at z1E_inj ⟨a⟩
/-- A fraction in lowest terms. -/
def QI (n d : Int) : Prop := 0 < d ∧ Int.gcd n d = 1 ∧ n.natAbs < 9223372036854775808 ∧ d < 9223372036854775808
theorem QI_num {n d : Int} (h : QI n d) : (Rat.divInt n d).num = n ∧ ((Rat.divInt n d).den : Int) = d := by
  obtain ⟨h1, h2, _⟩ := h
  obtain ⟨e1, e2⟩ := low_pos (a := n) h1
  rw [h2] at e1 e2
  rw [← e1, ← e2]
  simp
theorem QI_small {n d : Int} (h : QI n d) : smallQ (Rat.divInt n d) := by
  obtain ⟨e1, e2⟩ := QI_num h
  obtain ⟨h1, h2, h3, h4⟩ := h
  refine ⟨by rw [e1]; exact h3, by omega⟩
theorem eRat_QI {n d : Int} (h : QI n d) : eRat (Rat.divInt n d) = .agg [i64D n, i64D d, .lit (.pointer none)] := by
  obtain ⟨e1, e2⟩ := QI_num h
  rw [eRat_s (QI_small h), e1, e2]
noncomputable def rqC := ctD qE (fun p => QI p.a p.b) (fun p => [eRat (Rat.divInt p.a p.b)])
theorem rqC_at (a b : Int) : rqC [eQ a b] = (QI a b, [eRat (Rat.divInt a b)]) := ctD_at qE_inj ⟨a, b⟩
theorem rq_spec : SpecD N Try.prog 30 rqC := by
  refine rdD (mf := fun f => false) tbl_nil (fn := Try.f30) (by kernel_rfl) rfl (by kernel_rfl) ?_
  rintro ⟨a, b⟩ h
  have h : QI a b := h
  refine ⟨by show 1 ≤ 8; decide, ?_⟩
  simp only [qE, Try.f30, eRat_QI h, i64D, eQ]
  simp
theorem rq_ok : callable Try.prog 30 = true := by kernel_rfl

/-! low -/
noncomputable def lowC := ctD iiE (fun p => p.a.natAbs < 9223372036854775808 ∧ 0 < p.b ∧ p.b < 9223372036854775808) (fun p => [eRat (Rat.divInt p.a p.b)])
theorem lowC_at (a b : Int) : lowC [i64D a, i64D b] = ((a.natAbs < 9223372036854775808 ∧ 0 < b ∧ b < 9223372036854775808), [eRat (Rat.divInt a b)]) := ctD_at iiE_inj ⟨a, b⟩
noncomputable def lowTb : List (FuncId × Ct) := [(46, .data absC), (45, .data gcdC)]
theorem lowTb_ok : TbOK N Try.prog (tbl lowTb) := tbl_cons (c := .data absC) abs64_spec abs64_ok (tbl_cons (c := .data gcdC) gcd64_spec gcd64_ok tbl_nil)

@[simp] theorem lowTb1 : tbl lowTb 46 = some (.data absC) := rfl
@[simp] theorem lowTb2 : tbl lowTb 45 = some (.data gcdC) := rfl
theorem small_divInt {n d : Int} (hn : n.natAbs < 9223372036854775808) (h0 : 0 < d) (hd : d < 9223372036854775808) : smallQ (Rat.divInt n d) :=
  ⟨Nat.lt_of_le_of_lt (num_le n d) hn, Nat.lt_of_le_of_lt (den_le (by omega)) (by omega)⟩
/-! neg -/
noncomputable def rngC := ctD r1E (fun p => qsz p.a < MX) (fun p => [eRat (-p.a)])
theorem rngC_at (a : Rat) : rngC [eRat a] = (qsz a < MX, [eRat (-a)]) := ctD_at r1E_inj ⟨a⟩
theorem smallQ_neg {a : Rat} : smallQ (-a) ↔ smallQ a := by unfold smallQ; rw [Rat.neg_num, Rat.neg_den, Int.natAbs_neg]
end Go.Proofs.Ytmnplonkijkblaa.Ae

/-! impl.rat: add, sub. No condition. -/
namespace Go.Proofs.Ytmnplonkijkblaa.Ae
open Go Go.RowKit Go.Proofs.Ytmnplonkijkblaa.Dig
variable {N : NR}

theorem rat_eq (a : Rat) : a = (a.num : Rat) / ((a.den : Int) : Rat) := by
  rw [← Rat.divInt_eq_div, Rat.num_divInt_den]
theorem den_rz (a : Rat) : ((a.den : Int) : Rat) ≠ 0 := by
  intro h
  exact dz a (by exact_mod_cast h)
theorem add_same {a b : Rat} (h : a.den = b.den) : a + b = Rat.divInt (a.num + b.num) a.den := by
  have h1 := rat_eq a
  have h2 := rat_eq b
  rw [← h] at h2
  rw [Rat.divInt_eq_div, Rat.intCast_add]
  have h3 := den_rz a
  grind
theorem sub_same {a b : Rat} (h : a.den = b.den) : a - b = Rat.divInt (a.num - b.num) a.den := by
  have h1 := rat_eq a
  have h2 := rat_eq b
  rw [← h] at h2
  rw [Rat.divInt_eq_div, Rat.intCast_sub]
  have h3 := den_rz a
  grind
theorem sub_divInt (a b : Rat) : a - b = Rat.divInt (a.num * b.den - b.num * a.den) (a.den * b.den) := by
  have := add_divInt a (-b)
  rw [Rat.neg_num, Rat.neg_den, Int.neg_mul, ← Int.sub_eq_add_neg, ← Rat.sub_eq_add_neg] at this
  exact this
def raMf : FuncId → Bool := fun f => f == 99999999 || f == 99999999 || f == 99999999
attribute [simp] raMf
theorem prod31 {n d : Int} (hn : n.natAbs < 2147483648) (hd : 0 < d ∧ d < 2147483648) : -4611686018427387904 < n * d ∧ n * d < 4611686018427387904 := prod_bd hn hd

noncomputable def raddC := ctD r2E (fun p => qsz p.a + qsz p.b < MX) (fun p => [eRat (p.a + p.b)])
theorem raddC_at (a b : Rat) : raddC [eRat a, eRat b] = (qsz a + qsz b < MX, [eRat (a + b)]) := ctD_at r2E_inj ⟨a, b⟩
noncomputable def rsubC := ctD r2E (fun p => qsz p.a + qsz p.b < MX) (fun p => [eRat (p.a - p.b)])
theorem rsubC_at (a b : Rat) : rsubC [eRat a, eRat b] = (qsz a + qsz b < MX, [eRat (a - b)]) := ctD_at r2E_inj ⟨a, b⟩
end Go.Proofs.Ytmnplonkijkblaa.Ae

/-! impl.rat: inv, sign, q, floor, fromInt; math/bits.Mul64. No condition. -/
namespace Go.Proofs.Ytmnplonkijkblaa.Ae
open Go Go.RowKit Go.Proofs.Ytmnplonkijkblaa.Dig
variable {N : NR}

/-! sign -/
noncomputable def rsgC := ctD r1E (fun p => True) (fun p => [i64D p.a.num.sign])
theorem rsgC_at (a : Rat) : rsgC [eRat a] = (True, [i64D a.num.sign]) := ctD_at r1E_inj ⟨a⟩
noncomputable def rsgTb : List (FuncId × Ct) := [(47, .data bsgC)]
theorem rsgTb_ok : TbOK N Try.prog (tbl rsgTb) := tbl_cons (c := .data bsgC) RSign_spec RSign_ok tbl_nil

@[simp] theorem rsgTb1 : tbl rsgTb 47 = some (.data bsgC) := rfl
theorem rsign_spec : SpecD N Try.prog 40 rsgC := by
  refine rdD (mf := fun f => false) rsgTb_ok (fn := Try.f40) (by kernel_rfl) rfl (by kernel_rfl) ?_
  rintro ⟨a⟩ _
  refine ⟨by show 1 ≤ 17; decide, ?_⟩
  simp only [r1E, Try.f40]
  by_cases hs : smallQ a
  · rw [eRat_s hs]
    rcases Int.lt_trichotomy a.num 0 with h | h | h
    · rw [Int.sign_eq_neg_one_of_neg h]
      simp [i64D, h]
    · rw [h]
      simp [i64D]
    · rw [Int.sign_eq_one_of_pos h]
      have h1 : ¬ a.num < 0 := by omega
      simp [i64D, h, h1]
  · rw [eRat_b hs]
    have c1 := bsgC_at a
    simp only [i64D] at c1
    simp [i64D, c1]
theorem rsign_ok : callable Try.prog 40 = true := by kernel_rfl

/-! inv -/
noncomputable def rinvC := ctD r1E (fun p => qsz p.a < MX ∧ p.a ≠ 0) (fun p => [eRat p.a⁻¹])
theorem rinvC_at (a : Rat) : rinvC [eRat a] = ((qsz a < MX ∧ a ≠ 0), [eRat a⁻¹]) := ctD_at r1E_inj ⟨a⟩
theorem inv_pos {a : Rat} (h : 0 < a.num) : a⁻¹.num = a.den ∧ (a⁻¹.den : Int) = a.num := by
  have hr : Int.gcd a.den a.num = 1 := by rw [Int.gcd_comm]; exact a.reduced
  rw [inv_divInt]
  obtain ⟨e1, e2⟩ := low_pos (a := a.den) h
  rw [hr] at e1 e2
  rw [← e1, ← e2]
  simp
theorem inv_neg {a : Rat} (h : a.num < 0) : a⁻¹.num = -(a.den : Int) ∧ (a⁻¹.den : Int) = -a.num := by
  have hr : Int.gcd a.den a.num = 1 := by rw [Int.gcd_comm]; exact a.reduced
  rw [inv_divInt]
  obtain ⟨e1, e2⟩ := low_neg (a := a.den) h
  rw [hr] at e1 e2
  rw [← e1, ← e2]
  simp [Int.tdiv_neg]
/-! q -/
def MN : Int := 1000000000000000000
def isQ (q : Rat) : Prop := q.num.natAbs ≤ 1000000000000000000 ∧ q.den ≤ 1000000000000000000
instance (q : Rat) : Decidable (isQ q) := by unfold isQ; infer_instance
def oQ (q : Rat) : List D := if isQ q then [eQ q.num q.den, boolD true] else [eQ 0 0, boolD false]
noncomputable def rqqC := ctD r1E (fun p => True) (fun p => oQ p.a)
theorem rqqC_at (a : Rat) : rqqC [eRat a] = (True, oQ a) := ctD_at r1E_inj ⟨a⟩
theorem rqq_spec : SpecD N Try.prog 32 rqqC := by
  refine rdD (mf := fun f => false) tbl_nil (fn := Try.f32) (by kernel_rfl) rfl (by kernel_rfl) ?_
  rintro ⟨a⟩ _
  refine ⟨by show 1 ≤ 28; decide, ?_⟩
  simp only [r1E, Try.f32, boolD]
  by_cases hs : smallQ a
  · rw [eRat_s hs]
    unfold oQ
    by_cases hq : isQ a
    · rw [if_pos hq]
      unfold isQ at hq
      have h1 : ¬ a.num < -1000000000000000000 := by omega
      have h2 : ¬ 1000000000000000000 < a.num := by omega
      have h3 : ¬ (1000000000000000000 : Int) < a.den := by omega
      simp [i64D, eQ, boolD, h1, h2, h3]
    · rw [if_neg hq]
      unfold isQ at hq
      by_cases h1 : a.num < -1000000000000000000
      · simp [i64D, eQ, boolD, h1]
      · by_cases h2 : 1000000000000000000 < a.num
        · simp [i64D, eQ, boolD, h1, h2]
        · have h3 : (1000000000000000000 : Int) < a.den := by omega
          simp [i64D, eQ, boolD, h1, h2, h3]
  · have hq : ¬ isQ a := by unfold smallQ at hs; unfold isQ; omega
    unfold oQ
    rw [eRat_b hs, if_neg hq]
    simp [i64D, eQ, boolD]
theorem rqq_ok : callable Try.prog 32 = true := by kernel_rfl

/-! floor, fromInt -/
noncomputable def rflC := ctD r1E (fun p => qsz p.a < MX) (fun p => [.ptr (eZ p.a.floor)])
theorem rflC_at (a : Rat) : rflC [eRat a] = (qsz a < MX, [.ptr (eZ a.floor)]) := ctD_at r1E_inj ⟨a⟩
noncomputable def fiC := ctD pE (fun p => ln p.a.natAbs < MX) (fun p => [eRat (p.a : Rat)])
theorem fiC_at (a : Int) : fiC [.ptr (eZ a)] = (ln a.natAbs < MX, [eRat (a : Rat)]) := ctD_at pE_inj ⟨a⟩
theorem qsz_int (a : Int) : qsz (a : Rat) = max (ln a.natAbs) 1 := by unfold qsz; rw [Rat.num_intCast, Rat.den_intCast, ln_one]
/-! Mul64 -/
noncomputable def m64C := ctD uuE (fun p => p.a < 18446744073709551616 ∧ p.b < 18446744073709551616) (fun p => [u64D (p.a * p.b / 18446744073709551616), u64D (p.a * p.b % 18446744073709551616)])
theorem m64C_at (a b : Nat) : m64C [u64D a, u64D b] = ((a < 18446744073709551616 ∧ b < 18446744073709551616), [u64D (a * b / 18446744073709551616), u64D (a * b % 18446744073709551616)]) := ctD_at uuE_inj ⟨a, b⟩
theorem and32 (x : Nat) (h : x < 18446744073709551616) : bAnd .u64 x 4294967295 = ((x % 4294967296 : Nat) : Int) := by
  have := bAnd64 x 4294967295 h (by decide)
  rw [show (x &&& 4294967295) = x % 4294967296 from Nat.and_two_pow_sub_one_eq_mod x 32] at this
  exact this
theorem mul_split (x1 x0 y1 y0 : Nat) : (x1 * 4294967296 + x0) * (y1 * 4294967296 + y0) = x1 * y1 * 18446744073709551616 + (x1 * y0 + x0 * y1) * 4294967296 + x0 * y0 := by
  grind
theorem bd32 {x y : Nat} (hx : x < 4294967296) (hy : y < 4294967296) : x * y ≤ 18446744065119617025 := by
  have := Nat.mul_le_mul (show x ≤ 4294967295 by omega) (show y ≤ 4294967295 by omega)
  omega
end Go.Proofs.Ytmnplonkijkblaa.Ae

/-! impl.rat: mul, div. No condition. -/
namespace Go.Proofs.Ytmnplonkijkblaa.Ae
open Go Go.RowKit Go.Proofs.Ytmnplonkijkblaa.Dig
variable {N : NR}

theorem mul_low (a b : Rat) : (a * b).num = (a.num.tdiv (Nat.gcd a.num.natAbs b.den)) * (b.num.tdiv (Nat.gcd b.num.natAbs a.den)) ∧ (a * b).den = (a.den / Nat.gcd b.num.natAbs a.den) * (b.den / Nat.gcd a.num.natAbs b.den) := by
  have h1 : (Nat.gcd a.num.natAbs b.den : Int) ∣ a.num := Int.ofNat_dvd_left.2 (Nat.gcd_dvd_left _ _)
  have h2 : (Nat.gcd b.num.natAbs a.den : Int) ∣ b.num := Int.ofNat_dvd_left.2 (Nat.gcd_dvd_left _ _)
  rw [Int.tdiv_eq_ediv_of_dvd h1, Int.tdiv_eq_ediv_of_dvd h2]
  show (Rat.mul a b).num = _ ∧ (Rat.mul a b).den = _
  unfold Rat.mul
  simp
noncomputable def rmC := ctD r2E (fun p => qsz p.a + qsz p.b < MX) (fun p => [eRat (p.a * p.b)])
theorem rmC_at (a b : Rat) : rmC [eRat a, eRat b] = (qsz a + qsz b < MX, [eRat (a * b)]) := ctD_at r2E_inj ⟨a, b⟩
noncomputable def rmTb : List (FuncId × Ct) := [(46, .data absC), (45, .data gcdC)]
theorem rmTb_ok : TbOK N Try.prog (tbl rmTb) := tbl_cons (c := .data absC) abs64_spec abs64_ok (tbl_cons (c := .data gcdC) gcd64_spec gcd64_ok tbl_nil)

@[simp] theorem rmTb7 : tbl rmTb 46 = some (.data absC) := rfl
@[simp] theorem rmTb8 : tbl rmTb 45 = some (.data gcdC) := rfl
/-- What the third way of mul reckons with: the parts without what divides both. -/
theorem mul_way {n n' : Int} {d d' g h : Nat} (hg : g = Nat.gcd n.natAbs d') (hh : h = Nat.gcd n'.natAbs d) (hd : 0 < d) (hd' : 0 < d') (hn : n.natAbs < 9223372036854775808) (hn' : n'.natAbs < 9223372036854775808) (hdl : d < 9223372036854775808) (hdl' : d' < 9223372036854775808) :
    0 < g ∧ 0 < h ∧ g < 9223372036854775808 ∧ h < 9223372036854775808 ∧ (n.tdiv g).natAbs < 9223372036854775808 ∧ (n'.tdiv h).natAbs < 9223372036854775808 ∧ Int.tdiv d h = ((d / h : Nat) : Int) ∧ Int.tdiv d' g = ((d' / g : Nat) : Int) ∧ d / h < 9223372036854775808 ∧ d' / g < 9223372036854775808 := by
  have g1 : 0 < g := by rw [hg]; exact Nat.gcd_pos_of_pos_right _ hd'
  have h1 : 0 < h := by rw [hh]; exact Nat.gcd_pos_of_pos_right _ hd
  have g2 : g ≤ d' := by rw [hg]; exact Nat.le_of_dvd hd' (Nat.gcd_dvd_right _ _)
  have h2 : h ≤ d := by rw [hh]; exact Nat.le_of_dvd hd (Nat.gcd_dvd_right _ _)
  have b1 : (n.tdiv g).natAbs ≤ n.natAbs := by rw [Int.natAbs_tdiv]; exact Nat.div_le_self _ _
  have b2 : (n'.tdiv h).natAbs ≤ n'.natAbs := by rw [Int.natAbs_tdiv]; exact Nat.div_le_self _ _
  have b3 := Nat.div_le_self d h
  have b4 := Nat.div_le_self d' g
  exact ⟨g1, h1, by omega, by omega, by omega, by omega, tdiv_nat d h, tdiv_nat d' g, by omega, by omega⟩
theorem sign_prod (x y : Int) (h : (x * y).natAbs < 9223372036854775808) : (if (decide (x < 0) != decide (y < 0)) = true then IntKind.i64.wrap (-((x.natAbs * y.natAbs : Nat) : Int)) else ((x.natAbs * y.natAbs : Nat) : Int)) = x * y := by
  rw [← Int.natAbs_mul]
  by_cases hx : x < 0 <;> by_cases hy : y < 0
  · have := Int.mul_pos_of_neg_of_neg hx hy
    simp [hx, hy]; omega
  · have : x * y ≤ 0 := Int.mul_nonpos_of_nonpos_of_nonneg (by omega) (by omega)
    simp [hx, hy]
    rw [i64_id _ (by omega) (by omega)]; omega
  · have : x * y ≤ 0 := Int.mul_nonpos_of_nonneg_of_nonpos (by omega) (by omega)
    simp [hx, hy]
    rw [i64_id _ (by omega) (by omega)]; omega
  · have : 0 ≤ x * y := Int.mul_nonneg (by omega) (by omega)
    simp [hx, hy]; omega
def rmMf : FuncId → Bool := fun f => f == 99999999 || f == 99999999
attribute [simp] rmMf
/-! div -/
noncomputable def rdvC := ctD r2E (fun p => qsz p.a + qsz p.b < MX ∧ p.b ≠ 0) (fun p => [eRat (p.a / p.b)])
theorem rdvC_at (a b : Rat) : rdvC [eRat a, eRat b] = ((qsz a + qsz b < MX ∧ b ≠ 0), [eRat (a / b)]) := ctD_at r2E_inj ⟨a, b⟩
end Go.Proofs.Ytmnplonkijkblaa.Ae

/-! impl.rat: cmp; impl.QOk, allQ. No condition. -/
namespace Go.Proofs.Ytmnplonkijkblaa.Ae
open Go Go.RowKit Go.Proofs.Ytmnplonkijkblaa.Dig
variable {N : NR}

noncomputable def rcC := ctD r2E (fun p => qsz p.a + qsz p.b < MX) (fun p => [i64D (qcmp p.a p.b)])
theorem rcC_at (a b : Rat) : rcC [eRat a, eRat b] = (qsz a + qsz b < MX, [i64D (qcmp a b)]) := ctD_at r2E_inj ⟨a, b⟩
noncomputable def rcTb : List (FuncId × Ct) := [(40, .data rsgC), (46, .data absC)]
theorem rcTb_ok : TbOK N Try.prog (tbl rcTb) := tbl_cons (c := .data rsgC) rsign_spec rsign_ok (tbl_cons (c := .data absC) abs64_spec abs64_ok tbl_nil)

@[simp] theorem rcTb1 : tbl rcTb 40 = some (.data rsgC) := rfl
@[simp] theorem rcTb4 : tbl rcTb 46 = some (.data absC) := rfl
theorem qcmp_same {a b : Rat} (h : a.den = b.den) : qcmp a b = (a.num - b.num).sign := by
  unfold qcmp
  rw [h, ← Int.sub_mul, Int.sign_mul, Int.sign_eq_one_of_pos (show 0 < (b.den : Int) by have := b.den_pos; omega), Int.mul_one]
theorem sgn_cases (x : Int) : (x < 0 ∧ x.sign = -1) ∨ (x = 0 ∧ x.sign = 0) ∨ (0 < x ∧ x.sign = 1) := by
  rcases Int.lt_trichotomy x 0 with h | h | h
  · exact .inl ⟨h, Int.sign_eq_neg_one_of_neg h⟩
  · exact .inr (.inl ⟨h, by rw [h]; rfl⟩)
  · exact .inr (.inr ⟨h, Int.sign_eq_one_of_pos h⟩)
/-- By the signs, and by the products' sizes. -/
theorem qcmp_way (a b : Rat) : (a.num.sign < b.num.sign → qcmp a b = -1) ∧ (b.num.sign < a.num.sign → qcmp a b = 1) ∧
    (a.num.sign = b.num.sign → (a.num.natAbs * b.den < b.num.natAbs * a.den → qcmp a b = -a.num.sign) ∧ (b.num.natAbs * a.den < a.num.natAbs * b.den → qcmp a b = a.num.sign) ∧ (a.num.natAbs * b.den = b.num.natAbs * a.den → qcmp a b = 0)) := by
  have da := a.den_pos
  have db := b.den_pos
  have e1 : a.num = a.num.sign * a.num.natAbs := (Int.sign_mul_natAbs a.num).symm
  have e2 : b.num = b.num.sign * b.num.natAbs := (Int.sign_mul_natAbs b.num).symm
  have m1 : a.num * b.den = a.num.sign * ((a.num.natAbs * b.den : Nat) : Int) := by rw [Int.natCast_mul, ← Int.mul_assoc, ← e1]
  have m2 : b.num * a.den = b.num.sign * ((b.num.natAbs * a.den : Nat) : Int) := by rw [Int.natCast_mul, ← Int.mul_assoc, ← e2]
  have p1 : a.num.sign ≠ 0 → 0 < a.num.natAbs * b.den := fun h => Nat.mul_pos (by rcases sgn_cases a.num with ⟨h1, h2⟩ | ⟨h1, h2⟩ | ⟨h1, h2⟩ <;> omega) db
  have p2 : b.num.sign ≠ 0 → 0 < b.num.natAbs * a.den := fun h => Nat.mul_pos (by rcases sgn_cases b.num with ⟨h1, h2⟩ | ⟨h1, h2⟩ | ⟨h1, h2⟩ <;> omega) da
  have z1 : a.num.sign = 0 → a.num.natAbs * b.den = 0 := fun h => by
    have : a.num.natAbs = 0 := by rcases sgn_cases a.num with ⟨h1, h2⟩ | ⟨h1, h2⟩ | ⟨h1, h2⟩ <;> omega
    rw [this, Nat.zero_mul]
  have z2 : b.num.sign = 0 → b.num.natAbs * a.den = 0 := fun h => by
    have : b.num.natAbs = 0 := by rcases sgn_cases b.num with ⟨h1, h2⟩ | ⟨h1, h2⟩ | ⟨h1, h2⟩ <;> omega
    rw [this, Nat.zero_mul]
  unfold qcmp
  rw [m1, m2]
  have h1 := sgn_cases a.num
  have h2 := sgn_cases b.num
  generalize a.num.natAbs * b.den = A at *
  generalize b.num.natAbs * a.den = C at *
  generalize a.num.sign = s at *
  generalize b.num.sign = t at *
  have hs : s = -1 ∨ s = 0 ∨ s = 1 := by rcases h1 with ⟨_, h⟩ | ⟨_, h⟩ | ⟨_, h⟩ <;> simp [h]
  have ht : t = -1 ∨ t = 0 ∨ t = 1 := by rcases h2 with ⟨_, h⟩ | ⟨_, h⟩ | ⟨_, h⟩ <;> simp [h]
  have neg : ∀ x : Int, x < 0 → x.sign = -1 := fun x h => Int.sign_eq_neg_one_of_neg h
  have pos : ∀ x : Int, 0 < x → x.sign = 1 := fun x h => Int.sign_eq_one_of_pos h
  clear h1 h2 m1 m2 e1 e2
  rcases hs with rfl | rfl | rfl <;> rcases ht with rfl | rfl | rfl <;> simp at p1 p2 z1 z2
  all_goals refine ⟨fun h => ?_, fun h => ?_, fun h => ⟨fun h' => ?_, fun h' => ?_, fun h' => ?_⟩⟩
  all_goals first
    | omega
    | (apply neg; omega)
    | (apply pos; omega)
    | (rw [neg _ (by omega)]; omega)
    | (rw [pos _ (by omega)]; omega)
    | (subst h'; simp; done)
    | (simp [*]; done)
/-! QOk, allQ -/
def qOk (n d : Int) : Prop := (1 ≤ d ∧ d ≤ 1000000000000000000) ∧ (-1000000000000000000 ≤ n ∧ n ≤ 1000000000000000000) ∧ Int.gcd n d = 1
instance (n d : Int) : Decidable (qOk n d) := by unfold qOk; infer_instance
theorem qOk_QI {n d : Int} (h : qOk n d) : QI n d := ⟨by unfold qOk at h; omega, h.2.2, by unfold qOk at h; omega, by unfold qOk at h; omega⟩
noncomputable def qokC := ctD qE (fun p => I64 p.a ∧ I64 p.b) (fun p => [boolD (decide (qOk p.a p.b))])
theorem qokC_at (a b : Int) : qokC [eQ a b] = ((I64 a ∧ I64 b), [boolD (decide (qOk a b))]) := ctD_at qE_inj ⟨a, b⟩
theorem iQOk_spec : SpecD N Try.prog 39 qokC := by
  refine rdD (mf := fun f => false) lowTb_ok (fn := Try.f39) (by kernel_rfl) rfl (by kernel_rfl) ?_
  rintro ⟨n, d⟩ ⟨hn, hd⟩
  have hn : I64 n := hn
  have hd : I64 d := hd
  refine ⟨by show 1 ≤ 31; decide, ?_⟩
  have c1 := absC_at n
  have c2 := gcdC_at n.natAbs d.natAbs
  unfold I64 at hd
  have h2 : n.natAbs < 18446744073709551616 := by unfold I64 at hn; omega
  have h3 : d.natAbs < 18446744073709551616 := by omega
  have e3 : Nat.gcd n.natAbs d.natAbs = Int.gcd n d := rfl
  simp only [hn, h2, h3, e3, and_self, u64D, i64D] at c1 c2
  simp only [qE, eQ, i64D, Try.f39, boolD]
  have hw : 1 ≤ d → IntKind.u64.wrap d = (d.natAbs : Int) := fun h => by rw [wrap_u64]; omega
  have e : decide (qOk n d) = (decide (1 ≤ d) && (decide (d ≤ 1000000000000000000) && (decide (-1000000000000000000 ≤ n) && (decide (n ≤ 1000000000000000000) && decide (Int.gcd n d = 1))))) := by
    rw [← Bool.decide_and, ← Bool.decide_and, ← Bool.decide_and, ← Bool.decide_and]
    congr 1
    apply propext
    unfold qOk
    constructor
    · rintro ⟨⟨a, b⟩, ⟨c, e⟩, f⟩; exact ⟨a, b, c, e, f⟩
    · rintro ⟨a, b, c, e, f⟩; exact ⟨⟨a, b⟩, ⟨c, e⟩, f⟩
  rw [e]
  clear e e3
  generalize Int.gcd n d = g at *
  by_cases h1 : 1 ≤ d
  · have w1 := hw h1
    by_cases h4 : d ≤ 1000000000000000000 <;> by_cases h5 : -1000000000000000000 ≤ n <;> by_cases h6 : n ≤ 1000000000000000000 <;> simp [h1, h4, h5, h6, w1, c1, c2]
    by_cases h7 : g = 1
    · subst h7; simp
    · have h7' : ¬ (g : Int) = 1 := by omega
      simp [h7, h7']
  · simp [h1]
theorem iQOk_ok : callable Try.prog 39 = true := by kernel_rfl

/-- A list of fractions as the program gets it. -/
structure QL where
  l : List (Int × Int)
def eQL (l : List (Int × Int)) : D := .sl 2 (l.map fun p => eQ p.1 p.2)
def qlE (p : QL) : List D := [eQL p.l]
theorem eQ_inj {a b c d : Int} (h : eQ a b = eQ c d) : a = c ∧ b = d := by
  simp only [eQ, D.agg.injEq, List.cons.injEq, and_true] at h
  exact ⟨i64D_inj h.1, i64D_inj h.2⟩
theorem eQL_inj : ∀ {a b : List (Int × Int)}, eQL a = eQL b → a = b
  | [], [], _ => rfl
  | x :: a, y :: b, h => by
    simp only [eQL, D.sl.injEq, List.map_cons, List.cons.injEq, true_and] at h
    obtain ⟨h1, h2⟩ := eQ_inj h.1
    have h3 : eQL a = eQL b := by unfold eQL; rw [h.2]
    rw [eQL_inj h3]
    congr 1
    exact Prod.ext h1 h2
  | [], _ :: _, h => by simp [eQL] at h
  | _ :: _, [], h => by simp [eQL] at h
theorem qlE_inj (p q : QL) (h : qlE p = qlE q) : p = q := by
  obtain ⟨a⟩ := p; obtain ⟨b⟩ := q
  simp only [qlE, List.cons.injEq, and_true] at h
  rw [eQL_inj h]
def I64p (p : Int × Int) : Prop := I64 p.1 ∧ I64 p.2
noncomputable def allQC := ctD qlE (fun p => p.l.length < 4611686018427387904 ∧ ∀ q ∈ p.l, I64p q) (fun p => [boolD (p.l.all fun q => decide (qOk q.1 q.2))])
theorem allQC_at (l : List (Int × Int)) : allQC [eQL l] = ((l.length < 4611686018427387904 ∧ ∀ q ∈ l, I64p q), [boolD (l.all fun q => decide (qOk q.1 q.2))]) := ctD_at qlE_inj ⟨l⟩
noncomputable def allQTb : List (FuncId × Ct) := [(39, .data qokC)]
theorem allQTb_ok : TbOK N Try.prog (tbl allQTb) := tbl_cons (c := .data qokC) iQOk_spec iQOk_ok tbl_nil

@[simp] theorem allQTb1 : tbl allQTb 39 = some (.data qokC) := rfl
@[simp] theorem eQ_size (n d : Int) : (eQ n d).size = 2 := rfl
@[simp] theorem eQ_agg (n d : Int) : (eQ n d).isAgg = true := rfl
@[simp] theorem eQ_lit (n d : Int) : (eQ n d).isLit = false := rfl
def allQS (l : List (Int × Int)) (k : Nat) : St := ⟨[.any, .any, .any, .any, .any, .dat (eQL l), .dat (.lit (.int .i64 l.length)), .dat (.lit (.int .i64 k)), .any, .any, .any, .any, .any, .any, .any], [none, none, none, none, none, none, none, none, none, none, none, none, none, none, none]⟩
theorem all_drop {α : Type} (f : α → Bool) (l : List α) (k : Nat) (x : α) (h : l[k]? = some x) (hb : ∀ y ∈ l.take k, f y = true) : (f x = false → l.all f = false) ∧ (f x = true → ∀ y ∈ l.take (k + 1), f y = true) := by
  constructor
  · intro hx
    rw [List.all_eq_false]
    exact ⟨x, List.mem_of_getElem? h, by rw [hx]; simp⟩
  · intro hx y hy
    rw [take_succ l k x h] at hy
    rcases List.mem_append.1 hy with hy | hy
    · exact hb y hy
    · simp at hy; rw [hy]; exact hx
theorem allQ_spec : SpecD N Try.prog 29 allQC := by
  refine rdD (mf := fun f => false) allQTb_ok (fn := Try.f29) (by kernel_rfl) rfl (by kernel_rfl) ?_
  rintro ⟨l⟩ ⟨hl, hb⟩
  have hl : l.length < 4611686018427387904 := hl
  have hb : ∀ q ∈ l, I64p q := hb
  refine ⟨by show 1 ≤ 15; decide, ?_⟩
  simp only [qlE, boolD, Try.f29]
  generalize hr : (l.all fun q => decide (qOk q.1 q.2)) = r
  simp [eQL]
  refine loop_go (fun n st => ∃ k, n = l.length - k ∧ k ≤ l.length ∧ (∀ y ∈ l.take k, decide (qOk y.1 y.2) = true) ∧ st = allQS l k) (s0 := allQS l 0) (n := l.length) (snd_of (by simp [LeT, allQS, eQL]) (by simp [allQS])) ⟨0, rfl, Nat.zero_le _, by simp, rfl⟩ ?_
  rintro n st ⟨k, hn, hk, hall, rfl⟩ KN hN
  by_cases h : k < l.length
  · have hx := List.getElem?_eq_getElem h
    obtain ⟨⟨n0, d0⟩, hq⟩ : ∃ q, q = l[k] := ⟨_, rfl⟩
    rw [← hq] at hx
    have e1 : ix (l.map fun p => eQ p.1 p.2) k = some (eQ n0 d0) := by
      unfold ix
      rw [List.getElem?_map, hx]; rfl
    obtain ⟨i1, i2⟩ := hb (n0, d0) (List.mem_of_getElem? hx)
    have c1 := qokC_at n0 d0
    have i1 : I64 n0 := i1
    have i2 : I64 d0 := i2
    simp only [i1, i2, and_self, boolD] at c1
    obtain ⟨a1, a2⟩ := all_drop (fun q => decide (qOk q.1 q.2)) l k (n0, d0) hx hall
    have w1 : IntKind.i64.wrap ((k : Int) + 1) = (k : Int) + 1 := i64_id _ (by omega) (by omega)
    by_cases hok : qOk n0 d0
    · have a2 := a2 (by simp [hok])
      simp only [hok, decide_true] at c1
      simp [allQS, eQL, h, e1, c1, w1]
      exact hN _ (nx (m := l.length - (k + 1)) (s'' := allQS l (k + 1)) (snd_obs (n := 15) [] rfl (by simp) (by simp [allQS, eQL])) ⟨k + 1, rfl, h, a2, rfl⟩ (by omega))
    · have a1 := a1 (by simp [hok])
      rw [hr] at a1
      subst a1
      simp only [hok, decide_false] at c1
      simp [allQS, eQL, h, e1, c1, w1]
  · have hkl : k = l.length := by omega
    subst hkl
    rw [List.take_length] at hall
    have hrt : r = true := by rw [← hr, List.all_eq_true]; exact hall
    subst hrt
    simp [allQS, eQL]
theorem allQ_ok : callable Try.prog 29 = true := by kernel_rfl
end Go.Proofs.Ytmnplonkijkblaa.Ae

/-! The reference's fractions as opaque numbers: the contracts. No condition. -/
namespace Go.Proofs.Ytmnplonkijkblaa.Ae
open Go Go.RowKit Go.Proofs.Ytmnplonkijkblaa.Dig

theorem nn_z (z : Int) : ∀ k q, eZ z ≠ .num k q := fun k q h => by unfold eZ at h; cases h
theorem nn_i (z : Int) : ∀ k q, i64D z ≠ .num k q := fun k q h => by unfold i64D at h; cases h
theorem nn_q (a b : Int) : ∀ k q, eQ a b ≠ .num k q := fun k q h => by unfold eQ at h; cases h
theorem nn_b (b : Bool) : ∀ k q, boolD b ≠ .num k q := fun k q h => by unfold boolD at h; cases h

noncomputable def nAddC := ctD f2E (fun p => qsz p.a + qsz p.b < MX) (fun p => [nD (p.a + p.b)])
theorem nAddC_at (a b : Rat) : nAddC [nD a, nD b] = (qsz a + qsz b < MX, [nD (a + b)]) := ctD_at f2E_inj ⟨a, b⟩
noncomputable def nMulC := ctD f2E (fun p => qsz p.a + qsz p.b < MX) (fun p => [nD (p.a * p.b)])
theorem nMulC_at (a b : Rat) : nMulC [nD a, nD b] = (qsz a + qsz b < MX, [nD (a * b)]) := ctD_at f2E_inj ⟨a, b⟩
noncomputable def nSubC := ctD f2E (fun p => qsz p.a + qsz p.b < MX) (fun p => [nD (p.a - p.b)])
theorem nSubC_at (a b : Rat) : nSubC [nD a, nD b] = (qsz a + qsz b < MX, [nD (a - b)]) := ctD_at f2E_inj ⟨a, b⟩
noncomputable def nDivC := ctD f2E (fun p => qsz p.a + qsz p.b < MX ∧ p.b ≠ 0) (fun p => [nD (p.a / p.b)])
theorem nDivC_at (a b : Rat) : nDivC [nD a, nD b] = ((qsz a + qsz b < MX ∧ b ≠ 0), [nD (a / b)]) := ctD_at f2E_inj ⟨a, b⟩
noncomputable def nNegC := ctD f1E (fun p => True) (fun p => [nD (-p.a)])
theorem nNegC_at (a : Rat) : nNegC [nD a] = (True, [nD (-a)]) := ctD_at f1E_inj ⟨a⟩
noncomputable def nSignC := ctD f1E (fun p => True) (fun p => [i64D p.a.num.sign])
theorem nSignC_at (a : Rat) : nSignC [nD a] = (True, [i64D a.num.sign]) := ctD_at f1E_inj ⟨a⟩
theorem nSign_spec : SpecD NF Try.prog 27 nSignC := specD_num' l1rSign_spec (fun ⟨a⟩ h ds hc => by
  obtain ⟨r, h1, rfl, rfl⟩ := cv1 hc
  have c := rSignC_at r
  rw [c]
  refine ⟨h1.1, ?_⟩
  rw [sign_val h1.1]
  exact cvo1 (nn_i _))
noncomputable def nCmpC := ctD f2E (fun p => qsz p.a + qsz p.b < MX) (fun p => [i64D (qcmp p.a p.b)])
theorem nCmpC_at (a b : Rat) : nCmpC [nD a, nD b] = (qsz a + qsz b < MX, [i64D (qcmp a b)]) := ctD_at f2E_inj ⟨a, b⟩
noncomputable def nFloorC := ctD f1E (fun p => True) (fun p => [eZ p.a.floor])
theorem nFloorC_at (a : Rat) : nFloorC [nD a] = (True, [eZ a.floor]) := ctD_at f1E_inj ⟨a⟩
def d3 (r : Int × Int × Bool) : List D := [eQ r.1 r.2.1, boolD r.2.2]
noncomputable def nQC := ctD f1E (fun p => True) (fun p => d3 (oq p.a))
theorem nQC_at (a : Rat) : nQC [nD a] = (True, d3 (oq a)) := ctD_at f1E_inj ⟨a⟩
theorem nQ_spec : SpecD NF Try.prog 26 nQC := specD_num' l1rQ_spec (fun ⟨a⟩ h ds hc => by
  obtain ⟨r, h1, rfl, rfl⟩ := cv1 hc
  have c := rQC_at r
  rw [c]
  refine ⟨h1.1, ?_⟩
  rw [qOf_val h1]
  exact cvo2 (nn_q _ _) (nn_b _))
noncomputable def nWholeC := ctD zE (fun p => SZ p.a) (fun p => [nD (p.a : Rat)])
theorem nWholeC_at (a : Int) : nWholeC [eZ a] = (SZ a, [nD (a : Rat)]) := ctD_at zE_inj ⟨a⟩
theorem divInt_one (a : Int) : Rat.divInt a 1 = (a : Rat) := by rw [Rat.divInt_eq_div]; grind
noncomputable def nqC := ctD qE (fun p => I64 p.a ∧ I64 p.b ∧ 0 < p.b) (fun p => [nD (Rat.divInt p.a p.b)])
theorem nqC_at (a b : Int) : nqC [eQ a b] = ((I64 a ∧ I64 b ∧ 0 < b), [nD (Rat.divInt a b)]) := ctD_at qE_inj ⟨a, b⟩
theorem nq_spec : SpecD NF Try.prog 28 nqC := specD_num' l1q_spec (fun ⟨a, b⟩ h ds hc => by
  obtain rfl := cvs1 (nn_q a b) hc
  obtain ⟨h1, h2, h3⟩ := h
  have h1 : I64 a := h1
  have h2 : I64 b := h2
  have h3 : 0 < b := h3
  have c := l1qC_at a b
  rw [c]
  exact ⟨⟨h1, h2, h3⟩, cv_to (ofR_ok h3 h1 h2), trivial⟩)
noncomputable def nOfC := ctD iiE (fun p => I64 p.a ∧ I64 p.b ∧ 0 < p.b) (fun p => [nD (Rat.divInt p.a p.b)])
theorem nOfC_at (a b : Int) : nOfC [i64D a, i64D b] = ((I64 a ∧ I64 b ∧ 0 < b), [nD (Rat.divInt a b)]) := ctD_at iiE_inj ⟨a, b⟩
theorem nOf_spec : SpecD NF Try.prog 38 nOfC := specD_num' l1rOf_spec (fun ⟨a, b⟩ h ds hc => by
  obtain rfl := cvs2 (nn_i a) (nn_i b) hc
  obtain ⟨h1, h2, h3⟩ := h
  have h1 : I64 a := h1
  have h2 : I64 b := h2
  have h3 : 0 < b := h3
  have c := ofC_at a b
  rw [c]
  exact ⟨⟨h1, h2, h3⟩, cv_to (ofR_ok h3 h1 h2), trivial⟩)
noncomputable def nBigC := ctD zzE (fun p => SZ p.a ∧ SZ p.b ∧ p.b ≠ 0) (fun p => [nD (Rat.divInt p.a p.b)])
theorem nBigC_at (a b : Int) : nBigC [eZ a, eZ b] = ((SZ a ∧ SZ b ∧ b ≠ 0), [nD (Rat.divInt a b)]) := ctD_at zzE_inj ⟨a, b⟩
theorem oQ_d3 (q : Rat) : oQ q = d3 (oq q) := by
  unfold oQ oq d3
  by_cases h : isQ q
  · rw [if_pos h, if_pos (show q.num.natAbs ≤ 1000000000000000000 ∧ q.den ≤ 1000000000000000000 from h)]
  · rw [if_neg h, if_neg (show ¬ (q.num.natAbs ≤ 1000000000000000000 ∧ q.den ≤ 1000000000000000000) from h)]
end Go.Proofs.Ytmnplonkijkblaa.Ae

/-! impl: QAdd, QSub, QMul, QDiv, QCmp, QFloor, QOf. No condition. -/
namespace Go.Proofs.Ytmnplonkijkblaa.Ae
open Go Go.RowKit Go.Proofs.Ytmnplonkijkblaa.Dig

structure Q4 where
  a : Int
  b : Int
  c : Int
  d : Int
def q4E (p : Q4) : List D := [eQ p.a p.b, eQ p.c p.d]
theorem q4E_inj (p q : Q4) (h : q4E p = q4E q) : p = q := by
  obtain ⟨a, b, c, d⟩ := p; obtain ⟨a', b', c', d'⟩ := q
  simp only [q4E, List.cons.injEq, and_true] at h
  obtain ⟨h1, h2⟩ := eQ_inj h.1
  obtain ⟨h3, h4⟩ := eQ_inj h.2
  simp only [h1, h2, h3, h4]
def I4 (p : Q4) : Prop := (I64 p.a ∧ I64 p.b) ∧ I64 p.c ∧ I64 p.d
def no3 : Int × Int × Bool := (0, 0, false)
def opR (ok : Prop) [Decidable ok] (F : Rat → Rat → Rat) (p : Q4) : Int × Int × Bool := if ok then oq (F (Rat.divInt p.a p.b) (Rat.divInt p.c p.d)) else no3
theorem opR_y {ok : Prop} [Decidable ok] {F : Rat → Rat → Rat} {p : Q4} (h : ok) : opR ok F p = oq (F (Rat.divInt p.a p.b) (Rat.divInt p.c p.d)) := if_pos h
theorem opR_n {ok : Prop} [Decidable ok] {F : Rat → Rat → Rat} {p : Q4} (h : ¬ ok) : opR ok F p = no3 := if_neg h
def ok2 (p : Q4) : Prop := qOk p.a p.b ∧ qOk p.c p.d
instance (p : Q4) : Decidable (ok2 p) := by unfold ok2; infer_instance
def okD (p : Q4) : Prop := ok2 p ∧ p.c ≠ 0
instance (p : Q4) : Decidable (okD p) := by unfold okD; infer_instance
def okF (p : Q4) : Prop := ok2 p ∧ 0 < p.c
instance (p : Q4) : Decidable (okF p) := by unfold okF; infer_instance
def flr (a b : Rat) : Rat := ((a / b).floor : Rat) * b
noncomputable def qaddC := ctD q4E I4 (fun p => d3 (opR (ok2 p) (· + ·) p))
noncomputable def qsubC := ctD q4E I4 (fun p => d3 (opR (ok2 p) (· - ·) p))
noncomputable def qmulC := ctD q4E I4 (fun p => d3 (opR (ok2 p) (· * ·) p))
noncomputable def qdivC := ctD q4E I4 (fun p => d3 (opR (okD p) (· / ·) p))
noncomputable def qflrC := ctD q4E I4 (fun p => d3 (opR (okF p) flr p))
noncomputable def qcmpC := ctD q4E I4 (fun p => [i64D (if ok2 p then qcmp (Rat.divInt p.a p.b) (Rat.divInt p.c p.d) else 2)])
noncomputable def qofC := ctD iiE (fun p => I64 p.a ∧ I64 p.b) (fun p => d3 (if p.b = 0 then no3 else oq (Rat.divInt p.a p.b)))
theorem qaddC_at (a b c d : Int) : qaddC [eQ a b, eQ c d] = (I4 ⟨a, b, c, d⟩, d3 (opR (ok2 ⟨a, b, c, d⟩) (· + ·) ⟨a, b, c, d⟩)) := ctD_at q4E_inj ⟨a, b, c, d⟩
theorem qsubC_at (a b c d : Int) : qsubC [eQ a b, eQ c d] = (I4 ⟨a, b, c, d⟩, d3 (opR (ok2 ⟨a, b, c, d⟩) (· - ·) ⟨a, b, c, d⟩)) := ctD_at q4E_inj ⟨a, b, c, d⟩
theorem qmulC_at (a b c d : Int) : qmulC [eQ a b, eQ c d] = (I4 ⟨a, b, c, d⟩, d3 (opR (ok2 ⟨a, b, c, d⟩) (· * ·) ⟨a, b, c, d⟩)) := ctD_at q4E_inj ⟨a, b, c, d⟩
theorem qdivC_at (a b c d : Int) : qdivC [eQ a b, eQ c d] = (I4 ⟨a, b, c, d⟩, d3 (opR (okD ⟨a, b, c, d⟩) (· / ·) ⟨a, b, c, d⟩)) := ctD_at q4E_inj ⟨a, b, c, d⟩
theorem qflrC_at (a b c d : Int) : qflrC [eQ a b, eQ c d] = (I4 ⟨a, b, c, d⟩, d3 (opR (okF ⟨a, b, c, d⟩) flr ⟨a, b, c, d⟩)) := ctD_at q4E_inj ⟨a, b, c, d⟩
theorem qcmpC_at (a b c d : Int) : qcmpC [eQ a b, eQ c d] = (I4 ⟨a, b, c, d⟩, [i64D (if ok2 ⟨a, b, c, d⟩ then qcmp (Rat.divInt a b) (Rat.divInt c d) else 2)]) := ctD_at q4E_inj ⟨a, b, c, d⟩
theorem qofC_at (a b : Int) : qofC [i64D a, i64D b] = ((I64 a ∧ I64 b), d3 (if b = 0 then no3 else oq (Rat.divInt a b))) := ctD_at iiE_inj ⟨a, b⟩
theorem d3_no : d3 no3 = [eQ 0 0, boolD false] := rfl
theorem QI_qsz {n d : Int} (h : QI n d) : qsz (Rat.divInt n d) ≤ 2 := smallQ_qsz (QI_small h)
theorem QI_ne {n d : Int} (h : QI n d) (h0 : n ≠ 0) : Rat.divInt n d ≠ 0 := fun e => by
  have := (QI_num h).1
  rw [e] at this
  exact h0 this.symm
theorem ln_floor (q : Rat) : ln q.floor.natAbs ≤ qsz q := by
  rw [Rat.floor_def]
  exact Nat.le_trans (ln_mono (natAbs_ediv_le _ _)) (qsz_num q)
theorem qsz_floor (q : Rat) : qsz (q.floor : Rat) ≤ qsz q := by
  rw [qsz_int]
  have h1 := ln_floor q
  have h2 := qsz_pos q
  omega
theorem allQ2 (a b c d : Int) (h : I4 ⟨a, b, c, d⟩) : allQC [.sl 2 [eQ a b, eQ c d]] = (True, [boolD (decide (ok2 ⟨a, b, c, d⟩))]) := by
  have h1 := allQC_at [(a, b), (c, d)]
  have h2 : ([(a, b), (c, d)] : List (Int × Int)).length < 4611686018427387904 ∧ ∀ q ∈ [(a, b), (c, d)], I64p q := by
    refine ⟨by simp, ?_⟩
    intro q hq
    simp at hq
    rcases hq with rfl | rfl
    · exact h.1
    · exact h.2
  have h3 : (([(a, b), (c, d)] : List (Int × Int)).all fun q => decide (qOk q.1 q.2)) = decide (ok2 ⟨a, b, c, d⟩) := by
    by_cases h1 : qOk a b <;> by_cases h2 : qOk c d <;> simp [ok2, h1, h2]
  rw [h3, eq_true h2] at h1
  exact h1
@[simp] theorem nav_eQ0 (n d : Int) : nav (eQ n d) [0] = some (.lit (.int .i64 n), 0) := rfl
@[simp] theorem nav_eQ1 (n d : Int) : nav (eQ n d) [1] = some (.lit (.int .i64 d), 1) := rfl
theorem eQ00 : eQ 0 0 = .agg [.lit (.int .i64 0), .lit (.int .i64 0)] := rfl

noncomputable def pqTb : List (FuncId × Ct) := [(29, .data allQC), (30, .data rqC), (32, .data rqqC)]
theorem pqTb_ok {N : NR} : TbOK N Try.prog (tbl pqTb) := tbl_cons (c := .data allQC) allQ_spec allQ_ok (tbl_cons (c := .data rqC) rq_spec rq_ok (tbl_cons (c := .data rqqC) rqq_spec rqq_ok tbl_nil))

@[simp] theorem pqTb1 : tbl pqTb 29 = some (.data allQC) := rfl
@[simp] theorem pqTb2 : tbl pqTb 30 = some (.data rqC) := rfl
@[simp] theorem pqTb8 : tbl pqTb 32 = some (.data rqqC) := rfl
def pqMf : FuncId → Bool := fun f => f == 99999999 || f == 99999999
attribute [simp] pqMf

end Go.Proofs.Ytmnplonkijkblaa.Ae

/-! spec: QOk, QAdd, QSub, QMul, QDiv, QCmp, QFloor, QOf. No condition. -/
namespace Go.Proofs.Ytmnplonkijkblaa.Ae
open Go Go.RowKit Go.Proofs.Ytmnplonkijkblaa.Dig

noncomputable def sokTb : List (FuncId × Ct) := [(34, .data absC), (33, .data gcdC)]
theorem sokTb_ok : TbOK NF Try.prog (tbl sokTb) := tbl_cons (c := .data absC) l1Abs_spec l1Abs_ok (tbl_cons (c := .data gcdC) l1Gcd_spec l1Gcd_ok tbl_nil)

@[simp] theorem sokTb1 : tbl sokTb 34 = some (.data absC) := rfl
@[simp] theorem sokTb2 : tbl sokTb 33 = some (.data gcdC) := rfl
theorem sQOk_spec : SpecD NF Try.prog 24 qokC := by
  refine rdD (mf := fun f => false) sokTb_ok (fn := Try.f24) (by kernel_rfl) rfl (by kernel_rfl) ?_
  rintro ⟨n, d⟩ ⟨hn, hd⟩
  have hn : I64 n := hn
  have hd : I64 d := hd
  refine ⟨of_decide_eq_true (by kernel_rfl), ?_⟩
  have c1 := absC_at n
  have c2 := gcdC_at n.natAbs d.natAbs
  unfold I64 at hd
  have h2 : n.natAbs < 18446744073709551616 := by unfold I64 at hn; omega
  have h3 : d.natAbs < 18446744073709551616 := by omega
  have e3 : Nat.gcd n.natAbs d.natAbs = Int.gcd n d := rfl
  simp only [hn, h2, h3, e3, and_self, u64D, i64D] at c1 c2
  simp only [qE, i64D, Try.f24, boolD]
  have hw : ¬ d < 1 → IntKind.u64.wrap d = (d.natAbs : Int) := fun h => by rw [wrap_u64]; omega
  have e : decide (qOk n d) = (!(decide (d < 1)) && (!(decide (1000000000000000000 < d)) && (!(decide (n < -1000000000000000000)) && (!(decide (1000000000000000000 < n)) && decide (Int.gcd n d = 1))))) := by
    rw [← decide_not, ← decide_not, ← decide_not, ← decide_not, ← Bool.decide_and, ← Bool.decide_and, ← Bool.decide_and, ← Bool.decide_and]
    congr 1
    apply propext
    unfold qOk
    constructor
    · rintro ⟨⟨a, b⟩, ⟨c, e⟩, f⟩; exact ⟨by omega, by omega, by omega, by omega, f⟩
    · rintro ⟨a, b, c, e, f⟩; exact ⟨⟨by omega, by omega⟩, ⟨by omega, by omega⟩, f⟩
  rw [e]
  clear e e3
  generalize Int.gcd n d = g at *
  by_cases h1 : d < 1
  · simp [h1]
  · have w1 := hw h1
    by_cases h4 : 1000000000000000000 < d <;> by_cases h5 : n < -1000000000000000000 <;> by_cases h6 : 1000000000000000000 < n <;> simp [h1, h4, h5, h6, w1, c1, c2]
    by_cases h7 : g = 1
    · subst h7; simp
    · have h7' : ¬ (g : Int) = 1 := by omega
      simp [h7, h7']
theorem sQOk_ok : callable Try.prog 24 = true := by kernel_rfl

noncomputable def sqTbl : List (FuncId × Ct) := [(24, .data qokC), (28, .data nqC), (26, .data nQC), (41, .data zOfC)]
theorem sqTbl_ok : TbOK NF Try.prog (tbl sqTbl) := tbl_cons (c := .data qokC) sQOk_spec sQOk_ok (tbl_cons (c := .data nqC) nq_spec l1q_ok (tbl_cons (c := .data nQC) nQ_spec l1rQ_ok (tbl_cons (c := .data zOfC) l1ZOf_spec l1ZOf_ok tbl_nil)))

@[simp] theorem sqTbl1 : tbl sqTbl 24 = some (.data qokC) := rfl
@[simp] theorem sqTbl2 : tbl sqTbl 28 = some (.data nqC) := rfl
@[simp] theorem sqTbl8 : tbl sqTbl 26 = some (.data nQC) := rfl
@[simp] theorem sqTbl11 : tbl sqTbl 41 = some (.data zOfC) := rfl
theorem okC1 {a b c d : Int} (h : I4 ⟨a, b, c, d⟩) : (qokC [eQ a b] = (True, [.lit (.bool (decide (qOk a b)))])) ∧ qokC [eQ c d] = (True, [.lit (.bool (decide (qOk c d)))]) := by
  have c1 := qokC_at a b
  have c2 := qokC_at c d
  obtain ⟨⟨h1, h2⟩, h3, h4⟩ := h
  have h1 : I64 a := h1
  have h2 : I64 b := h2
  have h3 : I64 c := h3
  have h4 : I64 d := h4
  simp only [h1, h2, h3, h4, and_self, boolD] at c1 c2
  exact ⟨c1, c2⟩
theorem qOk_64 {n d : Int} (h : qOk n d) : I64 n ∧ I64 d ∧ 0 < d := by unfold qOk at h; unfold I64; omega

end Go.Proofs.Ytmnplonkijkblaa.Ae

/-! The laws on fractions: each law's function returns true. No condition. -/
namespace Go.Proofs.Ytmnplonkijkblaa.Ae
open Go Go.RowKit Go.Proofs.Ytmnplonkijkblaa.Dig

/-- A law's call, out of its contract. -/
theorem law_calls {f : FuncId} {g : List D → Prop × List D} (h : SpecD NF Try.prog f g) {ds : List D} (hp : (g ds).1) (hr : (g ds).2 = [boolD true]) {vs : List Value} {w : World} (hrep : RepVs NF (fun _ => False) w ds vs) :
    Calls Try.prog f vs.toArray w fun e w' => e = .returned (.bool true) ∧ Below w.heap.size w w' := by
  refine (h ds hp (fun _ => False) w vs (fun k hk => hk.elim) hrep).mono fun e w' ⟨v, he, hv, hfr⟩ => ?_
  rw [hr] at hv
  have hv : RepV NF _ w' (.lit (.bool true)) v := hv
  obtain ⟨rfl, _⟩ := RepV.lit hv
  exact ⟨he, ⟨hfr.os, hfr.tape, hfr.output, hfr.size, fun k hk => hfr.block k hk (fun h => h)⟩⟩
theorem repV_flat {N : NR} {F : Nat → Prop} {w : World} {d : D} {cs : List Value} (h : flatD d = some cs) (h1 : ∀ v ∈ cs, v.oneCell' = true) (ha : d.isAgg = true) : RepV N F w d (.agg cs.toArray) :=
  ⟨cs, flatD_rep d cs h h1, by unfold mkV; rw [ha]; rfl⟩
theorem repVs_nil {N : NR} {F : Nat → Prop} {w : World} : RepVs N F w [] [] := ⟨rfl, fun i d v h => by simp at h⟩
theorem repVs_cons {N : NR} {F : Nat → Prop} {w : World} {d : D} {v : Value} {ds : List D} {vs : List Value} (h : RepV N F w d v) (hs : RepVs N F w ds vs) : RepVs N F w (d :: ds) (v :: vs) :=
  ⟨by simp only [List.length_cons]; rw [hs.1], fun i e u h1 h2 => by
    cases i with
    | zero =>
      simp only [List.getElem?_cons_zero, Option.some.injEq] at h1 h2
      subst h1 h2
      exact h
    | succ i => exact hs.2 i e u (by simpa using h1) (by simpa using h2)⟩
theorem rep_q {N : NR} {F : Nat → Prop} {w : World} (a b : Int) : RepV N F w (eQ a b) (.agg #[.int .i64 a, .int .i64 b]) := repV_flat (cs := [.int .i64 a, .int .i64 b]) rfl (fun v hv => by simp at hv; rcases hv with rfl | rfl <;> rfl) rfl
theorem rep_i {N : NR} {F : Nat → Prop} {w : World} (a : Int) : RepV N F w (i64D a) (.int .i64 a) := RepV.of_lit rfl
theorem wf64 {a : Int} (h : (Lit.int .i64 a).wf = true) : I64 a := bounds_i64 h

noncomputable def toQC := ctD qE (fun _ => True) (fun p => [eQ p.a p.b])
theorem toQC_at (a b : Int) : toQC [eQ a b] = (True, [eQ a b]) := ctD_at qE_inj ⟨a, b⟩
theorem toQ_spec {N : NR} : SpecD N Try.prog 16 toQC := by
  refine rdD (mf := fun f => false) tbl_nil (fn := Try.f16) (by kernel_rfl) rfl (by kernel_rfl) ?_
  rintro ⟨a, b⟩ _
  refine ⟨of_decide_eq_true (by kernel_rfl), ?_⟩
  simp only [qE, Try.f16]
  simp [eQ, i64D]
theorem toQ_ok : callable Try.prog 16 = true := by kernel_rfl
noncomputable def eqQC := ctD q4E (fun _ => True) (fun p => [boolD (decide (p.a = p.c) && decide (p.b = p.d))])
theorem eqQC_at (a b c d : Int) : eqQC [eQ a b, eQ c d] = (True, [boolD (decide (a = c) && decide (b = d))]) := ctD_at q4E_inj ⟨a, b, c, d⟩
theorem eqQ_spec {N : NR} : SpecD N Try.prog 23 eqQC := by
  refine rdD (mf := fun f => false) tbl_nil (fn := Try.f23) (by kernel_rfl) rfl (by kernel_rfl) ?_
  rintro ⟨a, b, c, d⟩ _
  refine ⟨of_decide_eq_true (by kernel_rfl), ?_⟩
  simp only [q4E, Try.f23, boolD]
  by_cases h1 : a = c <;> by_cases h2 : b = d <;> simp [h1, h2]
theorem eqQ_ok : callable Try.prog 23 = true := by kernel_rfl
theorem eqQ_self (r : Int × Int × Bool) : eqQC [eQ r.1 r.2.1, eQ r.1 r.2.1] = (True, [.lit (.bool true)]) := by
  rw [eqQC_at]; simp [boolD]

noncomputable def lwQAddTb : List (FuncId × Ct) := [(16, .data toQC), (23, .data eqQC)]
theorem lwQAddTb_ok : TbOK NF Try.prog (tbl lwQAddTb) := tbl_cons (c := .data toQC) toQ_spec toQ_ok (tbl_cons (c := .data eqQC) eqQ_spec eqQ_ok tbl_nil)

@[simp] theorem lwQAddTb1 : tbl lwQAddTb 16 = some (.data toQC) := rfl
@[simp] theorem lwQAddTb2 : tbl lwQAddTb 23 = some (.data eqQC) := rfl
noncomputable def lwQAddC := ctD q4E I4 (fun _ => [boolD true])
noncomputable def lwQSubTb : List (FuncId × Ct) := [(16, .data toQC), (23, .data eqQC)]
theorem lwQSubTb_ok : TbOK NF Try.prog (tbl lwQSubTb) := tbl_cons (c := .data toQC) toQ_spec toQ_ok (tbl_cons (c := .data eqQC) eqQ_spec eqQ_ok tbl_nil)

@[simp] theorem lwQSubTb1 : tbl lwQSubTb 16 = some (.data toQC) := rfl
@[simp] theorem lwQSubTb2 : tbl lwQSubTb 23 = some (.data eqQC) := rfl
noncomputable def lwQSubC := ctD q4E I4 (fun _ => [boolD true])
noncomputable def lwQMulTb : List (FuncId × Ct) := [(16, .data toQC), (23, .data eqQC)]
theorem lwQMulTb_ok : TbOK NF Try.prog (tbl lwQMulTb) := tbl_cons (c := .data toQC) toQ_spec toQ_ok (tbl_cons (c := .data eqQC) eqQ_spec eqQ_ok tbl_nil)

@[simp] theorem lwQMulTb1 : tbl lwQMulTb 16 = some (.data toQC) := rfl
@[simp] theorem lwQMulTb2 : tbl lwQMulTb 23 = some (.data eqQC) := rfl
noncomputable def lwQMulC := ctD q4E I4 (fun _ => [boolD true])
noncomputable def lwQDivTb : List (FuncId × Ct) := [(16, .data toQC), (23, .data eqQC)]
theorem lwQDivTb_ok : TbOK NF Try.prog (tbl lwQDivTb) := tbl_cons (c := .data toQC) toQ_spec toQ_ok (tbl_cons (c := .data eqQC) eqQ_spec eqQ_ok tbl_nil)

@[simp] theorem lwQDivTb1 : tbl lwQDivTb 16 = some (.data toQC) := rfl
@[simp] theorem lwQDivTb2 : tbl lwQDivTb 23 = some (.data eqQC) := rfl
noncomputable def lwQDivC := ctD q4E I4 (fun _ => [boolD true])
noncomputable def lwQFloorTb : List (FuncId × Ct) := [(16, .data toQC), (23, .data eqQC)]
theorem lwQFloorTb_ok : TbOK NF Try.prog (tbl lwQFloorTb) := tbl_cons (c := .data toQC) toQ_spec toQ_ok (tbl_cons (c := .data eqQC) eqQ_spec eqQ_ok tbl_nil)

@[simp] theorem lwQFloorTb1 : tbl lwQFloorTb 16 = some (.data toQC) := rfl
@[simp] theorem lwQFloorTb2 : tbl lwQFloorTb 23 = some (.data eqQC) := rfl
noncomputable def lwQFloorC := ctD q4E I4 (fun _ => [boolD true])
noncomputable def lwQCmpTb : List (FuncId × Ct) := [(16, .data toQC), (23, .data eqQC)]
theorem lwQCmpTb_ok : TbOK NF Try.prog (tbl lwQCmpTb) := tbl_cons (c := .data toQC) toQ_spec toQ_ok (tbl_cons (c := .data eqQC) eqQ_spec eqQ_ok tbl_nil)

@[simp] theorem lwQCmpTb1 : tbl lwQCmpTb 16 = some (.data toQC) := rfl
@[simp] theorem lwQCmpTb2 : tbl lwQCmpTb 23 = some (.data eqQC) := rfl
noncomputable def lwQCmpC := ctD q4E I4 (fun _ => [boolD true])
noncomputable def lwQOfTb : List (FuncId × Ct) := [(16, .data toQC), (23, .data eqQC)]
theorem lwQOfTb_ok : TbOK NF Try.prog (tbl lwQOfTb) := tbl_cons (c := .data toQC) toQ_spec toQ_ok (tbl_cons (c := .data eqQC) eqQ_spec eqQ_ok tbl_nil)

@[simp] theorem lwQOfTb1 : tbl lwQOfTb 16 = some (.data toQC) := rfl
@[simp] theorem lwQOfTb2 : tbl lwQOfTb 23 = some (.data eqQC) := rfl
noncomputable def lwQOfC := ctD iiE (fun p => I64 p.a ∧ I64 p.b) (fun _ => [boolD true])
end Go.Proofs.Ytmnplonkijkblaa.Ae

/-! Contracts over several inputs; what a call of the fractions' functions asks and gives, as steps for simp. No condition. -/
namespace Go.Proofs.Ytmnplonkijkblaa.Ae
open Go Go.RowKit Go.Proofs.Ytmnplonkijkblaa.Dig

/-- A kind of input, as data. -/
structure Enc (α : Type) where
  e : α → D
  inj : ∀ a b, e a = e b → a = b
def ERat : Enc Rat := ⟨eRat, fun _ _ => eRat_inj⟩
def ENum : Enc Rat := ⟨nD, fun _ _ => nD_inj⟩
def EInt : Enc Int := ⟨i64D, fun _ _ => i64D_inj⟩
def EZ : Enc Int := ⟨eZ, fun _ _ => eZ_inj⟩
theorem boolD_inj {a b : Bool} (h : boolD a = boolD b) : a = b := by unfold boolD at h; injection h with h; injection h
def EBool : Enc Bool := ⟨boolD, fun _ _ => boolD_inj⟩
def EQ : Enc (Int × Int) := ⟨fun p => eQ p.1 p.2, fun _ _ h => Prod.ext (eQ_inj h).1 (eQ_inj h).2⟩
/-- A struct of two parts. -/
def Enc.pair {α β : Type} (A : Enc α) (B : Enc β) : Enc (α × β) := ⟨fun p => .agg [A.e p.1, B.e p.2], fun p q h => by
  simp only [D.agg.injEq, List.cons.injEq, and_true] at h
  exact Prod.ext (A.inj _ _ h.1) (B.inj _ _ h.2)⟩
def Enc.trip {α β γ : Type} (A : Enc α) (B : Enc β) (C : Enc γ) : Enc (α × β × γ) := ⟨fun p => .agg [A.e p.1, B.e p.2.1, C.e p.2.2], fun p q h => by
  simp only [D.agg.injEq, List.cons.injEq, and_true] at h
  exact Prod.ext (A.inj _ _ h.1) (Prod.ext (B.inj _ _ h.2.1) (C.inj _ _ h.2.2))⟩
theorem map_inj {α : Type} (E : Enc α) : ∀ {a b : List α}, a.map E.e = b.map E.e → a = b
  | [], [], _ => rfl
  | x :: a, y :: b, h => by
    simp only [List.map_cons, List.cons.injEq] at h
    rw [E.inj _ _ h.1, map_inj E h.2]
  | [], _ :: _, h => by simp at h
  | _ :: _, [], h => by simp at h
/-- A slice. -/
def Enc.list {α : Type} (sz : Nat) (E : Enc α) : Enc (List α) := ⟨fun l => .sl sz (l.map E.e), fun a b h => by
  injection h with _ h; exact map_inj E h⟩
noncomputable def ct1 {α : Type} (A : Enc α) (pre : α → Prop) (post : α → List D) := ctD (fun a => [A.e a]) pre post
theorem ct1_at {α : Type} {A : Enc α} {pre : α → Prop} {post : α → List D} (a : α) : ct1 A pre post [A.e a] = (pre a, post a) :=
  ctD_at (e := fun a => [A.e a]) (fun a b h => by simp only [List.cons.injEq, and_true] at h; exact A.inj _ _ h) a
noncomputable def ct2 {α β : Type} (A : Enc α) (B : Enc β) (pre : α → β → Prop) (post : α → β → List D) := ctD (fun p : α × β => [A.e p.1, B.e p.2]) (fun p => pre p.1 p.2) (fun p => post p.1 p.2)
theorem ct2_at {α β : Type} {A : Enc α} {B : Enc β} {pre : α → β → Prop} {post : α → β → List D} (a : α) (b : β) : ct2 A B pre post [A.e a, B.e b] = (pre a b, post a b) :=
  ctD_at (e := fun p : α × β => [A.e p.1, B.e p.2]) (fun p q h => by simp only [List.cons.injEq, and_true] at h; exact Prod.ext (A.inj _ _ h.1) (B.inj _ _ h.2)) (a, b)
noncomputable def ct3 {α β γ : Type} (A : Enc α) (B : Enc β) (C : Enc γ) (pre : α → β → γ → Prop) (post : α → β → γ → List D) := ctD (fun p : α × β × γ => [A.e p.1, B.e p.2.1, C.e p.2.2]) (fun p => pre p.1 p.2.1 p.2.2) (fun p => post p.1 p.2.1 p.2.2)
theorem ct3_at {α β γ : Type} {A : Enc α} {B : Enc β} {C : Enc γ} {pre : α → β → γ → Prop} {post : α → β → γ → List D} (a : α) (b : β) (c : γ) : ct3 A B C pre post [A.e a, B.e b, C.e c] = (pre a b c, post a b c) :=
  ctD_at (e := fun p : α × β × γ => [A.e p.1, B.e p.2.1, C.e p.2.2]) (fun p q h => by simp only [List.cons.injEq, and_true] at h; exact Prod.ext (A.inj _ _ h.1) (Prod.ext (B.inj _ _ h.2.1) (C.inj _ _ h.2.2))) (a, b, c)
noncomputable def ct4 {α β γ δ : Type} (A : Enc α) (B : Enc β) (C : Enc γ) (E : Enc δ) (pre : α → β → γ → δ → Prop) (post : α → β → γ → δ → List D) := ctD (fun p : α × β × γ × δ => [A.e p.1, B.e p.2.1, C.e p.2.2.1, E.e p.2.2.2]) (fun p => pre p.1 p.2.1 p.2.2.1 p.2.2.2) (fun p => post p.1 p.2.1 p.2.2.1 p.2.2.2)
theorem ct4_at {α β γ δ : Type} {A : Enc α} {B : Enc β} {C : Enc γ} {E : Enc δ} {pre : α → β → γ → δ → Prop} {post : α → β → γ → δ → List D} (a : α) (b : β) (c : γ) (d : δ) : ct4 A B C E pre post [A.e a, B.e b, C.e c, E.e d] = (pre a b c d, post a b c d) :=
  ctD_at (e := fun p : α × β × γ × δ => [A.e p.1, B.e p.2.1, C.e p.2.2.1, E.e p.2.2.2]) (fun p q h => by simp only [List.cons.injEq, and_true] at h; exact Prod.ext (A.inj _ _ h.1) (Prod.ext (B.inj _ _ h.2.1) (Prod.ext (C.inj _ _ h.2.2.1) (E.inj _ _ h.2.2.2)))) (a, b, c, d)
/-- A function's contract, out of its reading. -/
theorem rd1 {N : NR} {α : Type} {A : Enc α} {pre : α → Prop} {post : α → List D} {f : FuncId} {fn : Func} {c : Code} {mf : FuncId → Bool} {tb : FuncId → Option Ct} (htb : TbOK N Try.prog tb) (hf : Try.prog.funcs[f]? = some fn) (hb : fn.body = some c) (hd : drawAll mf c = true) (hl : Nat.ble 1 fn.ntmps = true)
    (h : ∀ a, pre a → awp Try.prog mf tb c (start fn.ntmps ([A.e a].map .dat) []) (endK Try.prog fn.ntmps fn.results.toList ((post a).map .dat) [])) : SpecD N Try.prog f (ct1 A pre post) :=
  rdD htb hf hb hd (fun a ha => ⟨Nat.le_of_ble_eq_true hl, h a ha⟩)
theorem rd2 {N : NR} {α β : Type} {A : Enc α} {B : Enc β} {pre : α → β → Prop} {post : α → β → List D} {f : FuncId} {fn : Func} {c : Code} {mf : FuncId → Bool} {tb : FuncId → Option Ct} (htb : TbOK N Try.prog tb) (hf : Try.prog.funcs[f]? = some fn) (hb : fn.body = some c) (hd : drawAll mf c = true) (hl : Nat.ble 2 fn.ntmps = true)
    (h : ∀ a b, pre a b → awp Try.prog mf tb c (start fn.ntmps ([A.e a, B.e b].map .dat) []) (endK Try.prog fn.ntmps fn.results.toList ((post a b).map .dat) [])) : SpecD N Try.prog f (ct2 A B pre post) :=
  rdD htb hf hb hd (fun p ha => ⟨Nat.le_of_ble_eq_true hl, h p.1 p.2 ha⟩)
theorem rd3 {N : NR} {α β γ : Type} {A : Enc α} {B : Enc β} {C : Enc γ} {pre : α → β → γ → Prop} {post : α → β → γ → List D} {f : FuncId} {fn : Func} {c : Code} {mf : FuncId → Bool} {tb : FuncId → Option Ct} (htb : TbOK N Try.prog tb) (hf : Try.prog.funcs[f]? = some fn) (hb : fn.body = some c) (hd : drawAll mf c = true) (hl : Nat.ble 3 fn.ntmps = true)
    (h : ∀ a b d, pre a b d → awp Try.prog mf tb c (start fn.ntmps ([A.e a, B.e b, C.e d].map .dat) []) (endK Try.prog fn.ntmps fn.results.toList ((post a b d).map .dat) [])) : SpecD N Try.prog f (ct3 A B C pre post) :=
  rdD htb hf hb hd (fun p ha => ⟨Nat.le_of_ble_eq_true hl, h p.1 p.2.1 p.2.2 ha⟩)
theorem rd4 {N : NR} {α β γ δ : Type} {A : Enc α} {B : Enc β} {C : Enc γ} {E : Enc δ} {pre : α → β → γ → δ → Prop} {post : α → β → γ → δ → List D} {f : FuncId} {fn : Func} {c : Code} {mf : FuncId → Bool} {tb : FuncId → Option Ct} (htb : TbOK N Try.prog tb) (hf : Try.prog.funcs[f]? = some fn) (hb : fn.body = some c) (hd : drawAll mf c = true) (hl : Nat.ble 4 fn.ntmps = true)
    (h : ∀ a b d g, pre a b d g → awp Try.prog mf tb c (start fn.ntmps ([A.e a, B.e b, C.e d, E.e g].map .dat) []) (endK Try.prog fn.ntmps fn.results.toList ((post a b d g).map .dat) [])) : SpecD N Try.prog f (ct4 A B C E pre post) :=
  rdD htb hf hb hd (fun p ha => ⟨Nat.le_of_ble_eq_true hl, h p.1 p.2.1 p.2.2.1 p.2.2.2 ha⟩)
/-- A table in which every entry is right. -/
structure Ok (N : NR) (p : FuncId × Ct) : Prop where
  ok : CtOK N Try.prog p.1 p.2
  ca : callable Try.prog p.1 = true
theorem tblAll {N : NR} : ∀ (l : List (FuncId × Ct)), (∀ p ∈ l, Ok N p) → TbOK N Try.prog (tbl l)
  | [], _ => tbl_nil
  | p :: l, h => tbl_cons (h p (by simp)).ok (h p (by simp)).ca (tblAll l (fun q hq => h q (by simp [hq])))
/-- Of moderate length, all together. -/
def LM : Nat := 1000000000
theorem MX_val : MX = 549755813888 := rfl
theorem LM_val : LM = 1000000000 := rfl
def EP : Enc (Rat × Rat) := ERat.pair ERat
def EPn : Enc (Rat × Rat) := ENum.pair ENum
def EV : Enc ((Int × Int) × Int × Int) := EQ.pair EQ
def vOk (v : (Int × Int) × Int × Int) : Prop := qOk v.1.1 v.1.2 ∧ qOk v.2.1 v.2.2
instance (v : (Int × Int) × Int × Int) : Decidable (vOk v) := by unfold vOk; infer_instance
/-- A place as fractions. -/
def vq (v : (Int × Int) × Int × Int) : Rat × Rat := (Rat.divInt v.1.1 v.1.2, Rat.divInt v.2.1 v.2.2)
def V64 (v : (Int × Int) × Int × Int) : Prop := (I64 v.1.1 ∧ I64 v.1.2) ∧ I64 v.2.1 ∧ I64 v.2.2
def psz (p : Rat × Rat) : Nat := qsz p.1 + qsz p.2
theorem vOk_sz {v : (Int × Int) × Int × Int} (h : vOk v) : qsz (Rat.divInt v.1.1 v.1.2) ≤ 2 ∧ qsz (Rat.divInt v.2.1 v.2.2) ≤ 2 := ⟨QI_qsz (qOk_QI h.1), QI_qsz (qOk_QI h.2)⟩
@[simp] theorem EP_e (x y : Rat) : EP.e (x, y) = .agg [eRat x, eRat y] := rfl
@[simp] theorem EPn_e (x y : Rat) : EPn.e (x, y) = .agg [nD x, nD y] := rfl
@[simp] theorem EV_e (a b c d : Int) : EV.e ((a, b), c, d) = .agg [eQ a b, eQ c d] := rfl
@[simp] theorem ERat_e (x : Rat) : ERat.e x = eRat x := rfl
@[simp] theorem ENum_e (x : Rat) : ENum.e x = nD x := rfl
@[simp] theorem EInt_e (x : Int) : EInt.e x = i64D x := rfl
@[simp] theorem EBool_e (x : Bool) : EBool.e x = boolD x := rfl
@[simp] theorem EQ_e (a b : Int) : EQ.e (a, b) = eQ a b := rfl
section
variable (a b : Rat) (n d : Int)
@[simp] theorem z_add : raddC [eRat a, eRat b] = (qsz a + qsz b < MX, [eRat (a + b)]) := raddC_at a b
@[simp] theorem z_sub : rsubC [eRat a, eRat b] = (qsz a + qsz b < MX, [eRat (a - b)]) := rsubC_at a b
@[simp] theorem z_mul : rmC [eRat a, eRat b] = (qsz a + qsz b < MX, [eRat (a * b)]) := rmC_at a b
@[simp] theorem z_div : rdvC [eRat a, eRat b] = ((qsz a + qsz b < MX ∧ b ≠ 0), [eRat (a / b)]) := rdvC_at a b
@[simp] theorem z_neg : rngC [eRat a] = (qsz a < MX, [eRat (-a)]) := rngC_at a
@[simp] theorem z_inv : rinvC [eRat a] = ((qsz a < MX ∧ a ≠ 0), [eRat a⁻¹]) := rinvC_at a
@[simp] theorem z_cmp : rcC [eRat a, eRat b] = (qsz a + qsz b < MX, [.lit (.int .i64 (qcmp a b))]) := rcC_at a b
@[simp] theorem z_sign : rsgC [eRat a] = (True, [.lit (.int .i64 a.num.sign)]) := rsgC_at a
@[simp] theorem z_q : rqqC [eRat a] = (True, [eQ (oq a).1 (oq a).2.1, .lit (.bool (oq a).2.2)]) := by rw [rqqC_at, oQ_d3]; rfl
@[simp] theorem z_rq : rqC [eQ n d] = (QI n d, [eRat (Rat.divInt n d)]) := rqC_at n d
@[simp] theorem z_ri : riC [.lit (.int .i64 n)] = (n.natAbs < 9223372036854775808, [eRat (n : Rat)]) := riC_at n
@[simp] theorem z_floor : rflC [eRat a] = (qsz a < MX, [.ptr (eZ a.floor)]) := rflC_at a
@[simp] theorem z_fromInt : fiC [.ptr (eZ n)] = (ln n.natAbs < MX, [eRat (n : Rat)]) := fiC_at n
@[simp] theorem n_add : nAddC [nD a, nD b] = (qsz a + qsz b < MX, [nD (a + b)]) := nAddC_at a b
@[simp] theorem n_sub : nSubC [nD a, nD b] = (qsz a + qsz b < MX, [nD (a - b)]) := nSubC_at a b
@[simp] theorem n_mul : nMulC [nD a, nD b] = (qsz a + qsz b < MX, [nD (a * b)]) := nMulC_at a b
@[simp] theorem n_div : nDivC [nD a, nD b] = ((qsz a + qsz b < MX ∧ b ≠ 0), [nD (a / b)]) := nDivC_at a b
@[simp] theorem n_neg : nNegC [nD a] = (True, [nD (-a)]) := nNegC_at a
@[simp] theorem n_cmp : nCmpC [nD a, nD b] = (qsz a + qsz b < MX, [.lit (.int .i64 (qcmp a b))]) := nCmpC_at a b
@[simp] theorem n_sign : nSignC [nD a] = (True, [.lit (.int .i64 a.num.sign)]) := nSignC_at a
@[simp] theorem n_q : nQC [nD a] = (True, [eQ (oq a).1 (oq a).2.1, .lit (.bool (oq a).2.2)]) := nQC_at a
@[simp] theorem n_lq : nqC [eQ n d] = ((I64 n ∧ I64 d ∧ 0 < d), [nD (Rat.divInt n d)]) := nqC_at n d
@[simp] theorem n_of : nOfC [.lit (.int .i64 n), .lit (.int .i64 d)] = ((I64 n ∧ I64 d ∧ 0 < d), [nD (Rat.divInt n d)]) := nOfC_at n d
@[simp] theorem n_floor : nFloorC [nD a] = (True, [eZ a.floor]) := nFloorC_at a
@[simp] theorem n_whole : nWholeC [eZ n] = (SZ n, [nD (n : Rat)]) := nWholeC_at n
@[simp] theorem n_big : nBigC [eZ n, eZ d] = ((SZ n ∧ SZ d ∧ d ≠ 0), [nD (Rat.divInt n d)]) := nBigC_at n d
@[simp] theorem n_zof : zOfC [.lit (.int .i64 n)] = (I64 n, [eZ n]) := zOfC_at n
@[simp] theorem n_zadd : zAddC [eZ n, eZ d] = ((SZ n ∧ SZ d), [eZ (n + d)]) := zAddC_at n d
@[simp] theorem z_ok : qokC [eQ n d] = ((I64 n ∧ I64 d), [.lit (.bool (decide (qOk n d)))]) := qokC_at n d
@[simp] theorem z_toQ : toQC [eQ n d] = (True, [eQ n d]) := toQC_at n d
end
theorem z_all2 (a b c d : Int) : allQC [.sl 2 [eQ a b, eQ c d]] = (((I64 a ∧ I64 b) ∧ I64 c ∧ I64 d), [.lit (.bool (decide (qOk a b) && decide (qOk c d)))]) := by
  have h1 := allQC_at [(a, b), (c, d)]
  have h2 : (([(a, b), (c, d)] : List (Int × Int)).length < 4611686018427387904 ∧ ∀ q ∈ [(a, b), (c, d)], I64p q) ↔ ((I64 a ∧ I64 b) ∧ I64 c ∧ I64 d) := by
    constructor
    · rintro ⟨_, h⟩
      exact ⟨h (a, b) (by simp), h (c, d) (by simp)⟩
    · rintro ⟨h1, h2⟩
      refine ⟨by simp, ?_⟩
      intro q hq
      simp at hq
      rcases hq with rfl | rfl
      · exact h1
      · exact h2
  rw [propext h2] at h1
  have h3 : (([(a, b), (c, d)] : List (Int × Int)).all fun q => decide (qOk q.1 q.2)) = (decide (qOk a b) && decide (qOk c d)) := by simp
  rw [h3] at h1
  exact h1
attribute [simp] z_all2
end Go.Proofs.Ytmnplonkijkblaa.Ae

/-! impl: places of the plane; VOk, pv, cmp, sub, cross, turn. No condition. -/
namespace Go.Proofs.Ytmnplonkijkblaa.Ae
open Go Go.RowKit Go.Proofs.Ytmnplonkijkblaa.Dig
def crossQ (a b c d : Rat) : Rat := a * d - b * c
def turnQ (a b c d e f : Rat) : Rat := crossQ (c - a) (d - b) (e - a) (f - b)
/-- How two places compare. -/
def pcmp (a b c d : Rat) : Int := if qcmp a c = 0 then qcmp b d else qcmp a c
theorem qcmp_bd (a b : Rat) : -1 ≤ qcmp a b ∧ qcmp a b ≤ 1 := sign_bd _
theorem pcmp_bd (a b c d : Rat) : -1 ≤ pcmp a b c d ∧ pcmp a b c d ≤ 1 := by unfold pcmp; split <;> exact qcmp_bd _ _
theorem sub_lit {x y : Int} (h : x = y) : Sub (.lit (.int .i64 x)) (.lit (.int .i64 y)) := by rw [h]; exact Sub.refl _

/-! i.VOk -/
noncomputable def iVOkC := ct1 EV (fun p0 => ((I64 p0.1.1 ∧ I64 p0.1.2) ∧ I64 p0.2.1 ∧ I64 p0.2.2)) (fun p0 => [.lit (.bool (decide (qOk p0.1.1 p0.1.2) && decide (qOk p0.2.1 p0.2.2)))])
@[simp] theorem iVOkC_at (a b c d : Int) : iVOkC [.agg [eQ a b, eQ c d]] = (((I64 a ∧ I64 b) ∧ I64 c ∧ I64 d), [.lit (.bool (decide (qOk a b) && decide (qOk c d)))]) := ct1_at ((a, b), c, d)
noncomputable def iVOkTb : List (FuncId × Ct) := [(29, .data allQC)]
theorem iVOkTb_ok {N : NR} : TbOK N Try.prog (tbl iVOkTb) := tbl_cons (c := .data allQC) allQ_spec allQ_ok tbl_nil

@[simp] theorem iVOkTb1 : tbl iVOkTb 29 = some (.data allQC) := rfl
/-! i.pv -/
noncomputable def pvC := ct1 EV (fun p0 => QI p0.1.1 p0.1.2 ∧ QI p0.2.1 p0.2.2) (fun p0 => [.agg [eRat (Rat.divInt p0.1.1 p0.1.2), eRat (Rat.divInt p0.2.1 p0.2.2)]])
@[simp] theorem pvC_at (a b c d : Int) : pvC [.agg [eQ a b, eQ c d]] = (QI a b ∧ QI c d, [.agg [eRat (Rat.divInt a b), eRat (Rat.divInt c d)]]) := ct1_at ((a, b), c, d)
noncomputable def pvTb : List (FuncId × Ct) := [(30, .data rqC)]
theorem pvTb_ok {N : NR} : TbOK N Try.prog (tbl pvTb) := tbl_cons (c := .data rqC) rq_spec rq_ok tbl_nil

@[simp] theorem pvTb1 : tbl pvTb 30 = some (.data rqC) := rfl
/-! (i.pt).cmp -/
noncomputable def ptcmpC := ct2 EP EP (fun p0 p1 => qsz p0.1 + qsz p0.2 + qsz p1.1 + qsz p1.2 < LM) (fun p0 p1 => [.lit (.int .i64 (pcmp p0.1 p0.2 p1.1 p1.2))])
@[simp] theorem ptcmpC_at (a b : Rat) (c d : Rat) : ptcmpC [.agg [eRat a, eRat b], .agg [eRat c, eRat d]] = (qsz a + qsz b + qsz c + qsz d < LM, [.lit (.int .i64 (pcmp a b c d))]) := ct2_at (a, b) (c, d)
/-! (i.pt).sub -/
noncomputable def ptsubC := ct2 EP EP (fun p0 p1 => qsz p0.1 + qsz p0.2 + qsz p1.1 + qsz p1.2 < LM) (fun p0 p1 => [.agg [eRat (p0.1 - p1.1), eRat (p0.2 - p1.2)]])
@[simp] theorem ptsubC_at (a b : Rat) (c d : Rat) : ptsubC [.agg [eRat a, eRat b], .agg [eRat c, eRat d]] = (qsz a + qsz b + qsz c + qsz d < LM, [.agg [eRat (a - c), eRat (b - d)]]) := ct2_at (a, b) (c, d)
/-! i.cross -/
noncomputable def crsC := ct2 EP EP (fun p0 p1 => qsz p0.1 + qsz p0.2 + qsz p1.1 + qsz p1.2 < LM) (fun p0 p1 => [eRat (crossQ p0.1 p0.2 p1.1 p1.2)])
@[simp] theorem crsC_at (a b : Rat) (c d : Rat) : crsC [.agg [eRat a, eRat b], .agg [eRat c, eRat d]] = (qsz a + qsz b + qsz c + qsz d < LM, [eRat (crossQ a b c d)]) := ct2_at (a, b) (c, d)
/-! i.turn -/
noncomputable def trnC := ct3 EP EP EP (fun p0 p1 p2 => qsz p0.1 + qsz p0.2 + qsz p1.1 + qsz p1.2 + qsz p2.1 + qsz p2.2 < 100000000) (fun p0 p1 p2 => [.lit (.int .i64 (turnQ p0.1 p0.2 p1.1 p1.2 p2.1 p2.2).num.sign)])
@[simp] theorem trnC_at (a b : Rat) (c d : Rat) (e f : Rat) : trnC [.agg [eRat a, eRat b], .agg [eRat c, eRat d], .agg [eRat e, eRat f]] = (qsz a + qsz b + qsz c + qsz d + qsz e + qsz f < 100000000, [.lit (.int .i64 (turnQ a b c d e f).num.sign)]) := ct3_at (a, b) (c, d) (e, f)
noncomputable def trnTb : List (FuncId × Ct) := [(40, .data rsgC)]
theorem trnTb_ok {N : NR} : TbOK N Try.prog (tbl trnTb) := tbl_cons (c := .data rsgC) rsign_spec rsign_ok tbl_nil

@[simp] theorem trnTb3 : tbl trnTb 40 = some (.data rsgC) := rfl
end Go.Proofs.Ytmnplonkijkblaa.Ae

/-! impl: straight pieces: SegOk, psg, add, times, dot, dir, up, minmax, apart, has, foot, near, dist2, v. No condition. -/
namespace Go.Proofs.Ytmnplonkijkblaa.Ae
open Go Go.RowKit Go.Proofs.Ytmnplonkijkblaa.Dig
@[simp] theorem flatD_eQ (a b : Int) : flatD (eQ a b) = some [.int .i64 a, .int .i64 b] := rfl
attribute [simp] eqV eqVs
theorem keyLits_struct {P : Program} {d : Nat} {t : TypeId} {fs : Array Field} {cs : List Value} (hu : P.underlying t = some (.struct fs)) (hl : cs.length = P.cellsOf t) (hn : fs.all (·.name != "_") = true) :
    P.keyLits (d + 1) t cs = (fs.toList.mapM fun f => P.keyLits d f.type ((cs.drop f.offset).take (P.cellsOf f.type))).map List.flatten := by
  conv => lhs; unfold Program.keyLits
  rw [hu]
  show (if cs.length = P.cellsOf t ∧ fs.all (·.name != "_") = true then (fs.toList.mapM fun f => P.keyLits d f.type ((cs.drop f.offset).take (P.cellsOf f.type))).map List.flatten else none) = _
  rw [if_pos ⟨hl, hn⟩]
theorem keyLits_i64 {P : Program} {d : Nat} {t : TypeId} {a : Int} (hu : P.underlying t = some (.int .i64)) (h : I64 a) : P.keyLits (d + 1) t [.int .i64 a] = some [.int .i64 a] := by
  have hw : (Lit.int .i64 a).wf = true := by
    unfold I64 at h
    have e1 : IntKind.i64.min = -9223372036854775808 := by decide
    have e2 : IntKind.i64.max = 9223372036854775807 := by decide
    simp only [Lit.wf, e1, e2, Bool.and_eq_true, decide_eq_true_eq]; omega
  unfold Program.keyLits
  rw [hu]
  exact if_pos ⟨rfl, hw⟩
theorem klQ {d : Nat} (a b : Int) (h : I64 a ∧ I64 b) : Try.prog.keyLits (d + 2) 28 [.int .i64 a, .int .i64 b] = some [.int .i64 a, .int .i64 b] := by
  rw [keyLits_struct Try.underlying28 (by simp) (by kernel_rfl)]
  simp [keyLits_i64 Try.underlying2 h.1, keyLits_i64 Try.underlying2 h.2]
theorem klV {d : Nat} (a b c e : Int) (h : (I64 a ∧ I64 b) ∧ I64 c ∧ I64 e) : Try.prog.keyLits (d + 3) 30 [.int .i64 a, .int .i64 b, .int .i64 c, .int .i64 e] = some [.int .i64 a, .int .i64 b, .int .i64 c, .int .i64 e] := by
  rw [keyLits_struct Try.underlying30 (by simp) (by kernel_rfl)]
  simp [klQ a b h.1, klQ c e h.2]
theorem ktV : Try.prog.keyTypeAt 6 30 = true := by kernel_rfl
theorem egV : Try.prog.eqGuardType Try.prog.depth 30 = false := by kernel_rfl
theorem eqPre_V (a b c d e f g h : Int) (h1 : (I64 a ∧ I64 b) ∧ I64 c ∧ I64 d) (h2 : (I64 e ∧ I64 f) ∧ I64 g ∧ I64 h) : eqPre Try.prog 30 [.int .i64 a, .int .i64 b, .int .i64 c, .int .i64 d] [.int .i64 e, .int .i64 f, .int .i64 g, .int .i64 h] :=
  ⟨⟨_, Try.underlying30⟩, ⟨by simp, by simp⟩, ktV, egV, _, _, klV a b c d h1, klV e f g h h2, by simp⟩
def ESg : Enc ((Rat × Rat) × Rat × Rat) := EP.pair EP
def ESeg : Enc (((Int × Int) × Int × Int) × (Int × Int) × Int × Int) := EV.pair EV
@[simp] theorem ESg_e (a b c d : Rat) : ESg.e ((a, b), c, d) = .agg [.agg [eRat a, eRat b], .agg [eRat c, eRat d]] := rfl
@[simp] theorem ESeg_e (a b c d e f g h : Int) : ESeg.e (((a, b), c, d), (e, f), g, h) = .agg [.agg [eQ a b, eQ c d], .agg [eQ e f, eQ g h]] := rfl
theorem sq_nn (a : Rat) : 0 ≤ a * a := by
  by_cases h : 0 ≤ a
  · exact Rat.mul_nonneg h h
  · have : 0 ≤ (-a) * (-a) := Rat.mul_nonneg (by grind) (by grind)
    grind
def segOk (a b c d e f g h : Int) : Prop := ((qOk a b ∧ qOk c d) ∧ qOk e f ∧ qOk g h) ∧ ¬ (a = e ∧ b = f ∧ c = g ∧ d = h)
instance (a b c d e f g h : Int) : Decidable (segOk a b c d e f g h) := by unfold segOk; infer_instance
def dotQ (a b c d : Rat) : Rat := a * c + b * d
def loQ (a b : Rat) : Rat := if 0 < qcmp a b then b else a
def hiQ (a b : Rat) : Rat := if 0 < qcmp a b then a else b
def bapart (a b c d : Rat) : Bool := decide (qcmp (hiQ a b) (loQ c d) < 0) || decide (qcmp (hiQ c d) (loQ a b) < 0)
def hasB (a b c d p q : Rat) : Bool := !bapart a c p p && !bapart b d q q && decide ((turnQ a b c d p q).num.sign = 0)
def footQ (a b c d p q : Rat) : Rat := dotQ (p - a) (q - b) (c - a) (d - b) / dotQ (c - a) (d - b) (c - a) (d - b)
def nearQ (a b c d p q : Rat) : Rat × Rat := if (footQ a b c d p q).num.sign ≤ 0 then (a, b) else if 0 ≤ qcmp (footQ a b c d p q) 1 then (c, d) else (a + (c - a) * footQ a b c d p q, b + (d - b) * footQ a b c d p q)
def dist2Q (a b c d : Rat) : Rat := dotQ (a - c) (b - d) (a - c) (b - d)
theorem loQ_sz (a b : Rat) : qsz (loQ a b) ≤ qsz a + qsz b := by unfold loQ; split <;> omega
theorem hiQ_sz (a b : Rat) : qsz (hiQ a b) ≤ qsz a + qsz b := by unfold hiQ; split <;> omega
theorem dotQ_sz (a b c d : Rat) : qsz (dotQ a b c d) ≤ qsz a + qsz b + qsz c + qsz d + 1 := by unfold dotQ; grind [qsz_add, qsz_mul]
/-- A place's coordinates, if they are moderate. -/
def oV (x y : Rat) : (Int × Int) × (Int × Int) × Bool := if (oq x).2.2 = true ∧ (oq y).2.2 = true then (((oq x).1, (oq x).2.1), ((oq y).1, (oq y).2.1), true) else ((0, 0), (0, 0), false)
def vD (o : (Int × Int) × (Int × Int) × Bool) : List D := [.agg [eQ o.1.1 o.1.2, eQ o.2.1.1 o.2.1.2], .lit (.bool o.2.2)]
theorem sq_pos {a b : Rat} (h : ¬ (a = 0 ∧ b = 0)) : dotQ a b a b ≠ 0 := by
  unfold dotQ
  have h1 : 0 ≤ a * a := sq_nn a
  have h2 : 0 ≤ b * b := sq_nn b
  intro e
  have e1 : a * a = 0 := by grind
  have e2 : b * b = 0 := by grind
  exact h ⟨by rcases Rat.mul_eq_zero.mp e1 with x | x <;> exact x, by rcases Rat.mul_eq_zero.mp e2 with x | x <;> exact x⟩

/-! i.SegOk -/
noncomputable def iSegOkC := ct1 ESeg (fun p0 => (((I64 p0.1.1.1 ∧ I64 p0.1.1.2) ∧ I64 p0.1.2.1 ∧ I64 p0.1.2.2) ∧ ((I64 p0.2.1.1 ∧ I64 p0.2.1.2) ∧ I64 p0.2.2.1 ∧ I64 p0.2.2.2))) (fun p0 => [.lit (.bool (decide (segOk p0.1.1.1 p0.1.1.2 p0.1.2.1 p0.1.2.2 p0.2.1.1 p0.2.1.2 p0.2.2.1 p0.2.2.2)))])
@[simp] theorem iSegOkC_at (a b c d e f g h : Int) : iSegOkC [.agg [.agg [eQ a b, eQ c d], .agg [eQ e f, eQ g h]]] = ((((I64 a ∧ I64 b) ∧ I64 c ∧ I64 d) ∧ ((I64 e ∧ I64 f) ∧ I64 g ∧ I64 h)), [.lit (.bool (decide (segOk a b c d e f g h)))]) := ct1_at (((a, b), c, d), (e, f), g, h)
/-! i.psg -/
noncomputable def psgC := ct1 ESeg (fun p0 => (QI p0.1.1.1 p0.1.1.2 ∧ QI p0.1.2.1 p0.1.2.2) ∧ QI p0.2.1.1 p0.2.1.2 ∧ QI p0.2.2.1 p0.2.2.2) (fun p0 => [.agg [.agg [eRat (Rat.divInt p0.1.1.1 p0.1.1.2), eRat (Rat.divInt p0.1.2.1 p0.1.2.2)], .agg [eRat (Rat.divInt p0.2.1.1 p0.2.1.2), eRat (Rat.divInt p0.2.2.1 p0.2.2.2)]]])
@[simp] theorem psgC_at (a b c d e f g h : Int) : psgC [.agg [.agg [eQ a b, eQ c d], .agg [eQ e f, eQ g h]]] = ((QI a b ∧ QI c d) ∧ QI e f ∧ QI g h, [.agg [.agg [eRat (Rat.divInt a b), eRat (Rat.divInt c d)], .agg [eRat (Rat.divInt e f), eRat (Rat.divInt g h)]]]) := ct1_at (((a, b), c, d), (e, f), g, h)
/-! (i.pt).add -/
noncomputable def ptaddC := ct2 EP EP (fun p0 p1 => qsz p0.1 + qsz p0.2 + qsz p1.1 + qsz p1.2 < LM) (fun p0 p1 => [.agg [eRat (p0.1 + p1.1), eRat (p0.2 + p1.2)]])
@[simp] theorem ptaddC_at (a b : Rat) (c d : Rat) : ptaddC [.agg [eRat a, eRat b], .agg [eRat c, eRat d]] = (qsz a + qsz b + qsz c + qsz d < LM, [.agg [eRat (a + c), eRat (b + d)]]) := ct2_at (a, b) (c, d)
/-! (i.pt).times -/
noncomputable def pttimesC := ct2 EP ERat (fun p0 p1 => qsz p0.1 + qsz p0.2 + qsz p1 < LM) (fun p0 p1 => [.agg [eRat (p0.1 * p1), eRat (p0.2 * p1)]])
@[simp] theorem pttimesC_at (a b : Rat) (c : Rat) : pttimesC [.agg [eRat a, eRat b], eRat c] = (qsz a + qsz b + qsz c < LM, [.agg [eRat (a * c), eRat (b * c)]]) := ct2_at (a, b) c
/-! i.dot -/
noncomputable def dotrC := ct2 EP EP (fun p0 p1 => qsz p0.1 + qsz p0.2 + qsz p1.1 + qsz p1.2 < LM) (fun p0 p1 => [eRat (dotQ p0.1 p0.2 p1.1 p1.2)])
@[simp] theorem dotrC_at (a b : Rat) (c d : Rat) : dotrC [.agg [eRat a, eRat b], .agg [eRat c, eRat d]] = (qsz a + qsz b + qsz c + qsz d < LM, [eRat (dotQ a b c d)]) := ct2_at (a, b) (c, d)
/-! (i.sg).dir -/
noncomputable def sgdirC := ct1 ESg (fun p0 => qsz p0.1.1 + qsz p0.1.2 + qsz p0.2.1 + qsz p0.2.2 < LM) (fun p0 => [.agg [eRat (p0.2.1 - p0.1.1), eRat (p0.2.2 - p0.1.2)]])
@[simp] theorem sgdirC_at (a b c d : Rat) : sgdirC [.agg [.agg [eRat a, eRat b], .agg [eRat c, eRat d]]] = (qsz a + qsz b + qsz c + qsz d < LM, [.agg [eRat (c - a), eRat (d - b)]]) := ct1_at ((a, b), c, d)
/-! i.minmax -/
noncomputable def mnmxC := ct2 ERat ERat (fun p0 p1 => qsz p0 + qsz p1 < LM) (fun p0 p1 => [eRat (loQ p0 p1), eRat (hiQ p0 p1)])
@[simp] theorem mnmxC_at (a : Rat) (b : Rat) : mnmxC [eRat a, eRat b] = (qsz a + qsz b < LM, [eRat (loQ a b), eRat (hiQ a b)]) := ct2_at a b
/-! i.apart -/
noncomputable def aprtC := ct4 ERat ERat ERat ERat (fun p0 p1 p2 p3 => qsz p0 + qsz p1 + qsz p2 + qsz p3 < LM) (fun p0 p1 p2 p3 => [.lit (.bool (bapart p0 p1 p2 p3))])
@[simp] theorem aprtC_at (a : Rat) (b : Rat) (c : Rat) (d : Rat) : aprtC [eRat a, eRat b, eRat c, eRat d] = (qsz a + qsz b + qsz c + qsz d < LM, [.lit (.bool (bapart a b c d))]) := ct4_at a b c d
/-! (i.sg).has -/
noncomputable def sghasC := ct2 ESg EP (fun p0 p1 => qsz p0.1.1 + qsz p0.1.2 + qsz p0.2.1 + qsz p0.2.2 + qsz p1.1 + qsz p1.2 < 10000000) (fun p0 p1 => [.lit (.bool (hasB p0.1.1 p0.1.2 p0.2.1 p0.2.2 p1.1 p1.2))])
@[simp] theorem sghasC_at (a b c d : Rat) (e f : Rat) : sghasC [.agg [.agg [eRat a, eRat b], .agg [eRat c, eRat d]], .agg [eRat e, eRat f]] = (qsz a + qsz b + qsz c + qsz d + qsz e + qsz f < 10000000, [.lit (.bool (hasB a b c d e f))]) := ct2_at ((a, b), c, d) (e, f)
/-! (i.sg).foot -/
noncomputable def sgfootC := ct2 ESg EP (fun p0 p1 => qsz p0.1.1 + qsz p0.1.2 + qsz p0.2.1 + qsz p0.2.2 + qsz p1.1 + qsz p1.2 < 10000000 ∧ ¬ (p0.2.1 - p0.1.1 = 0 ∧ p0.2.2 - p0.1.2 = 0)) (fun p0 p1 => [eRat (footQ p0.1.1 p0.1.2 p0.2.1 p0.2.2 p1.1 p1.2)])
@[simp] theorem sgfootC_at (a b c d : Rat) (e f : Rat) : sgfootC [.agg [.agg [eRat a, eRat b], .agg [eRat c, eRat d]], .agg [eRat e, eRat f]] = (qsz a + qsz b + qsz c + qsz d + qsz e + qsz f < 10000000 ∧ ¬ (c - a = 0 ∧ d - b = 0), [eRat (footQ a b c d e f)]) := ct2_at ((a, b), c, d) (e, f)
theorem footQ_sz {a b c d p q : Rat} (h : ¬ (c - a = 0 ∧ d - b = 0)) : qsz (footQ a b c d p q) ≤ 4 * (qsz a + qsz b + qsz c + qsz d + qsz p + qsz q) + 10 := by
  unfold footQ
  have := qsz_div (a := dotQ (p - a) (q - b) (c - a) (d - b)) (sq_pos h)
  grind [dotQ_sz, qsz_sub]
theorem nearQ_sz {a b c d p q : Rat} (h : ¬ (c - a = 0 ∧ d - b = 0)) : qsz (nearQ a b c d p q).1 + qsz (nearQ a b c d p q).2 ≤ 12 * (qsz a + qsz b + qsz c + qsz d + qsz p + qsz q) + 40 := by
  have := footQ_sz (p := p) (q := q) h
  unfold nearQ
  split
  · show qsz a + qsz b ≤ _; omega
  · split
    · show qsz c + qsz d ≤ _; omega
    · show qsz (a + (c - a) * footQ a b c d p q) + qsz (b + (d - b) * footQ a b c d p q) ≤ _
      grind [qsz_add, qsz_sub, qsz_mul]
theorem one_rat : ((1 : Int) : Rat) = 1 := rfl
theorem qsz_one : qsz 1 = 1 := by decide +kernel

/-! (i.sg).near -/
noncomputable def sgnearC := ct2 ESg EP (fun p0 p1 => qsz p0.1.1 + qsz p0.1.2 + qsz p0.2.1 + qsz p0.2.2 + qsz p1.1 + qsz p1.2 < 1000000 ∧ ¬ (p0.2.1 - p0.1.1 = 0 ∧ p0.2.2 - p0.1.2 = 0)) (fun p0 p1 => [.agg [eRat (nearQ p0.1.1 p0.1.2 p0.2.1 p0.2.2 p1.1 p1.2).1, eRat (nearQ p0.1.1 p0.1.2 p0.2.1 p0.2.2 p1.1 p1.2).2]])
@[simp] theorem sgnearC_at (a b c d : Rat) (e f : Rat) : sgnearC [.agg [.agg [eRat a, eRat b], .agg [eRat c, eRat d]], .agg [eRat e, eRat f]] = (qsz a + qsz b + qsz c + qsz d + qsz e + qsz f < 1000000 ∧ ¬ (c - a = 0 ∧ d - b = 0), [.agg [eRat (nearQ a b c d e f).1, eRat (nearQ a b c d e f).2]]) := ct2_at ((a, b), c, d) (e, f)
noncomputable def sgnearTb : List (FuncId × Ct) := [(40, .data rsgC)]
theorem sgnearTb_ok {N : NR} : TbOK N Try.prog (tbl sgnearTb) := tbl_cons (c := .data rsgC) rsign_spec rsign_ok tbl_nil

@[simp] theorem sgnearTb2 : tbl sgnearTb 40 = some (.data rsgC) := rfl
/-! i.dist2 -/
noncomputable def dst2C := ct2 EP EP (fun p0 p1 => qsz p0.1 + qsz p0.2 + qsz p1.1 + qsz p1.2 < 100000000) (fun p0 p1 => [eRat (dist2Q p0.1 p0.2 p1.1 p1.2)])
@[simp] theorem dst2C_at (a b : Rat) (c d : Rat) : dst2C [.agg [eRat a, eRat b], .agg [eRat c, eRat d]] = (qsz a + qsz b + qsz c + qsz d < 100000000, [eRat (dist2Q a b c d)]) := ct2_at (a, b) (c, d)
/-! (i.pt).v -/
noncomputable def ptvC := ct1 EP (fun p0 => True) (fun p0 => vD (oV p0.1 p0.2))
@[simp] theorem ptvC_at (a b : Rat) : ptvC [.agg [eRat a, eRat b]] = (True, vD (oV a b)) := ct1_at (a, b)
noncomputable def ptvTb : List (FuncId × Ct) := [(32, .data rqqC)]
theorem ptvTb_ok {N : NR} : TbOK N Try.prog (tbl ptvTb) := tbl_cons (c := .data rqqC) rqq_spec rqq_ok tbl_nil

@[simp] theorem ptvTb1 : tbl ptvTb 32 = some (.data rqqC) := rfl
theorem ptv_spec {N : NR} : SpecD N Try.prog 22 ptvC := by
  refine rd1 (mf := fun f => false) ptvTb_ok (fn := Try.f22) (by kernel_rfl) rfl (by kernel_rfl) (by kernel_rfl) ?_
  rintro ⟨a, b⟩ hp
  have hp : True := hp
  show awp _ _ _ _ (start _ ([.agg [eRat a, eRat b]].map .dat) []) (endK _ _ _ ((vD (oV a b)).map .dat) [])
  cases e1 : (oq a).2.2 <;> cases e2 : (oq b).2.2 <;> simp [-D.isLit, Try.f22, oV, vD, e1, e2, eQ, i64D]
theorem ptv_ok : callable Try.prog 22 = true := by kernel_rfl
end Go.Proofs.Ytmnplonkijkblaa.Ae

/-! impl: places of space, planes. No condition. -/
namespace Go.Proofs.Ytmnplonkijkblaa.Ae
open Go Go.RowKit Go.Proofs.Ytmnplonkijkblaa.Dig
def Enc.quad {α β γ δ : Type} (A : Enc α) (B : Enc β) (C : Enc γ) (E : Enc δ) : Enc (α × β × γ × δ) := ⟨fun p => .agg [A.e p.1, B.e p.2.1, C.e p.2.2.1, E.e p.2.2.2], fun p q h => by
  simp only [D.agg.injEq, List.cons.injEq, and_true] at h
  exact Prod.ext (A.inj _ _ h.1) (Prod.ext (B.inj _ _ h.2.1) (Prod.ext (C.inj _ _ h.2.2.1) (E.inj _ _ h.2.2.2)))⟩
def EV3 : Enc ((Int × Int) × (Int × Int) × Int × Int) := EQ.trip EQ EQ
def EPl : Enc ((Int × Int) × (Int × Int) × (Int × Int) × Int × Int) := EQ.quad EQ EQ EQ
def EP3 : Enc (Rat × Rat × Rat) := ERat.trip ERat ERat
def EP3n : Enc (Rat × Rat × Rat) := ENum.trip ENum ENum
def EPq : Enc ((Rat × Rat × Rat) × Rat) := EP3.pair ERat
def EFn : Enc ((Rat × Rat × Rat) × Rat) := ⟨fun p => .agg [EP3n.e p.1, nD p.2, .lit (.slice none 0 0)], fun p q h => by
  simp only [D.agg.injEq, List.cons.injEq, and_true] at h
  exact Prod.ext (EP3n.inj _ _ h.1) (nD_inj h.2)⟩
@[simp] theorem EV3_e (a b c d e f : Int) : EV3.e ((a, b), (c, d), e, f) = .agg [eQ a b, eQ c d, eQ e f] := rfl
@[simp] theorem EPl_e (a b c d e f g h : Int) : EPl.e ((a, b), (c, d), (e, f), g, h) = .agg [eQ a b, eQ c d, eQ e f, eQ g h] := rfl
@[simp] theorem EP3_e (a b c : Rat) : EP3.e (a, b, c) = .agg [eRat a, eRat b, eRat c] := rfl
@[simp] theorem EP3n_e (a b c : Rat) : EP3n.e (a, b, c) = .agg [nD a, nD b, nD c] := rfl
@[simp] theorem EPq_e (a b c d : Rat) : EPq.e ((a, b, c), d) = .agg [.agg [eRat a, eRat b, eRat c], eRat d] := rfl
@[simp] theorem EFn_e (a b c d : Rat) : EFn.e ((a, b, c), d) = .agg [.agg [nD a, nD b, nD c], nD d, .lit (.slice none 0 0)] := rfl
def v3Ok (a b c d e f : Int) : Prop := qOk a b ∧ qOk c d ∧ qOk e f
instance (a b c d e f : Int) : Decidable (v3Ok a b c d e f) := by unfold v3Ok; infer_instance
def q4Ok (a b c d e f g h : Int) : Prop := qOk a b ∧ qOk c d ∧ qOk e f ∧ qOk g h
instance (a b c d e f g h : Int) : Decidable (q4Ok a b c d e f g h) := by unfold q4Ok; infer_instance
theorem z_all3 (a b c d e f : Int) : allQC [.sl 2 [eQ a b, eQ c d, eQ e f]] = (((I64 a ∧ I64 b) ∧ (I64 c ∧ I64 d) ∧ I64 e ∧ I64 f), [.lit (.bool (decide (v3Ok a b c d e f)))]) := by
  have h1 := allQC_at [(a, b), (c, d), (e, f)]
  have h2 : (([(a, b), (c, d), (e, f)] : List (Int × Int)).length < 4611686018427387904 ∧ ∀ q ∈ [(a, b), (c, d), (e, f)], I64p q) ↔ ((I64 a ∧ I64 b) ∧ (I64 c ∧ I64 d) ∧ I64 e ∧ I64 f) := by
    constructor
    · rintro ⟨_, h⟩
      exact ⟨h (a, b) (by simp), h (c, d) (by simp), h (e, f) (by simp)⟩
    · rintro ⟨h1, h2, h3⟩
      refine ⟨by simp, ?_⟩
      intro q hq
      simp at hq
      rcases hq with rfl | rfl | rfl
      · exact h1
      · exact h2
      · exact h3
  rw [propext h2] at h1
  have h3 : (([(a, b), (c, d), (e, f)] : List (Int × Int)).all fun q => decide (qOk q.1 q.2)) = decide (v3Ok a b c d e f) := by rw [Bool.eq_iff_iff, decide_eq_true_eq]; unfold v3Ok; simp
  rw [h3] at h1
  exact h1
theorem z_all4 (a b c d e f g h : Int) : allQC [.sl 2 [eQ a b, eQ c d, eQ e f, eQ g h]] = (((I64 a ∧ I64 b) ∧ (I64 c ∧ I64 d) ∧ (I64 e ∧ I64 f) ∧ I64 g ∧ I64 h), [.lit (.bool (decide (q4Ok a b c d e f g h)))]) := by
  have h1 := allQC_at [(a, b), (c, d), (e, f), (g, h)]
  have h2 : (([(a, b), (c, d), (e, f), (g, h)] : List (Int × Int)).length < 4611686018427387904 ∧ ∀ q ∈ [(a, b), (c, d), (e, f), (g, h)], I64p q) ↔ ((I64 a ∧ I64 b) ∧ (I64 c ∧ I64 d) ∧ (I64 e ∧ I64 f) ∧ I64 g ∧ I64 h) := by
    constructor
    · rintro ⟨_, h'⟩
      exact ⟨h' (a, b) (by simp), h' (c, d) (by simp), h' (e, f) (by simp), h' (g, h) (by simp)⟩
    · rintro ⟨h1, h2, h3, h4⟩
      refine ⟨by simp, ?_⟩
      intro q hq
      simp at hq
      rcases hq with rfl | rfl | rfl | rfl
      · exact h1
      · exact h2
      · exact h3
      · exact h4
  rw [propext h2] at h1
  have h3 : (([(a, b), (c, d), (e, f), (g, h)] : List (Int × Int)).all fun q => decide (qOk q.1 q.2)) = decide (q4Ok a b c d e f g h) := by rw [Bool.eq_iff_iff, decide_eq_true_eq]; unfold q4Ok; simp
  rw [h3] at h1
  exact h1
attribute [simp] z_all3 z_all4
def one1 (n d : Int) : Bool := decide (d = 1) && (decide (n = 1) || decide (n = -1))
def plOk (a b c d e f g h : Int) : Prop := q4Ok a b c d e f g h ∧ (if a = 0 then if c = 0 then one1 e f = true else one1 c d = true else one1 a b = true)
instance (a b c d e f g h : Int) : Decidable (plOk a b c d e f g h) := by unfold plOk; infer_instance
def dot3Q (a b c d e f : Rat) : Rat := a * d + b * e + c * f
def htQ (a b c d e f g : Rat) : Rat := dot3Q a b c e f g - d
def rabs (a : Rat) : Rat := if a.num.sign < 0 then -a else a
/-- The first number that is not 0. -/
def ledI (a b c : Rat) : Int := if a.num.sign = 0 then if b.num.sign = 0 then if c.num.sign = 0 then -1 else 2 else 1 else 0
def ledQ (a b c : Rat) : Rat := if a.num.sign = 0 then if b.num.sign = 0 then c else b else a
/-- The coordinate that is left out. -/
def offI (b c : Rat) : Int := if c.num.sign = 0 then if b.num.sign = 0 then 0 else 1 else 2
def drpQ (b c x y z : Rat) : Rat × Rat := if c.num.sign = 0 then if b.num.sign = 0 then (y, z) else (x, z) else (x, y)
def lftQ (a b c d x y : Rat) : Rat × Rat × Rat := if c.num.sign = 0 then if b.num.sign = 0 then ((d - (b * x + c * y)) / a, x, y) else (x, (d - (a * x + c * y)) / b, y) else (x, y, (d - (a * x + b * y)) / c)
/-- A place of space, if its coordinates are moderate. -/
def oV3 (x y z : Rat) : (Int × Int) × (Int × Int) × (Int × Int) × Bool := if (oq x).2.2 = true ∧ (oq y).2.2 = true ∧ (oq z).2.2 = true then (((oq x).1, (oq x).2.1), ((oq y).1, (oq y).2.1), ((oq z).1, (oq z).2.1), true) else ((0, 0), (0, 0), (0, 0), false)
def v3T (o : (Int × Int) × (Int × Int) × (Int × Int) × Bool) : List D := [.agg [eQ o.1.1 o.1.2, eQ o.2.1.1 o.2.1.2, eQ o.2.2.1.1 o.2.2.1.2], .lit (.bool o.2.2.2)]
def oPl (x y z w : Rat) : (Int × Int) × (Int × Int) × (Int × Int) × (Int × Int) × Bool := if (oq x).2.2 = true ∧ (oq y).2.2 = true ∧ (oq z).2.2 = true ∧ (oq w).2.2 = true then (((oq x).1, (oq x).2.1), ((oq y).1, (oq y).2.1), ((oq z).1, (oq z).2.1), ((oq w).1, (oq w).2.1), true) else ((0, 0), (0, 0), (0, 0), (0, 0), false)
def plT (o : (Int × Int) × (Int × Int) × (Int × Int) × (Int × Int) × Bool) : List D := [.agg [eQ o.1.1 o.1.2, eQ o.2.1.1 o.2.1.2, eQ o.2.2.1.1 o.2.2.1.2, eQ o.2.2.2.1.1 o.2.2.2.1.2], .lit (.bool o.2.2.2.2)]
theorem dot3Q_sz (a b c d e f : Rat) : qsz (dot3Q a b c d e f) ≤ qsz a + qsz b + qsz c + qsz d + qsz e + qsz f + 2 := by unfold dot3Q; grind [qsz_add, qsz_mul]
theorem rabs_sz (a : Rat) : qsz (rabs a) ≤ qsz a := by unfold rabs; split <;> grind [qsz_neg]
theorem rabs_ne {a : Rat} (h : a ≠ 0) : rabs a ≠ 0 := by unfold rabs; split <;> grind
theorem ledQ_sz (a b c : Rat) : qsz (ledQ a b c) ≤ qsz a + qsz b + qsz c := by unfold ledQ; split <;> (try split) <;> omega
theorem sgn_ne {a : Rat} (h : ¬ a.num.sign = 0) : a ≠ 0 := by rintro rfl; exact h rfl
theorem sgn_eq {a : Rat} (h : a.num.sign = 0) : a = 0 := by
  have := Int.sign_eq_zero_iff_zero.1 h
  exact Rat.num_eq_zero.1 this

/-! i.V3Ok -/
noncomputable def iV3OkC := ct1 EV3 (fun p0 => ((I64 p0.1.1 ∧ I64 p0.1.2) ∧ (I64 p0.2.1.1 ∧ I64 p0.2.1.2) ∧ I64 p0.2.2.1 ∧ I64 p0.2.2.2)) (fun p0 => [.lit (.bool (decide (v3Ok p0.1.1 p0.1.2 p0.2.1.1 p0.2.1.2 p0.2.2.1 p0.2.2.2)))])
@[simp] theorem iV3OkC_at (a b c d e f : Int) : iV3OkC [.agg [eQ a b, eQ c d, eQ e f]] = (((I64 a ∧ I64 b) ∧ (I64 c ∧ I64 d) ∧ I64 e ∧ I64 f), [.lit (.bool (decide (v3Ok a b c d e f)))]) := ct1_at ((a, b), (c, d), e, f)
noncomputable def iV3OkTb : List (FuncId × Ct) := [(29, .data allQC)]
theorem iV3OkTb_ok {N : NR} : TbOK N Try.prog (tbl iV3OkTb) := tbl_cons (c := .data allQC) allQ_spec allQ_ok tbl_nil

@[simp] theorem iV3OkTb1 : tbl iV3OkTb 29 = some (.data allQC) := rfl
theorem iV3Ok_spec {N : NR} : SpecD N Try.prog 18 iV3OkC := by
  refine rd1 (mf := fun f => false) iV3OkTb_ok (fn := Try.f18) (by kernel_rfl) rfl (by kernel_rfl) (by kernel_rfl) ?_
  rintro ⟨⟨a, b⟩, ⟨c, d⟩, e, f⟩ hp
  have hp : ((I64 a ∧ I64 b) ∧ (I64 c ∧ I64 d) ∧ I64 e ∧ I64 f) := hp
  show awp _ _ _ _ (start _ ([.agg [eQ a b, eQ c d, eQ e f]].map .dat) []) (endK _ _ _ (([.lit (.bool (decide (v3Ok a b c d e f)))]).map .dat) [])
  simp [-D.isLit, Try.f18]
  exact hp
theorem iV3Ok_ok : callable Try.prog 18 = true := by kernel_rfl

/-! i.pv3 -/
noncomputable def pv3C := ct1 EV3 (fun p0 => QI p0.1.1 p0.1.2 ∧ QI p0.2.1.1 p0.2.1.2 ∧ QI p0.2.2.1 p0.2.2.2) (fun p0 => [.agg [eRat (Rat.divInt p0.1.1 p0.1.2), eRat (Rat.divInt p0.2.1.1 p0.2.1.2), eRat (Rat.divInt p0.2.2.1 p0.2.2.2)]])
@[simp] theorem pv3C_at (a b c d e f : Int) : pv3C [.agg [eQ a b, eQ c d, eQ e f]] = (QI a b ∧ QI c d ∧ QI e f, [.agg [eRat (Rat.divInt a b), eRat (Rat.divInt c d), eRat (Rat.divInt e f)]]) := ct1_at ((a, b), (c, d), e, f)
noncomputable def pv3Tb : List (FuncId × Ct) := [(30, .data rqC)]
theorem pv3Tb_ok {N : NR} : TbOK N Try.prog (tbl pv3Tb) := tbl_cons (c := .data rqC) rq_spec rq_ok tbl_nil

@[simp] theorem pv3Tb1 : tbl pv3Tb 30 = some (.data rqC) := rfl
theorem pv3_spec {N : NR} : SpecD N Try.prog 21 pv3C := by
  refine rd1 (mf := fun f => false) pv3Tb_ok (fn := Try.f21) (by kernel_rfl) rfl (by kernel_rfl) (by kernel_rfl) ?_
  rintro ⟨⟨a, b⟩, ⟨c, d⟩, e, f⟩ hp
  have hp : QI a b ∧ QI c d ∧ QI e f := hp
  show awp _ _ _ _ (start _ ([.agg [eQ a b, eQ c d, eQ e f]].map .dat) []) (endK _ _ _ (([.agg [eRat (Rat.divInt a b), eRat (Rat.divInt c d), eRat (Rat.divInt e f)]]).map .dat) [])
  simp [-D.isLit, Try.f21, hp]
theorem pv3_ok : callable Try.prog 21 = true := by kernel_rfl

/-! i.ppl -/
noncomputable def pplC := ct1 EPl (fun p0 => QI p0.1.1 p0.1.2 ∧ QI p0.2.1.1 p0.2.1.2 ∧ QI p0.2.2.1.1 p0.2.2.1.2 ∧ QI p0.2.2.2.1 p0.2.2.2.2) (fun p0 => [.agg [.agg [eRat (Rat.divInt p0.1.1 p0.1.2), eRat (Rat.divInt p0.2.1.1 p0.2.1.2), eRat (Rat.divInt p0.2.2.1.1 p0.2.2.1.2)], eRat (Rat.divInt p0.2.2.2.1 p0.2.2.2.2)]])
@[simp] theorem pplC_at (a b c d e f g h : Int) : pplC [.agg [eQ a b, eQ c d, eQ e f, eQ g h]] = (QI a b ∧ QI c d ∧ QI e f ∧ QI g h, [.agg [.agg [eRat (Rat.divInt a b), eRat (Rat.divInt c d), eRat (Rat.divInt e f)], eRat (Rat.divInt g h)]]) := ct1_at ((a, b), (c, d), (e, f), g, h)
noncomputable def pplTb : List (FuncId × Ct) := [(30, .data rqC)]
theorem pplTb_ok {N : NR} : TbOK N Try.prog (tbl pplTb) := tbl_cons (c := .data rqC) rq_spec rq_ok tbl_nil

@[simp] theorem pplTb1 : tbl pplTb 30 = some (.data rqC) := rfl
theorem ppl_spec {N : NR} : SpecD N Try.prog 19 pplC := by
  refine rd1 (mf := fun f => false) pplTb_ok (fn := Try.f19) (by kernel_rfl) rfl (by kernel_rfl) (by kernel_rfl) ?_
  rintro ⟨⟨a, b⟩, ⟨c, d⟩, ⟨e, f⟩, g, h⟩ hp
  have hp : QI a b ∧ QI c d ∧ QI e f ∧ QI g h := hp
  show awp _ _ _ _ (start _ ([.agg [eQ a b, eQ c d, eQ e f, eQ g h]].map .dat) []) (endK _ _ _ (([.agg [.agg [eRat (Rat.divInt a b), eRat (Rat.divInt c d), eRat (Rat.divInt e f)], eRat (Rat.divInt g h)]]).map .dat) [])
  simp [-D.isLit, Try.f19, hp]
theorem ppl_ok : callable Try.prog 19 = true := by kernel_rfl

/-! (i.p3).sub -/
noncomputable def p3subC := ct2 EP3 EP3 (fun p0 p1 => qsz p0.1 + qsz p0.2.1 + qsz p0.2.2 + qsz p1.1 + qsz p1.2.1 + qsz p1.2.2 < LM) (fun p0 p1 => [.agg [eRat (p0.1 - p1.1), eRat (p0.2.1 - p1.2.1), eRat (p0.2.2 - p1.2.2)]])
@[simp] theorem p3subC_at (a b c : Rat) (d e f : Rat) : p3subC [.agg [eRat a, eRat b, eRat c], .agg [eRat d, eRat e, eRat f]] = (qsz a + qsz b + qsz c + qsz d + qsz e + qsz f < LM, [.agg [eRat (a - d), eRat (b - e), eRat (c - f)]]) := ct2_at (a, b, c) (d, e, f)
/-! (i.p3).times -/
noncomputable def p3timesC := ct2 EP3 ERat (fun p0 p1 => qsz p0.1 + qsz p0.2.1 + qsz p0.2.2 + qsz p1 < LM) (fun p0 p1 => [.agg [eRat (p0.1 * p1), eRat (p0.2.1 * p1), eRat (p0.2.2 * p1)]])
@[simp] theorem p3timesC_at (a b c : Rat) (d : Rat) : p3timesC [.agg [eRat a, eRat b, eRat c], eRat d] = (qsz a + qsz b + qsz c + qsz d < LM, [.agg [eRat (a * d), eRat (b * d), eRat (c * d)]]) := ct2_at (a, b, c) d
/-! i.dot3 -/
noncomputable def dot3C := ct2 EP3 EP3 (fun p0 p1 => qsz p0.1 + qsz p0.2.1 + qsz p0.2.2 + qsz p1.1 + qsz p1.2.1 + qsz p1.2.2 < LM) (fun p0 p1 => [eRat (dot3Q p0.1 p0.2.1 p0.2.2 p1.1 p1.2.1 p1.2.2)])
@[simp] theorem dot3C_at (a b c : Rat) (d e f : Rat) : dot3C [.agg [eRat a, eRat b, eRat c], .agg [eRat d, eRat e, eRat f]] = (qsz a + qsz b + qsz c + qsz d + qsz e + qsz f < LM, [eRat (dot3Q a b c d e f)]) := ct2_at (a, b, c) (d, e, f)
/-! i.cross3 -/
noncomputable def crs3C := ct2 EP3 EP3 (fun p0 p1 => qsz p0.1 + qsz p0.2.1 + qsz p0.2.2 + qsz p1.1 + qsz p1.2.1 + qsz p1.2.2 < LM) (fun p0 p1 => [.agg [eRat (p0.2.1 * p1.2.2 - p0.2.2 * p1.2.1), eRat (p0.2.2 * p1.1 - p0.1 * p1.2.2), eRat (p0.1 * p1.2.1 - p0.2.1 * p1.1)]])
@[simp] theorem crs3C_at (a b c : Rat) (d e f : Rat) : crs3C [.agg [eRat a, eRat b, eRat c], .agg [eRat d, eRat e, eRat f]] = (qsz a + qsz b + qsz c + qsz d + qsz e + qsz f < LM, [.agg [eRat (b * f - c * e), eRat (c * d - a * f), eRat (a * e - b * d)]]) := ct2_at (a, b, c) (d, e, f)
/-! (i.p3).v -/
noncomputable def p3vC := ct1 EP3 (fun p0 => True) (fun p0 => v3T (oV3 p0.1 p0.2.1 p0.2.2))
@[simp] theorem p3vC_at (a b c : Rat) : p3vC [.agg [eRat a, eRat b, eRat c]] = (True, v3T (oV3 a b c)) := ct1_at (a, b, c)
noncomputable def p3vTb : List (FuncId × Ct) := [(32, .data rqqC)]
theorem p3vTb_ok {N : NR} : TbOK N Try.prog (tbl p3vTb) := tbl_cons (c := .data rqqC) rqq_spec rqq_ok tbl_nil

@[simp] theorem p3vTb1 : tbl p3vTb 32 = some (.data rqqC) := rfl
/-! (i.rat).abs -/
noncomputable def rabsrC := ct1 ERat (fun p0 => qsz p0 < LM) (fun p0 => [eRat (rabs p0)])
@[simp] theorem rabsrC_at (a : Rat) : rabsrC [eRat a] = (qsz a < LM, [eRat (rabs a)]) := ct1_at a
noncomputable def rabsrTb : List (FuncId × Ct) := [(40, .data rsgC)]
theorem rabsrTb_ok {N : NR} : TbOK N Try.prog (tbl rabsrTb) := tbl_cons (c := .data rsgC) rsign_spec rsign_ok tbl_nil

@[simp] theorem rabsrTb1 : tbl rabsrTb 40 = some (.data rsgC) := rfl
/-! (i.pl).height -/
noncomputable def plhtC := ct2 EPq EP3 (fun p0 p1 => qsz p0.1.1 + qsz p0.1.2.1 + qsz p0.1.2.2 + qsz p0.2 + qsz p1.1 + qsz p1.2.1 + qsz p1.2.2 < 100000000) (fun p0 p1 => [eRat (htQ p0.1.1 p0.1.2.1 p0.1.2.2 p0.2 p1.1 p1.2.1 p1.2.2)])
@[simp] theorem plhtC_at (a b c d : Rat) (e f g : Rat) : plhtC [.agg [.agg [eRat a, eRat b, eRat c], eRat d], .agg [eRat e, eRat f, eRat g]] = (qsz a + qsz b + qsz c + qsz d + qsz e + qsz f + qsz g < 100000000, [eRat (htQ a b c d e f g)]) := ct2_at ((a, b, c), d) (e, f, g)
theorem one_rat' : ((1 : Int) : Rat) = 1 := rfl
theorem one_div_inv (a : Rat) : 1 / a = a⁻¹ := by rw [Rat.div_def, Rat.one_mul]
theorem qsz_inv' {a : Rat} (h : a ≠ 0) : qsz a⁻¹ ≤ qsz (1 : Rat) + qsz a + 1 := by
  rw [← one_div_inv]
  have := qsz_div (a := (1 : Rat)) h
  omega
/-- The plane through three places: its numbers, or none. -/
def thrQ (x y z d : Rat) : Option ((Rat × Rat × Rat) × Rat) :=
  if x.num.sign = 0 ∧ y.num.sign = 0 ∧ z.num.sign = 0 then none else some ((x * (rabs (ledQ x y z))⁻¹, y * (rabs (ledQ x y z))⁻¹, z * (rabs (ledQ x y z))⁻¹), d * (rabs (ledQ x y z))⁻¹)
def thrI (z : D) : Option ((Rat × Rat × Rat) × Rat) → List D
  | none => [z, .lit (.bool false)]
  | some ((x, y, z), d) => [.agg [.agg [eRat x, eRat y, eRat z], eRat d], .lit (.bool true)]
def thrN (z : D) : Option ((Rat × Rat × Rat) × Rat) → List D
  | none => [z, .lit (.bool false)]
  | some ((x, y, z), d) => [.agg [.agg [nD x, nD y, nD z], nD d, .lit (.slice none 0 0)], .lit (.bool true)]
def crX (a b c d e f g h i : Rat) : Rat := (e - b) * (i - c) - (f - c) * (h - b)
def crY (a b c d e f g h i : Rat) : Rat := (f - c) * (g - a) - (d - a) * (i - c)
def crZ (a b c d e f g h i : Rat) : Rat := (d - a) * (h - b) - (e - b) * (g - a)
def throQ (a b c d e f g h i : Rat) : Option ((Rat × Rat × Rat) × Rat) := thrQ (crX a b c d e f g h i) (crY a b c d e f g h i) (crZ a b c d e f g h i) (dot3Q (crX a b c d e f g h i) (crY a b c d e f g h i) (crZ a b c d e f g h i) a b c)
def zRat' : D := .agg [.lit (.int .i64 0), .lit (.int .i64 0), .lit (.pointer none)]
def zNum : D := .agg [.lit (.int .i64 0), .lit (.int .i64 0), .lit (.slice none 0 0)]
def zPl : D := .agg [.agg [zRat', zRat', zRat'], zRat']
def zFn : D := .agg [.agg [zNum, zNum, zNum], zNum, .lit (.slice none 0 0)]
theorem led_ne {x y z : Rat} (h : ¬ (x.num.sign = 0 ∧ y.num.sign = 0 ∧ z.num.sign = 0)) : ledQ x y z ≠ 0 := by
  unfold ledQ
  split
  · rename_i h1
    split
    · rename_i h2
      exact sgn_ne (fun h3 => h ⟨h1, h2, h3⟩)
    · rename_i h2; exact sgn_ne h2
  · rename_i h1; exact sgn_ne h1
/-- The plane's numbers, told. -/
def tldO : Option ((Rat × Rat × Rat) × Rat) → (Int × Int) × (Int × Int) × (Int × Int) × (Int × Int) × Bool
  | none => ((0, 0), (0, 0), (0, 0), (0, 0), false)
  | some ((x, y, z), d) => oPl x y z d
def plS (a b c d e f : Int) (k : Nat) : St := ⟨[.any, .any, .any, .any, .any, .any, .any, .any, .any, .any, .any, .any, .any, .any, .any, .any, .any, .any, .any, .any, .any, .any, .dat (.sl 2 [eQ a b, eQ c d, eQ e f]), .dat (.lit (.int .i64 3)), .dat (.lit (.int .i64 k)), .any, .any, .any, .any, .any, .any, .any, .any, .any, .any, .any, .any, .any, .any, .any, .any, .any, .any, .any, .any], [none, none, none, none, none, none, none, none, none, none, none, none, none, none, none, none, none, none, none, none, none, none, none, none, none, none, none, none, none, none, none, none, none, none, none, none, none, none, none, none, none, none, none, none, none]⟩

/-! i.PlaneOk -/
noncomputable def iPlaneOkC := ct1 EPl (fun p0 => ((I64 p0.1.1 ∧ I64 p0.1.2) ∧ (I64 p0.2.1.1 ∧ I64 p0.2.1.2) ∧ (I64 p0.2.2.1.1 ∧ I64 p0.2.2.1.2) ∧ I64 p0.2.2.2.1 ∧ I64 p0.2.2.2.2)) (fun p0 => [.lit (.bool (decide (plOk p0.1.1 p0.1.2 p0.2.1.1 p0.2.1.2 p0.2.2.1.1 p0.2.2.1.2 p0.2.2.2.1 p0.2.2.2.2)))])
@[simp] theorem iPlaneOkC_at (a b c d e f g h : Int) : iPlaneOkC [.agg [eQ a b, eQ c d, eQ e f, eQ g h]] = (((I64 a ∧ I64 b) ∧ (I64 c ∧ I64 d) ∧ (I64 e ∧ I64 f) ∧ I64 g ∧ I64 h), [.lit (.bool (decide (plOk a b c d e f g h)))]) := ct1_at ((a, b), (c, d), (e, f), g, h)
noncomputable def iPlaneOkTb : List (FuncId × Ct) := [(29, .data allQC)]
theorem iPlaneOkTb_ok {N : NR} : TbOK N Try.prog (tbl iPlaneOkTb) := tbl_cons (c := .data allQC) allQ_spec allQ_ok tbl_nil

@[simp] theorem iPlaneOkTb1 : tbl iPlaneOkTb 29 = some (.data allQC) := rfl
theorem iPlaneOk_spec {N : NR} : SpecD N Try.prog 17 iPlaneOkC := by
  refine rd1 (mf := fun f => false) iPlaneOkTb_ok (fn := Try.f17) (by kernel_rfl) rfl (by kernel_rfl) (by kernel_rfl) ?_
  rintro ⟨⟨a, b⟩, ⟨c, d⟩, ⟨e, f⟩, g, h⟩ hp
  have hp : ((I64 a ∧ I64 b) ∧ (I64 c ∧ I64 d) ∧ (I64 e ∧ I64 f) ∧ I64 g ∧ I64 h) := hp
  show awp _ _ _ _ (start _ ([.agg [eQ a b, eQ c d, eQ e f, eQ g h]].map .dat) []) (endK _ _ _ (([.lit (.bool (decide (plOk a b c d e f g h)))]).map .dat) [])
  obtain ⟨⟨i1, i2⟩, ⟨i3, i4⟩, ⟨i5, i6⟩, i7, i8⟩ := hp
  by_cases h1 : q4Ok a b c d e f g h
  case neg =>
    have e : decide (plOk a b c d e f g h) = false := decide_eq_false (fun x => h1 x.1)
    rw [e]
    simp [-D.isLit, Try.f17, i1, i2, i3, i4, i5, i6, i7, i8, h1]
  generalize hr : decide (plOk a b c d e f g h) = r
  have hr : (if a = 0 then if c = 0 then one1 e f else one1 c d else one1 a b) = r := by
    rw [← hr, Bool.eq_iff_iff, decide_eq_true_eq]; unfold plOk
    by_cases k1 : a = 0
    · by_cases k2 : c = 0
      · rw [if_pos k1, if_pos k2, if_pos k1, if_pos k2]; exact ⟨fun x => ⟨h1, x⟩, fun x => x.2⟩
      · rw [if_pos k1, if_neg k2, if_pos k1, if_neg k2]; exact ⟨fun x => ⟨h1, x⟩, fun x => x.2⟩
    · rw [if_neg k1, if_neg k1]; exact ⟨fun x => ⟨h1, x⟩, fun x => x.2⟩
  have w0 : IntKind.i64.wrap 1 = 1 := by decide
  have w2 : IntKind.i64.wrap 2 = 2 := by decide
  have w3 : IntKind.i64.wrap 3 = 3 := by decide
  simp [-D.isLit, Try.f17, i1, i2, i3, i4, i5, i6, i7, i8, h1]
  refine loop_go (fun n st => ∃ k, n = 3 - k ∧ (k = 0 ∨ (k = 1 ∧ a = 0) ∨ (k = 2 ∧ a = 0 ∧ c = 0) ∨ (k = 3 ∧ a = 0 ∧ c = 0 ∧ e = 0)) ∧ st = plS a b c d e f k) (s0 := plS a b c d e f 0) (n := 3) (snd_obs (n := 45) [] rfl (by simp) (by simp [plS])) ⟨0, rfl, .inl rfl, rfl⟩ ?_
  rintro n st ⟨k, hn, hk, rfl⟩ KN hN
  rcases hk with rfl | ⟨rfl, h2⟩ | ⟨rfl, h2, h3⟩ | ⟨rfl, h2, h3, h4⟩
  · by_cases h5 : a = 0
    · simp [-D.isLit, plS, ix, eQ, i64D, h5, w0, w2, w3]
      exact hN _ (nx (m := 2) (s'' := plS a b c d e f 1) (snd_obs (n := 45) [] rfl (by simp) (by simp [plS, eQ, i64D, h5])) ⟨1, rfl, .inr (.inl ⟨rfl, h5⟩), rfl⟩ (by omega))
    · have e : r = one1 a b := by rw [← hr]; rw [if_neg h5]
      subst e
      by_cases h6 : b = 1 <;> by_cases h7 : a = 1 <;> simp [-D.isLit, plS, ix, one1, eQ, i64D, h5, h6, h7]
  · by_cases h5 : c = 0
    · simp [-D.isLit, plS, ix, eQ, i64D, h5, h2, w0, w2, w3]
      exact hN _ (nx (m := 1) (s'' := plS a b c d e f 2) (snd_obs (n := 45) [] rfl (by simp) (by simp [plS, eQ, i64D, h5, h2])) ⟨2, rfl, .inr (.inr (.inl ⟨rfl, h2, h5⟩)), rfl⟩ (by omega))
    · have e : r = one1 c d := by rw [← hr]; rw [if_pos h2, if_neg h5]
      subst e
      by_cases h6 : d = 1 <;> by_cases h7 : c = 1 <;> simp [-D.isLit, plS, ix, one1, eQ, i64D, h5, h6, h7, h2]
  · by_cases h5 : e = 0
    · simp [-D.isLit, plS, ix, eQ, i64D, h5, h2, h3, w0, w2, w3]
      exact hN _ (nx (m := 0) (s'' := plS a b c d e f 3) (snd_obs (n := 45) [] rfl (by simp) (by simp [plS, eQ, i64D, h5, h2, h3])) ⟨3, rfl, .inr (.inr (.inr ⟨rfl, h2, h3, h5⟩)), rfl⟩ (by omega))
    · have e : r = one1 e f := by rw [← hr]; rw [if_pos h2, if_pos h3]
      subst e
      by_cases h6 : f = 1 <;> by_cases h7 : e = 1 <;> simp [-D.isLit, plS, ix, one1, eQ, i64D, h5, h6, h7, h2, h3]
  · have e' : r = false := by rw [← hr, if_pos h2, if_pos h3, h4]; unfold one1; simp
    subst e'
    simp [-D.isLit, plS]
theorem iPlaneOk_ok : callable Try.prog 17 = true := by kernel_rfl
def plLd (a b c d : Rat) (k : Nat) : St := ⟨[.any, .obj 1 [] 0, .any, .any, .dat (.lit (.int .i64 k)), .any, .any, .any, .any, .any, .any, .any, .any, .any, .any], [none, some (.box (.agg [.agg [eRat a, eRat b, eRat c], eRat d])), none, none, none, none, none, none, none, none, none, none, none, none, none]⟩

/-! (i.pl).lead -/
noncomputable def plLeadC := ct1 EPq (fun p0 => True) (fun p0 => [.lit (.int .i64 (ledI p0.1.1 p0.1.2.1 p0.1.2.2))])
@[simp] theorem plLeadC_at (a b c d : Rat) : plLeadC [.agg [.agg [eRat a, eRat b, eRat c], eRat d]] = (True, [.lit (.int .i64 (ledI a b c))]) := ct1_at ((a, b, c), d)
noncomputable def plLeadTb : List (FuncId × Ct) := [(40, .data rsgC)]
theorem plLeadTb_ok {N : NR} : TbOK N Try.prog (tbl plLeadTb) := tbl_cons (c := .data rsgC) rsign_spec rsign_ok tbl_nil

@[simp] theorem plLeadTb1 : tbl plLeadTb 40 = some (.data rsgC) := rfl
def plOf (a b c d : Rat) (k : Nat) : St := ⟨[.any, .obj 1 [] 0, .any, .dat (.lit (.int .i64 k)), .any, .any, .any, .any, .any, .any, .any, .any, .any, .any, .any], [none, some (.box (.agg [.agg [eRat a, eRat b, eRat c], eRat d])), none, none, none, none, none, none, none, none, none, none, none, none, none]⟩

/-! (i.pl).off -/
noncomputable def plOffC := ct1 EPq (fun p0 => True) (fun p0 => [.lit (.int .i64 (offI p0.1.2.1 p0.1.2.2))])
@[simp] theorem plOffC_at (a b c d : Rat) : plOffC [.agg [.agg [eRat a, eRat b, eRat c], eRat d]] = (True, [.lit (.int .i64 (offI b c))]) := ct1_at ((a, b, c), d)
noncomputable def plOffTb : List (FuncId × Ct) := [(40, .data rsgC)]
theorem plOffTb_ok {N : NR} : TbOK N Try.prog (tbl plOffTb) := tbl_cons (c := .data rsgC) rsign_spec rsign_ok tbl_nil

@[simp] theorem plOffTb1 : tbl plOffTb 40 = some (.data rsgC) := rfl
theorem plOff_spec {N : NR} : SpecD N Try.prog 31 plOffC := by
  refine rd1 (mf := fun f => false) plOffTb_ok (fn := Try.f31) (by kernel_rfl) rfl (by kernel_rfl) (by kernel_rfl) ?_
  rintro ⟨⟨a, b, c⟩, d⟩ hp
  have hp : True := hp
  show awp _ _ _ _ (start _ ([.agg [.agg [eRat a, eRat b, eRat c], eRat d]].map .dat) []) (endK _ _ _ (([.lit (.int .i64 (offI b c))]).map .dat) [])
  generalize hr : offI b c = r
  have w0 : IntKind.i64.wrap 0 = 0 := by decide
  have w1 : IntKind.i64.wrap 1 = 1 := by decide
  simp [-D.isLit, Try.f31]
  refine loop_go (fun n st => ∃ k, n = k ∧ (k = 2 ∨ (k = 1 ∧ c.num.sign = 0) ∨ (k = 0 ∧ c.num.sign = 0 ∧ b.num.sign = 0)) ∧ st = plOf a b c d k) (s0 := plOf a b c d 2) (n := 2) (snd_of (by simp [LeT, plOf]) (by simp [plOf])) ⟨2, rfl, .inl rfl, rfl⟩ ?_
  rintro n st ⟨k, hn, hk, rfl⟩ KN hN
  rcases hk with rfl | ⟨rfl, h2⟩ | ⟨rfl, h2, h3⟩
  · by_cases h5 : c.num.sign = 0
    · simp [-D.isLit, plOf, h5, w0, w1]
      exact hN _ (nx (m := 1) (s'' := plOf a b c d 1) (snd_of (by simp [LeT, plOf]) (by simp [plOf])) ⟨1, rfl, .inr (.inl ⟨rfl, h5⟩), rfl⟩ (by omega))
    · have e : r = 2 := by rw [← hr]; unfold offI; rw [if_neg h5]
      subst e
      simp [-D.isLit, plOf, h5]
  · by_cases h5 : b.num.sign = 0
    · simp [-D.isLit, plOf, h5, h2, w0, w1]
      exact hN _ (nx (m := 0) (s'' := plOf a b c d 0) (snd_of (by simp [LeT, plOf]) (by simp [plOf])) ⟨0, rfl, .inr (.inr ⟨rfl, h2, h5⟩), rfl⟩ (by omega))
    · have e : r = 1 := by rw [← hr]; unfold offI; rw [if_pos h2, if_neg h5]
      subst e
      simp [-D.isLit, plOf, h5, h2]
  · have e' : r = 0 := by rw [← hr]; unfold offI; rw [if_pos h2, if_pos h3]
    subst e'
    simp [-D.isLit, plOf]
theorem plOff_ok : callable Try.prog 31 = true := by kernel_rfl

/-! (i.pl).scaled -/
noncomputable def plScaledC := ct1 EPq (fun p0 => qsz p0.1.1 + qsz p0.1.2.1 + qsz p0.1.2.2 + qsz p0.2 < 100000000) (fun p0 => thrI zPl (thrQ p0.1.1 p0.1.2.1 p0.1.2.2 p0.2))
@[simp] theorem plScaledC_at (a b c d : Rat) : plScaledC [.agg [.agg [eRat a, eRat b, eRat c], eRat d]] = (qsz a + qsz b + qsz c + qsz d < 100000000, thrI zPl (thrQ a b c d)) := ct1_at ((a, b, c), d)
/-! i.planeOf -/
noncomputable def planeOfC := ct3 EP3 EP3 EP3 (fun p0 p1 p2 => qsz p0.1 + qsz p0.2.1 + qsz p0.2.2 + qsz p1.1 + qsz p1.2.1 + qsz p1.2.2 + qsz p2.1 + qsz p2.2.1 + qsz p2.2.2 < 1000000) (fun p0 p1 p2 => thrI zPl (throQ p0.1 p0.2.1 p0.2.2 p1.1 p1.2.1 p1.2.2 p2.1 p2.2.1 p2.2.2))
@[simp] theorem planeOfC_at (a b c : Rat) (d e f : Rat) (g h i : Rat) : planeOfC [.agg [eRat a, eRat b, eRat c], .agg [eRat d, eRat e, eRat f], .agg [eRat g, eRat h, eRat i]] = (qsz a + qsz b + qsz c + qsz d + qsz e + qsz f + qsz g + qsz h + qsz i < 1000000, thrI zPl (throQ a b c d e f g h i)) := ct3_at (a, b, c) (d, e, f) (g, h, i)
/-! (i.pl).plane -/
noncomputable def plPlaneC := ct1 EPq (fun p0 => True) (fun p0 => plT (oPl p0.1.1 p0.1.2.1 p0.1.2.2 p0.2))
@[simp] theorem plPlaneC_at (a b c d : Rat) : plPlaneC [.agg [.agg [eRat a, eRat b, eRat c], eRat d]] = (True, plT (oPl a b c d)) := ct1_at ((a, b, c), d)
noncomputable def plPlaneTb : List (FuncId × Ct) := [(32, .data rqqC)]
theorem plPlaneTb_ok {N : NR} : TbOK N Try.prog (tbl plPlaneTb) := tbl_cons (c := .data rqqC) rqq_spec rqq_ok tbl_nil

@[simp] theorem plPlaneTb2 : tbl plPlaneTb 32 = some (.data rqqC) := rfl
/-! (i.pl).drop -/
noncomputable def plDropC := ct2 EPq EP3 (fun p0 p1 => True) (fun p0 p1 => [.agg [eRat (drpQ p0.1.2.1 p0.1.2.2 p1.1 p1.2.1 p1.2.2).1, eRat (drpQ p0.1.2.1 p0.1.2.2 p1.1 p1.2.1 p1.2.2).2]])
@[simp] theorem plDropC_at (a b c d : Rat) (x y z : Rat) : plDropC [.agg [.agg [eRat a, eRat b, eRat c], eRat d], .agg [eRat x, eRat y, eRat z]] = (True, [.agg [eRat (drpQ b c x y z).1, eRat (drpQ b c x y z).2]]) := ct2_at ((a, b, c), d) (x, y, z)
noncomputable def plDropTb : List (FuncId × Ct) := [(31, .data plOffC)]
theorem plDropTb_ok {N : NR} : TbOK N Try.prog (tbl plDropTb) := tbl_cons (c := .data plOffC) plOff_spec plOff_ok tbl_nil

@[simp] theorem plDropTb1 : tbl plDropTb 31 = some (.data plOffC) := rfl
theorem plDrop_spec {N : NR} : SpecD N Try.prog 20 plDropC := by
  refine rd2 (mf := fun f => false) plDropTb_ok (fn := Try.f20) (by kernel_rfl) rfl (by kernel_rfl) (by kernel_rfl) ?_
  rintro ⟨⟨a, b, c⟩, d⟩ ⟨x, y, z⟩ hp
  have hp : True := hp
  show awp _ _ _ _ (start _ ([.agg [.agg [eRat a, eRat b, eRat c], eRat d], .agg [eRat x, eRat y, eRat z]].map .dat) []) (endK _ _ _ (([.agg [eRat (drpQ b c x y z).1, eRat (drpQ b c x y z).2]]).map .dat) [])
  by_cases h : c.num.sign = 0
  · by_cases h2 : b.num.sign = 0 <;> simp [-D.isLit, Try.f20, offI, drpQ, h, h2]
  · simp [-D.isLit, Try.f20, offI, drpQ, h]
theorem plDrop_ok : callable Try.prog 20 = true := by kernel_rfl
theorem zero_rat : ((0 : Int) : Rat) = 0 := rfl
theorem qsz_zero : qsz 0 ≤ 1 := by decide +kernel

/-! (i.pl).lift -/
noncomputable def plLiftC := ct2 EPq EP (fun p0 p1 => qsz p0.1.1 + qsz p0.1.2.1 + qsz p0.1.2.2 + qsz p0.2 + qsz p1.1 + qsz p1.2 < 10000000 ∧ ¬ (p0.1.1 = 0 ∧ p0.1.2.1 = 0 ∧ p0.1.2.2 = 0)) (fun p0 p1 => [.agg [eRat (lftQ p0.1.1 p0.1.2.1 p0.1.2.2 p0.2 p1.1 p1.2).1, eRat (lftQ p0.1.1 p0.1.2.1 p0.1.2.2 p0.2 p1.1 p1.2).2.1, eRat (lftQ p0.1.1 p0.1.2.1 p0.1.2.2 p0.2 p1.1 p1.2).2.2]])
@[simp] theorem plLiftC_at (a b c d : Rat) (x y : Rat) : plLiftC [.agg [.agg [eRat a, eRat b, eRat c], eRat d], .agg [eRat x, eRat y]] = (qsz a + qsz b + qsz c + qsz d + qsz x + qsz y < 10000000 ∧ ¬ (a = 0 ∧ b = 0 ∧ c = 0), [.agg [eRat (lftQ a b c d x y).1, eRat (lftQ a b c d x y).2.1, eRat (lftQ a b c d x y).2.2]]) := ct2_at ((a, b, c), d) (x, y)
noncomputable def plLiftTb : List (FuncId × Ct) := [(31, .data plOffC)]
theorem plLiftTb_ok {N : NR} : TbOK N Try.prog (tbl plLiftTb) := tbl_cons (c := .data plOffC) plOff_spec plOff_ok tbl_nil

@[simp] theorem plLiftTb1 : tbl plLiftTb 31 = some (.data plOffC) := rfl
end Go.Proofs.Ytmnplonkijkblaa.Ae

/-! The laws CmpV and Turn: both sides.  No condition. -/
namespace Go.Proofs.Ytmnplonkijkblaa.Ae
open Go Go.RowKit Go.Proofs.Ytmnplonkijkblaa.Dig

/-! i.CmpV -/
noncomputable def iCmpVC := ct2 EV EV (fun p0 p1 => ((I64 p0.1.1 ∧ I64 p0.1.2) ∧ I64 p0.2.1 ∧ I64 p0.2.2) ∧ ((I64 p1.1.1 ∧ I64 p1.1.2) ∧ I64 p1.2.1 ∧ I64 p1.2.2)) (fun p0 p1 => [.lit (.int .i64 (if (qOk p0.1.1 p0.1.2 ∧ qOk p0.2.1 p0.2.2) ∧ (qOk p1.1.1 p1.1.2 ∧ qOk p1.2.1 p1.2.2) then pcmp (Rat.divInt p0.1.1 p0.1.2) (Rat.divInt p0.2.1 p0.2.2) (Rat.divInt p1.1.1 p1.1.2) (Rat.divInt p1.2.1 p1.2.2) else 2))])
@[simp] theorem iCmpVC_at (a b c d : Int) (e f g h : Int) : iCmpVC [.agg [eQ a b, eQ c d], .agg [eQ e f, eQ g h]] = (((I64 a ∧ I64 b) ∧ I64 c ∧ I64 d) ∧ ((I64 e ∧ I64 f) ∧ I64 g ∧ I64 h), [.lit (.int .i64 (if (qOk a b ∧ qOk c d) ∧ (qOk e f ∧ qOk g h) then pcmp (Rat.divInt a b) (Rat.divInt c d) (Rat.divInt e f) (Rat.divInt g h) else 2))]) := ct2_at ((a, b), c, d) ((e, f), g, h)
/-! i.Turn -/
noncomputable def iTurnC := ct3 EV EV EV (fun p0 p1 p2 => ((I64 p0.1.1 ∧ I64 p0.1.2) ∧ I64 p0.2.1 ∧ I64 p0.2.2) ∧ ((I64 p1.1.1 ∧ I64 p1.1.2) ∧ I64 p1.2.1 ∧ I64 p1.2.2) ∧ ((I64 p2.1.1 ∧ I64 p2.1.2) ∧ I64 p2.2.1 ∧ I64 p2.2.2)) (fun p0 p1 p2 => [.lit (.int .i64 (if (qOk p0.1.1 p0.1.2 ∧ qOk p0.2.1 p0.2.2) ∧ (qOk p1.1.1 p1.1.2 ∧ qOk p1.2.1 p1.2.2) ∧ (qOk p2.1.1 p2.1.2 ∧ qOk p2.2.1 p2.2.2) then (turnQ (Rat.divInt p0.1.1 p0.1.2) (Rat.divInt p0.2.1 p0.2.2) (Rat.divInt p1.1.1 p1.1.2) (Rat.divInt p1.2.1 p1.2.2) (Rat.divInt p2.1.1 p2.1.2) (Rat.divInt p2.2.1 p2.2.2)).num.sign else 2))])
@[simp] theorem iTurnC_at (a b c d : Int) (e f g h : Int) (i j k l : Int) : iTurnC [.agg [eQ a b, eQ c d], .agg [eQ e f, eQ g h], .agg [eQ i j, eQ k l]] = (((I64 a ∧ I64 b) ∧ I64 c ∧ I64 d) ∧ ((I64 e ∧ I64 f) ∧ I64 g ∧ I64 h) ∧ ((I64 i ∧ I64 j) ∧ I64 k ∧ I64 l), [.lit (.int .i64 (if (qOk a b ∧ qOk c d) ∧ (qOk e f ∧ qOk g h) ∧ (qOk i j ∧ qOk k l) then (turnQ (Rat.divInt a b) (Rat.divInt c d) (Rat.divInt e f) (Rat.divInt g h) (Rat.divInt i j) (Rat.divInt k l)).num.sign else 2))]) := ct3_at ((a, b), c, d) ((e, f), g, h) ((i, j), k, l)
/-! s.VOk -/
noncomputable def sVOkC := ct1 EV (fun p0 => ((I64 p0.1.1 ∧ I64 p0.1.2) ∧ I64 p0.2.1 ∧ I64 p0.2.2)) (fun p0 => [.lit (.bool (decide (qOk p0.1.1 p0.1.2) && decide (qOk p0.2.1 p0.2.2)))])
@[simp] theorem sVOkC_at (a b c d : Int) : sVOkC [.agg [eQ a b, eQ c d]] = (((I64 a ∧ I64 b) ∧ I64 c ∧ I64 d), [.lit (.bool (decide (qOk a b) && decide (qOk c d)))]) := ct1_at ((a, b), c, d)
noncomputable def sVOkTb : List (FuncId × Ct) := [(24, .data qokC)]
theorem sVOkTb_ok : TbOK NF Try.prog (tbl sVOkTb) := tbl_cons (c := .data qokC) sQOk_spec sQOk_ok tbl_nil

@[simp] theorem sVOkTb1 : tbl sVOkTb 24 = some (.data qokC) := rfl
/-! s.l3p -/
noncomputable def l3pC := ct1 EV (fun p0 => (I64 p0.1.1 ∧ I64 p0.1.2 ∧ 0 < p0.1.2) ∧ I64 p0.2.1 ∧ I64 p0.2.2 ∧ 0 < p0.2.2) (fun p0 => [.agg [nD (Rat.divInt p0.1.1 p0.1.2), nD (Rat.divInt p0.2.1 p0.2.2)]])
@[simp] theorem l3pC_at (a b c d : Int) : l3pC [.agg [eQ a b, eQ c d]] = ((I64 a ∧ I64 b ∧ 0 < b) ∧ I64 c ∧ I64 d ∧ 0 < d, [.agg [nD (Rat.divInt a b), nD (Rat.divInt c d)]]) := ct1_at ((a, b), c, d)
noncomputable def l3pTb : List (FuncId × Ct) := [(28, .data nqC)]
theorem l3pTb_ok : TbOK NF Try.prog (tbl l3pTb) := tbl_cons (c := .data nqC) nq_spec l1q_ok tbl_nil

@[simp] theorem l3pTb1 : tbl l3pTb 28 = some (.data nqC) := rfl
/-! s.l3Cmp -/
noncomputable def l3CmpC := ct2 EPn EPn (fun p0 p1 => qsz p0.1 + qsz p0.2 + qsz p1.1 + qsz p1.2 < LM) (fun p0 p1 => [.lit (.int .i64 (pcmp p0.1 p0.2 p1.1 p1.2))])
@[simp] theorem l3CmpC_at (a b : Rat) (c d : Rat) : l3CmpC [.agg [nD a, nD b], .agg [nD c, nD d]] = (qsz a + qsz b + qsz c + qsz d < LM, [.lit (.int .i64 (pcmp a b c d))]) := ct2_at (a, b) (c, d)
/-! s.l3Sub -/
noncomputable def l3SubC := ct2 EPn EPn (fun p0 p1 => qsz p0.1 + qsz p0.2 + qsz p1.1 + qsz p1.2 < LM) (fun p0 p1 => [.agg [nD (p0.1 - p1.1), nD (p0.2 - p1.2)]])
@[simp] theorem l3SubC_at (a b : Rat) (c d : Rat) : l3SubC [.agg [nD a, nD b], .agg [nD c, nD d]] = (qsz a + qsz b + qsz c + qsz d < LM, [.agg [nD (a - c), nD (b - d)]]) := ct2_at (a, b) (c, d)
/-! s.l3Cross -/
noncomputable def l3CrossC := ct2 EPn EPn (fun p0 p1 => qsz p0.1 + qsz p0.2 + qsz p1.1 + qsz p1.2 < LM) (fun p0 p1 => [nD (crossQ p0.1 p0.2 p1.1 p1.2)])
@[simp] theorem l3CrossC_at (a b : Rat) (c d : Rat) : l3CrossC [.agg [nD a, nD b], .agg [nD c, nD d]] = (qsz a + qsz b + qsz c + qsz d < LM, [nD (crossQ a b c d)]) := ct2_at (a, b) (c, d)
/-! s.l3Turn -/
noncomputable def l3TurnC := ct3 EPn EPn EPn (fun p0 p1 p2 => qsz p0.1 + qsz p0.2 + qsz p1.1 + qsz p1.2 + qsz p2.1 + qsz p2.2 < 100000000) (fun p0 p1 p2 => [.lit (.int .i64 (turnQ p0.1 p0.2 p1.1 p1.2 p2.1 p2.2).num.sign)])
@[simp] theorem l3TurnC_at (a b : Rat) (c d : Rat) (e f : Rat) : l3TurnC [.agg [nD a, nD b], .agg [nD c, nD d], .agg [nD e, nD f]] = (qsz a + qsz b + qsz c + qsz d + qsz e + qsz f < 100000000, [.lit (.int .i64 (turnQ a b c d e f).num.sign)]) := ct3_at (a, b) (c, d) (e, f)
noncomputable def l3TurnTb : List (FuncId × Ct) := [(27, .data nSignC)]
theorem l3TurnTb_ok : TbOK NF Try.prog (tbl l3TurnTb) := tbl_cons (c := .data nSignC) nSign_spec l1rSign_ok tbl_nil

@[simp] theorem l3TurnTb3 : tbl l3TurnTb 27 = some (.data nSignC) := rfl
/-! s.CmpV -/
noncomputable def sCmpVC := ct2 EV EV (fun p0 p1 => ((I64 p0.1.1 ∧ I64 p0.1.2) ∧ I64 p0.2.1 ∧ I64 p0.2.2) ∧ ((I64 p1.1.1 ∧ I64 p1.1.2) ∧ I64 p1.2.1 ∧ I64 p1.2.2)) (fun p0 p1 => [.lit (.int .i64 (if (qOk p0.1.1 p0.1.2 ∧ qOk p0.2.1 p0.2.2) ∧ (qOk p1.1.1 p1.1.2 ∧ qOk p1.2.1 p1.2.2) then pcmp (Rat.divInt p0.1.1 p0.1.2) (Rat.divInt p0.2.1 p0.2.2) (Rat.divInt p1.1.1 p1.1.2) (Rat.divInt p1.2.1 p1.2.2) else 2))])
@[simp] theorem sCmpVC_at (a b c d : Int) (e f g h : Int) : sCmpVC [.agg [eQ a b, eQ c d], .agg [eQ e f, eQ g h]] = (((I64 a ∧ I64 b) ∧ I64 c ∧ I64 d) ∧ ((I64 e ∧ I64 f) ∧ I64 g ∧ I64 h), [.lit (.int .i64 (if (qOk a b ∧ qOk c d) ∧ (qOk e f ∧ qOk g h) then pcmp (Rat.divInt a b) (Rat.divInt c d) (Rat.divInt e f) (Rat.divInt g h) else 2))]) := ct2_at ((a, b), c, d) ((e, f), g, h)
/-! s.Turn -/
noncomputable def sTurnC := ct3 EV EV EV (fun p0 p1 p2 => ((I64 p0.1.1 ∧ I64 p0.1.2) ∧ I64 p0.2.1 ∧ I64 p0.2.2) ∧ ((I64 p1.1.1 ∧ I64 p1.1.2) ∧ I64 p1.2.1 ∧ I64 p1.2.2) ∧ ((I64 p2.1.1 ∧ I64 p2.1.2) ∧ I64 p2.2.1 ∧ I64 p2.2.2)) (fun p0 p1 p2 => [.lit (.int .i64 (if (qOk p0.1.1 p0.1.2 ∧ qOk p0.2.1 p0.2.2) ∧ (qOk p1.1.1 p1.1.2 ∧ qOk p1.2.1 p1.2.2) ∧ (qOk p2.1.1 p2.1.2 ∧ qOk p2.2.1 p2.2.2) then (turnQ (Rat.divInt p0.1.1 p0.1.2) (Rat.divInt p0.2.1 p0.2.2) (Rat.divInt p1.1.1 p1.1.2) (Rat.divInt p1.2.1 p1.2.2) (Rat.divInt p2.1.1 p2.1.2) (Rat.divInt p2.2.1 p2.2.2)).num.sign else 2))])
@[simp] theorem sTurnC_at (a b c d : Int) (e f g h : Int) (i j k l : Int) : sTurnC [.agg [eQ a b, eQ c d], .agg [eQ e f, eQ g h], .agg [eQ i j, eQ k l]] = (((I64 a ∧ I64 b) ∧ I64 c ∧ I64 d) ∧ ((I64 e ∧ I64 f) ∧ I64 g ∧ I64 h) ∧ ((I64 i ∧ I64 j) ∧ I64 k ∧ I64 l), [.lit (.int .i64 (if (qOk a b ∧ qOk c d) ∧ (qOk e f ∧ qOk g h) ∧ (qOk i j ∧ qOk k l) then (turnQ (Rat.divInt a b) (Rat.divInt c d) (Rat.divInt e f) (Rat.divInt g h) (Rat.divInt i j) (Rat.divInt k l)).num.sign else 2))]) := ct3_at ((a, b), c, d) ((e, f), g, h) ((i, j), k, l)
/-! l.toV -/
noncomputable def toVC := ct1 EV (fun p0 => True) (fun p0 => [.agg [eQ p0.1.1 p0.1.2, eQ p0.2.1 p0.2.2]])
@[simp] theorem toVC_at (a b c d : Int) : toVC [.agg [eQ a b, eQ c d]] = (True, [.agg [eQ a b, eQ c d]]) := ct1_at ((a, b), c, d)
noncomputable def toVTb : List (FuncId × Ct) := [(16, .data toQC)]
theorem toVTb_ok {N : NR} : TbOK N Try.prog (tbl toVTb) := tbl_cons (c := .data toQC) toQ_spec toQ_ok tbl_nil

@[simp] theorem toVTb1 : tbl toVTb 16 = some (.data toQC) := rfl
/-! l.FnExactCmpV -/
noncomputable def lwCmpVC := ct2 EV EV (fun p0 p1 => ((I64 p0.1.1 ∧ I64 p0.1.2) ∧ I64 p0.2.1 ∧ I64 p0.2.2) ∧ ((I64 p1.1.1 ∧ I64 p1.1.2) ∧ I64 p1.2.1 ∧ I64 p1.2.2)) (fun p0 p1 => [.lit (.bool true)])
@[simp] theorem lwCmpVC_at (a b c d : Int) (e f g h : Int) : lwCmpVC [.agg [eQ a b, eQ c d], .agg [eQ e f, eQ g h]] = (((I64 a ∧ I64 b) ∧ I64 c ∧ I64 d) ∧ ((I64 e ∧ I64 f) ∧ I64 g ∧ I64 h), [.lit (.bool true)]) := ct2_at ((a, b), c, d) ((e, f), g, h)
/-! l.FnExactTurn -/
noncomputable def lwTurnC := ct3 EV EV EV (fun p0 p1 p2 => ((I64 p0.1.1 ∧ I64 p0.1.2) ∧ I64 p0.2.1 ∧ I64 p0.2.2) ∧ ((I64 p1.1.1 ∧ I64 p1.1.2) ∧ I64 p1.2.1 ∧ I64 p1.2.2) ∧ ((I64 p2.1.1 ∧ I64 p2.1.2) ∧ I64 p2.2.1 ∧ I64 p2.2.2)) (fun p0 p1 p2 => [.lit (.bool true)])
@[simp] theorem lwTurnC_at (a b c d : Int) (e f g h : Int) (i j k l : Int) : lwTurnC [.agg [eQ a b, eQ c d], .agg [eQ e f, eQ g h], .agg [eQ i j, eQ k l]] = (((I64 a ∧ I64 b) ∧ I64 c ∧ I64 d) ∧ ((I64 e ∧ I64 f) ∧ I64 g ∧ I64 h) ∧ ((I64 i ∧ I64 j) ∧ I64 k ∧ I64 l), [.lit (.bool true)]) := ct3_at ((a, b), c, d) ((e, f), g, h) ((i, j), k, l)
end Go.Proofs.Ytmnplonkijkblaa.Ae

/-! OnSeg, Foot, Near, Dist2: both sides and the laws. No condition. -/
namespace Go.Proofs.Ytmnplonkijkblaa.Ae
open Go Go.RowKit Go.Proofs.Ytmnplonkijkblaa.Dig
theorem seg_ne {a b c d e f g h : Int} (k : segOk a b c d e f g h) : ¬ (Rat.divInt e f - Rat.divInt a b = 0 ∧ Rat.divInt g h - Rat.divInt c d = 0) := by
  rintro ⟨h1, h2⟩
  obtain ⟨⟨⟨k1, k2⟩, k3, k4⟩, kn⟩ := k
  have e1 : Rat.divInt e f = Rat.divInt a b := by grind
  have e2 : Rat.divInt g h = Rat.divInt c d := by grind
  have x1 := QI_num (qOk_QI k1)
  have x2 := QI_num (qOk_QI k2)
  have x3 := QI_num (qOk_QI k3)
  have x4 := QI_num (qOk_QI k4)
  rw [e1] at x3
  rw [e2] at x4
  exact kn ⟨by rw [← x1.1, ← x3.1], by rw [← x1.2, ← x3.2], by rw [← x2.1, ← x4.1], by rw [← x2.2, ← x4.2]⟩
/-- What holds of a good place and a good piece. -/
structure GV (a b c d : Int) : Prop where
  i : I64 a ∧ I64 b
  j : I64 c ∧ I64 d
  ok : qOk a b ∧ qOk c d
theorem GV.w1 {a b c d : Int} (h : GV a b c d) : QI a b := qOk_QI h.ok.1
theorem GV.w2 {a b c d : Int} (h : GV a b c d) : QI c d := qOk_QI h.ok.2
theorem GV.y1 {a b c d : Int} (h : GV a b c d) : I64 a ∧ I64 b ∧ 0 < b := qOk_64 h.ok.1
theorem GV.y2 {a b c d : Int} (h : GV a b c d) : I64 c ∧ I64 d ∧ 0 < d := qOk_64 h.ok.2
theorem GV.sz {a b c d : Int} (h : GV a b c d) : qsz (Rat.divInt a b) + qsz (Rat.divInt c d) ≤ 4 := by
  have := QI_qsz h.w1
  have := QI_qsz h.w2
  omega
def footP (a b c d p q : Rat) : Rat × Rat := (a + (c - a) * footQ a b c d p q, b + (d - b) * footQ a b c d p q)
def noV : (Int × Int) × (Int × Int) × Bool := ((0, 0), (0, 0), false)

/-! i.OnSeg -/
noncomputable def iOnSegC := ct2 EV ESeg (fun p0 p1 => ((I64 p0.1.1 ∧ I64 p0.1.2) ∧ I64 p0.2.1 ∧ I64 p0.2.2) ∧ (((I64 p1.1.1.1 ∧ I64 p1.1.1.2) ∧ I64 p1.1.2.1 ∧ I64 p1.1.2.2) ∧ ((I64 p1.2.1.1 ∧ I64 p1.2.1.2) ∧ I64 p1.2.2.1 ∧ I64 p1.2.2.2))) (fun p0 p1 => [.lit (.bool (if (qOk p0.1.1 p0.1.2 ∧ qOk p0.2.1 p0.2.2) ∧ segOk p1.1.1.1 p1.1.1.2 p1.1.2.1 p1.1.2.2 p1.2.1.1 p1.2.1.2 p1.2.2.1 p1.2.2.2 then hasB (Rat.divInt p1.1.1.1 p1.1.1.2) (Rat.divInt p1.1.2.1 p1.1.2.2) (Rat.divInt p1.2.1.1 p1.2.1.2) (Rat.divInt p1.2.2.1 p1.2.2.2) (Rat.divInt p0.1.1 p0.1.2) (Rat.divInt p0.2.1 p0.2.2) else false))])
@[simp] theorem iOnSegC_at (a b c d : Int) (e f g h i j k l : Int) : iOnSegC [.agg [eQ a b, eQ c d], .agg [.agg [eQ e f, eQ g h], .agg [eQ i j, eQ k l]]] = (((I64 a ∧ I64 b) ∧ I64 c ∧ I64 d) ∧ (((I64 e ∧ I64 f) ∧ I64 g ∧ I64 h) ∧ ((I64 i ∧ I64 j) ∧ I64 k ∧ I64 l)), [.lit (.bool (if (qOk a b ∧ qOk c d) ∧ segOk e f g h i j k l then hasB (Rat.divInt e f) (Rat.divInt g h) (Rat.divInt i j) (Rat.divInt k l) (Rat.divInt a b) (Rat.divInt c d) else false))]) := ct2_at ((a, b), c, d) (((e, f), g, h), (i, j), k, l)
/-! i.Foot -/
noncomputable def iFootC := ct2 EV ESeg (fun p0 p1 => ((I64 p0.1.1 ∧ I64 p0.1.2) ∧ I64 p0.2.1 ∧ I64 p0.2.2) ∧ (((I64 p1.1.1.1 ∧ I64 p1.1.1.2) ∧ I64 p1.1.2.1 ∧ I64 p1.1.2.2) ∧ ((I64 p1.2.1.1 ∧ I64 p1.2.1.2) ∧ I64 p1.2.2.1 ∧ I64 p1.2.2.2))) (fun p0 p1 => vD (if (qOk p0.1.1 p0.1.2 ∧ qOk p0.2.1 p0.2.2) ∧ segOk p1.1.1.1 p1.1.1.2 p1.1.2.1 p1.1.2.2 p1.2.1.1 p1.2.1.2 p1.2.2.1 p1.2.2.2 then oV (footP (Rat.divInt p1.1.1.1 p1.1.1.2) (Rat.divInt p1.1.2.1 p1.1.2.2) (Rat.divInt p1.2.1.1 p1.2.1.2) (Rat.divInt p1.2.2.1 p1.2.2.2) (Rat.divInt p0.1.1 p0.1.2) (Rat.divInt p0.2.1 p0.2.2)).1 (footP (Rat.divInt p1.1.1.1 p1.1.1.2) (Rat.divInt p1.1.2.1 p1.1.2.2) (Rat.divInt p1.2.1.1 p1.2.1.2) (Rat.divInt p1.2.2.1 p1.2.2.2) (Rat.divInt p0.1.1 p0.1.2) (Rat.divInt p0.2.1 p0.2.2)).2 else noV))
@[simp] theorem iFootC_at (a b c d : Int) (e f g h i j k l : Int) : iFootC [.agg [eQ a b, eQ c d], .agg [.agg [eQ e f, eQ g h], .agg [eQ i j, eQ k l]]] = (((I64 a ∧ I64 b) ∧ I64 c ∧ I64 d) ∧ (((I64 e ∧ I64 f) ∧ I64 g ∧ I64 h) ∧ ((I64 i ∧ I64 j) ∧ I64 k ∧ I64 l)), vD (if (qOk a b ∧ qOk c d) ∧ segOk e f g h i j k l then oV (footP (Rat.divInt e f) (Rat.divInt g h) (Rat.divInt i j) (Rat.divInt k l) (Rat.divInt a b) (Rat.divInt c d)).1 (footP (Rat.divInt e f) (Rat.divInt g h) (Rat.divInt i j) (Rat.divInt k l) (Rat.divInt a b) (Rat.divInt c d)).2 else noV)) := ct2_at ((a, b), c, d) (((e, f), g, h), (i, j), k, l)
noncomputable def iFootTb : List (FuncId × Ct) := [(22, .data ptvC)]
theorem iFootTb_ok {N : NR} : TbOK N Try.prog (tbl iFootTb) := tbl_cons (c := .data ptvC) ptv_spec ptv_ok tbl_nil

@[simp] theorem iFootTb9 : tbl iFootTb 22 = some (.data ptvC) := rfl
/-! i.Near -/
noncomputable def iNearC := ct2 EV ESeg (fun p0 p1 => ((I64 p0.1.1 ∧ I64 p0.1.2) ∧ I64 p0.2.1 ∧ I64 p0.2.2) ∧ (((I64 p1.1.1.1 ∧ I64 p1.1.1.2) ∧ I64 p1.1.2.1 ∧ I64 p1.1.2.2) ∧ ((I64 p1.2.1.1 ∧ I64 p1.2.1.2) ∧ I64 p1.2.2.1 ∧ I64 p1.2.2.2))) (fun p0 p1 => vD (if (qOk p0.1.1 p0.1.2 ∧ qOk p0.2.1 p0.2.2) ∧ segOk p1.1.1.1 p1.1.1.2 p1.1.2.1 p1.1.2.2 p1.2.1.1 p1.2.1.2 p1.2.2.1 p1.2.2.2 then oV (nearQ (Rat.divInt p1.1.1.1 p1.1.1.2) (Rat.divInt p1.1.2.1 p1.1.2.2) (Rat.divInt p1.2.1.1 p1.2.1.2) (Rat.divInt p1.2.2.1 p1.2.2.2) (Rat.divInt p0.1.1 p0.1.2) (Rat.divInt p0.2.1 p0.2.2)).1 (nearQ (Rat.divInt p1.1.1.1 p1.1.1.2) (Rat.divInt p1.1.2.1 p1.1.2.2) (Rat.divInt p1.2.1.1 p1.2.1.2) (Rat.divInt p1.2.2.1 p1.2.2.2) (Rat.divInt p0.1.1 p0.1.2) (Rat.divInt p0.2.1 p0.2.2)).2 else noV))
@[simp] theorem iNearC_at (a b c d : Int) (e f g h i j k l : Int) : iNearC [.agg [eQ a b, eQ c d], .agg [.agg [eQ e f, eQ g h], .agg [eQ i j, eQ k l]]] = (((I64 a ∧ I64 b) ∧ I64 c ∧ I64 d) ∧ (((I64 e ∧ I64 f) ∧ I64 g ∧ I64 h) ∧ ((I64 i ∧ I64 j) ∧ I64 k ∧ I64 l)), vD (if (qOk a b ∧ qOk c d) ∧ segOk e f g h i j k l then oV (nearQ (Rat.divInt e f) (Rat.divInt g h) (Rat.divInt i j) (Rat.divInt k l) (Rat.divInt a b) (Rat.divInt c d)).1 (nearQ (Rat.divInt e f) (Rat.divInt g h) (Rat.divInt i j) (Rat.divInt k l) (Rat.divInt a b) (Rat.divInt c d)).2 else noV)) := ct2_at ((a, b), c, d) (((e, f), g, h), (i, j), k, l)
noncomputable def iNearTb : List (FuncId × Ct) := [(22, .data ptvC)]
theorem iNearTb_ok {N : NR} : TbOK N Try.prog (tbl iNearTb) := tbl_cons (c := .data ptvC) ptv_spec ptv_ok tbl_nil

@[simp] theorem iNearTb6 : tbl iNearTb 22 = some (.data ptvC) := rfl
/-! i.Dist2 -/
noncomputable def iDist2C := ct2 EV ESeg (fun p0 p1 => ((I64 p0.1.1 ∧ I64 p0.1.2) ∧ I64 p0.2.1 ∧ I64 p0.2.2) ∧ (((I64 p1.1.1.1 ∧ I64 p1.1.1.2) ∧ I64 p1.1.2.1 ∧ I64 p1.1.2.2) ∧ ((I64 p1.2.1.1 ∧ I64 p1.2.1.2) ∧ I64 p1.2.2.1 ∧ I64 p1.2.2.2))) (fun p0 p1 => d3 (if (qOk p0.1.1 p0.1.2 ∧ qOk p0.2.1 p0.2.2) ∧ segOk p1.1.1.1 p1.1.1.2 p1.1.2.1 p1.1.2.2 p1.2.1.1 p1.2.1.2 p1.2.2.1 p1.2.2.2 then oq (dist2Q (Rat.divInt p0.1.1 p0.1.2) (Rat.divInt p0.2.1 p0.2.2) (nearQ (Rat.divInt p1.1.1.1 p1.1.1.2) (Rat.divInt p1.1.2.1 p1.1.2.2) (Rat.divInt p1.2.1.1 p1.2.1.2) (Rat.divInt p1.2.2.1 p1.2.2.2) (Rat.divInt p0.1.1 p0.1.2) (Rat.divInt p0.2.1 p0.2.2)).1 (nearQ (Rat.divInt p1.1.1.1 p1.1.1.2) (Rat.divInt p1.1.2.1 p1.1.2.2) (Rat.divInt p1.2.1.1 p1.2.1.2) (Rat.divInt p1.2.2.1 p1.2.2.2) (Rat.divInt p0.1.1 p0.1.2) (Rat.divInt p0.2.1 p0.2.2)).2) else no3))
@[simp] theorem iDist2C_at (a b c d : Int) (e f g h i j k l : Int) : iDist2C [.agg [eQ a b, eQ c d], .agg [.agg [eQ e f, eQ g h], .agg [eQ i j, eQ k l]]] = (((I64 a ∧ I64 b) ∧ I64 c ∧ I64 d) ∧ (((I64 e ∧ I64 f) ∧ I64 g ∧ I64 h) ∧ ((I64 i ∧ I64 j) ∧ I64 k ∧ I64 l)), d3 (if (qOk a b ∧ qOk c d) ∧ segOk e f g h i j k l then oq (dist2Q (Rat.divInt a b) (Rat.divInt c d) (nearQ (Rat.divInt e f) (Rat.divInt g h) (Rat.divInt i j) (Rat.divInt k l) (Rat.divInt a b) (Rat.divInt c d)).1 (nearQ (Rat.divInt e f) (Rat.divInt g h) (Rat.divInt i j) (Rat.divInt k l) (Rat.divInt a b) (Rat.divInt c d)).2) else no3)) := ct2_at ((a, b), c, d) (((e, f), g, h), (i, j), k, l)
noncomputable def iDist2Tb : List (FuncId × Ct) := [(32, .data rqqC)]
theorem iDist2Tb_ok {N : NR} : TbOK N Try.prog (tbl iDist2Tb) := tbl_cons (c := .data rqqC) rqq_spec rqq_ok tbl_nil

@[simp] theorem iDist2Tb7 : tbl iDist2Tb 32 = some (.data rqqC) := rfl
end Go.Proofs.Ytmnplonkijkblaa.Ae

/-! The plain laws of pieces of the plane: on a piece, what two pieces have in common. No condition. -/
namespace Go.Proofs.Ytmnplonkijkblaa.Ae
open Go Go.RowKit Go.Proofs.Ytmnplonkijkblaa.Dig
theorem isg_pos (z : Int) : 0 < z.sign ↔ 0 < z := by
  rcases Int.lt_trichotomy z 0 with h | h | h
  · rw [Int.sign_eq_neg_one_of_neg h]; omega
  · subst h; simp
  · rw [Int.sign_eq_one_of_pos h]; omega
theorem isg_neg (z : Int) : z.sign < 0 ↔ z < 0 := by
  rcases Int.lt_trichotomy z 0 with h | h | h
  · rw [Int.sign_eq_neg_one_of_neg h]; omega
  · subst h; simp
  · rw [Int.sign_eq_one_of_pos h]; omega
theorem isg_zero (z : Int) : z.sign = 0 ↔ z = 0 := by
  rcases Int.lt_trichotomy z 0 with h | h | h
  · rw [Int.sign_eq_neg_one_of_neg h]; omega
  · subst h; simp
  · rw [Int.sign_eq_one_of_pos h]; omega
theorem qcmp_lt (a b : Rat) : qcmp a b < 0 ↔ a < b := by unfold qcmp; rw [isg_neg, Rat.lt_iff]; omega
theorem qcmp_gt (a b : Rat) : 0 < qcmp a b ↔ b < a := by unfold qcmp; rw [isg_pos, Rat.lt_iff]; omega
theorem qcmp_eq (a b : Rat) : qcmp a b = 0 ↔ a = b := by
  constructor
  · intro h
    have h1 := (fun x => by have := (qcmp_lt a b).mpr x; omega : ¬ a < b)
    have h2 := (fun x => by have := (qcmp_gt a b).mpr x; omega : ¬ b < a)
    grind
  · rintro rfl; unfold qcmp; simp
theorem qs_neg (a : Rat) : a.num.sign < 0 ↔ a < 0 := by rw [isg_neg]; have := Rat.num_nonneg (q := a); grind
theorem qs_pos (a : Rat) : 0 < a.num.sign ↔ 0 < a := by rw [isg_pos]; have := Rat.num_nonneg (q := a); have := Rat.num_eq_zero (q := a); grind
theorem qs_zero (a : Rat) : a.num.sign = 0 ↔ a = 0 := by rw [isg_zero]; exact Rat.num_eq_zero
theorem lohi (a b : Rat) : (loQ a b = a ∧ hiQ a b = b ∧ a ≤ b) ∨ (loQ a b = b ∧ hiQ a b = a ∧ b < a) := by
  unfold loQ hiQ
  by_cases h : 0 < qcmp a b
  · exact .inr ⟨if_pos h, if_pos h, (qcmp_gt _ _).mp h⟩
  · have h' : ¬ b < a := fun x => h ((qcmp_gt a b).mpr x)
    exact .inl ⟨if_neg h, if_neg h, by grind⟩
theorem lohi_same (a : Rat) : loQ a a = a ∧ hiQ a a = a := by unfold loQ hiQ; split <;> exact ⟨rfl, rfl⟩
/-- Between two numbers, as a product tells it. -/
theorem btw (a b p : Rat) : bapart a b p p = false ↔ (p - a) * (p - b) ≤ 0 := by
  unfold bapart
  rw [(lohi_same p).1, (lohi_same p).2, Bool.or_eq_false_iff, decide_eq_false_iff_not, decide_eq_false_iff_not, qcmp_lt, qcmp_lt]
  rcases lohi a b with ⟨e1, e2, h⟩ | ⟨e1, e2, h⟩ <;> rw [e1, e2]
  · constructor
    · rintro ⟨h1, h2⟩
      have : 0 ≤ (p - a) * (b - p) := Rat.mul_nonneg (by grind) (by grind)
      grind
    · intro h0
      constructor
      · intro h1
        have : 0 < (p - a) * (p - b) := Rat.mul_pos (by grind) (by grind)
        grind
      · intro h1
        have : 0 < (a - p) * (b - p) := Rat.mul_pos (by grind) (by grind)
        grind
  · constructor
    · rintro ⟨h1, h2⟩
      have : 0 ≤ (a - p) * (p - b) := Rat.mul_nonneg (by grind) (by grind)
      grind
    · intro h0
      constructor
      · intro h1
        have : 0 < (p - a) * (p - b) := Rat.mul_pos (by grind) (by grind)
        grind
      · intro h1
        have : 0 < (a - p) * (b - p) := Rat.mul_pos (by grind) (by grind)
        grind
theorem sq_zero {a : Rat} (h : a * a ≤ 0) : a = 0 := by
  have h1 := sq_nn a
  have h2 : a * a = 0 := by grind
  rcases Rat.mul_eq_zero.mp h2 with x | x <;> exact x
theorem sq_p {a : Rat} (h : a ≠ 0) : 0 < a * a := by
  have h1 := sq_nn a
  have : a * a ≠ 0 := fun e => h (sq_zero (by grind))
  grind
/-- On a straight piece: by its box, or by the angle at the place. -/
theorem on_has {a b c d p q : Rat} (hn : ¬ (c - a = 0 ∧ d - b = 0)) :
    hasB a b c d p q = (decide ((turnQ a b c d p q).num.sign = 0) && decide ((dotQ (a - p) (b - q) (c - p) (d - q)).num.sign ≤ 0)) := by
  by_cases ht : (turnQ a b c d p q).num.sign = 0
  · have t0 : turnQ a b c d p q = 0 := (qs_zero _).mp ht
    have hd : (dotQ (a - p) (b - q) (c - p) (d - q)).num.sign ≤ 0 ↔ dotQ (a - p) (b - q) (c - p) (d - q) ≤ 0 := by
      have := qs_pos (dotQ (a - p) (b - q) (c - p) (d - q))
      constructor
      · intro h
        have : ¬ 0 < dotQ (a - p) (b - q) (c - p) (d - q) := fun x => by have := (qs_pos _).mpr x; omega
        grind
      · intro h
        have : ¬ 0 < (dotQ (a - p) (b - q) (c - p) (d - q)).num.sign := fun x => by have := (qs_pos _).mp x; grind
        omega
    have key : (bapart a c p p = false ∧ bapart b d q q = false) ↔ dotQ (a - p) (b - q) (c - p) (d - q) ≤ 0 := by
      rw [btw, btw]
      unfold turnQ crossQ at t0
      unfold dotQ
      generalize hX : p - a = X at *
      generalize hY : q - b = Y at *
      generalize hU : c - a = U at *
      generalize hW : d - b = W at *
      have e1 : p - c = X - U := by grind
      have e2 : q - d = Y - W := by grind
      have e3 : a - p = -X := by grind
      have e4 : b - q = -Y := by grind
      have e5 : c - p = U - X := by grind
      have e6 : d - q = W - Y := by grind
      rw [e1, e2, e3, e4, e5, e6]
      constructor
      · rintro ⟨h1, h2⟩; grind
      · intro h
        have id1 : X * (X - U) * (W * W) = Y * (Y - W) * (U * U) := by grind
        have nnU := sq_nn U
        have nnW := sq_nn W
        constructor
        · refine Decidable.byContradiction fun h1 => ?_
          have h1 : 0 < X * (X - U) := by grind
          have h2 : Y * (Y - W) < 0 := by grind
          have p1 : 0 ≤ X * (X - U) * (W * W) := Rat.mul_nonneg (by grind) nnW
          have p2 : 0 ≤ -(Y * (Y - W)) * (U * U) := Rat.mul_nonneg (by grind) nnU
          have hU0 : U = 0 := Decidable.byContradiction fun hU => by
            have : 0 < -(Y * (Y - W)) * (U * U) := Rat.mul_pos (by grind) (sq_p hU)
            grind
          have hW0 : W = 0 := Decidable.byContradiction fun hW => by
            have : 0 < X * (X - U) * (W * W) := Rat.mul_pos h1 (sq_p hW)
            grind
          exact hn ⟨hU0, hW0⟩
        · refine Decidable.byContradiction fun h1 => ?_
          have h1 : 0 < Y * (Y - W) := by grind
          have h2 : X * (X - U) < 0 := by grind
          have p1 : 0 ≤ Y * (Y - W) * (U * U) := Rat.mul_nonneg (by grind) nnU
          have p2 : 0 ≤ -(X * (X - U)) * (W * W) := Rat.mul_nonneg (by grind) nnW
          have hW0 : W = 0 := Decidable.byContradiction fun hW => by
            have : 0 < -(X * (X - U)) * (W * W) := Rat.mul_pos (by grind) (sq_p hW)
            grind
          have hU0 : U = 0 := Decidable.byContradiction fun hU => by
            have : 0 < Y * (Y - W) * (U * U) := Rat.mul_pos h1 (sq_p hU)
            grind
          exact hn ⟨hU0, hW0⟩
    unfold hasB
    rw [decide_eq_true ht, Bool.and_true, Bool.true_and]
    by_cases hD : dotQ (a - p) (b - q) (c - p) (d - q) ≤ 0
    · obtain ⟨k1, k2⟩ := key.mpr hD
      rw [k1, k2, decide_eq_true (hd.mpr hD)]; rfl
    · have : ¬ (bapart a c p p = false ∧ bapart b d q q = false) := fun x => hD (key.mp x)
      rw [decide_eq_false (fun x => hD (hd.mp x))]
      cases h1 : bapart a c p p <;> cases h2 : bapart b d q q <;> simp_all
  · unfold hasB
    rw [decide_eq_false ht, Bool.and_false, Bool.false_and]
theorem ap_pt {a c e g x : Rat} (h1 : (x - a) * (x - c) ≤ 0) (h2 : (x - e) * (x - g) ≤ 0) : bapart a c e g = false := by
  have k1 := (btw a c x).mpr h1
  have k2 := (btw e g x).mpr h2
  unfold bapart at k1 k2 ⊢
  rw [(lohi_same x).1, (lohi_same x).2, Bool.or_eq_false_iff, decide_eq_false_iff_not, decide_eq_false_iff_not, qcmp_lt, qcmp_lt] at k1 k2
  rw [Bool.or_eq_false_iff, decide_eq_false_iff_not, decide_eq_false_iff_not, qcmp_lt, qcmp_lt]
  grind
theorem pcmp_le (a b c d : Rat) : pcmp a b c d ≤ 0 ↔ (a < c ∨ a = c ∧ b ≤ d) := by
  unfold pcmp
  by_cases h : qcmp a c = 0
  · rw [if_pos h]
    have e := (qcmp_eq a c).mp h
    have := qcmp_gt b d
    constructor
    · intro h1
      have : ¬ d < b := fun x => by have := this.mpr x; omega
      exact .inr ⟨e, by grind⟩
    · rintro (h1 | ⟨_, h1⟩)
      · grind
      · have : ¬ 0 < qcmp b d := fun x => by have := this.mp x; grind
        omega
  · rw [if_neg h]
    have hne : a ≠ c := fun e => h ((qcmp_eq a c).mpr e)
    have h2 := qcmp_lt a c
    constructor
    · intro h1; exact .inl (h2.mp (by omega))
    · rintro (h1 | ⟨h1, _⟩)
      · have := h2.mpr h1; omega
      · exact absurd h1 hne
theorem pcmp_swap (a b c d : Rat) : 0 < pcmp a b c d → pcmp c d a b ≤ 0 := by
  intro h
  have h1 : ¬ pcmp a b c d ≤ 0 := by omega
  rw [pcmp_le] at h1 ⊢
  grind
theorem pcmp_trans {a b c d e f : Rat} (h1 : pcmp a b c d ≤ 0) (h2 : pcmp c d e f ≤ 0) : pcmp a b e f ≤ 0 := by
  rw [pcmp_le] at *
  grind
theorem lexbox {a b c d p q : Rat} (h1 : pcmp a b p q ≤ 0) (h2 : pcmp p q c d ≤ 0) (hc : crossQ (p - a) (q - b) (c - a) (d - b) = 0) :
    (p - a) * (p - c) ≤ 0 ∧ (q - b) * (q - d) ≤ 0 := by
  rw [pcmp_le] at h1 h2
  unfold crossQ at hc
  have x1 : 0 ≤ p - a := by grind
  have x2 : 0 ≤ c - p := by grind
  have hx := Rat.mul_nonneg x1 x2
  refine ⟨by grind, ?_⟩
  by_cases hD : c = a
  · have y1 : 0 ≤ q - b := by grind
    have y2 : 0 ≤ d - q := by grind
    have := Rat.mul_nonneg y1 y2
    grind
  · have hD' : c - a ≠ 0 := by grind
    have hpos := sq_p hD'
    refine Decidable.byContradiction fun hn => ?_
    have hZ : 0 < (q - b) * (q - d) := by grind
    have p1 := Rat.mul_pos hZ hpos
    have e1 : (q - b) * (q - d) * ((c - a) * (c - a)) = ((p - a) * (p - c)) * ((d - b) * (d - b)) := by grind
    have p2 : 0 ≤ ((p - a) * (c - p)) * ((d - b) * (d - b)) := Rat.mul_nonneg hx (sq_nn _)
    grind
def upQ (a b c d : Rat) : (Rat × Rat) × Rat × Rat := if 0 < pcmp a b c d then ((c, d), a, b) else ((a, b), c, d)
def pc2 (p q : Rat × Rat) : Int := pcmp p.1 p.2 q.1 q.2
def gtP (x p : Rat × Rat) : Rat × Rat := if 0 < pc2 x p then x else p
def ltP (x p : Rat × Rat) : Rat × Rat := if pc2 x p < 0 then x else p
def endQ (lo hi : Rat × Rat) : Option (Int × (Rat × Rat) × Rat × Rat) := if pc2 lo hi < 0 then some (2, lo, hi) else if pc2 lo hi = 0 then some (1, lo, lo) else none
def lineQ (a b c d e f g h : Rat) : Option (Int × (Rat × Rat) × Rat × Rat) := endQ (gtP (upQ e f g h).1 (upQ a b c d).1) (ltP (upQ e f g h).2 (upQ a b c d).2)
def parQ (a b c d e f g h : Rat) : Rat := crossQ (c - a) (d - b) (g - e) (h - f)
def tQ (a b c d e f g h : Rat) : Rat := crossQ (e - a) (f - b) (g - e) (h - f) / parQ a b c d e f g h
def sQ (a b c d e f g h : Rat) : Rat := crossQ (e - a) (f - b) (c - a) (d - b) / parQ a b c d e f g h
def inU (t : Rat) : Bool := !(decide (t.num.sign < 0)) && !(decide (0 < qcmp t 1))
def smeetQ (a b c d e f g h : Rat) : Option (Int × (Rat × Rat) × Rat × Rat) :=
  if (parQ a b c d e f g h).num.sign = 0 then
    if (crossQ (c - a) (d - b) (e - a) (f - b)).num.sign = 0 then lineQ a b c d e f g h else none
  else if inU (tQ a b c d e f g h) && inU (sQ a b c d e f g h) then some (1, (a + (c - a) * tQ a b c d e f g h, b + (d - b) * tQ a b c d e f g h), a + (c - a) * tQ a b c d e f g h, b + (d - b) * tQ a b c d e f g h)
  else none
def meetQ (a b c d e f g h : Rat) : Option (Int × (Rat × Rat) × Rat × Rat) := if bapart a c e g || bapart b d f h then none else smeetQ a b c d e f g h
theorem up_spec (a b c d : Rat) : pc2 (upQ a b c d).1 (upQ a b c d).2 ≤ 0 ∧ ((upQ a b c d).1 = (a, b) ∧ (upQ a b c d).2 = (c, d) ∨ (upQ a b c d).1 = (c, d) ∧ (upQ a b c d).2 = (a, b)) := by
  unfold upQ pc2
  by_cases h : 0 < pcmp a b c d
  · rw [if_pos h]; exact ⟨pcmp_swap _ _ _ _ h, .inr ⟨rfl, rfl⟩⟩
  · rw [if_neg h]; exact ⟨by show pcmp a b c d ≤ 0; omega, .inl ⟨rfl, rfl⟩⟩
theorem inU_spec {t : Rat} (h : inU t = true) : 0 ≤ t ∧ t ≤ 1 := by
  unfold inU at h
  rw [Bool.and_eq_true, Bool.not_eq_true', Bool.not_eq_true', decide_eq_false_iff_not, decide_eq_false_iff_not, qs_neg, qcmp_gt] at h
  grind
theorem par_tri {U W V X Y Z : Rat} (hn : ¬ (U = 0 ∧ W = 0)) (h1 : U * X - W * V = 0) (h2 : U * Z - W * Y = 0) : Y * X - Z * V = 0 := by
  by_cases hU : U = 0
  · have hW : W ≠ 0 := fun e => hn ⟨hU, e⟩
    have e1 : W * V = 0 := by grind
    have e2 : W * Y = 0 := by grind
    have e3 : V = 0 := (Rat.mul_eq_zero.mp e1).resolve_left hW
    have e4 : Y = 0 := (Rat.mul_eq_zero.mp e2).resolve_left hW
    grind
  · have : U * (Y * X - Z * V) = 0 := by grind
    exact (Rat.mul_eq_zero.mp this).resolve_left hU
theorem smeet_box {a b c d e f g h : Rat} (hn : ¬ (c - a = 0 ∧ d - b = 0)) (hm : ¬ (g - e = 0 ∧ h - f = 0)) {r : Int × (Rat × Rat) × Rat × Rat} (hs : smeetQ a b c d e f g h = some r) : bapart a c e g = false ∧ bapart b d f h = false := by
  unfold smeetQ at hs
  by_cases hk : (parQ a b c d e f g h).num.sign = 0
  · rw [if_pos hk] at hs
    by_cases hw : (crossQ (c - a) (d - b) (e - a) (f - b)).num.sign = 0
    · rw [if_pos hw] at hs
      have k0 : parQ a b c d e f g h = 0 := (qs_zero _).mp hk
      have w0 : crossQ (c - a) (d - b) (e - a) (f - b) = 0 := (qs_zero _).mp hw
      unfold parQ crossQ at k0
      unfold crossQ at w0
      have w1 : (e - a) * (h - f) - (f - b) * (g - e) = 0 := by
        have := par_tri hn k0 w0
        grind
      obtain ⟨o1, u1⟩ := up_spec a b c d
      obtain ⟨o2, u2⟩ := up_spec e f g h
      unfold lineQ at hs
      generalize hP : gtP (upQ e f g h).1 (upQ a b c d).1 = P at hs
      generalize hR : ltP (upQ e f g h).2 (upQ a b c d).2 = R at hs
      generalize upQ a b c d = u at *
      generalize upQ e f g h = v at *
      have pr : pc2 P R ≤ 0 := by unfold endQ at hs; grind
      have p1 : pc2 u.1 P ≤ 0 ∧ pc2 v.1 P ≤ 0 ∧ (P = u.1 ∨ P = v.1) := by
        rw [← hP]; unfold gtP
        by_cases hc : 0 < pc2 v.1 u.1
        · rw [if_pos hc]; exact ⟨pcmp_swap _ _ _ _ hc, by unfold pc2; rw [pcmp_le]; grind, .inr rfl⟩
        · rw [if_neg hc]; exact ⟨by unfold pc2; rw [pcmp_le]; grind, by omega, .inl rfl⟩
      have p2 : pc2 R u.2 ≤ 0 ∧ pc2 R v.2 ≤ 0 := by
        rw [← hR]; unfold ltP
        by_cases hc : pc2 v.2 u.2 < 0
        · rw [if_pos hc]; exact ⟨by omega, by unfold pc2; rw [pcmp_le]; grind⟩
        · rw [if_neg hc]
          refine ⟨by unfold pc2; rw [pcmp_le]; grind, ?_⟩
          by_cases h0 : 0 < pc2 v.2 u.2
          · exact pcmp_swap _ _ _ _ h0
          · have : pcmp v.2.1 v.2.2 u.2.1 u.2.2 = 0 := by unfold pc2 at hc h0; omega
            have hh : ¬ (qcmp v.2.1 u.2.1 ≠ 0) := by
              intro hq; unfold pcmp at this; rw [if_neg hq] at this; exact hq this
            have hq : qcmp v.2.1 u.2.1 = 0 := by omega
            unfold pcmp at this
            rw [if_pos hq] at this
            have e1 := (qcmp_eq _ _).mp hq
            have e2 := (qcmp_eq _ _).mp this
            unfold pc2; rw [pcmp_le]; grind
      have q1 : pc2 P u.2 ≤ 0 := pcmp_trans pr p2.1
      have q2 : pc2 P v.2 ≤ 0 := pcmp_trans pr p2.2
      have c1 : crossQ (P.1 - u.1.1) (P.2 - u.1.2) (u.2.1 - u.1.1) (u.2.2 - u.1.2) = 0 := by
        unfold crossQ
        rcases p1.2.2 with e0 | e0 <;> rcases u1 with ⟨e1, e2⟩ | ⟨e1, e2⟩ <;> rcases u2 with ⟨e3, e4⟩ | ⟨e3, e4⟩ <;> simp only [e0, e1, e2, e3, e4] <;> grind
      have c2 : crossQ (P.1 - v.1.1) (P.2 - v.1.2) (v.2.1 - v.1.1) (v.2.2 - v.1.2) = 0 := by
        unfold crossQ
        rcases p1.2.2 with e0 | e0 <;> rcases u1 with ⟨e1, e2⟩ | ⟨e1, e2⟩ <;> rcases u2 with ⟨e3, e4⟩ | ⟨e3, e4⟩ <;> simp only [e0, e1, e2, e3, e4] <;> grind
      have b1 := lexbox p1.1 q1 c1
      have b2 := lexbox p1.2.1 q2 c2
      have b3 : (P.1 - a) * (P.1 - c) ≤ 0 ∧ (P.2 - b) * (P.2 - d) ≤ 0 := by
        rcases u1 with ⟨e1, e2⟩ | ⟨e1, e2⟩ <;> rw [e1, e2] at b1 <;> refine ⟨?_, ?_⟩ <;> grind
      have b4 : (P.1 - e) * (P.1 - g) ≤ 0 ∧ (P.2 - f) * (P.2 - h) ≤ 0 := by
        rcases u2 with ⟨e1, e2⟩ | ⟨e1, e2⟩ <;> rw [e1, e2] at b2 <;> refine ⟨?_, ?_⟩ <;> grind
      exact ⟨ap_pt b3.1 b4.1, ap_pt b3.2 b4.2⟩
    · rw [if_neg hw] at hs; simp at hs
  · rw [if_neg hk] at hs
    by_cases hi : (inU (tQ a b c d e f g h) && inU (sQ a b c d e f g h)) = true
    · rw [Bool.and_eq_true] at hi
      have ht := inU_spec hi.1
      have hs' := inU_spec hi.2
      have k0 : parQ a b c d e f g h ≠ 0 := fun x => hk ((qs_zero _).mpr x)
      have et : parQ a b c d e f g h * tQ a b c d e f g h = crossQ (e - a) (f - b) (g - e) (h - f) := by unfold tQ; rw [Rat.mul_comm]; exact Rat.div_mul_cancel k0
      have es : parQ a b c d e f g h * sQ a b c d e f g h = crossQ (e - a) (f - b) (c - a) (d - b) := by unfold sQ; rw [Rat.mul_comm]; exact Rat.div_mul_cancel k0
      generalize tQ a b c d e f g h = t at *
      generalize sQ a b c d e f g h = s at *
      have i1 : parQ a b c d e f g h * (a + (c - a) * t - (e + (g - e) * s)) = 0 := by
        have : parQ a b c d e f g h * (a + (c - a) * t - (e + (g - e) * s)) = parQ a b c d e f g h * (a - e) + (c - a) * (parQ a b c d e f g h * t) - (g - e) * (parQ a b c d e f g h * s) := by grind
        rw [this, et, es]; unfold parQ crossQ; grind
      have i2 : parQ a b c d e f g h * (b + (d - b) * t - (f + (h - f) * s)) = 0 := by
        have : parQ a b c d e f g h * (b + (d - b) * t - (f + (h - f) * s)) = parQ a b c d e f g h * (b - f) + (d - b) * (parQ a b c d e f g h * t) - (h - f) * (parQ a b c d e f g h * s) := by grind
        rw [this, et, es]; unfold parQ crossQ; grind
      have j1 := (Rat.mul_eq_zero.mp i1).resolve_left k0
      have j2 := (Rat.mul_eq_zero.mp i2).resolve_left k0
      have r1 : 0 ≤ t * (1 - t) := Rat.mul_nonneg ht.1 (by grind)
      have r2 : 0 ≤ s * (1 - s) := Rat.mul_nonneg hs'.1 (by grind)
      have m1 := Rat.mul_nonneg r1 (sq_nn (c - a))
      have m2 := Rat.mul_nonneg r1 (sq_nn (d - b))
      have m3 := Rat.mul_nonneg r2 (sq_nn (g - e))
      have m4 := Rat.mul_nonneg r2 (sq_nn (h - f))
      have x1 : a + (c - a) * t = e + (g - e) * s := by grind
      have x2 : b + (d - b) * t = f + (h - f) * s := by grind
      refine ⟨ap_pt (x := a + (c - a) * t) ?_ ?_, ap_pt (x := b + (d - b) * t) ?_ ?_⟩
      · grind
      · rw [x1]; grind
      · grind
      · rw [x2]; grind
    · rw [if_neg hi] at hs; simp at hs
/-- The quick test changes nothing. -/
theorem meet_smeet {a b c d e f g h : Rat} (hn : ¬ (c - a = 0 ∧ d - b = 0)) (hm : ¬ (g - e = 0 ∧ h - f = 0)) : meetQ a b c d e f g h = smeetQ a b c d e f g h := by
  unfold meetQ
  cases hs : smeetQ a b c d e f g h with
  | none => simp
  | some r => obtain ⟨h1, h2⟩ := smeet_box hn hm hs; rw [h1, h2]; simp
end Go.Proofs.Ytmnplonkijkblaa.Ae

/-! OnSeg, Foot, Near, Dist2: the reference, and the laws.  No condition. -/
namespace Go.Proofs.Ytmnplonkijkblaa.Ae
open Go Go.RowKit Go.Proofs.Ytmnplonkijkblaa.Dig
@[simp] theorem eqQ_b (a b c d : Int) : eqQC [eQ a b, eQ c d] = (True, [.lit (.bool (decide (a = c) && decide (b = d)))]) := eqQC_at a b c d
theorem rat_one (a : Int) : Rat.divInt a 1 = (a : Rat) := by rw [Rat.divInt_eq_div]; simp; grind

/-! s.SegOk -/
noncomputable def sSegOkC := ct1 ESeg (fun p0 => (((I64 p0.1.1.1 ∧ I64 p0.1.1.2) ∧ I64 p0.1.2.1 ∧ I64 p0.1.2.2) ∧ ((I64 p0.2.1.1 ∧ I64 p0.2.1.2) ∧ I64 p0.2.2.1 ∧ I64 p0.2.2.2))) (fun p0 => [.lit (.bool (decide (segOk p0.1.1.1 p0.1.1.2 p0.1.2.1 p0.1.2.2 p0.2.1.1 p0.2.1.2 p0.2.2.1 p0.2.2.2)))])
@[simp] theorem sSegOkC_at (a b c d e f g h : Int) : sSegOkC [.agg [.agg [eQ a b, eQ c d], .agg [eQ e f, eQ g h]]] = ((((I64 a ∧ I64 b) ∧ I64 c ∧ I64 d) ∧ ((I64 e ∧ I64 f) ∧ I64 g ∧ I64 h)), [.lit (.bool (decide (segOk a b c d e f g h)))]) := ct1_at (((a, b), c, d), (e, f), g, h)
/-! s.l3V -/
noncomputable def l3VC := ct1 EPn (fun p0 => True) (fun p0 => vD (oV p0.1 p0.2))
@[simp] theorem l3VC_at (a b : Rat) : l3VC [.agg [nD a, nD b]] = (True, vD (oV a b)) := ct1_at (a, b)
noncomputable def l3VTb : List (FuncId × Ct) := [(26, .data nQC)]
theorem l3VTb_ok : TbOK NF Try.prog (tbl l3VTb) := tbl_cons (c := .data nQC) nQ_spec l1rQ_ok tbl_nil

@[simp] theorem l3VTb1 : tbl l3VTb 26 = some (.data nQC) := rfl
theorem l3V_spec : SpecD NF Try.prog 11 l3VC := by
  refine rd1 (mf := fun f => false) l3VTb_ok (fn := Try.f11) (by kernel_rfl) rfl (by kernel_rfl) (by kernel_rfl) ?_
  rintro ⟨a, b⟩ hp
  have hp : True := hp
  show awp _ _ _ _ (start _ ([.agg [nD a, nD b]].map .dat) []) (endK _ _ _ ((vD (oV a b)).map .dat) [])
  cases e1 : (oq a).2.2 <;> cases e2 : (oq b).2.2 <;> simp [-D.isLit, Try.f11, oV, vD, e1, e2, eQ, i64D]
theorem l3V_ok : callable Try.prog 11 = true := by kernel_rfl

/-! s.l1rInt -/
noncomputable def l1rIntC := ct1 EInt (fun p0 => I64 p0) (fun p0 => [nD (p0 : Rat)])
@[simp] theorem l1rIntC_at (a : Int) : l1rIntC [.lit (.int .i64 a)] = (I64 a, [nD (a : Rat)]) := ct1_at a
noncomputable def l1rIntTb : List (FuncId × Ct) := [(38, .data nOfC)]
theorem l1rIntTb_ok : TbOK NF Try.prog (tbl l1rIntTb) := tbl_cons (c := .data nOfC) nOf_spec l1rOf_ok tbl_nil

@[simp] theorem l1rIntTb1 : tbl l1rIntTb 38 = some (.data nOfC) := rfl
/-! s.l3Add -/
noncomputable def l3AddC := ct2 EPn EPn (fun p0 p1 => qsz p0.1 + qsz p0.2 + qsz p1.1 + qsz p1.2 < LM) (fun p0 p1 => [.agg [nD (p0.1 + p1.1), nD (p0.2 + p1.2)]])
@[simp] theorem l3AddC_at (a b : Rat) (c d : Rat) : l3AddC [.agg [nD a, nD b], .agg [nD c, nD d]] = (qsz a + qsz b + qsz c + qsz d < LM, [.agg [nD (a + c), nD (b + d)]]) := ct2_at (a, b) (c, d)
/-! s.l3Times -/
noncomputable def l3TimesC := ct2 EPn ENum (fun p0 p1 => qsz p0.1 + qsz p0.2 + qsz p1 < LM) (fun p0 p1 => [.agg [nD (p0.1 * p1), nD (p0.2 * p1)]])
@[simp] theorem l3TimesC_at (a b : Rat) (c : Rat) : l3TimesC [.agg [nD a, nD b], nD c] = (qsz a + qsz b + qsz c < LM, [.agg [nD (a * c), nD (b * c)]]) := ct2_at (a, b) c
/-! s.l3Dot -/
noncomputable def l3DotC := ct2 EPn EPn (fun p0 p1 => qsz p0.1 + qsz p0.2 + qsz p1.1 + qsz p1.2 < LM) (fun p0 p1 => [nD (dotQ p0.1 p0.2 p1.1 p1.2)])
@[simp] theorem l3DotC_at (a b : Rat) (c d : Rat) : l3DotC [.agg [nD a, nD b], .agg [nD c, nD d]] = (qsz a + qsz b + qsz c + qsz d < LM, [nD (dotQ a b c d)]) := ct2_at (a, b) (c, d)
/-! s.l3On -/
noncomputable def l3OnC := ct3 EPn EPn EPn (fun p0 p1 p2 => qsz p1.1 + qsz p1.2 + qsz p2.1 + qsz p2.2 + qsz p0.1 + qsz p0.2 < 10000000 ∧ ¬ (p2.1 - p1.1 = 0 ∧ p2.2 - p1.2 = 0)) (fun p0 p1 p2 => [.lit (.bool (hasB p1.1 p1.2 p2.1 p2.2 p0.1 p0.2))])
@[simp] theorem l3OnC_at (p q : Rat) (a b : Rat) (c d : Rat) : l3OnC [.agg [nD p, nD q], .agg [nD a, nD b], .agg [nD c, nD d]] = (qsz a + qsz b + qsz c + qsz d + qsz p + qsz q < 10000000 ∧ ¬ (c - a = 0 ∧ d - b = 0), [.lit (.bool (hasB a b c d p q))]) := ct3_at (p, q) (a, b) (c, d)
noncomputable def l3OnTb : List (FuncId × Ct) := [(27, .data nSignC)]
theorem l3OnTb_ok : TbOK NF Try.prog (tbl l3OnTb) := tbl_cons (c := .data nSignC) nSign_spec l1rSign_ok tbl_nil

@[simp] theorem l3OnTb4 : tbl l3OnTb 27 = some (.data nSignC) := rfl
/-! s.l3Foot -/
noncomputable def l3FootC := ct3 EPn EPn EPn (fun p0 p1 p2 => qsz p1.1 + qsz p1.2 + qsz p2.1 + qsz p2.2 + qsz p0.1 + qsz p0.2 < 10000000 ∧ ¬ (p2.1 - p1.1 = 0 ∧ p2.2 - p1.2 = 0)) (fun p0 p1 p2 => [nD (footQ p1.1 p1.2 p2.1 p2.2 p0.1 p0.2)])
@[simp] theorem l3FootC_at (p q : Rat) (a b : Rat) (c d : Rat) : l3FootC [.agg [nD p, nD q], .agg [nD a, nD b], .agg [nD c, nD d]] = (qsz a + qsz b + qsz c + qsz d + qsz p + qsz q < 10000000 ∧ ¬ (c - a = 0 ∧ d - b = 0), [nD (footQ a b c d p q)]) := ct3_at (p, q) (a, b) (c, d)
/-! s.l3At -/
noncomputable def l3AtC := ct3 EPn EPn ENum (fun p0 p1 p2 => qsz p0.1 + qsz p0.2 + qsz p1.1 + qsz p1.2 + qsz p2 < 100000000) (fun p0 p1 p2 => [.agg [nD (p0.1 + (p1.1 - p0.1) * p2), nD (p0.2 + (p1.2 - p0.2) * p2)]])
@[simp] theorem l3AtC_at (a b : Rat) (c d : Rat) (e : Rat) : l3AtC [.agg [nD a, nD b], .agg [nD c, nD d], nD e] = (qsz a + qsz b + qsz c + qsz d + qsz e < 100000000, [.agg [nD (a + (c - a) * e), nD (b + (d - b) * e)]]) := ct3_at (a, b) (c, d) e
theorem snear {a b c d p q : Rat} (hn : ¬ (c - a = 0 ∧ d - b = 0)) : nearQ a b c d p q = if (footQ a b c d p q).num.sign < 0 then (a, b) else if 0 < qcmp (footQ a b c d p q) 1 then (c, d) else (a + (c - a) * footQ a b c d p q, b + (d - b) * footQ a b c d p q) := by
  unfold nearQ
  generalize footQ a b c d p q = k
  by_cases h1 : k.num.sign < 0
  · rw [if_pos h1, if_pos (by omega)]
  · rw [if_neg h1]
    by_cases h2 : k.num.sign ≤ 0
    · have k0 : k = 0 := (qs_zero k).mp (by omega)
      subst k0
      rw [if_pos h2, if_neg (by rw [qcmp_gt]; decide)]
      congr 1 <;> grind
    · rw [if_neg h2]
      by_cases h3 : 0 < qcmp k 1
      · rw [if_pos h3, if_pos (by omega)]
      · rw [if_neg h3]
        by_cases h4 : 0 ≤ qcmp k 1
        · have k1 : k = 1 := (qcmp_eq k 1).mp (by omega)
          subst k1
          rw [if_pos h4]
          congr 1 <;> grind
        · rw [if_neg h4]

/-! s.l3Near -/
noncomputable def l3NearC := ct3 EPn EPn EPn (fun p0 p1 p2 => qsz p1.1 + qsz p1.2 + qsz p2.1 + qsz p2.2 + qsz p0.1 + qsz p0.2 < 1000000 ∧ ¬ (p2.1 - p1.1 = 0 ∧ p2.2 - p1.2 = 0)) (fun p0 p1 p2 => [.agg [nD (nearQ p1.1 p1.2 p2.1 p2.2 p0.1 p0.2).1, nD (nearQ p1.1 p1.2 p2.1 p2.2 p0.1 p0.2).2]])
@[simp] theorem l3NearC_at (p q : Rat) (a b : Rat) (c d : Rat) : l3NearC [.agg [nD p, nD q], .agg [nD a, nD b], .agg [nD c, nD d]] = (qsz a + qsz b + qsz c + qsz d + qsz p + qsz q < 1000000 ∧ ¬ (c - a = 0 ∧ d - b = 0), [.agg [nD (nearQ a b c d p q).1, nD (nearQ a b c d p q).2]]) := ct3_at (p, q) (a, b) (c, d)
noncomputable def l3NearTb : List (FuncId × Ct) := [(27, .data nSignC)]
theorem l3NearTb_ok : TbOK NF Try.prog (tbl l3NearTb) := tbl_cons (c := .data nSignC) nSign_spec l1rSign_ok tbl_nil

@[simp] theorem l3NearTb2 : tbl l3NearTb 27 = some (.data nSignC) := rfl
/-! s.OnSeg -/
noncomputable def sOnSegC := ct2 EV ESeg (fun p0 p1 => ((I64 p0.1.1 ∧ I64 p0.1.2) ∧ I64 p0.2.1 ∧ I64 p0.2.2) ∧ (((I64 p1.1.1.1 ∧ I64 p1.1.1.2) ∧ I64 p1.1.2.1 ∧ I64 p1.1.2.2) ∧ ((I64 p1.2.1.1 ∧ I64 p1.2.1.2) ∧ I64 p1.2.2.1 ∧ I64 p1.2.2.2))) (fun p0 p1 => [.lit (.bool (if (qOk p0.1.1 p0.1.2 ∧ qOk p0.2.1 p0.2.2) ∧ segOk p1.1.1.1 p1.1.1.2 p1.1.2.1 p1.1.2.2 p1.2.1.1 p1.2.1.2 p1.2.2.1 p1.2.2.2 then hasB (Rat.divInt p1.1.1.1 p1.1.1.2) (Rat.divInt p1.1.2.1 p1.1.2.2) (Rat.divInt p1.2.1.1 p1.2.1.2) (Rat.divInt p1.2.2.1 p1.2.2.2) (Rat.divInt p0.1.1 p0.1.2) (Rat.divInt p0.2.1 p0.2.2) else false))])
@[simp] theorem sOnSegC_at (a b c d : Int) (e f g h i j k l : Int) : sOnSegC [.agg [eQ a b, eQ c d], .agg [.agg [eQ e f, eQ g h], .agg [eQ i j, eQ k l]]] = (((I64 a ∧ I64 b) ∧ I64 c ∧ I64 d) ∧ (((I64 e ∧ I64 f) ∧ I64 g ∧ I64 h) ∧ ((I64 i ∧ I64 j) ∧ I64 k ∧ I64 l)), [.lit (.bool (if (qOk a b ∧ qOk c d) ∧ segOk e f g h i j k l then hasB (Rat.divInt e f) (Rat.divInt g h) (Rat.divInt i j) (Rat.divInt k l) (Rat.divInt a b) (Rat.divInt c d) else false))]) := ct2_at ((a, b), c, d) (((e, f), g, h), (i, j), k, l)
/-! s.Foot -/
noncomputable def sFootC := ct2 EV ESeg (fun p0 p1 => ((I64 p0.1.1 ∧ I64 p0.1.2) ∧ I64 p0.2.1 ∧ I64 p0.2.2) ∧ (((I64 p1.1.1.1 ∧ I64 p1.1.1.2) ∧ I64 p1.1.2.1 ∧ I64 p1.1.2.2) ∧ ((I64 p1.2.1.1 ∧ I64 p1.2.1.2) ∧ I64 p1.2.2.1 ∧ I64 p1.2.2.2))) (fun p0 p1 => vD (if (qOk p0.1.1 p0.1.2 ∧ qOk p0.2.1 p0.2.2) ∧ segOk p1.1.1.1 p1.1.1.2 p1.1.2.1 p1.1.2.2 p1.2.1.1 p1.2.1.2 p1.2.2.1 p1.2.2.2 then oV (footP (Rat.divInt p1.1.1.1 p1.1.1.2) (Rat.divInt p1.1.2.1 p1.1.2.2) (Rat.divInt p1.2.1.1 p1.2.1.2) (Rat.divInt p1.2.2.1 p1.2.2.2) (Rat.divInt p0.1.1 p0.1.2) (Rat.divInt p0.2.1 p0.2.2)).1 (footP (Rat.divInt p1.1.1.1 p1.1.1.2) (Rat.divInt p1.1.2.1 p1.1.2.2) (Rat.divInt p1.2.1.1 p1.2.1.2) (Rat.divInt p1.2.2.1 p1.2.2.2) (Rat.divInt p0.1.1 p0.1.2) (Rat.divInt p0.2.1 p0.2.2)).2 else noV))
@[simp] theorem sFootC_at (a b c d : Int) (e f g h i j k l : Int) : sFootC [.agg [eQ a b, eQ c d], .agg [.agg [eQ e f, eQ g h], .agg [eQ i j, eQ k l]]] = (((I64 a ∧ I64 b) ∧ I64 c ∧ I64 d) ∧ (((I64 e ∧ I64 f) ∧ I64 g ∧ I64 h) ∧ ((I64 i ∧ I64 j) ∧ I64 k ∧ I64 l)), vD (if (qOk a b ∧ qOk c d) ∧ segOk e f g h i j k l then oV (footP (Rat.divInt e f) (Rat.divInt g h) (Rat.divInt i j) (Rat.divInt k l) (Rat.divInt a b) (Rat.divInt c d)).1 (footP (Rat.divInt e f) (Rat.divInt g h) (Rat.divInt i j) (Rat.divInt k l) (Rat.divInt a b) (Rat.divInt c d)).2 else noV)) := ct2_at ((a, b), c, d) (((e, f), g, h), (i, j), k, l)
noncomputable def sFootTb : List (FuncId × Ct) := [(11, .data l3VC)]
theorem sFootTb_ok : TbOK NF Try.prog (tbl sFootTb) := tbl_cons (c := .data l3VC) l3V_spec l3V_ok tbl_nil

@[simp] theorem sFootTb6 : tbl sFootTb 11 = some (.data l3VC) := rfl
/-! s.Near -/
noncomputable def sNearC := ct2 EV ESeg (fun p0 p1 => ((I64 p0.1.1 ∧ I64 p0.1.2) ∧ I64 p0.2.1 ∧ I64 p0.2.2) ∧ (((I64 p1.1.1.1 ∧ I64 p1.1.1.2) ∧ I64 p1.1.2.1 ∧ I64 p1.1.2.2) ∧ ((I64 p1.2.1.1 ∧ I64 p1.2.1.2) ∧ I64 p1.2.2.1 ∧ I64 p1.2.2.2))) (fun p0 p1 => vD (if (qOk p0.1.1 p0.1.2 ∧ qOk p0.2.1 p0.2.2) ∧ segOk p1.1.1.1 p1.1.1.2 p1.1.2.1 p1.1.2.2 p1.2.1.1 p1.2.1.2 p1.2.2.1 p1.2.2.2 then oV (nearQ (Rat.divInt p1.1.1.1 p1.1.1.2) (Rat.divInt p1.1.2.1 p1.1.2.2) (Rat.divInt p1.2.1.1 p1.2.1.2) (Rat.divInt p1.2.2.1 p1.2.2.2) (Rat.divInt p0.1.1 p0.1.2) (Rat.divInt p0.2.1 p0.2.2)).1 (nearQ (Rat.divInt p1.1.1.1 p1.1.1.2) (Rat.divInt p1.1.2.1 p1.1.2.2) (Rat.divInt p1.2.1.1 p1.2.1.2) (Rat.divInt p1.2.2.1 p1.2.2.2) (Rat.divInt p0.1.1 p0.1.2) (Rat.divInt p0.2.1 p0.2.2)).2 else noV))
@[simp] theorem sNearC_at (a b c d : Int) (e f g h i j k l : Int) : sNearC [.agg [eQ a b, eQ c d], .agg [.agg [eQ e f, eQ g h], .agg [eQ i j, eQ k l]]] = (((I64 a ∧ I64 b) ∧ I64 c ∧ I64 d) ∧ (((I64 e ∧ I64 f) ∧ I64 g ∧ I64 h) ∧ ((I64 i ∧ I64 j) ∧ I64 k ∧ I64 l)), vD (if (qOk a b ∧ qOk c d) ∧ segOk e f g h i j k l then oV (nearQ (Rat.divInt e f) (Rat.divInt g h) (Rat.divInt i j) (Rat.divInt k l) (Rat.divInt a b) (Rat.divInt c d)).1 (nearQ (Rat.divInt e f) (Rat.divInt g h) (Rat.divInt i j) (Rat.divInt k l) (Rat.divInt a b) (Rat.divInt c d)).2 else noV)) := ct2_at ((a, b), c, d) (((e, f), g, h), (i, j), k, l)
noncomputable def sNearTb : List (FuncId × Ct) := [(11, .data l3VC)]
theorem sNearTb_ok : TbOK NF Try.prog (tbl sNearTb) := tbl_cons (c := .data l3VC) l3V_spec l3V_ok tbl_nil

@[simp] theorem sNearTb5 : tbl sNearTb 11 = some (.data l3VC) := rfl
/-! s.Dist2 -/
noncomputable def sDist2C := ct2 EV ESeg (fun p0 p1 => ((I64 p0.1.1 ∧ I64 p0.1.2) ∧ I64 p0.2.1 ∧ I64 p0.2.2) ∧ (((I64 p1.1.1.1 ∧ I64 p1.1.1.2) ∧ I64 p1.1.2.1 ∧ I64 p1.1.2.2) ∧ ((I64 p1.2.1.1 ∧ I64 p1.2.1.2) ∧ I64 p1.2.2.1 ∧ I64 p1.2.2.2))) (fun p0 p1 => d3 (if (qOk p0.1.1 p0.1.2 ∧ qOk p0.2.1 p0.2.2) ∧ segOk p1.1.1.1 p1.1.1.2 p1.1.2.1 p1.1.2.2 p1.2.1.1 p1.2.1.2 p1.2.2.1 p1.2.2.2 then oq (dist2Q (Rat.divInt p0.1.1 p0.1.2) (Rat.divInt p0.2.1 p0.2.2) (nearQ (Rat.divInt p1.1.1.1 p1.1.1.2) (Rat.divInt p1.1.2.1 p1.1.2.2) (Rat.divInt p1.2.1.1 p1.2.1.2) (Rat.divInt p1.2.2.1 p1.2.2.2) (Rat.divInt p0.1.1 p0.1.2) (Rat.divInt p0.2.1 p0.2.2)).1 (nearQ (Rat.divInt p1.1.1.1 p1.1.1.2) (Rat.divInt p1.1.2.1 p1.1.2.2) (Rat.divInt p1.2.1.1 p1.2.1.2) (Rat.divInt p1.2.2.1 p1.2.2.2) (Rat.divInt p0.1.1 p0.1.2) (Rat.divInt p0.2.1 p0.2.2)).2) else no3))
@[simp] theorem sDist2C_at (a b c d : Int) (e f g h i j k l : Int) : sDist2C [.agg [eQ a b, eQ c d], .agg [.agg [eQ e f, eQ g h], .agg [eQ i j, eQ k l]]] = (((I64 a ∧ I64 b) ∧ I64 c ∧ I64 d) ∧ (((I64 e ∧ I64 f) ∧ I64 g ∧ I64 h) ∧ ((I64 i ∧ I64 j) ∧ I64 k ∧ I64 l)), d3 (if (qOk a b ∧ qOk c d) ∧ segOk e f g h i j k l then oq (dist2Q (Rat.divInt a b) (Rat.divInt c d) (nearQ (Rat.divInt e f) (Rat.divInt g h) (Rat.divInt i j) (Rat.divInt k l) (Rat.divInt a b) (Rat.divInt c d)).1 (nearQ (Rat.divInt e f) (Rat.divInt g h) (Rat.divInt i j) (Rat.divInt k l) (Rat.divInt a b) (Rat.divInt c d)).2) else no3)) := ct2_at ((a, b), c, d) (((e, f), g, h), (i, j), k, l)
noncomputable def sDist2Tb : List (FuncId × Ct) := [(26, .data nQC)]
theorem sDist2Tb_ok : TbOK NF Try.prog (tbl sDist2Tb) := tbl_cons (c := .data nQC) nQ_spec l1rQ_ok tbl_nil

@[simp] theorem sDist2Tb7 : tbl sDist2Tb 26 = some (.data nQC) := rfl
/-! l.toSeg -/
noncomputable def toSegC := ct1 ESeg (fun p0 => True) (fun p0 => [.agg [.agg [eQ p0.1.1.1 p0.1.1.2, eQ p0.1.2.1 p0.1.2.2], .agg [eQ p0.2.1.1 p0.2.1.2, eQ p0.2.2.1 p0.2.2.2]]])
@[simp] theorem toSegC_at (a b c d e f g h : Int) : toSegC [.agg [.agg [eQ a b, eQ c d], .agg [eQ e f, eQ g h]]] = (True, [.agg [.agg [eQ a b, eQ c d], .agg [eQ e f, eQ g h]]]) := ct1_at (((a, b), c, d), (e, f), g, h)
/-! l.eqV -/
noncomputable def eqVC := ct2 EV EV (fun p0 p1 => True) (fun p0 p1 => [.lit (.bool (decide (p0.1.1 = p1.1.1 ∧ p0.1.2 = p1.1.2 ∧ p0.2.1 = p1.2.1 ∧ p0.2.2 = p1.2.2)))])
@[simp] theorem eqVC_at (a b c d : Int) (e f g h : Int) : eqVC [.agg [eQ a b, eQ c d], .agg [eQ e f, eQ g h]] = (True, [.lit (.bool (decide (a = e ∧ b = f ∧ c = g ∧ d = h)))]) := ct2_at ((a, b), c, d) ((e, f), g, h)
noncomputable def eqVTb : List (FuncId × Ct) := [(23, .data eqQC)]
theorem eqVTb_ok {N : NR} : TbOK N Try.prog (tbl eqVTb) := tbl_cons (c := .data eqQC) eqQ_spec eqQ_ok tbl_nil

@[simp] theorem eqVTb1 : tbl eqVTb 23 = some (.data eqQC) := rfl
theorem eqV_spec {N : NR} : SpecD N Try.prog 8 eqVC := by
  refine rd2 (mf := fun f => false) eqVTb_ok (fn := Try.f8) (by kernel_rfl) rfl (by kernel_rfl) (by kernel_rfl) ?_
  rintro ⟨⟨a, b⟩, c, d⟩ ⟨⟨e, f⟩, g, h⟩ hp
  have hp : True := hp
  show awp _ _ _ _ (start _ ([.agg [eQ a b, eQ c d], .agg [eQ e f, eQ g h]].map .dat) []) (endK _ _ _ (([.lit (.bool (decide (a = e ∧ b = f ∧ c = g ∧ d = h)))]).map .dat) [])
  by_cases h1 : a = e ∧ b = f <;> by_cases h2 : c = g ∧ d = h <;> simp [-D.isLit, Try.f8, h1, h2]
theorem eqV_ok : callable Try.prog 8 = true := by kernel_rfl

/-! l.FnExactOnSeg -/
noncomputable def lwOnSegC := ct2 EV ESeg (fun p0 p1 => ((I64 p0.1.1 ∧ I64 p0.1.2) ∧ I64 p0.2.1 ∧ I64 p0.2.2) ∧ (((I64 p1.1.1.1 ∧ I64 p1.1.1.2) ∧ I64 p1.1.2.1 ∧ I64 p1.1.2.2) ∧ ((I64 p1.2.1.1 ∧ I64 p1.2.1.2) ∧ I64 p1.2.2.1 ∧ I64 p1.2.2.2))) (fun p0 p1 => [.lit (.bool true)])
@[simp] theorem lwOnSegC_at (a b c d : Int) (e f g h i j k l : Int) : lwOnSegC [.agg [eQ a b, eQ c d], .agg [.agg [eQ e f, eQ g h], .agg [eQ i j, eQ k l]]] = (((I64 a ∧ I64 b) ∧ I64 c ∧ I64 d) ∧ (((I64 e ∧ I64 f) ∧ I64 g ∧ I64 h) ∧ ((I64 i ∧ I64 j) ∧ I64 k ∧ I64 l)), [.lit (.bool true)]) := ct2_at ((a, b), c, d) (((e, f), g, h), (i, j), k, l)
/-! l.FnExactFoot -/
noncomputable def lwFootC := ct2 EV ESeg (fun p0 p1 => ((I64 p0.1.1 ∧ I64 p0.1.2) ∧ I64 p0.2.1 ∧ I64 p0.2.2) ∧ (((I64 p1.1.1.1 ∧ I64 p1.1.1.2) ∧ I64 p1.1.2.1 ∧ I64 p1.1.2.2) ∧ ((I64 p1.2.1.1 ∧ I64 p1.2.1.2) ∧ I64 p1.2.2.1 ∧ I64 p1.2.2.2))) (fun p0 p1 => [.lit (.bool true)])
@[simp] theorem lwFootC_at (a b c d : Int) (e f g h i j k l : Int) : lwFootC [.agg [eQ a b, eQ c d], .agg [.agg [eQ e f, eQ g h], .agg [eQ i j, eQ k l]]] = (((I64 a ∧ I64 b) ∧ I64 c ∧ I64 d) ∧ (((I64 e ∧ I64 f) ∧ I64 g ∧ I64 h) ∧ ((I64 i ∧ I64 j) ∧ I64 k ∧ I64 l)), [.lit (.bool true)]) := ct2_at ((a, b), c, d) (((e, f), g, h), (i, j), k, l)
noncomputable def lwFootTb : List (FuncId × Ct) := [(8, .data eqVC)]
theorem lwFootTb_ok : TbOK NF Try.prog (tbl lwFootTb) := tbl_cons (c := .data eqVC) eqV_spec eqV_ok tbl_nil

@[simp] theorem lwFootTb5 : tbl lwFootTb 8 = some (.data eqVC) := rfl
/-! l.FnExactNear -/
noncomputable def lwNearC := ct2 EV ESeg (fun p0 p1 => ((I64 p0.1.1 ∧ I64 p0.1.2) ∧ I64 p0.2.1 ∧ I64 p0.2.2) ∧ (((I64 p1.1.1.1 ∧ I64 p1.1.1.2) ∧ I64 p1.1.2.1 ∧ I64 p1.1.2.2) ∧ ((I64 p1.2.1.1 ∧ I64 p1.2.1.2) ∧ I64 p1.2.2.1 ∧ I64 p1.2.2.2))) (fun p0 p1 => [.lit (.bool true)])
@[simp] theorem lwNearC_at (a b c d : Int) (e f g h i j k l : Int) : lwNearC [.agg [eQ a b, eQ c d], .agg [.agg [eQ e f, eQ g h], .agg [eQ i j, eQ k l]]] = (((I64 a ∧ I64 b) ∧ I64 c ∧ I64 d) ∧ (((I64 e ∧ I64 f) ∧ I64 g ∧ I64 h) ∧ ((I64 i ∧ I64 j) ∧ I64 k ∧ I64 l)), [.lit (.bool true)]) := ct2_at ((a, b), c, d) (((e, f), g, h), (i, j), k, l)
noncomputable def lwNearTb : List (FuncId × Ct) := [(8, .data eqVC)]
theorem lwNearTb_ok : TbOK NF Try.prog (tbl lwNearTb) := tbl_cons (c := .data eqVC) eqV_spec eqV_ok tbl_nil

@[simp] theorem lwNearTb5 : tbl lwNearTb 8 = some (.data eqVC) := rfl
/-! l.FnExactDist2 -/
noncomputable def lwDist2C := ct2 EV ESeg (fun p0 p1 => ((I64 p0.1.1 ∧ I64 p0.1.2) ∧ I64 p0.2.1 ∧ I64 p0.2.2) ∧ (((I64 p1.1.1.1 ∧ I64 p1.1.1.2) ∧ I64 p1.1.2.1 ∧ I64 p1.1.2.2) ∧ ((I64 p1.2.1.1 ∧ I64 p1.2.1.2) ∧ I64 p1.2.2.1 ∧ I64 p1.2.2.2))) (fun p0 p1 => [.lit (.bool true)])
@[simp] theorem lwDist2C_at (a b c d : Int) (e f g h i j k l : Int) : lwDist2C [.agg [eQ a b, eQ c d], .agg [.agg [eQ e f, eQ g h], .agg [eQ i j, eQ k l]]] = (((I64 a ∧ I64 b) ∧ I64 c ∧ I64 d) ∧ (((I64 e ∧ I64 f) ∧ I64 g ∧ I64 h) ∧ ((I64 i ∧ I64 j) ∧ I64 k ∧ I64 l)), [.lit (.bool true)]) := ct2_at ((a, b), c, d) (((e, f), g, h), (i, j), k, l)
noncomputable def lwDist2Tb : List (FuncId × Ct) := [(23, .data eqQC)]
theorem lwDist2Tb_ok : TbOK NF Try.prog (tbl lwDist2Tb) := tbl_cons (c := .data eqQC) eqQ_spec eqQ_ok tbl_nil

@[simp] theorem lwDist2Tb5 : tbl lwDist2Tb 23 = some (.data eqQC) := rfl
end Go.Proofs.Ytmnplonkijkblaa.Ae

/-! spec: places of space, planes. No condition. -/
namespace Go.Proofs.Ytmnplonkijkblaa.Ae
open Go Go.RowKit Go.Proofs.Ytmnplonkijkblaa.Dig

/-! s.V3Ok -/
noncomputable def sV3OkC := ct1 EV3 (fun p0 => ((I64 p0.1.1 ∧ I64 p0.1.2) ∧ (I64 p0.2.1.1 ∧ I64 p0.2.1.2) ∧ I64 p0.2.2.1 ∧ I64 p0.2.2.2)) (fun p0 => [.lit (.bool (decide (v3Ok p0.1.1 p0.1.2 p0.2.1.1 p0.2.1.2 p0.2.2.1 p0.2.2.2)))])
@[simp] theorem sV3OkC_at (a b c d e f : Int) : sV3OkC [.agg [eQ a b, eQ c d, eQ e f]] = (((I64 a ∧ I64 b) ∧ (I64 c ∧ I64 d) ∧ I64 e ∧ I64 f), [.lit (.bool (decide (v3Ok a b c d e f)))]) := ct1_at ((a, b), (c, d), e, f)
noncomputable def sV3OkTb : List (FuncId × Ct) := [(24, .data qokC)]
theorem sV3OkTb_ok : TbOK NF Try.prog (tbl sV3OkTb) := tbl_cons (c := .data qokC) sQOk_spec sQOk_ok tbl_nil

@[simp] theorem sV3OkTb1 : tbl sV3OkTb 24 = some (.data qokC) := rfl
theorem sV3Ok_spec : SpecD NF Try.prog 10 sV3OkC := by
  refine rd1 (mf := fun f => false) sV3OkTb_ok (fn := Try.f10) (by kernel_rfl) rfl (by kernel_rfl) (by kernel_rfl) ?_
  rintro ⟨⟨a, b⟩, ⟨c, d⟩, e, f⟩ hp
  have hp : ((I64 a ∧ I64 b) ∧ (I64 c ∧ I64 d) ∧ I64 e ∧ I64 f) := hp
  show awp _ _ _ _ (start _ ([.agg [eQ a b, eQ c d, eQ e f]].map .dat) []) (endK _ _ _ (([.lit (.bool (decide (v3Ok a b c d e f)))]).map .dat) [])
  obtain ⟨⟨i1, i2⟩, ⟨i3, i4⟩, i5, i6⟩ := hp
  by_cases h : qOk a b <;> by_cases h2 : qOk c d <;> simp [-D.isLit, Try.f10, v3Ok, i1, i2, i3, i4, i5, i6, h, h2]
theorem sV3Ok_ok : callable Try.prog 10 = true := by kernel_rfl

/-! s.l11One -/
noncomputable def l11OneC := ct1 EQ (fun p0 => I64 p0.1 ∧ I64 p0.2) (fun p0 => [.lit (.bool (one1 p0.1 p0.2))])
@[simp] theorem l11OneC_at (a b : Int) : l11OneC [eQ a b] = (I64 a ∧ I64 b, [.lit (.bool (one1 a b))]) := ct1_at (a, b)
theorem l11One_spec : SpecD NF Try.prog 25 l11OneC := by
  refine rd1 (mf := fun f => false) (tb := tbl []) tbl_nil (fn := Try.f25) (by kernel_rfl) rfl (by kernel_rfl) (by kernel_rfl) ?_
  rintro ⟨a, b⟩ hp
  have hp : I64 a ∧ I64 b := hp
  show awp _ _ _ _ (start _ ([eQ a b].map .dat) []) (endK _ _ _ (([.lit (.bool (one1 a b))]).map .dat) [])
  by_cases h : b = 1 <;> by_cases h2 : a = 1 <;> simp [-D.isLit, Try.f25, one1, eQ, i64D, h, h2]
theorem l11One_ok : callable Try.prog 25 = true := by kernel_rfl

/-! s.PlaneOk -/
noncomputable def sPlaneOkC := ct1 EPl (fun p0 => ((I64 p0.1.1 ∧ I64 p0.1.2) ∧ (I64 p0.2.1.1 ∧ I64 p0.2.1.2) ∧ (I64 p0.2.2.1.1 ∧ I64 p0.2.2.1.2) ∧ I64 p0.2.2.2.1 ∧ I64 p0.2.2.2.2)) (fun p0 => [.lit (.bool (decide (plOk p0.1.1 p0.1.2 p0.2.1.1 p0.2.1.2 p0.2.2.1.1 p0.2.2.1.2 p0.2.2.2.1 p0.2.2.2.2)))])
@[simp] theorem sPlaneOkC_at (a b c d e f g h : Int) : sPlaneOkC [.agg [eQ a b, eQ c d, eQ e f, eQ g h]] = (((I64 a ∧ I64 b) ∧ (I64 c ∧ I64 d) ∧ (I64 e ∧ I64 f) ∧ I64 g ∧ I64 h), [.lit (.bool (decide (plOk a b c d e f g h)))]) := ct1_at ((a, b), (c, d), (e, f), g, h)
noncomputable def sPlaneOkTb : List (FuncId × Ct) := [(24, .data qokC), (25, .data l11OneC)]
theorem sPlaneOkTb_ok : TbOK NF Try.prog (tbl sPlaneOkTb) := tbl_cons (c := .data qokC) sQOk_spec sQOk_ok (tbl_cons (c := .data l11OneC) l11One_spec l11One_ok tbl_nil)

@[simp] theorem sPlaneOkTb1 : tbl sPlaneOkTb 24 = some (.data qokC) := rfl
@[simp] theorem sPlaneOkTb2 : tbl sPlaneOkTb 25 = some (.data l11OneC) := rfl
theorem sPlaneOk_spec : SpecD NF Try.prog 9 sPlaneOkC := by
  refine rd1 (mf := fun f => false) sPlaneOkTb_ok (fn := Try.f9) (by kernel_rfl) rfl (by kernel_rfl) (by kernel_rfl) ?_
  rintro ⟨⟨a, b⟩, ⟨c, d⟩, ⟨e, f⟩, g, h⟩ hp
  have hp : ((I64 a ∧ I64 b) ∧ (I64 c ∧ I64 d) ∧ (I64 e ∧ I64 f) ∧ I64 g ∧ I64 h) := hp
  show awp _ _ _ _ (start _ ([.agg [eQ a b, eQ c d, eQ e f, eQ g h]].map .dat) []) (endK _ _ _ (([.lit (.bool (decide (plOk a b c d e f g h)))]).map .dat) [])
  obtain ⟨⟨i1, i2⟩, ⟨i3, i4⟩, ⟨i5, i6⟩, i7, i8⟩ := hp
  by_cases h1 : qOk a b
  · by_cases h2 : qOk c d
    · by_cases h3 : qOk e f
      · by_cases h4 : qOk g h
        · by_cases h5 : a = 0
          · subst h5
            by_cases h6 : c = 0
            · subst h6
              simp [-D.isLit, Try.f9, plOk, q4Ok, i1, i2, i3, i4, i5, i6, i7, i8, h1, h2, h3, h4]
            · simp [-D.isLit, Try.f9, plOk, q4Ok, i1, i2, i3, i4, i5, i6, i7, i8, h1, h2, h3, h4, h6]
          · by_cases h6 : c = 0
            · subst h6
              simp [-D.isLit, Try.f9, plOk, q4Ok, i1, i2, i3, i4, i5, i6, i7, i8, h1, h2, h3, h4, h5]
            · simp [-D.isLit, Try.f9, plOk, q4Ok, i1, i2, i3, i4, i5, i6, i7, i8, h1, h2, h3, h4, h5, h6]
        · simp [-D.isLit, Try.f9, plOk, q4Ok, i1, i2, i3, i4, i5, i6, i7, i8, h1, h2, h3, h4]
      · simp [-D.isLit, Try.f9, plOk, q4Ok, i1, i2, i3, i4, i5, i6, i7, i8, h1, h2, h3]
    · simp [-D.isLit, Try.f9, plOk, q4Ok, i1, i2, i3, i4, i5, i6, i7, i8, h1, h2]
  · simp [-D.isLit, Try.f9, plOk, q4Ok, i1, i2, i3, i4, i5, i6, i7, i8, h1]
theorem sPlaneOk_ok : callable Try.prog 9 = true := by kernel_rfl

/-! s.l11p -/
noncomputable def l11pC := ct1 EV3 (fun p0 => (I64 p0.1.1 ∧ I64 p0.1.2 ∧ 0 < p0.1.2) ∧ (I64 p0.2.1.1 ∧ I64 p0.2.1.2 ∧ 0 < p0.2.1.2) ∧ I64 p0.2.2.1 ∧ I64 p0.2.2.2 ∧ 0 < p0.2.2.2) (fun p0 => [.agg [nD (Rat.divInt p0.1.1 p0.1.2), nD (Rat.divInt p0.2.1.1 p0.2.1.2), nD (Rat.divInt p0.2.2.1 p0.2.2.2)]])
@[simp] theorem l11pC_at (a b c d e f : Int) : l11pC [.agg [eQ a b, eQ c d, eQ e f]] = ((I64 a ∧ I64 b ∧ 0 < b) ∧ (I64 c ∧ I64 d ∧ 0 < d) ∧ I64 e ∧ I64 f ∧ 0 < f, [.agg [nD (Rat.divInt a b), nD (Rat.divInt c d), nD (Rat.divInt e f)]]) := ct1_at ((a, b), (c, d), e, f)
noncomputable def l11pTb : List (FuncId × Ct) := [(28, .data nqC)]
theorem l11pTb_ok : TbOK NF Try.prog (tbl l11pTb) := tbl_cons (c := .data nqC) nq_spec l1q_ok tbl_nil

@[simp] theorem l11pTb1 : tbl l11pTb 28 = some (.data nqC) := rfl
theorem l11p_spec : SpecD NF Try.prog 15 l11pC := by
  refine rd1 (mf := fun f => false) l11pTb_ok (fn := Try.f15) (by kernel_rfl) rfl (by kernel_rfl) (by kernel_rfl) ?_
  rintro ⟨⟨a, b⟩, ⟨c, d⟩, e, f⟩ hp
  have hp : (I64 a ∧ I64 b ∧ 0 < b) ∧ (I64 c ∧ I64 d ∧ 0 < d) ∧ I64 e ∧ I64 f ∧ 0 < f := hp
  show awp _ _ _ _ (start _ ([.agg [eQ a b, eQ c d, eQ e f]].map .dat) []) (endK _ _ _ (([.agg [nD (Rat.divInt a b), nD (Rat.divInt c d), nD (Rat.divInt e f)]]).map .dat) [])
  simp [-D.isLit, Try.f15, hp]
theorem l11p_ok : callable Try.prog 15 = true := by kernel_rfl

/-! s.l11Plane -/
noncomputable def l11PlaneC := ct1 EPl (fun p0 => (I64 p0.1.1 ∧ I64 p0.1.2 ∧ 0 < p0.1.2) ∧ (I64 p0.2.1.1 ∧ I64 p0.2.1.2 ∧ 0 < p0.2.1.2) ∧ (I64 p0.2.2.1.1 ∧ I64 p0.2.2.1.2 ∧ 0 < p0.2.2.1.2) ∧ I64 p0.2.2.2.1 ∧ I64 p0.2.2.2.2 ∧ 0 < p0.2.2.2.2) (fun p0 => [.agg [.agg [nD (Rat.divInt p0.1.1 p0.1.2), nD (Rat.divInt p0.2.1.1 p0.2.1.2), nD (Rat.divInt p0.2.2.1.1 p0.2.2.1.2)], nD (Rat.divInt p0.2.2.2.1 p0.2.2.2.2), .lit (.slice none 0 0)]])
@[simp] theorem l11PlaneC_at (a b c d e f g h : Int) : l11PlaneC [.agg [eQ a b, eQ c d, eQ e f, eQ g h]] = ((I64 a ∧ I64 b ∧ 0 < b) ∧ (I64 c ∧ I64 d ∧ 0 < d) ∧ (I64 e ∧ I64 f ∧ 0 < f) ∧ I64 g ∧ I64 h ∧ 0 < h, [.agg [.agg [nD (Rat.divInt a b), nD (Rat.divInt c d), nD (Rat.divInt e f)], nD (Rat.divInt g h), .lit (.slice none 0 0)]]) := ct1_at ((a, b), (c, d), (e, f), g, h)
noncomputable def l11PlaneTb : List (FuncId × Ct) := [(28, .data nqC)]
theorem l11PlaneTb_ok : TbOK NF Try.prog (tbl l11PlaneTb) := tbl_cons (c := .data nqC) nq_spec l1q_ok tbl_nil

@[simp] theorem l11PlaneTb1 : tbl l11PlaneTb 28 = some (.data nqC) := rfl
theorem l11Plane_spec : SpecD NF Try.prog 14 l11PlaneC := by
  refine rd1 (mf := fun f => false) l11PlaneTb_ok (fn := Try.f14) (by kernel_rfl) rfl (by kernel_rfl) (by kernel_rfl) ?_
  rintro ⟨⟨a, b⟩, ⟨c, d⟩, ⟨e, f⟩, g, h⟩ hp
  have hp : (I64 a ∧ I64 b ∧ 0 < b) ∧ (I64 c ∧ I64 d ∧ 0 < d) ∧ (I64 e ∧ I64 f ∧ 0 < f) ∧ I64 g ∧ I64 h ∧ 0 < h := hp
  show awp _ _ _ _ (start _ ([.agg [eQ a b, eQ c d, eQ e f, eQ g h]].map .dat) []) (endK _ _ _ (([.agg [.agg [nD (Rat.divInt a b), nD (Rat.divInt c d), nD (Rat.divInt e f)], nD (Rat.divInt g h), .lit (.slice none 0 0)]]).map .dat) [])
  simp [-D.isLit, Try.f14, hp]
theorem l11Plane_ok : callable Try.prog 14 = true := by kernel_rfl

/-! s.l11Sub -/
noncomputable def l11SubC := ct2 EP3n EP3n (fun p0 p1 => qsz p0.1 + qsz p0.2.1 + qsz p0.2.2 + qsz p1.1 + qsz p1.2.1 + qsz p1.2.2 < LM) (fun p0 p1 => [.agg [nD (p0.1 - p1.1), nD (p0.2.1 - p1.2.1), nD (p0.2.2 - p1.2.2)]])
@[simp] theorem l11SubC_at (a b c : Rat) (d e f : Rat) : l11SubC [.agg [nD a, nD b, nD c], .agg [nD d, nD e, nD f]] = (qsz a + qsz b + qsz c + qsz d + qsz e + qsz f < LM, [.agg [nD (a - d), nD (b - e), nD (c - f)]]) := ct2_at (a, b, c) (d, e, f)
/-! s.l11Times -/
noncomputable def l11TimesC := ct2 EP3n ENum (fun p0 p1 => qsz p0.1 + qsz p0.2.1 + qsz p0.2.2 + qsz p1 < LM) (fun p0 p1 => [.agg [nD (p0.1 * p1), nD (p0.2.1 * p1), nD (p0.2.2 * p1)]])
@[simp] theorem l11TimesC_at (a b c : Rat) (d : Rat) : l11TimesC [.agg [nD a, nD b, nD c], nD d] = (qsz a + qsz b + qsz c + qsz d < LM, [.agg [nD (a * d), nD (b * d), nD (c * d)]]) := ct2_at (a, b, c) d
/-! s.l11Dot -/
noncomputable def l11DotC := ct2 EP3n EP3n (fun p0 p1 => qsz p0.1 + qsz p0.2.1 + qsz p0.2.2 + qsz p1.1 + qsz p1.2.1 + qsz p1.2.2 < LM) (fun p0 p1 => [nD (dot3Q p0.1 p0.2.1 p0.2.2 p1.1 p1.2.1 p1.2.2)])
@[simp] theorem l11DotC_at (a b c : Rat) (d e f : Rat) : l11DotC [.agg [nD a, nD b, nD c], .agg [nD d, nD e, nD f]] = (qsz a + qsz b + qsz c + qsz d + qsz e + qsz f < LM, [nD (dot3Q a b c d e f)]) := ct2_at (a, b, c) (d, e, f)
/-! s.l11Cross -/
noncomputable def l11CrossC := ct2 EP3n EP3n (fun p0 p1 => qsz p0.1 + qsz p0.2.1 + qsz p0.2.2 + qsz p1.1 + qsz p1.2.1 + qsz p1.2.2 < LM) (fun p0 p1 => [.agg [nD (p0.2.1 * p1.2.2 - p0.2.2 * p1.2.1), nD (p0.2.2 * p1.1 - p0.1 * p1.2.2), nD (p0.1 * p1.2.1 - p0.2.1 * p1.1)]])
@[simp] theorem l11CrossC_at (a b c : Rat) (d e f : Rat) : l11CrossC [.agg [nD a, nD b, nD c], .agg [nD d, nD e, nD f]] = (qsz a + qsz b + qsz c + qsz d + qsz e + qsz f < LM, [.agg [nD (b * f - c * e), nD (c * d - a * f), nD (a * e - b * d)]]) := ct2_at (a, b, c) (d, e, f)
/-! s.l11V -/
noncomputable def l11VC := ct1 EP3n (fun p0 => True) (fun p0 => v3T (oV3 p0.1 p0.2.1 p0.2.2))
@[simp] theorem l11VC_at (a b c : Rat) : l11VC [.agg [nD a, nD b, nD c]] = (True, v3T (oV3 a b c)) := ct1_at (a, b, c)
noncomputable def l11VTb : List (FuncId × Ct) := [(26, .data nQC)]
theorem l11VTb_ok : TbOK NF Try.prog (tbl l11VTb) := tbl_cons (c := .data nQC) nQ_spec l1rQ_ok tbl_nil

@[simp] theorem l11VTb1 : tbl l11VTb 26 = some (.data nQC) := rfl
/-! s.l11Height -/
noncomputable def l11HtC := ct2 EFn EP3n (fun p0 p1 => qsz p0.1.1 + qsz p0.1.2.1 + qsz p0.1.2.2 + qsz p0.2 + qsz p1.1 + qsz p1.2.1 + qsz p1.2.2 < 100000000) (fun p0 p1 => [nD (htQ p0.1.1 p0.1.2.1 p0.1.2.2 p0.2 p1.1 p1.2.1 p1.2.2)])
@[simp] theorem l11HtC_at (a b c d : Rat) (e f g : Rat) : l11HtC [.agg [.agg [nD a, nD b, nD c], nD d, .lit (.slice none 0 0)], .agg [nD e, nD f, nD g]] = (qsz a + qsz b + qsz c + qsz d + qsz e + qsz f + qsz g < 100000000, [nD (htQ a b c d e f g)]) := ct2_at ((a, b, c), d) (e, f, g)
/-! s.l1rAbs -/
noncomputable def nabsC := ct1 ENum (fun p0 => True) (fun p0 => [nD (rabs p0)])
@[simp] theorem nabsC_at (a : Rat) : nabsC [nD a] = (True, [nD (rabs a)]) := ct1_at a
noncomputable def nabsTb : List (FuncId × Ct) := [(27, .data nSignC)]
theorem nabsTb_ok : TbOK NF Try.prog (tbl nabsTb) := tbl_cons (c := .data nSignC) nSign_spec l1rSign_ok tbl_nil

@[simp] theorem nabsTb1 : tbl nabsTb 27 = some (.data nSignC) := rfl
/-! s.l11Zero -/
noncomputable def l11ZeroC := ct1 EP3n (fun p0 => True) (fun p0 => [.lit (.bool (decide (p0.1.num.sign = 0 ∧ p0.2.1.num.sign = 0 ∧ p0.2.2.num.sign = 0)))])
@[simp] theorem l11ZeroC_at (a b c : Rat) : l11ZeroC [.agg [nD a, nD b, nD c]] = (True, [.lit (.bool (decide (a.num.sign = 0 ∧ b.num.sign = 0 ∧ c.num.sign = 0)))]) := ct1_at (a, b, c)
noncomputable def l11ZeroTb : List (FuncId × Ct) := [(27, .data nSignC)]
theorem l11ZeroTb_ok : TbOK NF Try.prog (tbl l11ZeroTb) := tbl_cons (c := .data nSignC) nSign_spec l1rSign_ok tbl_nil

@[simp] theorem l11ZeroTb1 : tbl l11ZeroTb 27 = some (.data nSignC) := rfl
theorem rabs_sgn (a : Rat) : (rabs a).num.sign = 0 ↔ a.num.sign = 0 := by
  have h1 : a.num.sign = 0 ↔ a = 0 := ⟨sgn_eq, fun h => by subst h; rfl⟩
  have h2 : (rabs a).num.sign = 0 ↔ rabs a = 0 := ⟨sgn_eq, fun h => by rw [h]; rfl⟩
  rw [h1, h2]
  constructor
  · intro h; exact Classical.byContradiction fun h' => rabs_ne h' h
  · rintro rfl; rfl

/-! s.l11Norm -/
noncomputable def l11NormC := ct1 EFn (fun p0 => qsz p0.1.1 + qsz p0.1.2.1 + qsz p0.1.2.2 + qsz p0.2 < 100000000 ∧ ledQ p0.1.1 p0.1.2.1 p0.1.2.2 ≠ 0) (fun p0 => [.agg [.agg [nD (p0.1.1 * (rabs (ledQ p0.1.1 p0.1.2.1 p0.1.2.2))⁻¹), nD (p0.1.2.1 * (rabs (ledQ p0.1.1 p0.1.2.1 p0.1.2.2))⁻¹), nD (p0.1.2.2 * (rabs (ledQ p0.1.1 p0.1.2.1 p0.1.2.2))⁻¹)], nD (p0.2 * (rabs (ledQ p0.1.1 p0.1.2.1 p0.1.2.2))⁻¹), .lit (.slice none 0 0)]])
@[simp] theorem l11NormC_at (a b c d : Rat) : l11NormC [.agg [.agg [nD a, nD b, nD c], nD d, .lit (.slice none 0 0)]] = (qsz a + qsz b + qsz c + qsz d < 100000000 ∧ ledQ a b c ≠ 0, [.agg [.agg [nD (a * (rabs (ledQ a b c))⁻¹), nD (b * (rabs (ledQ a b c))⁻¹), nD (c * (rabs (ledQ a b c))⁻¹)], nD (d * (rabs (ledQ a b c))⁻¹), .lit (.slice none 0 0)]]) := ct1_at ((a, b, c), d)
noncomputable def l11NormTb : List (FuncId × Ct) := [(27, .data nSignC)]
theorem l11NormTb_ok : TbOK NF Try.prog (tbl l11NormTb) := tbl_cons (c := .data nSignC) nSign_spec l1rSign_ok tbl_nil

@[simp] theorem l11NormTb2 : tbl l11NormTb 27 = some (.data nSignC) := rfl
/-! s.l11Through -/
noncomputable def l11ThrC := ct3 EP3n EP3n EP3n (fun p0 p1 p2 => qsz p0.1 + qsz p0.2.1 + qsz p0.2.2 + qsz p1.1 + qsz p1.2.1 + qsz p1.2.2 + qsz p2.1 + qsz p2.2.1 + qsz p2.2.2 < 1000000) (fun p0 p1 p2 => thrN zFn (throQ p0.1 p0.2.1 p0.2.2 p1.1 p1.2.1 p1.2.2 p2.1 p2.2.1 p2.2.2))
@[simp] theorem l11ThrC_at (a b c : Rat) (d e f : Rat) (g h i : Rat) : l11ThrC [.agg [nD a, nD b, nD c], .agg [nD d, nD e, nD f], .agg [nD g, nD h, nD i]] = (qsz a + qsz b + qsz c + qsz d + qsz e + qsz f + qsz g + qsz h + qsz i < 1000000, thrN zFn (throQ a b c d e f g h i)) := ct3_at (a, b, c) (d, e, f) (g, h, i)
/-! s.l11Told -/
noncomputable def l11ToldC := ct1 EFn (fun p0 => True) (fun p0 => plT (oPl p0.1.1 p0.1.2.1 p0.1.2.2 p0.2))
@[simp] theorem l11ToldC_at (a b c d : Rat) : l11ToldC [.agg [.agg [nD a, nD b, nD c], nD d, .lit (.slice none 0 0)]] = (True, plT (oPl a b c d)) := ct1_at ((a, b, c), d)
noncomputable def l11ToldTb : List (FuncId × Ct) := [(26, .data nQC)]
theorem l11ToldTb_ok : TbOK NF Try.prog (tbl l11ToldTb) := tbl_cons (c := .data nQC) nQ_spec l1rQ_ok tbl_nil

@[simp] theorem l11ToldTb2 : tbl l11ToldTb 26 = some (.data nQC) := rfl
/-! s.l11Axis -/
noncomputable def l11AxisC := ct1 EFn (fun p0 => True) (fun p0 => [.lit (.int .i64 (offI p0.1.2.1 p0.1.2.2))])
@[simp] theorem l11AxisC_at (a b c d : Rat) : l11AxisC [.agg [.agg [nD a, nD b, nD c], nD d, .lit (.slice none 0 0)]] = (True, [.lit (.int .i64 (offI b c))]) := ct1_at ((a, b, c), d)
noncomputable def l11AxisTb : List (FuncId × Ct) := [(27, .data nSignC)]
theorem l11AxisTb_ok : TbOK NF Try.prog (tbl l11AxisTb) := tbl_cons (c := .data nSignC) nSign_spec l1rSign_ok tbl_nil

@[simp] theorem l11AxisTb1 : tbl l11AxisTb 27 = some (.data nSignC) := rfl
theorem l11Axis_spec : SpecD NF Try.prog 13 l11AxisC := by
  refine rd1 (mf := fun f => false) l11AxisTb_ok (fn := Try.f13) (by kernel_rfl) rfl (by kernel_rfl) (by kernel_rfl) ?_
  rintro ⟨⟨a, b, c⟩, d⟩ hp
  have hp : True := hp
  show awp _ _ _ _ (start _ ([.agg [.agg [nD a, nD b, nD c], nD d, .lit (.slice none 0 0)]].map .dat) []) (endK _ _ _ (([.lit (.int .i64 (offI b c))]).map .dat) [])
  by_cases h : c.num.sign = 0 <;> by_cases h2 : b.num.sign = 0 <;> simp [-D.isLit, Try.f13, offI, h, h2]
theorem l11Axis_ok : callable Try.prog 13 = true := by kernel_rfl
theorem offI_3 (b c : Rat) : offI b c = 0 ∨ offI b c = 1 ∨ offI b c = 2 := by unfold offI; split <;> (try split) <;> simp

/-! s.l11Drop -/
noncomputable def l11DropC := ct2 EInt EP3n (fun p0 p1 => p0 = 0 ∨ p0 = 1 ∨ p0 = 2) (fun p0 p1 => [.agg (if p0 = 2 then [nD p1.1, nD p1.2.1] else if p0 = 1 then [nD p1.1, nD p1.2.2] else [nD p1.2.1, nD p1.2.2])])
@[simp] theorem l11DropC_at (n : Int) (x y z : Rat) : l11DropC [.lit (.int .i64 n), .agg [nD x, nD y, nD z]] = (n = 0 ∨ n = 1 ∨ n = 2, [.agg (if n = 2 then [nD x, nD y] else if n = 1 then [nD x, nD z] else [nD y, nD z])]) := ct2_at n (x, y, z)
theorem l11Drop_spec : SpecD NF Try.prog 12 l11DropC := by
  refine rd2 (mf := fun f => false) (tb := tbl []) tbl_nil (fn := Try.f12) (by kernel_rfl) rfl (by kernel_rfl) (by kernel_rfl) ?_
  rintro n ⟨x, y, z⟩ hp
  have hp : n = 0 ∨ n = 1 ∨ n = 2 := hp
  show awp _ _ _ _ (start _ ([.lit (.int .i64 n), .agg [nD x, nD y, nD z]].map .dat) []) (endK _ _ _ (([.agg (if n = 2 then [nD x, nD y] else if n = 1 then [nD x, nD z] else [nD y, nD z])]).map .dat) [])
  rcases hp with rfl | rfl | rfl <;> simp [-D.isLit, Try.f12]
theorem l11Drop_ok : callable Try.prog 12 = true := by kernel_rfl

/-! s.l11Lift -/
noncomputable def l11LiftC := ct2 EFn EPn (fun p0 p1 => qsz p0.1.1 + qsz p0.1.2.1 + qsz p0.1.2.2 + qsz p0.2 + qsz p1.1 + qsz p1.2 < 10000000 ∧ ¬ (p0.1.1 = 0 ∧ p0.1.2.1 = 0 ∧ p0.1.2.2 = 0)) (fun p0 p1 => [.agg [nD (lftQ p0.1.1 p0.1.2.1 p0.1.2.2 p0.2 p1.1 p1.2).1, nD (lftQ p0.1.1 p0.1.2.1 p0.1.2.2 p0.2 p1.1 p1.2).2.1, nD (lftQ p0.1.1 p0.1.2.1 p0.1.2.2 p0.2 p1.1 p1.2).2.2]])
@[simp] theorem l11LiftC_at (a b c d : Rat) (x y : Rat) : l11LiftC [.agg [.agg [nD a, nD b, nD c], nD d, .lit (.slice none 0 0)], .agg [nD x, nD y]] = (qsz a + qsz b + qsz c + qsz d + qsz x + qsz y < 10000000 ∧ ¬ (a = 0 ∧ b = 0 ∧ c = 0), [.agg [nD (lftQ a b c d x y).1, nD (lftQ a b c d x y).2.1, nD (lftQ a b c d x y).2.2]]) := ct2_at ((a, b, c), d) (x, y)
noncomputable def l11LiftTb : List (FuncId × Ct) := [(13, .data l11AxisC)]
theorem l11LiftTb_ok : TbOK NF Try.prog (tbl l11LiftTb) := tbl_cons (c := .data l11AxisC) l11Axis_spec l11Axis_ok tbl_nil

@[simp] theorem l11LiftTb1 : tbl l11LiftTb 13 = some (.data l11AxisC) := rfl
end Go.Proofs.Ytmnplonkijkblaa.Ae

/-! Drop, Side, Lift, PlaneOf: whole, and the laws. No condition. -/
namespace Go.Proofs.Ytmnplonkijkblaa.Ae
open Go Go.RowKit Go.Proofs.Ytmnplonkijkblaa.Dig
theorem div_ne {n d : Int} (hd : 0 < d) (h : Rat.divInt n d = 0) : n = 0 := by
  rw [Rat.divInt_eq_div] at h
  have hd' : (d : Rat) ≠ 0 := by
    intro e
    have : d = 0 := by exact_mod_cast e
    omega
  have h2 : (n : Rat) = 0 := by
    have := Rat.div_mul_cancel (a := (n : Rat)) hd'
    rw [h] at this
    grind
  exact_mod_cast h2
theorem plOk_ne {a b c d e f g h : Int} (hp : plOk a b c d e f g h) : ¬ (Rat.divInt a b = 0 ∧ Rat.divInt c d = 0 ∧ Rat.divInt e f = 0) := by
  rintro ⟨h1, h2, h3⟩
  obtain ⟨⟨q1, q2, q3, q4⟩, ho⟩ := hp
  have e1 := div_ne (qOk_64 q1).2.2 h1
  have e2 := div_ne (qOk_64 q2).2.2 h2
  have e3 := div_ne (qOk_64 q3).2.2 h3
  rw [if_pos e1, if_pos e2] at ho
  subst e3
  unfold one1 at ho
  simp at ho

/-! i.Side -/
noncomputable def iSideC := ct2 EPl EV3 (fun p0 p1 => ((I64 p0.1.1 ∧ I64 p0.1.2) ∧ (I64 p0.2.1.1 ∧ I64 p0.2.1.2) ∧ (I64 p0.2.2.1.1 ∧ I64 p0.2.2.1.2) ∧ I64 p0.2.2.2.1 ∧ I64 p0.2.2.2.2) ∧ ((I64 p1.1.1 ∧ I64 p1.1.2) ∧ (I64 p1.2.1.1 ∧ I64 p1.2.1.2) ∧ I64 p1.2.2.1 ∧ I64 p1.2.2.2)) (fun p0 p1 => [.lit (.int .i64 (if plOk p0.1.1 p0.1.2 p0.2.1.1 p0.2.1.2 p0.2.2.1.1 p0.2.2.1.2 p0.2.2.2.1 p0.2.2.2.2 ∧ v3Ok p1.1.1 p1.1.2 p1.2.1.1 p1.2.1.2 p1.2.2.1 p1.2.2.2 then (htQ (Rat.divInt p0.1.1 p0.1.2) (Rat.divInt p0.2.1.1 p0.2.1.2) (Rat.divInt p0.2.2.1.1 p0.2.2.1.2) (Rat.divInt p0.2.2.2.1 p0.2.2.2.2) (Rat.divInt p1.1.1 p1.1.2) (Rat.divInt p1.2.1.1 p1.2.1.2) (Rat.divInt p1.2.2.1 p1.2.2.2)).num.sign else 2))])
@[simp] theorem iSideC_at (a b c d e f g h : Int) (i j k l m n : Int) : iSideC [.agg [eQ a b, eQ c d, eQ e f, eQ g h], .agg [eQ i j, eQ k l, eQ m n]] = (((I64 a ∧ I64 b) ∧ (I64 c ∧ I64 d) ∧ (I64 e ∧ I64 f) ∧ I64 g ∧ I64 h) ∧ ((I64 i ∧ I64 j) ∧ (I64 k ∧ I64 l) ∧ I64 m ∧ I64 n), [.lit (.int .i64 (if plOk a b c d e f g h ∧ v3Ok i j k l m n then (htQ (Rat.divInt a b) (Rat.divInt c d) (Rat.divInt e f) (Rat.divInt g h) (Rat.divInt i j) (Rat.divInt k l) (Rat.divInt m n)).num.sign else 2))]) := ct2_at ((a, b), (c, d), (e, f), g, h) ((i, j), (k, l), m, n)
noncomputable def iSideTb : List (FuncId × Ct) := [(17, .data iPlaneOkC), (18, .data iV3OkC), (19, .data pplC), (21, .data pv3C), (40, .data rsgC)]
theorem iSideTb_ok {N : NR} : TbOK N Try.prog (tbl iSideTb) := tbl_cons (c := .data iPlaneOkC) iPlaneOk_spec iPlaneOk_ok (tbl_cons (c := .data iV3OkC) iV3Ok_spec iV3Ok_ok (tbl_cons (c := .data pplC) ppl_spec ppl_ok (tbl_cons (c := .data pv3C) pv3_spec pv3_ok (tbl_cons (c := .data rsgC) rsign_spec rsign_ok tbl_nil))))

@[simp] theorem iSideTb1 : tbl iSideTb 17 = some (.data iPlaneOkC) := rfl
@[simp] theorem iSideTb2 : tbl iSideTb 18 = some (.data iV3OkC) := rfl
@[simp] theorem iSideTb3 : tbl iSideTb 19 = some (.data pplC) := rfl
@[simp] theorem iSideTb4 : tbl iSideTb 21 = some (.data pv3C) := rfl
@[simp] theorem iSideTb6 : tbl iSideTb 40 = some (.data rsgC) := rfl
/-! s.Side -/
noncomputable def sSideC := ct2 EPl EV3 (fun p0 p1 => ((I64 p0.1.1 ∧ I64 p0.1.2) ∧ (I64 p0.2.1.1 ∧ I64 p0.2.1.2) ∧ (I64 p0.2.2.1.1 ∧ I64 p0.2.2.1.2) ∧ I64 p0.2.2.2.1 ∧ I64 p0.2.2.2.2) ∧ ((I64 p1.1.1 ∧ I64 p1.1.2) ∧ (I64 p1.2.1.1 ∧ I64 p1.2.1.2) ∧ I64 p1.2.2.1 ∧ I64 p1.2.2.2)) (fun p0 p1 => [.lit (.int .i64 (if plOk p0.1.1 p0.1.2 p0.2.1.1 p0.2.1.2 p0.2.2.1.1 p0.2.2.1.2 p0.2.2.2.1 p0.2.2.2.2 ∧ v3Ok p1.1.1 p1.1.2 p1.2.1.1 p1.2.1.2 p1.2.2.1 p1.2.2.2 then (htQ (Rat.divInt p0.1.1 p0.1.2) (Rat.divInt p0.2.1.1 p0.2.1.2) (Rat.divInt p0.2.2.1.1 p0.2.2.1.2) (Rat.divInt p0.2.2.2.1 p0.2.2.2.2) (Rat.divInt p1.1.1 p1.1.2) (Rat.divInt p1.2.1.1 p1.2.1.2) (Rat.divInt p1.2.2.1 p1.2.2.2)).num.sign else 2))])
@[simp] theorem sSideC_at (a b c d e f g h : Int) (i j k l m n : Int) : sSideC [.agg [eQ a b, eQ c d, eQ e f, eQ g h], .agg [eQ i j, eQ k l, eQ m n]] = (((I64 a ∧ I64 b) ∧ (I64 c ∧ I64 d) ∧ (I64 e ∧ I64 f) ∧ I64 g ∧ I64 h) ∧ ((I64 i ∧ I64 j) ∧ (I64 k ∧ I64 l) ∧ I64 m ∧ I64 n), [.lit (.int .i64 (if plOk a b c d e f g h ∧ v3Ok i j k l m n then (htQ (Rat.divInt a b) (Rat.divInt c d) (Rat.divInt e f) (Rat.divInt g h) (Rat.divInt i j) (Rat.divInt k l) (Rat.divInt m n)).num.sign else 2))]) := ct2_at ((a, b), (c, d), (e, f), g, h) ((i, j), (k, l), m, n)
noncomputable def sSideTb : List (FuncId × Ct) := [(9, .data sPlaneOkC), (10, .data sV3OkC), (14, .data l11PlaneC), (15, .data l11pC), (27, .data nSignC)]
theorem sSideTb_ok : TbOK NF Try.prog (tbl sSideTb) := tbl_cons (c := .data sPlaneOkC) sPlaneOk_spec sPlaneOk_ok (tbl_cons (c := .data sV3OkC) sV3Ok_spec sV3Ok_ok (tbl_cons (c := .data l11PlaneC) l11Plane_spec l11Plane_ok (tbl_cons (c := .data l11pC) l11p_spec l11p_ok (tbl_cons (c := .data nSignC) nSign_spec l1rSign_ok tbl_nil))))

@[simp] theorem sSideTb1 : tbl sSideTb 9 = some (.data sPlaneOkC) := rfl
@[simp] theorem sSideTb2 : tbl sSideTb 10 = some (.data sV3OkC) := rfl
@[simp] theorem sSideTb3 : tbl sSideTb 14 = some (.data l11PlaneC) := rfl
@[simp] theorem sSideTb4 : tbl sSideTb 15 = some (.data l11pC) := rfl
@[simp] theorem sSideTb6 : tbl sSideTb 27 = some (.data nSignC) := rfl
/-! i.Drop -/
noncomputable def iDropC := ct2 EPl EV3 (fun p0 p1 => ((I64 p0.1.1 ∧ I64 p0.1.2) ∧ (I64 p0.2.1.1 ∧ I64 p0.2.1.2) ∧ (I64 p0.2.2.1.1 ∧ I64 p0.2.2.1.2) ∧ I64 p0.2.2.2.1 ∧ I64 p0.2.2.2.2) ∧ ((I64 p1.1.1 ∧ I64 p1.1.2) ∧ (I64 p1.2.1.1 ∧ I64 p1.2.1.2) ∧ I64 p1.2.2.1 ∧ I64 p1.2.2.2)) (fun p0 p1 => vD (if plOk p0.1.1 p0.1.2 p0.2.1.1 p0.2.1.2 p0.2.2.1.1 p0.2.2.1.2 p0.2.2.2.1 p0.2.2.2.2 ∧ v3Ok p1.1.1 p1.1.2 p1.2.1.1 p1.2.1.2 p1.2.2.1 p1.2.2.2 then oV (drpQ (Rat.divInt p0.2.1.1 p0.2.1.2) (Rat.divInt p0.2.2.1.1 p0.2.2.1.2) (Rat.divInt p1.1.1 p1.1.2) (Rat.divInt p1.2.1.1 p1.2.1.2) (Rat.divInt p1.2.2.1 p1.2.2.2)).1 (drpQ (Rat.divInt p0.2.1.1 p0.2.1.2) (Rat.divInt p0.2.2.1.1 p0.2.2.1.2) (Rat.divInt p1.1.1 p1.1.2) (Rat.divInt p1.2.1.1 p1.2.1.2) (Rat.divInt p1.2.2.1 p1.2.2.2)).2 else ((0, 0), (0, 0), false)))
@[simp] theorem iDropC_at (a b c d e f g h : Int) (i j k l m n : Int) : iDropC [.agg [eQ a b, eQ c d, eQ e f, eQ g h], .agg [eQ i j, eQ k l, eQ m n]] = (((I64 a ∧ I64 b) ∧ (I64 c ∧ I64 d) ∧ (I64 e ∧ I64 f) ∧ I64 g ∧ I64 h) ∧ ((I64 i ∧ I64 j) ∧ (I64 k ∧ I64 l) ∧ I64 m ∧ I64 n), vD (if plOk a b c d e f g h ∧ v3Ok i j k l m n then oV (drpQ (Rat.divInt c d) (Rat.divInt e f) (Rat.divInt i j) (Rat.divInt k l) (Rat.divInt m n)).1 (drpQ (Rat.divInt c d) (Rat.divInt e f) (Rat.divInt i j) (Rat.divInt k l) (Rat.divInt m n)).2 else ((0, 0), (0, 0), false))) := ct2_at ((a, b), (c, d), (e, f), g, h) ((i, j), (k, l), m, n)
noncomputable def iDropTb : List (FuncId × Ct) := [(17, .data iPlaneOkC), (18, .data iV3OkC), (19, .data pplC), (21, .data pv3C), (20, .data plDropC), (22, .data ptvC)]
theorem iDropTb_ok {N : NR} : TbOK N Try.prog (tbl iDropTb) := tbl_cons (c := .data iPlaneOkC) iPlaneOk_spec iPlaneOk_ok (tbl_cons (c := .data iV3OkC) iV3Ok_spec iV3Ok_ok (tbl_cons (c := .data pplC) ppl_spec ppl_ok (tbl_cons (c := .data pv3C) pv3_spec pv3_ok (tbl_cons (c := .data plDropC) plDrop_spec plDrop_ok (tbl_cons (c := .data ptvC) ptv_spec ptv_ok tbl_nil)))))

@[simp] theorem iDropTb1 : tbl iDropTb 17 = some (.data iPlaneOkC) := rfl
@[simp] theorem iDropTb2 : tbl iDropTb 18 = some (.data iV3OkC) := rfl
@[simp] theorem iDropTb3 : tbl iDropTb 19 = some (.data pplC) := rfl
@[simp] theorem iDropTb4 : tbl iDropTb 21 = some (.data pv3C) := rfl
@[simp] theorem iDropTb5 : tbl iDropTb 20 = some (.data plDropC) := rfl
@[simp] theorem iDropTb6 : tbl iDropTb 22 = some (.data ptvC) := rfl
theorem iDrop_spec {N : NR} : SpecD N Try.prog 7 iDropC := by
  refine rd2 (mf := fun f => false) iDropTb_ok (fn := Try.f7) (by kernel_rfl) rfl (by kernel_rfl) (by kernel_rfl) ?_
  rintro ⟨⟨a, b⟩, ⟨c, d⟩, ⟨e, f⟩, g, h⟩ ⟨⟨i, j⟩, ⟨k, l⟩, m, n⟩ hp
  have hp : ((I64 a ∧ I64 b) ∧ (I64 c ∧ I64 d) ∧ (I64 e ∧ I64 f) ∧ I64 g ∧ I64 h) ∧ ((I64 i ∧ I64 j) ∧ (I64 k ∧ I64 l) ∧ I64 m ∧ I64 n) := hp
  show awp _ _ _ _ (start _ ([.agg [eQ a b, eQ c d, eQ e f, eQ g h], .agg [eQ i j, eQ k l, eQ m n]].map .dat) []) (endK _ _ _ ((vD (if plOk a b c d e f g h ∧ v3Ok i j k l m n then oV (drpQ (Rat.divInt c d) (Rat.divInt e f) (Rat.divInt i j) (Rat.divInt k l) (Rat.divInt m n)).1 (drpQ (Rat.divInt c d) (Rat.divInt e f) (Rat.divInt i j) (Rat.divInt k l) (Rat.divInt m n)).2 else ((0, 0), (0, 0), false))).map .dat) [])
  obtain ⟨hp1, hp2⟩ := hp
  by_cases h1 : plOk a b c d e f g h
  · by_cases h2 : v3Ok i j k l m n
    · have hne := plOk_ne h1
      have w1 := qOk_QI h1.1.1
      have y1 := qOk_64 h1.1.1
      have z1 := QI_qsz w1
      have w2 := qOk_QI h1.1.2.1
      have y2 := qOk_64 h1.1.2.1
      have z2 := QI_qsz w2
      have w3 := qOk_QI h1.1.2.2.1
      have y3 := qOk_64 h1.1.2.2.1
      have z3 := QI_qsz w3
      have w4 := qOk_QI h1.1.2.2.2
      have y4 := qOk_64 h1.1.2.2.2
      have z4 := QI_qsz w4
      have w5 := qOk_QI h2.1
      have y5 := qOk_64 h2.1
      have z5 := QI_qsz w5
      have w6 := qOk_QI h2.2.1
      have y6 := qOk_64 h2.2.1
      have z6 := QI_qsz w6
      have w7 := qOk_QI h2.2.2
      have y7 := qOk_64 h2.2.2
      have z7 := QI_qsz w7
      simp [-D.isLit, Try.f7, hp1, hp2, h1, h2, hne, w1, y1, w2, y2, w3, y3, w4, y4, w5, y5, w6, y6, w7, y7, vD]
    · simp [-D.isLit, Try.f7, hp1, hp2, h1, h2, vD] <;> exact Sub.refl _
  · simp [-D.isLit, Try.f7, hp1, hp2, h1, vD] <;> exact Sub.refl _
theorem iDrop_ok : callable Try.prog 7 = true := by kernel_rfl

/-! s.Drop -/
noncomputable def sDropC := ct2 EPl EV3 (fun p0 p1 => ((I64 p0.1.1 ∧ I64 p0.1.2) ∧ (I64 p0.2.1.1 ∧ I64 p0.2.1.2) ∧ (I64 p0.2.2.1.1 ∧ I64 p0.2.2.1.2) ∧ I64 p0.2.2.2.1 ∧ I64 p0.2.2.2.2) ∧ ((I64 p1.1.1 ∧ I64 p1.1.2) ∧ (I64 p1.2.1.1 ∧ I64 p1.2.1.2) ∧ I64 p1.2.2.1 ∧ I64 p1.2.2.2)) (fun p0 p1 => vD (if plOk p0.1.1 p0.1.2 p0.2.1.1 p0.2.1.2 p0.2.2.1.1 p0.2.2.1.2 p0.2.2.2.1 p0.2.2.2.2 ∧ v3Ok p1.1.1 p1.1.2 p1.2.1.1 p1.2.1.2 p1.2.2.1 p1.2.2.2 then oV (drpQ (Rat.divInt p0.2.1.1 p0.2.1.2) (Rat.divInt p0.2.2.1.1 p0.2.2.1.2) (Rat.divInt p1.1.1 p1.1.2) (Rat.divInt p1.2.1.1 p1.2.1.2) (Rat.divInt p1.2.2.1 p1.2.2.2)).1 (drpQ (Rat.divInt p0.2.1.1 p0.2.1.2) (Rat.divInt p0.2.2.1.1 p0.2.2.1.2) (Rat.divInt p1.1.1 p1.1.2) (Rat.divInt p1.2.1.1 p1.2.1.2) (Rat.divInt p1.2.2.1 p1.2.2.2)).2 else ((0, 0), (0, 0), false)))
@[simp] theorem sDropC_at (a b c d e f g h : Int) (i j k l m n : Int) : sDropC [.agg [eQ a b, eQ c d, eQ e f, eQ g h], .agg [eQ i j, eQ k l, eQ m n]] = (((I64 a ∧ I64 b) ∧ (I64 c ∧ I64 d) ∧ (I64 e ∧ I64 f) ∧ I64 g ∧ I64 h) ∧ ((I64 i ∧ I64 j) ∧ (I64 k ∧ I64 l) ∧ I64 m ∧ I64 n), vD (if plOk a b c d e f g h ∧ v3Ok i j k l m n then oV (drpQ (Rat.divInt c d) (Rat.divInt e f) (Rat.divInt i j) (Rat.divInt k l) (Rat.divInt m n)).1 (drpQ (Rat.divInt c d) (Rat.divInt e f) (Rat.divInt i j) (Rat.divInt k l) (Rat.divInt m n)).2 else ((0, 0), (0, 0), false))) := ct2_at ((a, b), (c, d), (e, f), g, h) ((i, j), (k, l), m, n)
noncomputable def sDropTb : List (FuncId × Ct) := [(9, .data sPlaneOkC), (10, .data sV3OkC), (14, .data l11PlaneC), (13, .data l11AxisC), (15, .data l11pC), (12, .data l11DropC), (11, .data l3VC)]
theorem sDropTb_ok : TbOK NF Try.prog (tbl sDropTb) := tbl_cons (c := .data sPlaneOkC) sPlaneOk_spec sPlaneOk_ok (tbl_cons (c := .data sV3OkC) sV3Ok_spec sV3Ok_ok (tbl_cons (c := .data l11PlaneC) l11Plane_spec l11Plane_ok (tbl_cons (c := .data l11AxisC) l11Axis_spec l11Axis_ok (tbl_cons (c := .data l11pC) l11p_spec l11p_ok (tbl_cons (c := .data l11DropC) l11Drop_spec l11Drop_ok (tbl_cons (c := .data l3VC) l3V_spec l3V_ok tbl_nil))))))

@[simp] theorem sDropTb1 : tbl sDropTb 9 = some (.data sPlaneOkC) := rfl
@[simp] theorem sDropTb2 : tbl sDropTb 10 = some (.data sV3OkC) := rfl
@[simp] theorem sDropTb3 : tbl sDropTb 14 = some (.data l11PlaneC) := rfl
@[simp] theorem sDropTb4 : tbl sDropTb 13 = some (.data l11AxisC) := rfl
@[simp] theorem sDropTb5 : tbl sDropTb 15 = some (.data l11pC) := rfl
@[simp] theorem sDropTb6 : tbl sDropTb 12 = some (.data l11DropC) := rfl
@[simp] theorem sDropTb7 : tbl sDropTb 11 = some (.data l3VC) := rfl
theorem sDrop_spec : SpecD NF Try.prog 4 sDropC := by
  refine rd2 (mf := fun f => false) sDropTb_ok (fn := Try.f4) (by kernel_rfl) rfl (by kernel_rfl) (by kernel_rfl) ?_
  rintro ⟨⟨a, b⟩, ⟨c, d⟩, ⟨e, f⟩, g, h⟩ ⟨⟨i, j⟩, ⟨k, l⟩, m, n⟩ hp
  have hp : ((I64 a ∧ I64 b) ∧ (I64 c ∧ I64 d) ∧ (I64 e ∧ I64 f) ∧ I64 g ∧ I64 h) ∧ ((I64 i ∧ I64 j) ∧ (I64 k ∧ I64 l) ∧ I64 m ∧ I64 n) := hp
  show awp _ _ _ _ (start _ ([.agg [eQ a b, eQ c d, eQ e f, eQ g h], .agg [eQ i j, eQ k l, eQ m n]].map .dat) []) (endK _ _ _ ((vD (if plOk a b c d e f g h ∧ v3Ok i j k l m n then oV (drpQ (Rat.divInt c d) (Rat.divInt e f) (Rat.divInt i j) (Rat.divInt k l) (Rat.divInt m n)).1 (drpQ (Rat.divInt c d) (Rat.divInt e f) (Rat.divInt i j) (Rat.divInt k l) (Rat.divInt m n)).2 else ((0, 0), (0, 0), false))).map .dat) [])
  obtain ⟨hp1, hp2⟩ := hp
  by_cases h1 : plOk a b c d e f g h
  · by_cases h2 : v3Ok i j k l m n
    · have hne := plOk_ne h1
      have w1 := qOk_QI h1.1.1
      have y1 := qOk_64 h1.1.1
      have z1 := QI_qsz w1
      have w2 := qOk_QI h1.1.2.1
      have y2 := qOk_64 h1.1.2.1
      have z2 := QI_qsz w2
      have w3 := qOk_QI h1.1.2.2.1
      have y3 := qOk_64 h1.1.2.2.1
      have z3 := QI_qsz w3
      have w4 := qOk_QI h1.1.2.2.2
      have y4 := qOk_64 h1.1.2.2.2
      have z4 := QI_qsz w4
      have w5 := qOk_QI h2.1
      have y5 := qOk_64 h2.1
      have z5 := QI_qsz w5
      have w6 := qOk_QI h2.2.1
      have y6 := qOk_64 h2.2.1
      have z6 := QI_qsz w6
      have w7 := qOk_QI h2.2.2
      have y7 := qOk_64 h2.2.2
      have z7 := QI_qsz w7
      by_cases o1 : (Rat.divInt e f).num.sign = 0
      · by_cases o2 : (Rat.divInt c d).num.sign = 0
        · simp [-D.isLit, Try.f4, hp1, hp2, h1, h2, hne, w1, y1, w2, y2, w3, y3, w4, y4, w5, y5, w6, y6, w7, y7, vD, offI, drpQ, o1, o2]
        · simp [-D.isLit, Try.f4, hp1, hp2, h1, h2, hne, w1, y1, w2, y2, w3, y3, w4, y4, w5, y5, w6, y6, w7, y7, vD, offI, drpQ, o1, o2]
      · simp [-D.isLit, Try.f4, hp1, hp2, h1, h2, hne, w1, y1, w2, y2, w3, y3, w4, y4, w5, y5, w6, y6, w7, y7, vD, offI, drpQ, o1]
    · simp [-D.isLit, Try.f4, hp1, hp2, h1, h2, vD] <;> exact Sub.refl _
  · simp [-D.isLit, Try.f4, hp1, hp2, h1, vD] <;> exact Sub.refl _
theorem sDrop_ok : callable Try.prog 4 = true := by kernel_rfl

/-! i.Lift -/
noncomputable def iLiftC := ct2 EPl EV (fun p0 p1 => ((I64 p0.1.1 ∧ I64 p0.1.2) ∧ (I64 p0.2.1.1 ∧ I64 p0.2.1.2) ∧ (I64 p0.2.2.1.1 ∧ I64 p0.2.2.1.2) ∧ I64 p0.2.2.2.1 ∧ I64 p0.2.2.2.2) ∧ ((I64 p1.1.1 ∧ I64 p1.1.2) ∧ I64 p1.2.1 ∧ I64 p1.2.2)) (fun p0 p1 => v3T (if plOk p0.1.1 p0.1.2 p0.2.1.1 p0.2.1.2 p0.2.2.1.1 p0.2.2.1.2 p0.2.2.2.1 p0.2.2.2.2 ∧ (qOk p1.1.1 p1.1.2 ∧ qOk p1.2.1 p1.2.2) then oV3 (lftQ (Rat.divInt p0.1.1 p0.1.2) (Rat.divInt p0.2.1.1 p0.2.1.2) (Rat.divInt p0.2.2.1.1 p0.2.2.1.2) (Rat.divInt p0.2.2.2.1 p0.2.2.2.2) (Rat.divInt p1.1.1 p1.1.2) (Rat.divInt p1.2.1 p1.2.2)).1 (lftQ (Rat.divInt p0.1.1 p0.1.2) (Rat.divInt p0.2.1.1 p0.2.1.2) (Rat.divInt p0.2.2.1.1 p0.2.2.1.2) (Rat.divInt p0.2.2.2.1 p0.2.2.2.2) (Rat.divInt p1.1.1 p1.1.2) (Rat.divInt p1.2.1 p1.2.2)).2.1 (lftQ (Rat.divInt p0.1.1 p0.1.2) (Rat.divInt p0.2.1.1 p0.2.1.2) (Rat.divInt p0.2.2.1.1 p0.2.2.1.2) (Rat.divInt p0.2.2.2.1 p0.2.2.2.2) (Rat.divInt p1.1.1 p1.1.2) (Rat.divInt p1.2.1 p1.2.2)).2.2 else ((0, 0), (0, 0), (0, 0), false)))
@[simp] theorem iLiftC_at (a b c d e f g h : Int) (i j k l : Int) : iLiftC [.agg [eQ a b, eQ c d, eQ e f, eQ g h], .agg [eQ i j, eQ k l]] = (((I64 a ∧ I64 b) ∧ (I64 c ∧ I64 d) ∧ (I64 e ∧ I64 f) ∧ I64 g ∧ I64 h) ∧ ((I64 i ∧ I64 j) ∧ I64 k ∧ I64 l), v3T (if plOk a b c d e f g h ∧ (qOk i j ∧ qOk k l) then oV3 (lftQ (Rat.divInt a b) (Rat.divInt c d) (Rat.divInt e f) (Rat.divInt g h) (Rat.divInt i j) (Rat.divInt k l)).1 (lftQ (Rat.divInt a b) (Rat.divInt c d) (Rat.divInt e f) (Rat.divInt g h) (Rat.divInt i j) (Rat.divInt k l)).2.1 (lftQ (Rat.divInt a b) (Rat.divInt c d) (Rat.divInt e f) (Rat.divInt g h) (Rat.divInt i j) (Rat.divInt k l)).2.2 else ((0, 0), (0, 0), (0, 0), false))) := ct2_at ((a, b), (c, d), (e, f), g, h) ((i, j), k, l)
noncomputable def iLiftTb : List (FuncId × Ct) := [(17, .data iPlaneOkC), (19, .data pplC)]
theorem iLiftTb_ok {N : NR} : TbOK N Try.prog (tbl iLiftTb) := tbl_cons (c := .data iPlaneOkC) iPlaneOk_spec iPlaneOk_ok (tbl_cons (c := .data pplC) ppl_spec ppl_ok tbl_nil)

@[simp] theorem iLiftTb1 : tbl iLiftTb 17 = some (.data iPlaneOkC) := rfl
@[simp] theorem iLiftTb3 : tbl iLiftTb 19 = some (.data pplC) := rfl
/-! s.Lift -/
noncomputable def sLiftC := ct2 EPl EV (fun p0 p1 => ((I64 p0.1.1 ∧ I64 p0.1.2) ∧ (I64 p0.2.1.1 ∧ I64 p0.2.1.2) ∧ (I64 p0.2.2.1.1 ∧ I64 p0.2.2.1.2) ∧ I64 p0.2.2.2.1 ∧ I64 p0.2.2.2.2) ∧ ((I64 p1.1.1 ∧ I64 p1.1.2) ∧ I64 p1.2.1 ∧ I64 p1.2.2)) (fun p0 p1 => v3T (if plOk p0.1.1 p0.1.2 p0.2.1.1 p0.2.1.2 p0.2.2.1.1 p0.2.2.1.2 p0.2.2.2.1 p0.2.2.2.2 ∧ (qOk p1.1.1 p1.1.2 ∧ qOk p1.2.1 p1.2.2) then oV3 (lftQ (Rat.divInt p0.1.1 p0.1.2) (Rat.divInt p0.2.1.1 p0.2.1.2) (Rat.divInt p0.2.2.1.1 p0.2.2.1.2) (Rat.divInt p0.2.2.2.1 p0.2.2.2.2) (Rat.divInt p1.1.1 p1.1.2) (Rat.divInt p1.2.1 p1.2.2)).1 (lftQ (Rat.divInt p0.1.1 p0.1.2) (Rat.divInt p0.2.1.1 p0.2.1.2) (Rat.divInt p0.2.2.1.1 p0.2.2.1.2) (Rat.divInt p0.2.2.2.1 p0.2.2.2.2) (Rat.divInt p1.1.1 p1.1.2) (Rat.divInt p1.2.1 p1.2.2)).2.1 (lftQ (Rat.divInt p0.1.1 p0.1.2) (Rat.divInt p0.2.1.1 p0.2.1.2) (Rat.divInt p0.2.2.1.1 p0.2.2.1.2) (Rat.divInt p0.2.2.2.1 p0.2.2.2.2) (Rat.divInt p1.1.1 p1.1.2) (Rat.divInt p1.2.1 p1.2.2)).2.2 else ((0, 0), (0, 0), (0, 0), false)))
@[simp] theorem sLiftC_at (a b c d e f g h : Int) (i j k l : Int) : sLiftC [.agg [eQ a b, eQ c d, eQ e f, eQ g h], .agg [eQ i j, eQ k l]] = (((I64 a ∧ I64 b) ∧ (I64 c ∧ I64 d) ∧ (I64 e ∧ I64 f) ∧ I64 g ∧ I64 h) ∧ ((I64 i ∧ I64 j) ∧ I64 k ∧ I64 l), v3T (if plOk a b c d e f g h ∧ (qOk i j ∧ qOk k l) then oV3 (lftQ (Rat.divInt a b) (Rat.divInt c d) (Rat.divInt e f) (Rat.divInt g h) (Rat.divInt i j) (Rat.divInt k l)).1 (lftQ (Rat.divInt a b) (Rat.divInt c d) (Rat.divInt e f) (Rat.divInt g h) (Rat.divInt i j) (Rat.divInt k l)).2.1 (lftQ (Rat.divInt a b) (Rat.divInt c d) (Rat.divInt e f) (Rat.divInt g h) (Rat.divInt i j) (Rat.divInt k l)).2.2 else ((0, 0), (0, 0), (0, 0), false))) := ct2_at ((a, b), (c, d), (e, f), g, h) ((i, j), k, l)
noncomputable def sLiftTb : List (FuncId × Ct) := [(9, .data sPlaneOkC), (14, .data l11PlaneC)]
theorem sLiftTb_ok : TbOK NF Try.prog (tbl sLiftTb) := tbl_cons (c := .data sPlaneOkC) sPlaneOk_spec sPlaneOk_ok (tbl_cons (c := .data l11PlaneC) l11Plane_spec l11Plane_ok tbl_nil)

@[simp] theorem sLiftTb1 : tbl sLiftTb 9 = some (.data sPlaneOkC) := rfl
@[simp] theorem sLiftTb3 : tbl sLiftTb 14 = some (.data l11PlaneC) := rfl
/-! i.PlaneOf -/
noncomputable def iPlaneOfC := ct3 EV3 EV3 EV3 (fun p0 p1 p2 => ((I64 p0.1.1 ∧ I64 p0.1.2) ∧ (I64 p0.2.1.1 ∧ I64 p0.2.1.2) ∧ I64 p0.2.2.1 ∧ I64 p0.2.2.2) ∧ ((I64 p1.1.1 ∧ I64 p1.1.2) ∧ (I64 p1.2.1.1 ∧ I64 p1.2.1.2) ∧ I64 p1.2.2.1 ∧ I64 p1.2.2.2) ∧ ((I64 p2.1.1 ∧ I64 p2.1.2) ∧ (I64 p2.2.1.1 ∧ I64 p2.2.1.2) ∧ I64 p2.2.2.1 ∧ I64 p2.2.2.2)) (fun p0 p1 p2 => plT (tldO (if v3Ok p0.1.1 p0.1.2 p0.2.1.1 p0.2.1.2 p0.2.2.1 p0.2.2.2 ∧ v3Ok p1.1.1 p1.1.2 p1.2.1.1 p1.2.1.2 p1.2.2.1 p1.2.2.2 ∧ v3Ok p2.1.1 p2.1.2 p2.2.1.1 p2.2.1.2 p2.2.2.1 p2.2.2.2 then throQ (Rat.divInt p0.1.1 p0.1.2) (Rat.divInt p0.2.1.1 p0.2.1.2) (Rat.divInt p0.2.2.1 p0.2.2.2) (Rat.divInt p1.1.1 p1.1.2) (Rat.divInt p1.2.1.1 p1.2.1.2) (Rat.divInt p1.2.2.1 p1.2.2.2) (Rat.divInt p2.1.1 p2.1.2) (Rat.divInt p2.2.1.1 p2.2.1.2) (Rat.divInt p2.2.2.1 p2.2.2.2) else none)))
@[simp] theorem iPlaneOfC_at (a b c d e f : Int) (g h i j k l : Int) (m n o p q r : Int) : iPlaneOfC [.agg [eQ a b, eQ c d, eQ e f], .agg [eQ g h, eQ i j, eQ k l], .agg [eQ m n, eQ o p, eQ q r]] = (((I64 a ∧ I64 b) ∧ (I64 c ∧ I64 d) ∧ I64 e ∧ I64 f) ∧ ((I64 g ∧ I64 h) ∧ (I64 i ∧ I64 j) ∧ I64 k ∧ I64 l) ∧ ((I64 m ∧ I64 n) ∧ (I64 o ∧ I64 p) ∧ I64 q ∧ I64 r), plT (tldO (if v3Ok a b c d e f ∧ v3Ok g h i j k l ∧ v3Ok m n o p q r then throQ (Rat.divInt a b) (Rat.divInt c d) (Rat.divInt e f) (Rat.divInt g h) (Rat.divInt i j) (Rat.divInt k l) (Rat.divInt m n) (Rat.divInt o p) (Rat.divInt q r) else none))) := ct3_at ((a, b), (c, d), e, f) ((g, h), (i, j), k, l) ((m, n), (o, p), q, r)
noncomputable def iPlaneOfTb : List (FuncId × Ct) := [(18, .data iV3OkC), (21, .data pv3C)]
theorem iPlaneOfTb_ok {N : NR} : TbOK N Try.prog (tbl iPlaneOfTb) := tbl_cons (c := .data iV3OkC) iV3Ok_spec iV3Ok_ok (tbl_cons (c := .data pv3C) pv3_spec pv3_ok tbl_nil)

@[simp] theorem iPlaneOfTb1 : tbl iPlaneOfTb 18 = some (.data iV3OkC) := rfl
@[simp] theorem iPlaneOfTb2 : tbl iPlaneOfTb 21 = some (.data pv3C) := rfl
/-! s.PlaneOf -/
noncomputable def sPlaneOfC := ct3 EV3 EV3 EV3 (fun p0 p1 p2 => ((I64 p0.1.1 ∧ I64 p0.1.2) ∧ (I64 p0.2.1.1 ∧ I64 p0.2.1.2) ∧ I64 p0.2.2.1 ∧ I64 p0.2.2.2) ∧ ((I64 p1.1.1 ∧ I64 p1.1.2) ∧ (I64 p1.2.1.1 ∧ I64 p1.2.1.2) ∧ I64 p1.2.2.1 ∧ I64 p1.2.2.2) ∧ ((I64 p2.1.1 ∧ I64 p2.1.2) ∧ (I64 p2.2.1.1 ∧ I64 p2.2.1.2) ∧ I64 p2.2.2.1 ∧ I64 p2.2.2.2)) (fun p0 p1 p2 => plT (tldO (if v3Ok p0.1.1 p0.1.2 p0.2.1.1 p0.2.1.2 p0.2.2.1 p0.2.2.2 ∧ v3Ok p1.1.1 p1.1.2 p1.2.1.1 p1.2.1.2 p1.2.2.1 p1.2.2.2 ∧ v3Ok p2.1.1 p2.1.2 p2.2.1.1 p2.2.1.2 p2.2.2.1 p2.2.2.2 then throQ (Rat.divInt p0.1.1 p0.1.2) (Rat.divInt p0.2.1.1 p0.2.1.2) (Rat.divInt p0.2.2.1 p0.2.2.2) (Rat.divInt p1.1.1 p1.1.2) (Rat.divInt p1.2.1.1 p1.2.1.2) (Rat.divInt p1.2.2.1 p1.2.2.2) (Rat.divInt p2.1.1 p2.1.2) (Rat.divInt p2.2.1.1 p2.2.1.2) (Rat.divInt p2.2.2.1 p2.2.2.2) else none)))
@[simp] theorem sPlaneOfC_at (a b c d e f : Int) (g h i j k l : Int) (m n o p q r : Int) : sPlaneOfC [.agg [eQ a b, eQ c d, eQ e f], .agg [eQ g h, eQ i j, eQ k l], .agg [eQ m n, eQ o p, eQ q r]] = (((I64 a ∧ I64 b) ∧ (I64 c ∧ I64 d) ∧ I64 e ∧ I64 f) ∧ ((I64 g ∧ I64 h) ∧ (I64 i ∧ I64 j) ∧ I64 k ∧ I64 l) ∧ ((I64 m ∧ I64 n) ∧ (I64 o ∧ I64 p) ∧ I64 q ∧ I64 r), plT (tldO (if v3Ok a b c d e f ∧ v3Ok g h i j k l ∧ v3Ok m n o p q r then throQ (Rat.divInt a b) (Rat.divInt c d) (Rat.divInt e f) (Rat.divInt g h) (Rat.divInt i j) (Rat.divInt k l) (Rat.divInt m n) (Rat.divInt o p) (Rat.divInt q r) else none))) := ct3_at ((a, b), (c, d), e, f) ((g, h), (i, j), k, l) ((m, n), (o, p), q, r)
noncomputable def sPlaneOfTb : List (FuncId × Ct) := [(10, .data sV3OkC), (15, .data l11pC)]
theorem sPlaneOfTb_ok : TbOK NF Try.prog (tbl sPlaneOfTb) := tbl_cons (c := .data sV3OkC) sV3Ok_spec sV3Ok_ok (tbl_cons (c := .data l11pC) l11p_spec l11p_ok tbl_nil)

@[simp] theorem sPlaneOfTb1 : tbl sPlaneOfTb 10 = some (.data sV3OkC) := rfl
@[simp] theorem sPlaneOfTb2 : tbl sPlaneOfTb 15 = some (.data l11pC) := rfl
end Go.Proofs.Ytmnplonkijkblaa.Ae

/-! The laws Drop, Side, Lift, PlaneOf. No condition. -/
namespace Go.Proofs.Ytmnplonkijkblaa.Ae
open Go Go.RowKit Go.Proofs.Ytmnplonkijkblaa.Dig

/-! l.toV3 -/
noncomputable def toV3C := ct1 EV3 (fun p0 => True) (fun p0 => [.agg [eQ p0.1.1 p0.1.2, eQ p0.2.1.1 p0.2.1.2, eQ p0.2.2.1 p0.2.2.2]])
@[simp] theorem toV3C_at (a b c d e f : Int) : toV3C [.agg [eQ a b, eQ c d, eQ e f]] = (True, [.agg [eQ a b, eQ c d, eQ e f]]) := ct1_at ((a, b), (c, d), e, f)
noncomputable def toV3Tb : List (FuncId × Ct) := [(16, .data toQC)]
theorem toV3Tb_ok {N : NR} : TbOK N Try.prog (tbl toV3Tb) := tbl_cons (c := .data toQC) toQ_spec toQ_ok tbl_nil

@[simp] theorem toV3Tb1 : tbl toV3Tb 16 = some (.data toQC) := rfl
theorem toV3_spec {N : NR} : SpecD N Try.prog 6 toV3C := by
  refine rd1 (mf := fun f => false) toV3Tb_ok (fn := Try.f6) (by kernel_rfl) rfl (by kernel_rfl) (by kernel_rfl) ?_
  rintro ⟨⟨a, b⟩, ⟨c, d⟩, e, f⟩ hp
  have hp : True := hp
  show awp _ _ _ _ (start _ ([.agg [eQ a b, eQ c d, eQ e f]].map .dat) []) (endK _ _ _ (([.agg [eQ a b, eQ c d, eQ e f]]).map .dat) [])
  simp [-D.isLit, Try.f6]
theorem toV3_ok : callable Try.prog 6 = true := by kernel_rfl

/-! l.toPlane -/
noncomputable def toPlaneC := ct1 EPl (fun p0 => True) (fun p0 => [.agg [eQ p0.1.1 p0.1.2, eQ p0.2.1.1 p0.2.1.2, eQ p0.2.2.1.1 p0.2.2.1.2, eQ p0.2.2.2.1 p0.2.2.2.2]])
@[simp] theorem toPlaneC_at (a b c d e f g h : Int) : toPlaneC [.agg [eQ a b, eQ c d, eQ e f, eQ g h]] = (True, [.agg [eQ a b, eQ c d, eQ e f, eQ g h]]) := ct1_at ((a, b), (c, d), (e, f), g, h)
noncomputable def toPlaneTb : List (FuncId × Ct) := [(16, .data toQC)]
theorem toPlaneTb_ok {N : NR} : TbOK N Try.prog (tbl toPlaneTb) := tbl_cons (c := .data toQC) toQ_spec toQ_ok tbl_nil

@[simp] theorem toPlaneTb1 : tbl toPlaneTb 16 = some (.data toQC) := rfl
theorem toPlane_spec {N : NR} : SpecD N Try.prog 5 toPlaneC := by
  refine rd1 (mf := fun f => false) toPlaneTb_ok (fn := Try.f5) (by kernel_rfl) rfl (by kernel_rfl) (by kernel_rfl) ?_
  rintro ⟨⟨a, b⟩, ⟨c, d⟩, ⟨e, f⟩, g, h⟩ hp
  have hp : True := hp
  show awp _ _ _ _ (start _ ([.agg [eQ a b, eQ c d, eQ e f, eQ g h]].map .dat) []) (endK _ _ _ (([.agg [eQ a b, eQ c d, eQ e f, eQ g h]]).map .dat) [])
  simp [-D.isLit, Try.f5]
theorem toPlane_ok : callable Try.prog 5 = true := by kernel_rfl

/-! l.eqV3 -/
noncomputable def eqV3C := ct2 EV3 EV3 (fun p0 p1 => p0.1.1 = p1.1.1 ∧ p0.1.2 = p1.1.2 ∧ p0.2.1.1 = p1.2.1.1 ∧ p0.2.1.2 = p1.2.1.2 ∧ p0.2.2.1 = p1.2.2.1 ∧ p0.2.2.2 = p1.2.2.2) (fun p0 p1 => [.lit (.bool true)])
@[simp] theorem eqV3C_at (a b c d e f : Int) (g h i j k l : Int) : eqV3C [.agg [eQ a b, eQ c d, eQ e f], .agg [eQ g h, eQ i j, eQ k l]] = (a = g ∧ b = h ∧ c = i ∧ d = j ∧ e = k ∧ f = l, [.lit (.bool true)]) := ct2_at ((a, b), (c, d), e, f) ((g, h), (i, j), k, l)
noncomputable def eqV3Tb : List (FuncId × Ct) := [(23, .data eqQC)]
theorem eqV3Tb_ok {N : NR} : TbOK N Try.prog (tbl eqV3Tb) := tbl_cons (c := .data eqQC) eqQ_spec eqQ_ok tbl_nil

@[simp] theorem eqV3Tb1 : tbl eqV3Tb 23 = some (.data eqQC) := rfl
/-! l.eqPlane -/
noncomputable def eqPlC := ct2 EPl EPl (fun p0 p1 => p0.1.1 = p1.1.1 ∧ p0.1.2 = p1.1.2 ∧ p0.2.1.1 = p1.2.1.1 ∧ p0.2.1.2 = p1.2.1.2 ∧ p0.2.2.1.1 = p1.2.2.1.1 ∧ p0.2.2.1.2 = p1.2.2.1.2 ∧ p0.2.2.2.1 = p1.2.2.2.1 ∧ p0.2.2.2.2 = p1.2.2.2.2) (fun p0 p1 => [.lit (.bool true)])
@[simp] theorem eqPlC_at (a b c d e f g h : Int) (i j k l m n o p : Int) : eqPlC [.agg [eQ a b, eQ c d, eQ e f, eQ g h], .agg [eQ i j, eQ k l, eQ m n, eQ o p]] = (a = i ∧ b = j ∧ c = k ∧ d = l ∧ e = m ∧ f = n ∧ g = o ∧ h = p, [.lit (.bool true)]) := ct2_at ((a, b), (c, d), (e, f), g, h) ((i, j), (k, l), (m, n), o, p)
noncomputable def eqPlTb : List (FuncId × Ct) := [(23, .data eqQC)]
theorem eqPlTb_ok {N : NR} : TbOK N Try.prog (tbl eqPlTb) := tbl_cons (c := .data eqQC) eqQ_spec eqQ_ok tbl_nil

@[simp] theorem eqPlTb1 : tbl eqPlTb 23 = some (.data eqQC) := rfl
/-! l.FnExactSide -/
noncomputable def lwSideC := ct2 EPl EV3 (fun p0 p1 => ((I64 p0.1.1 ∧ I64 p0.1.2) ∧ (I64 p0.2.1.1 ∧ I64 p0.2.1.2) ∧ (I64 p0.2.2.1.1 ∧ I64 p0.2.2.1.2) ∧ I64 p0.2.2.2.1 ∧ I64 p0.2.2.2.2) ∧ ((I64 p1.1.1 ∧ I64 p1.1.2) ∧ (I64 p1.2.1.1 ∧ I64 p1.2.1.2) ∧ I64 p1.2.2.1 ∧ I64 p1.2.2.2)) (fun p0 p1 => [.lit (.bool true)])
@[simp] theorem lwSideC_at (a b c d e f g h : Int) (i j k l m n : Int) : lwSideC [.agg [eQ a b, eQ c d, eQ e f, eQ g h], .agg [eQ i j, eQ k l, eQ m n]] = (((I64 a ∧ I64 b) ∧ (I64 c ∧ I64 d) ∧ (I64 e ∧ I64 f) ∧ I64 g ∧ I64 h) ∧ ((I64 i ∧ I64 j) ∧ (I64 k ∧ I64 l) ∧ I64 m ∧ I64 n), [.lit (.bool true)]) := ct2_at ((a, b), (c, d), (e, f), g, h) ((i, j), (k, l), m, n)
noncomputable def lwSideTb : List (FuncId × Ct) := [(5, .data toPlaneC), (6, .data toV3C)]
theorem lwSideTb_ok : TbOK NF Try.prog (tbl lwSideTb) := tbl_cons (c := .data toPlaneC) toPlane_spec toPlane_ok (tbl_cons (c := .data toV3C) toV3_spec toV3_ok tbl_nil)

@[simp] theorem lwSideTb1 : tbl lwSideTb 5 = some (.data toPlaneC) := rfl
@[simp] theorem lwSideTb2 : tbl lwSideTb 6 = some (.data toV3C) := rfl
/-! l.FnExactDrop -/
noncomputable def lwDropC := ct2 EPl EV3 (fun p0 p1 => ((I64 p0.1.1 ∧ I64 p0.1.2) ∧ (I64 p0.2.1.1 ∧ I64 p0.2.1.2) ∧ (I64 p0.2.2.1.1 ∧ I64 p0.2.2.1.2) ∧ I64 p0.2.2.2.1 ∧ I64 p0.2.2.2.2) ∧ ((I64 p1.1.1 ∧ I64 p1.1.2) ∧ (I64 p1.2.1.1 ∧ I64 p1.2.1.2) ∧ I64 p1.2.2.1 ∧ I64 p1.2.2.2)) (fun p0 p1 => [.lit (.bool true)])
@[simp] theorem lwDropC_at (a b c d e f g h : Int) (i j k l m n : Int) : lwDropC [.agg [eQ a b, eQ c d, eQ e f, eQ g h], .agg [eQ i j, eQ k l, eQ m n]] = (((I64 a ∧ I64 b) ∧ (I64 c ∧ I64 d) ∧ (I64 e ∧ I64 f) ∧ I64 g ∧ I64 h) ∧ ((I64 i ∧ I64 j) ∧ (I64 k ∧ I64 l) ∧ I64 m ∧ I64 n), [.lit (.bool true)]) := ct2_at ((a, b), (c, d), (e, f), g, h) ((i, j), (k, l), m, n)
noncomputable def lwDropTb : List (FuncId × Ct) := [(5, .data toPlaneC), (6, .data toV3C), (8, .data eqVC), (7, .data iDropC), (4, .data sDropC)]
theorem lwDropTb_ok : TbOK NF Try.prog (tbl lwDropTb) := tbl_cons (c := .data toPlaneC) toPlane_spec toPlane_ok (tbl_cons (c := .data toV3C) toV3_spec toV3_ok (tbl_cons (c := .data eqVC) eqV_spec eqV_ok (tbl_cons (c := .data iDropC) iDrop_spec iDrop_ok (tbl_cons (c := .data sDropC) sDrop_spec sDrop_ok tbl_nil))))

@[simp] theorem lwDropTb1 : tbl lwDropTb 5 = some (.data toPlaneC) := rfl
@[simp] theorem lwDropTb2 : tbl lwDropTb 6 = some (.data toV3C) := rfl
@[simp] theorem lwDropTb3 : tbl lwDropTb 8 = some (.data eqVC) := rfl
@[simp] theorem lwDropTb4 : tbl lwDropTb 7 = some (.data iDropC) := rfl
@[simp] theorem lwDropTb5 : tbl lwDropTb 4 = some (.data sDropC) := rfl
theorem lwDrop_spec : SpecD NF Try.prog 3 lwDropC := by
  refine rd2 (mf := fun f => false) lwDropTb_ok (fn := Try.f3) (by kernel_rfl) rfl (by kernel_rfl) (by kernel_rfl) ?_
  rintro ⟨⟨a, b⟩, ⟨c, d⟩, ⟨e, f⟩, g, h⟩ ⟨⟨i, j⟩, ⟨k, l⟩, m, n⟩ hp
  have hp : ((I64 a ∧ I64 b) ∧ (I64 c ∧ I64 d) ∧ (I64 e ∧ I64 f) ∧ I64 g ∧ I64 h) ∧ ((I64 i ∧ I64 j) ∧ (I64 k ∧ I64 l) ∧ I64 m ∧ I64 n) := hp
  show awp _ _ _ _ (start _ ([.agg [eQ a b, eQ c d, eQ e f, eQ g h], .agg [eQ i j, eQ k l, eQ m n]].map .dat) []) (endK _ _ _ (([.lit (.bool true)]).map .dat) [])
  have hi := iDropC_at a b c d e f g h i j k l m n
  have hs := sDropC_at a b c d e f g h i j k l m n
  generalize hX : (if plOk a b c d e f g h ∧ v3Ok i j k l m n then oV (drpQ (Rat.divInt c d) (Rat.divInt e f) (Rat.divInt i j) (Rat.divInt k l) (Rat.divInt m n)).1 (drpQ (Rat.divInt c d) (Rat.divInt e f) (Rat.divInt i j) (Rat.divInt k l) (Rat.divInt m n)).2 else ((0, 0), (0, 0), false)) = X at hi hs
  simp [-D.isLit, -iDropC_at, -sDropC_at, Try.f3, hp, hi, hs, vD]
theorem lwDrop_ok : callable Try.prog 3 = true := by kernel_rfl

/-! l.FnExactLift -/
noncomputable def lwLiftC := ct2 EPl EV (fun p0 p1 => ((I64 p0.1.1 ∧ I64 p0.1.2) ∧ (I64 p0.2.1.1 ∧ I64 p0.2.1.2) ∧ (I64 p0.2.2.1.1 ∧ I64 p0.2.2.1.2) ∧ I64 p0.2.2.2.1 ∧ I64 p0.2.2.2.2) ∧ ((I64 p1.1.1 ∧ I64 p1.1.2) ∧ I64 p1.2.1 ∧ I64 p1.2.2)) (fun p0 p1 => [.lit (.bool true)])
@[simp] theorem lwLiftC_at (a b c d e f g h : Int) (i j k l : Int) : lwLiftC [.agg [eQ a b, eQ c d, eQ e f, eQ g h], .agg [eQ i j, eQ k l]] = (((I64 a ∧ I64 b) ∧ (I64 c ∧ I64 d) ∧ (I64 e ∧ I64 f) ∧ I64 g ∧ I64 h) ∧ ((I64 i ∧ I64 j) ∧ I64 k ∧ I64 l), [.lit (.bool true)]) := ct2_at ((a, b), (c, d), (e, f), g, h) ((i, j), k, l)
noncomputable def lwLiftTb : List (FuncId × Ct) := [(5, .data toPlaneC)]
theorem lwLiftTb_ok : TbOK NF Try.prog (tbl lwLiftTb) := tbl_cons (c := .data toPlaneC) toPlane_spec toPlane_ok tbl_nil

@[simp] theorem lwLiftTb1 : tbl lwLiftTb 5 = some (.data toPlaneC) := rfl
/-! l.FnExactPlaneOf -/
noncomputable def lwPlaneOfC := ct3 EV3 EV3 EV3 (fun p0 p1 p2 => ((I64 p0.1.1 ∧ I64 p0.1.2) ∧ (I64 p0.2.1.1 ∧ I64 p0.2.1.2) ∧ I64 p0.2.2.1 ∧ I64 p0.2.2.2) ∧ ((I64 p1.1.1 ∧ I64 p1.1.2) ∧ (I64 p1.2.1.1 ∧ I64 p1.2.1.2) ∧ I64 p1.2.2.1 ∧ I64 p1.2.2.2) ∧ ((I64 p2.1.1 ∧ I64 p2.1.2) ∧ (I64 p2.2.1.1 ∧ I64 p2.2.1.2) ∧ I64 p2.2.2.1 ∧ I64 p2.2.2.2)) (fun p0 p1 p2 => [.lit (.bool true)])
@[simp] theorem lwPlaneOfC_at (a b c d e f : Int) (g h i j k l : Int) (m n o p q r : Int) : lwPlaneOfC [.agg [eQ a b, eQ c d, eQ e f], .agg [eQ g h, eQ i j, eQ k l], .agg [eQ m n, eQ o p, eQ q r]] = (((I64 a ∧ I64 b) ∧ (I64 c ∧ I64 d) ∧ I64 e ∧ I64 f) ∧ ((I64 g ∧ I64 h) ∧ (I64 i ∧ I64 j) ∧ I64 k ∧ I64 l) ∧ ((I64 m ∧ I64 n) ∧ (I64 o ∧ I64 p) ∧ I64 q ∧ I64 r), [.lit (.bool true)]) := ct3_at ((a, b), (c, d), e, f) ((g, h), (i, j), k, l) ((m, n), (o, p), q, r)
noncomputable def lwPlaneOfTb : List (FuncId × Ct) := [(6, .data toV3C)]
theorem lwPlaneOfTb_ok : TbOK NF Try.prog (tbl lwPlaneOfTb) := tbl_cons (c := .data toV3C) toV3_spec toV3_ok tbl_nil

@[simp] theorem lwPlaneOfTb1 : tbl lwPlaneOfTb 6 = some (.data toV3C) := rfl
theorem lwDrop_calls (a b c d e f g h i j k l m n : Int) (ha : (Lit.int .i64 a).wf = true) (hb : (Lit.int .i64 b).wf = true) (hc : (Lit.int .i64 c).wf = true) (hd : (Lit.int .i64 d).wf = true) (he : (Lit.int .i64 e).wf = true) (hf : (Lit.int .i64 f).wf = true) (hg : (Lit.int .i64 g).wf = true) (hh : (Lit.int .i64 h).wf = true) (hi : (Lit.int .i64 i).wf = true) (hj : (Lit.int .i64 j).wf = true) (hk : (Lit.int .i64 k).wf = true) (hl : (Lit.int .i64 l).wf = true) (hm : (Lit.int .i64 m).wf = true) (hn : (Lit.int .i64 n).wf = true) (w : World) :
    Calls Try.prog 3 #[.agg #[.int .i64 a, .int .i64 b, .int .i64 c, .int .i64 d, .int .i64 e, .int .i64 f, .int .i64 g, .int .i64 h], .agg #[.int .i64 i, .int .i64 j, .int .i64 k, .int .i64 l, .int .i64 m, .int .i64 n]] w fun e w' => e = .returned (.bool true) ∧ Below w.heap.size w w' :=
  law_calls lwDrop_spec (ds := [.agg [eQ a b, eQ c d, eQ e f, eQ g h], .agg [eQ i j, eQ k l, eQ m n]]) (by rw [lwDropC_at]; exact ⟨⟨⟨wf64 ha, wf64 hb⟩, ⟨wf64 hc, wf64 hd⟩, ⟨wf64 he, wf64 hf⟩, wf64 hg, wf64 hh⟩, ⟨⟨wf64 hi, wf64 hj⟩, ⟨wf64 hk, wf64 hl⟩, wf64 hm, wf64 hn⟩⟩) (by rw [lwDropC_at]; rfl) (vs := [.agg #[.int .i64 a, .int .i64 b, .int .i64 c, .int .i64 d, .int .i64 e, .int .i64 f, .int .i64 g, .int .i64 h], .agg #[.int .i64 i, .int .i64 j, .int .i64 k, .int .i64 l, .int .i64 m, .int .i64 n]]) (repVs_cons (repV_flat (cs := [.int .i64 a, .int .i64 b, .int .i64 c, .int .i64 d, .int .i64 e, .int .i64 f, .int .i64 g, .int .i64 h]) rfl (fun v hv => by simp at hv; rcases hv with rfl | rfl | rfl | rfl | rfl | rfl | rfl | rfl <;> rfl) rfl) (repVs_cons (repV_flat (cs := [.int .i64 i, .int .i64 j, .int .i64 k, .int .i64 l, .int .i64 m, .int .i64 n]) rfl (fun v hv => by simp at hv; rcases hv with rfl | rfl | rfl | rfl | rfl | rfl <;> rfl) rfl) repVs_nil))
end Go.Proofs.Ytmnplonkijkblaa.Ae
