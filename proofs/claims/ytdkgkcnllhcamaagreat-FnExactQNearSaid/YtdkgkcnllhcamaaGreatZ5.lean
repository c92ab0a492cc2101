/- Texts put together, in the order in which they build: L66, L67, L68, L69, S3, L70, S4, S5, T1, T40. No condition. -/
import Derived.Test.YtdkgkcnllhcamaaGreatZ4
import Derived.Below
import Derived.OpenShut
set_option linter.unusedVariables false
set_option linter.unusedSimpArgs false
/-! impl.rat: add, sub. No condition. -/
namespace Go.Proofs.YtdkgkcnllhcamaaGreat.Ae
open Go Go.RowKit Go.Proofs.YtdkgkcnllhcamaaGreat.Dig
variable {N : NR}

theorem rat_eq (a : Rat) : a = (a.num : Rat) / ((a.den : Int) : Rat) := by
  rw [← Rat.divInt_eq_div, Rat.num_divInt_den]
theorem den_rz (a : Rat) : ((a.den : Int) : Rat) ≠ 0 := by
  intro h
  exact dz a (by exact_mod_cast h)
theorem add_same {a b : Rat} (h : a.den = b.den) : a + b = Rat.divInt (a.num + b.num) a.den := by
  have h1 := rat_eq a
  have h2 := rat_eq b
  rw [← h] at h2
  rw [Rat.divInt_eq_div, Rat.intCast_add]
  have h3 := den_rz a
  grind
theorem sub_same {a b : Rat} (h : a.den = b.den) : a - b = Rat.divInt (a.num - b.num) a.den := by
  have h1 := rat_eq a
  have h2 := rat_eq b
  rw [← h] at h2
  rw [Rat.divInt_eq_div, Rat.intCast_sub]
  have h3 := den_rz a
  grind
theorem sub_divInt (a b : Rat) : a - b = Rat.divInt (a.num * b.den - b.num * a.den) (a.den * b.den) := by
  have := add_divInt a (-b)
  rw [Rat.neg_num, Rat.neg_den, Int.neg_mul, ← Int.sub_eq_add_neg, ← Rat.sub_eq_add_neg] at this
  exact this
noncomputable def raTb : List (FuncId × Ct) := [(53, .data littleC), (54, .data lowC), (58, .data bigIC), (89, .mut [true, false, false] bAddC), (64, .mut [true, false, false] bSubC), (56, .data fitC)]
theorem raTb_ok : TbOK N Tryz.prog (tbl raTb) := tbl_cons (c := .data littleC) little_spec little_ok (tbl_cons (c := .data lowC) low_spec low_ok (tbl_cons (c := .data bigIC) big_spec big_ok (tbl_cons (c := .mut [true, false, false] bAddC) RAdd_spec RAdd_ok (tbl_cons (c := .mut [true, false, false] bSubC) RSub_spec RSub_ok (tbl_cons (c := .data fitC) fit_spec fit_ok tbl_nil)))))

@[simp] theorem raTb1 : tbl raTb 53 = some (.data littleC) := rfl
@[simp] theorem raTb2 : tbl raTb 54 = some (.data lowC) := rfl
@[simp] theorem raTb3 : tbl raTb 58 = some (.data bigIC) := rfl
@[simp] theorem raTb4 : tbl raTb 89 = some (.mut [true, false, false] bAddC) := rfl
@[simp] theorem raTb5 : tbl raTb 64 = some (.mut [true, false, false] bSubC) := rfl
@[simp] theorem raTb6 : tbl raTb 56 = some (.data fitC) := rfl
def raMf : FuncId → Bool := fun f => f == 89 || f == 64 || f == 56
attribute [simp] raMf
theorem prod31 {n d : Int} (hn : n.natAbs < 2147483648) (hd : 0 < d ∧ d < 2147483648) : -4611686018427387904 < n * d ∧ n * d < 4611686018427387904 := prod_bd hn hd

noncomputable def raddC := ctD r2E (fun p => qsz p.a + qsz p.b < MX) (fun p => [eRat (p.a + p.b)])
theorem raddC_at (a b : Rat) : raddC [eRat a, eRat b] = (qsz a + qsz b < MX, [eRat (a + b)]) := ctD_at r2E_inj ⟨a, b⟩
noncomputable def rsubC := ctD r2E (fun p => qsz p.a + qsz p.b < MX) (fun p => [eRat (p.a - p.b)])
theorem rsubC_at (a b : Rat) : rsubC [eRat a, eRat b] = (qsz a + qsz b < MX, [eRat (a - b)]) := ctD_at r2E_inj ⟨a, b⟩
set_option maxHeartbeats 4000000 in
theorem rsub_spec : SpecD N Tryz.prog 27 rsubC := by
  refine rdD (mf := raMf) raTb_ok (fn := Tryz.f27) (by kernel_rfl) rfl (by kernel_rfl) ?_
  rintro ⟨a, b⟩ hq
  have hq : qsz a + qsz b < MX := hq
  refine ⟨by show 2 ≤ 62; decide, ?_⟩
  have c1 := littleC_at a
  have c2 := littleC_at b
  simp only [r2E, Tryz.f27, boolD] at c1 c2 ⊢
  by_cases hab : lit31 a ∧ lit31 b
  · obtain ⟨ha, hb⟩ := hab
    have sa := lit31_small ha
    have sb := lit31_small hb
    rw [eRat_s sa] at c1 ⊢
    rw [eRat_s sb] at c2 ⊢
    simp only [ha, hb, decide_true, i64D] at c1 c2
    unfold lit31 at ha hb
    have da := a.den_pos
    have db := b.den_pos
    have x1 := prod31 ha.1 (d := b.den) (by omega)
    have x2 := prod31 hb.1 (d := a.den) (by omega)
    have x3 := pos_bd (c := a.den) (d := b.den) (by omega) (by omega)
    have w1 : IntKind.i64.wrap (a.num - b.num) = a.num - b.num := i64_id _ (by omega) (by omega)
    have w2 : IntKind.i64.wrap (a.num * b.den) = a.num * b.den := i64_id _ (by omega) (by omega)
    have w3 : IntKind.i64.wrap (b.num * a.den) = b.num * a.den := i64_id _ (by omega) (by omega)
    have w4 : IntKind.i64.wrap ((a.den : Int) * b.den) = (a.den : Int) * b.den := i64_id _ (by omega) (by omega)
    have w5 : IntKind.i64.wrap (a.num * b.den - b.num * a.den) = a.num * b.den - b.num * a.den := i64_id _ (by omega) (by omega)
    by_cases hd : a.den = b.den
    · by_cases h1 : b.den = 1
      · have e := sub_same hd
        have hQ : QI (a.num - b.num) 1 := ⟨by omega, by simp, by omega, by omega⟩
        rw [hd, h1] at e
        rw [e]
        have e2 := eRat_QI hQ
        have e3 : Rat.divInt (a.num - b.num) ((1 : Nat) : Int) = Rat.divInt (a.num - b.num) 1 := rfl
        rw [e3, e2, hd, h1]
        rw [hd, h1] at c1
        rw [h1] at c2
        simp at c1 c2
        simp [i64D, c1, c2, w1]
      · have e := sub_same hd
        have c3 := lowC_at (a.num - b.num) b.den
        have b1 : (a.num - b.num).natAbs < 9223372036854775808 := by omega
        have b2 : 0 < (b.den : Int) := by omega
        have b3 : (b.den : Int) < 9223372036854775808 := by omega
        simp only [b1, b2, b3, and_self, i64D] at c3
        rw [e]
        rw [hd] at c1 ⊢
        have h1' : ¬ (b.den : Int) = 1 := by omega
        simp [i64D, c1, c2, c3, w1, h1, h1']
    · have c3 := lowC_at (a.num * b.den - b.num * a.den) ((a.den : Int) * b.den)
      have b1 : (a.num * b.den - b.num * a.den).natAbs < 9223372036854775808 := by omega
      have b2 : 0 < (a.den : Int) * b.den := by omega
      have b3 : (a.den : Int) * b.den < 9223372036854775808 := by omega
      simp only [b1, b2, b3, and_self, i64D] at c3
      rw [← sub_divInt] at c3
      generalize a - b = ab at *
      have h0 : ¬ ((a.den : Int) = 1 ∧ (b.den : Int) = 1) := by omega
      have h2 : ¬ (a.den : Int) = b.den := by omega
      generalize (a.den : Int) = d at *
      generalize (b.den : Int) = d' at *
      generalize a.num = n at *
      generalize b.num = n' at *
      by_cases h1 : d = 1
      · have h3 : ¬ d' = 1 := by omega
        subst h1
        simp at c1 c3 w3 w4 w5 h2
        simp [i64D, c1, c2, c3, w1, w2, w3, w4, w5, h2, h3]
      · simp [i64D, c1, c2, c3, w1, w2, w3, w4, w5, h1, h2]
  · have c3 := bigIC_at a
    have c4 := bigIC_at b
    have c5 := bSubC_at a b
    have c6 := fitC_at (a - b)
    have hs := qsz_sub a b
    have hs' : qsz (a - b) < 1099511627776 := by unfold MX at hq; omega
    simp only [hq, hs', eBN_eq] at c5 c6
    generalize a - b = ab at *
    by_cases ha : lit31 a
    · have hb : ¬ lit31 b := fun h => hab ⟨ha, h⟩
      simp only [ha, hb, decide_true, decide_false] at c1 c2
      simp [-D.isLit, c1, c2, c3, c4, c5, c6, List.idxOf_cons]
    · simp only [ha, decide_false] at c1
      simp [-D.isLit, c1, c3, c4, c5, c6, List.idxOf_cons]
theorem rsub_ok : callable Tryz.prog 27 = true := by kernel_rfl
end Go.Proofs.YtdkgkcnllhcamaaGreat.Ae

/-! impl.rat: inv, sign, q, floor, fromInt; math/bits.Mul64. No condition. -/
namespace Go.Proofs.YtdkgkcnllhcamaaGreat.Ae
open Go Go.RowKit Go.Proofs.YtdkgkcnllhcamaaGreat.Dig
variable {N : NR}

/-! sign -/
noncomputable def rsgC := ctD r1E (fun p => True) (fun p => [i64D p.a.num.sign])
theorem rsgC_at (a : Rat) : rsgC [eRat a] = (True, [i64D a.num.sign]) := ctD_at r1E_inj ⟨a⟩
noncomputable def rsgTb : List (FuncId × Ct) := [(91, .data bsgC)]
theorem rsgTb_ok : TbOK N Tryz.prog (tbl rsgTb) := tbl_cons (c := .data bsgC) RSign_spec RSign_ok tbl_nil

@[simp] theorem rsgTb1 : tbl rsgTb 91 = some (.data bsgC) := rfl
theorem rsign_spec : SpecD N Tryz.prog 65 rsgC := by
  refine rdD (mf := fun f => false) rsgTb_ok (fn := Tryz.f65) (by kernel_rfl) rfl (by kernel_rfl) ?_
  rintro ⟨a⟩ _
  refine ⟨by show 1 ≤ 17; decide, ?_⟩
  simp only [r1E, Tryz.f65]
  by_cases hs : smallQ a
  · rw [eRat_s hs]
    rcases Int.lt_trichotomy a.num 0 with h | h | h
    · rw [Int.sign_eq_neg_one_of_neg h]
      simp [i64D, h]
    · rw [h]
      simp [i64D]
    · rw [Int.sign_eq_one_of_pos h]
      have h1 : ¬ a.num < 0 := by omega
      simp [i64D, h, h1]
  · rw [eRat_b hs]
    have c1 := bsgC_at a
    simp only [i64D] at c1
    simp [i64D, c1]
theorem rsign_ok : callable Tryz.prog 65 = true := by kernel_rfl

/-! inv -/
noncomputable def rinvC := ctD r1E (fun p => qsz p.a < MX ∧ p.a ≠ 0) (fun p => [eRat p.a⁻¹])
theorem rinvC_at (a : Rat) : rinvC [eRat a] = ((qsz a < MX ∧ a ≠ 0), [eRat a⁻¹]) := ctD_at r1E_inj ⟨a⟩
noncomputable def rinvTb : List (FuncId × Ct) := [(88, .mut [true, false] bInvC), (56, .data fitC)]
theorem rinvTb_ok : TbOK N Tryz.prog (tbl rinvTb) := tbl_cons (c := .mut [true, false] bInvC) RInv_spec RInv_ok (tbl_cons (c := .data fitC) fit_spec fit_ok tbl_nil)

@[simp] theorem rinvTb1 : tbl rinvTb 88 = some (.mut [true, false] bInvC) := rfl
@[simp] theorem rinvTb2 : tbl rinvTb 56 = some (.data fitC) := rfl
theorem inv_pos {a : Rat} (h : 0 < a.num) : a⁻¹.num = a.den ∧ (a⁻¹.den : Int) = a.num := by
  have hr : Int.gcd a.den a.num = 1 := by rw [Int.gcd_comm]; exact a.reduced
  rw [inv_divInt]
  obtain ⟨e1, e2⟩ := low_pos (a := a.den) h
  rw [hr] at e1 e2
  rw [← e1, ← e2]
  simp
theorem inv_neg {a : Rat} (h : a.num < 0) : a⁻¹.num = -(a.den : Int) ∧ (a⁻¹.den : Int) = -a.num := by
  have hr : Int.gcd a.den a.num = 1 := by rw [Int.gcd_comm]; exact a.reduced
  rw [inv_divInt]
  obtain ⟨e1, e2⟩ := low_neg (a := a.den) h
  rw [hr] at e1 e2
  rw [← e1, ← e2]
  simp [Int.tdiv_neg]
theorem rinv_spec : SpecD N Tryz.prog 63 rinvC := by
  refine rdD (mf := fun f => f == 88 || f == 56) rinvTb_ok (fn := Tryz.f63) (by kernel_rfl) rfl (by kernel_rfl) ?_
  rintro ⟨a⟩ ⟨ha, h0⟩
  have ha : qsz a < MX := ha
  have h0 : a ≠ 0 := h0
  refine ⟨by show 1 ≤ 26; decide, ?_⟩
  simp only [r1E, Tryz.f63]
  have hn := num_ne h0
  have hd := a.den_pos
  by_cases hs : smallQ a
  · have hs' := hs
    unfold smallQ at hs'
    by_cases h : a.num < 0
    · obtain ⟨e1, e2⟩ := inv_neg h
      have hs2 : smallQ a⁻¹ := ⟨by omega, by omega⟩
      rw [eRat_s hs, eRat_s hs2, e1, e2]
      have w1 : IntKind.i64.wrap (-(a.den : Int)) = -(a.den : Int) := i64_id _ (by omega) (by omega)
      have w2 : IntKind.i64.wrap (-a.num) = -a.num := i64_id _ (by omega) (by omega)
      simp [i64D, h, w1, w2]
    · obtain ⟨e1, e2⟩ := inv_pos (a := a) (by omega)
      have hs2 : smallQ a⁻¹ := ⟨by omega, by omega⟩
      rw [eRat_s hs, eRat_s hs2, e1, e2]
      simp [i64D, h]
  · rw [eRat_b hs]
    have c1 := bInvC_at a
    have c2 := fitC_at a⁻¹
    have hq := qsz_inv h0
    have hq2 : qsz a⁻¹ < 1099511627776 := by unfold MX at ha; omega
    simp only [ha, h0, hq2, ne_eq, not_false_eq_true, and_self, eBN_eq] at c1 c2
    simp [-D.isLit, i64D, c1, c2]
theorem rinv_ok : callable Tryz.prog 63 = true := by kernel_rfl

/-! q -/
def MN : Int := 1000000000000000000
def isQ (q : Rat) : Prop := q.num.natAbs ≤ 1000000000000000000 ∧ q.den ≤ 1000000000000000000
instance (q : Rat) : Decidable (isQ q) := by unfold isQ; infer_instance
def oQ (q : Rat) : List D := if isQ q then [eQ q.num q.den, boolD true] else [eQ 0 0, boolD false]
noncomputable def rqqC := ctD r1E (fun p => True) (fun p => oQ p.a)
theorem rqqC_at (a : Rat) : rqqC [eRat a] = (True, oQ a) := ctD_at r1E_inj ⟨a⟩
theorem rqq_spec : SpecD N Tryz.prog 32 rqqC := by
  refine rdD (mf := fun f => false) tbl_nil (fn := Tryz.f32) (by kernel_rfl) rfl (by kernel_rfl) ?_
  rintro ⟨a⟩ _
  refine ⟨by show 1 ≤ 28; decide, ?_⟩
  simp only [r1E, Tryz.f32, boolD]
  by_cases hs : smallQ a
  · rw [eRat_s hs]
    unfold oQ
    by_cases hq : isQ a
    · rw [if_pos hq]
      unfold isQ at hq
      have h1 : ¬ a.num < -1000000000000000000 := by omega
      have h2 : ¬ 1000000000000000000 < a.num := by omega
      have h3 : ¬ (1000000000000000000 : Int) < a.den := by omega
      simp [i64D, eQ, boolD, h1, h2, h3]
    · rw [if_neg hq]
      unfold isQ at hq
      by_cases h1 : a.num < -1000000000000000000
      · simp [i64D, eQ, boolD, h1]
      · by_cases h2 : 1000000000000000000 < a.num
        · simp [i64D, eQ, boolD, h1, h2]
        · have h3 : (1000000000000000000 : Int) < a.den := by omega
          simp [i64D, eQ, boolD, h1, h2, h3]
  · have hq : ¬ isQ a := by unfold smallQ at hs; unfold isQ; omega
    unfold oQ
    rw [eRat_b hs, if_neg hq]
    simp [i64D, eQ, boolD]
theorem rqq_ok : callable Tryz.prog 32 = true := by kernel_rfl

/-! floor, fromInt -/
noncomputable def rflC := ctD r1E (fun p => qsz p.a < MX) (fun p => [.ptr (eZ p.a.floor)])
theorem rflC_at (a : Rat) : rflC [eRat a] = (qsz a < MX, [.ptr (eZ a.floor)]) := ctD_at r1E_inj ⟨a⟩
noncomputable def rflTb : List (FuncId × Ct) := [(58, .data bigIC), (60, .data numC), (61, .data denC), (59, .mut [true, false, false] idC)]
theorem rflTb_ok : TbOK N Tryz.prog (tbl rflTb) := tbl_cons (c := .data bigIC) big_spec big_ok (tbl_cons (c := .data numC) Num_spec Num_ok (tbl_cons (c := .data denC) Denom_spec Denom_ok (tbl_cons (c := .mut [true, false, false] idC) Div_spec Div_ok tbl_nil)))

@[simp] theorem rflTb1 : tbl rflTb 58 = some (.data bigIC) := rfl
@[simp] theorem rflTb2 : tbl rflTb 60 = some (.data numC) := rfl
@[simp] theorem rflTb3 : tbl rflTb 61 = some (.data denC) := rfl
@[simp] theorem rflTb4 : tbl rflTb 59 = some (.mut [true, false, false] idC) := rfl
theorem rfloor_spec : SpecD N Tryz.prog 24 rflC := by
  refine rdD (mf := fun f => f == 59) rflTb_ok (fn := Tryz.f24) (by kernel_rfl) rfl (by kernel_rfl) ?_
  rintro ⟨a⟩ ha
  have ha : qsz a < MX := ha
  have ha' : qsz a < 1099511627776 := by unfold MX at ha; omega
  refine ⟨by show 1 ≤ 12; decide, ?_⟩
  have c1 := bigIC_at a
  have c2 := numC_at a
  have c3 := denC_at a
  have c4 := idC_at a.num a.den .new
  simp only [ha', SZ_num ha', SZ_den ha', dz a, ne_eq, not_false_eq_true, and_self, eB_new] at c2 c3 c4
  simp only [r1E, Tryz.f24, Rat.floor_def]
  simp [c1, c2, c3, c4]
theorem rfloor_ok : callable Tryz.prog 24 = true := by kernel_rfl
noncomputable def fiC := ctD pE (fun p => ln p.a.natAbs < MX) (fun p => [eRat (p.a : Rat)])
theorem fiC_at (a : Int) : fiC [.ptr (eZ a)] = (ln a.natAbs < MX, [eRat (a : Rat)]) := ctD_at pE_inj ⟨a⟩
noncomputable def fiTb : List (FuncId × Ct) := [(62, .mut [true, false] siC), (56, .data fitC)]
theorem fiTb_ok : TbOK N Tryz.prog (tbl fiTb) := tbl_cons (c := .mut [true, false] siC) SetInt_spec SetInt_ok (tbl_cons (c := .data fitC) fit_spec fit_ok tbl_nil)

@[simp] theorem fiTb1 : tbl fiTb 62 = some (.mut [true, false] siC) := rfl
@[simp] theorem fiTb2 : tbl fiTb 56 = some (.data fitC) := rfl
theorem qsz_int (a : Int) : qsz (a : Rat) = max (ln a.natAbs) 1 := by unfold qsz; rw [Rat.num_intCast, Rat.den_intCast, ln_one]
theorem fromInt_spec : SpecD N Tryz.prog 25 fiC := by
  refine rdD (mf := fun f => f == 62 || f == 56) fiTb_ok (fn := Tryz.f25) (by kernel_rfl) rfl (by kernel_rfl) ?_
  rintro ⟨a⟩ ha
  have ha : ln a.natAbs < MX := ha
  unfold MX at ha
  refine ⟨by show 1 ≤ 7; decide, ?_⟩
  have c1 := siC_at a
  have c2 := fitC_at (a : Rat)
  have h1 : SZ a := by rw [SZ_ln]; omega
  have h2 : qsz (a : Rat) < 1099511627776 := by rw [qsz_int]; omega
  simp only [h1, h2, eBN_eq] at c1 c2
  simp only [pE, Tryz.f25]
  simp [-D.isLit, c1, c2]
theorem fromInt_ok : callable Tryz.prog 25 = true := by kernel_rfl

/-! Mul64 -/
noncomputable def m64C := ctD uuE (fun p => p.a < 18446744073709551616 ∧ p.b < 18446744073709551616) (fun p => [u64D (p.a * p.b / 18446744073709551616), u64D (p.a * p.b % 18446744073709551616)])
theorem m64C_at (a b : Nat) : m64C [u64D a, u64D b] = ((a < 18446744073709551616 ∧ b < 18446744073709551616), [u64D (a * b / 18446744073709551616), u64D (a * b % 18446744073709551616)]) := ctD_at uuE_inj ⟨a, b⟩
theorem and32 (x : Nat) (h : x < 18446744073709551616) : bAnd .u64 x 4294967295 = ((x % 4294967296 : Nat) : Int) := by
  have := bAnd64 x 4294967295 h (by decide)
  rw [show (x &&& 4294967295) = x % 4294967296 from Nat.and_two_pow_sub_one_eq_mod x 32] at this
  exact this
theorem mul_split (x1 x0 y1 y0 : Nat) : (x1 * 4294967296 + x0) * (y1 * 4294967296 + y0) = x1 * y1 * 18446744073709551616 + (x1 * y0 + x0 * y1) * 4294967296 + x0 * y0 := by
  grind
theorem bd32 {x y : Nat} (hx : x < 4294967296) (hy : y < 4294967296) : x * y ≤ 18446744065119617025 := by
  have := Nat.mul_le_mul (show x ≤ 4294967295 by omega) (show y ≤ 4294967295 by omega)
  omega
theorem Mul64_spec : SpecD N Tryz.prog 55 m64C := by
  refine rdD (mf := fun f => false) tbl_nil (fn := Tryz.f55) (by kernel_rfl) rfl (by kernel_rfl) ?_
  rintro ⟨x, y⟩ ⟨hx, hy⟩
  have hx : x < 18446744073709551616 := hx
  have hy : y < 18446744073709551616 := hy
  refine ⟨by show 2 ≤ 51; decide, ?_⟩
  simp only [uuE, u64D, Tryz.f55]
  have a1 := and32 x hx
  have a2 := and32 y hy
  have d1 : (x : Int) / 4294967296 = ((x / 4294967296 : Nat) : Int) := by omega
  have d2 : (y : Int) / 4294967296 = ((y / 4294967296 : Nat) : Int) := by omega
  have e := mul_split (x / 4294967296) (x % 4294967296) (y / 4294967296) (y % 4294967296)
  rw [Nat.div_add_mod', Nat.div_add_mod'] at e
  obtain ⟨x1, hx1⟩ : ∃ x1, x1 = x / 4294967296 := ⟨_, rfl⟩
  obtain ⟨x0, hx0⟩ : ∃ x0, x0 = x % 4294967296 := ⟨_, rfl⟩
  obtain ⟨y1, hy1⟩ : ∃ y1, y1 = y / 4294967296 := ⟨_, rfl⟩
  obtain ⟨y0, hy0⟩ : ∃ y0, y0 = y % 4294967296 := ⟨_, rfl⟩
  rw [← hx1, ← hx0, ← hy1, ← hy0] at e
  rw [← hx0] at a1
  rw [← hy0] at a2
  rw [← hx1] at d1
  rw [← hy1] at d2
  have b00 := bd32 (x := x0) (y := y0) (by omega) (by omega)
  have b10 := bd32 (x := x1) (y := y0) (by omega) (by omega)
  have b01 := bd32 (x := x0) (y := y1) (by omega) (by omega)
  have b11 := bd32 (x := x1) (y := y1) (by omega) (by omega)
  clear hx1 hx0 hy1 hy0
  have m0 : ((x0 : Int) * y0) = ((x0 * y0 : Nat) : Int) := by rw [Int.natCast_mul]
  have m1 : ((x1 : Int) * y0) = ((x1 * y0 : Nat) : Int) := by rw [Int.natCast_mul]
  have m2 : ((x0 : Int) * y1) = ((x0 * y1 : Nat) : Int) := by rw [Int.natCast_mul]
  have m3 : ((x1 : Int) * y1) = ((x1 * y1 : Nat) : Int) := by rw [Int.natCast_mul]
  have m4 : ((x : Int) * y) = ((x * y : Nat) : Int) := by rw [Int.natCast_mul]
  generalize x * y = p at *
  generalize x0 * y0 = p00 at *
  generalize x1 * y0 = p10 at *
  generalize x0 * y1 = p01 at *
  generalize x1 * y1 = p11 at *
  have w0 : IntKind.u64.wrap (p00 : Int) = p00 := u64_id _ (by omega) (by omega)
  have w1 : IntKind.u64.wrap (p10 : Int) = p10 := u64_id _ (by omega) (by omega)
  have w2 : IntKind.u64.wrap (p01 : Int) = p01 := u64_id _ (by omega) (by omega)
  have w3 : IntKind.u64.wrap (p11 : Int) = p11 := u64_id _ (by omega) (by omega)
  have d3 : (p00 : Int) / 4294967296 = ((p00 / 4294967296 : Nat) : Int) := by omega
  obtain ⟨t, ht⟩ : ∃ t, t = p10 + p00 / 4294967296 := ⟨_, rfl⟩
  have w4 : IntKind.u64.wrap ((p10 : Int) + ((p00 / 4294967296 : Nat) : Int)) = (t : Int) := by rw [u64_id _ (by omega) (by omega)]; omega
  have a3 := and32 t (by omega)
  have d4 : (t : Int) / 4294967296 = ((t / 4294967296 : Nat) : Int) := by omega
  obtain ⟨v, hv⟩ : ∃ v, v = t % 4294967296 + p01 := ⟨_, rfl⟩
  have w5 : IntKind.u64.wrap (((t % 4294967296 : Nat) : Int) + (p01 : Int)) = (v : Int) := by rw [u64_id _ (by omega) (by omega)]; omega
  have d5 : (v : Int) / 4294967296 = ((v / 4294967296 : Nat) : Int) := by omega
  have w6 : IntKind.u64.wrap ((p11 : Int) + ((t / 4294967296 : Nat) : Int)) = ((p11 + t / 4294967296 : Nat) : Int) := by rw [u64_id _ (by omega) (by omega)]; omega
  have w7 : IntKind.u64.wrap (((p11 + t / 4294967296 : Nat) : Int) + ((v / 4294967296 : Nat) : Int)) = ((p / 18446744073709551616 : Nat) : Int) := by rw [u64_id _ (by omega) (by omega)]; omega
  have w8 : IntKind.u64.wrap (p : Int) = ((p % 18446744073709551616 : Nat) : Int) := by rw [wrap_u64]; omega
  generalize p / 18446744073709551616 = hi at *
  generalize p % 18446744073709551616 = lo at *
  generalize p11 + t / 4294967296 = u at *
  generalize v / 4294967296 = v1 at *
  generalize t / 4294967296 = t1 at *
  generalize t % 4294967296 = t0 at *
  generalize p00 / 4294967296 = q0 at *
  simp [a1, a2, a3, d1, d2, d3, d4, d5, m0, m1, m2, m3, m4, w0, w1, w2, w3, w4, w5, w6, w7, w8]
theorem Mul64_ok : callable Tryz.prog 55 = true := by kernel_rfl
end Go.Proofs.YtdkgkcnllhcamaaGreat.Ae

/-! impl.rat: mul, div. No condition. -/
namespace Go.Proofs.YtdkgkcnllhcamaaGreat.Ae
open Go Go.RowKit Go.Proofs.YtdkgkcnllhcamaaGreat.Dig
variable {N : NR}

theorem mul_low (a b : Rat) : (a * b).num = (a.num.tdiv (Nat.gcd a.num.natAbs b.den)) * (b.num.tdiv (Nat.gcd b.num.natAbs a.den)) ∧ (a * b).den = (a.den / Nat.gcd b.num.natAbs a.den) * (b.den / Nat.gcd a.num.natAbs b.den) := by
  have h1 : (Nat.gcd a.num.natAbs b.den : Int) ∣ a.num := Int.ofNat_dvd_left.2 (Nat.gcd_dvd_left _ _)
  have h2 : (Nat.gcd b.num.natAbs a.den : Int) ∣ b.num := Int.ofNat_dvd_left.2 (Nat.gcd_dvd_left _ _)
  rw [Int.tdiv_eq_ediv_of_dvd h1, Int.tdiv_eq_ediv_of_dvd h2]
  show (Rat.mul a b).num = _ ∧ (Rat.mul a b).den = _
  unfold Rat.mul
  simp
noncomputable def rmC := ctD r2E (fun p => qsz p.a + qsz p.b < MX) (fun p => [eRat (p.a * p.b)])
theorem rmC_at (a b : Rat) : rmC [eRat a, eRat b] = (qsz a + qsz b < MX, [eRat (a * b)]) := ctD_at r2E_inj ⟨a, b⟩
noncomputable def rmTb : List (FuncId × Ct) := [(53, .data littleC), (54, .data lowC), (58, .data bigIC), (57, .mut [true, false, false] bMulC), (56, .data fitC), (23, .data riC), (52, .data absC), (51, .data gcdC), (55, .data m64C)]
theorem rmTb_ok : TbOK N Tryz.prog (tbl rmTb) := tbl_cons (c := .data littleC) little_spec little_ok (tbl_cons (c := .data lowC) low_spec low_ok (tbl_cons (c := .data bigIC) big_spec big_ok (tbl_cons (c := .mut [true, false, false] bMulC) RMul_spec RMul_ok (tbl_cons (c := .data fitC) fit_spec fit_ok (tbl_cons (c := .data riC) ri_spec ri_ok (tbl_cons (c := .data absC) abs64_spec abs64_ok (tbl_cons (c := .data gcdC) gcd64_spec gcd64_ok (tbl_cons (c := .data m64C) Mul64_spec Mul64_ok tbl_nil))))))))

@[simp] theorem rmTb1 : tbl rmTb 53 = some (.data littleC) := rfl
@[simp] theorem rmTb2 : tbl rmTb 54 = some (.data lowC) := rfl
@[simp] theorem rmTb3 : tbl rmTb 58 = some (.data bigIC) := rfl
@[simp] theorem rmTb4 : tbl rmTb 57 = some (.mut [true, false, false] bMulC) := rfl
@[simp] theorem rmTb5 : tbl rmTb 56 = some (.data fitC) := rfl
@[simp] theorem rmTb6 : tbl rmTb 23 = some (.data riC) := rfl
@[simp] theorem rmTb7 : tbl rmTb 52 = some (.data absC) := rfl
@[simp] theorem rmTb8 : tbl rmTb 51 = some (.data gcdC) := rfl
@[simp] theorem rmTb9 : tbl rmTb 55 = some (.data m64C) := rfl
/-- What the third way of mul reckons with: the parts without what divides both. -/
theorem mul_way {n n' : Int} {d d' g h : Nat} (hg : g = Nat.gcd n.natAbs d') (hh : h = Nat.gcd n'.natAbs d) (hd : 0 < d) (hd' : 0 < d') (hn : n.natAbs < 9223372036854775808) (hn' : n'.natAbs < 9223372036854775808) (hdl : d < 9223372036854775808) (hdl' : d' < 9223372036854775808) :
    0 < g ∧ 0 < h ∧ g < 9223372036854775808 ∧ h < 9223372036854775808 ∧ (n.tdiv g).natAbs < 9223372036854775808 ∧ (n'.tdiv h).natAbs < 9223372036854775808 ∧ Int.tdiv d h = ((d / h : Nat) : Int) ∧ Int.tdiv d' g = ((d' / g : Nat) : Int) ∧ d / h < 9223372036854775808 ∧ d' / g < 9223372036854775808 := by
  have g1 : 0 < g := by rw [hg]; exact Nat.gcd_pos_of_pos_right _ hd'
  have h1 : 0 < h := by rw [hh]; exact Nat.gcd_pos_of_pos_right _ hd
  have g2 : g ≤ d' := by rw [hg]; exact Nat.le_of_dvd hd' (Nat.gcd_dvd_right _ _)
  have h2 : h ≤ d := by rw [hh]; exact Nat.le_of_dvd hd (Nat.gcd_dvd_right _ _)
  have b1 : (n.tdiv g).natAbs ≤ n.natAbs := by rw [Int.natAbs_tdiv]; exact Nat.div_le_self _ _
  have b2 : (n'.tdiv h).natAbs ≤ n'.natAbs := by rw [Int.natAbs_tdiv]; exact Nat.div_le_self _ _
  have b3 := Nat.div_le_self d h
  have b4 := Nat.div_le_self d' g
  exact ⟨g1, h1, by omega, by omega, by omega, by omega, tdiv_nat d h, tdiv_nat d' g, by omega, by omega⟩
theorem sign_prod (x y : Int) (h : (x * y).natAbs < 9223372036854775808) : (if (decide (x < 0) != decide (y < 0)) = true then IntKind.i64.wrap (-((x.natAbs * y.natAbs : Nat) : Int)) else ((x.natAbs * y.natAbs : Nat) : Int)) = x * y := by
  rw [← Int.natAbs_mul]
  by_cases hx : x < 0 <;> by_cases hy : y < 0
  · have := Int.mul_pos_of_neg_of_neg hx hy
    simp [hx, hy]; omega
  · have : x * y ≤ 0 := Int.mul_nonpos_of_nonpos_of_nonneg (by omega) (by omega)
    simp [hx, hy]
    rw [i64_id _ (by omega) (by omega)]; omega
  · have : x * y ≤ 0 := Int.mul_nonpos_of_nonneg_of_nonpos (by omega) (by omega)
    simp [hx, hy]
    rw [i64_id _ (by omega) (by omega)]; omega
  · have : 0 ≤ x * y := Int.mul_nonneg (by omega) (by omega)
    simp [hx, hy]; omega
def rmMf : FuncId → Bool := fun f => f == 57 || f == 56
attribute [simp] rmMf
set_option maxRecDepth 100000 in
set_option maxHeartbeats 8000000 in
theorem rmul_spec : SpecD N Tryz.prog 22 rmC := by
  refine rdD (mf := rmMf) rmTb_ok (fn := Tryz.f22) (by kernel_rfl) rfl (by kernel_rfl) ?_
  rintro ⟨a, b⟩ hq
  have hq : qsz a + qsz b < MX := hq
  refine ⟨by show 2 ≤ 146; decide, ?_⟩
  simp only [r2E, Tryz.f22]
  have d1 := bigIC_at a
  have d2 := bigIC_at b
  have d3 := bMulC_at a b
  have d4 := fitC_at (a * b)
  have hs := qsz_mul a b
  have hs' : qsz (a * b) < 1099511627776 := by unfold MX at hq; omega
  simp only [hq, hs', eBN_eq] at d3 d4
  by_cases hab : smallQ a ∧ smallQ b
  · obtain ⟨sa, sb⟩ := hab
    by_cases hz : a.num = 0 ∨ b.num = 0
    · have e : a * b = ((0 : Int) : Rat) := by
        rw [mul_divInt]
        have : a.num * b.num = 0 := by rcases hz with h | h <;> rw [h] <;> simp
        rw [this]; simp
      have c1 := riC_at 0
      simp [i64D] at c1
      rw [e, eRat_s sa, eRat_s sb]
      by_cases h0 : a.num = 0
      · simp [i64D, h0, c1]
      · have h1 : b.num = 0 := by rcases hz with h | h; exact absurd h h0; exact h
        simp [i64D, h0, h1, c1]
    · have z1 : ¬ a.num = 0 := fun h => hz (.inl h)
      have z2 : ¬ b.num = 0 := fun h => hz (.inr h)
      have c1 := littleC_at a
      have c2 := littleC_at b
      have da := a.den_pos
      have db := b.den_pos
      by_cases hl : lit31 a ∧ lit31 b
      · obtain ⟨ha, hb⟩ := hl
        rw [eRat_s sa] at c1 ⊢
        rw [eRat_s sb] at c2 ⊢
        simp only [ha, hb, decide_true, boolD, i64D] at c1 c2
        unfold lit31 at ha hb
        have x1 : -4611686018427387904 < a.num * b.num ∧ a.num * b.num < 4611686018427387904 := by
          have h1 : (a.num * b.num).natAbs ≤ 2147483647 * 2147483647 := by rw [Int.natAbs_mul]; exact Nat.mul_le_mul (by omega) (by omega)
          omega
        have x3 := pos_bd (c := a.den) (d := b.den) (by omega) (by omega)
        have w1 : IntKind.i64.wrap (a.num * b.num) = a.num * b.num := i64_id _ (by omega) (by omega)
        have w4 : IntKind.i64.wrap ((a.den : Int) * b.den) = (a.den : Int) * b.den := i64_id _ (by omega) (by omega)
        have c3 := lowC_at (a.num * b.num) ((a.den : Int) * b.den)
        have b1 : (a.num * b.num).natAbs < 9223372036854775808 := by omega
        have b2 : 0 < (a.den : Int) * b.den := by omega
        have b3 : (a.den : Int) * b.den < 9223372036854775808 := by omega
        simp only [b1, b2, b3, and_self, i64D] at c3
        rw [← mul_divInt] at c3
        by_cases h1 : a.den = 1 ∧ b.den = 1
        · obtain ⟨h1, h2⟩ := h1
          have hQ : QI (a.num * b.num) 1 := ⟨by omega, by simp, by omega, by omega⟩
          have e2 := eRat_QI hQ
          have e3 : a * b = Rat.divInt (a.num * b.num) 1 := by rw [mul_divInt, h1, h2]; rfl
          rw [e3, e2]
          rw [h1] at c1 ⊢
          rw [h2] at c2 ⊢
          simp at c1 c2
          simp [i64D, c1, c2, w1, z1, z2]
        · generalize a * b = ab at *
          by_cases h2 : a.den = 1
          · have h3 : ¬ b.den = 1 := fun h => h1 ⟨h2, h⟩
            have h3' : ¬ (b.den : Int) = 1 := by omega
            rw [h2] at c1 c3 w4 ⊢
            simp at c1 c3 w4
            simp [i64D, c1, c2, c3, w1, w4, z1, z2, h3, h3']
          · have h2' : ¬ (a.den : Int) = 1 := by omega
            simp [i64D, c1, c2, c3, w1, w4, z1, z2, h2, h2']
      · have hlit : ((decide (lit31 a)) && decide (lit31 b)) = false := by
          rw [← Bool.decide_and]
          exact decide_eq_false hl
        obtain ⟨m1, m2⟩ := mul_low a b
        obtain ⟨g, hg⟩ : ∃ g, g = Nat.gcd a.num.natAbs b.den := ⟨_, rfl⟩
        obtain ⟨h, hh⟩ : ∃ h, h = Nat.gcd b.num.natAbs a.den := ⟨_, rfl⟩
        have sa' := sa
        have sb' := sb
        unfold smallQ at sa' sb'
        obtain ⟨q1, q2, q3, q4, q5, q6, q7, q8, q9, q10⟩ := mul_way hg hh da db sa'.1 sb'.1 sa'.2 sb'.2
        rw [← hg, ← hh] at m1 m2
        have g1 := absC_at a.num
        have g2 := absC_at b.num
        have g3 := gcdC_at a.num.natAbs b.den
        have g4 := gcdC_at b.num.natAbs a.den
        have i1 : I64 a.num := by unfold I64; omega
        have i2 : I64 b.num := by unfold I64; omega
        have i3 : a.num.natAbs < 18446744073709551616 := by omega
        have i4 : b.num.natAbs < 18446744073709551616 := by omega
        have i5 : a.den < 18446744073709551616 := by omega
        have i6 : b.den < 18446744073709551616 := by omega
        rw [← hg] at g3
        rw [← hh] at g4
        simp only [i1, i2, i3, i4, i5, i6, and_self, u64D, i64D] at g1 g2 g3 g4
        have w1 : IntKind.u64.wrap (a.den : Int) = a.den := u64_id _ (by omega) (by omega)
        have w2 : IntKind.u64.wrap (b.den : Int) = b.den := u64_id _ (by omega) (by omega)
        have w3 : IntKind.i64.wrap (g : Int) = g := i64_id _ (by omega) (by omega)
        have w4 : IntKind.i64.wrap (h : Int) = h := i64_id _ (by omega) (by omega)
        have hgz : ¬ g = 0 := by omega
        have hhz : ¬ h = 0 := by omega
        rw [eRat_s sa] at c1 d1 ⊢
        rw [eRat_s sb] at c2 d2 ⊢
        simp only [boolD, i64D] at c1 c2 d1 d2 ⊢
        have hsm : smallQ (a * b) ↔ (a.num.tdiv g).natAbs * (b.num.tdiv h).natAbs < 9223372036854775808 ∧ a.den / h * (b.den / g) < 9223372036854775808 := by
          unfold smallQ
          rw [m1, m2, Int.natAbs_mul]
        have heR := fun hh => eRat_s (q := a * b) hh
        rw [m1, m2] at heR
        clear m1 m2 hg hh sa' sb' i1 i2 i3 i4 i5 i6 hz hs hs' hq sa sb hl
        generalize decide (lit31 a) = la at *
        generalize decide (lit31 b) = lb at *
        generalize eBR a = ba at *
        generalize eBR b = bb at *
        generalize a * b = ab at *
        generalize hX : a.num.tdiv g = x at *
        generalize hY : b.num.tdiv h = y at *
        generalize a.den / h = u at *
        generalize b.den / g = v at *
        have w5 : IntKind.i64.wrap x = x := i64_id _ (by omega) (by omega)
        have w6 : IntKind.i64.wrap y = y := i64_id _ (by omega) (by omega)
        have w7 : IntKind.i64.wrap (u : Int) = u := i64_id _ (by omega) (by omega)
        have w8 : IntKind.i64.wrap (v : Int) = v := i64_id _ (by omega) (by omega)
        have w9 : IntKind.u64.wrap (u : Int) = u := u64_id _ (by omega) (by omega)
        have w10 : IntKind.u64.wrap (v : Int) = v := u64_id _ (by omega) (by omega)
        have j1 := absC_at x
        have j2 := absC_at y
        have j3 := m64C_at x.natAbs y.natAbs
        have j4 := m64C_at u v
        have k1 : I64 x := by unfold I64; omega
        have k2 : I64 y := by unfold I64; omega
        have k3 : x.natAbs < 18446744073709551616 := by omega
        have k4 : y.natAbs < 18446744073709551616 := by omega
        have k5 : u < 18446744073709551616 := by omega
        have k6 : v < 18446744073709551616 := by omega
        simp only [k1, k2, k3, k4, k5, k6, and_self, i64D, u64D] at j1 j2 j3 j4
        have sp := sign_prod x y
        rw [Int.natAbs_mul] at sp
        obtain ⟨P, hP⟩ : ∃ P, P = x.natAbs * y.natAbs := ⟨_, rfl⟩
        obtain ⟨R, hR⟩ : ∃ R, R = u * v := ⟨_, rfl⟩
        rw [← hP] at j3 sp hsm
        rw [← hR] at j4 hsm
        have fin : P / 18446744073709551616 = 0 → R / 18446744073709551616 = 0 → P % 18446744073709551616 < 9223372036854775808 → R % 18446744073709551616 < 9223372036854775808 →
            ∃ s : Int, (if (decide (x < 0) != decide (y < 0)) = true then IntKind.i64.wrap (-IntKind.i64.wrap ((P % 18446744073709551616 : Nat) : Int)) else IntKind.i64.wrap ((P % 18446744073709551616 : Nat) : Int)) = s ∧ eRat ab = .agg [.lit (.int .i64 s), .lit (.int .i64 (IntKind.i64.wrap ((R % 18446744073709551616 : Nat) : Int))), .lit (.pointer none)] := by
          intro o1 o2 o3 o4
          have b1 : P < 9223372036854775808 := by omega
          have b2 : R < 9223372036854775808 := by omega
          have e3 : P % 18446744073709551616 = P := Nat.mod_eq_of_lt (by omega)
          have e4 : R % 18446744073709551616 = R := Nat.mod_eq_of_lt (by omega)
          have w11 : IntKind.i64.wrap (P : Int) = P := i64_id _ (by omega) (by omega)
          have w12 : IntKind.i64.wrap (R : Int) = R := i64_id _ (by omega) (by omega)
          rw [e3, e4, w11, w12, heR (hsm.2 ⟨b1, b2⟩), hR]
          exact ⟨_, sp b1, rfl⟩
        clear sp heR k1 k2 k3 k4 k5 k6 hP hR hsm
        generalize P / 18446744073709551616 = p1 at *
        generalize P % 18446744073709551616 = p0 at *
        generalize R / 18446744073709551616 = r1 at *
        generalize R % 18446744073709551616 = r0 at *
        have t1 : ((p0 : Nat) : Int) < 9223372036854775808 ↔ p0 < 9223372036854775808 := by omega
        have t2 : ((r0 : Nat) : Int) < 9223372036854775808 ↔ r0 < 9223372036854775808 := by omega
        cases la with
        | false =>
          simp [-D.isLit, c1, d1, d2, d3, d4, g1, g2, g3, g4, j1, j2, j3, j4, w1, w2, w3, w4, w5, w6, w7, w8, w9, w10, hX, hY, q7, q8, hgz, hhz, z1, z2, List.idxOf_cons]
          intro o1 o2 o3 o4
          obtain ⟨s, hs1, hs2⟩ := fin o1 o2 (t1.1 o3) (t2.1 o4)
          rw [hs2]
          constructor
          · intro hxy
            rw [if_pos (by by_cases hx : x < 0 <;> by_cases hy : y < 0 <;> simp [hx, hy] at hxy ⊢)] at hs1
            rw [hs1]
            exact Sub.refl _
          · intro hxy
            rw [if_neg (by by_cases hx : x < 0 <;> by_cases hy : y < 0 <;> simp [hx, hy] at hxy ⊢)] at hs1
            rw [hs1]
            exact Sub.refl _
        | true =>
          cases lb with
          | true => simp at hlit
          | false =>
            simp [-D.isLit, c1, c2, d1, d2, d3, d4, g1, g2, g3, g4, j1, j2, j3, j4, w1, w2, w3, w4, w5, w6, w7, w8, w9, w10, hX, hY, q7, q8, hgz, hhz, z1, z2, List.idxOf_cons]
            intro o1 o2 o3 o4
            obtain ⟨s, hs1, hs2⟩ := fin o1 o2 (t1.1 o3) (t2.1 o4)
            rw [hs2]
            constructor
            · intro hxy
              rw [if_pos (by by_cases hx : x < 0 <;> by_cases hy : y < 0 <;> simp [hx, hy] at hxy ⊢)] at hs1
              rw [hs1]
              exact Sub.refl _
            · intro hxy
              rw [if_neg (by by_cases hx : x < 0 <;> by_cases hy : y < 0 <;> simp [hx, hy] at hxy ⊢)] at hs1
              rw [hs1]
              exact Sub.refl _
  · by_cases sa : smallQ a
    · have sb : ¬ smallQ b := fun h => hab ⟨sa, h⟩
      rw [eRat_s sa] at d1 ⊢
      rw [eRat_b sb] at d2 ⊢
      simp only [i64D] at d1 d2
      simp [-D.isLit, i64D, d1, d2, d3, d4, List.idxOf_cons]
    · rw [eRat_b sa] at d1 ⊢
      simp only [i64D] at d1
      simp [-D.isLit, i64D, d1, d2, d3, d4, List.idxOf_cons]
theorem rmul_ok : callable Tryz.prog 22 = true := by kernel_rfl

/-! div -/
noncomputable def rdvC := ctD r2E (fun p => qsz p.a + qsz p.b < MX ∧ p.b ≠ 0) (fun p => [eRat (p.a / p.b)])
theorem rdvC_at (a b : Rat) : rdvC [eRat a, eRat b] = ((qsz a + qsz b < MX ∧ b ≠ 0), [eRat (a / b)]) := ctD_at r2E_inj ⟨a, b⟩
noncomputable def rdvTb : List (FuncId × Ct) := [(22, .data rmC), (63, .data rinvC)]
theorem rdvTb_ok : TbOK N Tryz.prog (tbl rdvTb) := tbl_cons (c := .data rmC) rmul_spec rmul_ok (tbl_cons (c := .data rinvC) rinv_spec rinv_ok tbl_nil)

@[simp] theorem rdvTb1 : tbl rdvTb 22 = some (.data rmC) := rfl
@[simp] theorem rdvTb2 : tbl rdvTb 63 = some (.data rinvC) := rfl
theorem rdiv_spec : SpecD N Tryz.prog 26 rdvC := by
  refine rdD (mf := fun f => false) rdvTb_ok (fn := Tryz.f26) (by kernel_rfl) rfl (by kernel_rfl) ?_
  rintro ⟨a, b⟩ ⟨hq, h0⟩
  have hq : qsz a + qsz b < MX := hq
  have h0 : b ≠ 0 := h0
  refine ⟨by show 2 ≤ 9; decide, ?_⟩
  simp only [r2E, Tryz.f26]
  have c1 := rinvC_at b
  have c2 := rmC_at a b⁻¹
  have h1 := qsz_inv h0
  have h2 : qsz b < MX := by omega
  have h3 : qsz a + qsz b⁻¹ < MX := by omega
  rw [← Rat.div_def] at c2
  simp only [h0, h2, h3, ne_eq, not_false_eq_true, and_self] at c1 c2
  simp [c1, c2]
theorem rdiv_ok : callable Tryz.prog 26 = true := by kernel_rfl
end Go.Proofs.YtdkgkcnllhcamaaGreat.Ae

/-! impl.rat: cmp; impl.QOk, allQ. No condition. -/
namespace Go.Proofs.YtdkgkcnllhcamaaGreat.Ae
open Go Go.RowKit Go.Proofs.YtdkgkcnllhcamaaGreat.Dig
variable {N : NR}

noncomputable def rcC := ctD r2E (fun p => qsz p.a + qsz p.b < MX) (fun p => [i64D (qcmp p.a p.b)])
theorem rcC_at (a b : Rat) : rcC [eRat a, eRat b] = (qsz a + qsz b < MX, [i64D (qcmp a b)]) := ctD_at r2E_inj ⟨a, b⟩
noncomputable def rcTb : List (FuncId × Ct) := [(65, .data rsgC), (58, .data bigIC), (67, .data bCmpC), (52, .data absC), (55, .data m64C)]
theorem rcTb_ok : TbOK N Tryz.prog (tbl rcTb) := tbl_cons (c := .data rsgC) rsign_spec rsign_ok (tbl_cons (c := .data bigIC) big_spec big_ok (tbl_cons (c := .data bCmpC) RCmp_spec RCmp_ok (tbl_cons (c := .data absC) abs64_spec abs64_ok (tbl_cons (c := .data m64C) Mul64_spec Mul64_ok tbl_nil))))

@[simp] theorem rcTb1 : tbl rcTb 65 = some (.data rsgC) := rfl
@[simp] theorem rcTb2 : tbl rcTb 58 = some (.data bigIC) := rfl
@[simp] theorem rcTb3 : tbl rcTb 67 = some (.data bCmpC) := rfl
@[simp] theorem rcTb4 : tbl rcTb 52 = some (.data absC) := rfl
@[simp] theorem rcTb5 : tbl rcTb 55 = some (.data m64C) := rfl
theorem qcmp_same {a b : Rat} (h : a.den = b.den) : qcmp a b = (a.num - b.num).sign := by
  unfold qcmp
  rw [h, ← Int.sub_mul, Int.sign_mul, Int.sign_eq_one_of_pos (show 0 < (b.den : Int) by have := b.den_pos; omega), Int.mul_one]
theorem sgn_cases (x : Int) : (x < 0 ∧ x.sign = -1) ∨ (x = 0 ∧ x.sign = 0) ∨ (0 < x ∧ x.sign = 1) := by
  rcases Int.lt_trichotomy x 0 with h | h | h
  · exact .inl ⟨h, Int.sign_eq_neg_one_of_neg h⟩
  · exact .inr (.inl ⟨h, by rw [h]; rfl⟩)
  · exact .inr (.inr ⟨h, Int.sign_eq_one_of_pos h⟩)
/-- By the signs, and by the products' sizes. -/
theorem qcmp_way (a b : Rat) : (a.num.sign < b.num.sign → qcmp a b = -1) ∧ (b.num.sign < a.num.sign → qcmp a b = 1) ∧
    (a.num.sign = b.num.sign → (a.num.natAbs * b.den < b.num.natAbs * a.den → qcmp a b = -a.num.sign) ∧ (b.num.natAbs * a.den < a.num.natAbs * b.den → qcmp a b = a.num.sign) ∧ (a.num.natAbs * b.den = b.num.natAbs * a.den → qcmp a b = 0)) := by
  have da := a.den_pos
  have db := b.den_pos
  have e1 : a.num = a.num.sign * a.num.natAbs := (Int.sign_mul_natAbs a.num).symm
  have e2 : b.num = b.num.sign * b.num.natAbs := (Int.sign_mul_natAbs b.num).symm
  have m1 : a.num * b.den = a.num.sign * ((a.num.natAbs * b.den : Nat) : Int) := by rw [Int.natCast_mul, ← Int.mul_assoc, ← e1]
  have m2 : b.num * a.den = b.num.sign * ((b.num.natAbs * a.den : Nat) : Int) := by rw [Int.natCast_mul, ← Int.mul_assoc, ← e2]
  have p1 : a.num.sign ≠ 0 → 0 < a.num.natAbs * b.den := fun h => Nat.mul_pos (by rcases sgn_cases a.num with ⟨h1, h2⟩ | ⟨h1, h2⟩ | ⟨h1, h2⟩ <;> omega) db
  have p2 : b.num.sign ≠ 0 → 0 < b.num.natAbs * a.den := fun h => Nat.mul_pos (by rcases sgn_cases b.num with ⟨h1, h2⟩ | ⟨h1, h2⟩ | ⟨h1, h2⟩ <;> omega) da
  have z1 : a.num.sign = 0 → a.num.natAbs * b.den = 0 := fun h => by
    have : a.num.natAbs = 0 := by rcases sgn_cases a.num with ⟨h1, h2⟩ | ⟨h1, h2⟩ | ⟨h1, h2⟩ <;> omega
    rw [this, Nat.zero_mul]
  have z2 : b.num.sign = 0 → b.num.natAbs * a.den = 0 := fun h => by
    have : b.num.natAbs = 0 := by rcases sgn_cases b.num with ⟨h1, h2⟩ | ⟨h1, h2⟩ | ⟨h1, h2⟩ <;> omega
    rw [this, Nat.zero_mul]
  unfold qcmp
  rw [m1, m2]
  have h1 := sgn_cases a.num
  have h2 := sgn_cases b.num
  generalize a.num.natAbs * b.den = A at *
  generalize b.num.natAbs * a.den = C at *
  generalize a.num.sign = s at *
  generalize b.num.sign = t at *
  have hs : s = -1 ∨ s = 0 ∨ s = 1 := by rcases h1 with ⟨_, h⟩ | ⟨_, h⟩ | ⟨_, h⟩ <;> simp [h]
  have ht : t = -1 ∨ t = 0 ∨ t = 1 := by rcases h2 with ⟨_, h⟩ | ⟨_, h⟩ | ⟨_, h⟩ <;> simp [h]
  have neg : ∀ x : Int, x < 0 → x.sign = -1 := fun x h => Int.sign_eq_neg_one_of_neg h
  have pos : ∀ x : Int, 0 < x → x.sign = 1 := fun x h => Int.sign_eq_one_of_pos h
  clear h1 h2 m1 m2 e1 e2
  rcases hs with rfl | rfl | rfl <;> rcases ht with rfl | rfl | rfl <;> simp at p1 p2 z1 z2
  all_goals refine ⟨fun h => ?_, fun h => ?_, fun h => ⟨fun h' => ?_, fun h' => ?_, fun h' => ?_⟩⟩
  all_goals first
    | omega
    | (apply neg; omega)
    | (apply pos; omega)
    | (rw [neg _ (by omega)]; omega)
    | (rw [pos _ (by omega)]; omega)
    | (subst h'; simp; done)
    | (simp [*]; done)
set_option maxRecDepth 100000 in
set_option maxHeartbeats 4000000 in
theorem rcmp_spec : SpecD N Tryz.prog 29 rcC := by
  refine rdD (mf := fun f => false) rcTb_ok (fn := Tryz.f29) (by kernel_rfl) rfl (by kernel_rfl) ?_
  rintro ⟨a, b⟩ hq
  have hq : qsz a + qsz b < MX := hq
  refine ⟨by show 2 ≤ 87; decide, ?_⟩
  simp only [r2E, Tryz.f29]
  have d1 := bigIC_at a
  have d2 := bigIC_at b
  have d3 := bCmpC_at a b
  simp only [hq, i64D] at d3
  by_cases hab : smallQ a ∧ smallQ b
  · obtain ⟨sa, sb⟩ := hab
    have da := a.den_pos
    have db := b.den_pos
    rw [eRat_s sa, eRat_s sb]
    by_cases hd : a.den = b.den
    · rw [qcmp_same hd]
      have hd' : (a.den : Int) = b.den := by omega
      rcases Int.lt_trichotomy a.num b.num with h | h | h
      · rw [Int.sign_eq_neg_one_of_neg (by omega)]
        simp [i64D, hd', h]
      · rw [h, Int.sub_self]
        simp [i64D, hd']
      · rw [Int.sign_eq_one_of_pos (by omega)]
        have h1 : ¬ a.num < b.num := by omega
        simp [i64D, hd', h, h1]
    · obtain ⟨f1, f2, f3⟩ := qcmp_way a b
      have hd' : ¬ (a.den : Int) = b.den := by omega
      have c1 := rsgC_at a
      have c2 := rsgC_at b
      have c3 := absC_at a.num
      have c4 := absC_at b.num
      have c5 := m64C_at a.num.natAbs b.den
      have c6 := m64C_at b.num.natAbs a.den
      have sa' := sa
      have sb' := sb
      unfold smallQ at sa' sb'
      have i1 : I64 a.num := by unfold I64; omega
      have i2 : I64 b.num := by unfold I64; omega
      have i3 : a.num.natAbs < 18446744073709551616 := by omega
      have i4 : b.num.natAbs < 18446744073709551616 := by omega
      have i5 : a.den < 18446744073709551616 := by omega
      have i6 : b.den < 18446744073709551616 := by omega
      have w1 : IntKind.u64.wrap (a.den : Int) = a.den := u64_id _ (by omega) (by omega)
      have w2 : IntKind.u64.wrap (b.den : Int) = b.den := u64_id _ (by omega) (by omega)
      rw [eRat_s sa] at c1
      rw [eRat_s sb] at c2
      simp only [i1, i2, i3, i4, i5, i6, and_self, u64D, i64D] at c1 c2 c3 c4 c5 c6 ⊢
      have hs := sign_bd a.num
      generalize qcmp a b = r at *
      generalize a.num.natAbs * b.den = A at *
      generalize b.num.natAbs * a.den = C at *
      generalize a.num.sign = s at *
      generalize b.num.sign = t at *
      simp at c5 c6
      simp [c1, c2, c3, c4, c5, c6, w1, w2, hd']
      have hS : ∀ x, x = r → Sub (D.lit (.int .i64 x)) (.lit (.int .i64 r)) := fun x h => by rw [h]; exact Sub.refl _
      have v1 : IntKind.i64.wrap (-s) = -s := i64_id _ (by omega) (by omega)
      have v2 : IntKind.i64.wrap s = s := i64_id _ (by omega) (by omega)
      have v3 : IntKind.i64.wrap 0 = 0 := by rw [wrap_i64]; rfl
      rw [v1, v2, v3]
      clear d1 d2 d3 c1 c2 c3 c4 c5 c6 i1 i2 sa' sb' sa sb
      refine ⟨fun k => ⟨fun k1 => hS _ (f1 k1).symm, fun k1 => hS _ (f2 (by omega)).symm⟩, fun k => ?_⟩
      obtain ⟨g1, g2, g3⟩ := f3 k
      exact ⟨fun k1 => ⟨fun k2 => hS _ (g1 (by omega)).symm, fun k2 => hS _ (g2 (by omega)).symm⟩, fun k1 => ⟨fun k2 => ⟨fun k3 => hS _ (g1 (by omega)).symm, fun k3 => hS _ (g2 (by omega)).symm⟩, fun k2 => hS _ (g3 (by omega)).symm⟩⟩
  · by_cases sa : smallQ a
    · have sb : ¬ smallQ b := fun h => hab ⟨sa, h⟩
      rw [eRat_s sa] at d1 ⊢
      rw [eRat_b sb] at d2 ⊢
      simp only [i64D] at d1 d2
      simp [-D.isLit, i64D, d1, d2, d3, List.idxOf_cons]
    · rw [eRat_b sa] at d1 ⊢
      simp only [i64D] at d1
      simp [-D.isLit, i64D, d1, d2, d3, List.idxOf_cons]
theorem rcmp_ok : callable Tryz.prog 29 = true := by kernel_rfl

/-! QOk, allQ -/
def qOk (n d : Int) : Prop := (1 ≤ d ∧ d ≤ 1000000000000000000) ∧ (-1000000000000000000 ≤ n ∧ n ≤ 1000000000000000000) ∧ Int.gcd n d = 1
instance (n d : Int) : Decidable (qOk n d) := by unfold qOk; infer_instance
theorem qOk_QI {n d : Int} (h : qOk n d) : QI n d := ⟨by unfold qOk at h; omega, h.2.2, by unfold qOk at h; omega, by unfold qOk at h; omega⟩
noncomputable def qokC := ctD qE (fun p => I64 p.a ∧ I64 p.b) (fun p => [boolD (decide (qOk p.a p.b))])
theorem qokC_at (a b : Int) : qokC [eQ a b] = ((I64 a ∧ I64 b), [boolD (decide (qOk a b))]) := ctD_at qE_inj ⟨a, b⟩
theorem iQOk_spec : SpecD N Tryz.prog 20 qokC := by
  refine rdD (mf := fun f => false) lowTb_ok (fn := Tryz.f20) (by kernel_rfl) rfl (by kernel_rfl) ?_
  rintro ⟨n, d⟩ ⟨hn, hd⟩
  have hn : I64 n := hn
  have hd : I64 d := hd
  refine ⟨by show 1 ≤ 31; decide, ?_⟩
  have c1 := absC_at n
  have c2 := gcdC_at n.natAbs d.natAbs
  unfold I64 at hd
  have h2 : n.natAbs < 18446744073709551616 := by unfold I64 at hn; omega
  have h3 : d.natAbs < 18446744073709551616 := by omega
  have e3 : Nat.gcd n.natAbs d.natAbs = Int.gcd n d := rfl
  simp only [hn, h2, h3, e3, and_self, u64D, i64D] at c1 c2
  simp only [qE, eQ, i64D, Tryz.f20, boolD]
  have hw : 1 ≤ d → IntKind.u64.wrap d = (d.natAbs : Int) := fun h => by rw [wrap_u64]; omega
  have e : decide (qOk n d) = (decide (1 ≤ d) && (decide (d ≤ 1000000000000000000) && (decide (-1000000000000000000 ≤ n) && (decide (n ≤ 1000000000000000000) && decide (Int.gcd n d = 1))))) := by
    rw [← Bool.decide_and, ← Bool.decide_and, ← Bool.decide_and, ← Bool.decide_and]
    congr 1
    apply propext
    unfold qOk
    constructor
    · rintro ⟨⟨a, b⟩, ⟨c, e⟩, f⟩; exact ⟨a, b, c, e, f⟩
    · rintro ⟨a, b, c, e, f⟩; exact ⟨⟨a, b⟩, ⟨c, e⟩, f⟩
  rw [e]
  clear e e3
  generalize Int.gcd n d = g at *
  by_cases h1 : 1 ≤ d
  · have w1 := hw h1
    by_cases h4 : d ≤ 1000000000000000000 <;> by_cases h5 : -1000000000000000000 ≤ n <;> by_cases h6 : n ≤ 1000000000000000000 <;> simp [h1, h4, h5, h6, w1, c1, c2]
    by_cases h7 : g = 1
    · subst h7; simp
    · have h7' : ¬ (g : Int) = 1 := by omega
      simp [h7, h7']
  · simp [h1]
theorem iQOk_ok : callable Tryz.prog 20 = true := by kernel_rfl

/-- A list of fractions as the program gets it. -/
structure QL where
  l : List (Int × Int)
def eQL (l : List (Int × Int)) : D := .sl 2 (l.map fun p => eQ p.1 p.2)
def qlE (p : QL) : List D := [eQL p.l]
theorem eQ_inj {a b c d : Int} (h : eQ a b = eQ c d) : a = c ∧ b = d := by
  simp only [eQ, D.agg.injEq, List.cons.injEq, and_true] at h
  exact ⟨i64D_inj h.1, i64D_inj h.2⟩
theorem eQL_inj : ∀ {a b : List (Int × Int)}, eQL a = eQL b → a = b
  | [], [], _ => rfl
  | x :: a, y :: b, h => by
    simp only [eQL, D.sl.injEq, List.map_cons, List.cons.injEq, true_and] at h
    obtain ⟨h1, h2⟩ := eQ_inj h.1
    have h3 : eQL a = eQL b := by unfold eQL; rw [h.2]
    rw [eQL_inj h3]
    congr 1
    exact Prod.ext h1 h2
  | [], _ :: _, h => by simp [eQL] at h
  | _ :: _, [], h => by simp [eQL] at h
theorem qlE_inj (p q : QL) (h : qlE p = qlE q) : p = q := by
  obtain ⟨a⟩ := p; obtain ⟨b⟩ := q
  simp only [qlE, List.cons.injEq, and_true] at h
  rw [eQL_inj h]
def I64p (p : Int × Int) : Prop := I64 p.1 ∧ I64 p.2
noncomputable def allQC := ctD qlE (fun p => p.l.length < 4611686018427387904 ∧ ∀ q ∈ p.l, I64p q) (fun p => [boolD (p.l.all fun q => decide (qOk q.1 q.2))])
theorem allQC_at (l : List (Int × Int)) : allQC [eQL l] = ((l.length < 4611686018427387904 ∧ ∀ q ∈ l, I64p q), [boolD (l.all fun q => decide (qOk q.1 q.2))]) := ctD_at qlE_inj ⟨l⟩
noncomputable def allQTb : List (FuncId × Ct) := [(20, .data qokC)]
theorem allQTb_ok : TbOK N Tryz.prog (tbl allQTb) := tbl_cons (c := .data qokC) iQOk_spec iQOk_ok tbl_nil

@[simp] theorem allQTb1 : tbl allQTb 20 = some (.data qokC) := rfl
@[simp] theorem eQ_size (n d : Int) : (eQ n d).size = 2 := rfl
@[simp] theorem eQ_agg (n d : Int) : (eQ n d).isAgg = true := rfl
@[simp] theorem eQ_lit (n d : Int) : (eQ n d).isLit = false := rfl
def allQS (l : List (Int × Int)) (k : Nat) : St := ⟨[.any, .any, .any, .any, .any, .dat (eQL l), .dat (.lit (.int .i64 l.length)), .dat (.lit (.int .i64 k)), .any, .any, .any, .any, .any, .any, .any], [none, none, none, none, none, none, none, none, none, none, none, none, none, none, none]⟩
theorem all_drop {α : Type} (f : α → Bool) (l : List α) (k : Nat) (x : α) (h : l[k]? = some x) (hb : ∀ y ∈ l.take k, f y = true) : (f x = false → l.all f = false) ∧ (f x = true → ∀ y ∈ l.take (k + 1), f y = true) := by
  constructor
  · intro hx
    rw [List.all_eq_false]
    exact ⟨x, List.mem_of_getElem? h, by rw [hx]; simp⟩
  · intro hx y hy
    rw [take_succ l k x h] at hy
    rcases List.mem_append.1 hy with hy | hy
    · exact hb y hy
    · simp at hy; rw [hy]; exact hx
end Go.Proofs.YtdkgkcnllhcamaaGreat.Ae

/-! The reference's fractions as opaque numbers: the contracts. No condition. -/
namespace Go.Proofs.YtdkgkcnllhcamaaGreat.Ae
open Go Go.RowKit Go.Proofs.YtdkgkcnllhcamaaGreat.Dig

theorem nn_z (z : Int) : ∀ k q, eZ z ≠ .num k q := fun k q h => by unfold eZ at h; cases h
theorem nn_i (z : Int) : ∀ k q, i64D z ≠ .num k q := fun k q h => by unfold i64D at h; cases h
theorem nn_q (a b : Int) : ∀ k q, eQ a b ≠ .num k q := fun k q h => by unfold eQ at h; cases h
theorem nn_b (b : Bool) : ∀ k q, boolD b ≠ .num k q := fun k q h => by unfold boolD at h; cases h

noncomputable def nAddC := ctD f2E (fun p => qsz p.a + qsz p.b < MX) (fun p => [nD (p.a + p.b)])
theorem nAddC_at (a b : Rat) : nAddC [nD a, nD b] = (qsz a + qsz b < MX, [nD (a + b)]) := ctD_at f2E_inj ⟨a, b⟩
theorem nAdd_spec : SpecD NF Tryz.prog 48 nAddC := specD_num' l1rAdd_spec (fun ⟨a, b⟩ h ds hc => by
  obtain ⟨r, s, h1, rfl, h2, rfl, rfl⟩ := cv2 hc
  have h : qsz r.val + qsz s.val < MX := h
  obtain ⟨s1, s2, s3, s4, s5, s6, s7⟩ := cross_sz h1 h2 h
  have c := rAddC_at r s
  rw [c]
  exact ⟨⟨h1.1, h2.1, s1, s2, s3, s5⟩, cv_to (add_ok h1 h2 h), trivial⟩)
noncomputable def nMulC := ctD f2E (fun p => qsz p.a + qsz p.b < MX) (fun p => [nD (p.a * p.b)])
theorem nMulC_at (a b : Rat) : nMulC [nD a, nD b] = (qsz a + qsz b < MX, [nD (a * b)]) := ctD_at f2E_inj ⟨a, b⟩
theorem nMul_spec : SpecD NF Tryz.prog 11 nMulC := specD_num' l1rMul_spec (fun ⟨a, b⟩ h ds hc => by
  obtain ⟨r, s, h1, rfl, h2, rfl, rfl⟩ := cv2 hc
  have h : qsz r.val + qsz s.val < MX := h
  obtain ⟨s1, s2, s3, s4, s5, s6, s7⟩ := cross_sz h1 h2 h
  have c := rMulC_at r s
  rw [c]
  exact ⟨⟨h1.1, h2.1, s6, s5⟩, cv_to (mul_ok h1 h2 h), trivial⟩)
noncomputable def nSubC := ctD f2E (fun p => qsz p.a + qsz p.b < MX) (fun p => [nD (p.a - p.b)])
theorem nSubC_at (a b : Rat) : nSubC [nD a, nD b] = (qsz a + qsz b < MX, [nD (a - b)]) := ctD_at f2E_inj ⟨a, b⟩
theorem nSub_spec : SpecD NF Tryz.prog 17 nSubC := specD_num' l1rSub_spec (fun ⟨a, b⟩ h ds hc => by
  obtain ⟨r, s, h1, rfl, h2, rfl, rfl⟩ := cv2 hc
  have h : qsz r.val + qsz s.val < MX := h
  obtain ⟨s1, s2, s3, s4, s5, s6, s7⟩ := cross_sz h1 h2 h
  have c := rSubC_at r s
  rw [c]
  exact ⟨⟨h1.1, h2.1, s1, s2, s4, s5⟩, cv_to (sub_ok h1 h2 h), trivial⟩)
noncomputable def nDivC := ctD f2E (fun p => qsz p.a + qsz p.b < MX ∧ p.b ≠ 0) (fun p => [nD (p.a / p.b)])
theorem nDivC_at (a b : Rat) : nDivC [nD a, nD b] = ((qsz a + qsz b < MX ∧ b ≠ 0), [nD (a / b)]) := ctD_at f2E_inj ⟨a, b⟩
noncomputable def nNegC := ctD f1E (fun p => True) (fun p => [nD (-p.a)])
theorem nNegC_at (a : Rat) : nNegC [nD a] = (True, [nD (-a)]) := ctD_at f1E_inj ⟨a⟩
theorem nNeg_spec : SpecD NF Tryz.prog 47 nNegC := specD_num' l1rNeg_spec (fun ⟨a⟩ h ds hc => by
  obtain ⟨r, h1, rfl, rfl⟩ := cv1 hc
  have c := rNegC_at r
  rw [c]
  exact ⟨h1.1, cv_to ⟨neg_WV h1, neg_val r⟩, trivial⟩)
noncomputable def nSignC := ctD f1E (fun p => True) (fun p => [i64D p.a.num.sign])
theorem nSignC_at (a : Rat) : nSignC [nD a] = (True, [i64D a.num.sign]) := ctD_at f1E_inj ⟨a⟩
theorem nSign_spec : SpecD NF Tryz.prog 46 nSignC := specD_num' l1rSign_spec (fun ⟨a⟩ h ds hc => by
  obtain ⟨r, h1, rfl, rfl⟩ := cv1 hc
  have c := rSignC_at r
  rw [c]
  refine ⟨h1.1, ?_⟩
  rw [sign_val h1.1]
  exact cvo1 (nn_i _))
noncomputable def nCmpC := ctD f2E (fun p => qsz p.a + qsz p.b < MX) (fun p => [i64D (qcmp p.a p.b)])
theorem nCmpC_at (a b : Rat) : nCmpC [nD a, nD b] = (qsz a + qsz b < MX, [i64D (qcmp a b)]) := ctD_at f2E_inj ⟨a, b⟩
theorem nCmp_spec : SpecD NF Tryz.prog 18 nCmpC := specD_num' l1rCmp_spec (fun ⟨a, b⟩ h ds hc => by
  obtain ⟨r, s, h1, rfl, h2, rfl, rfl⟩ := cv2 hc
  have h : qsz r.val + qsz s.val < MX := h
  obtain ⟨s1, s2, s3, s4, s5, s6, s7⟩ := cross_sz h1 h2 h
  have c := rCmpC_at r s
  rw [c]
  refine ⟨⟨h1.1, h2.1, s1, s2, s4⟩, ?_⟩
  rw [cmp_val h1.1 h2.1]
  exact cvo1 (nn_i _))
noncomputable def nFloorC := ctD f1E (fun p => True) (fun p => [eZ p.a.floor])
theorem nFloorC_at (a : Rat) : nFloorC [nD a] = (True, [eZ a.floor]) := ctD_at f1E_inj ⟨a⟩
theorem nFloor_spec : SpecD NF Tryz.prog 10 nFloorC := specD_num' l1rFloor_spec (fun ⟨a⟩ h ds hc => by
  obtain ⟨r, h1, rfl, rfl⟩ := cv1 hc
  have c := rFloorC_at r
  rw [c]
  refine ⟨h1.1, ?_⟩
  rw [floor_val h1.1]
  exact cvo1 (nn_z _))
def d3 (r : Int × Int × Bool) : List D := [eQ r.1 r.2.1, boolD r.2.2]
noncomputable def nQC := ctD f1E (fun p => True) (fun p => d3 (oq p.a))
theorem nQC_at (a : Rat) : nQC [nD a] = (True, d3 (oq a)) := ctD_at f1E_inj ⟨a⟩
theorem nQ_spec : SpecD NF Tryz.prog 19 nQC := specD_num' l1rQ_spec (fun ⟨a⟩ h ds hc => by
  obtain ⟨r, h1, rfl, rfl⟩ := cv1 hc
  have c := rQC_at r
  rw [c]
  refine ⟨h1.1, ?_⟩
  rw [qOf_val h1]
  exact cvo2 (nn_q _ _) (nn_b _))
noncomputable def nWholeC := ctD zE (fun p => SZ p.a) (fun p => [nD (p.a : Rat)])
theorem nWholeC_at (a : Int) : nWholeC [eZ a] = (SZ a, [nD (a : Rat)]) := ctD_at zE_inj ⟨a⟩
theorem divInt_one (a : Int) : Rat.divInt a 1 = (a : Rat) := by rw [Rat.divInt_eq_div]; grind
noncomputable def nqC := ctD qE (fun p => I64 p.a ∧ I64 p.b ∧ 0 < p.b) (fun p => [nD (Rat.divInt p.a p.b)])
theorem nqC_at (a b : Int) : nqC [eQ a b] = ((I64 a ∧ I64 b ∧ 0 < b), [nD (Rat.divInt a b)]) := ctD_at qE_inj ⟨a, b⟩
theorem nq_spec : SpecD NF Tryz.prog 9 nqC := specD_num' l1q_spec (fun ⟨a, b⟩ h ds hc => by
  obtain rfl := cvs1 (nn_q a b) hc
  obtain ⟨h1, h2, h3⟩ := h
  have h1 : I64 a := h1
  have h2 : I64 b := h2
  have h3 : 0 < b := h3
  have c := l1qC_at a b
  rw [c]
  exact ⟨⟨h1, h2, h3⟩, cv_to (ofR_ok h3 h1 h2), trivial⟩)
noncomputable def nOfC := ctD iiE (fun p => I64 p.a ∧ I64 p.b ∧ 0 < p.b) (fun p => [nD (Rat.divInt p.a p.b)])
theorem nOfC_at (a b : Int) : nOfC [i64D a, i64D b] = ((I64 a ∧ I64 b ∧ 0 < b), [nD (Rat.divInt a b)]) := ctD_at iiE_inj ⟨a, b⟩
theorem nOf_spec : SpecD NF Tryz.prog 35 nOfC := specD_num' l1rOf_spec (fun ⟨a, b⟩ h ds hc => by
  obtain rfl := cvs2 (nn_i a) (nn_i b) hc
  obtain ⟨h1, h2, h3⟩ := h
  have h1 : I64 a := h1
  have h2 : I64 b := h2
  have h3 : 0 < b := h3
  have c := ofC_at a b
  rw [c]
  exact ⟨⟨h1, h2, h3⟩, cv_to (ofR_ok h3 h1 h2), trivial⟩)
noncomputable def nBigC := ctD zzE (fun p => SZ p.a ∧ SZ p.b ∧ p.b ≠ 0) (fun p => [nD (Rat.divInt p.a p.b)])
theorem nBigC_at (a b : Int) : nBigC [eZ a, eZ b] = ((SZ a ∧ SZ b ∧ b ≠ 0), [nD (Rat.divInt a b)]) := ctD_at zzE_inj ⟨a, b⟩
theorem nBig_spec : SpecD NF Tryz.prog 13 nBigC := specD_num' l1rBig_spec (fun ⟨a, b⟩ h ds hc => by
  obtain rfl := cvs2 (nn_z a) (nn_z b) hc
  obtain ⟨h1, h2, h3⟩ := h
  have h1 : SZ a := h1
  have h2 : SZ b := h2
  have h3 : b ≠ 0 := h3
  have c := bigC_at a b
  rw [c]
  exact ⟨⟨h1, h2, h3⟩, cv_to (bigR_ok h3 h1 h2), trivial⟩)
theorem oQ_d3 (q : Rat) : oQ q = d3 (oq q) := by
  unfold oQ oq d3
  by_cases h : isQ q
  · rw [if_pos h, if_pos (show q.num.natAbs ≤ 1000000000000000000 ∧ q.den ≤ 1000000000000000000 from h)]
  · rw [if_neg h, if_neg (show ¬ (q.num.natAbs ≤ 1000000000000000000 ∧ q.den ≤ 1000000000000000000) from h)]
end Go.Proofs.YtdkgkcnllhcamaaGreat.Ae

/-! impl: QAdd, QSub, QMul, QDiv, QCmp, QFloor, QOf. No condition. -/
namespace Go.Proofs.YtdkgkcnllhcamaaGreat.Ae
open Go Go.RowKit Go.Proofs.YtdkgkcnllhcamaaGreat.Dig

structure Q4 where
  a : Int
  b : Int
  c : Int
  d : Int
def q4E (p : Q4) : List D := [eQ p.a p.b, eQ p.c p.d]
theorem q4E_inj (p q : Q4) (h : q4E p = q4E q) : p = q := by
  obtain ⟨a, b, c, d⟩ := p; obtain ⟨a', b', c', d'⟩ := q
  simp only [q4E, List.cons.injEq, and_true] at h
  obtain ⟨h1, h2⟩ := eQ_inj h.1
  obtain ⟨h3, h4⟩ := eQ_inj h.2
  simp only [h1, h2, h3, h4]
def I4 (p : Q4) : Prop := (I64 p.a ∧ I64 p.b) ∧ I64 p.c ∧ I64 p.d
def no3 : Int × Int × Bool := (0, 0, false)
def opR (ok : Prop) [Decidable ok] (F : Rat → Rat → Rat) (p : Q4) : Int × Int × Bool := if ok then oq (F (Rat.divInt p.a p.b) (Rat.divInt p.c p.d)) else no3
theorem opR_y {ok : Prop} [Decidable ok] {F : Rat → Rat → Rat} {p : Q4} (h : ok) : opR ok F p = oq (F (Rat.divInt p.a p.b) (Rat.divInt p.c p.d)) := if_pos h
theorem opR_n {ok : Prop} [Decidable ok] {F : Rat → Rat → Rat} {p : Q4} (h : ¬ ok) : opR ok F p = no3 := if_neg h
def ok2 (p : Q4) : Prop := qOk p.a p.b ∧ qOk p.c p.d
instance (p : Q4) : Decidable (ok2 p) := by unfold ok2; infer_instance
def okD (p : Q4) : Prop := ok2 p ∧ p.c ≠ 0
instance (p : Q4) : Decidable (okD p) := by unfold okD; infer_instance
def okF (p : Q4) : Prop := ok2 p ∧ 0 < p.c
instance (p : Q4) : Decidable (okF p) := by unfold okF; infer_instance
def flr (a b : Rat) : Rat := ((a / b).floor : Rat) * b
noncomputable def qaddC := ctD q4E I4 (fun p => d3 (opR (ok2 p) (· + ·) p))
noncomputable def qsubC := ctD q4E I4 (fun p => d3 (opR (ok2 p) (· - ·) p))
noncomputable def qmulC := ctD q4E I4 (fun p => d3 (opR (ok2 p) (· * ·) p))
noncomputable def qdivC := ctD q4E I4 (fun p => d3 (opR (okD p) (· / ·) p))
noncomputable def qflrC := ctD q4E I4 (fun p => d3 (opR (okF p) flr p))
noncomputable def qcmpC := ctD q4E I4 (fun p => [i64D (if ok2 p then qcmp (Rat.divInt p.a p.b) (Rat.divInt p.c p.d) else 2)])
noncomputable def qofC := ctD iiE (fun p => I64 p.a ∧ I64 p.b) (fun p => d3 (if p.b = 0 then no3 else oq (Rat.divInt p.a p.b)))
theorem qaddC_at (a b c d : Int) : qaddC [eQ a b, eQ c d] = (I4 ⟨a, b, c, d⟩, d3 (opR (ok2 ⟨a, b, c, d⟩) (· + ·) ⟨a, b, c, d⟩)) := ctD_at q4E_inj ⟨a, b, c, d⟩
theorem qsubC_at (a b c d : Int) : qsubC [eQ a b, eQ c d] = (I4 ⟨a, b, c, d⟩, d3 (opR (ok2 ⟨a, b, c, d⟩) (· - ·) ⟨a, b, c, d⟩)) := ctD_at q4E_inj ⟨a, b, c, d⟩
theorem qmulC_at (a b c d : Int) : qmulC [eQ a b, eQ c d] = (I4 ⟨a, b, c, d⟩, d3 (opR (ok2 ⟨a, b, c, d⟩) (· * ·) ⟨a, b, c, d⟩)) := ctD_at q4E_inj ⟨a, b, c, d⟩
theorem qdivC_at (a b c d : Int) : qdivC [eQ a b, eQ c d] = (I4 ⟨a, b, c, d⟩, d3 (opR (okD ⟨a, b, c, d⟩) (· / ·) ⟨a, b, c, d⟩)) := ctD_at q4E_inj ⟨a, b, c, d⟩
theorem qflrC_at (a b c d : Int) : qflrC [eQ a b, eQ c d] = (I4 ⟨a, b, c, d⟩, d3 (opR (okF ⟨a, b, c, d⟩) flr ⟨a, b, c, d⟩)) := ctD_at q4E_inj ⟨a, b, c, d⟩
theorem qcmpC_at (a b c d : Int) : qcmpC [eQ a b, eQ c d] = (I4 ⟨a, b, c, d⟩, [i64D (if ok2 ⟨a, b, c, d⟩ then qcmp (Rat.divInt a b) (Rat.divInt c d) else 2)]) := ctD_at q4E_inj ⟨a, b, c, d⟩
theorem qofC_at (a b : Int) : qofC [i64D a, i64D b] = ((I64 a ∧ I64 b), d3 (if b = 0 then no3 else oq (Rat.divInt a b))) := ctD_at iiE_inj ⟨a, b⟩
theorem d3_no : d3 no3 = [eQ 0 0, boolD false] := rfl
theorem QI_qsz {n d : Int} (h : QI n d) : qsz (Rat.divInt n d) ≤ 2 := smallQ_qsz (QI_small h)
theorem QI_ne {n d : Int} (h : QI n d) (h0 : n ≠ 0) : Rat.divInt n d ≠ 0 := fun e => by
  have := (QI_num h).1
  rw [e] at this
  exact h0 this.symm
theorem ln_floor (q : Rat) : ln q.floor.natAbs ≤ qsz q := by
  rw [Rat.floor_def]
  exact Nat.le_trans (ln_mono (natAbs_ediv_le _ _)) (qsz_num q)
theorem qsz_floor (q : Rat) : qsz (q.floor : Rat) ≤ qsz q := by
  rw [qsz_int]
  have h1 := ln_floor q
  have h2 := qsz_pos q
  omega
theorem allQ2 (a b c d : Int) (h : I4 ⟨a, b, c, d⟩) : allQC [.sl 2 [eQ a b, eQ c d]] = (True, [boolD (decide (ok2 ⟨a, b, c, d⟩))]) := by
  have h1 := allQC_at [(a, b), (c, d)]
  have h2 : ([(a, b), (c, d)] : List (Int × Int)).length < 4611686018427387904 ∧ ∀ q ∈ [(a, b), (c, d)], I64p q := by
    refine ⟨by simp, ?_⟩
    intro q hq
    simp at hq
    rcases hq with rfl | rfl
    · exact h.1
    · exact h.2
  have h3 : (([(a, b), (c, d)] : List (Int × Int)).all fun q => decide (qOk q.1 q.2)) = decide (ok2 ⟨a, b, c, d⟩) := by
    by_cases h1 : qOk a b <;> by_cases h2 : qOk c d <;> simp [ok2, h1, h2]
  rw [h3, eq_true h2] at h1
  exact h1
@[simp] theorem nav_eQ0 (n d : Int) : nav (eQ n d) [0] = some (.lit (.int .i64 n), 0) := rfl
@[simp] theorem nav_eQ1 (n d : Int) : nav (eQ n d) [1] = some (.lit (.int .i64 d), 1) := rfl
theorem eQ00 : eQ 0 0 = .agg [.lit (.int .i64 0), .lit (.int .i64 0)] := rfl

noncomputable def pqTb : List (FuncId × Ct) := [(21, .data rqC), (27, .data rsubC), (22, .data rmC), (26, .data rdvC), (29, .data rcC), (32, .data rqqC), (24, .data rflC), (25, .data fiC), (82, .mut [true, false, false] sfC), (31, .data newC), (56, .data fitC)]
theorem pqTb_ok {N : NR} : TbOK N Tryz.prog (tbl pqTb) := tbl_cons (c := .data rqC) rq_spec rq_ok (tbl_cons (c := .data rsubC) rsub_spec rsub_ok (tbl_cons (c := .data rmC) rmul_spec rmul_ok (tbl_cons (c := .data rdvC) rdiv_spec rdiv_ok (tbl_cons (c := .data rcC) rcmp_spec rcmp_ok (tbl_cons (c := .data rqqC) rqq_spec rqq_ok (tbl_cons (c := .data rflC) rfloor_spec rfloor_ok (tbl_cons (c := .data fiC) fromInt_spec fromInt_ok (tbl_cons (c := .mut [true, false, false] sfC) SetFrac_spec SetFrac_ok (tbl_cons (c := .data newC) newBigInt_spec newBigInt_ok (tbl_cons (c := .data fitC) fit_spec fit_ok tbl_nil))))))))))

@[simp] theorem pqTb2 : tbl pqTb 21 = some (.data rqC) := rfl
@[simp] theorem pqTb4 : tbl pqTb 27 = some (.data rsubC) := rfl
@[simp] theorem pqTb5 : tbl pqTb 22 = some (.data rmC) := rfl
@[simp] theorem pqTb6 : tbl pqTb 26 = some (.data rdvC) := rfl
@[simp] theorem pqTb7 : tbl pqTb 29 = some (.data rcC) := rfl
@[simp] theorem pqTb8 : tbl pqTb 32 = some (.data rqqC) := rfl
@[simp] theorem pqTb9 : tbl pqTb 24 = some (.data rflC) := rfl
@[simp] theorem pqTb10 : tbl pqTb 25 = some (.data fiC) := rfl
@[simp] theorem pqTb11 : tbl pqTb 82 = some (.mut [true, false, false] sfC) := rfl
@[simp] theorem pqTb12 : tbl pqTb 31 = some (.data newC) := rfl
@[simp] theorem pqTb13 : tbl pqTb 56 = some (.data fitC) := rfl
def pqMf : FuncId → Bool := fun f => f == 56 || f == 82
attribute [simp] pqMf

end Go.Proofs.YtdkgkcnllhcamaaGreat.Ae

/-! spec: QOk, QAdd, QSub, QMul, QDiv, QCmp, QFloor, QOf. No condition. -/
namespace Go.Proofs.YtdkgkcnllhcamaaGreat.Ae
open Go Go.RowKit Go.Proofs.YtdkgkcnllhcamaaGreat.Dig

noncomputable def sokTb : List (FuncId × Ct) := [(34, .data absC), (33, .data gcdC)]
theorem sokTb_ok : TbOK NF Tryz.prog (tbl sokTb) := tbl_cons (c := .data absC) l1Abs_spec l1Abs_ok (tbl_cons (c := .data gcdC) l1Gcd_spec l1Gcd_ok tbl_nil)

@[simp] theorem sokTb1 : tbl sokTb 34 = some (.data absC) := rfl
@[simp] theorem sokTb2 : tbl sokTb 33 = some (.data gcdC) := rfl
theorem sQOk_spec : SpecD NF Tryz.prog 8 qokC := by
  refine rdD (mf := fun f => false) sokTb_ok (fn := Tryz.f8) (by kernel_rfl) rfl (by kernel_rfl) ?_
  rintro ⟨n, d⟩ ⟨hn, hd⟩
  have hn : I64 n := hn
  have hd : I64 d := hd
  refine ⟨of_decide_eq_true (by kernel_rfl), ?_⟩
  have c1 := absC_at n
  have c2 := gcdC_at n.natAbs d.natAbs
  unfold I64 at hd
  have h2 : n.natAbs < 18446744073709551616 := by unfold I64 at hn; omega
  have h3 : d.natAbs < 18446744073709551616 := by omega
  have e3 : Nat.gcd n.natAbs d.natAbs = Int.gcd n d := rfl
  simp only [hn, h2, h3, e3, and_self, u64D, i64D] at c1 c2
  simp only [qE, i64D, Tryz.f8, boolD]
  have hw : ¬ d < 1 → IntKind.u64.wrap d = (d.natAbs : Int) := fun h => by rw [wrap_u64]; omega
  have e : decide (qOk n d) = (!(decide (d < 1)) && (!(decide (1000000000000000000 < d)) && (!(decide (n < -1000000000000000000)) && (!(decide (1000000000000000000 < n)) && decide (Int.gcd n d = 1))))) := by
    rw [← decide_not, ← decide_not, ← decide_not, ← decide_not, ← Bool.decide_and, ← Bool.decide_and, ← Bool.decide_and, ← Bool.decide_and]
    congr 1
    apply propext
    unfold qOk
    constructor
    · rintro ⟨⟨a, b⟩, ⟨c, e⟩, f⟩; exact ⟨by omega, by omega, by omega, by omega, f⟩
    · rintro ⟨a, b, c, e, f⟩; exact ⟨⟨by omega, by omega⟩, ⟨by omega, by omega⟩, f⟩
  rw [e]
  clear e e3
  generalize Int.gcd n d = g at *
  by_cases h1 : d < 1
  · simp [h1]
  · have w1 := hw h1
    by_cases h4 : 1000000000000000000 < d <;> by_cases h5 : n < -1000000000000000000 <;> by_cases h6 : 1000000000000000000 < n <;> simp [h1, h4, h5, h6, w1, c1, c2]
    by_cases h7 : g = 1
    · subst h7; simp
    · have h7' : ¬ (g : Int) = 1 := by omega
      simp [h7, h7']
theorem sQOk_ok : callable Tryz.prog 8 = true := by kernel_rfl

noncomputable def sqTbl : List (FuncId × Ct) := [(8, .data qokC), (9, .data nqC), (48, .data nAddC), (17, .data nSubC), (11, .data nMulC), (18, .data nCmpC), (19, .data nQC), (10, .data nFloorC), (15, .data zOfC), (13, .data nBigC)]
theorem sqTbl_ok : TbOK NF Tryz.prog (tbl sqTbl) := tbl_cons (c := .data qokC) sQOk_spec sQOk_ok (tbl_cons (c := .data nqC) nq_spec l1q_ok (tbl_cons (c := .data nAddC) nAdd_spec l1rAdd_ok (tbl_cons (c := .data nSubC) nSub_spec l1rSub_ok (tbl_cons (c := .data nMulC) nMul_spec l1rMul_ok (tbl_cons (c := .data nCmpC) nCmp_spec l1rCmp_ok (tbl_cons (c := .data nQC) nQ_spec l1rQ_ok (tbl_cons (c := .data nFloorC) nFloor_spec l1rFloor_ok (tbl_cons (c := .data zOfC) l1ZOf_spec l1ZOf_ok (tbl_cons (c := .data nBigC) nBig_spec l1rBig_ok tbl_nil)))))))))

@[simp] theorem sqTbl1 : tbl sqTbl 8 = some (.data qokC) := rfl
@[simp] theorem sqTbl2 : tbl sqTbl 9 = some (.data nqC) := rfl
@[simp] theorem sqTbl3 : tbl sqTbl 48 = some (.data nAddC) := rfl
@[simp] theorem sqTbl4 : tbl sqTbl 17 = some (.data nSubC) := rfl
@[simp] theorem sqTbl5 : tbl sqTbl 11 = some (.data nMulC) := rfl
@[simp] theorem sqTbl7 : tbl sqTbl 18 = some (.data nCmpC) := rfl
@[simp] theorem sqTbl8 : tbl sqTbl 19 = some (.data nQC) := rfl
@[simp] theorem sqTbl9 : tbl sqTbl 10 = some (.data nFloorC) := rfl
@[simp] theorem sqTbl11 : tbl sqTbl 15 = some (.data zOfC) := rfl
@[simp] theorem sqTbl12 : tbl sqTbl 13 = some (.data nBigC) := rfl
theorem okC1 {a b c d : Int} (h : I4 ⟨a, b, c, d⟩) : (qokC [eQ a b] = (True, [.lit (.bool (decide (qOk a b)))])) ∧ qokC [eQ c d] = (True, [.lit (.bool (decide (qOk c d)))]) := by
  have c1 := qokC_at a b
  have c2 := qokC_at c d
  obtain ⟨⟨h1, h2⟩, h3, h4⟩ := h
  have h1 : I64 a := h1
  have h2 : I64 b := h2
  have h3 : I64 c := h3
  have h4 : I64 d := h4
  simp only [h1, h2, h3, h4, and_self, boolD] at c1 c2
  exact ⟨c1, c2⟩
theorem qOk_64 {n d : Int} (h : qOk n d) : I64 n ∧ I64 d ∧ 0 < d := by unfold qOk at h; unfold I64; omega

end Go.Proofs.YtdkgkcnllhcamaaGreat.Ae

/-! The laws on fractions: each law's function returns true. No condition. -/
namespace Go.Proofs.YtdkgkcnllhcamaaGreat.Ae
open Go Go.RowKit Go.Proofs.YtdkgkcnllhcamaaGreat.Dig

/-- A law's call, out of its contract. -/
theorem law_calls {f : FuncId} {g : List D → Prop × List D} (h : SpecD NF Tryz.prog f g) {ds : List D} (hp : (g ds).1) (hr : (g ds).2 = [boolD true]) {vs : List Value} {w : World} (hrep : RepVs NF (fun _ => False) w ds vs) :
    Calls Tryz.prog f vs.toArray w fun e w' => e = .returned (.bool true) ∧ Below w.heap.size w w' := by
  refine (h ds hp (fun _ => False) w vs (fun k hk => hk.elim) hrep).mono fun e w' ⟨v, he, hv, hfr⟩ => ?_
  rw [hr] at hv
  have hv : RepV NF _ w' (.lit (.bool true)) v := hv
  obtain ⟨rfl, _⟩ := RepV.lit hv
  exact ⟨he, ⟨hfr.os, hfr.tape, hfr.output, hfr.size, fun k hk => hfr.block k hk (fun h => h)⟩⟩
theorem repV_flat {N : NR} {F : Nat → Prop} {w : World} {d : D} {cs : List Value} (h : flatD d = some cs) (h1 : ∀ v ∈ cs, v.oneCell' = true) (ha : d.isAgg = true) : RepV N F w d (.agg cs.toArray) :=
  ⟨cs, flatD_rep d cs h h1, by unfold mkV; rw [ha]; rfl⟩
theorem repVs_nil {N : NR} {F : Nat → Prop} {w : World} : RepVs N F w [] [] := ⟨rfl, fun i d v h => by simp at h⟩
theorem repVs_cons {N : NR} {F : Nat → Prop} {w : World} {d : D} {v : Value} {ds : List D} {vs : List Value} (h : RepV N F w d v) (hs : RepVs N F w ds vs) : RepVs N F w (d :: ds) (v :: vs) :=
  ⟨by simp only [List.length_cons]; rw [hs.1], fun i e u h1 h2 => by
    cases i with
    | zero =>
      simp only [List.getElem?_cons_zero, Option.some.injEq] at h1 h2
      subst h1 h2
      exact h
    | succ i => exact hs.2 i e u (by simpa using h1) (by simpa using h2)⟩
theorem rep_q {N : NR} {F : Nat → Prop} {w : World} (a b : Int) : RepV N F w (eQ a b) (.agg #[.int .i64 a, .int .i64 b]) := repV_flat (cs := [.int .i64 a, .int .i64 b]) rfl (fun v hv => by simp at hv; rcases hv with rfl | rfl <;> rfl) rfl
theorem rep_i {N : NR} {F : Nat → Prop} {w : World} (a : Int) : RepV N F w (i64D a) (.int .i64 a) := RepV.of_lit rfl
theorem wf64 {a : Int} (h : (Lit.int .i64 a).wf = true) : I64 a := bounds_i64 h

noncomputable def toQC := ctD qE (fun _ => True) (fun p => [eQ p.a p.b])
theorem toQC_at (a b : Int) : toQC [eQ a b] = (True, [eQ a b]) := ctD_at qE_inj ⟨a, b⟩
theorem toQ_spec {N : NR} : SpecD N Tryz.prog 5 toQC := by
  refine rdD (mf := fun f => false) tbl_nil (fn := Tryz.f5) (by kernel_rfl) rfl (by kernel_rfl) ?_
  rintro ⟨a, b⟩ _
  refine ⟨of_decide_eq_true (by kernel_rfl), ?_⟩
  simp only [qE, Tryz.f5]
  simp [eQ, i64D]
theorem toQ_ok : callable Tryz.prog 5 = true := by kernel_rfl
noncomputable def eqQC := ctD q4E (fun _ => True) (fun p => [boolD (decide (p.a = p.c) && decide (p.b = p.d))])
theorem eqQC_at (a b c d : Int) : eqQC [eQ a b, eQ c d] = (True, [boolD (decide (a = c) && decide (b = d))]) := ctD_at q4E_inj ⟨a, b, c, d⟩
theorem eqQ_spec {N : NR} : SpecD N Tryz.prog 7 eqQC := by
  refine rdD (mf := fun f => false) tbl_nil (fn := Tryz.f7) (by kernel_rfl) rfl (by kernel_rfl) ?_
  rintro ⟨a, b, c, d⟩ _
  refine ⟨of_decide_eq_true (by kernel_rfl), ?_⟩
  simp only [q4E, Tryz.f7, boolD]
  by_cases h1 : a = c <;> by_cases h2 : b = d <;> simp [h1, h2]
theorem eqQ_ok : callable Tryz.prog 7 = true := by kernel_rfl
theorem eqQ_self (r : Int × Int × Bool) : eqQC [eQ r.1 r.2.1, eQ r.1 r.2.1] = (True, [.lit (.bool true)]) := by
  rw [eqQC_at]; simp [boolD]

noncomputable def lwQAddTb : List (FuncId × Ct) := [(5, .data toQC), (7, .data eqQC)]
theorem lwQAddTb_ok : TbOK NF Tryz.prog (tbl lwQAddTb) := tbl_cons (c := .data toQC) toQ_spec toQ_ok (tbl_cons (c := .data eqQC) eqQ_spec eqQ_ok tbl_nil)

@[simp] theorem lwQAddTb1 : tbl lwQAddTb 5 = some (.data toQC) := rfl
@[simp] theorem lwQAddTb2 : tbl lwQAddTb 7 = some (.data eqQC) := rfl
noncomputable def lwQAddC := ctD q4E I4 (fun _ => [boolD true])
noncomputable def lwQSubTb : List (FuncId × Ct) := [(5, .data toQC), (7, .data eqQC)]
theorem lwQSubTb_ok : TbOK NF Tryz.prog (tbl lwQSubTb) := tbl_cons (c := .data toQC) toQ_spec toQ_ok (tbl_cons (c := .data eqQC) eqQ_spec eqQ_ok tbl_nil)

@[simp] theorem lwQSubTb1 : tbl lwQSubTb 5 = some (.data toQC) := rfl
@[simp] theorem lwQSubTb2 : tbl lwQSubTb 7 = some (.data eqQC) := rfl
noncomputable def lwQSubC := ctD q4E I4 (fun _ => [boolD true])
noncomputable def lwQMulTb : List (FuncId × Ct) := [(5, .data toQC), (7, .data eqQC)]
theorem lwQMulTb_ok : TbOK NF Tryz.prog (tbl lwQMulTb) := tbl_cons (c := .data toQC) toQ_spec toQ_ok (tbl_cons (c := .data eqQC) eqQ_spec eqQ_ok tbl_nil)

@[simp] theorem lwQMulTb1 : tbl lwQMulTb 5 = some (.data toQC) := rfl
@[simp] theorem lwQMulTb2 : tbl lwQMulTb 7 = some (.data eqQC) := rfl
noncomputable def lwQMulC := ctD q4E I4 (fun _ => [boolD true])
noncomputable def lwQDivTb : List (FuncId × Ct) := [(5, .data toQC), (7, .data eqQC)]
theorem lwQDivTb_ok : TbOK NF Tryz.prog (tbl lwQDivTb) := tbl_cons (c := .data toQC) toQ_spec toQ_ok (tbl_cons (c := .data eqQC) eqQ_spec eqQ_ok tbl_nil)

@[simp] theorem lwQDivTb1 : tbl lwQDivTb 5 = some (.data toQC) := rfl
@[simp] theorem lwQDivTb2 : tbl lwQDivTb 7 = some (.data eqQC) := rfl
noncomputable def lwQDivC := ctD q4E I4 (fun _ => [boolD true])
noncomputable def lwQFloorTb : List (FuncId × Ct) := [(5, .data toQC), (7, .data eqQC)]
theorem lwQFloorTb_ok : TbOK NF Tryz.prog (tbl lwQFloorTb) := tbl_cons (c := .data toQC) toQ_spec toQ_ok (tbl_cons (c := .data eqQC) eqQ_spec eqQ_ok tbl_nil)

@[simp] theorem lwQFloorTb1 : tbl lwQFloorTb 5 = some (.data toQC) := rfl
@[simp] theorem lwQFloorTb2 : tbl lwQFloorTb 7 = some (.data eqQC) := rfl
noncomputable def lwQFloorC := ctD q4E I4 (fun _ => [boolD true])
noncomputable def lwQCmpTb : List (FuncId × Ct) := [(5, .data toQC), (7, .data eqQC)]
theorem lwQCmpTb_ok : TbOK NF Tryz.prog (tbl lwQCmpTb) := tbl_cons (c := .data toQC) toQ_spec toQ_ok (tbl_cons (c := .data eqQC) eqQ_spec eqQ_ok tbl_nil)

@[simp] theorem lwQCmpTb1 : tbl lwQCmpTb 5 = some (.data toQC) := rfl
@[simp] theorem lwQCmpTb2 : tbl lwQCmpTb 7 = some (.data eqQC) := rfl
noncomputable def lwQCmpC := ctD q4E I4 (fun _ => [boolD true])
noncomputable def lwQOfTb : List (FuncId × Ct) := [(5, .data toQC), (7, .data eqQC)]
theorem lwQOfTb_ok : TbOK NF Tryz.prog (tbl lwQOfTb) := tbl_cons (c := .data toQC) toQ_spec toQ_ok (tbl_cons (c := .data eqQC) eqQ_spec eqQ_ok tbl_nil)

@[simp] theorem lwQOfTb1 : tbl lwQOfTb 5 = some (.data toQC) := rfl
@[simp] theorem lwQOfTb2 : tbl lwQOfTb 7 = some (.data eqQC) := rfl
noncomputable def lwQOfC := ctD iiE (fun p => I64 p.a ∧ I64 p.b) (fun _ => [boolD true])
end Go.Proofs.YtdkgkcnllhcamaaGreat.Ae

/-! Contracts over several inputs; what a call of the fractions' functions asks and gives, as steps for simp. No condition. -/
namespace Go.Proofs.YtdkgkcnllhcamaaGreat.Ae
open Go Go.RowKit Go.Proofs.YtdkgkcnllhcamaaGreat.Dig

/-- A kind of input, as data. -/
structure Enc (α : Type) where
  e : α → D
  inj : ∀ a b, e a = e b → a = b
def ERat : Enc Rat := ⟨eRat, fun _ _ => eRat_inj⟩
def ENum : Enc Rat := ⟨nD, fun _ _ => nD_inj⟩
def EInt : Enc Int := ⟨i64D, fun _ _ => i64D_inj⟩
def EZ : Enc Int := ⟨eZ, fun _ _ => eZ_inj⟩
theorem boolD_inj {a b : Bool} (h : boolD a = boolD b) : a = b := by unfold boolD at h; injection h with h; injection h
def EBool : Enc Bool := ⟨boolD, fun _ _ => boolD_inj⟩
def EQ : Enc (Int × Int) := ⟨fun p => eQ p.1 p.2, fun _ _ h => Prod.ext (eQ_inj h).1 (eQ_inj h).2⟩
/-- A struct of two parts. -/
def Enc.pair {α β : Type} (A : Enc α) (B : Enc β) : Enc (α × β) := ⟨fun p => .agg [A.e p.1, B.e p.2], fun p q h => by
  simp only [D.agg.injEq, List.cons.injEq, and_true] at h
  exact Prod.ext (A.inj _ _ h.1) (B.inj _ _ h.2)⟩
def Enc.trip {α β γ : Type} (A : Enc α) (B : Enc β) (C : Enc γ) : Enc (α × β × γ) := ⟨fun p => .agg [A.e p.1, B.e p.2.1, C.e p.2.2], fun p q h => by
  simp only [D.agg.injEq, List.cons.injEq, and_true] at h
  exact Prod.ext (A.inj _ _ h.1) (Prod.ext (B.inj _ _ h.2.1) (C.inj _ _ h.2.2))⟩
theorem map_inj {α : Type} (E : Enc α) : ∀ {a b : List α}, a.map E.e = b.map E.e → a = b
  | [], [], _ => rfl
  | x :: a, y :: b, h => by
    simp only [List.map_cons, List.cons.injEq] at h
    rw [E.inj _ _ h.1, map_inj E h.2]
  | [], _ :: _, h => by simp at h
  | _ :: _, [], h => by simp at h
/-- A slice. -/
def Enc.list {α : Type} (sz : Nat) (E : Enc α) : Enc (List α) := ⟨fun l => .sl sz (l.map E.e), fun a b h => by
  injection h with _ h; exact map_inj E h⟩
noncomputable def ct1 {α : Type} (A : Enc α) (pre : α → Prop) (post : α → List D) := ctD (fun a => [A.e a]) pre post
theorem ct1_at {α : Type} {A : Enc α} {pre : α → Prop} {post : α → List D} (a : α) : ct1 A pre post [A.e a] = (pre a, post a) :=
  ctD_at (e := fun a => [A.e a]) (fun a b h => by simp only [List.cons.injEq, and_true] at h; exact A.inj _ _ h) a
noncomputable def ct2 {α β : Type} (A : Enc α) (B : Enc β) (pre : α → β → Prop) (post : α → β → List D) := ctD (fun p : α × β => [A.e p.1, B.e p.2]) (fun p => pre p.1 p.2) (fun p => post p.1 p.2)
theorem ct2_at {α β : Type} {A : Enc α} {B : Enc β} {pre : α → β → Prop} {post : α → β → List D} (a : α) (b : β) : ct2 A B pre post [A.e a, B.e b] = (pre a b, post a b) :=
  ctD_at (e := fun p : α × β => [A.e p.1, B.e p.2]) (fun p q h => by simp only [List.cons.injEq, and_true] at h; exact Prod.ext (A.inj _ _ h.1) (B.inj _ _ h.2)) (a, b)
noncomputable def ct3 {α β γ : Type} (A : Enc α) (B : Enc β) (C : Enc γ) (pre : α → β → γ → Prop) (post : α → β → γ → List D) := ctD (fun p : α × β × γ => [A.e p.1, B.e p.2.1, C.e p.2.2]) (fun p => pre p.1 p.2.1 p.2.2) (fun p => post p.1 p.2.1 p.2.2)
theorem ct3_at {α β γ : Type} {A : Enc α} {B : Enc β} {C : Enc γ} {pre : α → β → γ → Prop} {post : α → β → γ → List D} (a : α) (b : β) (c : γ) : ct3 A B C pre post [A.e a, B.e b, C.e c] = (pre a b c, post a b c) :=
  ctD_at (e := fun p : α × β × γ => [A.e p.1, B.e p.2.1, C.e p.2.2]) (fun p q h => by simp only [List.cons.injEq, and_true] at h; exact Prod.ext (A.inj _ _ h.1) (Prod.ext (B.inj _ _ h.2.1) (C.inj _ _ h.2.2))) (a, b, c)
noncomputable def ct4 {α β γ δ : Type} (A : Enc α) (B : Enc β) (C : Enc γ) (E : Enc δ) (pre : α → β → γ → δ → Prop) (post : α → β → γ → δ → List D) := ctD (fun p : α × β × γ × δ => [A.e p.1, B.e p.2.1, C.e p.2.2.1, E.e p.2.2.2]) (fun p => pre p.1 p.2.1 p.2.2.1 p.2.2.2) (fun p => post p.1 p.2.1 p.2.2.1 p.2.2.2)
theorem ct4_at {α β γ δ : Type} {A : Enc α} {B : Enc β} {C : Enc γ} {E : Enc δ} {pre : α → β → γ → δ → Prop} {post : α → β → γ → δ → List D} (a : α) (b : β) (c : γ) (d : δ) : ct4 A B C E pre post [A.e a, B.e b, C.e c, E.e d] = (pre a b c d, post a b c d) :=
  ctD_at (e := fun p : α × β × γ × δ => [A.e p.1, B.e p.2.1, C.e p.2.2.1, E.e p.2.2.2]) (fun p q h => by simp only [List.cons.injEq, and_true] at h; exact Prod.ext (A.inj _ _ h.1) (Prod.ext (B.inj _ _ h.2.1) (Prod.ext (C.inj _ _ h.2.2.1) (E.inj _ _ h.2.2.2)))) (a, b, c, d)
/-- A function's contract, out of its reading. -/
theorem rd1 {N : NR} {α : Type} {A : Enc α} {pre : α → Prop} {post : α → List D} {f : FuncId} {fn : Func} {c : Code} {mf : FuncId → Bool} {tb : FuncId → Option Ct} (htb : TbOK N Tryz.prog tb) (hf : Tryz.prog.funcs[f]? = some fn) (hb : fn.body = some c) (hd : drawAll mf c = true) (hl : Nat.ble 1 fn.ntmps = true)
    (h : ∀ a, pre a → awp Tryz.prog mf tb c (start fn.ntmps ([A.e a].map .dat) []) (endK Tryz.prog fn.ntmps fn.results.toList ((post a).map .dat) [])) : SpecD N Tryz.prog f (ct1 A pre post) :=
  rdD htb hf hb hd (fun a ha => ⟨Nat.le_of_ble_eq_true hl, h a ha⟩)
theorem rd2 {N : NR} {α β : Type} {A : Enc α} {B : Enc β} {pre : α → β → Prop} {post : α → β → List D} {f : FuncId} {fn : Func} {c : Code} {mf : FuncId → Bool} {tb : FuncId → Option Ct} (htb : TbOK N Tryz.prog tb) (hf : Tryz.prog.funcs[f]? = some fn) (hb : fn.body = some c) (hd : drawAll mf c = true) (hl : Nat.ble 2 fn.ntmps = true)
    (h : ∀ a b, pre a b → awp Tryz.prog mf tb c (start fn.ntmps ([A.e a, B.e b].map .dat) []) (endK Tryz.prog fn.ntmps fn.results.toList ((post a b).map .dat) [])) : SpecD N Tryz.prog f (ct2 A B pre post) :=
  rdD htb hf hb hd (fun p ha => ⟨Nat.le_of_ble_eq_true hl, h p.1 p.2 ha⟩)
theorem rd3 {N : NR} {α β γ : Type} {A : Enc α} {B : Enc β} {C : Enc γ} {pre : α → β → γ → Prop} {post : α → β → γ → List D} {f : FuncId} {fn : Func} {c : Code} {mf : FuncId → Bool} {tb : FuncId → Option Ct} (htb : TbOK N Tryz.prog tb) (hf : Tryz.prog.funcs[f]? = some fn) (hb : fn.body = some c) (hd : drawAll mf c = true) (hl : Nat.ble 3 fn.ntmps = true)
    (h : ∀ a b d, pre a b d → awp Tryz.prog mf tb c (start fn.ntmps ([A.e a, B.e b, C.e d].map .dat) []) (endK Tryz.prog fn.ntmps fn.results.toList ((post a b d).map .dat) [])) : SpecD N Tryz.prog f (ct3 A B C pre post) :=
  rdD htb hf hb hd (fun p ha => ⟨Nat.le_of_ble_eq_true hl, h p.1 p.2.1 p.2.2 ha⟩)
theorem rd4 {N : NR} {α β γ δ : Type} {A : Enc α} {B : Enc β} {C : Enc γ} {E : Enc δ} {pre : α → β → γ → δ → Prop} {post : α → β → γ → δ → List D} {f : FuncId} {fn : Func} {c : Code} {mf : FuncId → Bool} {tb : FuncId → Option Ct} (htb : TbOK N Tryz.prog tb) (hf : Tryz.prog.funcs[f]? = some fn) (hb : fn.body = some c) (hd : drawAll mf c = true) (hl : Nat.ble 4 fn.ntmps = true)
    (h : ∀ a b d g, pre a b d g → awp Tryz.prog mf tb c (start fn.ntmps ([A.e a, B.e b, C.e d, E.e g].map .dat) []) (endK Tryz.prog fn.ntmps fn.results.toList ((post a b d g).map .dat) [])) : SpecD N Tryz.prog f (ct4 A B C E pre post) :=
  rdD htb hf hb hd (fun p ha => ⟨Nat.le_of_ble_eq_true hl, h p.1 p.2.1 p.2.2.1 p.2.2.2 ha⟩)
/-- A table in which every entry is right. -/
structure Ok (N : NR) (p : FuncId × Ct) : Prop where
  ok : CtOK N Tryz.prog p.1 p.2
  ca : callable Tryz.prog p.1 = true
theorem tblAll {N : NR} : ∀ (l : List (FuncId × Ct)), (∀ p ∈ l, Ok N p) → TbOK N Tryz.prog (tbl l)
  | [], _ => tbl_nil
  | p :: l, h => tbl_cons (h p (by simp)).ok (h p (by simp)).ca (tblAll l (fun q hq => h q (by simp [hq])))
/-- Of moderate length, all together. -/
def LM : Nat := 1000000000
theorem MX_val : MX = 549755813888 := rfl
theorem LM_val : LM = 1000000000 := rfl
def EP : Enc (Rat × Rat) := ERat.pair ERat
def EPn : Enc (Rat × Rat) := ENum.pair ENum
def EV : Enc ((Int × Int) × Int × Int) := EQ.pair EQ
def vOk (v : (Int × Int) × Int × Int) : Prop := qOk v.1.1 v.1.2 ∧ qOk v.2.1 v.2.2
instance (v : (Int × Int) × Int × Int) : Decidable (vOk v) := by unfold vOk; infer_instance
/-- A place as fractions. -/
def vq (v : (Int × Int) × Int × Int) : Rat × Rat := (Rat.divInt v.1.1 v.1.2, Rat.divInt v.2.1 v.2.2)
def V64 (v : (Int × Int) × Int × Int) : Prop := (I64 v.1.1 ∧ I64 v.1.2) ∧ I64 v.2.1 ∧ I64 v.2.2
def psz (p : Rat × Rat) : Nat := qsz p.1 + qsz p.2
theorem vOk_sz {v : (Int × Int) × Int × Int} (h : vOk v) : qsz (Rat.divInt v.1.1 v.1.2) ≤ 2 ∧ qsz (Rat.divInt v.2.1 v.2.2) ≤ 2 := ⟨QI_qsz (qOk_QI h.1), QI_qsz (qOk_QI h.2)⟩
@[simp] theorem EP_e (x y : Rat) : EP.e (x, y) = .agg [eRat x, eRat y] := rfl
@[simp] theorem EPn_e (x y : Rat) : EPn.e (x, y) = .agg [nD x, nD y] := rfl
@[simp] theorem EV_e (a b c d : Int) : EV.e ((a, b), c, d) = .agg [eQ a b, eQ c d] := rfl
@[simp] theorem ERat_e (x : Rat) : ERat.e x = eRat x := rfl
@[simp] theorem ENum_e (x : Rat) : ENum.e x = nD x := rfl
@[simp] theorem EInt_e (x : Int) : EInt.e x = i64D x := rfl
@[simp] theorem EBool_e (x : Bool) : EBool.e x = boolD x := rfl
@[simp] theorem EQ_e (a b : Int) : EQ.e (a, b) = eQ a b := rfl
section
variable (a b : Rat) (n d : Int)
@[simp] theorem z_add : raddC [eRat a, eRat b] = (qsz a + qsz b < MX, [eRat (a + b)]) := raddC_at a b
@[simp] theorem z_sub : rsubC [eRat a, eRat b] = (qsz a + qsz b < MX, [eRat (a - b)]) := rsubC_at a b
@[simp] theorem z_mul : rmC [eRat a, eRat b] = (qsz a + qsz b < MX, [eRat (a * b)]) := rmC_at a b
@[simp] theorem z_div : rdvC [eRat a, eRat b] = ((qsz a + qsz b < MX ∧ b ≠ 0), [eRat (a / b)]) := rdvC_at a b
@[simp] theorem z_neg : rngC [eRat a] = (qsz a < MX, [eRat (-a)]) := rngC_at a
@[simp] theorem z_inv : rinvC [eRat a] = ((qsz a < MX ∧ a ≠ 0), [eRat a⁻¹]) := rinvC_at a
@[simp] theorem z_cmp : rcC [eRat a, eRat b] = (qsz a + qsz b < MX, [.lit (.int .i64 (qcmp a b))]) := rcC_at a b
@[simp] theorem z_sign : rsgC [eRat a] = (True, [.lit (.int .i64 a.num.sign)]) := rsgC_at a
@[simp] theorem z_q : rqqC [eRat a] = (True, [eQ (oq a).1 (oq a).2.1, .lit (.bool (oq a).2.2)]) := by rw [rqqC_at, oQ_d3]; rfl
@[simp] theorem z_rq : rqC [eQ n d] = (QI n d, [eRat (Rat.divInt n d)]) := rqC_at n d
@[simp] theorem z_ri : riC [.lit (.int .i64 n)] = (n.natAbs < 9223372036854775808, [eRat (n : Rat)]) := riC_at n
@[simp] theorem z_floor : rflC [eRat a] = (qsz a < MX, [.ptr (eZ a.floor)]) := rflC_at a
@[simp] theorem z_fromInt : fiC [.ptr (eZ n)] = (ln n.natAbs < MX, [eRat (n : Rat)]) := fiC_at n
@[simp] theorem n_add : nAddC [nD a, nD b] = (qsz a + qsz b < MX, [nD (a + b)]) := nAddC_at a b
@[simp] theorem n_sub : nSubC [nD a, nD b] = (qsz a + qsz b < MX, [nD (a - b)]) := nSubC_at a b
@[simp] theorem n_mul : nMulC [nD a, nD b] = (qsz a + qsz b < MX, [nD (a * b)]) := nMulC_at a b
@[simp] theorem n_div : nDivC [nD a, nD b] = ((qsz a + qsz b < MX ∧ b ≠ 0), [nD (a / b)]) := nDivC_at a b
@[simp] theorem n_neg : nNegC [nD a] = (True, [nD (-a)]) := nNegC_at a
@[simp] theorem n_cmp : nCmpC [nD a, nD b] = (qsz a + qsz b < MX, [.lit (.int .i64 (qcmp a b))]) := nCmpC_at a b
@[simp] theorem n_sign : nSignC [nD a] = (True, [.lit (.int .i64 a.num.sign)]) := nSignC_at a
@[simp] theorem n_q : nQC [nD a] = (True, [eQ (oq a).1 (oq a).2.1, .lit (.bool (oq a).2.2)]) := nQC_at a
@[simp] theorem n_lq : nqC [eQ n d] = ((I64 n ∧ I64 d ∧ 0 < d), [nD (Rat.divInt n d)]) := nqC_at n d
@[simp] theorem n_of : nOfC [.lit (.int .i64 n), .lit (.int .i64 d)] = ((I64 n ∧ I64 d ∧ 0 < d), [nD (Rat.divInt n d)]) := nOfC_at n d
@[simp] theorem n_floor : nFloorC [nD a] = (True, [eZ a.floor]) := nFloorC_at a
@[simp] theorem n_whole : nWholeC [eZ n] = (SZ n, [nD (n : Rat)]) := nWholeC_at n
@[simp] theorem n_big : nBigC [eZ n, eZ d] = ((SZ n ∧ SZ d ∧ d ≠ 0), [nD (Rat.divInt n d)]) := nBigC_at n d
@[simp] theorem n_zof : zOfC [.lit (.int .i64 n)] = (I64 n, [eZ n]) := zOfC_at n
@[simp] theorem n_zadd : zAddC [eZ n, eZ d] = ((SZ n ∧ SZ d), [eZ (n + d)]) := zAddC_at n d
@[simp] theorem z_ok : qokC [eQ n d] = ((I64 n ∧ I64 d), [.lit (.bool (decide (qOk n d)))]) := qokC_at n d
@[simp] theorem z_toQ : toQC [eQ n d] = (True, [eQ n d]) := toQC_at n d
end
theorem z_all2 (a b c d : Int) : allQC [.sl 2 [eQ a b, eQ c d]] = (((I64 a ∧ I64 b) ∧ I64 c ∧ I64 d), [.lit (.bool (decide (qOk a b) && decide (qOk c d)))]) := by
  have h1 := allQC_at [(a, b), (c, d)]
  have h2 : (([(a, b), (c, d)] : List (Int × Int)).length < 4611686018427387904 ∧ ∀ q ∈ [(a, b), (c, d)], I64p q) ↔ ((I64 a ∧ I64 b) ∧ I64 c ∧ I64 d) := by
    constructor
    · rintro ⟨_, h⟩
      exact ⟨h (a, b) (by simp), h (c, d) (by simp)⟩
    · rintro ⟨h1, h2⟩
      refine ⟨by simp, ?_⟩
      intro q hq
      simp at hq
      rcases hq with rfl | rfl
      · exact h1
      · exact h2
  rw [propext h2] at h1
  have h3 : (([(a, b), (c, d)] : List (Int × Int)).all fun q => decide (qOk q.1 q.2)) = (decide (qOk a b) && decide (qOk c d)) := by simp
  rw [h3] at h1
  exact h1
attribute [simp] z_all2
end Go.Proofs.YtdkgkcnllhcamaaGreat.Ae

/-! QNear: both sides, and the law. No condition. -/
namespace Go.Proofs.YtdkgkcnllhcamaaGreat.Ae
open Go Go.RowKit Go.Proofs.YtdkgkcnllhcamaaGreat.Dig
/-- What a slot holds, and is written no more, may be read as data. -/
theorem Snd.toData2 (s : St) (t o : Nat) (d : D) (h1 : asData s (s.get t) = some (d, some o)) (h2 : s.mayFreeze o) : Snd s { (s.frz [o]) with tm := (s.frz [o]).tm.set t (.dat d) } := by
  intro N F0 M0 w0 hv a w h
  have h' := h.frz [o]
  have hfr : allFreeze s [o] := ⟨h2, trivial⟩
  have e3 : asDatas s ([Operand.tmp t].map (ev s)) = some [(d, some o)] := by
    simp only [List.map_cons, List.map_nil, asDatas]
    rw [show ev s (.tmp t) = s.get t from rfl, h1]
  have hr := asDatas_rep h (frz_Fr s [o]) [.tmp t] _ e3 (fun o' ho' k hk => by
    obtain ⟨ob, hob⟩ := asDatas_owner _ _ e3 o' ho'
    exact Fr_frz h hfr ho' hob hk)
  have hd : RepV N (Fr F0 w0 hv (s.frz [o]) w) w d (a.eval (.tmp t)) := hr.2 0 _ _ rfl rfl
  refine ⟨hv, ⟨h'.lt0, h'.ltM, h'.bel, fun t' => ?_, by simpa using h'.sz, h'.ob, h'.own, h'.inj, h'.df⟩⟩
  have e : St.get { (s.frz [o]) with tm := (s.frz [o]).tm.set t (.dat d) } t' = if t' = t ∧ t < (s.frz [o]).tm.length then .dat d else (s.frz [o]).get t' := by
    unfold St.get
    simp only [List.getD_eq_getElem?_getD, List.getElem?_set]
    by_cases ht : t = t'
    · subst ht
      by_cases hl : t < (s.frz [o]).tm.length
      · simp [hl]
      · simp [hl]
    · have ht' : ¬ t' = t := fun x => ht x.symm
      simp [ht, ht']
  rw [e]
  by_cases hc : t' = t ∧ t < (s.frz [o]).tm.length
  · rw [if_pos hc, hc.1]
    exact hd
  · rw [if_neg hc]
    exact h'.tm t'
theorem rat_one2 (a : Int) : Rat.divInt a 1 = (a : Rat) := by rw [Rat.divInt_eq_div]; simp; grind
theorem n_new (a : Int) : newC [.lit (.int .i64 a)] = (I64 a, [.ptr (eZ a)]) := newC_at a
theorem n_addnew (x y : Int) : iAddC [.ref 0, .dat (.ptr (eZ x)), .dat (.ptr (eZ y))] [.agg [.lit (.bool false), .lit (.slice none 0 0)]] = ((SZ x ∧ SZ y), [.ref 0], [eZ (x + y)]) := iAddC_dd x y .new
attribute [simp] n_new n_addnew
def nrabs (a : Rat) : Rat := if a.num.sign < 0 then -a else a
theorem nrabs_sz (a : Rat) : qsz (nrabs a) ≤ qsz a := by unfold nrabs; split <;> grind [qsz_neg]
theorem nrabs_neg (a : Rat) : nrabs (-a) = nrabs a := by
  unfold nrabs
  rw [Rat.neg_num, Int.sign_neg]
  rcases Int.lt_trichotomy a.num.sign 0 with h | h | h
  · rw [if_neg (by omega), if_pos h]
  · have : a.num = 0 := Int.sign_eq_zero_iff_zero.1 h
    have h0 : a = 0 := Rat.num_eq_zero.1 this
    rw [if_neg (by omega), if_neg (by omega), h0]; rfl
  · rw [if_pos (by omega), if_neg (by omega)]; grind
theorem nrabs_sub (a b : Rat) : nrabs (a - b) = nrabs (b - a) := by
  rw [← nrabs_neg]; congr 1; grind
/-- Of two candidates the nearer, the first if they are equally near. -/
def stp (b : Option (Rat × Rat)) (c g : Rat) : Option (Rat × Rat) := match b with
  | none => some (c, g)
  | some (c', g') => if qcmp g g' < 0 then some (c, g) else some (c', g')
def cnd (d : Nat) (N : Int) (k : Nat) : Rat := ((N + (k : Int) : Int) : Rat) / (((d : Nat) : Int) : Rat)
def bkF (x : Rat) (d : Nat) (N : Int) (b : Option (Rat × Rat)) : Nat → Option (Rat × Rat)
  | 0 => b
  | k + 1 => stp (bkF x d N b k) (cnd d N k) (nrabs (cnd d N k - x))
def nrN (x : Rat) (d : Nat) : Int := (x * (((d : Nat) : Int) : Rat)).floor
def nrO (x : Rat) : Nat → Option (Rat × Rat)
  | 0 => none
  | d + 1 => bkF x (d + 1) (nrN x (d + 1)) (nrO x d) 2
def bOk (b : Option (Rat × Rat)) : Prop := ∀ c g, b = some (c, g) → qsz c ≤ 100 ∧ qsz g ≤ 200
theorem stp_ok {b : Option (Rat × Rat)} {c g : Rat} (hb : bOk b) (hc : qsz c ≤ 100) (hg : qsz g ≤ 200) : bOk (stp b c g) := by
  intro c' g' h
  unfold stp at h
  split at h
  · simp only [Option.some.injEq, Prod.mk.injEq] at h; rw [← h.1, ← h.2]; exact ⟨hc, hg⟩
  · rename_i c'' g''
    split at h
    · simp only [Option.some.injEq, Prod.mk.injEq] at h; rw [← h.1, ← h.2]; exact ⟨hc, hg⟩
    · simp only [Option.some.injEq, Prod.mk.injEq] at h; rw [← h.1, ← h.2]; exact hb _ _ rfl
theorem stp_some {b : Option (Rat × Rat)} {c g : Rat} : stp b c g ≠ none := by
  unfold stp
  split
  · simp
  · split <;> simp
theorem nat_qsz {d : Nat} (h : d ≤ 2000) : qsz (((d : Nat) : Int) : Rat) ≤ 2 := by
  have h1 : QI ((d : Nat) : Int) 1 := ⟨by omega, by simp, by omega, by omega⟩
  have := QI_qsz h1
  rw [rat_one2] at this
  exact this
theorem nat_ne {d : Nat} (h : 1 ≤ d) : (((d : Nat) : Int) : Rat) ≠ 0 := by
  intro e
  have : ((d : Nat) : Int) = 0 := by exact_mod_cast e
  omega
theorem nrN_sz {x : Rat} {d : Nat} (hx : qsz x ≤ 2) (hd : d ≤ 2000) : ln (nrN x d).natAbs ≤ 10 ∧ qsz ((nrN x d : Int) : Rat) ≤ 10 := by
  have h1 := nat_qsz hd
  have h2 := qsz_mul x (((d : Nat) : Int) : Rat)
  have h3 := ln_floor (x * (((d : Nat) : Int) : Rat))
  have h4 := qsz_floor (x * (((d : Nat) : Int) : Rat))
  unfold nrN; omega
theorem cnd_sz {N : Int} {d k : Nat} (hN : qsz ((N : Int) : Rat) ≤ 10) (h1 : 1 ≤ d) (hd : d ≤ 2000) (hk : k ≤ 2) : qsz ((N + (k : Int) : Int) : Rat) ≤ 14 ∧ qsz (cnd d N k) ≤ 100 := by
  have h2 := nat_qsz hd
  have h3 := nat_qsz (d := k) (by omega)
  have h4 := qsz_add ((N : Int) : Rat) (((k : Nat) : Int) : Rat)
  have h5 : qsz ((N + (k : Int) : Int) : Rat) ≤ 14 := by rw [Rat.intCast_add]; omega
  have h6 := qsz_div (a := ((N + (k : Int) : Int) : Rat)) (nat_ne h1)
  exact ⟨h5, by unfold cnd; omega⟩
theorem gnd_sz {x : Rat} {N : Int} {d k : Nat} (hx : qsz x ≤ 2) (hc : qsz (cnd d N k) ≤ 100) : qsz (cnd d N k - x) ≤ 150 ∧ qsz (nrabs (cnd d N k - x)) ≤ 200 := by
  have h1 := qsz_sub (cnd d N k) x
  have h2 := nrabs_sz (cnd d N k - x)
  omega
theorem bkF_ok {x : Rat} {d : Nat} {N : Int} {b : Option (Rat × Rat)} (hx : qsz x ≤ 2) (hN : qsz ((N : Int) : Rat) ≤ 10) (h1 : 1 ≤ d) (hd : d ≤ 2000) (hb : bOk b) : ∀ k, k ≤ 2 → bOk (bkF x d N b k)
  | 0, _ => hb
  | k + 1, hk => by
    have ih := bkF_ok hx hN h1 hd hb k (by omega)
    have hc := (cnd_sz (k := k) hN h1 hd (by omega)).2
    exact stp_ok ih hc (gnd_sz hx hc).2
theorem nrO_ok {x : Rat} (hx : qsz x ≤ 2) : ∀ d, d ≤ 2000 → bOk (nrO x d)
  | 0, _ => fun c g h => by cases h
  | d + 1, hd => bkF_ok hx (nrN_sz hx hd).2 (by omega) hd (nrO_ok hx d (by omega)) 2 (by omega)
theorem nrO_none {x : Rat} : ∀ d, nrO x d = none ↔ d = 0
  | 0 => by simp [nrO]
  | d + 1 => by
    constructor
    · intro h; exact absurd h stp_some
    · intro h; omega
theorem bkF_none {x : Rat} {d dd : Nat} {N : Int} (k : Nat) : bkF x d N (nrO x dd) k = none ↔ dd = 0 ∧ k = 0 := by
  cases k with
  | zero => show nrO x dd = none ↔ _; rw [nrO_none]; simp
  | succ k =>
    constructor
    · intro h; exact absurd h stp_some
    · intro h; omega
def bC (e : Rat → D) (z : D) : Option (Rat × Rat) → D
  | none => z
  | some (c, _) => e c
def bG (e : Rat → D) (z : D) : Option (Rat × Rat) → D
  | none => z
  | some (_, g) => e g
def zR4 : D := .agg [.lit (.int .i64 0), .lit (.int .i64 0), .lit (.pointer none)]
def zN4 : D := .agg [.lit (.int .i64 0), .lit (.int .i64 0), .lit (.slice none 0 0)]
def zQ4 : D := .agg [.lit (.int .i64 0), .lit (.int .i64 0)]
@[simp] theorem zR4_size : zR4.size = 3 := rfl
@[simp] theorem zN4_size : zN4.size = 3 := rfl
@[simp] theorem zQ4_size : zQ4.size = 2 := rfl
@[simp] theorem bC_size (b : Option (Rat × Rat)) : (bC eRat zR4 b).size = 3 := by cases b <;> simp [bC]
@[simp] theorem bG_size (b : Option (Rat × Rat)) : (bG eRat zR4 b).size = 3 := by cases b <;> simp [bG]
@[simp] theorem nC_size (b : Option (Rat × Rat)) : (bC nD zN4 b).size = 3 := by cases b <;> simp [bC]
@[simp] theorem nG_size (b : Option (Rat × Rat)) : (bG nD zN4 b).size = 3 := by cases b <;> simp [bG]
def qnI (a b m : Int) : Int × Int × Bool := if qOk a b ∧ 1 ≤ m ∧ m ≤ 2000 then (match nrO (Rat.divInt a b) m.toNat with
  | some (c, _) => oq c
  | none => (0, 0, false)) else (0, 0, false)
noncomputable def qnC := ct2 EQ EInt (fun p m => (I64 p.1 ∧ I64 p.2) ∧ I64 m) (fun p m => d3 (qnI p.1 p.2 m))
@[simp] theorem qnC_at (a b m : Int) : qnC [eQ a b, .lit (.int .i64 m)] = (((I64 a ∧ I64 b) ∧ I64 m), d3 (qnI a b m)) := ct2_at (A := EQ) (B := EInt) (a, b) m

/-! (i.rat).abs -/
noncomputable def iabs4C := ct1 ERat (fun p0 => qsz p0 < LM) (fun p0 => [eRat (nrabs p0)])
@[simp] theorem iabs4C_at (a : Rat) : iabs4C [eRat a] = (qsz a < LM, [eRat (nrabs a)]) := ct1_at a
noncomputable def iabs4Tb : List (FuncId × Ct) := [(65, .data rsgC), (66, .data rngC)]
theorem iabs4Tb_ok {N : NR} : TbOK N Tryz.prog (tbl iabs4Tb) := tbl_cons (c := .data rsgC) rsign_spec rsign_ok (tbl_cons (c := .data rngC) rneg_spec rneg_ok tbl_nil)

@[simp] theorem iabs4Tb1 : tbl iabs4Tb 65 = some (.data rsgC) := rfl
@[simp] theorem iabs4Tb2 : tbl iabs4Tb 66 = some (.data rngC) := rfl
theorem iabs4_spec {N : NR} : SpecD N Tryz.prog 28 iabs4C := by
  refine rd1 (mf := fun f => false) iabs4Tb_ok (fn := Tryz.f28) (by kernel_rfl) rfl (by kernel_rfl) (by kernel_rfl) ?_
  rintro a hp
  have hp : qsz a < LM := hp
  show awp _ _ _ _ (start _ ([eRat a].map .dat) []) (endK _ _ _ (([eRat (nrabs a)]).map .dat) [])
  have h0 : qsz a < MX := by rw [LM_val] at hp; rw [MX_val]; omega
  by_cases h : a.num.sign < 0 <;> simp [-D.isLit, Tryz.f28, nrabs, h, h0]
theorem iabs4_ok : callable Tryz.prog 28 = true := by kernel_rfl

/-! s.l1rAbs -/
noncomputable def sabs4C := ct1 ENum (fun p0 => True) (fun p0 => [nD (nrabs p0)])
@[simp] theorem sabs4C_at (a : Rat) : sabs4C [nD a] = (True, [nD (nrabs a)]) := ct1_at a
noncomputable def sabs4Tb : List (FuncId × Ct) := [(46, .data nSignC), (47, .data nNegC)]
theorem sabs4Tb_ok : TbOK NF Tryz.prog (tbl sabs4Tb) := tbl_cons (c := .data nSignC) nSign_spec l1rSign_ok (tbl_cons (c := .data nNegC) nNeg_spec l1rNeg_ok tbl_nil)

@[simp] theorem sabs4Tb1 : tbl sabs4Tb 46 = some (.data nSignC) := rfl
@[simp] theorem sabs4Tb2 : tbl sabs4Tb 47 = some (.data nNegC) := rfl
theorem sabs4_spec : SpecD NF Tryz.prog 16 sabs4C := by
  refine rd1 (mf := fun f => false) sabs4Tb_ok (fn := Tryz.f16) (by kernel_rfl) rfl (by kernel_rfl) (by kernel_rfl) ?_
  rintro a hp
  have hp : True := hp
  show awp _ _ _ _ (start _ ([nD a].map .dat) []) (endK _ _ _ (([nD (nrabs a)]).map .dat) [])
  by_cases h : a.num.sign < 0 <;> simp [-D.isLit, Tryz.f16, nrabs, h]
theorem sabs4_ok : callable Tryz.prog 16 = true := by kernel_rfl

/-! s.l1rInt -/
noncomputable def sint4C := ct1 EInt (fun p0 => I64 p0) (fun p0 => [nD (p0 : Rat)])
@[simp] theorem sint4C_at (a : Int) : sint4C [.lit (.int .i64 a)] = (I64 a, [nD (a : Rat)]) := ct1_at a
noncomputable def sint4Tb : List (FuncId × Ct) := [(35, .data nOfC)]
theorem sint4Tb_ok : TbOK NF Tryz.prog (tbl sint4Tb) := tbl_cons (c := .data nOfC) nOf_spec l1rOf_ok tbl_nil

@[simp] theorem sint4Tb1 : tbl sint4Tb 35 = some (.data nOfC) := rfl
theorem sint4_spec : SpecD NF Tryz.prog 12 sint4C := by
  refine rd1 (mf := fun f => false) sint4Tb_ok (fn := Tryz.f12) (by kernel_rfl) rfl (by kernel_rfl) (by kernel_rfl) ?_
  rintro a hp
  have hp : I64 a := hp
  show awp _ _ _ _ (start _ ([.lit (.int .i64 a)].map .dat) []) (endK _ _ _ (([nD (a : Rat)]).map .dat) [])
  have e : Rat.divInt a 1 = (a : Rat) := rat_one2 a
  have h1 : I64 1 := by unfold I64; omega
  simp [-D.isLit, Tryz.f12, hp, h1, e]
theorem sint4_ok : callable Tryz.prog 12 = true := by kernel_rfl
noncomputable def iQnTb : List (FuncId × Ct) := [(20, .data qokC), (21, .data rqC), (22, .data rmC), (23, .data riC), (24, .data rflC), (25, .data fiC), (26, .data rdvC), (27, .data rsubC), (28, .data iabs4C), (29, .data rcC), (30, .mut [true, false, false] iAddC), (31, .data newC), (32, .data rqqC)]
theorem iQnTb_ok {N : NR} : TbOK N Tryz.prog (tbl iQnTb) := tbl_cons (c := .data qokC) iQOk_spec iQOk_ok (tbl_cons (c := .data rqC) rq_spec rq_ok (tbl_cons (c := .data rmC) rmul_spec rmul_ok (tbl_cons (c := .data riC) ri_spec ri_ok (tbl_cons (c := .data rflC) rfloor_spec rfloor_ok (tbl_cons (c := .data fiC) fromInt_spec fromInt_ok (tbl_cons (c := .data rdvC) rdiv_spec rdiv_ok (tbl_cons (c := .data rsubC) rsub_spec rsub_ok (tbl_cons (c := .data iabs4C) iabs4_spec iabs4_ok (tbl_cons (c := .data rcC) rcmp_spec rcmp_ok (tbl_cons (c := .mut [true, false, false] iAddC) Add_spec Add_ok (tbl_cons (c := .data newC) newBigInt_spec newBigInt_ok (tbl_cons (c := .data rqqC) rqq_spec rqq_ok tbl_nil))))))))))))

@[simp] theorem iQnTb1 : tbl iQnTb 20 = some (.data qokC) := rfl
@[simp] theorem iQnTb2 : tbl iQnTb 21 = some (.data rqC) := rfl
@[simp] theorem iQnTb3 : tbl iQnTb 22 = some (.data rmC) := rfl
@[simp] theorem iQnTb4 : tbl iQnTb 23 = some (.data riC) := rfl
@[simp] theorem iQnTb5 : tbl iQnTb 24 = some (.data rflC) := rfl
@[simp] theorem iQnTb6 : tbl iQnTb 25 = some (.data fiC) := rfl
@[simp] theorem iQnTb7 : tbl iQnTb 26 = some (.data rdvC) := rfl
@[simp] theorem iQnTb8 : tbl iQnTb 27 = some (.data rsubC) := rfl
@[simp] theorem iQnTb9 : tbl iQnTb 28 = some (.data iabs4C) := rfl
@[simp] theorem iQnTb10 : tbl iQnTb 29 = some (.data rcC) := rfl
@[simp] theorem iQnTb11 : tbl iQnTb 30 = some (.mut [true, false, false] iAddC) := rfl
@[simp] theorem iQnTb12 : tbl iQnTb 31 = some (.data newC) := rfl
@[simp] theorem iQnTb13 : tbl iQnTb 32 = some (.data rqqC) := rfl
def qnS1 (x : Rat) (m : Int) (b : Option (Rat × Rat)) (d : Nat) : St := ⟨[.any, .dat (.lit (.int .i64 m)), .any, .any, .obj 4 [] 0, .any, .obj 6 [] 0, .obj 7 [] 0, .obj 8 [] 0, .dat (.lit (.int .i64 d)), .any, .any, .any, .any, .any, .any, .any, .any, .any, .any, .any, .any, .any, .any, .any, .any, .any, .any, .any, .any, .any, .any, .any, .any, .any, .any, .any, .any, .any, .any, .any, .any, .any, .any, .any, .any, .any, .any, .any, .any, .any, .any, .any, .any, .any, .any, .any, .any, .any, .any, .any, .any, .any, .any, .any, .any, .any, .any, .any, .any, .any, .any, .any, .any, .any, .any, .any], [none, none, none, none, some (.box zQ4), none, some (.box (eRat x)), some (.box (bC eRat zR4 b)), some (.box (bG eRat zR4 b)), none, none, none, none, none, none, none, none, none, none, none, none, none, none, none, none, none, none, none, none, none, none, none, none, none, none, none, none, none, none, none, none, none, none, none, none, none, none, none, none, none, none, none, none, none, none, none, none, none, none, none, none, none, none, none, none, none, none, none, none, none, none, none, none, none, none, none, none]⟩
def qnS2 (x : Rat) (m : Int) (b : Option (Rat × Rat)) (d : Nat) (n : Int) (k : Nat) : St := ⟨[.any, .dat (.lit (.int .i64 m)), .any, .any, .obj 4 [] 0, .any, .obj 6 [] 0, .obj 7 [] 0, .obj 8 [] 0, .dat (.lit (.int .i64 d)), .dat (.ptr (eZ n)), .dat (.lit (.int .i64 k)), .any, .any, .any, .any, .any, .any, .any, .any, .any, .any, .any, .any, .any, .any, .any, .any, .any, .any, .any, .any, .any, .any, .any, .any, .any, .any, .any, .any, .any, .any, .any, .any, .any, .any, .any, .any, .any, .any, .any, .any, .any, .any, .any, .any, .any, .any, .any, .any, .any, .any, .any, .any, .any, .any, .any, .any, .any, .any, .any, .any, .any, .any, .any, .any, .any], [none, none, none, none, some (.box zQ4), none, some (.box (eRat x)), some (.box (bC eRat zR4 b)), some (.box (bG eRat zR4 b)), none, none, none, none, none, none, none, none, none, none, none, none, none, none, none, none, none, none, none, none, none, none, none, none, none, none, none, none, none, none, none, none, none, none, none, none, none, none, none, none, none, none, none, none, none, none, none, none, none, none, none, none, none, none, none, none, none, none, none, none, none, none, none, none, none, none, none, none]⟩
theorem SZ_of_ln {n : Int} (h : ln n.natAbs ≤ 100) : SZ n := by rw [SZ_ln]; omega
theorem int_ln {n : Int} (h : qsz ((n : Int) : Rat) ≤ 14) : ln n.natAbs ≤ 14 := by
  have := ln_floor ((n : Int) : Rat)
  rw [Rat.floor_intCast] at this
  omega
set_option maxRecDepth 100000 in
set_option maxHeartbeats 4000000 in
theorem iQn_spec {N : NR} : SpecD N Tryz.prog 6 qnC := by
  refine rd2 (mf := fun f => f == 30 || f == rcel 15 7 || f == rcel 15 8) iQnTb_ok (fn := Tryz.f6) (by kernel_rfl) rfl (by kernel_rfl) (by kernel_rfl) ?_
  rintro ⟨a, b⟩ m ⟨⟨i1, i2⟩, hm⟩
  have i1 : I64 a := i1
  have i2 : I64 b := i2
  have hm : I64 m := hm
  generalize hr : qnI a b m = r
  show awp _ _ _ _ (start _ ([eQ a b, .lit (.int .i64 m)].map .dat) []) (endK _ _ _ ((d3 r).map .dat) [])
  simp only [Tryz.f6]
  by_cases h1 : qOk a b
  case neg =>
    have er : r = (0, 0, false) := by rw [← hr]; unfold qnI; rw [if_neg (fun x => h1 x.1)]
    subst er
    simp [-D.isLit, i1, i2, h1, d3, boolD] <;> exact Sub.refl _
  by_cases h2 : m < 1
  · have er : r = (0, 0, false) := by rw [← hr]; unfold qnI; rw [if_neg (fun x => by have := x.2.1; omega)]
    subst er
    simp [-D.isLit, i1, i2, h1, h2, d3, boolD] <;> exact Sub.refl _
  by_cases h3 : 2000 < m
  · have er : r = (0, 0, false) := by rw [← hr]; unfold qnI; rw [if_neg (fun x => by have := x.2.2; omega)]
    subst er
    simp [-D.isLit, i1, i2, h1, h2, h3, d3, boolD] <;> exact Sub.refl _
  have w1 := qOk_QI h1
  have y1 := qOk_64 h1
  have hx := QI_qsz w1
  have er : (match nrO (Rat.divInt a b) m.toNat with | some (c, _) => oq c | none => (0, 0, false)) = r := by rw [← hr]; unfold qnI; rw [if_pos ⟨h1, by omega, by omega⟩]
  obtain ⟨x, hxx⟩ : ∃ x, x = Rat.divInt a b := ⟨_, rfl⟩
  rw [← hxx] at er hx
  simp [-D.isLit, i1, i2, h1, h2, h3, w1, ← hxx]
  refine loop_go (fun n st => ∃ d, n = m.toNat - d ∧ (d : Int) ≤ m ∧ st = qnS1 x m (nrO x d) (d + 1)) (s0 := qnS1 x m none 1) (n := m.toNat) (snd_obs (n := 77) [(4, 4, .box zQ4), (6, 6, .box (eRat x)), (7, 7, .box (bC eRat zR4 none)), (8, 8, .box (bG eRat zR4 none))] rfl (by simp [bC, bG, zR4, zQ4]) (by simp [qnS1])) ⟨0, rfl, by omega, rfl⟩ ?_
  rintro n st ⟨d, hn, hd, rfl⟩ KN hN
  have hb0 := nrO_ok hx d (by omega)
  by_cases h : (d : Int) < m
  · have hle : (d : Int) + 1 ≤ m := by omega
    have hd2 : d + 1 ≤ 2000 := by omega
    have hN0 := nrN_sz hx hd2
    have hdq := nat_qsz hd2
    have hdn := nat_ne (d := d + 1) (by omega)
    have hab : (((d : Nat) : Int) + 1).natAbs < 9223372036854775808 := by omega
    obtain ⟨D, hD⟩ : ∃ D : Rat, D = (((d + 1 : Nat) : Int) : Rat) := ⟨_, rfl⟩
    rw [← hD] at hdq hdn
    have eD : ((((d : Nat) : Int) + 1 : Int) : Rat) = D := hD.symm
    have s1 : qsz x + qsz D < MX := by rw [MX_val]; omega
    have s2 : qsz (x * D) < MX := by have := qsz_mul x D; rw [MX_val]; omega
    have eN : (x * D).floor = nrN x (d + 1) := by rw [hD]; rfl
    have w2 : IntKind.i64.wrap ((d : Int) + 1 + 1) = (d : Int) + 1 + 1 := i64_id _ (by omega) (by omega)
    simp [-D.isLit, -Rat.intCast_add, qnS1, hle, hab, eD, s1, s2, eN]
    generalize hNN : nrN x (d + 1) = N at *
    refine loop_go (fun n st => ∃ k : Nat, n = 2 - k ∧ k ≤ 2 ∧ st = qnS2 x m (bkF x (d + 1) N (nrO x d) k) (d + 1) (N + (k : Int)) k) (s0 := qnS2 x m (nrO x d) (d + 1) (N + ((0 : Nat) : Int)) 0) (n := 2) (snd_obs (n := 77) [(4, 4, .box zQ4), (6, 6, .box (eRat x)), (7, 7, .box (bC eRat zR4 (nrO x d))), (8, 8, .box (bG eRat zR4 (nrO x d)))] rfl (by simp) (by simp [qnS2])) ⟨0, rfl, by omega, rfl⟩ ?_
    rintro n' st' ⟨k, hn', hk, rfl⟩ KM hM
    have hbk := bkF_ok hx hN0.2 (d := d + 1) (by omega) hd2 hb0 k hk
    by_cases hk2 : k < 2
    · have hc := cnd_sz (N := N) (d := d + 1) (k := k) hN0.2 (by omega) hd2 (by omega)
      have hg := gnd_sz hx hc.2
      have hln := int_ln hc.1
      have en : ((N + (k : Int) : Int) : Rat) / D = cnd (d + 1) N k := by rw [hD]; rfl
      have f1 : ln (N + (k : Int)).natAbs < MX := by rw [MX_val]; omega
      have f2 : qsz ((N + (k : Int) : Int) : Rat) + qsz D < MX := by rw [MX_val]; omega
      have f3 : qsz (cnd (d + 1) N k) + qsz x < MX := by rw [MX_val]; omega
      have f4 : qsz (cnd (d + 1) N k - x) < LM := by rw [LM_val]; omega
      have z1 : SZ (N + (k : Int)) := SZ_of_ln (by omega)
      have z2 : SZ 1 := SZ_of_ln (by decide +kernel)
      have i0 : I64 1 := by unfold I64; omega
      have hk2i : (k : Int) < 2 := by omega
      have wk : IntKind.i64.wrap ((k : Int) + 1) = (k : Int) + 1 := i64_id _ (by omega) (by omega)
      have ek : N + (((k + 1 : Nat)) : Int) = N + (k : Int) + 1 := by omega
      have eb : bkF x (d + 1) N (nrO x d) (k + 1) = stp (bkF x (d + 1) N (nrO x d) k) (cnd (d + 1) N k) (nrabs (cnd (d + 1) N k - x)) := rfl
      cases hB : bkF x (d + 1) N (nrO x d) k with
      | none =>
        rw [hB] at eb
        have eb : bkF x (d + 1) N (nrO x d) (k + 1) = some (cnd (d + 1) N k, nrabs (cnd (d + 1) N k - x)) := eb
        simp [-D.isLit, -Rat.intCast_add, qnS2, bC, bG, zR4, hk2i, f1, f2, f3, f4, en, z1, z2, i0, wk, hab, eD, hdn]
        exact hM _ (nx (m := 2 - (k + 1)) (s'' := qnS2 x m (bkF x (d + 1) N (nrO x d) (k + 1)) (d + 1) (N + ((k + 1 : Nat) : Int)) (k + 1)) (Snd.trans (Snd.toData2 _ 10 69 (.ptr (eZ (N + (k : Int) + 1))) (by simp [St.get]) (by simp [St.mayFreeze, St.obj])) (snd_obs (n := 77) [(4, 4, .box zQ4), (6, 6, .box (eRat x)), (7, 7, .box (bC eRat zR4 (bkF x (d + 1) N (nrO x d) (k + 1)))), (8, 8, .box (bG eRat zR4 (bkF x (d + 1) N (nrO x d) (k + 1))))] rfl (by simp [St.frz, eb, bC, bG]) (by simp [qnS2, ek, St.frz, Int.add_assoc]))) ⟨k + 1, rfl, by omega, rfl⟩ (by omega))
      | some w =>
        obtain ⟨c', g'⟩ := w
        rw [hB] at eb
        have hbd := hbk c' g' hB
        have f5 : qsz (nrabs (cnd (d + 1) N k - x)) + qsz g' < MX := by rw [MX_val]; omega
        have eb : bkF x (d + 1) N (nrO x d) (k + 1) = if qcmp (nrabs (cnd (d + 1) N k - x)) g' < 0 then some (cnd (d + 1) N k, nrabs (cnd (d + 1) N k - x)) else some (c', g') := eb
        by_cases hs : smallQ c'
        · have e5 := eRat_s hs
          have e6 : ¬ c'.den = 0 := c'.den_nz
          by_cases hq : qcmp (nrabs (cnd (d + 1) N k - x)) g' < 0
          · rw [if_pos hq] at eb
            simp [-D.isLit, -Rat.intCast_add, qnS2, bC, bG, e5, e6, i64D, f5, hq, hk2i, f1, f2, f3, f4, en, z1, z2, i0, wk, hab, eD, hdn]
            exact hM _ (nx (m := 2 - (k + 1)) (s'' := qnS2 x m (bkF x (d + 1) N (nrO x d) (k + 1)) (d + 1) (N + ((k + 1 : Nat) : Int)) (k + 1)) (Snd.trans (Snd.toData2 _ 10 69 (.ptr (eZ (N + (k : Int) + 1))) (by simp [St.get]) (by simp [St.mayFreeze, St.obj])) (snd_obs (n := 77) [(4, 4, .box zQ4), (6, 6, .box (eRat x)), (7, 7, .box (bC eRat zR4 (bkF x (d + 1) N (nrO x d) (k + 1)))), (8, 8, .box (bG eRat zR4 (bkF x (d + 1) N (nrO x d) (k + 1))))] rfl (by simp [St.frz, eb, bC, bG]) (by simp [qnS2, ek, St.frz, Int.add_assoc]))) ⟨k + 1, rfl, by omega, rfl⟩ (by omega))
          · rw [if_neg hq] at eb
            simp [-D.isLit, -Rat.intCast_add, qnS2, bC, bG, e5, e6, i64D, f5, hq, hk2i, f1, f2, f3, f4, en, z1, z2, i0, wk, hab, eD, hdn]
            exact hM _ (nx (m := 2 - (k + 1)) (s'' := qnS2 x m (bkF x (d + 1) N (nrO x d) (k + 1)) (d + 1) (N + ((k + 1 : Nat) : Int)) (k + 1)) (Snd.trans (Snd.toData2 _ 10 69 (.ptr (eZ (N + (k : Int) + 1))) (by simp [St.get]) (by simp [St.mayFreeze, St.obj])) (snd_obs (n := 77) [(4, 4, .box zQ4), (6, 6, .box (eRat x)), (7, 7, .box (bC eRat zR4 (bkF x (d + 1) N (nrO x d) (k + 1)))), (8, 8, .box (bG eRat zR4 (bkF x (d + 1) N (nrO x d) (k + 1))))] rfl (by simp [St.frz, eb, bC, bG, e5, i64D]) (by simp [qnS2, ek, St.frz, Int.add_assoc]))) ⟨k + 1, rfl, by omega, rfl⟩ (by omega))
        · have e5 := eRat_b hs
          by_cases hq : qcmp (nrabs (cnd (d + 1) N k - x)) g' < 0
          · rw [if_pos hq] at eb
            simp [-D.isLit, -Rat.intCast_add, qnS2, bC, bG, e5, i64D, f5, hq, hk2i, f1, f2, f3, f4, en, z1, z2, i0, wk, hab, eD, hdn]
            exact hM _ (nx (m := 2 - (k + 1)) (s'' := qnS2 x m (bkF x (d + 1) N (nrO x d) (k + 1)) (d + 1) (N + ((k + 1 : Nat) : Int)) (k + 1)) (Snd.trans (Snd.toData2 _ 10 69 (.ptr (eZ (N + (k : Int) + 1))) (by simp [St.get]) (by simp [St.mayFreeze, St.obj])) (snd_obs (n := 77) [(4, 4, .box zQ4), (6, 6, .box (eRat x)), (7, 7, .box (bC eRat zR4 (bkF x (d + 1) N (nrO x d) (k + 1)))), (8, 8, .box (bG eRat zR4 (bkF x (d + 1) N (nrO x d) (k + 1))))] rfl (by simp [St.frz, eb, bC, bG]) (by simp [qnS2, ek, St.frz, Int.add_assoc]))) ⟨k + 1, rfl, by omega, rfl⟩ (by omega))
          · rw [if_neg hq] at eb
            simp [-D.isLit, -Rat.intCast_add, qnS2, bC, bG, e5, i64D, f5, hq, hk2i, f1, f2, f3, f4, en, z1, z2, i0, wk, hab, eD, hdn]
            exact hM _ (nx (m := 2 - (k + 1)) (s'' := qnS2 x m (bkF x (d + 1) N (nrO x d) (k + 1)) (d + 1) (N + ((k + 1 : Nat) : Int)) (k + 1)) (Snd.trans (Snd.toData2 _ 10 69 (.ptr (eZ (N + (k : Int) + 1))) (by simp [St.get]) (by simp [St.mayFreeze, St.obj])) (snd_obs (n := 77) [(4, 4, .box zQ4), (6, 6, .box (eRat x)), (7, 7, .box (bC eRat zR4 (bkF x (d + 1) N (nrO x d) (k + 1)))), (8, 8, .box (bG eRat zR4 (bkF x (d + 1) N (nrO x d) (k + 1))))] rfl (by simp [St.frz, eb, bC, bG, e5, i64D]) (by simp [qnS2, ek, St.frz, Int.add_assoc]))) ⟨k + 1, rfl, by omega, rfl⟩ (by omega))
    · have hk3 : k = 2 := by omega
      subst hk3
      have eo : bkF x (d + 1) N (nrO x d) 2 = nrO x (d + 1) := by rw [← hNN]; rfl
      rw [eo]
      simp [-D.isLit, qnS2, w2]
      exact hN _ (nx (m := m.toNat - (d + 1)) (s'' := qnS1 x m (nrO x (d + 1)) (d + 1 + 1)) (snd_obs (n := 77) [(4, 4, .box zQ4), (6, 6, .box (eRat x)), (7, 7, .box (bC eRat zR4 (nrO x (d + 1)))), (8, 8, .box (bG eRat zR4 (nrO x (d + 1))))] rfl (by simp) (by simp [qnS1])) ⟨d + 1, rfl, by omega, rfl⟩ (by omega))
  · have hdm : d = m.toNat := by omega
    have hle : ¬ (d : Int) + 1 ≤ m := by omega
    rw [← hdm] at er
    have hm1 : d ≠ 0 := by omega
    cases hB : nrO x d with
    | none => exact absurd ((nrO_none d).1 hB) hm1
    | some w =>
      obtain ⟨c', g'⟩ := w
      rw [hB] at er
      have er : oq c' = r := er
      subst er
      simp [-D.isLit, qnS1, hle, bC, bG, d3, boolD]
theorem iQn_ok : callable Tryz.prog 6 = true := by kernel_rfl
noncomputable def sQnTb : List (FuncId × Ct) := [(8, .data qokC), (9, .data nqC), (11, .data nMulC), (12, .data sint4C), (10, .data nFloorC), (15, .data zOfC), (14, .data zAddC), (13, .data nBigC), (17, .data nSubC), (16, .data sabs4C), (18, .data nCmpC), (19, .data nQC)]
theorem sQnTb_ok : TbOK NF Tryz.prog (tbl sQnTb) := tbl_cons (c := .data qokC) sQOk_spec sQOk_ok (tbl_cons (c := .data nqC) nq_spec l1q_ok (tbl_cons (c := .data nMulC) nMul_spec l1rMul_ok (tbl_cons (c := .data sint4C) sint4_spec sint4_ok (tbl_cons (c := .data nFloorC) nFloor_spec l1rFloor_ok (tbl_cons (c := .data zOfC) l1ZOf_spec l1ZOf_ok (tbl_cons (c := .data zAddC) l1ZAdd_spec l1ZAdd_ok (tbl_cons (c := .data nBigC) nBig_spec l1rBig_ok (tbl_cons (c := .data nSubC) nSub_spec l1rSub_ok (tbl_cons (c := .data sabs4C) sabs4_spec sabs4_ok (tbl_cons (c := .data nCmpC) nCmp_spec l1rCmp_ok (tbl_cons (c := .data nQC) nQ_spec l1rQ_ok tbl_nil)))))))))))

@[simp] theorem sQnTb1 : tbl sQnTb 8 = some (.data qokC) := rfl
@[simp] theorem sQnTb2 : tbl sQnTb 9 = some (.data nqC) := rfl
@[simp] theorem sQnTb3 : tbl sQnTb 11 = some (.data nMulC) := rfl
@[simp] theorem sQnTb4 : tbl sQnTb 12 = some (.data sint4C) := rfl
@[simp] theorem sQnTb5 : tbl sQnTb 10 = some (.data nFloorC) := rfl
@[simp] theorem sQnTb6 : tbl sQnTb 15 = some (.data zOfC) := rfl
@[simp] theorem sQnTb7 : tbl sQnTb 14 = some (.data zAddC) := rfl
@[simp] theorem sQnTb8 : tbl sQnTb 13 = some (.data nBigC) := rfl
@[simp] theorem sQnTb9 : tbl sQnTb 17 = some (.data nSubC) := rfl
@[simp] theorem sQnTb10 : tbl sQnTb 16 = some (.data sabs4C) := rfl
@[simp] theorem sQnTb11 : tbl sQnTb 18 = some (.data nCmpC) := rfl
@[simp] theorem sQnTb12 : tbl sQnTb 19 = some (.data nQC) := rfl
def snS1 (x : Rat) (m : Int) (b : Option (Rat × Rat)) (d : Nat) : St := ⟨[.any, .dat (.lit (.int .i64 m)), .any, .any, .obj 4 [] 0, .any, .obj 6 [] 0, .obj 7 [] 0, .obj 8 [] 0, .dat (.lit (.int .i64 d)), .any, .any, .any, .any, .any, .any, .any, .any, .any, .any, .any, .any, .any, .any, .any, .any, .any, .any, .any, .any, .any, .any, .any, .any, .any, .any, .any, .any, .any, .any, .any, .any, .any, .any, .any, .any, .any, .any, .any, .any, .any, .any, .any, .any, .any, .any, .any, .any, .any, .any, .any, .any, .any, .any, .any, .any, .any, .any, .any, .any, .any, .any, .any], [none, none, none, none, some (.box zQ4), none, some (.box (nD x)), some (.box (bC nD zN4 b)), some (.box (bG nD zN4 b)), none, none, none, none, none, none, none, none, none, none, none, none, none, none, none, none, none, none, none, none, none, none, none, none, none, none, none, none, none, none, none, none, none, none, none, none, none, none, none, none, none, none, none, none, none, none, none, none, none, none, none, none, none, none, none, none, none, none, none, none, none, none, none, none]⟩
def snS2 (x : Rat) (m : Int) (b : Option (Rat × Rat)) (d : Nat) (n : Int) (k : Nat) : St := ⟨[.any, .dat (.lit (.int .i64 m)), .any, .any, .obj 4 [] 0, .any, .obj 6 [] 0, .obj 7 [] 0, .obj 8 [] 0, .dat (.lit (.int .i64 d)), .obj 10 [] 0, .dat (.lit (.int .i64 k)), .any, .any, .any, .any, .any, .any, .any, .any, .any, .any, .any, .any, .any, .any, .any, .any, .any, .any, .any, .any, .any, .any, .any, .any, .any, .any, .any, .any, .any, .any, .any, .any, .any, .any, .any, .any, .any, .any, .any, .any, .any, .any, .any, .any, .any, .any, .any, .any, .any, .any, .any, .any, .any, .any, .any, .any, .any, .any, .any, .any, .any], [none, none, none, none, some (.box zQ4), none, some (.box (nD x)), some (.box (bC nD zN4 b)), some (.box (bG nD zN4 b)), none, some (.box (eZ n)), none, none, none, none, none, none, none, none, none, none, none, none, none, none, none, none, none, none, none, none, none, none, none, none, none, none, none, none, none, none, none, none, none, none, none, none, none, none, none, none, none, none, none, none, none, none, none, none, none, none, none, none, none, none, none, none, none, none, none, none, none, none]⟩
set_option maxRecDepth 100000 in
set_option maxHeartbeats 4000000 in
theorem sQn_spec : SpecD NF Tryz.prog 4 qnC := by
  refine rd2 (mf := fun f => false) sQnTb_ok (fn := Tryz.f4) (by kernel_rfl) rfl (by kernel_rfl) (by kernel_rfl) ?_
  rintro ⟨a, b⟩ m ⟨⟨i1, i2⟩, hm⟩
  have i1 : I64 a := i1
  have i2 : I64 b := i2
  have hm : I64 m := hm
  generalize hr : qnI a b m = r
  show awp _ _ _ _ (start _ ([eQ a b, .lit (.int .i64 m)].map .dat) []) (endK _ _ _ ((d3 r).map .dat) [])
  simp only [Tryz.f4]
  by_cases h1 : qOk a b
  case neg =>
    have er : r = (0, 0, false) := by rw [← hr]; unfold qnI; rw [if_neg (fun x => h1 x.1)]
    subst er
    simp [-D.isLit, i1, i2, h1, d3, boolD] <;> exact Sub.refl _
  by_cases h2 : m < 1
  · have er : r = (0, 0, false) := by rw [← hr]; unfold qnI; rw [if_neg (fun x => by have := x.2.1; omega)]
    subst er
    simp [-D.isLit, i1, i2, h1, h2, d3, boolD] <;> exact Sub.refl _
  by_cases h3 : 2000 < m
  · have er : r = (0, 0, false) := by rw [← hr]; unfold qnI; rw [if_neg (fun x => by have := x.2.2; omega)]
    subst er
    simp [-D.isLit, i1, i2, h1, h2, h3, d3, boolD] <;> exact Sub.refl _
  have w1 := qOk_QI h1
  have y1 := qOk_64 h1
  have hx := QI_qsz w1
  have er : (match nrO (Rat.divInt a b) m.toNat with | some (c, _) => oq c | none => (0, 0, false)) = r := by rw [← hr]; unfold qnI; rw [if_pos ⟨h1, by omega, by omega⟩]
  obtain ⟨x, hxx⟩ : ∃ x, x = Rat.divInt a b := ⟨_, rfl⟩
  rw [← hxx] at er hx
  simp [-D.isLit, i1, i2, h1, h2, h3, y1, ← hxx]
  refine loop_go (fun n st => ∃ d, n = m.toNat - d ∧ (d : Int) ≤ m ∧ st = snS1 x m (nrO x d) (d + 1)) (s0 := snS1 x m none 1) (n := m.toNat) (snd_obs (n := 73) [(4, 4, .box zQ4), (6, 6, .box (nD x)), (7, 7, .box (bC nD zN4 none)), (8, 8, .box (bG nD zN4 none))] rfl (by simp [bC, bG, zN4, zQ4]) (by simp [snS1])) ⟨0, rfl, by omega, rfl⟩ ?_
  rintro n st ⟨d, hn, hd, rfl⟩ KN hN
  have hb0 := nrO_ok hx d (by omega)
  by_cases h : (d : Int) < m
  · have hle : (d : Int) + 1 ≤ m := by omega
    have hd2 : d + 1 ≤ 2000 := by omega
    have hN0 := nrN_sz hx hd2
    have hdq := nat_qsz hd2
    have i64d : I64 ((d : Int) + 1) := by unfold I64; omega
    obtain ⟨D, hD⟩ : ∃ D : Rat, D = (((d + 1 : Nat) : Int) : Rat) := ⟨_, rfl⟩
    rw [← hD] at hdq
    have eD : ((((d : Nat) : Int) + 1 : Int) : Rat) = D := hD.symm
    have s1 : qsz x + qsz D < MX := by rw [MX_val]; omega
    have eN : (x * D).floor = nrN x (d + 1) := by rw [hD]; rfl
    have w2 : IntKind.i64.wrap ((d : Int) + 1 + 1) = (d : Int) + 1 + 1 := i64_id _ (by omega) (by omega)
    simp [-D.isLit, -Rat.intCast_add, snS1, hle, i64d, eD, s1, eN]
    generalize hNN : nrN x (d + 1) = N at *
    refine loop_go (fun n st => ∃ k : Nat, n = 2 - k ∧ k ≤ 2 ∧ st = snS2 x m (bkF x (d + 1) N (nrO x d) k) (d + 1) N k) (s0 := snS2 x m (nrO x d) (d + 1) N 0) (n := 2) (snd_obs (n := 73) [(4, 4, .box zQ4), (6, 6, .box (nD x)), (7, 7, .box (bC nD zN4 (nrO x d))), (8, 8, .box (bG nD zN4 (nrO x d))), (10, 10, .box (eZ N))] rfl (by simp) (by simp [snS2])) ⟨0, rfl, by omega, rfl⟩ ?_
    rintro n' st' ⟨k, hn', hk, rfl⟩ KM hM
    have hbk := bkF_ok hx hN0.2 (d := d + 1) (by omega) hd2 hb0 k hk
    by_cases hk2 : k < 2
    · have hc := cnd_sz (N := N) (d := d + 1) (k := k) hN0.2 (by omega) hd2 (by omega)
      have hg := gnd_sz hx hc.2
      have hln := int_ln hc.1
      have en : Rat.divInt (N + (k : Int)) ((d : Int) + 1) = cnd (d + 1) N k := by rw [Rat.divInt_eq_div]; rfl
      have eg : nrabs (x - cnd (d + 1) N k) = nrabs (cnd (d + 1) N k - x) := nrabs_sub _ _
      have f3 : qsz x + qsz (cnd (d + 1) N k) < MX := by rw [MX_val]; omega
      have z0 : SZ N := SZ_of_ln (by omega)
      have z1 : SZ (N + (k : Int)) := SZ_of_ln (by omega)
      have z2 : SZ (k : Int) := SZ_I64 (by unfold I64; omega)
      have z3 : SZ ((d : Int) + 1) := SZ_I64 i64d
      have ik : I64 (k : Int) := by unfold I64; omega
      have hd1 : ¬ (d : Int) + 1 = 0 := by omega
      have hk2i : (k : Int) < 2 := by omega
      have wk : IntKind.i64.wrap ((k : Int) + 1) = (k : Int) + 1 := i64_id _ (by omega) (by omega)
      have eb : bkF x (d + 1) N (nrO x d) (k + 1) = stp (bkF x (d + 1) N (nrO x d) k) (cnd (d + 1) N k) (nrabs (cnd (d + 1) N k - x)) := rfl
      cases hB : bkF x (d + 1) N (nrO x d) k with
      | none =>
        obtain ⟨hd0, hk0⟩ := (bkF_none (x := x) (d := d + 1) (dd := d) (N := N) k).1 hB
        rw [hB] at eb
        have eb : bkF x (d + 1) N (nrO x d) (k + 1) = some (cnd (d + 1) N k, nrabs (cnd (d + 1) N k - x)) := eb
        have hdT : ((d : Int) + 1 = 1) = True := eq_true (by omega)
        have hkT : (k = 0) = True := eq_true hk0
        have hkT' : ((k : Int) = 0) = True := eq_true (by omega)
        simp [-D.isLit, -Rat.intCast_add, snS2, bC, bG, zN4, hdT, hkT, hkT', hk2i, en, eg, f3, z0, z1, z2, z3, ik, hd1, wk, i64d, eD]
        exact hM _ (nx (m := 2 - (k + 1)) (s'' := snS2 x m (bkF x (d + 1) N (nrO x d) (k + 1)) (d + 1) N (k + 1)) (snd_obs (n := 73) [(4, 4, .box zQ4), (6, 6, .box (nD x)), (7, 7, .box (bC nD zN4 (bkF x (d + 1) N (nrO x d) (k + 1)))), (8, 8, .box (bG nD zN4 (bkF x (d + 1) N (nrO x d) (k + 1)))), (10, 10, .box (eZ N))] rfl (by simp [eb, bC, bG]) (by simp [snS2])) ⟨k + 1, rfl, by omega, rfl⟩ (by omega))
      | some w =>
        obtain ⟨c', g'⟩ := w
        have hnn : ¬ (d = 0 ∧ k = 0) := fun x' => by
          have := (bkF_none (x := x) (d := d + 1) (dd := d) (N := N) k).2 x'
          rw [hB] at this; cases this
        rw [hB] at eb
        have hbd := hbk c' g' hB
        have f5 : qsz (nrabs (cnd (d + 1) N k - x)) + qsz g' < MX := by rw [MX_val]; omega
        have eb : bkF x (d + 1) N (nrO x d) (k + 1) = if qcmp (nrabs (cnd (d + 1) N k - x)) g' < 0 then some (cnd (d + 1) N k, nrabs (cnd (d + 1) N k - x)) else some (c', g') := eb
        by_cases hq : qcmp (nrabs (cnd (d + 1) N k - x)) g' < 0
        · rw [if_pos hq] at eb
          by_cases hd0 : d = 0
          · have hk0 : ¬ k = 0 := fun x' => hnn ⟨hd0, x'⟩
            have hdT : ((d : Int) + 1 = 1) = True := eq_true (by omega)
            simp [-D.isLit, -Rat.intCast_add, snS2, bC, bG, hdT, hk0, f5, hq, hk2i, en, eg, f3, z0, z1, z2, z3, ik, hd1, wk, i64d, eD]
            exact hM _ (nx (m := 2 - (k + 1)) (s'' := snS2 x m (bkF x (d + 1) N (nrO x d) (k + 1)) (d + 1) N (k + 1)) (snd_obs (n := 73) [(4, 4, .box zQ4), (6, 6, .box (nD x)), (7, 7, .box (bC nD zN4 (bkF x (d + 1) N (nrO x d) (k + 1)))), (8, 8, .box (bG nD zN4 (bkF x (d + 1) N (nrO x d) (k + 1)))), (10, 10, .box (eZ N))] rfl (by simp [eb, bC, bG]) (by simp [snS2])) ⟨k + 1, rfl, by omega, rfl⟩ (by omega))
          · have hdF : ((d : Int) + 1 = 1) = False := eq_false (by omega)
            simp [-D.isLit, -Rat.intCast_add, snS2, bC, bG, hdF, f5, hq, hk2i, en, eg, f3, z0, z1, z2, z3, ik, hd1, wk, i64d, eD]
            exact hM _ (nx (m := 2 - (k + 1)) (s'' := snS2 x m (bkF x (d + 1) N (nrO x d) (k + 1)) (d + 1) N (k + 1)) (snd_obs (n := 73) [(4, 4, .box zQ4), (6, 6, .box (nD x)), (7, 7, .box (bC nD zN4 (bkF x (d + 1) N (nrO x d) (k + 1)))), (8, 8, .box (bG nD zN4 (bkF x (d + 1) N (nrO x d) (k + 1)))), (10, 10, .box (eZ N))] rfl (by simp [eb, bC, bG]) (by simp [snS2])) ⟨k + 1, rfl, by omega, rfl⟩ (by omega))
        · rw [if_neg hq] at eb
          by_cases hd0 : d = 0
          · have hk0 : ¬ k = 0 := fun x' => hnn ⟨hd0, x'⟩
            have hdT : ((d : Int) + 1 = 1) = True := eq_true (by omega)
            simp [-D.isLit, -Rat.intCast_add, snS2, bC, bG, hdT, hk0, f5, hq, hk2i, en, eg, f3, z0, z1, z2, z3, ik, hd1, wk, i64d, eD]
            exact hM _ (nx (m := 2 - (k + 1)) (s'' := snS2 x m (bkF x (d + 1) N (nrO x d) (k + 1)) (d + 1) N (k + 1)) (snd_obs (n := 73) [(4, 4, .box zQ4), (6, 6, .box (nD x)), (7, 7, .box (bC nD zN4 (bkF x (d + 1) N (nrO x d) (k + 1)))), (8, 8, .box (bG nD zN4 (bkF x (d + 1) N (nrO x d) (k + 1)))), (10, 10, .box (eZ N))] rfl (by simp [eb, bC, bG]) (by simp [snS2])) ⟨k + 1, rfl, by omega, rfl⟩ (by omega))
          · have hdF : ((d : Int) + 1 = 1) = False := eq_false (by omega)
            simp [-D.isLit, -Rat.intCast_add, snS2, bC, bG, hdF, f5, hq, hk2i, en, eg, f3, z0, z1, z2, z3, ik, hd1, wk, i64d, eD]
            exact hM _ (nx (m := 2 - (k + 1)) (s'' := snS2 x m (bkF x (d + 1) N (nrO x d) (k + 1)) (d + 1) N (k + 1)) (snd_obs (n := 73) [(4, 4, .box zQ4), (6, 6, .box (nD x)), (7, 7, .box (bC nD zN4 (bkF x (d + 1) N (nrO x d) (k + 1)))), (8, 8, .box (bG nD zN4 (bkF x (d + 1) N (nrO x d) (k + 1)))), (10, 10, .box (eZ N))] rfl (by simp [eb, bC, bG]) (by simp [snS2])) ⟨k + 1, rfl, by omega, rfl⟩ (by omega))
    · have hk3 : k = 2 := by omega
      subst hk3
      have eo : bkF x (d + 1) N (nrO x d) 2 = nrO x (d + 1) := by rw [← hNN]; rfl
      rw [eo]
      simp [-D.isLit, snS2, w2]
      exact hN _ (nx (m := m.toNat - (d + 1)) (s'' := snS1 x m (nrO x (d + 1)) (d + 1 + 1)) (snd_obs (n := 73) [(4, 4, .box zQ4), (6, 6, .box (nD x)), (7, 7, .box (bC nD zN4 (nrO x (d + 1)))), (8, 8, .box (bG nD zN4 (nrO x (d + 1))))] rfl (by simp) (by simp [snS1])) ⟨d + 1, rfl, by omega, rfl⟩ (by omega))
  · have hdm : d = m.toNat := by omega
    have hle : ¬ (d : Int) + 1 ≤ m := by omega
    rw [← hdm] at er
    have hm1 : d ≠ 0 := by omega
    cases hB : nrO x d with
    | none => exact absurd ((nrO_none d).1 hB) hm1
    | some w =>
      obtain ⟨c', g'⟩ := w
      rw [hB] at er
      have er : oq c' = r := er
      subst er
      simp [-D.isLit, snS1, hle, bC, bG, d3, boolD]
theorem sQn_ok : callable Tryz.prog 4 = true := by kernel_rfl

/-! l.FnExactQNear -/
noncomputable def lwQNearC := ct2 EQ EInt (fun p0 p1 => (I64 p0.1 ∧ I64 p0.2) ∧ I64 p1) (fun p0 p1 => [.lit (.bool true)])
@[simp] theorem lwQNearC_at (a b : Int) (m : Int) : lwQNearC [eQ a b, .lit (.int .i64 m)] = ((I64 a ∧ I64 b) ∧ I64 m, [.lit (.bool true)]) := ct2_at (a, b) m
noncomputable def lwQNearTb : List (FuncId × Ct) := [(5, .data toQC), (6, .data qnC), (4, .data qnC), (7, .data eqQC)]
theorem lwQNearTb_ok : TbOK NF Tryz.prog (tbl lwQNearTb) := tbl_cons (c := .data toQC) toQ_spec toQ_ok (tbl_cons (c := .data qnC) iQn_spec iQn_ok (tbl_cons (c := .data qnC) sQn_spec sQn_ok (tbl_cons (c := .data eqQC) eqQ_spec eqQ_ok tbl_nil)))

@[simp] theorem lwQNearTb1 : tbl lwQNearTb 5 = some (.data toQC) := rfl
@[simp] theorem lwQNearTb2 : tbl lwQNearTb 6 = some (.data qnC) := rfl
@[simp] theorem lwQNearTb3 : tbl lwQNearTb 4 = some (.data qnC) := rfl
@[simp] theorem lwQNearTb4 : tbl lwQNearTb 7 = some (.data eqQC) := rfl
theorem lwQNear_spec : SpecD NF Tryz.prog 3 lwQNearC := by
  refine rd2 (mf := fun f => false) lwQNearTb_ok (fn := Tryz.f3) (by kernel_rfl) rfl (by kernel_rfl) (by kernel_rfl) ?_
  rintro ⟨a, b⟩ m hp
  have hp : (I64 a ∧ I64 b) ∧ I64 m := hp
  show awp _ _ _ _ (start _ ([eQ a b, .lit (.int .i64 m)].map .dat) []) (endK _ _ _ (([.lit (.bool true)]).map .dat) [])
  have c1 := qnC_at a b m
  generalize qnI a b m = r at c1
  simp [-D.isLit, -qnC_at, Tryz.f3, hp, c1, d3, boolD, eqQ_self]
theorem lwQNear_ok : callable Tryz.prog 3 = true := by kernel_rfl
theorem lwQNear_calls (a b m : Int) (ha : (Lit.int .i64 a).wf = true) (hb : (Lit.int .i64 b).wf = true) (hm : (Lit.int .i64 m).wf = true) (w : World) :
    Calls Tryz.prog 3 #[.agg #[.int .i64 a, .int .i64 b], .int .i64 m] w fun e w' => e = .returned (.bool true) ∧ Below w.heap.size w w' :=
  law_calls lwQNear_spec (ds := [eQ a b, .lit (.int .i64 m)]) (by rw [lwQNearC_at]; exact ⟨⟨wf64 ha, wf64 hb⟩, wf64 hm⟩) (by rw [lwQNearC_at]; rfl) (vs := [.agg #[.int .i64 a, .int .i64 b], .int .i64 m]) (repVs_cons (repV_flat (cs := [.int .i64 a, .int .i64 b]) rfl (fun v hv => by simp at hv; rcases hv with rfl | rfl <;> rfl) rfl) (repVs_cons (RepV.of_lit rfl) repVs_nil))
end Go.Proofs.YtdkgkcnllhcamaaGreat.Ae
