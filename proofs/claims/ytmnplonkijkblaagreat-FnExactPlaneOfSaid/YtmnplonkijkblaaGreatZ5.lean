/- Texts put together, in the order in which they build: L65, L66, L67, L68, L69, S3, L70, S4, S5, T1, T2, T4, T20, T3, T5, Q2, T6, T21. No condition. -/
import Derived.Test.YtmnplonkijkblaaGreatZ4
import Derived.Below
import Derived.OpenShut
set_option linter.unusedVariables false
set_option linter.unusedSimpArgs false
/-! impl.rat: what it holds; little, big, fit, ri, rq, low, neg. No condition. -/
namespace Go.Proofs.YtmnplonkijkblaaGreat.Ae
open Go Go.RowKit Go.Proofs.YtmnplonkijkblaaGreat.Dig
variable {N : NR}

def smallQ (q : Rat) : Prop := q.num.natAbs < 9223372036854775808 ∧ q.den < 9223372036854775808
instance (q : Rat) : Decidable (smallQ q) := by unfold smallQ; infer_instance
/-- A fraction as the program holds it. -/
def eRat (q : Rat) : D := if smallQ q then .agg [i64D q.num, i64D q.den, .lit (.pointer none)] else .agg [i64D 0, i64D 0, .ptr (eBR q)]
theorem eRat_s {q : Rat} (h : smallQ q) : eRat q = .agg [i64D q.num, i64D q.den, .lit (.pointer none)] := by unfold eRat; rw [if_pos h]
theorem eRat_b {q : Rat} (h : ¬ smallQ q) : eRat q = .agg [i64D 0, i64D 0, .ptr (eBR q)] := by unfold eRat; rw [if_neg h]
@[simp] theorem eRat_size (q : Rat) : (eRat q).size = 3 := by unfold eRat; split <;> rfl
@[simp] theorem eRat_agg (q : Rat) : (eRat q).isAgg = true := by unfold eRat; split <;> rfl
@[simp] theorem eRat_lit (q : Rat) : (eRat q).isLit = false := by unfold eRat; split <;> rfl
theorem eRat_inj {a b : Rat} (h : eRat a = eRat b) : a = b := by
  by_cases ha : smallQ a <;> by_cases hb : smallQ b
  · rw [eRat_s ha, eRat_s hb] at h
    simp only [D.agg.injEq, List.cons.injEq, and_true, i64D, D.lit.injEq, Value.int.injEq, true_and] at h
    exact Rat.ext h.1 (by omega)
  · rw [eRat_s ha, eRat_b hb] at h; simp at h
  · rw [eRat_b ha, eRat_s hb] at h; simp at h
  · rw [eRat_b ha, eRat_b hb] at h
    simp only [D.agg.injEq, List.cons.injEq, and_true, true_and, D.ptr.injEq] at h
    exact eBR_inj h
def r1E (p : Q1) : List D := [eRat p.a]
theorem r1E_inj (p q : Q1) (h : r1E p = r1E q) : p = q := by
  obtain ⟨a⟩ := p; obtain ⟨b⟩ := q
  simp only [r1E, List.cons.injEq, and_true] at h
  rw [eRat_inj h]
def r2E (p : Q2) : List D := [eRat p.a, eRat p.b]
theorem r2E_inj (p q : Q2) (h : r2E p = r2E q) : p = q := by
  obtain ⟨a, b⟩ := p; obtain ⟨c, d⟩ := q
  simp only [r2E, List.cons.injEq, and_true] at h
  rw [eRat_inj h.1, eRat_inj h.2]
def boolD (b : Bool) : D := .lit (.bool b)
theorem smallQ_qsz {q : Rat} (h : smallQ q) : qsz q ≤ 2 := by
  unfold smallQ at h
  exact Nat.max_le.2 ⟨ln_i64 (by omega), ln_i64 (by omega)⟩

/-! little -/
def lit31 (q : Rat) : Prop := q.num.natAbs < 2147483648 ∧ q.den < 2147483648
instance (q : Rat) : Decidable (lit31 q) := by unfold lit31; infer_instance
theorem lit31_small {q : Rat} (h : lit31 q) : smallQ q := ⟨by unfold lit31 at h; omega, by unfold lit31 at h; omega⟩
noncomputable def littleC := ctD r1E (fun p => True) (fun p => [boolD (decide (lit31 p.a))])
theorem littleC_at (a : Rat) : littleC [eRat a] = (True, [boolD (decide (lit31 a))]) := ctD_at r1E_inj ⟨a⟩
theorem little_spec : SpecD N Tryz.prog 77 littleC := by
  refine rdD (mf := fun f => false) tbl_nil (fn := Tryz.f77) (by kernel_rfl) rfl (by kernel_rfl) ?_
  rintro ⟨a⟩ _
  refine ⟨by show 1 ≤ 21; decide, ?_⟩
  simp only [r1E, Tryz.f77, boolD]
  by_cases ha : smallQ a
  · rw [eRat_s ha]
    have e : decide (lit31 a) = (decide (-2147483648 < a.num) && (decide (a.num < 2147483648) && decide ((a.den : Int) < 2147483648))) := by
      rw [← Bool.decide_and, ← Bool.decide_and]
      congr 1
      apply propext
      unfold lit31
      omega
    rw [e]
    generalize a.num = n
    generalize (a.den : Int) = d
    by_cases h1 : -2147483648 < n <;> by_cases h2 : n < 2147483648 <;> by_cases h3 : d < 2147483648 <;> simp [i64D, h1, h2, h3]
  · have e : decide (lit31 a) = false := by
      rw [decide_eq_false_iff_not]
      exact fun h => ha (lit31_small h)
    rw [eRat_b ha, e]
    simp [i64D]
theorem little_ok : callable Tryz.prog 77 = true := by kernel_rfl

/-! big -/
noncomputable def bigIC := ctD r1E (fun p => True) (fun p => [.ptr (eBR p.a)])
theorem bigIC_at (a : Rat) : bigIC [eRat a] = (True, [.ptr (eBR a)]) := ctD_at r1E_inj ⟨a⟩
noncomputable def bigITb : List (FuncId × Ct) := [(109, .data nbrC)]
theorem bigITb_ok : TbOK N Tryz.prog (tbl bigITb) := tbl_cons (c := .data nbrC) newBigRat_spec newBigRat_ok tbl_nil

@[simp] theorem bigITb1 : tbl bigITb 109 = some (.data nbrC) := rfl
theorem big_spec : SpecD N Tryz.prog 81 bigIC := by
  refine rdD (mf := fun f => false) bigITb_ok (fn := Tryz.f81) (by kernel_rfl) rfl (by kernel_rfl) ?_
  rintro ⟨a⟩ _
  refine ⟨by show 1 ≤ 13; decide, ?_⟩
  simp only [r1E, Tryz.f81]
  by_cases ha : smallQ a
  · rw [eRat_s ha]
    have c1 := nbrC_at a.num a.den
    unfold smallQ at ha
    have h1 : I64 a.num := by unfold I64; omega
    have h2 : I64 (a.den : Int) := by unfold I64; omega
    rw [Rat.num_divInt_den] at c1
    simp only [h1, h2, dz a, ne_eq, not_false_eq_true, and_self, i64D] at c1
    simp [i64D, c1]
  · rw [eRat_b ha]
    simp [i64D]
theorem big_ok : callable Tryz.prog 81 = true := by kernel_rfl

/-! fit -/
noncomputable def fitC := ctD pbE (fun p => qsz p.a < 1099511627776) (fun p => [eRat p.a])
theorem fitC_at (a : Rat) : fitC [.ptr (eBR a)] = (qsz a < 1099511627776, [eRat a]) := ctD_at pbE_inj ⟨a⟩
noncomputable def fitTb : List (FuncId × Ct) := [(104, .data numC), (106, .data denC), (105, .data isI64C), (107, .data int64C)]
theorem fitTb_ok : TbOK N Tryz.prog (tbl fitTb) := tbl_cons (c := .data numC) Num_spec Num_ok (tbl_cons (c := .data denC) Denom_spec Denom_ok (tbl_cons (c := .data isI64C) IsInt64_spec IsInt64_ok (tbl_cons (c := .data int64C) Int64_spec Int64_ok tbl_nil)))

@[simp] theorem fitTb1 : tbl fitTb 104 = some (.data numC) := rfl
@[simp] theorem fitTb2 : tbl fitTb 106 = some (.data denC) := rfl
@[simp] theorem fitTb3 : tbl fitTb 105 = some (.data isI64C) := rfl
@[simp] theorem fitTb4 : tbl fitTb 107 = some (.data int64C) := rfl
theorem fit_spec : SpecD N Tryz.prog 79 fitC := by
  refine rdD (mf := fun f => false) fitTb_ok (fn := Tryz.f79) (by kernel_rfl) rfl (by kernel_rfl) ?_
  rintro ⟨a⟩ ha
  have ha : qsz a < 1099511627776 := ha
  refine ⟨by show 1 ≤ 24; decide, ?_⟩
  simp only [pbE, Tryz.f79]
  have c1 := numC_at a
  have c2 := denC_at a
  have c3 := isI64C_at a.num
  have c4 := isI64C_at a.den
  have c5 := int64C_at a.num
  have c6 := int64C_at a.den
  simp only [ha, SZ_num ha, SZ_den ha, i64D] at c1 c2 c3 c4 c5 c6
  by_cases hs : smallQ a
  · rw [eRat_s hs]
    unfold smallQ at hs
    have h1 : I64 a.num := by unfold I64; omega
    have h2 : I64 (a.den : Int) := by unfold I64; omega
    have h3 : -9223372036854775808 < a.num := by omega
    simp only [h1, h2, decide_true] at c3 c4 c5 c6
    simp [i64D, c1, c2, c3, c4, c5, c6, h3]
  · rw [eRat_b hs]
    by_cases h1 : I64 a.num
    · by_cases h2 : I64 (a.den : Int)
      · have h3 : ¬ -9223372036854775808 < a.num := by
          intro h
          refine hs ⟨?_, ?_⟩
          · unfold I64 at h1; omega
          · unfold I64 at h2; omega
        simp only [h1, h2, decide_true] at c3 c4 c5 c6
        simp [i64D, c1, c2, c3, c4, c5, c6, h3]
      · simp only [h1, h2, decide_true, decide_false] at c3 c4
        simp [i64D, c1, c2, c3, c4]
    · simp only [h1, decide_false] at c3
      simp [i64D, c1, c2, c3]
theorem fit_ok : callable Tryz.prog 79 = true := by kernel_rfl

/-! ri, rq, low, neg -/
theorem smallQ_int {n : Int} (h : n.natAbs < 9223372036854775808) : smallQ (n : Rat) := ⟨by rw [Rat.num_intCast]; exact h, by rw [Rat.den_intCast]; decide⟩
noncomputable def riC := ctD z1E (fun p => p.a.natAbs < 9223372036854775808) (fun p => [eRat (p.a : Rat)])
theorem riC_at (a : Int) : riC [i64D a] = (a.natAbs < 9223372036854775808, [eRat (a : Rat)]) := ctD_at z1E_inj ⟨a⟩
theorem ri_spec : SpecD N Tryz.prog 68 riC := by
  refine rdD (mf := fun f => false) tbl_nil (fn := Tryz.f68) (by kernel_rfl) rfl (by kernel_rfl) ?_
  rintro ⟨a⟩ ha
  have ha : a.natAbs < 9223372036854775808 := ha
  refine ⟨by show 1 ≤ 5; decide, ?_⟩
  simp only [z1E, Tryz.f68, eRat_s (smallQ_int ha), Rat.num_intCast, Rat.den_intCast, i64D]
  simp
/-- A fraction in lowest terms. -/
def QI (n d : Int) : Prop := 0 < d ∧ Int.gcd n d = 1 ∧ n.natAbs < 9223372036854775808 ∧ d < 9223372036854775808
theorem QI_num {n d : Int} (h : QI n d) : (Rat.divInt n d).num = n ∧ ((Rat.divInt n d).den : Int) = d := by
  obtain ⟨h1, h2, _⟩ := h
  obtain ⟨e1, e2⟩ := low_pos (a := n) h1
  rw [h2] at e1 e2
  rw [← e1, ← e2]
  simp
theorem QI_small {n d : Int} (h : QI n d) : smallQ (Rat.divInt n d) := by
  obtain ⟨e1, e2⟩ := QI_num h
  obtain ⟨h1, h2, h3, h4⟩ := h
  refine ⟨by rw [e1]; exact h3, by omega⟩
theorem eRat_QI {n d : Int} (h : QI n d) : eRat (Rat.divInt n d) = .agg [i64D n, i64D d, .lit (.pointer none)] := by
  obtain ⟨e1, e2⟩ := QI_num h
  rw [eRat_s (QI_small h), e1, e2]
noncomputable def rqC := ctD qE (fun p => QI p.a p.b) (fun p => [eRat (Rat.divInt p.a p.b)])
theorem rqC_at (a b : Int) : rqC [eQ a b] = (QI a b, [eRat (Rat.divInt a b)]) := ctD_at qE_inj ⟨a, b⟩
theorem rq_spec : SpecD N Tryz.prog 50 rqC := by
  refine rdD (mf := fun f => false) tbl_nil (fn := Tryz.f50) (by kernel_rfl) rfl (by kernel_rfl) ?_
  rintro ⟨a, b⟩ h
  have h : QI a b := h
  refine ⟨by show 1 ≤ 8; decide, ?_⟩
  simp only [qE, Tryz.f50, eRat_QI h, i64D, eQ]
  simp
theorem rq_ok : callable Tryz.prog 50 = true := by kernel_rfl

/-! low -/
noncomputable def lowC := ctD iiE (fun p => p.a.natAbs < 9223372036854775808 ∧ 0 < p.b ∧ p.b < 9223372036854775808) (fun p => [eRat (Rat.divInt p.a p.b)])
theorem lowC_at (a b : Int) : lowC [i64D a, i64D b] = ((a.natAbs < 9223372036854775808 ∧ 0 < b ∧ b < 9223372036854775808), [eRat (Rat.divInt a b)]) := ctD_at iiE_inj ⟨a, b⟩
noncomputable def lowTb : List (FuncId × Ct) := [(100, .data absC), (99, .data gcdC)]
theorem lowTb_ok : TbOK N Tryz.prog (tbl lowTb) := tbl_cons (c := .data absC) abs64_spec abs64_ok (tbl_cons (c := .data gcdC) gcd64_spec gcd64_ok tbl_nil)

@[simp] theorem lowTb1 : tbl lowTb 100 = some (.data absC) := rfl
@[simp] theorem lowTb2 : tbl lowTb 99 = some (.data gcdC) := rfl
theorem small_divInt {n d : Int} (hn : n.natAbs < 9223372036854775808) (h0 : 0 < d) (hd : d < 9223372036854775808) : smallQ (Rat.divInt n d) :=
  ⟨Nat.lt_of_le_of_lt (num_le n d) hn, Nat.lt_of_le_of_lt (den_le (by omega)) (by omega)⟩
theorem low_spec : SpecD N Tryz.prog 78 lowC := by
  refine rdD (mf := fun f => false) lowTb_ok (fn := Tryz.f78) (by kernel_rfl) rfl (by kernel_rfl) ?_
  rintro ⟨n, d⟩ ⟨hn, h0, hd⟩
  have hn : n.natAbs < 9223372036854775808 := hn
  have h0 : 0 < d := h0
  have hd : d < 9223372036854775808 := hd
  refine ⟨by show 2 ≤ 23; decide, ?_⟩
  have hs := small_divInt hn h0 hd
  obtain ⟨e1, e2⟩ := low_pos (a := n) h0
  rw [eRat_s hs, ← e1, ← e2]
  have c1 := absC_at n
  have c2 := gcdC_at n.natAbs d.natAbs
  have h1 : I64 n := by unfold I64; omega
  have h2 : n.natAbs < 18446744073709551616 := by omega
  have h3 : d.natAbs < 18446744073709551616 := by omega
  have e3 : Nat.gcd n.natAbs d.natAbs = Int.gcd n d := rfl
  have hg0 : 0 < Int.gcd n d := by
    rcases Nat.eq_zero_or_pos (Int.gcd n d) with h | h
    · have := (Int.gcd_eq_zero_iff.1 h).2; omega
    · exact h
  have hgl : Int.gcd n d ≤ d.natAbs := Nat.le_of_dvd (by omega) (Nat.gcd_dvd_right _ _)
  have w1 : IntKind.u64.wrap d = (d.natAbs : Int) := by rw [wrap_u64]; omega
  simp only [h1, h2, h3, e3, and_self, u64D, i64D] at c1 c2
  have b1 := Int.natAbs_tdiv n (Int.gcd n d)
  have b2 := Int.natAbs_tdiv d (Int.gcd n d)
  have b3 : (Int.tdiv n (Int.gcd n d)).natAbs ≤ n.natAbs := by rw [b1]; exact Nat.div_le_self _ _
  have b4 : (Int.tdiv d (Int.gcd n d)).natAbs ≤ d.natAbs := by rw [b2]; exact Nat.div_le_self _ _
  have w3 : IntKind.i64.wrap (Int.tdiv n (Int.gcd n d)) = Int.tdiv n (Int.gcd n d) := i64_id _ (by omega) (by omega)
  have w4 : IntKind.i64.wrap (Int.tdiv d (Int.gcd n d)) = Int.tdiv d (Int.gcd n d) := i64_id _ (by omega) (by omega)
  have w2 : IntKind.i64.wrap (Int.gcd n d : Int) = (Int.gcd n d : Int) := i64_id _ (by omega) (by omega)
  clear b1 b2 e1 e2 hs
  simp only [iiE, Tryz.f78, i64D]
  generalize Int.gcd n d = g at *
  generalize hx : Int.tdiv n (g : Int) = x at *
  generalize hy : Int.tdiv d (g : Int) = y at *
  have hgz : ¬ g = 0 := by omega
  by_cases h4 : 1 < g
  · have h4' : (1 : Int) < g := by omega
    simp [c1, c2, w1, w2, hx, hy, w3, w4, h4', h4, hgz]
  · have h5 : g = 1 := by omega
    subst h5
    simp at hx hy w2
    subst hx hy
    simp [c1, c2, w1, w2]
theorem low_ok : callable Tryz.prog 78 = true := by kernel_rfl

/-! neg -/
noncomputable def rngC := ctD r1E (fun p => qsz p.a < MX) (fun p => [eRat (-p.a)])
theorem rngC_at (a : Rat) : rngC [eRat a] = (qsz a < MX, [eRat (-a)]) := ctD_at r1E_inj ⟨a⟩
theorem smallQ_neg {a : Rat} : smallQ (-a) ↔ smallQ a := by unfold smallQ; rw [Rat.neg_num, Rat.neg_den, Int.natAbs_neg]
noncomputable def ngTb : List (FuncId × Ct) := [(108, .mut [true, false] bNegC)]
theorem ngTb_ok : TbOK N Tryz.prog (tbl ngTb) := tbl_cons (c := .mut [true, false] bNegC) RNeg_spec RNeg_ok tbl_nil

@[simp] theorem ngTb1 : tbl ngTb 108 = some (.mut [true, false] bNegC) := rfl
theorem rneg_spec : SpecD N Tryz.prog 111 rngC := by
  refine rdD (mf := fun f => f == 108 || f == bld 67) ngTb_ok (fn := Tryz.f111) (by kernel_rfl) rfl (by kernel_rfl) ?_
  rintro ⟨a⟩ ha
  have ha : qsz a < MX := ha
  refine ⟨by show 1 ≤ 17; decide, ?_⟩
  simp only [r1E, Tryz.f111]
  by_cases hs : smallQ a
  · rw [eRat_s hs, eRat_s (smallQ_neg.2 hs), Rat.neg_num, Rat.neg_den]
    unfold smallQ at hs
    have w : IntKind.i64.wrap (-a.num) = -a.num := i64_id _ (by omega) (by omega)
    simp [i64D, w]
  · rw [eRat_b hs, eRat_b (fun h => hs (smallQ_neg.1 h))]
    have c1 := bNegC_at a
    simp only [ha, eBN_eq] at c1
    simp [i64D, c1]
theorem rneg_ok : callable Tryz.prog 111 = true := by kernel_rfl
theorem ri_ok : callable Tryz.prog 68 = true := by kernel_rfl
end Go.Proofs.YtmnplonkijkblaaGreat.Ae

/-! impl.rat: add, sub. No condition. -/
namespace Go.Proofs.YtmnplonkijkblaaGreat.Ae
open Go Go.RowKit Go.Proofs.YtmnplonkijkblaaGreat.Dig
variable {N : NR}

theorem rat_eq (a : Rat) : a = (a.num : Rat) / ((a.den : Int) : Rat) := by
  rw [← Rat.divInt_eq_div, Rat.num_divInt_den]
theorem den_rz (a : Rat) : ((a.den : Int) : Rat) ≠ 0 := by
  intro h
  exact dz a (by exact_mod_cast h)
theorem add_same {a b : Rat} (h : a.den = b.den) : a + b = Rat.divInt (a.num + b.num) a.den := by
  have h1 := rat_eq a
  have h2 := rat_eq b
  rw [← h] at h2
  rw [Rat.divInt_eq_div, Rat.intCast_add]
  have h3 := den_rz a
  grind
theorem sub_same {a b : Rat} (h : a.den = b.den) : a - b = Rat.divInt (a.num - b.num) a.den := by
  have h1 := rat_eq a
  have h2 := rat_eq b
  rw [← h] at h2
  rw [Rat.divInt_eq_div, Rat.intCast_sub]
  have h3 := den_rz a
  grind
theorem sub_divInt (a b : Rat) : a - b = Rat.divInt (a.num * b.den - b.num * a.den) (a.den * b.den) := by
  have := add_divInt a (-b)
  rw [Rat.neg_num, Rat.neg_den, Int.neg_mul, ← Int.sub_eq_add_neg, ← Rat.sub_eq_add_neg] at this
  exact this
noncomputable def raTb : List (FuncId × Ct) := [(77, .data littleC), (78, .data lowC), (81, .data bigIC), (103, .mut [true, false, false] bAddC), (80, .mut [true, false, false] bSubC), (79, .data fitC)]
theorem raTb_ok : TbOK N Tryz.prog (tbl raTb) := tbl_cons (c := .data littleC) little_spec little_ok (tbl_cons (c := .data lowC) low_spec low_ok (tbl_cons (c := .data bigIC) big_spec big_ok (tbl_cons (c := .mut [true, false, false] bAddC) RAdd_spec RAdd_ok (tbl_cons (c := .mut [true, false, false] bSubC) RSub_spec RSub_ok (tbl_cons (c := .data fitC) fit_spec fit_ok tbl_nil)))))

@[simp] theorem raTb1 : tbl raTb 77 = some (.data littleC) := rfl
@[simp] theorem raTb2 : tbl raTb 78 = some (.data lowC) := rfl
@[simp] theorem raTb3 : tbl raTb 81 = some (.data bigIC) := rfl
@[simp] theorem raTb4 : tbl raTb 103 = some (.mut [true, false, false] bAddC) := rfl
@[simp] theorem raTb5 : tbl raTb 80 = some (.mut [true, false, false] bSubC) := rfl
@[simp] theorem raTb6 : tbl raTb 79 = some (.data fitC) := rfl
def raMf : FuncId → Bool := fun f => f == 103 || f == 80 || f == 79
attribute [simp] raMf
theorem prod31 {n d : Int} (hn : n.natAbs < 2147483648) (hd : 0 < d ∧ d < 2147483648) : -4611686018427387904 < n * d ∧ n * d < 4611686018427387904 := prod_bd hn hd

noncomputable def raddC := ctD r2E (fun p => qsz p.a + qsz p.b < MX) (fun p => [eRat (p.a + p.b)])
theorem raddC_at (a b : Rat) : raddC [eRat a, eRat b] = (qsz a + qsz b < MX, [eRat (a + b)]) := ctD_at r2E_inj ⟨a, b⟩
set_option maxHeartbeats 4000000 in
theorem radd_spec : SpecD N Tryz.prog 76 raddC := by
  refine rdD (mf := raMf) raTb_ok (fn := Tryz.f76) (by kernel_rfl) rfl (by kernel_rfl) ?_
  rintro ⟨a, b⟩ hq
  have hq : qsz a + qsz b < MX := hq
  refine ⟨by show 2 ≤ 62; decide, ?_⟩
  have c1 := littleC_at a
  have c2 := littleC_at b
  simp only [r2E, Tryz.f76, boolD] at c1 c2 ⊢
  by_cases hab : lit31 a ∧ lit31 b
  · obtain ⟨ha, hb⟩ := hab
    have sa := lit31_small ha
    have sb := lit31_small hb
    rw [eRat_s sa] at c1 ⊢
    rw [eRat_s sb] at c2 ⊢
    simp only [ha, hb, decide_true, i64D] at c1 c2
    unfold lit31 at ha hb
    have da := a.den_pos
    have db := b.den_pos
    have x1 := prod31 ha.1 (d := b.den) (by omega)
    have x2 := prod31 hb.1 (d := a.den) (by omega)
    have x3 := pos_bd (c := a.den) (d := b.den) (by omega) (by omega)
    have w1 : IntKind.i64.wrap (a.num + b.num) = a.num + b.num := i64_id _ (by omega) (by omega)
    have w2 : IntKind.i64.wrap (a.num * b.den) = a.num * b.den := i64_id _ (by omega) (by omega)
    have w3 : IntKind.i64.wrap (b.num * a.den) = b.num * a.den := i64_id _ (by omega) (by omega)
    have w4 : IntKind.i64.wrap ((a.den : Int) * b.den) = (a.den : Int) * b.den := i64_id _ (by omega) (by omega)
    have w5 : IntKind.i64.wrap (a.num * b.den + b.num * a.den) = a.num * b.den + b.num * a.den := i64_id _ (by omega) (by omega)
    by_cases hd : a.den = b.den
    · by_cases h1 : b.den = 1
      · have e := add_same hd
        have hQ : QI (a.num + b.num) 1 := ⟨by omega, by simp, by omega, by omega⟩
        rw [hd, h1] at e
        rw [e]
        have e2 := eRat_QI hQ
        have e3 : Rat.divInt (a.num + b.num) ((1 : Nat) : Int) = Rat.divInt (a.num + b.num) 1 := rfl
        rw [e3, e2, hd, h1]
        rw [hd, h1] at c1
        rw [h1] at c2
        simp at c1 c2
        simp [i64D, c1, c2, w1]
      · have e := add_same hd
        have c3 := lowC_at (a.num + b.num) b.den
        have b1 : (a.num + b.num).natAbs < 9223372036854775808 := by omega
        have b2 : 0 < (b.den : Int) := by omega
        have b3 : (b.den : Int) < 9223372036854775808 := by omega
        simp only [b1, b2, b3, and_self, i64D] at c3
        rw [e]
        rw [hd] at c1 ⊢
        have h1' : ¬ (b.den : Int) = 1 := by omega
        simp [i64D, c1, c2, c3, w1, h1, h1']
    · have c3 := lowC_at (a.num * b.den + b.num * a.den) ((a.den : Int) * b.den)
      have b1 : (a.num * b.den + b.num * a.den).natAbs < 9223372036854775808 := by omega
      have b2 : 0 < (a.den : Int) * b.den := by omega
      have b3 : (a.den : Int) * b.den < 9223372036854775808 := by omega
      simp only [b1, b2, b3, and_self, i64D] at c3
      rw [← add_divInt] at c3
      generalize a + b = ab at *
      have h0 : ¬ ((a.den : Int) = 1 ∧ (b.den : Int) = 1) := by omega
      have h2 : ¬ (a.den : Int) = b.den := by omega
      generalize (a.den : Int) = d at *
      generalize (b.den : Int) = d' at *
      generalize a.num = n at *
      generalize b.num = n' at *
      by_cases h1 : d = 1
      · have h3 : ¬ d' = 1 := by omega
        subst h1
        simp at c1 c3 w3 w4 w5 h2
        simp [i64D, c1, c2, c3, w1, w2, w3, w4, w5, h2, h3]
      · simp [i64D, c1, c2, c3, w1, w2, w3, w4, w5, h1, h2]
  · have c3 := bigIC_at a
    have c4 := bigIC_at b
    have c5 := bAddC_at a b
    have c6 := fitC_at (a + b)
    have hs := qsz_add a b
    have hs' : qsz (a + b) < 1099511627776 := by unfold MX at hq; omega
    simp only [hq, hs', eBN_eq] at c5 c6
    generalize a + b = ab at *
    by_cases ha : lit31 a
    · have hb : ¬ lit31 b := fun h => hab ⟨ha, h⟩
      simp only [ha, hb, decide_true, decide_false] at c1 c2
      simp [-D.isLit, c1, c2, c3, c4, c5, c6, List.idxOf_cons]
    · simp only [ha, decide_false] at c1
      simp [-D.isLit, c1, c3, c4, c5, c6, List.idxOf_cons]
theorem radd_ok : callable Tryz.prog 76 = true := by kernel_rfl

noncomputable def rsubC := ctD r2E (fun p => qsz p.a + qsz p.b < MX) (fun p => [eRat (p.a - p.b)])
theorem rsubC_at (a b : Rat) : rsubC [eRat a, eRat b] = (qsz a + qsz b < MX, [eRat (a - b)]) := ctD_at r2E_inj ⟨a, b⟩
set_option maxHeartbeats 4000000 in
theorem rsub_spec : SpecD N Tryz.prog 52 rsubC := by
  refine rdD (mf := raMf) raTb_ok (fn := Tryz.f52) (by kernel_rfl) rfl (by kernel_rfl) ?_
  rintro ⟨a, b⟩ hq
  have hq : qsz a + qsz b < MX := hq
  refine ⟨by show 2 ≤ 62; decide, ?_⟩
  have c1 := littleC_at a
  have c2 := littleC_at b
  simp only [r2E, Tryz.f52, boolD] at c1 c2 ⊢
  by_cases hab : lit31 a ∧ lit31 b
  · obtain ⟨ha, hb⟩ := hab
    have sa := lit31_small ha
    have sb := lit31_small hb
    rw [eRat_s sa] at c1 ⊢
    rw [eRat_s sb] at c2 ⊢
    simp only [ha, hb, decide_true, i64D] at c1 c2
    unfold lit31 at ha hb
    have da := a.den_pos
    have db := b.den_pos
    have x1 := prod31 ha.1 (d := b.den) (by omega)
    have x2 := prod31 hb.1 (d := a.den) (by omega)
    have x3 := pos_bd (c := a.den) (d := b.den) (by omega) (by omega)
    have w1 : IntKind.i64.wrap (a.num - b.num) = a.num - b.num := i64_id _ (by omega) (by omega)
    have w2 : IntKind.i64.wrap (a.num * b.den) = a.num * b.den := i64_id _ (by omega) (by omega)
    have w3 : IntKind.i64.wrap (b.num * a.den) = b.num * a.den := i64_id _ (by omega) (by omega)
    have w4 : IntKind.i64.wrap ((a.den : Int) * b.den) = (a.den : Int) * b.den := i64_id _ (by omega) (by omega)
    have w5 : IntKind.i64.wrap (a.num * b.den - b.num * a.den) = a.num * b.den - b.num * a.den := i64_id _ (by omega) (by omega)
    by_cases hd : a.den = b.den
    · by_cases h1 : b.den = 1
      · have e := sub_same hd
        have hQ : QI (a.num - b.num) 1 := ⟨by omega, by simp, by omega, by omega⟩
        rw [hd, h1] at e
        rw [e]
        have e2 := eRat_QI hQ
        have e3 : Rat.divInt (a.num - b.num) ((1 : Nat) : Int) = Rat.divInt (a.num - b.num) 1 := rfl
        rw [e3, e2, hd, h1]
        rw [hd, h1] at c1
        rw [h1] at c2
        simp at c1 c2
        simp [i64D, c1, c2, w1]
      · have e := sub_same hd
        have c3 := lowC_at (a.num - b.num) b.den
        have b1 : (a.num - b.num).natAbs < 9223372036854775808 := by omega
        have b2 : 0 < (b.den : Int) := by omega
        have b3 : (b.den : Int) < 9223372036854775808 := by omega
        simp only [b1, b2, b3, and_self, i64D] at c3
        rw [e]
        rw [hd] at c1 ⊢
        have h1' : ¬ (b.den : Int) = 1 := by omega
        simp [i64D, c1, c2, c3, w1, h1, h1']
    · have c3 := lowC_at (a.num * b.den - b.num * a.den) ((a.den : Int) * b.den)
      have b1 : (a.num * b.den - b.num * a.den).natAbs < 9223372036854775808 := by omega
      have b2 : 0 < (a.den : Int) * b.den := by omega
      have b3 : (a.den : Int) * b.den < 9223372036854775808 := by omega
      simp only [b1, b2, b3, and_self, i64D] at c3
      rw [← sub_divInt] at c3
      generalize a - b = ab at *
      have h0 : ¬ ((a.den : Int) = 1 ∧ (b.den : Int) = 1) := by omega
      have h2 : ¬ (a.den : Int) = b.den := by omega
      generalize (a.den : Int) = d at *
      generalize (b.den : Int) = d' at *
      generalize a.num = n at *
      generalize b.num = n' at *
      by_cases h1 : d = 1
      · have h3 : ¬ d' = 1 := by omega
        subst h1
        simp at c1 c3 w3 w4 w5 h2
        simp [i64D, c1, c2, c3, w1, w2, w3, w4, w5, h2, h3]
      · simp [i64D, c1, c2, c3, w1, w2, w3, w4, w5, h1, h2]
  · have c3 := bigIC_at a
    have c4 := bigIC_at b
    have c5 := bSubC_at a b
    have c6 := fitC_at (a - b)
    have hs := qsz_sub a b
    have hs' : qsz (a - b) < 1099511627776 := by unfold MX at hq; omega
    simp only [hq, hs', eBN_eq] at c5 c6
    generalize a - b = ab at *
    by_cases ha : lit31 a
    · have hb : ¬ lit31 b := fun h => hab ⟨ha, h⟩
      simp only [ha, hb, decide_true, decide_false] at c1 c2
      simp [-D.isLit, c1, c2, c3, c4, c5, c6, List.idxOf_cons]
    · simp only [ha, decide_false] at c1
      simp [-D.isLit, c1, c3, c4, c5, c6, List.idxOf_cons]
theorem rsub_ok : callable Tryz.prog 52 = true := by kernel_rfl
end Go.Proofs.YtmnplonkijkblaaGreat.Ae

/-! impl.rat: inv, sign, q, floor, fromInt; math/bits.Mul64. No condition. -/
namespace Go.Proofs.YtmnplonkijkblaaGreat.Ae
open Go Go.RowKit Go.Proofs.YtmnplonkijkblaaGreat.Dig
variable {N : NR}

/-! sign -/
noncomputable def rsgC := ctD r1E (fun p => True) (fun p => [i64D p.a.num.sign])
theorem rsgC_at (a : Rat) : rsgC [eRat a] = (True, [i64D a.num.sign]) := ctD_at r1E_inj ⟨a⟩
noncomputable def rsgTb : List (FuncId × Ct) := [(53, .data bsgC)]
theorem rsgTb_ok : TbOK N Tryz.prog (tbl rsgTb) := tbl_cons (c := .data bsgC) RSign_spec RSign_ok tbl_nil

@[simp] theorem rsgTb1 : tbl rsgTb 53 = some (.data bsgC) := rfl
theorem rsign_spec : SpecD N Tryz.prog 29 rsgC := by
  refine rdD (mf := fun f => false) rsgTb_ok (fn := Tryz.f29) (by kernel_rfl) rfl (by kernel_rfl) ?_
  rintro ⟨a⟩ _
  refine ⟨by show 1 ≤ 17; decide, ?_⟩
  simp only [r1E, Tryz.f29]
  by_cases hs : smallQ a
  · rw [eRat_s hs]
    rcases Int.lt_trichotomy a.num 0 with h | h | h
    · rw [Int.sign_eq_neg_one_of_neg h]
      simp [i64D, h]
    · rw [h]
      simp [i64D]
    · rw [Int.sign_eq_one_of_pos h]
      have h1 : ¬ a.num < 0 := by omega
      simp [i64D, h, h1]
  · rw [eRat_b hs]
    have c1 := bsgC_at a
    simp only [i64D] at c1
    simp [i64D, c1]
theorem rsign_ok : callable Tryz.prog 29 = true := by kernel_rfl

/-! inv -/
noncomputable def rinvC := ctD r1E (fun p => qsz p.a < MX ∧ p.a ≠ 0) (fun p => [eRat p.a⁻¹])
theorem rinvC_at (a : Rat) : rinvC [eRat a] = ((qsz a < MX ∧ a ≠ 0), [eRat a⁻¹]) := ctD_at r1E_inj ⟨a⟩
noncomputable def rinvTb : List (FuncId × Ct) := [(112, .mut [true, false] bInvC), (79, .data fitC)]
theorem rinvTb_ok : TbOK N Tryz.prog (tbl rinvTb) := tbl_cons (c := .mut [true, false] bInvC) RInv_spec RInv_ok (tbl_cons (c := .data fitC) fit_spec fit_ok tbl_nil)

@[simp] theorem rinvTb1 : tbl rinvTb 112 = some (.mut [true, false] bInvC) := rfl
@[simp] theorem rinvTb2 : tbl rinvTb 79 = some (.data fitC) := rfl
theorem inv_pos {a : Rat} (h : 0 < a.num) : a⁻¹.num = a.den ∧ (a⁻¹.den : Int) = a.num := by
  have hr : Int.gcd a.den a.num = 1 := by rw [Int.gcd_comm]; exact a.reduced
  rw [inv_divInt]
  obtain ⟨e1, e2⟩ := low_pos (a := a.den) h
  rw [hr] at e1 e2
  rw [← e1, ← e2]
  simp
theorem inv_neg {a : Rat} (h : a.num < 0) : a⁻¹.num = -(a.den : Int) ∧ (a⁻¹.den : Int) = -a.num := by
  have hr : Int.gcd a.den a.num = 1 := by rw [Int.gcd_comm]; exact a.reduced
  rw [inv_divInt]
  obtain ⟨e1, e2⟩ := low_neg (a := a.den) h
  rw [hr] at e1 e2
  rw [← e1, ← e2]
  simp [Int.tdiv_neg]
theorem rinv_spec : SpecD N Tryz.prog 90 rinvC := by
  refine rdD (mf := fun f => f == 112 || f == 79) rinvTb_ok (fn := Tryz.f90) (by kernel_rfl) rfl (by kernel_rfl) ?_
  rintro ⟨a⟩ ⟨ha, h0⟩
  have ha : qsz a < MX := ha
  have h0 : a ≠ 0 := h0
  refine ⟨by show 1 ≤ 26; decide, ?_⟩
  simp only [r1E, Tryz.f90]
  have hn := num_ne h0
  have hd := a.den_pos
  by_cases hs : smallQ a
  · have hs' := hs
    unfold smallQ at hs'
    by_cases h : a.num < 0
    · obtain ⟨e1, e2⟩ := inv_neg h
      have hs2 : smallQ a⁻¹ := ⟨by omega, by omega⟩
      rw [eRat_s hs, eRat_s hs2, e1, e2]
      have w1 : IntKind.i64.wrap (-(a.den : Int)) = -(a.den : Int) := i64_id _ (by omega) (by omega)
      have w2 : IntKind.i64.wrap (-a.num) = -a.num := i64_id _ (by omega) (by omega)
      simp [i64D, h, w1, w2]
    · obtain ⟨e1, e2⟩ := inv_pos (a := a) (by omega)
      have hs2 : smallQ a⁻¹ := ⟨by omega, by omega⟩
      rw [eRat_s hs, eRat_s hs2, e1, e2]
      simp [i64D, h]
  · rw [eRat_b hs]
    have c1 := bInvC_at a
    have c2 := fitC_at a⁻¹
    have hq := qsz_inv h0
    have hq2 : qsz a⁻¹ < 1099511627776 := by unfold MX at ha; omega
    simp only [ha, h0, hq2, ne_eq, not_false_eq_true, and_self, eBN_eq] at c1 c2
    simp [-D.isLit, i64D, c1, c2]
theorem rinv_ok : callable Tryz.prog 90 = true := by kernel_rfl

/-! q -/
def MN : Int := 1000000000000000000
def isQ (q : Rat) : Prop := q.num.natAbs ≤ 1000000000000000000 ∧ q.den ≤ 1000000000000000000
instance (q : Rat) : Decidable (isQ q) := by unfold isQ; infer_instance
def oQ (q : Rat) : List D := if isQ q then [eQ q.num q.den, boolD true] else [eQ 0 0, boolD false]
noncomputable def rqqC := ctD r1E (fun p => True) (fun p => oQ p.a)
theorem rqqC_at (a : Rat) : rqqC [eRat a] = (True, oQ a) := ctD_at r1E_inj ⟨a⟩
theorem rqq_spec : SpecD N Tryz.prog 62 rqqC := by
  refine rdD (mf := fun f => false) tbl_nil (fn := Tryz.f62) (by kernel_rfl) rfl (by kernel_rfl) ?_
  rintro ⟨a⟩ _
  refine ⟨by show 1 ≤ 28; decide, ?_⟩
  simp only [r1E, Tryz.f62, boolD]
  by_cases hs : smallQ a
  · rw [eRat_s hs]
    unfold oQ
    by_cases hq : isQ a
    · rw [if_pos hq]
      unfold isQ at hq
      have h1 : ¬ a.num < -1000000000000000000 := by omega
      have h2 : ¬ 1000000000000000000 < a.num := by omega
      have h3 : ¬ (1000000000000000000 : Int) < a.den := by omega
      simp [i64D, eQ, boolD, h1, h2, h3]
    · rw [if_neg hq]
      unfold isQ at hq
      by_cases h1 : a.num < -1000000000000000000
      · simp [i64D, eQ, boolD, h1]
      · by_cases h2 : 1000000000000000000 < a.num
        · simp [i64D, eQ, boolD, h1, h2]
        · have h3 : (1000000000000000000 : Int) < a.den := by omega
          simp [i64D, eQ, boolD, h1, h2, h3]
  · have hq : ¬ isQ a := by unfold smallQ at hs; unfold isQ; omega
    unfold oQ
    rw [eRat_b hs, if_neg hq]
    simp [i64D, eQ, boolD]
theorem rqq_ok : callable Tryz.prog 62 = true := by kernel_rfl

/-! floor, fromInt -/
noncomputable def rflC := ctD r1E (fun p => qsz p.a < MX) (fun p => [.ptr (eZ p.a.floor)])
theorem rflC_at (a : Rat) : rflC [eRat a] = (qsz a < MX, [.ptr (eZ a.floor)]) := ctD_at r1E_inj ⟨a⟩
noncomputable def rflTb : List (FuncId × Ct) := [(81, .data bigIC), (104, .data numC), (106, .data denC)]
theorem rflTb_ok : TbOK N Tryz.prog (tbl rflTb) := tbl_cons (c := .data bigIC) big_spec big_ok (tbl_cons (c := .data numC) Num_spec Num_ok (tbl_cons (c := .data denC) Denom_spec Denom_ok tbl_nil))

@[simp] theorem rflTb1 : tbl rflTb 81 = some (.data bigIC) := rfl
@[simp] theorem rflTb2 : tbl rflTb 104 = some (.data numC) := rfl
@[simp] theorem rflTb3 : tbl rflTb 106 = some (.data denC) := rfl
noncomputable def fiC := ctD pE (fun p => ln p.a.natAbs < MX) (fun p => [eRat (p.a : Rat)])
theorem fiC_at (a : Int) : fiC [.ptr (eZ a)] = (ln a.natAbs < MX, [eRat (a : Rat)]) := ctD_at pE_inj ⟨a⟩
noncomputable def fiTb : List (FuncId × Ct) := [(79, .data fitC)]
theorem fiTb_ok : TbOK N Tryz.prog (tbl fiTb) := tbl_cons (c := .data fitC) fit_spec fit_ok tbl_nil

@[simp] theorem fiTb2 : tbl fiTb 79 = some (.data fitC) := rfl
theorem qsz_int (a : Int) : qsz (a : Rat) = max (ln a.natAbs) 1 := by unfold qsz; rw [Rat.num_intCast, Rat.den_intCast, ln_one]
/-! Mul64 -/
noncomputable def m64C := ctD uuE (fun p => p.a < 18446744073709551616 ∧ p.b < 18446744073709551616) (fun p => [u64D (p.a * p.b / 18446744073709551616), u64D (p.a * p.b % 18446744073709551616)])
theorem m64C_at (a b : Nat) : m64C [u64D a, u64D b] = ((a < 18446744073709551616 ∧ b < 18446744073709551616), [u64D (a * b / 18446744073709551616), u64D (a * b % 18446744073709551616)]) := ctD_at uuE_inj ⟨a, b⟩
theorem and32 (x : Nat) (h : x < 18446744073709551616) : bAnd .u64 x 4294967295 = ((x % 4294967296 : Nat) : Int) := by
  have := bAnd64 x 4294967295 h (by decide)
  rw [show (x &&& 4294967295) = x % 4294967296 from Nat.and_two_pow_sub_one_eq_mod x 32] at this
  exact this
theorem mul_split (x1 x0 y1 y0 : Nat) : (x1 * 4294967296 + x0) * (y1 * 4294967296 + y0) = x1 * y1 * 18446744073709551616 + (x1 * y0 + x0 * y1) * 4294967296 + x0 * y0 := by
  grind
theorem bd32 {x y : Nat} (hx : x < 4294967296) (hy : y < 4294967296) : x * y ≤ 18446744065119617025 := by
  have := Nat.mul_le_mul (show x ≤ 4294967295 by omega) (show y ≤ 4294967295 by omega)
  omega
theorem Mul64_spec : SpecD N Tryz.prog 101 m64C := by
  refine rdD (mf := fun f => false) tbl_nil (fn := Tryz.f101) (by kernel_rfl) rfl (by kernel_rfl) ?_
  rintro ⟨x, y⟩ ⟨hx, hy⟩
  have hx : x < 18446744073709551616 := hx
  have hy : y < 18446744073709551616 := hy
  refine ⟨by show 2 ≤ 51; decide, ?_⟩
  simp only [uuE, u64D, Tryz.f101]
  have a1 := and32 x hx
  have a2 := and32 y hy
  have d1 : (x : Int) / 4294967296 = ((x / 4294967296 : Nat) : Int) := by omega
  have d2 : (y : Int) / 4294967296 = ((y / 4294967296 : Nat) : Int) := by omega
  have e := mul_split (x / 4294967296) (x % 4294967296) (y / 4294967296) (y % 4294967296)
  rw [Nat.div_add_mod', Nat.div_add_mod'] at e
  obtain ⟨x1, hx1⟩ : ∃ x1, x1 = x / 4294967296 := ⟨_, rfl⟩
  obtain ⟨x0, hx0⟩ : ∃ x0, x0 = x % 4294967296 := ⟨_, rfl⟩
  obtain ⟨y1, hy1⟩ : ∃ y1, y1 = y / 4294967296 := ⟨_, rfl⟩
  obtain ⟨y0, hy0⟩ : ∃ y0, y0 = y % 4294967296 := ⟨_, rfl⟩
  rw [← hx1, ← hx0, ← hy1, ← hy0] at e
  rw [← hx0] at a1
  rw [← hy0] at a2
  rw [← hx1] at d1
  rw [← hy1] at d2
  have b00 := bd32 (x := x0) (y := y0) (by omega) (by omega)
  have b10 := bd32 (x := x1) (y := y0) (by omega) (by omega)
  have b01 := bd32 (x := x0) (y := y1) (by omega) (by omega)
  have b11 := bd32 (x := x1) (y := y1) (by omega) (by omega)
  clear hx1 hx0 hy1 hy0
  have m0 : ((x0 : Int) * y0) = ((x0 * y0 : Nat) : Int) := by rw [Int.natCast_mul]
  have m1 : ((x1 : Int) * y0) = ((x1 * y0 : Nat) : Int) := by rw [Int.natCast_mul]
  have m2 : ((x0 : Int) * y1) = ((x0 * y1 : Nat) : Int) := by rw [Int.natCast_mul]
  have m3 : ((x1 : Int) * y1) = ((x1 * y1 : Nat) : Int) := by rw [Int.natCast_mul]
  have m4 : ((x : Int) * y) = ((x * y : Nat) : Int) := by rw [Int.natCast_mul]
  generalize x * y = p at *
  generalize x0 * y0 = p00 at *
  generalize x1 * y0 = p10 at *
  generalize x0 * y1 = p01 at *
  generalize x1 * y1 = p11 at *
  have w0 : IntKind.u64.wrap (p00 : Int) = p00 := u64_id _ (by omega) (by omega)
  have w1 : IntKind.u64.wrap (p10 : Int) = p10 := u64_id _ (by omega) (by omega)
  have w2 : IntKind.u64.wrap (p01 : Int) = p01 := u64_id _ (by omega) (by omega)
  have w3 : IntKind.u64.wrap (p11 : Int) = p11 := u64_id _ (by omega) (by omega)
  have d3 : (p00 : Int) / 4294967296 = ((p00 / 4294967296 : Nat) : Int) := by omega
  obtain ⟨t, ht⟩ : ∃ t, t = p10 + p00 / 4294967296 := ⟨_, rfl⟩
  have w4 : IntKind.u64.wrap ((p10 : Int) + ((p00 / 4294967296 : Nat) : Int)) = (t : Int) := by rw [u64_id _ (by omega) (by omega)]; omega
  have a3 := and32 t (by omega)
  have d4 : (t : Int) / 4294967296 = ((t / 4294967296 : Nat) : Int) := by omega
  obtain ⟨v, hv⟩ : ∃ v, v = t % 4294967296 + p01 := ⟨_, rfl⟩
  have w5 : IntKind.u64.wrap (((t % 4294967296 : Nat) : Int) + (p01 : Int)) = (v : Int) := by rw [u64_id _ (by omega) (by omega)]; omega
  have d5 : (v : Int) / 4294967296 = ((v / 4294967296 : Nat) : Int) := by omega
  have w6 : IntKind.u64.wrap ((p11 : Int) + ((t / 4294967296 : Nat) : Int)) = ((p11 + t / 4294967296 : Nat) : Int) := by rw [u64_id _ (by omega) (by omega)]; omega
  have w7 : IntKind.u64.wrap (((p11 + t / 4294967296 : Nat) : Int) + ((v / 4294967296 : Nat) : Int)) = ((p / 18446744073709551616 : Nat) : Int) := by rw [u64_id _ (by omega) (by omega)]; omega
  have w8 : IntKind.u64.wrap (p : Int) = ((p % 18446744073709551616 : Nat) : Int) := by rw [wrap_u64]; omega
  generalize p / 18446744073709551616 = hi at *
  generalize p % 18446744073709551616 = lo at *
  generalize p11 + t / 4294967296 = u at *
  generalize v / 4294967296 = v1 at *
  generalize t / 4294967296 = t1 at *
  generalize t % 4294967296 = t0 at *
  generalize p00 / 4294967296 = q0 at *
  simp [a1, a2, a3, d1, d2, d3, d4, d5, m0, m1, m2, m3, m4, w0, w1, w2, w3, w4, w5, w6, w7, w8]
theorem Mul64_ok : callable Tryz.prog 101 = true := by kernel_rfl
end Go.Proofs.YtmnplonkijkblaaGreat.Ae

/-! impl.rat: mul, div. No condition. -/
namespace Go.Proofs.YtmnplonkijkblaaGreat.Ae
open Go Go.RowKit Go.Proofs.YtmnplonkijkblaaGreat.Dig
variable {N : NR}

theorem mul_low (a b : Rat) : (a * b).num = (a.num.tdiv (Nat.gcd a.num.natAbs b.den)) * (b.num.tdiv (Nat.gcd b.num.natAbs a.den)) ∧ (a * b).den = (a.den / Nat.gcd b.num.natAbs a.den) * (b.den / Nat.gcd a.num.natAbs b.den) := by
  have h1 : (Nat.gcd a.num.natAbs b.den : Int) ∣ a.num := Int.ofNat_dvd_left.2 (Nat.gcd_dvd_left _ _)
  have h2 : (Nat.gcd b.num.natAbs a.den : Int) ∣ b.num := Int.ofNat_dvd_left.2 (Nat.gcd_dvd_left _ _)
  rw [Int.tdiv_eq_ediv_of_dvd h1, Int.tdiv_eq_ediv_of_dvd h2]
  show (Rat.mul a b).num = _ ∧ (Rat.mul a b).den = _
  unfold Rat.mul
  simp
noncomputable def rmC := ctD r2E (fun p => qsz p.a + qsz p.b < MX) (fun p => [eRat (p.a * p.b)])
theorem rmC_at (a b : Rat) : rmC [eRat a, eRat b] = (qsz a + qsz b < MX, [eRat (a * b)]) := ctD_at r2E_inj ⟨a, b⟩
noncomputable def rmTb : List (FuncId × Ct) := [(77, .data littleC), (78, .data lowC), (81, .data bigIC), (102, .mut [true, false, false] bMulC), (79, .data fitC), (68, .data riC), (100, .data absC), (99, .data gcdC), (101, .data m64C)]
theorem rmTb_ok : TbOK N Tryz.prog (tbl rmTb) := tbl_cons (c := .data littleC) little_spec little_ok (tbl_cons (c := .data lowC) low_spec low_ok (tbl_cons (c := .data bigIC) big_spec big_ok (tbl_cons (c := .mut [true, false, false] bMulC) RMul_spec RMul_ok (tbl_cons (c := .data fitC) fit_spec fit_ok (tbl_cons (c := .data riC) ri_spec ri_ok (tbl_cons (c := .data absC) abs64_spec abs64_ok (tbl_cons (c := .data gcdC) gcd64_spec gcd64_ok (tbl_cons (c := .data m64C) Mul64_spec Mul64_ok tbl_nil))))))))

@[simp] theorem rmTb1 : tbl rmTb 77 = some (.data littleC) := rfl
@[simp] theorem rmTb2 : tbl rmTb 78 = some (.data lowC) := rfl
@[simp] theorem rmTb3 : tbl rmTb 81 = some (.data bigIC) := rfl
@[simp] theorem rmTb4 : tbl rmTb 102 = some (.mut [true, false, false] bMulC) := rfl
@[simp] theorem rmTb5 : tbl rmTb 79 = some (.data fitC) := rfl
@[simp] theorem rmTb6 : tbl rmTb 68 = some (.data riC) := rfl
@[simp] theorem rmTb7 : tbl rmTb 100 = some (.data absC) := rfl
@[simp] theorem rmTb8 : tbl rmTb 99 = some (.data gcdC) := rfl
@[simp] theorem rmTb9 : tbl rmTb 101 = some (.data m64C) := rfl
/-- What the third way of mul reckons with: the parts without what divides both. -/
theorem mul_way {n n' : Int} {d d' g h : Nat} (hg : g = Nat.gcd n.natAbs d') (hh : h = Nat.gcd n'.natAbs d) (hd : 0 < d) (hd' : 0 < d') (hn : n.natAbs < 9223372036854775808) (hn' : n'.natAbs < 9223372036854775808) (hdl : d < 9223372036854775808) (hdl' : d' < 9223372036854775808) :
    0 < g ∧ 0 < h ∧ g < 9223372036854775808 ∧ h < 9223372036854775808 ∧ (n.tdiv g).natAbs < 9223372036854775808 ∧ (n'.tdiv h).natAbs < 9223372036854775808 ∧ Int.tdiv d h = ((d / h : Nat) : Int) ∧ Int.tdiv d' g = ((d' / g : Nat) : Int) ∧ d / h < 9223372036854775808 ∧ d' / g < 9223372036854775808 := by
  have g1 : 0 < g := by rw [hg]; exact Nat.gcd_pos_of_pos_right _ hd'
  have h1 : 0 < h := by rw [hh]; exact Nat.gcd_pos_of_pos_right _ hd
  have g2 : g ≤ d' := by rw [hg]; exact Nat.le_of_dvd hd' (Nat.gcd_dvd_right _ _)
  have h2 : h ≤ d := by rw [hh]; exact Nat.le_of_dvd hd (Nat.gcd_dvd_right _ _)
  have b1 : (n.tdiv g).natAbs ≤ n.natAbs := by rw [Int.natAbs_tdiv]; exact Nat.div_le_self _ _
  have b2 : (n'.tdiv h).natAbs ≤ n'.natAbs := by rw [Int.natAbs_tdiv]; exact Nat.div_le_self _ _
  have b3 := Nat.div_le_self d h
  have b4 := Nat.div_le_self d' g
  exact ⟨g1, h1, by omega, by omega, by omega, by omega, tdiv_nat d h, tdiv_nat d' g, by omega, by omega⟩
theorem sign_prod (x y : Int) (h : (x * y).natAbs < 9223372036854775808) : (if (decide (x < 0) != decide (y < 0)) = true then IntKind.i64.wrap (-((x.natAbs * y.natAbs : Nat) : Int)) else ((x.natAbs * y.natAbs : Nat) : Int)) = x * y := by
  rw [← Int.natAbs_mul]
  by_cases hx : x < 0 <;> by_cases hy : y < 0
  · have := Int.mul_pos_of_neg_of_neg hx hy
    simp [hx, hy]; omega
  · have : x * y ≤ 0 := Int.mul_nonpos_of_nonpos_of_nonneg (by omega) (by omega)
    simp [hx, hy]
    rw [i64_id _ (by omega) (by omega)]; omega
  · have : x * y ≤ 0 := Int.mul_nonpos_of_nonneg_of_nonpos (by omega) (by omega)
    simp [hx, hy]
    rw [i64_id _ (by omega) (by omega)]; omega
  · have : 0 ≤ x * y := Int.mul_nonneg (by omega) (by omega)
    simp [hx, hy]; omega
def rmMf : FuncId → Bool := fun f => f == 102 || f == 79
attribute [simp] rmMf
set_option maxRecDepth 100000 in
set_option maxHeartbeats 8000000 in
theorem rmul_spec : SpecD N Tryz.prog 75 rmC := by
  refine rdD (mf := rmMf) rmTb_ok (fn := Tryz.f75) (by kernel_rfl) rfl (by kernel_rfl) ?_
  rintro ⟨a, b⟩ hq
  have hq : qsz a + qsz b < MX := hq
  refine ⟨by show 2 ≤ 146; decide, ?_⟩
  simp only [r2E, Tryz.f75]
  have d1 := bigIC_at a
  have d2 := bigIC_at b
  have d3 := bMulC_at a b
  have d4 := fitC_at (a * b)
  have hs := qsz_mul a b
  have hs' : qsz (a * b) < 1099511627776 := by unfold MX at hq; omega
  simp only [hq, hs', eBN_eq] at d3 d4
  by_cases hab : smallQ a ∧ smallQ b
  · obtain ⟨sa, sb⟩ := hab
    by_cases hz : a.num = 0 ∨ b.num = 0
    · have e : a * b = ((0 : Int) : Rat) := by
        rw [mul_divInt]
        have : a.num * b.num = 0 := by rcases hz with h | h <;> rw [h] <;> simp
        rw [this]; simp
      have c1 := riC_at 0
      simp [i64D] at c1
      rw [e, eRat_s sa, eRat_s sb]
      by_cases h0 : a.num = 0
      · simp [i64D, h0, c1]
      · have h1 : b.num = 0 := by rcases hz with h | h; exact absurd h h0; exact h
        simp [i64D, h0, h1, c1]
    · have z1 : ¬ a.num = 0 := fun h => hz (.inl h)
      have z2 : ¬ b.num = 0 := fun h => hz (.inr h)
      have c1 := littleC_at a
      have c2 := littleC_at b
      have da := a.den_pos
      have db := b.den_pos
      by_cases hl : lit31 a ∧ lit31 b
      · obtain ⟨ha, hb⟩ := hl
        rw [eRat_s sa] at c1 ⊢
        rw [eRat_s sb] at c2 ⊢
        simp only [ha, hb, decide_true, boolD, i64D] at c1 c2
        unfold lit31 at ha hb
        have x1 : -4611686018427387904 < a.num * b.num ∧ a.num * b.num < 4611686018427387904 := by
          have h1 : (a.num * b.num).natAbs ≤ 2147483647 * 2147483647 := by rw [Int.natAbs_mul]; exact Nat.mul_le_mul (by omega) (by omega)
          omega
        have x3 := pos_bd (c := a.den) (d := b.den) (by omega) (by omega)
        have w1 : IntKind.i64.wrap (a.num * b.num) = a.num * b.num := i64_id _ (by omega) (by omega)
        have w4 : IntKind.i64.wrap ((a.den : Int) * b.den) = (a.den : Int) * b.den := i64_id _ (by omega) (by omega)
        have c3 := lowC_at (a.num * b.num) ((a.den : Int) * b.den)
        have b1 : (a.num * b.num).natAbs < 9223372036854775808 := by omega
        have b2 : 0 < (a.den : Int) * b.den := by omega
        have b3 : (a.den : Int) * b.den < 9223372036854775808 := by omega
        simp only [b1, b2, b3, and_self, i64D] at c3
        rw [← mul_divInt] at c3
        by_cases h1 : a.den = 1 ∧ b.den = 1
        · obtain ⟨h1, h2⟩ := h1
          have hQ : QI (a.num * b.num) 1 := ⟨by omega, by simp, by omega, by omega⟩
          have e2 := eRat_QI hQ
          have e3 : a * b = Rat.divInt (a.num * b.num) 1 := by rw [mul_divInt, h1, h2]; rfl
          rw [e3, e2]
          rw [h1] at c1 ⊢
          rw [h2] at c2 ⊢
          simp at c1 c2
          simp [i64D, c1, c2, w1, z1, z2]
        · generalize a * b = ab at *
          by_cases h2 : a.den = 1
          · have h3 : ¬ b.den = 1 := fun h => h1 ⟨h2, h⟩
            have h3' : ¬ (b.den : Int) = 1 := by omega
            rw [h2] at c1 c3 w4 ⊢
            simp at c1 c3 w4
            simp [i64D, c1, c2, c3, w1, w4, z1, z2, h3, h3']
          · have h2' : ¬ (a.den : Int) = 1 := by omega
            simp [i64D, c1, c2, c3, w1, w4, z1, z2, h2, h2']
      · have hlit : ((decide (lit31 a)) && decide (lit31 b)) = false := by
          rw [← Bool.decide_and]
          exact decide_eq_false hl
        obtain ⟨m1, m2⟩ := mul_low a b
        obtain ⟨g, hg⟩ : ∃ g, g = Nat.gcd a.num.natAbs b.den := ⟨_, rfl⟩
        obtain ⟨h, hh⟩ : ∃ h, h = Nat.gcd b.num.natAbs a.den := ⟨_, rfl⟩
        have sa' := sa
        have sb' := sb
        unfold smallQ at sa' sb'
        obtain ⟨q1, q2, q3, q4, q5, q6, q7, q8, q9, q10⟩ := mul_way hg hh da db sa'.1 sb'.1 sa'.2 sb'.2
        rw [← hg, ← hh] at m1 m2
        have g1 := absC_at a.num
        have g2 := absC_at b.num
        have g3 := gcdC_at a.num.natAbs b.den
        have g4 := gcdC_at b.num.natAbs a.den
        have i1 : I64 a.num := by unfold I64; omega
        have i2 : I64 b.num := by unfold I64; omega
        have i3 : a.num.natAbs < 18446744073709551616 := by omega
        have i4 : b.num.natAbs < 18446744073709551616 := by omega
        have i5 : a.den < 18446744073709551616 := by omega
        have i6 : b.den < 18446744073709551616 := by omega
        rw [← hg] at g3
        rw [← hh] at g4
        simp only [i1, i2, i3, i4, i5, i6, and_self, u64D, i64D] at g1 g2 g3 g4
        have w1 : IntKind.u64.wrap (a.den : Int) = a.den := u64_id _ (by omega) (by omega)
        have w2 : IntKind.u64.wrap (b.den : Int) = b.den := u64_id _ (by omega) (by omega)
        have w3 : IntKind.i64.wrap (g : Int) = g := i64_id _ (by omega) (by omega)
        have w4 : IntKind.i64.wrap (h : Int) = h := i64_id _ (by omega) (by omega)
        have hgz : ¬ g = 0 := by omega
        have hhz : ¬ h = 0 := by omega
        rw [eRat_s sa] at c1 d1 ⊢
        rw [eRat_s sb] at c2 d2 ⊢
        simp only [boolD, i64D] at c1 c2 d1 d2 ⊢
        have hsm : smallQ (a * b) ↔ (a.num.tdiv g).natAbs * (b.num.tdiv h).natAbs < 9223372036854775808 ∧ a.den / h * (b.den / g) < 9223372036854775808 := by
          unfold smallQ
          rw [m1, m2, Int.natAbs_mul]
        have heR := fun hh => eRat_s (q := a * b) hh
        rw [m1, m2] at heR
        clear m1 m2 hg hh sa' sb' i1 i2 i3 i4 i5 i6 hz hs hs' hq sa sb hl
        generalize decide (lit31 a) = la at *
        generalize decide (lit31 b) = lb at *
        generalize eBR a = ba at *
        generalize eBR b = bb at *
        generalize a * b = ab at *
        generalize hX : a.num.tdiv g = x at *
        generalize hY : b.num.tdiv h = y at *
        generalize a.den / h = u at *
        generalize b.den / g = v at *
        have w5 : IntKind.i64.wrap x = x := i64_id _ (by omega) (by omega)
        have w6 : IntKind.i64.wrap y = y := i64_id _ (by omega) (by omega)
        have w7 : IntKind.i64.wrap (u : Int) = u := i64_id _ (by omega) (by omega)
        have w8 : IntKind.i64.wrap (v : Int) = v := i64_id _ (by omega) (by omega)
        have w9 : IntKind.u64.wrap (u : Int) = u := u64_id _ (by omega) (by omega)
        have w10 : IntKind.u64.wrap (v : Int) = v := u64_id _ (by omega) (by omega)
        have j1 := absC_at x
        have j2 := absC_at y
        have j3 := m64C_at x.natAbs y.natAbs
        have j4 := m64C_at u v
        have k1 : I64 x := by unfold I64; omega
        have k2 : I64 y := by unfold I64; omega
        have k3 : x.natAbs < 18446744073709551616 := by omega
        have k4 : y.natAbs < 18446744073709551616 := by omega
        have k5 : u < 18446744073709551616 := by omega
        have k6 : v < 18446744073709551616 := by omega
        simp only [k1, k2, k3, k4, k5, k6, and_self, i64D, u64D] at j1 j2 j3 j4
        have sp := sign_prod x y
        rw [Int.natAbs_mul] at sp
        obtain ⟨P, hP⟩ : ∃ P, P = x.natAbs * y.natAbs := ⟨_, rfl⟩
        obtain ⟨R, hR⟩ : ∃ R, R = u * v := ⟨_, rfl⟩
        rw [← hP] at j3 sp hsm
        rw [← hR] at j4 hsm
        have fin : P / 18446744073709551616 = 0 → R / 18446744073709551616 = 0 → P % 18446744073709551616 < 9223372036854775808 → R % 18446744073709551616 < 9223372036854775808 →
            ∃ s : Int, (if (decide (x < 0) != decide (y < 0)) = true then IntKind.i64.wrap (-IntKind.i64.wrap ((P % 18446744073709551616 : Nat) : Int)) else IntKind.i64.wrap ((P % 18446744073709551616 : Nat) : Int)) = s ∧ eRat ab = .agg [.lit (.int .i64 s), .lit (.int .i64 (IntKind.i64.wrap ((R % 18446744073709551616 : Nat) : Int))), .lit (.pointer none)] := by
          intro o1 o2 o3 o4
          have b1 : P < 9223372036854775808 := by omega
          have b2 : R < 9223372036854775808 := by omega
          have e3 : P % 18446744073709551616 = P := Nat.mod_eq_of_lt (by omega)
          have e4 : R % 18446744073709551616 = R := Nat.mod_eq_of_lt (by omega)
          have w11 : IntKind.i64.wrap (P : Int) = P := i64_id _ (by omega) (by omega)
          have w12 : IntKind.i64.wrap (R : Int) = R := i64_id _ (by omega) (by omega)
          rw [e3, e4, w11, w12, heR (hsm.2 ⟨b1, b2⟩), hR]
          exact ⟨_, sp b1, rfl⟩
        clear sp heR k1 k2 k3 k4 k5 k6 hP hR hsm
        generalize P / 18446744073709551616 = p1 at *
        generalize P % 18446744073709551616 = p0 at *
        generalize R / 18446744073709551616 = r1 at *
        generalize R % 18446744073709551616 = r0 at *
        have t1 : ((p0 : Nat) : Int) < 9223372036854775808 ↔ p0 < 9223372036854775808 := by omega
        have t2 : ((r0 : Nat) : Int) < 9223372036854775808 ↔ r0 < 9223372036854775808 := by omega
        cases la with
        | false =>
          simp [-D.isLit, c1, d1, d2, d3, d4, g1, g2, g3, g4, j1, j2, j3, j4, w1, w2, w3, w4, w5, w6, w7, w8, w9, w10, hX, hY, q7, q8, hgz, hhz, z1, z2, List.idxOf_cons]
          intro o1 o2 o3 o4
          obtain ⟨s, hs1, hs2⟩ := fin o1 o2 (t1.1 o3) (t2.1 o4)
          rw [hs2]
          constructor
          · intro hxy
            rw [if_pos (by by_cases hx : x < 0 <;> by_cases hy : y < 0 <;> simp [hx, hy] at hxy ⊢)] at hs1
            rw [hs1]
            exact Sub.refl _
          · intro hxy
            rw [if_neg (by by_cases hx : x < 0 <;> by_cases hy : y < 0 <;> simp [hx, hy] at hxy ⊢)] at hs1
            rw [hs1]
            exact Sub.refl _
        | true =>
          cases lb with
          | true => simp at hlit
          | false =>
            simp [-D.isLit, c1, c2, d1, d2, d3, d4, g1, g2, g3, g4, j1, j2, j3, j4, w1, w2, w3, w4, w5, w6, w7, w8, w9, w10, hX, hY, q7, q8, hgz, hhz, z1, z2, List.idxOf_cons]
            intro o1 o2 o3 o4
            obtain ⟨s, hs1, hs2⟩ := fin o1 o2 (t1.1 o3) (t2.1 o4)
            rw [hs2]
            constructor
            · intro hxy
              rw [if_pos (by by_cases hx : x < 0 <;> by_cases hy : y < 0 <;> simp [hx, hy] at hxy ⊢)] at hs1
              rw [hs1]
              exact Sub.refl _
            · intro hxy
              rw [if_neg (by by_cases hx : x < 0 <;> by_cases hy : y < 0 <;> simp [hx, hy] at hxy ⊢)] at hs1
              rw [hs1]
              exact Sub.refl _
  · by_cases sa : smallQ a
    · have sb : ¬ smallQ b := fun h => hab ⟨sa, h⟩
      rw [eRat_s sa] at d1 ⊢
      rw [eRat_b sb] at d2 ⊢
      simp only [i64D] at d1 d2
      simp [-D.isLit, i64D, d1, d2, d3, d4, List.idxOf_cons]
    · rw [eRat_b sa] at d1 ⊢
      simp only [i64D] at d1
      simp [-D.isLit, i64D, d1, d2, d3, d4, List.idxOf_cons]
theorem rmul_ok : callable Tryz.prog 75 = true := by kernel_rfl

/-! div -/
noncomputable def rdvC := ctD r2E (fun p => qsz p.a + qsz p.b < MX ∧ p.b ≠ 0) (fun p => [eRat (p.a / p.b)])
theorem rdvC_at (a b : Rat) : rdvC [eRat a, eRat b] = ((qsz a + qsz b < MX ∧ b ≠ 0), [eRat (a / b)]) := ctD_at r2E_inj ⟨a, b⟩
noncomputable def rdvTb : List (FuncId × Ct) := [(75, .data rmC), (90, .data rinvC)]
theorem rdvTb_ok : TbOK N Tryz.prog (tbl rdvTb) := tbl_cons (c := .data rmC) rmul_spec rmul_ok (tbl_cons (c := .data rinvC) rinv_spec rinv_ok tbl_nil)

@[simp] theorem rdvTb1 : tbl rdvTb 75 = some (.data rmC) := rfl
@[simp] theorem rdvTb2 : tbl rdvTb 90 = some (.data rinvC) := rfl
theorem rdiv_spec : SpecD N Tryz.prog 69 rdvC := by
  refine rdD (mf := fun f => false) rdvTb_ok (fn := Tryz.f69) (by kernel_rfl) rfl (by kernel_rfl) ?_
  rintro ⟨a, b⟩ ⟨hq, h0⟩
  have hq : qsz a + qsz b < MX := hq
  have h0 : b ≠ 0 := h0
  refine ⟨by show 2 ≤ 9; decide, ?_⟩
  simp only [r2E, Tryz.f69]
  have c1 := rinvC_at b
  have c2 := rmC_at a b⁻¹
  have h1 := qsz_inv h0
  have h2 : qsz b < MX := by omega
  have h3 : qsz a + qsz b⁻¹ < MX := by omega
  rw [← Rat.div_def] at c2
  simp only [h0, h2, h3, ne_eq, not_false_eq_true, and_self] at c1 c2
  simp [c1, c2]
theorem rdiv_ok : callable Tryz.prog 69 = true := by kernel_rfl
end Go.Proofs.YtmnplonkijkblaaGreat.Ae

/-! impl.rat: cmp; impl.QOk, allQ. No condition. -/
namespace Go.Proofs.YtmnplonkijkblaaGreat.Ae
open Go Go.RowKit Go.Proofs.YtmnplonkijkblaaGreat.Dig
variable {N : NR}

noncomputable def rcC := ctD r2E (fun p => qsz p.a + qsz p.b < MX) (fun p => [i64D (qcmp p.a p.b)])
theorem rcC_at (a b : Rat) : rcC [eRat a, eRat b] = (qsz a + qsz b < MX, [i64D (qcmp a b)]) := ctD_at r2E_inj ⟨a, b⟩
noncomputable def rcTb : List (FuncId × Ct) := [(29, .data rsgC), (81, .data bigIC), (100, .data absC), (101, .data m64C)]
theorem rcTb_ok : TbOK N Tryz.prog (tbl rcTb) := tbl_cons (c := .data rsgC) rsign_spec rsign_ok (tbl_cons (c := .data bigIC) big_spec big_ok (tbl_cons (c := .data absC) abs64_spec abs64_ok (tbl_cons (c := .data m64C) Mul64_spec Mul64_ok tbl_nil)))

@[simp] theorem rcTb1 : tbl rcTb 29 = some (.data rsgC) := rfl
@[simp] theorem rcTb2 : tbl rcTb 81 = some (.data bigIC) := rfl
@[simp] theorem rcTb4 : tbl rcTb 100 = some (.data absC) := rfl
@[simp] theorem rcTb5 : tbl rcTb 101 = some (.data m64C) := rfl
theorem qcmp_same {a b : Rat} (h : a.den = b.den) : qcmp a b = (a.num - b.num).sign := by
  unfold qcmp
  rw [h, ← Int.sub_mul, Int.sign_mul, Int.sign_eq_one_of_pos (show 0 < (b.den : Int) by have := b.den_pos; omega), Int.mul_one]
theorem sgn_cases (x : Int) : (x < 0 ∧ x.sign = -1) ∨ (x = 0 ∧ x.sign = 0) ∨ (0 < x ∧ x.sign = 1) := by
  rcases Int.lt_trichotomy x 0 with h | h | h
  · exact .inl ⟨h, Int.sign_eq_neg_one_of_neg h⟩
  · exact .inr (.inl ⟨h, by rw [h]; rfl⟩)
  · exact .inr (.inr ⟨h, Int.sign_eq_one_of_pos h⟩)
/-- By the signs, and by the products' sizes. -/
theorem qcmp_way (a b : Rat) : (a.num.sign < b.num.sign → qcmp a b = -1) ∧ (b.num.sign < a.num.sign → qcmp a b = 1) ∧
    (a.num.sign = b.num.sign → (a.num.natAbs * b.den < b.num.natAbs * a.den → qcmp a b = -a.num.sign) ∧ (b.num.natAbs * a.den < a.num.natAbs * b.den → qcmp a b = a.num.sign) ∧ (a.num.natAbs * b.den = b.num.natAbs * a.den → qcmp a b = 0)) := by
  have da := a.den_pos
  have db := b.den_pos
  have e1 : a.num = a.num.sign * a.num.natAbs := (Int.sign_mul_natAbs a.num).symm
  have e2 : b.num = b.num.sign * b.num.natAbs := (Int.sign_mul_natAbs b.num).symm
  have m1 : a.num * b.den = a.num.sign * ((a.num.natAbs * b.den : Nat) : Int) := by rw [Int.natCast_mul, ← Int.mul_assoc, ← e1]
  have m2 : b.num * a.den = b.num.sign * ((b.num.natAbs * a.den : Nat) : Int) := by rw [Int.natCast_mul, ← Int.mul_assoc, ← e2]
  have p1 : a.num.sign ≠ 0 → 0 < a.num.natAbs * b.den := fun h => Nat.mul_pos (by rcases sgn_cases a.num with ⟨h1, h2⟩ | ⟨h1, h2⟩ | ⟨h1, h2⟩ <;> omega) db
  have p2 : b.num.sign ≠ 0 → 0 < b.num.natAbs * a.den := fun h => Nat.mul_pos (by rcases sgn_cases b.num with ⟨h1, h2⟩ | ⟨h1, h2⟩ | ⟨h1, h2⟩ <;> omega) da
  have z1 : a.num.sign = 0 → a.num.natAbs * b.den = 0 := fun h => by
    have : a.num.natAbs = 0 := by rcases sgn_cases a.num with ⟨h1, h2⟩ | ⟨h1, h2⟩ | ⟨h1, h2⟩ <;> omega
    rw [this, Nat.zero_mul]
  have z2 : b.num.sign = 0 → b.num.natAbs * a.den = 0 := fun h => by
    have : b.num.natAbs = 0 := by rcases sgn_cases b.num with ⟨h1, h2⟩ | ⟨h1, h2⟩ | ⟨h1, h2⟩ <;> omega
    rw [this, Nat.zero_mul]
  unfold qcmp
  rw [m1, m2]
  have h1 := sgn_cases a.num
  have h2 := sgn_cases b.num
  generalize a.num.natAbs * b.den = A at *
  generalize b.num.natAbs * a.den = C at *
  generalize a.num.sign = s at *
  generalize b.num.sign = t at *
  have hs : s = -1 ∨ s = 0 ∨ s = 1 := by rcases h1 with ⟨_, h⟩ | ⟨_, h⟩ | ⟨_, h⟩ <;> simp [h]
  have ht : t = -1 ∨ t = 0 ∨ t = 1 := by rcases h2 with ⟨_, h⟩ | ⟨_, h⟩ | ⟨_, h⟩ <;> simp [h]
  have neg : ∀ x : Int, x < 0 → x.sign = -1 := fun x h => Int.sign_eq_neg_one_of_neg h
  have pos : ∀ x : Int, 0 < x → x.sign = 1 := fun x h => Int.sign_eq_one_of_pos h
  clear h1 h2 m1 m2 e1 e2
  rcases hs with rfl | rfl | rfl <;> rcases ht with rfl | rfl | rfl <;> simp at p1 p2 z1 z2
  all_goals refine ⟨fun h => ?_, fun h => ?_, fun h => ⟨fun h' => ?_, fun h' => ?_, fun h' => ?_⟩⟩
  all_goals first
    | omega
    | (apply neg; omega)
    | (apply pos; omega)
    | (rw [neg _ (by omega)]; omega)
    | (rw [pos _ (by omega)]; omega)
    | (subst h'; simp; done)
    | (simp [*]; done)
/-! QOk, allQ -/
def qOk (n d : Int) : Prop := (1 ≤ d ∧ d ≤ 1000000000000000000) ∧ (-1000000000000000000 ≤ n ∧ n ≤ 1000000000000000000) ∧ Int.gcd n d = 1
instance (n d : Int) : Decidable (qOk n d) := by unfold qOk; infer_instance
theorem qOk_QI {n d : Int} (h : qOk n d) : QI n d := ⟨by unfold qOk at h; omega, h.2.2, by unfold qOk at h; omega, by unfold qOk at h; omega⟩
noncomputable def qokC := ctD qE (fun p => I64 p.a ∧ I64 p.b) (fun p => [boolD (decide (qOk p.a p.b))])
theorem qokC_at (a b : Int) : qokC [eQ a b] = ((I64 a ∧ I64 b), [boolD (decide (qOk a b))]) := ctD_at qE_inj ⟨a, b⟩
theorem iQOk_spec : SpecD N Tryz.prog 74 qokC := by
  refine rdD (mf := fun f => false) lowTb_ok (fn := Tryz.f74) (by kernel_rfl) rfl (by kernel_rfl) ?_
  rintro ⟨n, d⟩ ⟨hn, hd⟩
  have hn : I64 n := hn
  have hd : I64 d := hd
  refine ⟨by show 1 ≤ 31; decide, ?_⟩
  have c1 := absC_at n
  have c2 := gcdC_at n.natAbs d.natAbs
  unfold I64 at hd
  have h2 : n.natAbs < 18446744073709551616 := by unfold I64 at hn; omega
  have h3 : d.natAbs < 18446744073709551616 := by omega
  have e3 : Nat.gcd n.natAbs d.natAbs = Int.gcd n d := rfl
  simp only [hn, h2, h3, e3, and_self, u64D, i64D] at c1 c2
  simp only [qE, eQ, i64D, Tryz.f74, boolD]
  have hw : 1 ≤ d → IntKind.u64.wrap d = (d.natAbs : Int) := fun h => by rw [wrap_u64]; omega
  have e : decide (qOk n d) = (decide (1 ≤ d) && (decide (d ≤ 1000000000000000000) && (decide (-1000000000000000000 ≤ n) && (decide (n ≤ 1000000000000000000) && decide (Int.gcd n d = 1))))) := by
    rw [← Bool.decide_and, ← Bool.decide_and, ← Bool.decide_and, ← Bool.decide_and]
    congr 1
    apply propext
    unfold qOk
    constructor
    · rintro ⟨⟨a, b⟩, ⟨c, e⟩, f⟩; exact ⟨a, b, c, e, f⟩
    · rintro ⟨a, b, c, e, f⟩; exact ⟨⟨a, b⟩, ⟨c, e⟩, f⟩
  rw [e]
  clear e e3
  generalize Int.gcd n d = g at *
  by_cases h1 : 1 ≤ d
  · have w1 := hw h1
    by_cases h4 : d ≤ 1000000000000000000 <;> by_cases h5 : -1000000000000000000 ≤ n <;> by_cases h6 : n ≤ 1000000000000000000 <;> simp [h1, h4, h5, h6, w1, c1, c2]
    by_cases h7 : g = 1
    · subst h7; simp
    · have h7' : ¬ (g : Int) = 1 := by omega
      simp [h7, h7']
  · simp [h1]
theorem iQOk_ok : callable Tryz.prog 74 = true := by kernel_rfl

/-- A list of fractions as the program gets it. -/
structure QL where
  l : List (Int × Int)
def eQL (l : List (Int × Int)) : D := .sl 2 (l.map fun p => eQ p.1 p.2)
def qlE (p : QL) : List D := [eQL p.l]
theorem eQ_inj {a b c d : Int} (h : eQ a b = eQ c d) : a = c ∧ b = d := by
  simp only [eQ, D.agg.injEq, List.cons.injEq, and_true] at h
  exact ⟨i64D_inj h.1, i64D_inj h.2⟩
theorem eQL_inj : ∀ {a b : List (Int × Int)}, eQL a = eQL b → a = b
  | [], [], _ => rfl
  | x :: a, y :: b, h => by
    simp only [eQL, D.sl.injEq, List.map_cons, List.cons.injEq, true_and] at h
    obtain ⟨h1, h2⟩ := eQ_inj h.1
    have h3 : eQL a = eQL b := by unfold eQL; rw [h.2]
    rw [eQL_inj h3]
    congr 1
    exact Prod.ext h1 h2
  | [], _ :: _, h => by simp [eQL] at h
  | _ :: _, [], h => by simp [eQL] at h
theorem qlE_inj (p q : QL) (h : qlE p = qlE q) : p = q := by
  obtain ⟨a⟩ := p; obtain ⟨b⟩ := q
  simp only [qlE, List.cons.injEq, and_true] at h
  rw [eQL_inj h]
def I64p (p : Int × Int) : Prop := I64 p.1 ∧ I64 p.2
noncomputable def allQC := ctD qlE (fun p => p.l.length < 4611686018427387904 ∧ ∀ q ∈ p.l, I64p q) (fun p => [boolD (p.l.all fun q => decide (qOk q.1 q.2))])
theorem allQC_at (l : List (Int × Int)) : allQC [eQL l] = ((l.length < 4611686018427387904 ∧ ∀ q ∈ l, I64p q), [boolD (l.all fun q => decide (qOk q.1 q.2))]) := ctD_at qlE_inj ⟨l⟩
noncomputable def allQTb : List (FuncId × Ct) := [(74, .data qokC)]
theorem allQTb_ok : TbOK N Tryz.prog (tbl allQTb) := tbl_cons (c := .data qokC) iQOk_spec iQOk_ok tbl_nil

@[simp] theorem allQTb1 : tbl allQTb 74 = some (.data qokC) := rfl
@[simp] theorem eQ_size (n d : Int) : (eQ n d).size = 2 := rfl
@[simp] theorem eQ_agg (n d : Int) : (eQ n d).isAgg = true := rfl
@[simp] theorem eQ_lit (n d : Int) : (eQ n d).isLit = false := rfl
def allQS (l : List (Int × Int)) (k : Nat) : St := ⟨[.any, .any, .any, .any, .any, .dat (eQL l), .dat (.lit (.int .i64 l.length)), .dat (.lit (.int .i64 k)), .any, .any, .any, .any, .any, .any, .any], [none, none, none, none, none, none, none, none, none, none, none, none, none, none, none]⟩
theorem all_drop {α : Type} (f : α → Bool) (l : List α) (k : Nat) (x : α) (h : l[k]? = some x) (hb : ∀ y ∈ l.take k, f y = true) : (f x = false → l.all f = false) ∧ (f x = true → ∀ y ∈ l.take (k + 1), f y = true) := by
  constructor
  · intro hx
    rw [List.all_eq_false]
    exact ⟨x, List.mem_of_getElem? h, by rw [hx]; simp⟩
  · intro hx y hy
    rw [take_succ l k x h] at hy
    rcases List.mem_append.1 hy with hy | hy
    · exact hb y hy
    · simp at hy; rw [hy]; exact hx
theorem allQ_spec : SpecD N Tryz.prog 49 allQC := by
  refine rdD (mf := fun f => false) allQTb_ok (fn := Tryz.f49) (by kernel_rfl) rfl (by kernel_rfl) ?_
  rintro ⟨l⟩ ⟨hl, hb⟩
  have hl : l.length < 4611686018427387904 := hl
  have hb : ∀ q ∈ l, I64p q := hb
  refine ⟨by show 1 ≤ 15; decide, ?_⟩
  simp only [qlE, boolD, Tryz.f49]
  generalize hr : (l.all fun q => decide (qOk q.1 q.2)) = r
  simp [eQL]
  refine loop_go (fun n st => ∃ k, n = l.length - k ∧ k ≤ l.length ∧ (∀ y ∈ l.take k, decide (qOk y.1 y.2) = true) ∧ st = allQS l k) (s0 := allQS l 0) (n := l.length) (snd_of (by simp [LeT, allQS, eQL]) (by simp [allQS])) ⟨0, rfl, Nat.zero_le _, by simp, rfl⟩ ?_
  rintro n st ⟨k, hn, hk, hall, rfl⟩ KN hN
  by_cases h : k < l.length
  · have hx := List.getElem?_eq_getElem h
    obtain ⟨⟨n0, d0⟩, hq⟩ : ∃ q, q = l[k] := ⟨_, rfl⟩
    rw [← hq] at hx
    have e1 : ix (l.map fun p => eQ p.1 p.2) k = some (eQ n0 d0) := by
      unfold ix
      rw [List.getElem?_map, hx]; rfl
    obtain ⟨i1, i2⟩ := hb (n0, d0) (List.mem_of_getElem? hx)
    have c1 := qokC_at n0 d0
    have i1 : I64 n0 := i1
    have i2 : I64 d0 := i2
    simp only [i1, i2, and_self, boolD] at c1
    obtain ⟨a1, a2⟩ := all_drop (fun q => decide (qOk q.1 q.2)) l k (n0, d0) hx hall
    have w1 : IntKind.i64.wrap ((k : Int) + 1) = (k : Int) + 1 := i64_id _ (by omega) (by omega)
    by_cases hok : qOk n0 d0
    · have a2 := a2 (by simp [hok])
      simp only [hok, decide_true] at c1
      simp [allQS, eQL, h, e1, c1, w1]
      exact hN _ (nx (m := l.length - (k + 1)) (s'' := allQS l (k + 1)) (snd_obs (n := 15) [] rfl (by simp) (by simp [allQS, eQL])) ⟨k + 1, rfl, h, a2, rfl⟩ (by omega))
    · have a1 := a1 (by simp [hok])
      rw [hr] at a1
      subst a1
      simp only [hok, decide_false] at c1
      simp [allQS, eQL, h, e1, c1, w1]
  · have hkl : k = l.length := by omega
    subst hkl
    rw [List.take_length] at hall
    have hrt : r = true := by rw [← hr, List.all_eq_true]; exact hall
    subst hrt
    simp [allQS, eQL]
theorem allQ_ok : callable Tryz.prog 49 = true := by kernel_rfl
end Go.Proofs.YtmnplonkijkblaaGreat.Ae

/-! The reference's fractions as opaque numbers: the contracts. No condition. -/
namespace Go.Proofs.YtmnplonkijkblaaGreat.Ae
open Go Go.RowKit Go.Proofs.YtmnplonkijkblaaGreat.Dig

theorem nn_z (z : Int) : ∀ k q, eZ z ≠ .num k q := fun k q h => by unfold eZ at h; cases h
theorem nn_i (z : Int) : ∀ k q, i64D z ≠ .num k q := fun k q h => by unfold i64D at h; cases h
theorem nn_q (a b : Int) : ∀ k q, eQ a b ≠ .num k q := fun k q h => by unfold eQ at h; cases h
theorem nn_b (b : Bool) : ∀ k q, boolD b ≠ .num k q := fun k q h => by unfold boolD at h; cases h

noncomputable def nAddC := ctD f2E (fun p => qsz p.a + qsz p.b < MX) (fun p => [nD (p.a + p.b)])
theorem nAddC_at (a b : Rat) : nAddC [nD a, nD b] = (qsz a + qsz b < MX, [nD (a + b)]) := ctD_at f2E_inj ⟨a, b⟩
theorem nAdd_spec : SpecD NF Tryz.prog 64 nAddC := specD_num' l1rAdd_spec (fun ⟨a, b⟩ h ds hc => by
  obtain ⟨r, s, h1, rfl, h2, rfl, rfl⟩ := cv2 hc
  have h : qsz r.val + qsz s.val < MX := h
  obtain ⟨s1, s2, s3, s4, s5, s6, s7⟩ := cross_sz h1 h2 h
  have c := rAddC_at r s
  rw [c]
  exact ⟨⟨h1.1, h2.1, s1, s2, s3, s5⟩, cv_to (add_ok h1 h2 h), trivial⟩)
noncomputable def nMulC := ctD f2E (fun p => qsz p.a + qsz p.b < MX) (fun p => [nD (p.a * p.b)])
theorem nMulC_at (a b : Rat) : nMulC [nD a, nD b] = (qsz a + qsz b < MX, [nD (a * b)]) := ctD_at f2E_inj ⟨a, b⟩
theorem nMul_spec : SpecD NF Tryz.prog 65 nMulC := specD_num' l1rMul_spec (fun ⟨a, b⟩ h ds hc => by
  obtain ⟨r, s, h1, rfl, h2, rfl, rfl⟩ := cv2 hc
  have h : qsz r.val + qsz s.val < MX := h
  obtain ⟨s1, s2, s3, s4, s5, s6, s7⟩ := cross_sz h1 h2 h
  have c := rMulC_at r s
  rw [c]
  exact ⟨⟨h1.1, h2.1, s6, s5⟩, cv_to (mul_ok h1 h2 h), trivial⟩)
noncomputable def nSubC := ctD f2E (fun p => qsz p.a + qsz p.b < MX) (fun p => [nD (p.a - p.b)])
theorem nSubC_at (a b : Rat) : nSubC [nD a, nD b] = (qsz a + qsz b < MX, [nD (a - b)]) := ctD_at f2E_inj ⟨a, b⟩
theorem nSub_spec : SpecD NF Tryz.prog 46 nSubC := specD_num' l1rSub_spec (fun ⟨a, b⟩ h ds hc => by
  obtain ⟨r, s, h1, rfl, h2, rfl, rfl⟩ := cv2 hc
  have h : qsz r.val + qsz s.val < MX := h
  obtain ⟨s1, s2, s3, s4, s5, s6, s7⟩ := cross_sz h1 h2 h
  have c := rSubC_at r s
  rw [c]
  exact ⟨⟨h1.1, h2.1, s1, s2, s4, s5⟩, cv_to (sub_ok h1 h2 h), trivial⟩)
noncomputable def nDivC := ctD f2E (fun p => qsz p.a + qsz p.b < MX ∧ p.b ≠ 0) (fun p => [nD (p.a / p.b)])
theorem nDivC_at (a b : Rat) : nDivC [nD a, nD b] = ((qsz a + qsz b < MX ∧ b ≠ 0), [nD (a / b)]) := ctD_at f2E_inj ⟨a, b⟩
theorem nDiv_spec : SpecD NF Tryz.prog 66 nDivC := specD_num' l1rDiv_spec (fun ⟨a, b⟩ h ds hc => by
  obtain ⟨r, s, h1, rfl, h2, rfl, rfl⟩ := cv2 hc
  obtain ⟨h, h0⟩ := h
  have h : qsz r.val + qsz s.val < MX := h
  have h0 : s.val ≠ 0 := h0
  obtain ⟨s1, s2, s3, s4, s5, s6, s7⟩ := cross_sz h1 h2 h
  have c := rDivC_at r s
  rw [c]
  exact ⟨⟨h1.1, h2.1, fun h' => h0 ((val_zero h2.1).2 h'), s1, s7⟩, cv_to (div_ok h1 h2 h0 h), trivial⟩)
noncomputable def nNegC := ctD f1E (fun p => True) (fun p => [nD (-p.a)])
theorem nNegC_at (a : Rat) : nNegC [nD a] = (True, [nD (-a)]) := ctD_at f1E_inj ⟨a⟩
theorem nNeg_spec : SpecD NF Tryz.prog 72 nNegC := specD_num' l1rNeg_spec (fun ⟨a⟩ h ds hc => by
  obtain ⟨r, h1, rfl, rfl⟩ := cv1 hc
  have c := rNegC_at r
  rw [c]
  exact ⟨h1.1, cv_to ⟨neg_WV h1, neg_val r⟩, trivial⟩)
noncomputable def nSignC := ctD f1E (fun p => True) (fun p => [i64D p.a.num.sign])
theorem nSignC_at (a : Rat) : nSignC [nD a] = (True, [i64D a.num.sign]) := ctD_at f1E_inj ⟨a⟩
theorem nSign_spec : SpecD NF Tryz.prog 19 nSignC := specD_num' l1rSign_spec (fun ⟨a⟩ h ds hc => by
  obtain ⟨r, h1, rfl, rfl⟩ := cv1 hc
  have c := rSignC_at r
  rw [c]
  refine ⟨h1.1, ?_⟩
  rw [sign_val h1.1]
  exact cvo1 (nn_i _))
noncomputable def nCmpC := ctD f2E (fun p => qsz p.a + qsz p.b < MX) (fun p => [i64D (qcmp p.a p.b)])
theorem nCmpC_at (a b : Rat) : nCmpC [nD a, nD b] = (qsz a + qsz b < MX, [i64D (qcmp a b)]) := ctD_at f2E_inj ⟨a, b⟩
noncomputable def nFloorC := ctD f1E (fun p => True) (fun p => [eZ p.a.floor])
theorem nFloorC_at (a : Rat) : nFloorC [nD a] = (True, [eZ a.floor]) := ctD_at f1E_inj ⟨a⟩
def d3 (r : Int × Int × Bool) : List D := [eQ r.1 r.2.1, boolD r.2.2]
noncomputable def nQC := ctD f1E (fun p => True) (fun p => d3 (oq p.a))
theorem nQC_at (a : Rat) : nQC [nD a] = (True, d3 (oq a)) := ctD_at f1E_inj ⟨a⟩
theorem nQ_spec : SpecD NF Tryz.prog 58 nQC := specD_num' l1rQ_spec (fun ⟨a⟩ h ds hc => by
  obtain ⟨r, h1, rfl, rfl⟩ := cv1 hc
  have c := rQC_at r
  rw [c]
  refine ⟨h1.1, ?_⟩
  rw [qOf_val h1]
  exact cvo2 (nn_q _ _) (nn_b _))
noncomputable def nWholeC := ctD zE (fun p => SZ p.a) (fun p => [nD (p.a : Rat)])
theorem nWholeC_at (a : Int) : nWholeC [eZ a] = (SZ a, [nD (a : Rat)]) := ctD_at zE_inj ⟨a⟩
theorem divInt_one (a : Int) : Rat.divInt a 1 = (a : Rat) := by rw [Rat.divInt_eq_div]; grind
noncomputable def nqC := ctD qE (fun p => I64 p.a ∧ I64 p.b ∧ 0 < p.b) (fun p => [nD (Rat.divInt p.a p.b)])
theorem nqC_at (a b : Int) : nqC [eQ a b] = ((I64 a ∧ I64 b ∧ 0 < b), [nD (Rat.divInt a b)]) := ctD_at qE_inj ⟨a, b⟩
theorem nq_spec : SpecD NF Tryz.prog 48 nqC := specD_num' l1q_spec (fun ⟨a, b⟩ h ds hc => by
  obtain rfl := cvs1 (nn_q a b) hc
  obtain ⟨h1, h2, h3⟩ := h
  have h1 : I64 a := h1
  have h2 : I64 b := h2
  have h3 : 0 < b := h3
  have c := l1qC_at a b
  rw [c]
  exact ⟨⟨h1, h2, h3⟩, cv_to (ofR_ok h3 h1 h2), trivial⟩)
noncomputable def nOfC := ctD iiE (fun p => I64 p.a ∧ I64 p.b ∧ 0 < p.b) (fun p => [nD (Rat.divInt p.a p.b)])
theorem nOfC_at (a b : Int) : nOfC [i64D a, i64D b] = ((I64 a ∧ I64 b ∧ 0 < b), [nD (Rat.divInt a b)]) := ctD_at iiE_inj ⟨a, b⟩
theorem nOf_spec : SpecD NF Tryz.prog 73 nOfC := specD_num' l1rOf_spec (fun ⟨a, b⟩ h ds hc => by
  obtain rfl := cvs2 (nn_i a) (nn_i b) hc
  obtain ⟨h1, h2, h3⟩ := h
  have h1 : I64 a := h1
  have h2 : I64 b := h2
  have h3 : 0 < b := h3
  have c := ofC_at a b
  rw [c]
  exact ⟨⟨h1, h2, h3⟩, cv_to (ofR_ok h3 h1 h2), trivial⟩)
noncomputable def nBigC := ctD zzE (fun p => SZ p.a ∧ SZ p.b ∧ p.b ≠ 0) (fun p => [nD (Rat.divInt p.a p.b)])
theorem nBigC_at (a b : Int) : nBigC [eZ a, eZ b] = ((SZ a ∧ SZ b ∧ b ≠ 0), [nD (Rat.divInt a b)]) := ctD_at zzE_inj ⟨a, b⟩
theorem nBig_spec : SpecD NF Tryz.prog 92 nBigC := specD_num' l1rBig_spec (fun ⟨a, b⟩ h ds hc => by
  obtain rfl := cvs2 (nn_z a) (nn_z b) hc
  obtain ⟨h1, h2, h3⟩ := h
  have h1 : SZ a := h1
  have h2 : SZ b := h2
  have h3 : b ≠ 0 := h3
  have c := bigC_at a b
  rw [c]
  exact ⟨⟨h1, h2, h3⟩, cv_to (bigR_ok h3 h1 h2), trivial⟩)
theorem oQ_d3 (q : Rat) : oQ q = d3 (oq q) := by
  unfold oQ oq d3
  by_cases h : isQ q
  · rw [if_pos h, if_pos (show q.num.natAbs ≤ 1000000000000000000 ∧ q.den ≤ 1000000000000000000 from h)]
  · rw [if_neg h, if_neg (show ¬ (q.num.natAbs ≤ 1000000000000000000 ∧ q.den ≤ 1000000000000000000) from h)]
end Go.Proofs.YtmnplonkijkblaaGreat.Ae

/-! impl: QAdd, QSub, QMul, QDiv, QCmp, QFloor, QOf. No condition. -/
namespace Go.Proofs.YtmnplonkijkblaaGreat.Ae
open Go Go.RowKit Go.Proofs.YtmnplonkijkblaaGreat.Dig

structure Q4 where
  a : Int
  b : Int
  c : Int
  d : Int
def q4E (p : Q4) : List D := [eQ p.a p.b, eQ p.c p.d]
theorem q4E_inj (p q : Q4) (h : q4E p = q4E q) : p = q := by
  obtain ⟨a, b, c, d⟩ := p; obtain ⟨a', b', c', d'⟩ := q
  simp only [q4E, List.cons.injEq, and_true] at h
  obtain ⟨h1, h2⟩ := eQ_inj h.1
  obtain ⟨h3, h4⟩ := eQ_inj h.2
  simp only [h1, h2, h3, h4]
def I4 (p : Q4) : Prop := (I64 p.a ∧ I64 p.b) ∧ I64 p.c ∧ I64 p.d
def no3 : Int × Int × Bool := (0, 0, false)
def opR (ok : Prop) [Decidable ok] (F : Rat → Rat → Rat) (p : Q4) : Int × Int × Bool := if ok then oq (F (Rat.divInt p.a p.b) (Rat.divInt p.c p.d)) else no3
theorem opR_y {ok : Prop} [Decidable ok] {F : Rat → Rat → Rat} {p : Q4} (h : ok) : opR ok F p = oq (F (Rat.divInt p.a p.b) (Rat.divInt p.c p.d)) := if_pos h
theorem opR_n {ok : Prop} [Decidable ok] {F : Rat → Rat → Rat} {p : Q4} (h : ¬ ok) : opR ok F p = no3 := if_neg h
def ok2 (p : Q4) : Prop := qOk p.a p.b ∧ qOk p.c p.d
instance (p : Q4) : Decidable (ok2 p) := by unfold ok2; infer_instance
def okD (p : Q4) : Prop := ok2 p ∧ p.c ≠ 0
instance (p : Q4) : Decidable (okD p) := by unfold okD; infer_instance
def okF (p : Q4) : Prop := ok2 p ∧ 0 < p.c
instance (p : Q4) : Decidable (okF p) := by unfold okF; infer_instance
def flr (a b : Rat) : Rat := ((a / b).floor : Rat) * b
noncomputable def qaddC := ctD q4E I4 (fun p => d3 (opR (ok2 p) (· + ·) p))
noncomputable def qsubC := ctD q4E I4 (fun p => d3 (opR (ok2 p) (· - ·) p))
noncomputable def qmulC := ctD q4E I4 (fun p => d3 (opR (ok2 p) (· * ·) p))
noncomputable def qdivC := ctD q4E I4 (fun p => d3 (opR (okD p) (· / ·) p))
noncomputable def qflrC := ctD q4E I4 (fun p => d3 (opR (okF p) flr p))
noncomputable def qcmpC := ctD q4E I4 (fun p => [i64D (if ok2 p then qcmp (Rat.divInt p.a p.b) (Rat.divInt p.c p.d) else 2)])
noncomputable def qofC := ctD iiE (fun p => I64 p.a ∧ I64 p.b) (fun p => d3 (if p.b = 0 then no3 else oq (Rat.divInt p.a p.b)))
theorem qaddC_at (a b c d : Int) : qaddC [eQ a b, eQ c d] = (I4 ⟨a, b, c, d⟩, d3 (opR (ok2 ⟨a, b, c, d⟩) (· + ·) ⟨a, b, c, d⟩)) := ctD_at q4E_inj ⟨a, b, c, d⟩
theorem qsubC_at (a b c d : Int) : qsubC [eQ a b, eQ c d] = (I4 ⟨a, b, c, d⟩, d3 (opR (ok2 ⟨a, b, c, d⟩) (· - ·) ⟨a, b, c, d⟩)) := ctD_at q4E_inj ⟨a, b, c, d⟩
theorem qmulC_at (a b c d : Int) : qmulC [eQ a b, eQ c d] = (I4 ⟨a, b, c, d⟩, d3 (opR (ok2 ⟨a, b, c, d⟩) (· * ·) ⟨a, b, c, d⟩)) := ctD_at q4E_inj ⟨a, b, c, d⟩
theorem qdivC_at (a b c d : Int) : qdivC [eQ a b, eQ c d] = (I4 ⟨a, b, c, d⟩, d3 (opR (okD ⟨a, b, c, d⟩) (· / ·) ⟨a, b, c, d⟩)) := ctD_at q4E_inj ⟨a, b, c, d⟩
theorem qflrC_at (a b c d : Int) : qflrC [eQ a b, eQ c d] = (I4 ⟨a, b, c, d⟩, d3 (opR (okF ⟨a, b, c, d⟩) flr ⟨a, b, c, d⟩)) := ctD_at q4E_inj ⟨a, b, c, d⟩
theorem qcmpC_at (a b c d : Int) : qcmpC [eQ a b, eQ c d] = (I4 ⟨a, b, c, d⟩, [i64D (if ok2 ⟨a, b, c, d⟩ then qcmp (Rat.divInt a b) (Rat.divInt c d) else 2)]) := ctD_at q4E_inj ⟨a, b, c, d⟩
theorem qofC_at (a b : Int) : qofC [i64D a, i64D b] = ((I64 a ∧ I64 b), d3 (if b = 0 then no3 else oq (Rat.divInt a b))) := ctD_at iiE_inj ⟨a, b⟩
theorem d3_no : d3 no3 = [eQ 0 0, boolD false] := rfl
theorem QI_qsz {n d : Int} (h : QI n d) : qsz (Rat.divInt n d) ≤ 2 := smallQ_qsz (QI_small h)
theorem QI_ne {n d : Int} (h : QI n d) (h0 : n ≠ 0) : Rat.divInt n d ≠ 0 := fun e => by
  have := (QI_num h).1
  rw [e] at this
  exact h0 this.symm
theorem ln_floor (q : Rat) : ln q.floor.natAbs ≤ qsz q := by
  rw [Rat.floor_def]
  exact Nat.le_trans (ln_mono (natAbs_ediv_le _ _)) (qsz_num q)
theorem qsz_floor (q : Rat) : qsz (q.floor : Rat) ≤ qsz q := by
  rw [qsz_int]
  have h1 := ln_floor q
  have h2 := qsz_pos q
  omega
theorem allQ2 (a b c d : Int) (h : I4 ⟨a, b, c, d⟩) : allQC [.sl 2 [eQ a b, eQ c d]] = (True, [boolD (decide (ok2 ⟨a, b, c, d⟩))]) := by
  have h1 := allQC_at [(a, b), (c, d)]
  have h2 : ([(a, b), (c, d)] : List (Int × Int)).length < 4611686018427387904 ∧ ∀ q ∈ [(a, b), (c, d)], I64p q := by
    refine ⟨by simp, ?_⟩
    intro q hq
    simp at hq
    rcases hq with rfl | rfl
    · exact h.1
    · exact h.2
  have h3 : (([(a, b), (c, d)] : List (Int × Int)).all fun q => decide (qOk q.1 q.2)) = decide (ok2 ⟨a, b, c, d⟩) := by
    by_cases h1 : qOk a b <;> by_cases h2 : qOk c d <;> simp [ok2, h1, h2]
  rw [h3, eq_true h2] at h1
  exact h1
@[simp] theorem nav_eQ0 (n d : Int) : nav (eQ n d) [0] = some (.lit (.int .i64 n), 0) := rfl
@[simp] theorem nav_eQ1 (n d : Int) : nav (eQ n d) [1] = some (.lit (.int .i64 d), 1) := rfl
theorem eQ00 : eQ 0 0 = .agg [.lit (.int .i64 0), .lit (.int .i64 0)] := rfl

noncomputable def pqTb : List (FuncId × Ct) := [(49, .data allQC), (50, .data rqC), (76, .data raddC), (52, .data rsubC), (75, .data rmC), (69, .data rdvC), (62, .data rqqC), (120, .mut [true, false, false] sfC), (125, .data newC), (79, .data fitC)]
theorem pqTb_ok {N : NR} : TbOK N Tryz.prog (tbl pqTb) := tbl_cons (c := .data allQC) allQ_spec allQ_ok (tbl_cons (c := .data rqC) rq_spec rq_ok (tbl_cons (c := .data raddC) radd_spec radd_ok (tbl_cons (c := .data rsubC) rsub_spec rsub_ok (tbl_cons (c := .data rmC) rmul_spec rmul_ok (tbl_cons (c := .data rdvC) rdiv_spec rdiv_ok (tbl_cons (c := .data rqqC) rqq_spec rqq_ok (tbl_cons (c := .mut [true, false, false] sfC) SetFrac_spec SetFrac_ok (tbl_cons (c := .data newC) newBigInt_spec newBigInt_ok (tbl_cons (c := .data fitC) fit_spec fit_ok tbl_nil)))))))))

@[simp] theorem pqTb1 : tbl pqTb 49 = some (.data allQC) := rfl
@[simp] theorem pqTb2 : tbl pqTb 50 = some (.data rqC) := rfl
@[simp] theorem pqTb3 : tbl pqTb 76 = some (.data raddC) := rfl
@[simp] theorem pqTb4 : tbl pqTb 52 = some (.data rsubC) := rfl
@[simp] theorem pqTb5 : tbl pqTb 75 = some (.data rmC) := rfl
@[simp] theorem pqTb6 : tbl pqTb 69 = some (.data rdvC) := rfl
@[simp] theorem pqTb8 : tbl pqTb 62 = some (.data rqqC) := rfl
@[simp] theorem pqTb11 : tbl pqTb 120 = some (.mut [true, false, false] sfC) := rfl
@[simp] theorem pqTb12 : tbl pqTb 125 = some (.data newC) := rfl
@[simp] theorem pqTb13 : tbl pqTb 79 = some (.data fitC) := rfl
def pqMf : FuncId → Bool := fun f => f == 79 || f == 120
attribute [simp] pqMf

end Go.Proofs.YtmnplonkijkblaaGreat.Ae

/-! spec: QOk, QAdd, QSub, QMul, QDiv, QCmp, QFloor, QOf. No condition. -/
namespace Go.Proofs.YtmnplonkijkblaaGreat.Ae
open Go Go.RowKit Go.Proofs.YtmnplonkijkblaaGreat.Dig

noncomputable def sokTb : List (FuncId × Ct) := [(71, .data absC), (70, .data gcdC)]
theorem sokTb_ok : TbOK NF Tryz.prog (tbl sokTb) := tbl_cons (c := .data absC) l1Abs_spec l1Abs_ok (tbl_cons (c := .data gcdC) l1Gcd_spec l1Gcd_ok tbl_nil)

@[simp] theorem sokTb1 : tbl sokTb 71 = some (.data absC) := rfl
@[simp] theorem sokTb2 : tbl sokTb 70 = some (.data gcdC) := rfl
theorem sQOk_spec : SpecD NF Tryz.prog 43 qokC := by
  refine rdD (mf := fun f => false) sokTb_ok (fn := Tryz.f43) (by kernel_rfl) rfl (by kernel_rfl) ?_
  rintro ⟨n, d⟩ ⟨hn, hd⟩
  have hn : I64 n := hn
  have hd : I64 d := hd
  refine ⟨of_decide_eq_true (by kernel_rfl), ?_⟩
  have c1 := absC_at n
  have c2 := gcdC_at n.natAbs d.natAbs
  unfold I64 at hd
  have h2 : n.natAbs < 18446744073709551616 := by unfold I64 at hn; omega
  have h3 : d.natAbs < 18446744073709551616 := by omega
  have e3 : Nat.gcd n.natAbs d.natAbs = Int.gcd n d := rfl
  simp only [hn, h2, h3, e3, and_self, u64D, i64D] at c1 c2
  simp only [qE, i64D, Tryz.f43, boolD]
  have hw : ¬ d < 1 → IntKind.u64.wrap d = (d.natAbs : Int) := fun h => by rw [wrap_u64]; omega
  have e : decide (qOk n d) = (!(decide (d < 1)) && (!(decide (1000000000000000000 < d)) && (!(decide (n < -1000000000000000000)) && (!(decide (1000000000000000000 < n)) && decide (Int.gcd n d = 1))))) := by
    rw [← decide_not, ← decide_not, ← decide_not, ← decide_not, ← Bool.decide_and, ← Bool.decide_and, ← Bool.decide_and, ← Bool.decide_and]
    congr 1
    apply propext
    unfold qOk
    constructor
    · rintro ⟨⟨a, b⟩, ⟨c, e⟩, f⟩; exact ⟨by omega, by omega, by omega, by omega, f⟩
    · rintro ⟨a, b, c, e, f⟩; exact ⟨⟨by omega, by omega⟩, ⟨by omega, by omega⟩, f⟩
  rw [e]
  clear e e3
  generalize Int.gcd n d = g at *
  by_cases h1 : d < 1
  · simp [h1]
  · have w1 := hw h1
    by_cases h4 : 1000000000000000000 < d <;> by_cases h5 : n < -1000000000000000000 <;> by_cases h6 : 1000000000000000000 < n <;> simp [h1, h4, h5, h6, w1, c1, c2]
    by_cases h7 : g = 1
    · subst h7; simp
    · have h7' : ¬ (g : Int) = 1 := by omega
      simp [h7, h7']
theorem sQOk_ok : callable Tryz.prog 43 = true := by kernel_rfl

noncomputable def sqTbl : List (FuncId × Ct) := [(43, .data qokC), (48, .data nqC), (64, .data nAddC), (46, .data nSubC), (65, .data nMulC), (66, .data nDivC), (58, .data nQC), (110, .data zOfC), (92, .data nBigC)]
theorem sqTbl_ok : TbOK NF Tryz.prog (tbl sqTbl) := tbl_cons (c := .data qokC) sQOk_spec sQOk_ok (tbl_cons (c := .data nqC) nq_spec l1q_ok (tbl_cons (c := .data nAddC) nAdd_spec l1rAdd_ok (tbl_cons (c := .data nSubC) nSub_spec l1rSub_ok (tbl_cons (c := .data nMulC) nMul_spec l1rMul_ok (tbl_cons (c := .data nDivC) nDiv_spec l1rDiv_ok (tbl_cons (c := .data nQC) nQ_spec l1rQ_ok (tbl_cons (c := .data zOfC) l1ZOf_spec l1ZOf_ok (tbl_cons (c := .data nBigC) nBig_spec l1rBig_ok tbl_nil))))))))

@[simp] theorem sqTbl1 : tbl sqTbl 43 = some (.data qokC) := rfl
@[simp] theorem sqTbl2 : tbl sqTbl 48 = some (.data nqC) := rfl
@[simp] theorem sqTbl3 : tbl sqTbl 64 = some (.data nAddC) := rfl
@[simp] theorem sqTbl4 : tbl sqTbl 46 = some (.data nSubC) := rfl
@[simp] theorem sqTbl5 : tbl sqTbl 65 = some (.data nMulC) := rfl
@[simp] theorem sqTbl6 : tbl sqTbl 66 = some (.data nDivC) := rfl
@[simp] theorem sqTbl8 : tbl sqTbl 58 = some (.data nQC) := rfl
@[simp] theorem sqTbl11 : tbl sqTbl 110 = some (.data zOfC) := rfl
@[simp] theorem sqTbl12 : tbl sqTbl 92 = some (.data nBigC) := rfl
theorem okC1 {a b c d : Int} (h : I4 ⟨a, b, c, d⟩) : (qokC [eQ a b] = (True, [.lit (.bool (decide (qOk a b)))])) ∧ qokC [eQ c d] = (True, [.lit (.bool (decide (qOk c d)))]) := by
  have c1 := qokC_at a b
  have c2 := qokC_at c d
  obtain ⟨⟨h1, h2⟩, h3, h4⟩ := h
  have h1 : I64 a := h1
  have h2 : I64 b := h2
  have h3 : I64 c := h3
  have h4 : I64 d := h4
  simp only [h1, h2, h3, h4, and_self, boolD] at c1 c2
  exact ⟨c1, c2⟩
theorem qOk_64 {n d : Int} (h : qOk n d) : I64 n ∧ I64 d ∧ 0 < d := by unfold qOk at h; unfold I64; omega

end Go.Proofs.YtmnplonkijkblaaGreat.Ae

/-! The laws on fractions: each law's function returns true. No condition. -/
namespace Go.Proofs.YtmnplonkijkblaaGreat.Ae
open Go Go.RowKit Go.Proofs.YtmnplonkijkblaaGreat.Dig

/-- A law's call, out of its contract. -/
theorem law_calls {f : FuncId} {g : List D → Prop × List D} (h : SpecD NF Tryz.prog f g) {ds : List D} (hp : (g ds).1) (hr : (g ds).2 = [boolD true]) {vs : List Value} {w : World} (hrep : RepVs NF (fun _ => False) w ds vs) :
    Calls Tryz.prog f vs.toArray w fun e w' => e = .returned (.bool true) ∧ Below w.heap.size w w' := by
  refine (h ds hp (fun _ => False) w vs (fun k hk => hk.elim) hrep).mono fun e w' ⟨v, he, hv, hfr⟩ => ?_
  rw [hr] at hv
  have hv : RepV NF _ w' (.lit (.bool true)) v := hv
  obtain ⟨rfl, _⟩ := RepV.lit hv
  exact ⟨he, ⟨hfr.os, hfr.tape, hfr.output, hfr.size, fun k hk => hfr.block k hk (fun h => h)⟩⟩
theorem repV_flat {N : NR} {F : Nat → Prop} {w : World} {d : D} {cs : List Value} (h : flatD d = some cs) (h1 : ∀ v ∈ cs, v.oneCell' = true) (ha : d.isAgg = true) : RepV N F w d (.agg cs.toArray) :=
  ⟨cs, flatD_rep d cs h h1, by unfold mkV; rw [ha]; rfl⟩
theorem repVs_nil {N : NR} {F : Nat → Prop} {w : World} : RepVs N F w [] [] := ⟨rfl, fun i d v h => by simp at h⟩
theorem repVs_cons {N : NR} {F : Nat → Prop} {w : World} {d : D} {v : Value} {ds : List D} {vs : List Value} (h : RepV N F w d v) (hs : RepVs N F w ds vs) : RepVs N F w (d :: ds) (v :: vs) :=
  ⟨by simp only [List.length_cons]; rw [hs.1], fun i e u h1 h2 => by
    cases i with
    | zero =>
      simp only [List.getElem?_cons_zero, Option.some.injEq] at h1 h2
      subst h1 h2
      exact h
    | succ i => exact hs.2 i e u (by simpa using h1) (by simpa using h2)⟩
theorem rep_q {N : NR} {F : Nat → Prop} {w : World} (a b : Int) : RepV N F w (eQ a b) (.agg #[.int .i64 a, .int .i64 b]) := repV_flat (cs := [.int .i64 a, .int .i64 b]) rfl (fun v hv => by simp at hv; rcases hv with rfl | rfl <;> rfl) rfl
theorem rep_i {N : NR} {F : Nat → Prop} {w : World} (a : Int) : RepV N F w (i64D a) (.int .i64 a) := RepV.of_lit rfl
theorem wf64 {a : Int} (h : (Lit.int .i64 a).wf = true) : I64 a := bounds_i64 h

noncomputable def toQC := ctD qE (fun _ => True) (fun p => [eQ p.a p.b])
theorem toQC_at (a b : Int) : toQC [eQ a b] = (True, [eQ a b]) := ctD_at qE_inj ⟨a, b⟩
theorem toQ_spec {N : NR} : SpecD N Tryz.prog 23 toQC := by
  refine rdD (mf := fun f => false) tbl_nil (fn := Tryz.f23) (by kernel_rfl) rfl (by kernel_rfl) ?_
  rintro ⟨a, b⟩ _
  refine ⟨of_decide_eq_true (by kernel_rfl), ?_⟩
  simp only [qE, Tryz.f23]
  simp [eQ, i64D]
theorem toQ_ok : callable Tryz.prog 23 = true := by kernel_rfl
noncomputable def eqQC := ctD q4E (fun _ => True) (fun p => [boolD (decide (p.a = p.c) && decide (p.b = p.d))])
theorem eqQC_at (a b c d : Int) : eqQC [eQ a b, eQ c d] = (True, [boolD (decide (a = c) && decide (b = d))]) := ctD_at q4E_inj ⟨a, b, c, d⟩
theorem eqQ_spec {N : NR} : SpecD N Tryz.prog 34 eqQC := by
  refine rdD (mf := fun f => false) tbl_nil (fn := Tryz.f34) (by kernel_rfl) rfl (by kernel_rfl) ?_
  rintro ⟨a, b, c, d⟩ _
  refine ⟨of_decide_eq_true (by kernel_rfl), ?_⟩
  simp only [q4E, Tryz.f34, boolD]
  by_cases h1 : a = c <;> by_cases h2 : b = d <;> simp [h1, h2]
theorem eqQ_ok : callable Tryz.prog 34 = true := by kernel_rfl
theorem eqQ_self (r : Int × Int × Bool) : eqQC [eQ r.1 r.2.1, eQ r.1 r.2.1] = (True, [.lit (.bool true)]) := by
  rw [eqQC_at]; simp [boolD]

noncomputable def lwQAddTb : List (FuncId × Ct) := [(23, .data toQC), (34, .data eqQC)]
theorem lwQAddTb_ok : TbOK NF Tryz.prog (tbl lwQAddTb) := tbl_cons (c := .data toQC) toQ_spec toQ_ok (tbl_cons (c := .data eqQC) eqQ_spec eqQ_ok tbl_nil)

@[simp] theorem lwQAddTb1 : tbl lwQAddTb 23 = some (.data toQC) := rfl
@[simp] theorem lwQAddTb2 : tbl lwQAddTb 34 = some (.data eqQC) := rfl
noncomputable def lwQAddC := ctD q4E I4 (fun _ => [boolD true])
noncomputable def lwQSubTb : List (FuncId × Ct) := [(23, .data toQC), (34, .data eqQC)]
theorem lwQSubTb_ok : TbOK NF Tryz.prog (tbl lwQSubTb) := tbl_cons (c := .data toQC) toQ_spec toQ_ok (tbl_cons (c := .data eqQC) eqQ_spec eqQ_ok tbl_nil)

@[simp] theorem lwQSubTb1 : tbl lwQSubTb 23 = some (.data toQC) := rfl
@[simp] theorem lwQSubTb2 : tbl lwQSubTb 34 = some (.data eqQC) := rfl
noncomputable def lwQSubC := ctD q4E I4 (fun _ => [boolD true])
noncomputable def lwQMulTb : List (FuncId × Ct) := [(23, .data toQC), (34, .data eqQC)]
theorem lwQMulTb_ok : TbOK NF Tryz.prog (tbl lwQMulTb) := tbl_cons (c := .data toQC) toQ_spec toQ_ok (tbl_cons (c := .data eqQC) eqQ_spec eqQ_ok tbl_nil)

@[simp] theorem lwQMulTb1 : tbl lwQMulTb 23 = some (.data toQC) := rfl
@[simp] theorem lwQMulTb2 : tbl lwQMulTb 34 = some (.data eqQC) := rfl
noncomputable def lwQMulC := ctD q4E I4 (fun _ => [boolD true])
noncomputable def lwQDivTb : List (FuncId × Ct) := [(23, .data toQC), (34, .data eqQC)]
theorem lwQDivTb_ok : TbOK NF Tryz.prog (tbl lwQDivTb) := tbl_cons (c := .data toQC) toQ_spec toQ_ok (tbl_cons (c := .data eqQC) eqQ_spec eqQ_ok tbl_nil)

@[simp] theorem lwQDivTb1 : tbl lwQDivTb 23 = some (.data toQC) := rfl
@[simp] theorem lwQDivTb2 : tbl lwQDivTb 34 = some (.data eqQC) := rfl
noncomputable def lwQDivC := ctD q4E I4 (fun _ => [boolD true])
noncomputable def lwQFloorTb : List (FuncId × Ct) := [(23, .data toQC), (34, .data eqQC)]
theorem lwQFloorTb_ok : TbOK NF Tryz.prog (tbl lwQFloorTb) := tbl_cons (c := .data toQC) toQ_spec toQ_ok (tbl_cons (c := .data eqQC) eqQ_spec eqQ_ok tbl_nil)

@[simp] theorem lwQFloorTb1 : tbl lwQFloorTb 23 = some (.data toQC) := rfl
@[simp] theorem lwQFloorTb2 : tbl lwQFloorTb 34 = some (.data eqQC) := rfl
noncomputable def lwQFloorC := ctD q4E I4 (fun _ => [boolD true])
noncomputable def lwQCmpTb : List (FuncId × Ct) := [(23, .data toQC), (34, .data eqQC)]
theorem lwQCmpTb_ok : TbOK NF Tryz.prog (tbl lwQCmpTb) := tbl_cons (c := .data toQC) toQ_spec toQ_ok (tbl_cons (c := .data eqQC) eqQ_spec eqQ_ok tbl_nil)

@[simp] theorem lwQCmpTb1 : tbl lwQCmpTb 23 = some (.data toQC) := rfl
@[simp] theorem lwQCmpTb2 : tbl lwQCmpTb 34 = some (.data eqQC) := rfl
noncomputable def lwQCmpC := ctD q4E I4 (fun _ => [boolD true])
noncomputable def lwQOfTb : List (FuncId × Ct) := [(23, .data toQC), (34, .data eqQC)]
theorem lwQOfTb_ok : TbOK NF Tryz.prog (tbl lwQOfTb) := tbl_cons (c := .data toQC) toQ_spec toQ_ok (tbl_cons (c := .data eqQC) eqQ_spec eqQ_ok tbl_nil)

@[simp] theorem lwQOfTb1 : tbl lwQOfTb 23 = some (.data toQC) := rfl
@[simp] theorem lwQOfTb2 : tbl lwQOfTb 34 = some (.data eqQC) := rfl
noncomputable def lwQOfC := ctD iiE (fun p => I64 p.a ∧ I64 p.b) (fun _ => [boolD true])
end Go.Proofs.YtmnplonkijkblaaGreat.Ae

/-! Contracts over several inputs; what a call of the fractions' functions asks and gives, as steps for simp. No condition. -/
namespace Go.Proofs.YtmnplonkijkblaaGreat.Ae
open Go Go.RowKit Go.Proofs.YtmnplonkijkblaaGreat.Dig

/-- A kind of input, as data. -/
structure Enc (α : Type) where
  e : α → D
  inj : ∀ a b, e a = e b → a = b
def ERat : Enc Rat := ⟨eRat, fun _ _ => eRat_inj⟩
def ENum : Enc Rat := ⟨nD, fun _ _ => nD_inj⟩
def EInt : Enc Int := ⟨i64D, fun _ _ => i64D_inj⟩
def EZ : Enc Int := ⟨eZ, fun _ _ => eZ_inj⟩
theorem boolD_inj {a b : Bool} (h : boolD a = boolD b) : a = b := by unfold boolD at h; injection h with h; injection h
def EBool : Enc Bool := ⟨boolD, fun _ _ => boolD_inj⟩
def EQ : Enc (Int × Int) := ⟨fun p => eQ p.1 p.2, fun _ _ h => Prod.ext (eQ_inj h).1 (eQ_inj h).2⟩
/-- A struct of two parts. -/
def Enc.pair {α β : Type} (A : Enc α) (B : Enc β) : Enc (α × β) := ⟨fun p => .agg [A.e p.1, B.e p.2], fun p q h => by
  simp only [D.agg.injEq, List.cons.injEq, and_true] at h
  exact Prod.ext (A.inj _ _ h.1) (B.inj _ _ h.2)⟩
def Enc.trip {α β γ : Type} (A : Enc α) (B : Enc β) (C : Enc γ) : Enc (α × β × γ) := ⟨fun p => .agg [A.e p.1, B.e p.2.1, C.e p.2.2], fun p q h => by
  simp only [D.agg.injEq, List.cons.injEq, and_true] at h
  exact Prod.ext (A.inj _ _ h.1) (Prod.ext (B.inj _ _ h.2.1) (C.inj _ _ h.2.2))⟩
theorem map_inj {α : Type} (E : Enc α) : ∀ {a b : List α}, a.map E.e = b.map E.e → a = b
  | [], [], _ => rfl
  | x :: a, y :: b, h => by
    simp only [List.map_cons, List.cons.injEq] at h
    rw [E.inj _ _ h.1, map_inj E h.2]
  | [], _ :: _, h => by simp at h
  | _ :: _, [], h => by simp at h
/-- A slice. -/
def Enc.list {α : Type} (sz : Nat) (E : Enc α) : Enc (List α) := ⟨fun l => .sl sz (l.map E.e), fun a b h => by
  injection h with _ h; exact map_inj E h⟩
noncomputable def ct1 {α : Type} (A : Enc α) (pre : α → Prop) (post : α → List D) := ctD (fun a => [A.e a]) pre post
theorem ct1_at {α : Type} {A : Enc α} {pre : α → Prop} {post : α → List D} (a : α) : ct1 A pre post [A.e a] = (pre a, post a) :=
  ctD_at (e := fun a => [A.e a]) (fun a b h => by simp only [List.cons.injEq, and_true] at h; exact A.inj _ _ h) a
noncomputable def ct2 {α β : Type} (A : Enc α) (B : Enc β) (pre : α → β → Prop) (post : α → β → List D) := ctD (fun p : α × β => [A.e p.1, B.e p.2]) (fun p => pre p.1 p.2) (fun p => post p.1 p.2)
theorem ct2_at {α β : Type} {A : Enc α} {B : Enc β} {pre : α → β → Prop} {post : α → β → List D} (a : α) (b : β) : ct2 A B pre post [A.e a, B.e b] = (pre a b, post a b) :=
  ctD_at (e := fun p : α × β => [A.e p.1, B.e p.2]) (fun p q h => by simp only [List.cons.injEq, and_true] at h; exact Prod.ext (A.inj _ _ h.1) (B.inj _ _ h.2)) (a, b)
noncomputable def ct3 {α β γ : Type} (A : Enc α) (B : Enc β) (C : Enc γ) (pre : α → β → γ → Prop) (post : α → β → γ → List D) := ctD (fun p : α × β × γ => [A.e p.1, B.e p.2.1, C.e p.2.2]) (fun p => pre p.1 p.2.1 p.2.2) (fun p => post p.1 p.2.1 p.2.2)
theorem ct3_at {α β γ : Type} {A : Enc α} {B : Enc β} {C : Enc γ} {pre : α → β → γ → Prop} {post : α → β → γ → List D} (a : α) (b : β) (c : γ) : ct3 A B C pre post [A.e a, B.e b, C.e c] = (pre a b c, post a b c) :=
  ctD_at (e := fun p : α × β × γ => [A.e p.1, B.e p.2.1, C.e p.2.2]) (fun p q h => by simp only [List.cons.injEq, and_true] at h; exact Prod.ext (A.inj _ _ h.1) (Prod.ext (B.inj _ _ h.2.1) (C.inj _ _ h.2.2))) (a, b, c)
noncomputable def ct4 {α β γ δ : Type} (A : Enc α) (B : Enc β) (C : Enc γ) (E : Enc δ) (pre : α → β → γ → δ → Prop) (post : α → β → γ → δ → List D) := ctD (fun p : α × β × γ × δ => [A.e p.1, B.e p.2.1, C.e p.2.2.1, E.e p.2.2.2]) (fun p => pre p.1 p.2.1 p.2.2.1 p.2.2.2) (fun p => post p.1 p.2.1 p.2.2.1 p.2.2.2)
theorem ct4_at {α β γ δ : Type} {A : Enc α} {B : Enc β} {C : Enc γ} {E : Enc δ} {pre : α → β → γ → δ → Prop} {post : α → β → γ → δ → List D} (a : α) (b : β) (c : γ) (d : δ) : ct4 A B C E pre post [A.e a, B.e b, C.e c, E.e d] = (pre a b c d, post a b c d) :=
  ctD_at (e := fun p : α × β × γ × δ => [A.e p.1, B.e p.2.1, C.e p.2.2.1, E.e p.2.2.2]) (fun p q h => by simp only [List.cons.injEq, and_true] at h; exact Prod.ext (A.inj _ _ h.1) (Prod.ext (B.inj _ _ h.2.1) (Prod.ext (C.inj _ _ h.2.2.1) (E.inj _ _ h.2.2.2)))) (a, b, c, d)
/-- A function's contract, out of its reading. -/
theorem rd1 {N : NR} {α : Type} {A : Enc α} {pre : α → Prop} {post : α → List D} {f : FuncId} {fn : Func} {c : Code} {mf : FuncId → Bool} {tb : FuncId → Option Ct} (htb : TbOK N Tryz.prog tb) (hf : Tryz.prog.funcs[f]? = some fn) (hb : fn.body = some c) (hd : drawAll mf c = true) (hl : Nat.ble 1 fn.ntmps = true)
    (h : ∀ a, pre a → awp Tryz.prog mf tb c (start fn.ntmps ([A.e a].map .dat) []) (endK Tryz.prog fn.ntmps fn.results.toList ((post a).map .dat) [])) : SpecD N Tryz.prog f (ct1 A pre post) :=
  rdD htb hf hb hd (fun a ha => ⟨Nat.le_of_ble_eq_true hl, h a ha⟩)
theorem rd2 {N : NR} {α β : Type} {A : Enc α} {B : Enc β} {pre : α → β → Prop} {post : α → β → List D} {f : FuncId} {fn : Func} {c : Code} {mf : FuncId → Bool} {tb : FuncId → Option Ct} (htb : TbOK N Tryz.prog tb) (hf : Tryz.prog.funcs[f]? = some fn) (hb : fn.body = some c) (hd : drawAll mf c = true) (hl : Nat.ble 2 fn.ntmps = true)
    (h : ∀ a b, pre a b → awp Tryz.prog mf tb c (start fn.ntmps ([A.e a, B.e b].map .dat) []) (endK Tryz.prog fn.ntmps fn.results.toList ((post a b).map .dat) [])) : SpecD N Tryz.prog f (ct2 A B pre post) :=
  rdD htb hf hb hd (fun p ha => ⟨Nat.le_of_ble_eq_true hl, h p.1 p.2 ha⟩)
theorem rd3 {N : NR} {α β γ : Type} {A : Enc α} {B : Enc β} {C : Enc γ} {pre : α → β → γ → Prop} {post : α → β → γ → List D} {f : FuncId} {fn : Func} {c : Code} {mf : FuncId → Bool} {tb : FuncId → Option Ct} (htb : TbOK N Tryz.prog tb) (hf : Tryz.prog.funcs[f]? = some fn) (hb : fn.body = some c) (hd : drawAll mf c = true) (hl : Nat.ble 3 fn.ntmps = true)
    (h : ∀ a b d, pre a b d → awp Tryz.prog mf tb c (start fn.ntmps ([A.e a, B.e b, C.e d].map .dat) []) (endK Tryz.prog fn.ntmps fn.results.toList ((post a b d).map .dat) [])) : SpecD N Tryz.prog f (ct3 A B C pre post) :=
  rdD htb hf hb hd (fun p ha => ⟨Nat.le_of_ble_eq_true hl, h p.1 p.2.1 p.2.2 ha⟩)
theorem rd4 {N : NR} {α β γ δ : Type} {A : Enc α} {B : Enc β} {C : Enc γ} {E : Enc δ} {pre : α → β → γ → δ → Prop} {post : α → β → γ → δ → List D} {f : FuncId} {fn : Func} {c : Code} {mf : FuncId → Bool} {tb : FuncId → Option Ct} (htb : TbOK N Tryz.prog tb) (hf : Tryz.prog.funcs[f]? = some fn) (hb : fn.body = some c) (hd : drawAll mf c = true) (hl : Nat.ble 4 fn.ntmps = true)
    (h : ∀ a b d g, pre a b d g → awp Tryz.prog mf tb c (start fn.ntmps ([A.e a, B.e b, C.e d, E.e g].map .dat) []) (endK Tryz.prog fn.ntmps fn.results.toList ((post a b d g).map .dat) [])) : SpecD N Tryz.prog f (ct4 A B C E pre post) :=
  rdD htb hf hb hd (fun p ha => ⟨Nat.le_of_ble_eq_true hl, h p.1 p.2.1 p.2.2.1 p.2.2.2 ha⟩)
/-- A table in which every entry is right. -/
structure Ok (N : NR) (p : FuncId × Ct) : Prop where
  ok : CtOK N Tryz.prog p.1 p.2
  ca : callable Tryz.prog p.1 = true
theorem tblAll {N : NR} : ∀ (l : List (FuncId × Ct)), (∀ p ∈ l, Ok N p) → TbOK N Tryz.prog (tbl l)
  | [], _ => tbl_nil
  | p :: l, h => tbl_cons (h p (by simp)).ok (h p (by simp)).ca (tblAll l (fun q hq => h q (by simp [hq])))
/-- Of moderate length, all together. -/
def LM : Nat := 1000000000
theorem MX_val : MX = 549755813888 := rfl
theorem LM_val : LM = 1000000000 := rfl
def EP : Enc (Rat × Rat) := ERat.pair ERat
def EPn : Enc (Rat × Rat) := ENum.pair ENum
def EV : Enc ((Int × Int) × Int × Int) := EQ.pair EQ
def vOk (v : (Int × Int) × Int × Int) : Prop := qOk v.1.1 v.1.2 ∧ qOk v.2.1 v.2.2
instance (v : (Int × Int) × Int × Int) : Decidable (vOk v) := by unfold vOk; infer_instance
/-- A place as fractions. -/
def vq (v : (Int × Int) × Int × Int) : Rat × Rat := (Rat.divInt v.1.1 v.1.2, Rat.divInt v.2.1 v.2.2)
def V64 (v : (Int × Int) × Int × Int) : Prop := (I64 v.1.1 ∧ I64 v.1.2) ∧ I64 v.2.1 ∧ I64 v.2.2
def psz (p : Rat × Rat) : Nat := qsz p.1 + qsz p.2
theorem vOk_sz {v : (Int × Int) × Int × Int} (h : vOk v) : qsz (Rat.divInt v.1.1 v.1.2) ≤ 2 ∧ qsz (Rat.divInt v.2.1 v.2.2) ≤ 2 := ⟨QI_qsz (qOk_QI h.1), QI_qsz (qOk_QI h.2)⟩
@[simp] theorem EP_e (x y : Rat) : EP.e (x, y) = .agg [eRat x, eRat y] := rfl
@[simp] theorem EPn_e (x y : Rat) : EPn.e (x, y) = .agg [nD x, nD y] := rfl
@[simp] theorem EV_e (a b c d : Int) : EV.e ((a, b), c, d) = .agg [eQ a b, eQ c d] := rfl
@[simp] theorem ERat_e (x : Rat) : ERat.e x = eRat x := rfl
@[simp] theorem ENum_e (x : Rat) : ENum.e x = nD x := rfl
@[simp] theorem EInt_e (x : Int) : EInt.e x = i64D x := rfl
@[simp] theorem EBool_e (x : Bool) : EBool.e x = boolD x := rfl
@[simp] theorem EQ_e (a b : Int) : EQ.e (a, b) = eQ a b := rfl
section
variable (a b : Rat) (n d : Int)
@[simp] theorem z_add : raddC [eRat a, eRat b] = (qsz a + qsz b < MX, [eRat (a + b)]) := raddC_at a b
@[simp] theorem z_sub : rsubC [eRat a, eRat b] = (qsz a + qsz b < MX, [eRat (a - b)]) := rsubC_at a b
@[simp] theorem z_mul : rmC [eRat a, eRat b] = (qsz a + qsz b < MX, [eRat (a * b)]) := rmC_at a b
@[simp] theorem z_div : rdvC [eRat a, eRat b] = ((qsz a + qsz b < MX ∧ b ≠ 0), [eRat (a / b)]) := rdvC_at a b
@[simp] theorem z_neg : rngC [eRat a] = (qsz a < MX, [eRat (-a)]) := rngC_at a
@[simp] theorem z_inv : rinvC [eRat a] = ((qsz a < MX ∧ a ≠ 0), [eRat a⁻¹]) := rinvC_at a
@[simp] theorem z_cmp : rcC [eRat a, eRat b] = (qsz a + qsz b < MX, [.lit (.int .i64 (qcmp a b))]) := rcC_at a b
@[simp] theorem z_sign : rsgC [eRat a] = (True, [.lit (.int .i64 a.num.sign)]) := rsgC_at a
@[simp] theorem z_q : rqqC [eRat a] = (True, [eQ (oq a).1 (oq a).2.1, .lit (.bool (oq a).2.2)]) := by rw [rqqC_at, oQ_d3]; rfl
@[simp] theorem z_rq : rqC [eQ n d] = (QI n d, [eRat (Rat.divInt n d)]) := rqC_at n d
@[simp] theorem z_ri : riC [.lit (.int .i64 n)] = (n.natAbs < 9223372036854775808, [eRat (n : Rat)]) := riC_at n
@[simp] theorem z_floor : rflC [eRat a] = (qsz a < MX, [.ptr (eZ a.floor)]) := rflC_at a
@[simp] theorem z_fromInt : fiC [.ptr (eZ n)] = (ln n.natAbs < MX, [eRat (n : Rat)]) := fiC_at n
@[simp] theorem n_add : nAddC [nD a, nD b] = (qsz a + qsz b < MX, [nD (a + b)]) := nAddC_at a b
@[simp] theorem n_sub : nSubC [nD a, nD b] = (qsz a + qsz b < MX, [nD (a - b)]) := nSubC_at a b
@[simp] theorem n_mul : nMulC [nD a, nD b] = (qsz a + qsz b < MX, [nD (a * b)]) := nMulC_at a b
@[simp] theorem n_div : nDivC [nD a, nD b] = ((qsz a + qsz b < MX ∧ b ≠ 0), [nD (a / b)]) := nDivC_at a b
@[simp] theorem n_neg : nNegC [nD a] = (True, [nD (-a)]) := nNegC_at a
@[simp] theorem n_cmp : nCmpC [nD a, nD b] = (qsz a + qsz b < MX, [.lit (.int .i64 (qcmp a b))]) := nCmpC_at a b
@[simp] theorem n_sign : nSignC [nD a] = (True, [.lit (.int .i64 a.num.sign)]) := nSignC_at a
@[simp] theorem n_q : nQC [nD a] = (True, [eQ (oq a).1 (oq a).2.1, .lit (.bool (oq a).2.2)]) := nQC_at a
@[simp] theorem n_lq : nqC [eQ n d] = ((I64 n ∧ I64 d ∧ 0 < d), [nD (Rat.divInt n d)]) := nqC_at n d
@[simp] theorem n_of : nOfC [.lit (.int .i64 n), .lit (.int .i64 d)] = ((I64 n ∧ I64 d ∧ 0 < d), [nD (Rat.divInt n d)]) := nOfC_at n d
@[simp] theorem n_floor : nFloorC [nD a] = (True, [eZ a.floor]) := nFloorC_at a
@[simp] theorem n_whole : nWholeC [eZ n] = (SZ n, [nD (n : Rat)]) := nWholeC_at n
@[simp] theorem n_big : nBigC [eZ n, eZ d] = ((SZ n ∧ SZ d ∧ d ≠ 0), [nD (Rat.divInt n d)]) := nBigC_at n d
@[simp] theorem n_zof : zOfC [.lit (.int .i64 n)] = (I64 n, [eZ n]) := zOfC_at n
@[simp] theorem n_zadd : zAddC [eZ n, eZ d] = ((SZ n ∧ SZ d), [eZ (n + d)]) := zAddC_at n d
@[simp] theorem z_ok : qokC [eQ n d] = ((I64 n ∧ I64 d), [.lit (.bool (decide (qOk n d)))]) := qokC_at n d
@[simp] theorem z_toQ : toQC [eQ n d] = (True, [eQ n d]) := toQC_at n d
end
theorem z_all2 (a b c d : Int) : allQC [.sl 2 [eQ a b, eQ c d]] = (((I64 a ∧ I64 b) ∧ I64 c ∧ I64 d), [.lit (.bool (decide (qOk a b) && decide (qOk c d)))]) := by
  have h1 := allQC_at [(a, b), (c, d)]
  have h2 : (([(a, b), (c, d)] : List (Int × Int)).length < 4611686018427387904 ∧ ∀ q ∈ [(a, b), (c, d)], I64p q) ↔ ((I64 a ∧ I64 b) ∧ I64 c ∧ I64 d) := by
    constructor
    · rintro ⟨_, h⟩
      exact ⟨h (a, b) (by simp), h (c, d) (by simp)⟩
    · rintro ⟨h1, h2⟩
      refine ⟨by simp, ?_⟩
      intro q hq
      simp at hq
      rcases hq with rfl | rfl
      · exact h1
      · exact h2
  rw [propext h2] at h1
  have h3 : (([(a, b), (c, d)] : List (Int × Int)).all fun q => decide (qOk q.1 q.2)) = (decide (qOk a b) && decide (qOk c d)) := by simp
  rw [h3] at h1
  exact h1
attribute [simp] z_all2
end Go.Proofs.YtmnplonkijkblaaGreat.Ae

/-! impl: places of the plane; VOk, pv, cmp, sub, cross, turn. No condition. -/
namespace Go.Proofs.YtmnplonkijkblaaGreat.Ae
open Go Go.RowKit Go.Proofs.YtmnplonkijkblaaGreat.Dig
def crossQ (a b c d : Rat) : Rat := a * d - b * c
def turnQ (a b c d e f : Rat) : Rat := crossQ (c - a) (d - b) (e - a) (f - b)
/-- How two places compare. -/
def pcmp (a b c d : Rat) : Int := if qcmp a c = 0 then qcmp b d else qcmp a c
theorem qcmp_bd (a b : Rat) : -1 ≤ qcmp a b ∧ qcmp a b ≤ 1 := sign_bd _
theorem pcmp_bd (a b c d : Rat) : -1 ≤ pcmp a b c d ∧ pcmp a b c d ≤ 1 := by unfold pcmp; split <;> exact qcmp_bd _ _
theorem sub_lit {x y : Int} (h : x = y) : Sub (.lit (.int .i64 x)) (.lit (.int .i64 y)) := by rw [h]; exact Sub.refl _

/-! i.VOk -/
noncomputable def iVOkC := ct1 EV (fun p0 => ((I64 p0.1.1 ∧ I64 p0.1.2) ∧ I64 p0.2.1 ∧ I64 p0.2.2)) (fun p0 => [.lit (.bool (decide (qOk p0.1.1 p0.1.2) && decide (qOk p0.2.1 p0.2.2)))])
@[simp] theorem iVOkC_at (a b c d : Int) : iVOkC [.agg [eQ a b, eQ c d]] = (((I64 a ∧ I64 b) ∧ I64 c ∧ I64 d), [.lit (.bool (decide (qOk a b) && decide (qOk c d)))]) := ct1_at ((a, b), c, d)
noncomputable def iVOkTb : List (FuncId × Ct) := [(49, .data allQC)]
theorem iVOkTb_ok {N : NR} : TbOK N Tryz.prog (tbl iVOkTb) := tbl_cons (c := .data allQC) allQ_spec allQ_ok tbl_nil

@[simp] theorem iVOkTb1 : tbl iVOkTb 49 = some (.data allQC) := rfl
theorem iVOk_spec {N : NR} : SpecD N Tryz.prog 39 iVOkC := by
  refine rd1 (mf := fun f => false) iVOkTb_ok (fn := Tryz.f39) (by kernel_rfl) rfl (by kernel_rfl) (by kernel_rfl) ?_
  rintro ⟨⟨a, b⟩, c, d⟩ hp
  have hp : ((I64 a ∧ I64 b) ∧ I64 c ∧ I64 d) := hp
  show awp _ _ _ _ (start _ ([.agg [eQ a b, eQ c d]].map .dat) []) (endK _ _ _ (([.lit (.bool (decide (qOk a b) && decide (qOk c d)))]).map .dat) [])
  simp [-D.isLit, Tryz.f39]
  exact hp
theorem iVOk_ok : callable Tryz.prog 39 = true := by kernel_rfl

/-! i.pv -/
noncomputable def pvC := ct1 EV (fun p0 => QI p0.1.1 p0.1.2 ∧ QI p0.2.1 p0.2.2) (fun p0 => [.agg [eRat (Rat.divInt p0.1.1 p0.1.2), eRat (Rat.divInt p0.2.1 p0.2.2)]])
@[simp] theorem pvC_at (a b c d : Int) : pvC [.agg [eQ a b, eQ c d]] = (QI a b ∧ QI c d, [.agg [eRat (Rat.divInt a b), eRat (Rat.divInt c d)]]) := ct1_at ((a, b), c, d)
noncomputable def pvTb : List (FuncId × Ct) := [(50, .data rqC)]
theorem pvTb_ok {N : NR} : TbOK N Tryz.prog (tbl pvTb) := tbl_cons (c := .data rqC) rq_spec rq_ok tbl_nil

@[simp] theorem pvTb1 : tbl pvTb 50 = some (.data rqC) := rfl
theorem pv_spec {N : NR} : SpecD N Tryz.prog 41 pvC := by
  refine rd1 (mf := fun f => false) pvTb_ok (fn := Tryz.f41) (by kernel_rfl) rfl (by kernel_rfl) (by kernel_rfl) ?_
  rintro ⟨⟨a, b⟩, c, d⟩ hp
  have hp : QI a b ∧ QI c d := hp
  show awp _ _ _ _ (start _ ([.agg [eQ a b, eQ c d]].map .dat) []) (endK _ _ _ (([.agg [eRat (Rat.divInt a b), eRat (Rat.divInt c d)]]).map .dat) [])
  simp [-D.isLit, Tryz.f41, hp]
theorem pv_ok : callable Tryz.prog 41 = true := by kernel_rfl

/-! (i.pt).cmp -/
noncomputable def ptcmpC := ct2 EP EP (fun p0 p1 => qsz p0.1 + qsz p0.2 + qsz p1.1 + qsz p1.2 < LM) (fun p0 p1 => [.lit (.int .i64 (pcmp p0.1 p0.2 p1.1 p1.2))])
@[simp] theorem ptcmpC_at (a b : Rat) (c d : Rat) : ptcmpC [.agg [eRat a, eRat b], .agg [eRat c, eRat d]] = (qsz a + qsz b + qsz c + qsz d < LM, [.lit (.int .i64 (pcmp a b c d))]) := ct2_at (a, b) (c, d)
/-! (i.pt).sub -/
noncomputable def ptsubC := ct2 EP EP (fun p0 p1 => qsz p0.1 + qsz p0.2 + qsz p1.1 + qsz p1.2 < LM) (fun p0 p1 => [.agg [eRat (p0.1 - p1.1), eRat (p0.2 - p1.2)]])
@[simp] theorem ptsubC_at (a b : Rat) (c d : Rat) : ptsubC [.agg [eRat a, eRat b], .agg [eRat c, eRat d]] = (qsz a + qsz b + qsz c + qsz d < LM, [.agg [eRat (a - c), eRat (b - d)]]) := ct2_at (a, b) (c, d)
noncomputable def ptsubTb : List (FuncId × Ct) := [(52, .data rsubC)]
theorem ptsubTb_ok {N : NR} : TbOK N Tryz.prog (tbl ptsubTb) := tbl_cons (c := .data rsubC) rsub_spec rsub_ok tbl_nil

@[simp] theorem ptsubTb1 : tbl ptsubTb 52 = some (.data rsubC) := rfl
/-! i.cross -/
noncomputable def crsC := ct2 EP EP (fun p0 p1 => qsz p0.1 + qsz p0.2 + qsz p1.1 + qsz p1.2 < LM) (fun p0 p1 => [eRat (crossQ p0.1 p0.2 p1.1 p1.2)])
@[simp] theorem crsC_at (a b : Rat) (c d : Rat) : crsC [.agg [eRat a, eRat b], .agg [eRat c, eRat d]] = (qsz a + qsz b + qsz c + qsz d < LM, [eRat (crossQ a b c d)]) := ct2_at (a, b) (c, d)
noncomputable def crsTb : List (FuncId × Ct) := [(52, .data rsubC), (75, .data rmC)]
theorem crsTb_ok {N : NR} : TbOK N Tryz.prog (tbl crsTb) := tbl_cons (c := .data rsubC) rsub_spec rsub_ok (tbl_cons (c := .data rmC) rmul_spec rmul_ok tbl_nil)

@[simp] theorem crsTb1 : tbl crsTb 52 = some (.data rsubC) := rfl
@[simp] theorem crsTb2 : tbl crsTb 75 = some (.data rmC) := rfl
/-! i.turn -/
noncomputable def trnC := ct3 EP EP EP (fun p0 p1 p2 => qsz p0.1 + qsz p0.2 + qsz p1.1 + qsz p1.2 + qsz p2.1 + qsz p2.2 < 100000000) (fun p0 p1 p2 => [.lit (.int .i64 (turnQ p0.1 p0.2 p1.1 p1.2 p2.1 p2.2).num.sign)])
@[simp] theorem trnC_at (a b : Rat) (c d : Rat) (e f : Rat) : trnC [.agg [eRat a, eRat b], .agg [eRat c, eRat d], .agg [eRat e, eRat f]] = (qsz a + qsz b + qsz c + qsz d + qsz e + qsz f < 100000000, [.lit (.int .i64 (turnQ a b c d e f).num.sign)]) := ct3_at (a, b) (c, d) (e, f)
noncomputable def trnTb : List (FuncId × Ct) := [(29, .data rsgC)]
theorem trnTb_ok {N : NR} : TbOK N Tryz.prog (tbl trnTb) := tbl_cons (c := .data rsgC) rsign_spec rsign_ok tbl_nil

@[simp] theorem trnTb3 : tbl trnTb 29 = some (.data rsgC) := rfl
end Go.Proofs.YtmnplonkijkblaaGreat.Ae

/-! impl: straight pieces: SegOk, psg, add, times, dot, dir, up, minmax, apart, has, foot, near, dist2, v. No condition. -/
namespace Go.Proofs.YtmnplonkijkblaaGreat.Ae
open Go Go.RowKit Go.Proofs.YtmnplonkijkblaaGreat.Dig
@[simp] theorem flatD_eQ (a b : Int) : flatD (eQ a b) = some [.int .i64 a, .int .i64 b] := rfl
attribute [simp] eqV eqVs
theorem keyLits_struct {P : Program} {d : Nat} {t : TypeId} {fs : Array Field} {cs : List Value} (hu : P.underlying t = some (.struct fs)) (hl : cs.length = P.cellsOf t) (hn : fs.all (·.name != "_") = true) :
    P.keyLits (d + 1) t cs = (fs.toList.mapM fun f => P.keyLits d f.type ((cs.drop f.offset).take (P.cellsOf f.type))).map List.flatten := by
  conv => lhs; unfold Program.keyLits
  rw [hu]
  show (if cs.length = P.cellsOf t ∧ fs.all (·.name != "_") = true then (fs.toList.mapM fun f => P.keyLits d f.type ((cs.drop f.offset).take (P.cellsOf f.type))).map List.flatten else none) = _
  rw [if_pos ⟨hl, hn⟩]
theorem keyLits_i64 {P : Program} {d : Nat} {t : TypeId} {a : Int} (hu : P.underlying t = some (.int .i64)) (h : I64 a) : P.keyLits (d + 1) t [.int .i64 a] = some [.int .i64 a] := by
  have hw : (Lit.int .i64 a).wf = true := by
    unfold I64 at h
    have e1 : IntKind.i64.min = -9223372036854775808 := by decide
    have e2 : IntKind.i64.max = 9223372036854775807 := by decide
    simp only [Lit.wf, e1, e2, Bool.and_eq_true, decide_eq_true_eq]; omega
  unfold Program.keyLits
  rw [hu]
  exact if_pos ⟨rfl, hw⟩
theorem klQ {d : Nat} (a b : Int) (h : I64 a ∧ I64 b) : Tryz.prog.keyLits (d + 2) 29 [.int .i64 a, .int .i64 b] = some [.int .i64 a, .int .i64 b] := by
  rw [keyLits_struct Tryz.underlying29 (by simp) (by kernel_rfl)]
  simp [keyLits_i64 Tryz.underlying2 h.1, keyLits_i64 Tryz.underlying2 h.2]
theorem klV {d : Nat} (a b c e : Int) (h : (I64 a ∧ I64 b) ∧ I64 c ∧ I64 e) : Tryz.prog.keyLits (d + 3) 46 [.int .i64 a, .int .i64 b, .int .i64 c, .int .i64 e] = some [.int .i64 a, .int .i64 b, .int .i64 c, .int .i64 e] := by
  rw [keyLits_struct Tryz.underlying46 (by simp) (by kernel_rfl)]
  simp [klQ a b h.1, klQ c e h.2]
theorem ktV : Tryz.prog.keyTypeAt 6 46 = true := by kernel_rfl
theorem egV : Tryz.prog.eqGuardType Tryz.prog.depth 46 = false := by kernel_rfl
theorem eqPre_V (a b c d e f g h : Int) (h1 : (I64 a ∧ I64 b) ∧ I64 c ∧ I64 d) (h2 : (I64 e ∧ I64 f) ∧ I64 g ∧ I64 h) : eqPre Tryz.prog 46 [.int .i64 a, .int .i64 b, .int .i64 c, .int .i64 d] [.int .i64 e, .int .i64 f, .int .i64 g, .int .i64 h] :=
  ⟨⟨_, Tryz.underlying46⟩, ⟨by simp, by simp⟩, ktV, egV, _, _, klV a b c d h1, klV e f g h h2, by simp⟩
def ESg : Enc ((Rat × Rat) × Rat × Rat) := EP.pair EP
def ESeg : Enc (((Int × Int) × Int × Int) × (Int × Int) × Int × Int) := EV.pair EV
@[simp] theorem ESg_e (a b c d : Rat) : ESg.e ((a, b), c, d) = .agg [.agg [eRat a, eRat b], .agg [eRat c, eRat d]] := rfl
@[simp] theorem ESeg_e (a b c d e f g h : Int) : ESeg.e (((a, b), c, d), (e, f), g, h) = .agg [.agg [eQ a b, eQ c d], .agg [eQ e f, eQ g h]] := rfl
theorem sq_nn (a : Rat) : 0 ≤ a * a := by
  by_cases h : 0 ≤ a
  · exact Rat.mul_nonneg h h
  · have : 0 ≤ (-a) * (-a) := Rat.mul_nonneg (by grind) (by grind)
    grind
def segOk (a b c d e f g h : Int) : Prop := ((qOk a b ∧ qOk c d) ∧ qOk e f ∧ qOk g h) ∧ ¬ (a = e ∧ b = f ∧ c = g ∧ d = h)
instance (a b c d e f g h : Int) : Decidable (segOk a b c d e f g h) := by unfold segOk; infer_instance
def dotQ (a b c d : Rat) : Rat := a * c + b * d
def loQ (a b : Rat) : Rat := if 0 < qcmp a b then b else a
def hiQ (a b : Rat) : Rat := if 0 < qcmp a b then a else b
def bapart (a b c d : Rat) : Bool := decide (qcmp (hiQ a b) (loQ c d) < 0) || decide (qcmp (hiQ c d) (loQ a b) < 0)
def hasB (a b c d p q : Rat) : Bool := !bapart a c p p && !bapart b d q q && decide ((turnQ a b c d p q).num.sign = 0)
def footQ (a b c d p q : Rat) : Rat := dotQ (p - a) (q - b) (c - a) (d - b) / dotQ (c - a) (d - b) (c - a) (d - b)
def nearQ (a b c d p q : Rat) : Rat × Rat := if (footQ a b c d p q).num.sign ≤ 0 then (a, b) else if 0 ≤ qcmp (footQ a b c d p q) 1 then (c, d) else (a + (c - a) * footQ a b c d p q, b + (d - b) * footQ a b c d p q)
def dist2Q (a b c d : Rat) : Rat := dotQ (a - c) (b - d) (a - c) (b - d)
theorem loQ_sz (a b : Rat) : qsz (loQ a b) ≤ qsz a + qsz b := by unfold loQ; split <;> omega
theorem hiQ_sz (a b : Rat) : qsz (hiQ a b) ≤ qsz a + qsz b := by unfold hiQ; split <;> omega
theorem dotQ_sz (a b c d : Rat) : qsz (dotQ a b c d) ≤ qsz a + qsz b + qsz c + qsz d + 1 := by unfold dotQ; grind [qsz_add, qsz_mul]
/-- A place's coordinates, if they are moderate. -/
def oV (x y : Rat) : (Int × Int) × (Int × Int) × Bool := if (oq x).2.2 = true ∧ (oq y).2.2 = true then (((oq x).1, (oq x).2.1), ((oq y).1, (oq y).2.1), true) else ((0, 0), (0, 0), false)
def vD (o : (Int × Int) × (Int × Int) × Bool) : List D := [.agg [eQ o.1.1 o.1.2, eQ o.2.1.1 o.2.1.2], .lit (.bool o.2.2)]
theorem sq_pos {a b : Rat} (h : ¬ (a = 0 ∧ b = 0)) : dotQ a b a b ≠ 0 := by
  unfold dotQ
  have h1 : 0 ≤ a * a := sq_nn a
  have h2 : 0 ≤ b * b := sq_nn b
  intro e
  have e1 : a * a = 0 := by grind
  have e2 : b * b = 0 := by grind
  exact h ⟨by rcases Rat.mul_eq_zero.mp e1 with x | x <;> exact x, by rcases Rat.mul_eq_zero.mp e2 with x | x <;> exact x⟩

/-! i.SegOk -/
noncomputable def iSegOkC := ct1 ESeg (fun p0 => (((I64 p0.1.1.1 ∧ I64 p0.1.1.2) ∧ I64 p0.1.2.1 ∧ I64 p0.1.2.2) ∧ ((I64 p0.2.1.1 ∧ I64 p0.2.1.2) ∧ I64 p0.2.2.1 ∧ I64 p0.2.2.2))) (fun p0 => [.lit (.bool (decide (segOk p0.1.1.1 p0.1.1.2 p0.1.2.1 p0.1.2.2 p0.2.1.1 p0.2.1.2 p0.2.2.1 p0.2.2.2)))])
@[simp] theorem iSegOkC_at (a b c d e f g h : Int) : iSegOkC [.agg [.agg [eQ a b, eQ c d], .agg [eQ e f, eQ g h]]] = ((((I64 a ∧ I64 b) ∧ I64 c ∧ I64 d) ∧ ((I64 e ∧ I64 f) ∧ I64 g ∧ I64 h)), [.lit (.bool (decide (segOk a b c d e f g h)))]) := ct1_at (((a, b), c, d), (e, f), g, h)
noncomputable def iSegOkTb : List (FuncId × Ct) := [(39, .data iVOkC)]
theorem iSegOkTb_ok {N : NR} : TbOK N Tryz.prog (tbl iSegOkTb) := tbl_cons (c := .data iVOkC) iVOk_spec iVOk_ok tbl_nil

@[simp] theorem iSegOkTb1 : tbl iSegOkTb 39 = some (.data iVOkC) := rfl
/-! i.psg -/
noncomputable def psgC := ct1 ESeg (fun p0 => (QI p0.1.1.1 p0.1.1.2 ∧ QI p0.1.2.1 p0.1.2.2) ∧ QI p0.2.1.1 p0.2.1.2 ∧ QI p0.2.2.1 p0.2.2.2) (fun p0 => [.agg [.agg [eRat (Rat.divInt p0.1.1.1 p0.1.1.2), eRat (Rat.divInt p0.1.2.1 p0.1.2.2)], .agg [eRat (Rat.divInt p0.2.1.1 p0.2.1.2), eRat (Rat.divInt p0.2.2.1 p0.2.2.2)]]])
@[simp] theorem psgC_at (a b c d e f g h : Int) : psgC [.agg [.agg [eQ a b, eQ c d], .agg [eQ e f, eQ g h]]] = ((QI a b ∧ QI c d) ∧ QI e f ∧ QI g h, [.agg [.agg [eRat (Rat.divInt a b), eRat (Rat.divInt c d)], .agg [eRat (Rat.divInt e f), eRat (Rat.divInt g h)]]]) := ct1_at (((a, b), c, d), (e, f), g, h)
noncomputable def psgTb : List (FuncId × Ct) := [(41, .data pvC)]
theorem psgTb_ok {N : NR} : TbOK N Tryz.prog (tbl psgTb) := tbl_cons (c := .data pvC) pv_spec pv_ok tbl_nil

@[simp] theorem psgTb1 : tbl psgTb 41 = some (.data pvC) := rfl
/-! (i.pt).add -/
noncomputable def ptaddC := ct2 EP EP (fun p0 p1 => qsz p0.1 + qsz p0.2 + qsz p1.1 + qsz p1.2 < LM) (fun p0 p1 => [.agg [eRat (p0.1 + p1.1), eRat (p0.2 + p1.2)]])
@[simp] theorem ptaddC_at (a b : Rat) (c d : Rat) : ptaddC [.agg [eRat a, eRat b], .agg [eRat c, eRat d]] = (qsz a + qsz b + qsz c + qsz d < LM, [.agg [eRat (a + c), eRat (b + d)]]) := ct2_at (a, b) (c, d)
noncomputable def ptaddTb : List (FuncId × Ct) := [(76, .data raddC)]
theorem ptaddTb_ok {N : NR} : TbOK N Tryz.prog (tbl ptaddTb) := tbl_cons (c := .data raddC) radd_spec radd_ok tbl_nil

@[simp] theorem ptaddTb1 : tbl ptaddTb 76 = some (.data raddC) := rfl
/-! (i.pt).times -/
noncomputable def pttimesC := ct2 EP ERat (fun p0 p1 => qsz p0.1 + qsz p0.2 + qsz p1 < LM) (fun p0 p1 => [.agg [eRat (p0.1 * p1), eRat (p0.2 * p1)]])
@[simp] theorem pttimesC_at (a b : Rat) (c : Rat) : pttimesC [.agg [eRat a, eRat b], eRat c] = (qsz a + qsz b + qsz c < LM, [.agg [eRat (a * c), eRat (b * c)]]) := ct2_at (a, b) c
noncomputable def pttimesTb : List (FuncId × Ct) := [(75, .data rmC)]
theorem pttimesTb_ok {N : NR} : TbOK N Tryz.prog (tbl pttimesTb) := tbl_cons (c := .data rmC) rmul_spec rmul_ok tbl_nil

@[simp] theorem pttimesTb1 : tbl pttimesTb 75 = some (.data rmC) := rfl
/-! i.dot -/
noncomputable def dotrC := ct2 EP EP (fun p0 p1 => qsz p0.1 + qsz p0.2 + qsz p1.1 + qsz p1.2 < LM) (fun p0 p1 => [eRat (dotQ p0.1 p0.2 p1.1 p1.2)])
@[simp] theorem dotrC_at (a b : Rat) (c d : Rat) : dotrC [.agg [eRat a, eRat b], .agg [eRat c, eRat d]] = (qsz a + qsz b + qsz c + qsz d < LM, [eRat (dotQ a b c d)]) := ct2_at (a, b) (c, d)
noncomputable def dotrTb : List (FuncId × Ct) := [(75, .data rmC), (76, .data raddC)]
theorem dotrTb_ok {N : NR} : TbOK N Tryz.prog (tbl dotrTb) := tbl_cons (c := .data rmC) rmul_spec rmul_ok (tbl_cons (c := .data raddC) radd_spec radd_ok tbl_nil)

@[simp] theorem dotrTb1 : tbl dotrTb 75 = some (.data rmC) := rfl
@[simp] theorem dotrTb2 : tbl dotrTb 76 = some (.data raddC) := rfl
/-! (i.sg).dir -/
noncomputable def sgdirC := ct1 ESg (fun p0 => qsz p0.1.1 + qsz p0.1.2 + qsz p0.2.1 + qsz p0.2.2 < LM) (fun p0 => [.agg [eRat (p0.2.1 - p0.1.1), eRat (p0.2.2 - p0.1.2)]])
@[simp] theorem sgdirC_at (a b c d : Rat) : sgdirC [.agg [.agg [eRat a, eRat b], .agg [eRat c, eRat d]]] = (qsz a + qsz b + qsz c + qsz d < LM, [.agg [eRat (c - a), eRat (d - b)]]) := ct1_at ((a, b), c, d)
/-! i.minmax -/
noncomputable def mnmxC := ct2 ERat ERat (fun p0 p1 => qsz p0 + qsz p1 < LM) (fun p0 p1 => [eRat (loQ p0 p1), eRat (hiQ p0 p1)])
@[simp] theorem mnmxC_at (a : Rat) (b : Rat) : mnmxC [eRat a, eRat b] = (qsz a + qsz b < LM, [eRat (loQ a b), eRat (hiQ a b)]) := ct2_at a b
/-! i.apart -/
noncomputable def aprtC := ct4 ERat ERat ERat ERat (fun p0 p1 p2 p3 => qsz p0 + qsz p1 + qsz p2 + qsz p3 < LM) (fun p0 p1 p2 p3 => [.lit (.bool (bapart p0 p1 p2 p3))])
@[simp] theorem aprtC_at (a : Rat) (b : Rat) (c : Rat) (d : Rat) : aprtC [eRat a, eRat b, eRat c, eRat d] = (qsz a + qsz b + qsz c + qsz d < LM, [.lit (.bool (bapart a b c d))]) := ct4_at a b c d
/-! (i.sg).has -/
noncomputable def sghasC := ct2 ESg EP (fun p0 p1 => qsz p0.1.1 + qsz p0.1.2 + qsz p0.2.1 + qsz p0.2.2 + qsz p1.1 + qsz p1.2 < 10000000) (fun p0 p1 => [.lit (.bool (hasB p0.1.1 p0.1.2 p0.2.1 p0.2.2 p1.1 p1.2))])
@[simp] theorem sghasC_at (a b c d : Rat) (e f : Rat) : sghasC [.agg [.agg [eRat a, eRat b], .agg [eRat c, eRat d]], .agg [eRat e, eRat f]] = (qsz a + qsz b + qsz c + qsz d + qsz e + qsz f < 10000000, [.lit (.bool (hasB a b c d e f))]) := ct2_at ((a, b), c, d) (e, f)
/-! (i.sg).foot -/
noncomputable def sgfootC := ct2 ESg EP (fun p0 p1 => qsz p0.1.1 + qsz p0.1.2 + qsz p0.2.1 + qsz p0.2.2 + qsz p1.1 + qsz p1.2 < 10000000 ∧ ¬ (p0.2.1 - p0.1.1 = 0 ∧ p0.2.2 - p0.1.2 = 0)) (fun p0 p1 => [eRat (footQ p0.1.1 p0.1.2 p0.2.1 p0.2.2 p1.1 p1.2)])
@[simp] theorem sgfootC_at (a b c d : Rat) (e f : Rat) : sgfootC [.agg [.agg [eRat a, eRat b], .agg [eRat c, eRat d]], .agg [eRat e, eRat f]] = (qsz a + qsz b + qsz c + qsz d + qsz e + qsz f < 10000000 ∧ ¬ (c - a = 0 ∧ d - b = 0), [eRat (footQ a b c d e f)]) := ct2_at ((a, b), c, d) (e, f)
noncomputable def sgfootTb : List (FuncId × Ct) := [(69, .data rdvC)]
theorem sgfootTb_ok {N : NR} : TbOK N Tryz.prog (tbl sgfootTb) := tbl_cons (c := .data rdvC) rdiv_spec rdiv_ok tbl_nil

@[simp] theorem sgfootTb4 : tbl sgfootTb 69 = some (.data rdvC) := rfl
theorem footQ_sz {a b c d p q : Rat} (h : ¬ (c - a = 0 ∧ d - b = 0)) : qsz (footQ a b c d p q) ≤ 4 * (qsz a + qsz b + qsz c + qsz d + qsz p + qsz q) + 10 := by
  unfold footQ
  have := qsz_div (a := dotQ (p - a) (q - b) (c - a) (d - b)) (sq_pos h)
  grind [dotQ_sz, qsz_sub]
theorem nearQ_sz {a b c d p q : Rat} (h : ¬ (c - a = 0 ∧ d - b = 0)) : qsz (nearQ a b c d p q).1 + qsz (nearQ a b c d p q).2 ≤ 12 * (qsz a + qsz b + qsz c + qsz d + qsz p + qsz q) + 40 := by
  have := footQ_sz (p := p) (q := q) h
  unfold nearQ
  split
  · show qsz a + qsz b ≤ _; omega
  · split
    · show qsz c + qsz d ≤ _; omega
    · show qsz (a + (c - a) * footQ a b c d p q) + qsz (b + (d - b) * footQ a b c d p q) ≤ _
      grind [qsz_add, qsz_sub, qsz_mul]
theorem one_rat : ((1 : Int) : Rat) = 1 := rfl
theorem qsz_one : qsz 1 = 1 := by decide +kernel

/-! (i.sg).near -/
noncomputable def sgnearC := ct2 ESg EP (fun p0 p1 => qsz p0.1.1 + qsz p0.1.2 + qsz p0.2.1 + qsz p0.2.2 + qsz p1.1 + qsz p1.2 < 1000000 ∧ ¬ (p0.2.1 - p0.1.1 = 0 ∧ p0.2.2 - p0.1.2 = 0)) (fun p0 p1 => [.agg [eRat (nearQ p0.1.1 p0.1.2 p0.2.1 p0.2.2 p1.1 p1.2).1, eRat (nearQ p0.1.1 p0.1.2 p0.2.1 p0.2.2 p1.1 p1.2).2]])
@[simp] theorem sgnearC_at (a b c d : Rat) (e f : Rat) : sgnearC [.agg [.agg [eRat a, eRat b], .agg [eRat c, eRat d]], .agg [eRat e, eRat f]] = (qsz a + qsz b + qsz c + qsz d + qsz e + qsz f < 1000000 ∧ ¬ (c - a = 0 ∧ d - b = 0), [.agg [eRat (nearQ a b c d e f).1, eRat (nearQ a b c d e f).2]]) := ct2_at ((a, b), c, d) (e, f)
noncomputable def sgnearTb : List (FuncId × Ct) := [(29, .data rsgC), (68, .data riC)]
theorem sgnearTb_ok {N : NR} : TbOK N Tryz.prog (tbl sgnearTb) := tbl_cons (c := .data rsgC) rsign_spec rsign_ok (tbl_cons (c := .data riC) ri_spec ri_ok tbl_nil)

@[simp] theorem sgnearTb2 : tbl sgnearTb 29 = some (.data rsgC) := rfl
@[simp] theorem sgnearTb3 : tbl sgnearTb 68 = some (.data riC) := rfl
/-! i.dist2 -/
noncomputable def dst2C := ct2 EP EP (fun p0 p1 => qsz p0.1 + qsz p0.2 + qsz p1.1 + qsz p1.2 < 100000000) (fun p0 p1 => [eRat (dist2Q p0.1 p0.2 p1.1 p1.2)])
@[simp] theorem dst2C_at (a b : Rat) (c d : Rat) : dst2C [.agg [eRat a, eRat b], .agg [eRat c, eRat d]] = (qsz a + qsz b + qsz c + qsz d < 100000000, [eRat (dist2Q a b c d)]) := ct2_at (a, b) (c, d)
/-! (i.pt).v -/
noncomputable def ptvC := ct1 EP (fun p0 => True) (fun p0 => vD (oV p0.1 p0.2))
@[simp] theorem ptvC_at (a b : Rat) : ptvC [.agg [eRat a, eRat b]] = (True, vD (oV a b)) := ct1_at (a, b)
noncomputable def ptvTb : List (FuncId × Ct) := [(62, .data rqqC)]
theorem ptvTb_ok {N : NR} : TbOK N Tryz.prog (tbl ptvTb) := tbl_cons (c := .data rqqC) rqq_spec rqq_ok tbl_nil

@[simp] theorem ptvTb1 : tbl ptvTb 62 = some (.data rqqC) := rfl
end Go.Proofs.YtmnplonkijkblaaGreat.Ae

/-! impl: places of space, planes. No condition. -/
namespace Go.Proofs.YtmnplonkijkblaaGreat.Ae
open Go Go.RowKit Go.Proofs.YtmnplonkijkblaaGreat.Dig
def Enc.quad {α β γ δ : Type} (A : Enc α) (B : Enc β) (C : Enc γ) (E : Enc δ) : Enc (α × β × γ × δ) := ⟨fun p => .agg [A.e p.1, B.e p.2.1, C.e p.2.2.1, E.e p.2.2.2], fun p q h => by
  simp only [D.agg.injEq, List.cons.injEq, and_true] at h
  exact Prod.ext (A.inj _ _ h.1) (Prod.ext (B.inj _ _ h.2.1) (Prod.ext (C.inj _ _ h.2.2.1) (E.inj _ _ h.2.2.2)))⟩
def EV3 : Enc ((Int × Int) × (Int × Int) × Int × Int) := EQ.trip EQ EQ
def EPl : Enc ((Int × Int) × (Int × Int) × (Int × Int) × Int × Int) := EQ.quad EQ EQ EQ
def EP3 : Enc (Rat × Rat × Rat) := ERat.trip ERat ERat
def EP3n : Enc (Rat × Rat × Rat) := ENum.trip ENum ENum
def EPq : Enc ((Rat × Rat × Rat) × Rat) := EP3.pair ERat
def EFn : Enc ((Rat × Rat × Rat) × Rat) := ⟨fun p => .agg [EP3n.e p.1, nD p.2, .lit (.slice none 0 0)], fun p q h => by
  simp only [D.agg.injEq, List.cons.injEq, and_true] at h
  exact Prod.ext (EP3n.inj _ _ h.1) (nD_inj h.2)⟩
@[simp] theorem EV3_e (a b c d e f : Int) : EV3.e ((a, b), (c, d), e, f) = .agg [eQ a b, eQ c d, eQ e f] := rfl
@[simp] theorem EPl_e (a b c d e f g h : Int) : EPl.e ((a, b), (c, d), (e, f), g, h) = .agg [eQ a b, eQ c d, eQ e f, eQ g h] := rfl
@[simp] theorem EP3_e (a b c : Rat) : EP3.e (a, b, c) = .agg [eRat a, eRat b, eRat c] := rfl
@[simp] theorem EP3n_e (a b c : Rat) : EP3n.e (a, b, c) = .agg [nD a, nD b, nD c] := rfl
@[simp] theorem EPq_e (a b c d : Rat) : EPq.e ((a, b, c), d) = .agg [.agg [eRat a, eRat b, eRat c], eRat d] := rfl
@[simp] theorem EFn_e (a b c d : Rat) : EFn.e ((a, b, c), d) = .agg [.agg [nD a, nD b, nD c], nD d, .lit (.slice none 0 0)] := rfl
def v3Ok (a b c d e f : Int) : Prop := qOk a b ∧ qOk c d ∧ qOk e f
instance (a b c d e f : Int) : Decidable (v3Ok a b c d e f) := by unfold v3Ok; infer_instance
def q4Ok (a b c d e f g h : Int) : Prop := qOk a b ∧ qOk c d ∧ qOk e f ∧ qOk g h
instance (a b c d e f g h : Int) : Decidable (q4Ok a b c d e f g h) := by unfold q4Ok; infer_instance
theorem z_all3 (a b c d e f : Int) : allQC [.sl 2 [eQ a b, eQ c d, eQ e f]] = (((I64 a ∧ I64 b) ∧ (I64 c ∧ I64 d) ∧ I64 e ∧ I64 f), [.lit (.bool (decide (v3Ok a b c d e f)))]) := by
  have h1 := allQC_at [(a, b), (c, d), (e, f)]
  have h2 : (([(a, b), (c, d), (e, f)] : List (Int × Int)).length < 4611686018427387904 ∧ ∀ q ∈ [(a, b), (c, d), (e, f)], I64p q) ↔ ((I64 a ∧ I64 b) ∧ (I64 c ∧ I64 d) ∧ I64 e ∧ I64 f) := by
    constructor
    · rintro ⟨_, h⟩
      exact ⟨h (a, b) (by simp), h (c, d) (by simp), h (e, f) (by simp)⟩
    · rintro ⟨h1, h2, h3⟩
      refine ⟨by simp, ?_⟩
      intro q hq
      simp at hq
      rcases hq with rfl | rfl | rfl
      · exact h1
      · exact h2
      · exact h3
  rw [propext h2] at h1
  have h3 : (([(a, b), (c, d), (e, f)] : List (Int × Int)).all fun q => decide (qOk q.1 q.2)) = decide (v3Ok a b c d e f) := by rw [Bool.eq_iff_iff, decide_eq_true_eq]; unfold v3Ok; simp
  rw [h3] at h1
  exact h1
theorem z_all4 (a b c d e f g h : Int) : allQC [.sl 2 [eQ a b, eQ c d, eQ e f, eQ g h]] = (((I64 a ∧ I64 b) ∧ (I64 c ∧ I64 d) ∧ (I64 e ∧ I64 f) ∧ I64 g ∧ I64 h), [.lit (.bool (decide (q4Ok a b c d e f g h)))]) := by
  have h1 := allQC_at [(a, b), (c, d), (e, f), (g, h)]
  have h2 : (([(a, b), (c, d), (e, f), (g, h)] : List (Int × Int)).length < 4611686018427387904 ∧ ∀ q ∈ [(a, b), (c, d), (e, f), (g, h)], I64p q) ↔ ((I64 a ∧ I64 b) ∧ (I64 c ∧ I64 d) ∧ (I64 e ∧ I64 f) ∧ I64 g ∧ I64 h) := by
    constructor
    · rintro ⟨_, h'⟩
      exact ⟨h' (a, b) (by simp), h' (c, d) (by simp), h' (e, f) (by simp), h' (g, h) (by simp)⟩
    · rintro ⟨h1, h2, h3, h4⟩
      refine ⟨by simp, ?_⟩
      intro q hq
      simp at hq
      rcases hq with rfl | rfl | rfl | rfl
      · exact h1
      · exact h2
      · exact h3
      · exact h4
  rw [propext h2] at h1
  have h3 : (([(a, b), (c, d), (e, f), (g, h)] : List (Int × Int)).all fun q => decide (qOk q.1 q.2)) = decide (q4Ok a b c d e f g h) := by rw [Bool.eq_iff_iff, decide_eq_true_eq]; unfold q4Ok; simp
  rw [h3] at h1
  exact h1
attribute [simp] z_all3 z_all4
def one1 (n d : Int) : Bool := decide (d = 1) && (decide (n = 1) || decide (n = -1))
def plOk (a b c d e f g h : Int) : Prop := q4Ok a b c d e f g h ∧ (if a = 0 then if c = 0 then one1 e f = true else one1 c d = true else one1 a b = true)
instance (a b c d e f g h : Int) : Decidable (plOk a b c d e f g h) := by unfold plOk; infer_instance
def dot3Q (a b c d e f : Rat) : Rat := a * d + b * e + c * f
def htQ (a b c d e f g : Rat) : Rat := dot3Q a b c e f g - d
def rabs (a : Rat) : Rat := if a.num.sign < 0 then -a else a
/-- The first number that is not 0. -/
def ledI (a b c : Rat) : Int := if a.num.sign = 0 then if b.num.sign = 0 then if c.num.sign = 0 then -1 else 2 else 1 else 0
def ledQ (a b c : Rat) : Rat := if a.num.sign = 0 then if b.num.sign = 0 then c else b else a
/-- The coordinate that is left out. -/
def offI (b c : Rat) : Int := if c.num.sign = 0 then if b.num.sign = 0 then 0 else 1 else 2
def drpQ (b c x y z : Rat) : Rat × Rat := if c.num.sign = 0 then if b.num.sign = 0 then (y, z) else (x, z) else (x, y)
def lftQ (a b c d x y : Rat) : Rat × Rat × Rat := if c.num.sign = 0 then if b.num.sign = 0 then ((d - (b * x + c * y)) / a, x, y) else (x, (d - (a * x + c * y)) / b, y) else (x, y, (d - (a * x + b * y)) / c)
/-- A place of space, if its coordinates are moderate. -/
def oV3 (x y z : Rat) : (Int × Int) × (Int × Int) × (Int × Int) × Bool := if (oq x).2.2 = true ∧ (oq y).2.2 = true ∧ (oq z).2.2 = true then (((oq x).1, (oq x).2.1), ((oq y).1, (oq y).2.1), ((oq z).1, (oq z).2.1), true) else ((0, 0), (0, 0), (0, 0), false)
def v3T (o : (Int × Int) × (Int × Int) × (Int × Int) × Bool) : List D := [.agg [eQ o.1.1 o.1.2, eQ o.2.1.1 o.2.1.2, eQ o.2.2.1.1 o.2.2.1.2], .lit (.bool o.2.2.2)]
def oPl (x y z w : Rat) : (Int × Int) × (Int × Int) × (Int × Int) × (Int × Int) × Bool := if (oq x).2.2 = true ∧ (oq y).2.2 = true ∧ (oq z).2.2 = true ∧ (oq w).2.2 = true then (((oq x).1, (oq x).2.1), ((oq y).1, (oq y).2.1), ((oq z).1, (oq z).2.1), ((oq w).1, (oq w).2.1), true) else ((0, 0), (0, 0), (0, 0), (0, 0), false)
def plT (o : (Int × Int) × (Int × Int) × (Int × Int) × (Int × Int) × Bool) : List D := [.agg [eQ o.1.1 o.1.2, eQ o.2.1.1 o.2.1.2, eQ o.2.2.1.1 o.2.2.1.2, eQ o.2.2.2.1.1 o.2.2.2.1.2], .lit (.bool o.2.2.2.2)]
theorem dot3Q_sz (a b c d e f : Rat) : qsz (dot3Q a b c d e f) ≤ qsz a + qsz b + qsz c + qsz d + qsz e + qsz f + 2 := by unfold dot3Q; grind [qsz_add, qsz_mul]
theorem rabs_sz (a : Rat) : qsz (rabs a) ≤ qsz a := by unfold rabs; split <;> grind [qsz_neg]
theorem rabs_ne {a : Rat} (h : a ≠ 0) : rabs a ≠ 0 := by unfold rabs; split <;> grind
theorem ledQ_sz (a b c : Rat) : qsz (ledQ a b c) ≤ qsz a + qsz b + qsz c := by unfold ledQ; split <;> (try split) <;> omega
theorem sgn_ne {a : Rat} (h : ¬ a.num.sign = 0) : a ≠ 0 := by rintro rfl; exact h rfl
theorem sgn_eq {a : Rat} (h : a.num.sign = 0) : a = 0 := by
  have := Int.sign_eq_zero_iff_zero.1 h
  exact Rat.num_eq_zero.1 this

/-! i.V3Ok -/
noncomputable def iV3OkC := ct1 EV3 (fun p0 => ((I64 p0.1.1 ∧ I64 p0.1.2) ∧ (I64 p0.2.1.1 ∧ I64 p0.2.1.2) ∧ I64 p0.2.2.1 ∧ I64 p0.2.2.2)) (fun p0 => [.lit (.bool (decide (v3Ok p0.1.1 p0.1.2 p0.2.1.1 p0.2.1.2 p0.2.2.1 p0.2.2.2)))])
@[simp] theorem iV3OkC_at (a b c d e f : Int) : iV3OkC [.agg [eQ a b, eQ c d, eQ e f]] = (((I64 a ∧ I64 b) ∧ (I64 c ∧ I64 d) ∧ I64 e ∧ I64 f), [.lit (.bool (decide (v3Ok a b c d e f)))]) := ct1_at ((a, b), (c, d), e, f)
noncomputable def iV3OkTb : List (FuncId × Ct) := [(49, .data allQC)]
theorem iV3OkTb_ok {N : NR} : TbOK N Tryz.prog (tbl iV3OkTb) := tbl_cons (c := .data allQC) allQ_spec allQ_ok tbl_nil

@[simp] theorem iV3OkTb1 : tbl iV3OkTb 49 = some (.data allQC) := rfl
theorem iV3Ok_spec {N : NR} : SpecD N Tryz.prog 25 iV3OkC := by
  refine rd1 (mf := fun f => false) iV3OkTb_ok (fn := Tryz.f25) (by kernel_rfl) rfl (by kernel_rfl) (by kernel_rfl) ?_
  rintro ⟨⟨a, b⟩, ⟨c, d⟩, e, f⟩ hp
  have hp : ((I64 a ∧ I64 b) ∧ (I64 c ∧ I64 d) ∧ I64 e ∧ I64 f) := hp
  show awp _ _ _ _ (start _ ([.agg [eQ a b, eQ c d, eQ e f]].map .dat) []) (endK _ _ _ (([.lit (.bool (decide (v3Ok a b c d e f)))]).map .dat) [])
  simp [-D.isLit, Tryz.f25]
  exact hp
theorem iV3Ok_ok : callable Tryz.prog 25 = true := by kernel_rfl

/-! i.pv3 -/
noncomputable def pv3C := ct1 EV3 (fun p0 => QI p0.1.1 p0.1.2 ∧ QI p0.2.1.1 p0.2.1.2 ∧ QI p0.2.2.1 p0.2.2.2) (fun p0 => [.agg [eRat (Rat.divInt p0.1.1 p0.1.2), eRat (Rat.divInt p0.2.1.1 p0.2.1.2), eRat (Rat.divInt p0.2.2.1 p0.2.2.2)]])
@[simp] theorem pv3C_at (a b c d e f : Int) : pv3C [.agg [eQ a b, eQ c d, eQ e f]] = (QI a b ∧ QI c d ∧ QI e f, [.agg [eRat (Rat.divInt a b), eRat (Rat.divInt c d), eRat (Rat.divInt e f)]]) := ct1_at ((a, b), (c, d), e, f)
noncomputable def pv3Tb : List (FuncId × Ct) := [(50, .data rqC)]
theorem pv3Tb_ok {N : NR} : TbOK N Tryz.prog (tbl pv3Tb) := tbl_cons (c := .data rqC) rq_spec rq_ok tbl_nil

@[simp] theorem pv3Tb1 : tbl pv3Tb 50 = some (.data rqC) := rfl
theorem pv3_spec {N : NR} : SpecD N Tryz.prog 28 pv3C := by
  refine rd1 (mf := fun f => false) pv3Tb_ok (fn := Tryz.f28) (by kernel_rfl) rfl (by kernel_rfl) (by kernel_rfl) ?_
  rintro ⟨⟨a, b⟩, ⟨c, d⟩, e, f⟩ hp
  have hp : QI a b ∧ QI c d ∧ QI e f := hp
  show awp _ _ _ _ (start _ ([.agg [eQ a b, eQ c d, eQ e f]].map .dat) []) (endK _ _ _ (([.agg [eRat (Rat.divInt a b), eRat (Rat.divInt c d), eRat (Rat.divInt e f)]]).map .dat) [])
  simp [-D.isLit, Tryz.f28, hp]
theorem pv3_ok : callable Tryz.prog 28 = true := by kernel_rfl

/-! i.ppl -/
noncomputable def pplC := ct1 EPl (fun p0 => QI p0.1.1 p0.1.2 ∧ QI p0.2.1.1 p0.2.1.2 ∧ QI p0.2.2.1.1 p0.2.2.1.2 ∧ QI p0.2.2.2.1 p0.2.2.2.2) (fun p0 => [.agg [.agg [eRat (Rat.divInt p0.1.1 p0.1.2), eRat (Rat.divInt p0.2.1.1 p0.2.1.2), eRat (Rat.divInt p0.2.2.1.1 p0.2.2.1.2)], eRat (Rat.divInt p0.2.2.2.1 p0.2.2.2.2)]])
@[simp] theorem pplC_at (a b c d e f g h : Int) : pplC [.agg [eQ a b, eQ c d, eQ e f, eQ g h]] = (QI a b ∧ QI c d ∧ QI e f ∧ QI g h, [.agg [.agg [eRat (Rat.divInt a b), eRat (Rat.divInt c d), eRat (Rat.divInt e f)], eRat (Rat.divInt g h)]]) := ct1_at ((a, b), (c, d), (e, f), g, h)
noncomputable def pplTb : List (FuncId × Ct) := [(50, .data rqC)]
theorem pplTb_ok {N : NR} : TbOK N Tryz.prog (tbl pplTb) := tbl_cons (c := .data rqC) rq_spec rq_ok tbl_nil

@[simp] theorem pplTb1 : tbl pplTb 50 = some (.data rqC) := rfl
theorem ppl_spec {N : NR} : SpecD N Tryz.prog 26 pplC := by
  refine rd1 (mf := fun f => false) pplTb_ok (fn := Tryz.f26) (by kernel_rfl) rfl (by kernel_rfl) (by kernel_rfl) ?_
  rintro ⟨⟨a, b⟩, ⟨c, d⟩, ⟨e, f⟩, g, h⟩ hp
  have hp : QI a b ∧ QI c d ∧ QI e f ∧ QI g h := hp
  show awp _ _ _ _ (start _ ([.agg [eQ a b, eQ c d, eQ e f, eQ g h]].map .dat) []) (endK _ _ _ (([.agg [.agg [eRat (Rat.divInt a b), eRat (Rat.divInt c d), eRat (Rat.divInt e f)], eRat (Rat.divInt g h)]]).map .dat) [])
  simp [-D.isLit, Tryz.f26, hp]
theorem ppl_ok : callable Tryz.prog 26 = true := by kernel_rfl

/-! (i.p3).sub -/
noncomputable def p3subC := ct2 EP3 EP3 (fun p0 p1 => qsz p0.1 + qsz p0.2.1 + qsz p0.2.2 + qsz p1.1 + qsz p1.2.1 + qsz p1.2.2 < LM) (fun p0 p1 => [.agg [eRat (p0.1 - p1.1), eRat (p0.2.1 - p1.2.1), eRat (p0.2.2 - p1.2.2)]])
@[simp] theorem p3subC_at (a b c : Rat) (d e f : Rat) : p3subC [.agg [eRat a, eRat b, eRat c], .agg [eRat d, eRat e, eRat f]] = (qsz a + qsz b + qsz c + qsz d + qsz e + qsz f < LM, [.agg [eRat (a - d), eRat (b - e), eRat (c - f)]]) := ct2_at (a, b, c) (d, e, f)
noncomputable def p3subTb : List (FuncId × Ct) := [(52, .data rsubC)]
theorem p3subTb_ok {N : NR} : TbOK N Tryz.prog (tbl p3subTb) := tbl_cons (c := .data rsubC) rsub_spec rsub_ok tbl_nil

@[simp] theorem p3subTb1 : tbl p3subTb 52 = some (.data rsubC) := rfl
theorem p3sub_spec {N : NR} : SpecD N Tryz.prog 60 p3subC := by
  refine rd2 (mf := fun f => false) p3subTb_ok (fn := Tryz.f60) (by kernel_rfl) rfl (by kernel_rfl) (by kernel_rfl) ?_
  rintro ⟨a, b, c⟩ ⟨d, e, f⟩ hp
  have hp : qsz a + qsz b + qsz c + qsz d + qsz e + qsz f < LM := hp
  show awp _ _ _ _ (start _ ([.agg [eRat a, eRat b, eRat c], .agg [eRat d, eRat e, eRat f]].map .dat) []) (endK _ _ _ (([.agg [eRat (a - d), eRat (b - e), eRat (c - f)]]).map .dat) [])
  simp [-D.isLit, Tryz.f60]
  grind [qsz_add, qsz_sub, qsz_mul, qsz_neg, MX_val, LM_val]
theorem p3sub_ok : callable Tryz.prog 60 = true := by kernel_rfl

/-! (i.p3).times -/
noncomputable def p3timesC := ct2 EP3 ERat (fun p0 p1 => qsz p0.1 + qsz p0.2.1 + qsz p0.2.2 + qsz p1 < LM) (fun p0 p1 => [.agg [eRat (p0.1 * p1), eRat (p0.2.1 * p1), eRat (p0.2.2 * p1)]])
@[simp] theorem p3timesC_at (a b c : Rat) (d : Rat) : p3timesC [.agg [eRat a, eRat b, eRat c], eRat d] = (qsz a + qsz b + qsz c + qsz d < LM, [.agg [eRat (a * d), eRat (b * d), eRat (c * d)]]) := ct2_at (a, b, c) d
noncomputable def p3timesTb : List (FuncId × Ct) := [(75, .data rmC)]
theorem p3timesTb_ok {N : NR} : TbOK N Tryz.prog (tbl p3timesTb) := tbl_cons (c := .data rmC) rmul_spec rmul_ok tbl_nil

@[simp] theorem p3timesTb1 : tbl p3timesTb 75 = some (.data rmC) := rfl
theorem p3times_spec {N : NR} : SpecD N Tryz.prog 91 p3timesC := by
  refine rd2 (mf := fun f => false) p3timesTb_ok (fn := Tryz.f91) (by kernel_rfl) rfl (by kernel_rfl) (by kernel_rfl) ?_
  rintro ⟨a, b, c⟩ d hp
  have hp : qsz a + qsz b + qsz c + qsz d < LM := hp
  show awp _ _ _ _ (start _ ([.agg [eRat a, eRat b, eRat c], eRat d].map .dat) []) (endK _ _ _ (([.agg [eRat (a * d), eRat (b * d), eRat (c * d)]]).map .dat) [])
  simp [-D.isLit, Tryz.f91]
  grind [qsz_add, qsz_sub, qsz_mul, qsz_neg, MX_val, LM_val]
theorem p3times_ok : callable Tryz.prog 91 = true := by kernel_rfl

/-! i.dot3 -/
noncomputable def dot3C := ct2 EP3 EP3 (fun p0 p1 => qsz p0.1 + qsz p0.2.1 + qsz p0.2.2 + qsz p1.1 + qsz p1.2.1 + qsz p1.2.2 < LM) (fun p0 p1 => [eRat (dot3Q p0.1 p0.2.1 p0.2.2 p1.1 p1.2.1 p1.2.2)])
@[simp] theorem dot3C_at (a b c : Rat) (d e f : Rat) : dot3C [.agg [eRat a, eRat b, eRat c], .agg [eRat d, eRat e, eRat f]] = (qsz a + qsz b + qsz c + qsz d + qsz e + qsz f < LM, [eRat (dot3Q a b c d e f)]) := ct2_at (a, b, c) (d, e, f)
noncomputable def dot3Tb : List (FuncId × Ct) := [(75, .data rmC), (76, .data raddC)]
theorem dot3Tb_ok {N : NR} : TbOK N Tryz.prog (tbl dot3Tb) := tbl_cons (c := .data rmC) rmul_spec rmul_ok (tbl_cons (c := .data raddC) radd_spec radd_ok tbl_nil)

@[simp] theorem dot3Tb1 : tbl dot3Tb 75 = some (.data rmC) := rfl
@[simp] theorem dot3Tb2 : tbl dot3Tb 76 = some (.data raddC) := rfl
theorem dot3_spec {N : NR} : SpecD N Tryz.prog 51 dot3C := by
  refine rd2 (mf := fun f => false) dot3Tb_ok (fn := Tryz.f51) (by kernel_rfl) rfl (by kernel_rfl) (by kernel_rfl) ?_
  rintro ⟨a, b, c⟩ ⟨d, e, f⟩ hp
  have hp : qsz a + qsz b + qsz c + qsz d + qsz e + qsz f < LM := hp
  show awp _ _ _ _ (start _ ([.agg [eRat a, eRat b, eRat c], .agg [eRat d, eRat e, eRat f]].map .dat) []) (endK _ _ _ (([eRat (dot3Q a b c d e f)]).map .dat) [])
  simp [-D.isLit, Tryz.f51, dot3Q]
  grind [qsz_add, qsz_sub, qsz_mul, qsz_neg, MX_val, LM_val]
theorem dot3_ok : callable Tryz.prog 51 = true := by kernel_rfl

/-! i.cross3 -/
noncomputable def crs3C := ct2 EP3 EP3 (fun p0 p1 => qsz p0.1 + qsz p0.2.1 + qsz p0.2.2 + qsz p1.1 + qsz p1.2.1 + qsz p1.2.2 < LM) (fun p0 p1 => [.agg [eRat (p0.2.1 * p1.2.2 - p0.2.2 * p1.2.1), eRat (p0.2.2 * p1.1 - p0.1 * p1.2.2), eRat (p0.1 * p1.2.1 - p0.2.1 * p1.1)]])
@[simp] theorem crs3C_at (a b c : Rat) (d e f : Rat) : crs3C [.agg [eRat a, eRat b, eRat c], .agg [eRat d, eRat e, eRat f]] = (qsz a + qsz b + qsz c + qsz d + qsz e + qsz f < LM, [.agg [eRat (b * f - c * e), eRat (c * d - a * f), eRat (a * e - b * d)]]) := ct2_at (a, b, c) (d, e, f)
noncomputable def crs3Tb : List (FuncId × Ct) := [(75, .data rmC), (52, .data rsubC)]
theorem crs3Tb_ok {N : NR} : TbOK N Tryz.prog (tbl crs3Tb) := tbl_cons (c := .data rmC) rmul_spec rmul_ok (tbl_cons (c := .data rsubC) rsub_spec rsub_ok tbl_nil)

@[simp] theorem crs3Tb1 : tbl crs3Tb 75 = some (.data rmC) := rfl
@[simp] theorem crs3Tb2 : tbl crs3Tb 52 = some (.data rsubC) := rfl
theorem crs3_spec {N : NR} : SpecD N Tryz.prog 59 crs3C := by
  refine rd2 (mf := fun f => false) crs3Tb_ok (fn := Tryz.f59) (by kernel_rfl) rfl (by kernel_rfl) (by kernel_rfl) ?_
  rintro ⟨a, b, c⟩ ⟨d, e, f⟩ hp
  have hp : qsz a + qsz b + qsz c + qsz d + qsz e + qsz f < LM := hp
  show awp _ _ _ _ (start _ ([.agg [eRat a, eRat b, eRat c], .agg [eRat d, eRat e, eRat f]].map .dat) []) (endK _ _ _ (([.agg [eRat (b * f - c * e), eRat (c * d - a * f), eRat (a * e - b * d)]]).map .dat) [])
  simp [-D.isLit, Tryz.f59]
  grind [qsz_add, qsz_sub, qsz_mul, qsz_neg, MX_val, LM_val]
theorem crs3_ok : callable Tryz.prog 59 = true := by kernel_rfl

/-! (i.p3).v -/
noncomputable def p3vC := ct1 EP3 (fun p0 => True) (fun p0 => v3T (oV3 p0.1 p0.2.1 p0.2.2))
@[simp] theorem p3vC_at (a b c : Rat) : p3vC [.agg [eRat a, eRat b, eRat c]] = (True, v3T (oV3 a b c)) := ct1_at (a, b, c)
noncomputable def p3vTb : List (FuncId × Ct) := [(62, .data rqqC)]
theorem p3vTb_ok {N : NR} : TbOK N Tryz.prog (tbl p3vTb) := tbl_cons (c := .data rqqC) rqq_spec rqq_ok tbl_nil

@[simp] theorem p3vTb1 : tbl p3vTb 62 = some (.data rqqC) := rfl
theorem p3v_spec {N : NR} : SpecD N Tryz.prog 42 p3vC := by
  refine rd1 (mf := fun f => false) p3vTb_ok (fn := Tryz.f42) (by kernel_rfl) rfl (by kernel_rfl) (by kernel_rfl) ?_
  rintro ⟨a, b, c⟩ hp
  have hp : True := hp
  show awp _ _ _ _ (start _ ([.agg [eRat a, eRat b, eRat c]].map .dat) []) (endK _ _ _ ((v3T (oV3 a b c)).map .dat) [])
  cases e1 : (oq a).2.2 <;> cases e2 : (oq b).2.2 <;> cases e3 : (oq c).2.2 <;> simp [-D.isLit, Tryz.f42, oV3, v3T, e1, e2, e3, eQ, i64D]
theorem p3v_ok : callable Tryz.prog 42 = true := by kernel_rfl

/-! (i.rat).abs -/
noncomputable def rabsrC := ct1 ERat (fun p0 => qsz p0 < LM) (fun p0 => [eRat (rabs p0)])
@[simp] theorem rabsrC_at (a : Rat) : rabsrC [eRat a] = (qsz a < LM, [eRat (rabs a)]) := ct1_at a
noncomputable def rabsrTb : List (FuncId × Ct) := [(29, .data rsgC), (111, .data rngC)]
theorem rabsrTb_ok {N : NR} : TbOK N Tryz.prog (tbl rabsrTb) := tbl_cons (c := .data rsgC) rsign_spec rsign_ok (tbl_cons (c := .data rngC) rneg_spec rneg_ok tbl_nil)

@[simp] theorem rabsrTb1 : tbl rabsrTb 29 = some (.data rsgC) := rfl
@[simp] theorem rabsrTb2 : tbl rabsrTb 111 = some (.data rngC) := rfl
theorem rabsr_spec {N : NR} : SpecD N Tryz.prog 89 rabsrC := by
  refine rd1 (mf := fun f => false) rabsrTb_ok (fn := Tryz.f89) (by kernel_rfl) rfl (by kernel_rfl) (by kernel_rfl) ?_
  rintro a hp
  have hp : qsz a < LM := hp
  show awp _ _ _ _ (start _ ([eRat a].map .dat) []) (endK _ _ _ (([eRat (rabs a)]).map .dat) [])
  have h0 : qsz a < MX := by rw [LM_val] at hp; rw [MX_val]; omega
  by_cases h : a.num.sign < 0 <;> simp [-D.isLit, Tryz.f89, rabs, h, h0]
theorem rabsr_ok : callable Tryz.prog 89 = true := by kernel_rfl

/-! (i.pl).height -/
noncomputable def plhtC := ct2 EPq EP3 (fun p0 p1 => qsz p0.1.1 + qsz p0.1.2.1 + qsz p0.1.2.2 + qsz p0.2 + qsz p1.1 + qsz p1.2.1 + qsz p1.2.2 < 100000000) (fun p0 p1 => [eRat (htQ p0.1.1 p0.1.2.1 p0.1.2.2 p0.2 p1.1 p1.2.1 p1.2.2)])
@[simp] theorem plhtC_at (a b c d : Rat) (e f g : Rat) : plhtC [.agg [.agg [eRat a, eRat b, eRat c], eRat d], .agg [eRat e, eRat f, eRat g]] = (qsz a + qsz b + qsz c + qsz d + qsz e + qsz f + qsz g < 100000000, [eRat (htQ a b c d e f g)]) := ct2_at ((a, b, c), d) (e, f, g)
noncomputable def plhtTb : List (FuncId × Ct) := [(51, .data dot3C), (52, .data rsubC)]
theorem plhtTb_ok {N : NR} : TbOK N Tryz.prog (tbl plhtTb) := tbl_cons (c := .data dot3C) dot3_spec dot3_ok (tbl_cons (c := .data rsubC) rsub_spec rsub_ok tbl_nil)

@[simp] theorem plhtTb1 : tbl plhtTb 51 = some (.data dot3C) := rfl
@[simp] theorem plhtTb2 : tbl plhtTb 52 = some (.data rsubC) := rfl
theorem plht_spec {N : NR} : SpecD N Tryz.prog 27 plhtC := by
  refine rd2 (mf := fun f => false) plhtTb_ok (fn := Tryz.f27) (by kernel_rfl) rfl (by kernel_rfl) (by kernel_rfl) ?_
  rintro ⟨⟨a, b, c⟩, d⟩ ⟨e, f, g⟩ hp
  have hp : qsz a + qsz b + qsz c + qsz d + qsz e + qsz f + qsz g < 100000000 := hp
  show awp _ _ _ _ (start _ ([.agg [.agg [eRat a, eRat b, eRat c], eRat d], .agg [eRat e, eRat f, eRat g]].map .dat) []) (endK _ _ _ (([eRat (htQ a b c d e f g)]).map .dat) [])
  simp [-D.isLit, Tryz.f27, htQ]
  grind [qsz_add, qsz_sub, qsz_mul, qsz_neg, MX_val, LM_val, dot3Q_sz]
theorem plht_ok : callable Tryz.prog 27 = true := by kernel_rfl
theorem one_rat' : ((1 : Int) : Rat) = 1 := rfl
theorem one_div_inv (a : Rat) : 1 / a = a⁻¹ := by rw [Rat.div_def, Rat.one_mul]
theorem qsz_inv' {a : Rat} (h : a ≠ 0) : qsz a⁻¹ ≤ qsz (1 : Rat) + qsz a + 1 := by
  rw [← one_div_inv]
  have := qsz_div (a := (1 : Rat)) h
  omega
/-- The plane through three places: its numbers, or none. -/
def thrQ (x y z d : Rat) : Option ((Rat × Rat × Rat) × Rat) :=
  if x.num.sign = 0 ∧ y.num.sign = 0 ∧ z.num.sign = 0 then none else some ((x * (rabs (ledQ x y z))⁻¹, y * (rabs (ledQ x y z))⁻¹, z * (rabs (ledQ x y z))⁻¹), d * (rabs (ledQ x y z))⁻¹)
def thrI (z : D) : Option ((Rat × Rat × Rat) × Rat) → List D
  | none => [z, .lit (.bool false)]
  | some ((x, y, z), d) => [.agg [.agg [eRat x, eRat y, eRat z], eRat d], .lit (.bool true)]
def thrN (z : D) : Option ((Rat × Rat × Rat) × Rat) → List D
  | none => [z, .lit (.bool false)]
  | some ((x, y, z), d) => [.agg [.agg [nD x, nD y, nD z], nD d, .lit (.slice none 0 0)], .lit (.bool true)]
def crX (a b c d e f g h i : Rat) : Rat := (e - b) * (i - c) - (f - c) * (h - b)
def crY (a b c d e f g h i : Rat) : Rat := (f - c) * (g - a) - (d - a) * (i - c)
def crZ (a b c d e f g h i : Rat) : Rat := (d - a) * (h - b) - (e - b) * (g - a)
def throQ (a b c d e f g h i : Rat) : Option ((Rat × Rat × Rat) × Rat) := thrQ (crX a b c d e f g h i) (crY a b c d e f g h i) (crZ a b c d e f g h i) (dot3Q (crX a b c d e f g h i) (crY a b c d e f g h i) (crZ a b c d e f g h i) a b c)
def zRat' : D := .agg [.lit (.int .i64 0), .lit (.int .i64 0), .lit (.pointer none)]
def zNum : D := .agg [.lit (.int .i64 0), .lit (.int .i64 0), .lit (.slice none 0 0)]
def zPl : D := .agg [.agg [zRat', zRat', zRat'], zRat']
def zFn : D := .agg [.agg [zNum, zNum, zNum], zNum, .lit (.slice none 0 0)]
theorem led_ne {x y z : Rat} (h : ¬ (x.num.sign = 0 ∧ y.num.sign = 0 ∧ z.num.sign = 0)) : ledQ x y z ≠ 0 := by
  unfold ledQ
  split
  · rename_i h1
    split
    · rename_i h2
      exact sgn_ne (fun h3 => h ⟨h1, h2, h3⟩)
    · rename_i h2; exact sgn_ne h2
  · rename_i h1; exact sgn_ne h1
/-- The plane's numbers, told. -/
def tldO : Option ((Rat × Rat × Rat) × Rat) → (Int × Int) × (Int × Int) × (Int × Int) × (Int × Int) × Bool
  | none => ((0, 0), (0, 0), (0, 0), (0, 0), false)
  | some ((x, y, z), d) => oPl x y z d
def plS (a b c d e f : Int) (k : Nat) : St := ⟨[.any, .any, .any, .any, .any, .any, .any, .any, .any, .any, .any, .any, .any, .any, .any, .any, .any, .any, .any, .any, .any, .any, .dat (.sl 2 [eQ a b, eQ c d, eQ e f]), .dat (.lit (.int .i64 3)), .dat (.lit (.int .i64 k)), .any, .any, .any, .any, .any, .any, .any, .any, .any, .any, .any, .any, .any, .any, .any, .any, .any, .any, .any, .any], [none, none, none, none, none, none, none, none, none, none, none, none, none, none, none, none, none, none, none, none, none, none, none, none, none, none, none, none, none, none, none, none, none, none, none, none, none, none, none, none, none, none, none, none, none]⟩

/-! i.PlaneOk -/
noncomputable def iPlaneOkC := ct1 EPl (fun p0 => ((I64 p0.1.1 ∧ I64 p0.1.2) ∧ (I64 p0.2.1.1 ∧ I64 p0.2.1.2) ∧ (I64 p0.2.2.1.1 ∧ I64 p0.2.2.1.2) ∧ I64 p0.2.2.2.1 ∧ I64 p0.2.2.2.2)) (fun p0 => [.lit (.bool (decide (plOk p0.1.1 p0.1.2 p0.2.1.1 p0.2.1.2 p0.2.2.1.1 p0.2.2.1.2 p0.2.2.2.1 p0.2.2.2.2)))])
@[simp] theorem iPlaneOkC_at (a b c d e f g h : Int) : iPlaneOkC [.agg [eQ a b, eQ c d, eQ e f, eQ g h]] = (((I64 a ∧ I64 b) ∧ (I64 c ∧ I64 d) ∧ (I64 e ∧ I64 f) ∧ I64 g ∧ I64 h), [.lit (.bool (decide (plOk a b c d e f g h)))]) := ct1_at ((a, b), (c, d), (e, f), g, h)
noncomputable def iPlaneOkTb : List (FuncId × Ct) := [(49, .data allQC)]
theorem iPlaneOkTb_ok {N : NR} : TbOK N Tryz.prog (tbl iPlaneOkTb) := tbl_cons (c := .data allQC) allQ_spec allQ_ok tbl_nil

@[simp] theorem iPlaneOkTb1 : tbl iPlaneOkTb 49 = some (.data allQC) := rfl
theorem iPlaneOk_spec {N : NR} : SpecD N Tryz.prog 24 iPlaneOkC := by
  refine rd1 (mf := fun f => false) iPlaneOkTb_ok (fn := Tryz.f24) (by kernel_rfl) rfl (by kernel_rfl) (by kernel_rfl) ?_
  rintro ⟨⟨a, b⟩, ⟨c, d⟩, ⟨e, f⟩, g, h⟩ hp
  have hp : ((I64 a ∧ I64 b) ∧ (I64 c ∧ I64 d) ∧ (I64 e ∧ I64 f) ∧ I64 g ∧ I64 h) := hp
  show awp _ _ _ _ (start _ ([.agg [eQ a b, eQ c d, eQ e f, eQ g h]].map .dat) []) (endK _ _ _ (([.lit (.bool (decide (plOk a b c d e f g h)))]).map .dat) [])
  obtain ⟨⟨i1, i2⟩, ⟨i3, i4⟩, ⟨i5, i6⟩, i7, i8⟩ := hp
  by_cases h1 : q4Ok a b c d e f g h
  case neg =>
    have e : decide (plOk a b c d e f g h) = false := decide_eq_false (fun x => h1 x.1)
    rw [e]
    simp [-D.isLit, Tryz.f24, i1, i2, i3, i4, i5, i6, i7, i8, h1]
  generalize hr : decide (plOk a b c d e f g h) = r
  have hr : (if a = 0 then if c = 0 then one1 e f else one1 c d else one1 a b) = r := by
    rw [← hr, Bool.eq_iff_iff, decide_eq_true_eq]; unfold plOk
    by_cases k1 : a = 0
    · by_cases k2 : c = 0
      · rw [if_pos k1, if_pos k2, if_pos k1, if_pos k2]; exact ⟨fun x => ⟨h1, x⟩, fun x => x.2⟩
      · rw [if_pos k1, if_neg k2, if_pos k1, if_neg k2]; exact ⟨fun x => ⟨h1, x⟩, fun x => x.2⟩
    · rw [if_neg k1, if_neg k1]; exact ⟨fun x => ⟨h1, x⟩, fun x => x.2⟩
  have w0 : IntKind.i64.wrap 1 = 1 := by decide
  have w2 : IntKind.i64.wrap 2 = 2 := by decide
  have w3 : IntKind.i64.wrap 3 = 3 := by decide
  simp [-D.isLit, Tryz.f24, i1, i2, i3, i4, i5, i6, i7, i8, h1]
  refine loop_go (fun n st => ∃ k, n = 3 - k ∧ (k = 0 ∨ (k = 1 ∧ a = 0) ∨ (k = 2 ∧ a = 0 ∧ c = 0) ∨ (k = 3 ∧ a = 0 ∧ c = 0 ∧ e = 0)) ∧ st = plS a b c d e f k) (s0 := plS a b c d e f 0) (n := 3) (snd_obs (n := 45) [] rfl (by simp) (by simp [plS])) ⟨0, rfl, .inl rfl, rfl⟩ ?_
  rintro n st ⟨k, hn, hk, rfl⟩ KN hN
  rcases hk with rfl | ⟨rfl, h2⟩ | ⟨rfl, h2, h3⟩ | ⟨rfl, h2, h3, h4⟩
  · by_cases h5 : a = 0
    · simp [-D.isLit, plS, ix, eQ, i64D, h5, w0, w2, w3]
      exact hN _ (nx (m := 2) (s'' := plS a b c d e f 1) (snd_obs (n := 45) [] rfl (by simp) (by simp [plS, eQ, i64D, h5])) ⟨1, rfl, .inr (.inl ⟨rfl, h5⟩), rfl⟩ (by omega))
    · have e : r = one1 a b := by rw [← hr]; rw [if_neg h5]
      subst e
      by_cases h6 : b = 1 <;> by_cases h7 : a = 1 <;> simp [-D.isLit, plS, ix, one1, eQ, i64D, h5, h6, h7]
  · by_cases h5 : c = 0
    · simp [-D.isLit, plS, ix, eQ, i64D, h5, h2, w0, w2, w3]
      exact hN _ (nx (m := 1) (s'' := plS a b c d e f 2) (snd_obs (n := 45) [] rfl (by simp) (by simp [plS, eQ, i64D, h5, h2])) ⟨2, rfl, .inr (.inr (.inl ⟨rfl, h2, h5⟩)), rfl⟩ (by omega))
    · have e : r = one1 c d := by rw [← hr]; rw [if_pos h2, if_neg h5]
      subst e
      by_cases h6 : d = 1 <;> by_cases h7 : c = 1 <;> simp [-D.isLit, plS, ix, one1, eQ, i64D, h5, h6, h7, h2]
  · by_cases h5 : e = 0
    · simp [-D.isLit, plS, ix, eQ, i64D, h5, h2, h3, w0, w2, w3]
      exact hN _ (nx (m := 0) (s'' := plS a b c d e f 3) (snd_obs (n := 45) [] rfl (by simp) (by simp [plS, eQ, i64D, h5, h2, h3])) ⟨3, rfl, .inr (.inr (.inr ⟨rfl, h2, h3, h5⟩)), rfl⟩ (by omega))
    · have e : r = one1 e f := by rw [← hr]; rw [if_pos h2, if_pos h3]
      subst e
      by_cases h6 : f = 1 <;> by_cases h7 : e = 1 <;> simp [-D.isLit, plS, ix, one1, eQ, i64D, h5, h6, h7, h2, h3]
  · have e' : r = false := by rw [← hr, if_pos h2, if_pos h3, h4]; unfold one1; simp
    subst e'
    simp [-D.isLit, plS]
theorem iPlaneOk_ok : callable Tryz.prog 24 = true := by kernel_rfl
def plLd (a b c d : Rat) (k : Nat) : St := ⟨[.any, .obj 1 [] 0, .any, .any, .dat (.lit (.int .i64 k)), .any, .any, .any, .any, .any, .any, .any, .any, .any, .any], [none, some (.box (.agg [.agg [eRat a, eRat b, eRat c], eRat d])), none, none, none, none, none, none, none, none, none, none, none, none, none]⟩

/-! (i.pl).lead -/
noncomputable def plLeadC := ct1 EPq (fun p0 => True) (fun p0 => [.lit (.int .i64 (ledI p0.1.1 p0.1.2.1 p0.1.2.2))])
@[simp] theorem plLeadC_at (a b c d : Rat) : plLeadC [.agg [.agg [eRat a, eRat b, eRat c], eRat d]] = (True, [.lit (.int .i64 (ledI a b c))]) := ct1_at ((a, b, c), d)
noncomputable def plLeadTb : List (FuncId × Ct) := [(29, .data rsgC)]
theorem plLeadTb_ok {N : NR} : TbOK N Tryz.prog (tbl plLeadTb) := tbl_cons (c := .data rsgC) rsign_spec rsign_ok tbl_nil

@[simp] theorem plLeadTb1 : tbl plLeadTb 29 = some (.data rsgC) := rfl
theorem plLead_spec {N : NR} : SpecD N Tryz.prog 88 plLeadC := by
  refine rd1 (mf := fun f => false) plLeadTb_ok (fn := Tryz.f88) (by kernel_rfl) rfl (by kernel_rfl) (by kernel_rfl) ?_
  rintro ⟨⟨a, b, c⟩, d⟩ hp
  have hp : True := hp
  show awp _ _ _ _ (start _ ([.agg [.agg [eRat a, eRat b, eRat c], eRat d]].map .dat) []) (endK _ _ _ (([.lit (.int .i64 (ledI a b c))]).map .dat) [])
  generalize hr : ledI a b c = r
  have w0 : IntKind.i64.wrap 1 = 1 := by decide
  have w2 : IntKind.i64.wrap 2 = 2 := by decide
  have w3 : IntKind.i64.wrap 3 = 3 := by decide
  simp [-D.isLit, Tryz.f88]
  refine loop_go (fun n st => ∃ k, n = 3 - k ∧ (k = 0 ∨ (k = 1 ∧ a.num.sign = 0) ∨ (k = 2 ∧ a.num.sign = 0 ∧ b.num.sign = 0) ∨ (k = 3 ∧ a.num.sign = 0 ∧ b.num.sign = 0 ∧ c.num.sign = 0)) ∧ st = plLd a b c d k) (s0 := plLd a b c d 0) (n := 3) (snd_of (by simp [LeT, plLd]) (by simp [plLd])) ⟨0, rfl, .inl rfl, rfl⟩ ?_
  rintro n st ⟨k, hn, hk, rfl⟩ KN hN
  rcases hk with rfl | ⟨rfl, h2⟩ | ⟨rfl, h2, h3⟩ | ⟨rfl, h2, h3, h4⟩
  · by_cases h5 : a.num.sign = 0
    · simp [-D.isLit, plLd, h5, w0, w2, w3]
      exact hN _ (nx (m := 2) (s'' := plLd a b c d 1) (snd_of (by simp [LeT, plLd]) (by simp [plLd])) ⟨1, rfl, .inr (.inl ⟨rfl, h5⟩), rfl⟩ (by omega))
    · have e : r = 0 := by rw [← hr]; unfold ledI; rw [if_neg h5]
      subst e
      simp [-D.isLit, plLd, h5]
  · by_cases h5 : b.num.sign = 0
    · simp [-D.isLit, plLd, h5, h2, w0, w2, w3]
      exact hN _ (nx (m := 1) (s'' := plLd a b c d 2) (snd_of (by simp [LeT, plLd]) (by simp [plLd])) ⟨2, rfl, .inr (.inr (.inl ⟨rfl, h2, h5⟩)), rfl⟩ (by omega))
    · have e : r = 1 := by rw [← hr]; unfold ledI; rw [if_pos h2, if_neg h5]
      subst e
      simp [-D.isLit, plLd, h5, h2]
  · by_cases h5 : c.num.sign = 0
    · simp [-D.isLit, plLd, h5, h2, h3, w0, w2, w3]
      exact hN _ (nx (m := 0) (s'' := plLd a b c d 3) (snd_of (by simp [LeT, plLd]) (by simp [plLd])) ⟨3, rfl, .inr (.inr (.inr ⟨rfl, h2, h3, h5⟩)), rfl⟩ (by omega))
    · have e : r = 2 := by rw [← hr]; unfold ledI; rw [if_pos h2, if_pos h3, if_neg h5]
      subst e
      simp [-D.isLit, plLd, h5, h2, h3]
  · have e' : r = -1 := by rw [← hr]; unfold ledI; rw [if_pos h2, if_pos h3, if_pos h4]
    subst e'
    simp [-D.isLit, plLd]
theorem plLead_ok : callable Tryz.prog 88 = true := by kernel_rfl
def plOf (a b c d : Rat) (k : Nat) : St := ⟨[.any, .obj 1 [] 0, .any, .dat (.lit (.int .i64 k)), .any, .any, .any, .any, .any, .any, .any, .any, .any, .any, .any], [none, some (.box (.agg [.agg [eRat a, eRat b, eRat c], eRat d])), none, none, none, none, none, none, none, none, none, none, none, none, none]⟩

/-! (i.pl).off -/
noncomputable def plOffC := ct1 EPq (fun p0 => True) (fun p0 => [.lit (.int .i64 (offI p0.1.2.1 p0.1.2.2))])
@[simp] theorem plOffC_at (a b c d : Rat) : plOffC [.agg [.agg [eRat a, eRat b, eRat c], eRat d]] = (True, [.lit (.int .i64 (offI b c))]) := ct1_at ((a, b, c), d)
noncomputable def plOffTb : List (FuncId × Ct) := [(29, .data rsgC)]
theorem plOffTb_ok {N : NR} : TbOK N Tryz.prog (tbl plOffTb) := tbl_cons (c := .data rsgC) rsign_spec rsign_ok tbl_nil

@[simp] theorem plOffTb1 : tbl plOffTb 29 = some (.data rsgC) := rfl
theorem plOff_spec {N : NR} : SpecD N Tryz.prog 67 plOffC := by
  refine rd1 (mf := fun f => false) plOffTb_ok (fn := Tryz.f67) (by kernel_rfl) rfl (by kernel_rfl) (by kernel_rfl) ?_
  rintro ⟨⟨a, b, c⟩, d⟩ hp
  have hp : True := hp
  show awp _ _ _ _ (start _ ([.agg [.agg [eRat a, eRat b, eRat c], eRat d]].map .dat) []) (endK _ _ _ (([.lit (.int .i64 (offI b c))]).map .dat) [])
  generalize hr : offI b c = r
  have w0 : IntKind.i64.wrap 0 = 0 := by decide
  have w1 : IntKind.i64.wrap 1 = 1 := by decide
  simp [-D.isLit, Tryz.f67]
  refine loop_go (fun n st => ∃ k, n = k ∧ (k = 2 ∨ (k = 1 ∧ c.num.sign = 0) ∨ (k = 0 ∧ c.num.sign = 0 ∧ b.num.sign = 0)) ∧ st = plOf a b c d k) (s0 := plOf a b c d 2) (n := 2) (snd_of (by simp [LeT, plOf]) (by simp [plOf])) ⟨2, rfl, .inl rfl, rfl⟩ ?_
  rintro n st ⟨k, hn, hk, rfl⟩ KN hN
  rcases hk with rfl | ⟨rfl, h2⟩ | ⟨rfl, h2, h3⟩
  · by_cases h5 : c.num.sign = 0
    · simp [-D.isLit, plOf, h5, w0, w1]
      exact hN _ (nx (m := 1) (s'' := plOf a b c d 1) (snd_of (by simp [LeT, plOf]) (by simp [plOf])) ⟨1, rfl, .inr (.inl ⟨rfl, h5⟩), rfl⟩ (by omega))
    · have e : r = 2 := by rw [← hr]; unfold offI; rw [if_neg h5]
      subst e
      simp [-D.isLit, plOf, h5]
  · by_cases h5 : b.num.sign = 0
    · simp [-D.isLit, plOf, h5, h2, w0, w1]
      exact hN _ (nx (m := 0) (s'' := plOf a b c d 0) (snd_of (by simp [LeT, plOf]) (by simp [plOf])) ⟨0, rfl, .inr (.inr ⟨rfl, h2, h5⟩), rfl⟩ (by omega))
    · have e : r = 1 := by rw [← hr]; unfold offI; rw [if_pos h2, if_neg h5]
      subst e
      simp [-D.isLit, plOf, h5, h2]
  · have e' : r = 0 := by rw [← hr]; unfold offI; rw [if_pos h2, if_pos h3]
    subst e'
    simp [-D.isLit, plOf]
theorem plOff_ok : callable Tryz.prog 67 = true := by kernel_rfl

/-! (i.pl).scaled -/
noncomputable def plScaledC := ct1 EPq (fun p0 => qsz p0.1.1 + qsz p0.1.2.1 + qsz p0.1.2.2 + qsz p0.2 < 100000000) (fun p0 => thrI zPl (thrQ p0.1.1 p0.1.2.1 p0.1.2.2 p0.2))
@[simp] theorem plScaledC_at (a b c d : Rat) : plScaledC [.agg [.agg [eRat a, eRat b, eRat c], eRat d]] = (qsz a + qsz b + qsz c + qsz d < 100000000, thrI zPl (thrQ a b c d)) := ct1_at ((a, b, c), d)
noncomputable def plScaledTb : List (FuncId × Ct) := [(88, .data plLeadC), (89, .data rabsrC), (90, .data rinvC), (91, .data p3timesC), (75, .data rmC)]
theorem plScaledTb_ok {N : NR} : TbOK N Tryz.prog (tbl plScaledTb) := tbl_cons (c := .data plLeadC) plLead_spec plLead_ok (tbl_cons (c := .data rabsrC) rabsr_spec rabsr_ok (tbl_cons (c := .data rinvC) rinv_spec rinv_ok (tbl_cons (c := .data p3timesC) p3times_spec p3times_ok (tbl_cons (c := .data rmC) rmul_spec rmul_ok tbl_nil))))

@[simp] theorem plScaledTb1 : tbl plScaledTb 88 = some (.data plLeadC) := rfl
@[simp] theorem plScaledTb2 : tbl plScaledTb 89 = some (.data rabsrC) := rfl
@[simp] theorem plScaledTb3 : tbl plScaledTb 90 = some (.data rinvC) := rfl
@[simp] theorem plScaledTb4 : tbl plScaledTb 91 = some (.data p3timesC) := rfl
@[simp] theorem plScaledTb5 : tbl plScaledTb 75 = some (.data rmC) := rfl
theorem plScaled_spec {N : NR} : SpecD N Tryz.prog 61 plScaledC := by
  refine rd1 (mf := fun f => false) plScaledTb_ok (fn := Tryz.f61) (by kernel_rfl) rfl (by kernel_rfl) (by kernel_rfl) ?_
  rintro ⟨⟨a, b, c⟩, d⟩ hp
  have hp : qsz a + qsz b + qsz c + qsz d < 100000000 := hp
  show awp _ _ _ _ (start _ ([.agg [.agg [eRat a, eRat b, eRat c], eRat d]].map .dat) []) (endK _ _ _ ((thrI zPl (thrQ a b c d)).map .dat) [])
  unfold thrQ
  by_cases hz : a.num.sign = 0 ∧ b.num.sign = 0 ∧ c.num.sign = 0
  · have ei : ledI a b c = -1 := by unfold ledI; rw [if_pos hz.1, if_pos hz.2.1, if_pos hz.2.2]
    simp [-D.isLit, Tryz.f61, thrI, zPl, zRat', hz, ei]
  have hne := led_ne hz
  rw [if_neg hz]
  by_cases h2 : a.num.sign = 0
  · by_cases h3 : b.num.sign = 0
    · have h4 : ¬ c.num.sign = 0 := fun x => hz ⟨h2, h3, x⟩
      have e : ledQ a b c = c := by unfold ledQ; rw [if_pos h2, if_pos h3]
      have ei : ledI a b c = 2 := by unfold ledI; rw [if_pos h2, if_pos h3, if_neg h4]
      have r1 := rabs_ne hne
      have r2 := rabs_sz (ledQ a b c)
      have r3 := ledQ_sz a b c
      have r4 := qsz_inv' r1
      have r5 := qsz_one
      have s0 : qsz (ledQ a b c) < LM := by rw [LM_val]; omega
      have s1 : qsz (rabs (ledQ a b c)) < MX := by rw [MX_val]; omega
      have s2 : qsz a + qsz b + qsz c + qsz (rabs (ledQ a b c))⁻¹ < LM := by rw [LM_val]; omega
      have s3 : qsz d + qsz (rabs (ledQ a b c))⁻¹ < MX := by rw [MX_val]; omega
      rw [e] at r1 s0 s1 s2 s3 ⊢
      simp [-D.isLit, Tryz.f61, thrI, hz, e, ei, r1, s0, s1, s2, s3]
    · have e : ledQ a b c = b := by unfold ledQ; rw [if_pos h2, if_neg h3]
      have ei : ledI a b c = 1 := by unfold ledI; rw [if_pos h2, if_neg h3]
      have r1 := rabs_ne hne
      have r2 := rabs_sz (ledQ a b c)
      have r3 := ledQ_sz a b c
      have r4 := qsz_inv' r1
      have r5 := qsz_one
      have s0 : qsz (ledQ a b c) < LM := by rw [LM_val]; omega
      have s1 : qsz (rabs (ledQ a b c)) < MX := by rw [MX_val]; omega
      have s2 : qsz a + qsz b + qsz c + qsz (rabs (ledQ a b c))⁻¹ < LM := by rw [LM_val]; omega
      have s3 : qsz d + qsz (rabs (ledQ a b c))⁻¹ < MX := by rw [MX_val]; omega
      rw [e] at r1 s0 s1 s2 s3 ⊢
      simp [-D.isLit, Tryz.f61, thrI, hz, e, ei, r1, s0, s1, s2, s3]
  · have e : ledQ a b c = a := by unfold ledQ; rw [if_neg h2]
    have ei : ledI a b c = 0 := by unfold ledI; rw [if_neg h2]
    have r1 := rabs_ne hne
    have r2 := rabs_sz (ledQ a b c)
    have r3 := ledQ_sz a b c
    have r4 := qsz_inv' r1
    have r5 := qsz_one
    have s0 : qsz (ledQ a b c) < LM := by rw [LM_val]; omega
    have s1 : qsz (rabs (ledQ a b c)) < MX := by rw [MX_val]; omega
    have s2 : qsz a + qsz b + qsz c + qsz (rabs (ledQ a b c))⁻¹ < LM := by rw [LM_val]; omega
    have s3 : qsz d + qsz (rabs (ledQ a b c))⁻¹ < MX := by rw [MX_val]; omega
    rw [e] at r1 s0 s1 s2 s3 ⊢
    simp [-D.isLit, Tryz.f61, thrI, hz, e, ei, r1, s0, s1, s2, s3]
theorem plScaled_ok : callable Tryz.prog 61 = true := by kernel_rfl

/-! i.planeOf -/
noncomputable def planeOfC := ct3 EP3 EP3 EP3 (fun p0 p1 p2 => qsz p0.1 + qsz p0.2.1 + qsz p0.2.2 + qsz p1.1 + qsz p1.2.1 + qsz p1.2.2 + qsz p2.1 + qsz p2.2.1 + qsz p2.2.2 < 1000000) (fun p0 p1 p2 => thrI zPl (throQ p0.1 p0.2.1 p0.2.2 p1.1 p1.2.1 p1.2.2 p2.1 p2.2.1 p2.2.2))
@[simp] theorem planeOfC_at (a b c : Rat) (d e f : Rat) (g h i : Rat) : planeOfC [.agg [eRat a, eRat b, eRat c], .agg [eRat d, eRat e, eRat f], .agg [eRat g, eRat h, eRat i]] = (qsz a + qsz b + qsz c + qsz d + qsz e + qsz f + qsz g + qsz h + qsz i < 1000000, thrI zPl (throQ a b c d e f g h i)) := ct3_at (a, b, c) (d, e, f) (g, h, i)
noncomputable def planeOfTb : List (FuncId × Ct) := [(60, .data p3subC), (59, .data crs3C), (51, .data dot3C), (61, .data plScaledC)]
theorem planeOfTb_ok {N : NR} : TbOK N Tryz.prog (tbl planeOfTb) := tbl_cons (c := .data p3subC) p3sub_spec p3sub_ok (tbl_cons (c := .data crs3C) crs3_spec crs3_ok (tbl_cons (c := .data dot3C) dot3_spec dot3_ok (tbl_cons (c := .data plScaledC) plScaled_spec plScaled_ok tbl_nil)))

@[simp] theorem planeOfTb1 : tbl planeOfTb 60 = some (.data p3subC) := rfl
@[simp] theorem planeOfTb2 : tbl planeOfTb 59 = some (.data crs3C) := rfl
@[simp] theorem planeOfTb3 : tbl planeOfTb 51 = some (.data dot3C) := rfl
@[simp] theorem planeOfTb4 : tbl planeOfTb 61 = some (.data plScaledC) := rfl
theorem planeOf_spec {N : NR} : SpecD N Tryz.prog 32 planeOfC := by
  refine rd3 (mf := fun f => false) planeOfTb_ok (fn := Tryz.f32) (by kernel_rfl) rfl (by kernel_rfl) (by kernel_rfl) ?_
  rintro ⟨a, b, c⟩ ⟨d, e, f⟩ ⟨g, h, i⟩ hp
  have hp : qsz a + qsz b + qsz c + qsz d + qsz e + qsz f + qsz g + qsz h + qsz i < 1000000 := hp
  show awp _ _ _ _ (start _ ([.agg [eRat a, eRat b, eRat c], .agg [eRat d, eRat e, eRat f], .agg [eRat g, eRat h, eRat i]].map .dat) []) (endK _ _ _ ((thrI zPl (throQ a b c d e f g h i)).map .dat) [])
  have hx : qsz (crX a b c d e f g h i) + qsz (crY a b c d e f g h i) + qsz (crZ a b c d e f g h i) < 20000000 := by
    unfold crX crY crZ
    grind [qsz_sub, qsz_mul]
  have s1 : qsz d + qsz e + qsz f + qsz a + qsz b + qsz c < LM := by rw [LM_val]; omega
  have s2 : qsz g + qsz h + qsz i + qsz a + qsz b + qsz c < LM := by rw [LM_val]; omega
  have s3 : qsz (d - a) + qsz (e - b) + qsz (f - c) + qsz (g - a) + qsz (h - b) + qsz (i - c) < LM := by grind [qsz_sub, LM_val]
  have e1 : (e - b) * (i - c) - (f - c) * (h - b) = crX a b c d e f g h i := rfl
  have e2 : (f - c) * (g - a) - (d - a) * (i - c) = crY a b c d e f g h i := rfl
  have e3 : (d - a) * (h - b) - (e - b) * (g - a) = crZ a b c d e f g h i := rfl
  unfold throQ
  generalize crX a b c d e f g h i = x at *
  generalize crY a b c d e f g h i = y at *
  generalize crZ a b c d e f g h i = z at *
  have s4 : qsz x + qsz y + qsz z + qsz a + qsz b + qsz c < LM := by rw [LM_val]; omega
  have hd := dot3Q_sz x y z a b c
  have s5 : qsz x + qsz y + qsz z + qsz (dot3Q x y z a b c) < 100000000 := by omega
  cases hq : thrQ x y z (dot3Q x y z a b c) with
  | none => simp [-D.isLit, Tryz.f32, thrI, zPl, zRat', s1, s2, s3, s4, s5, e1, e2, e3, hq]
  | some w =>
    obtain ⟨⟨w1, w2, w3⟩, w4⟩ := w
    simp [-D.isLit, Tryz.f32, thrI, s1, s2, s3, s4, s5, e1, e2, e3, hq]
theorem planeOf_ok : callable Tryz.prog 32 = true := by kernel_rfl

/-! (i.pl).plane -/
noncomputable def plPlaneC := ct1 EPq (fun p0 => True) (fun p0 => plT (oPl p0.1.1 p0.1.2.1 p0.1.2.2 p0.2))
@[simp] theorem plPlaneC_at (a b c d : Rat) : plPlaneC [.agg [.agg [eRat a, eRat b, eRat c], eRat d]] = (True, plT (oPl a b c d)) := ct1_at ((a, b, c), d)
noncomputable def plPlaneTb : List (FuncId × Ct) := [(42, .data p3vC), (62, .data rqqC)]
theorem plPlaneTb_ok {N : NR} : TbOK N Tryz.prog (tbl plPlaneTb) := tbl_cons (c := .data p3vC) p3v_spec p3v_ok (tbl_cons (c := .data rqqC) rqq_spec rqq_ok tbl_nil)

@[simp] theorem plPlaneTb1 : tbl plPlaneTb 42 = some (.data p3vC) := rfl
@[simp] theorem plPlaneTb2 : tbl plPlaneTb 62 = some (.data rqqC) := rfl
theorem plPlane_spec {N : NR} : SpecD N Tryz.prog 33 plPlaneC := by
  refine rd1 (mf := fun f => false) plPlaneTb_ok (fn := Tryz.f33) (by kernel_rfl) rfl (by kernel_rfl) (by kernel_rfl) ?_
  rintro ⟨⟨a, b, c⟩, d⟩ hp
  have hp : True := hp
  show awp _ _ _ _ (start _ ([.agg [.agg [eRat a, eRat b, eRat c], eRat d]].map .dat) []) (endK _ _ _ ((plT (oPl a b c d)).map .dat) [])
  cases e1 : (oq a).2.2 <;> cases e2 : (oq b).2.2 <;> cases e3 : (oq c).2.2 <;> cases e4 : (oq d).2.2 <;> simp [-D.isLit, Tryz.f33, oPl, plT, oV3, v3T, e1, e2, e3, e4, eQ, i64D]
theorem plPlane_ok : callable Tryz.prog 33 = true := by kernel_rfl

/-! (i.pl).drop -/
noncomputable def plDropC := ct2 EPq EP3 (fun p0 p1 => True) (fun p0 p1 => [.agg [eRat (drpQ p0.1.2.1 p0.1.2.2 p1.1 p1.2.1 p1.2.2).1, eRat (drpQ p0.1.2.1 p0.1.2.2 p1.1 p1.2.1 p1.2.2).2]])
@[simp] theorem plDropC_at (a b c d : Rat) (x y z : Rat) : plDropC [.agg [.agg [eRat a, eRat b, eRat c], eRat d], .agg [eRat x, eRat y, eRat z]] = (True, [.agg [eRat (drpQ b c x y z).1, eRat (drpQ b c x y z).2]]) := ct2_at ((a, b, c), d) (x, y, z)
noncomputable def plDropTb : List (FuncId × Ct) := [(67, .data plOffC)]
theorem plDropTb_ok {N : NR} : TbOK N Tryz.prog (tbl plDropTb) := tbl_cons (c := .data plOffC) plOff_spec plOff_ok tbl_nil

@[simp] theorem plDropTb1 : tbl plDropTb 67 = some (.data plOffC) := rfl
theorem zero_rat : ((0 : Int) : Rat) = 0 := rfl
theorem qsz_zero : qsz 0 ≤ 1 := by decide +kernel

/-! (i.pl).lift -/
noncomputable def plLiftC := ct2 EPq EP (fun p0 p1 => qsz p0.1.1 + qsz p0.1.2.1 + qsz p0.1.2.2 + qsz p0.2 + qsz p1.1 + qsz p1.2 < 10000000 ∧ ¬ (p0.1.1 = 0 ∧ p0.1.2.1 = 0 ∧ p0.1.2.2 = 0)) (fun p0 p1 => [.agg [eRat (lftQ p0.1.1 p0.1.2.1 p0.1.2.2 p0.2 p1.1 p1.2).1, eRat (lftQ p0.1.1 p0.1.2.1 p0.1.2.2 p0.2 p1.1 p1.2).2.1, eRat (lftQ p0.1.1 p0.1.2.1 p0.1.2.2 p0.2 p1.1 p1.2).2.2]])
@[simp] theorem plLiftC_at (a b c d : Rat) (x y : Rat) : plLiftC [.agg [.agg [eRat a, eRat b, eRat c], eRat d], .agg [eRat x, eRat y]] = (qsz a + qsz b + qsz c + qsz d + qsz x + qsz y < 10000000 ∧ ¬ (a = 0 ∧ b = 0 ∧ c = 0), [.agg [eRat (lftQ a b c d x y).1, eRat (lftQ a b c d x y).2.1, eRat (lftQ a b c d x y).2.2]]) := ct2_at ((a, b, c), d) (x, y)
noncomputable def plLiftTb : List (FuncId × Ct) := [(67, .data plOffC), (68, .data riC), (51, .data dot3C), (52, .data rsubC), (69, .data rdvC)]
theorem plLiftTb_ok {N : NR} : TbOK N Tryz.prog (tbl plLiftTb) := tbl_cons (c := .data plOffC) plOff_spec plOff_ok (tbl_cons (c := .data riC) ri_spec ri_ok (tbl_cons (c := .data dot3C) dot3_spec dot3_ok (tbl_cons (c := .data rsubC) rsub_spec rsub_ok (tbl_cons (c := .data rdvC) rdiv_spec rdiv_ok tbl_nil))))

@[simp] theorem plLiftTb1 : tbl plLiftTb 67 = some (.data plOffC) := rfl
@[simp] theorem plLiftTb2 : tbl plLiftTb 68 = some (.data riC) := rfl
@[simp] theorem plLiftTb3 : tbl plLiftTb 51 = some (.data dot3C) := rfl
@[simp] theorem plLiftTb4 : tbl plLiftTb 52 = some (.data rsubC) := rfl
@[simp] theorem plLiftTb5 : tbl plLiftTb 69 = some (.data rdvC) := rfl
set_option maxRecDepth 100000 in
set_option maxHeartbeats 4000000 in
theorem plLift_spec {N : NR} : SpecD N Tryz.prog 40 plLiftC := by
  refine rd2 (mf := fun f => false) plLiftTb_ok (fn := Tryz.f40) (by kernel_rfl) rfl (by kernel_rfl) (by kernel_rfl) ?_
  rintro ⟨⟨a, b, c⟩, d⟩ ⟨x, y⟩ hp
  have hp : qsz a + qsz b + qsz c + qsz d + qsz x + qsz y < 10000000 ∧ ¬ (a = 0 ∧ b = 0 ∧ c = 0) := hp
  show awp _ _ _ _ (start _ ([.agg [.agg [eRat a, eRat b, eRat c], eRat d], .agg [eRat x, eRat y]].map .dat) []) (endK _ _ _ (([.agg [eRat (lftQ a b c d x y).1, eRat (lftQ a b c d x y).2.1, eRat (lftQ a b c d x y).2.2]]).map .dat) [])
  obtain ⟨h0, h1⟩ := hp
  have hz := qsz_zero
  by_cases h : c.num.sign = 0
  · have e1 := sgn_eq h
    by_cases h2 : b.num.sign = 0
    · have e2 := sgn_eq h2
      have e3 : a ≠ 0 := fun x => h1 ⟨x, e2, e1⟩
      have ed : dot3Q a b c 0 x y = b * x + c * y := by unfold dot3Q; grind
      have t1 := dot3Q_sz a b c 0 x y
      rw [ed] at t1
      have t2 := qsz_sub d (b * x + c * y)
      have s1 : qsz a + qsz b + qsz c + qsz (0 : Rat) + qsz x + qsz y < LM := by rw [LM_val]; omega
      have s2 : qsz d + qsz (b * x + c * y) < MX := by rw [MX_val]; omega
      have s3 : qsz (d - (b * x + c * y)) + qsz a < MX := by rw [MX_val]; omega
      simp [-D.isLit, Tryz.f40, offI, lftQ, h, h2, e3, zero_rat, ed, s1, s2, s3]
    · have e3 := sgn_ne h2
      have ed : dot3Q a b c x 0 y = a * x + c * y := by unfold dot3Q; grind
      have t1 := dot3Q_sz a b c x 0 y
      rw [ed] at t1
      have t2 := qsz_sub d (a * x + c * y)
      have s1 : qsz a + qsz b + qsz c + qsz x + qsz (0 : Rat) + qsz y < LM := by rw [LM_val]; omega
      have s2 : qsz d + qsz (a * x + c * y) < MX := by rw [MX_val]; omega
      have s3 : qsz (d - (a * x + c * y)) + qsz b < MX := by rw [MX_val]; omega
      simp [-D.isLit, Tryz.f40, offI, lftQ, h, h2, e3, zero_rat, ed, s1, s2, s3]
  · have e3 := sgn_ne h
    have ed : dot3Q a b c x y 0 = a * x + b * y := by unfold dot3Q; grind
    have t1 := dot3Q_sz a b c x y 0
    rw [ed] at t1
    have t2 := qsz_sub d (a * x + b * y)
    have s1 : qsz a + qsz b + qsz c + qsz x + qsz y + qsz (0 : Rat) < LM := by rw [LM_val]; omega
    have s2 : qsz d + qsz (a * x + b * y) < MX := by rw [MX_val]; omega
    have s3 : qsz (d - (a * x + b * y)) + qsz c < MX := by rw [MX_val]; omega
    simp [-D.isLit, Tryz.f40, offI, lftQ, h, e3, zero_rat, ed, s1, s2, s3]
theorem plLift_ok : callable Tryz.prog 40 = true := by kernel_rfl
end Go.Proofs.YtmnplonkijkblaaGreat.Ae

/-! The laws CmpV and Turn: both sides.  No condition. -/
namespace Go.Proofs.YtmnplonkijkblaaGreat.Ae
open Go Go.RowKit Go.Proofs.YtmnplonkijkblaaGreat.Dig

/-! i.CmpV -/
noncomputable def iCmpVC := ct2 EV EV (fun p0 p1 => ((I64 p0.1.1 ∧ I64 p0.1.2) ∧ I64 p0.2.1 ∧ I64 p0.2.2) ∧ ((I64 p1.1.1 ∧ I64 p1.1.2) ∧ I64 p1.2.1 ∧ I64 p1.2.2)) (fun p0 p1 => [.lit (.int .i64 (if (qOk p0.1.1 p0.1.2 ∧ qOk p0.2.1 p0.2.2) ∧ (qOk p1.1.1 p1.1.2 ∧ qOk p1.2.1 p1.2.2) then pcmp (Rat.divInt p0.1.1 p0.1.2) (Rat.divInt p0.2.1 p0.2.2) (Rat.divInt p1.1.1 p1.1.2) (Rat.divInt p1.2.1 p1.2.2) else 2))])
@[simp] theorem iCmpVC_at (a b c d : Int) (e f g h : Int) : iCmpVC [.agg [eQ a b, eQ c d], .agg [eQ e f, eQ g h]] = (((I64 a ∧ I64 b) ∧ I64 c ∧ I64 d) ∧ ((I64 e ∧ I64 f) ∧ I64 g ∧ I64 h), [.lit (.int .i64 (if (qOk a b ∧ qOk c d) ∧ (qOk e f ∧ qOk g h) then pcmp (Rat.divInt a b) (Rat.divInt c d) (Rat.divInt e f) (Rat.divInt g h) else 2))]) := ct2_at ((a, b), c, d) ((e, f), g, h)
noncomputable def iCmpVTb : List (FuncId × Ct) := [(39, .data iVOkC), (41, .data pvC)]
theorem iCmpVTb_ok {N : NR} : TbOK N Tryz.prog (tbl iCmpVTb) := tbl_cons (c := .data iVOkC) iVOk_spec iVOk_ok (tbl_cons (c := .data pvC) pv_spec pv_ok tbl_nil)

@[simp] theorem iCmpVTb1 : tbl iCmpVTb 39 = some (.data iVOkC) := rfl
@[simp] theorem iCmpVTb2 : tbl iCmpVTb 41 = some (.data pvC) := rfl
/-! i.Turn -/
noncomputable def iTurnC := ct3 EV EV EV (fun p0 p1 p2 => ((I64 p0.1.1 ∧ I64 p0.1.2) ∧ I64 p0.2.1 ∧ I64 p0.2.2) ∧ ((I64 p1.1.1 ∧ I64 p1.1.2) ∧ I64 p1.2.1 ∧ I64 p1.2.2) ∧ ((I64 p2.1.1 ∧ I64 p2.1.2) ∧ I64 p2.2.1 ∧ I64 p2.2.2)) (fun p0 p1 p2 => [.lit (.int .i64 (if (qOk p0.1.1 p0.1.2 ∧ qOk p0.2.1 p0.2.2) ∧ (qOk p1.1.1 p1.1.2 ∧ qOk p1.2.1 p1.2.2) ∧ (qOk p2.1.1 p2.1.2 ∧ qOk p2.2.1 p2.2.2) then (turnQ (Rat.divInt p0.1.1 p0.1.2) (Rat.divInt p0.2.1 p0.2.2) (Rat.divInt p1.1.1 p1.1.2) (Rat.divInt p1.2.1 p1.2.2) (Rat.divInt p2.1.1 p2.1.2) (Rat.divInt p2.2.1 p2.2.2)).num.sign else 2))])
@[simp] theorem iTurnC_at (a b c d : Int) (e f g h : Int) (i j k l : Int) : iTurnC [.agg [eQ a b, eQ c d], .agg [eQ e f, eQ g h], .agg [eQ i j, eQ k l]] = (((I64 a ∧ I64 b) ∧ I64 c ∧ I64 d) ∧ ((I64 e ∧ I64 f) ∧ I64 g ∧ I64 h) ∧ ((I64 i ∧ I64 j) ∧ I64 k ∧ I64 l), [.lit (.int .i64 (if (qOk a b ∧ qOk c d) ∧ (qOk e f ∧ qOk g h) ∧ (qOk i j ∧ qOk k l) then (turnQ (Rat.divInt a b) (Rat.divInt c d) (Rat.divInt e f) (Rat.divInt g h) (Rat.divInt i j) (Rat.divInt k l)).num.sign else 2))]) := ct3_at ((a, b), c, d) ((e, f), g, h) ((i, j), k, l)
noncomputable def iTurnTb : List (FuncId × Ct) := [(39, .data iVOkC), (41, .data pvC)]
theorem iTurnTb_ok {N : NR} : TbOK N Tryz.prog (tbl iTurnTb) := tbl_cons (c := .data iVOkC) iVOk_spec iVOk_ok (tbl_cons (c := .data pvC) pv_spec pv_ok tbl_nil)

@[simp] theorem iTurnTb1 : tbl iTurnTb 39 = some (.data iVOkC) := rfl
@[simp] theorem iTurnTb2 : tbl iTurnTb 41 = some (.data pvC) := rfl
/-! s.VOk -/
noncomputable def sVOkC := ct1 EV (fun p0 => ((I64 p0.1.1 ∧ I64 p0.1.2) ∧ I64 p0.2.1 ∧ I64 p0.2.2)) (fun p0 => [.lit (.bool (decide (qOk p0.1.1 p0.1.2) && decide (qOk p0.2.1 p0.2.2)))])
@[simp] theorem sVOkC_at (a b c d : Int) : sVOkC [.agg [eQ a b, eQ c d]] = (((I64 a ∧ I64 b) ∧ I64 c ∧ I64 d), [.lit (.bool (decide (qOk a b) && decide (qOk c d)))]) := ct1_at ((a, b), c, d)
noncomputable def sVOkTb : List (FuncId × Ct) := [(43, .data qokC)]
theorem sVOkTb_ok : TbOK NF Tryz.prog (tbl sVOkTb) := tbl_cons (c := .data qokC) sQOk_spec sQOk_ok tbl_nil

@[simp] theorem sVOkTb1 : tbl sVOkTb 43 = some (.data qokC) := rfl
theorem sVOk_spec : SpecD NF Tryz.prog 35 sVOkC := by
  refine rd1 (mf := fun f => false) sVOkTb_ok (fn := Tryz.f35) (by kernel_rfl) rfl (by kernel_rfl) (by kernel_rfl) ?_
  rintro ⟨⟨a, b⟩, c, d⟩ hp
  have hp : ((I64 a ∧ I64 b) ∧ I64 c ∧ I64 d) := hp
  show awp _ _ _ _ (start _ ([.agg [eQ a b, eQ c d]].map .dat) []) (endK _ _ _ (([.lit (.bool (decide (qOk a b) && decide (qOk c d)))]).map .dat) [])
  obtain ⟨⟨i1, i2⟩, i3, i4⟩ := hp
  by_cases h : qOk a b <;> simp [-D.isLit, Tryz.f35, i1, i2, i3, i4, h]
theorem sVOk_ok : callable Tryz.prog 35 = true := by kernel_rfl

/-! s.l3p -/
noncomputable def l3pC := ct1 EV (fun p0 => (I64 p0.1.1 ∧ I64 p0.1.2 ∧ 0 < p0.1.2) ∧ I64 p0.2.1 ∧ I64 p0.2.2 ∧ 0 < p0.2.2) (fun p0 => [.agg [nD (Rat.divInt p0.1.1 p0.1.2), nD (Rat.divInt p0.2.1 p0.2.2)]])
@[simp] theorem l3pC_at (a b c d : Int) : l3pC [.agg [eQ a b, eQ c d]] = ((I64 a ∧ I64 b ∧ 0 < b) ∧ I64 c ∧ I64 d ∧ 0 < d, [.agg [nD (Rat.divInt a b), nD (Rat.divInt c d)]]) := ct1_at ((a, b), c, d)
noncomputable def l3pTb : List (FuncId × Ct) := [(48, .data nqC)]
theorem l3pTb_ok : TbOK NF Tryz.prog (tbl l3pTb) := tbl_cons (c := .data nqC) nq_spec l1q_ok tbl_nil

@[simp] theorem l3pTb1 : tbl l3pTb 48 = some (.data nqC) := rfl
theorem l3p_spec : SpecD NF Tryz.prog 38 l3pC := by
  refine rd1 (mf := fun f => false) l3pTb_ok (fn := Tryz.f38) (by kernel_rfl) rfl (by kernel_rfl) (by kernel_rfl) ?_
  rintro ⟨⟨a, b⟩, c, d⟩ hp
  have hp : (I64 a ∧ I64 b ∧ 0 < b) ∧ I64 c ∧ I64 d ∧ 0 < d := hp
  show awp _ _ _ _ (start _ ([.agg [eQ a b, eQ c d]].map .dat) []) (endK _ _ _ (([.agg [nD (Rat.divInt a b), nD (Rat.divInt c d)]]).map .dat) [])
  simp [-D.isLit, Tryz.f38, hp]
theorem l3p_ok : callable Tryz.prog 38 = true := by kernel_rfl

/-! s.l3Cmp -/
noncomputable def l3CmpC := ct2 EPn EPn (fun p0 p1 => qsz p0.1 + qsz p0.2 + qsz p1.1 + qsz p1.2 < LM) (fun p0 p1 => [.lit (.int .i64 (pcmp p0.1 p0.2 p1.1 p1.2))])
@[simp] theorem l3CmpC_at (a b : Rat) (c d : Rat) : l3CmpC [.agg [nD a, nD b], .agg [nD c, nD d]] = (qsz a + qsz b + qsz c + qsz d < LM, [.lit (.int .i64 (pcmp a b c d))]) := ct2_at (a, b) (c, d)
/-! s.l3Sub -/
noncomputable def l3SubC := ct2 EPn EPn (fun p0 p1 => qsz p0.1 + qsz p0.2 + qsz p1.1 + qsz p1.2 < LM) (fun p0 p1 => [.agg [nD (p0.1 - p1.1), nD (p0.2 - p1.2)]])
@[simp] theorem l3SubC_at (a b : Rat) (c d : Rat) : l3SubC [.agg [nD a, nD b], .agg [nD c, nD d]] = (qsz a + qsz b + qsz c + qsz d < LM, [.agg [nD (a - c), nD (b - d)]]) := ct2_at (a, b) (c, d)
noncomputable def l3SubTb : List (FuncId × Ct) := [(46, .data nSubC)]
theorem l3SubTb_ok : TbOK NF Tryz.prog (tbl l3SubTb) := tbl_cons (c := .data nSubC) nSub_spec l1rSub_ok tbl_nil

@[simp] theorem l3SubTb1 : tbl l3SubTb 46 = some (.data nSubC) := rfl
/-! s.l3Cross -/
noncomputable def l3CrossC := ct2 EPn EPn (fun p0 p1 => qsz p0.1 + qsz p0.2 + qsz p1.1 + qsz p1.2 < LM) (fun p0 p1 => [nD (crossQ p0.1 p0.2 p1.1 p1.2)])
@[simp] theorem l3CrossC_at (a b : Rat) (c d : Rat) : l3CrossC [.agg [nD a, nD b], .agg [nD c, nD d]] = (qsz a + qsz b + qsz c + qsz d < LM, [nD (crossQ a b c d)]) := ct2_at (a, b) (c, d)
noncomputable def l3CrossTb : List (FuncId × Ct) := [(46, .data nSubC), (65, .data nMulC)]
theorem l3CrossTb_ok : TbOK NF Tryz.prog (tbl l3CrossTb) := tbl_cons (c := .data nSubC) nSub_spec l1rSub_ok (tbl_cons (c := .data nMulC) nMul_spec l1rMul_ok tbl_nil)

@[simp] theorem l3CrossTb1 : tbl l3CrossTb 46 = some (.data nSubC) := rfl
@[simp] theorem l3CrossTb2 : tbl l3CrossTb 65 = some (.data nMulC) := rfl
/-! s.l3Turn -/
noncomputable def l3TurnC := ct3 EPn EPn EPn (fun p0 p1 p2 => qsz p0.1 + qsz p0.2 + qsz p1.1 + qsz p1.2 + qsz p2.1 + qsz p2.2 < 100000000) (fun p0 p1 p2 => [.lit (.int .i64 (turnQ p0.1 p0.2 p1.1 p1.2 p2.1 p2.2).num.sign)])
@[simp] theorem l3TurnC_at (a b : Rat) (c d : Rat) (e f : Rat) : l3TurnC [.agg [nD a, nD b], .agg [nD c, nD d], .agg [nD e, nD f]] = (qsz a + qsz b + qsz c + qsz d + qsz e + qsz f < 100000000, [.lit (.int .i64 (turnQ a b c d e f).num.sign)]) := ct3_at (a, b) (c, d) (e, f)
noncomputable def l3TurnTb : List (FuncId × Ct) := [(19, .data nSignC)]
theorem l3TurnTb_ok : TbOK NF Tryz.prog (tbl l3TurnTb) := tbl_cons (c := .data nSignC) nSign_spec l1rSign_ok tbl_nil

@[simp] theorem l3TurnTb3 : tbl l3TurnTb 19 = some (.data nSignC) := rfl
/-! s.CmpV -/
noncomputable def sCmpVC := ct2 EV EV (fun p0 p1 => ((I64 p0.1.1 ∧ I64 p0.1.2) ∧ I64 p0.2.1 ∧ I64 p0.2.2) ∧ ((I64 p1.1.1 ∧ I64 p1.1.2) ∧ I64 p1.2.1 ∧ I64 p1.2.2)) (fun p0 p1 => [.lit (.int .i64 (if (qOk p0.1.1 p0.1.2 ∧ qOk p0.2.1 p0.2.2) ∧ (qOk p1.1.1 p1.1.2 ∧ qOk p1.2.1 p1.2.2) then pcmp (Rat.divInt p0.1.1 p0.1.2) (Rat.divInt p0.2.1 p0.2.2) (Rat.divInt p1.1.1 p1.1.2) (Rat.divInt p1.2.1 p1.2.2) else 2))])
@[simp] theorem sCmpVC_at (a b c d : Int) (e f g h : Int) : sCmpVC [.agg [eQ a b, eQ c d], .agg [eQ e f, eQ g h]] = (((I64 a ∧ I64 b) ∧ I64 c ∧ I64 d) ∧ ((I64 e ∧ I64 f) ∧ I64 g ∧ I64 h), [.lit (.int .i64 (if (qOk a b ∧ qOk c d) ∧ (qOk e f ∧ qOk g h) then pcmp (Rat.divInt a b) (Rat.divInt c d) (Rat.divInt e f) (Rat.divInt g h) else 2))]) := ct2_at ((a, b), c, d) ((e, f), g, h)
noncomputable def sCmpVTb : List (FuncId × Ct) := [(35, .data sVOkC), (38, .data l3pC)]
theorem sCmpVTb_ok : TbOK NF Tryz.prog (tbl sCmpVTb) := tbl_cons (c := .data sVOkC) sVOk_spec sVOk_ok (tbl_cons (c := .data l3pC) l3p_spec l3p_ok tbl_nil)

@[simp] theorem sCmpVTb1 : tbl sCmpVTb 35 = some (.data sVOkC) := rfl
@[simp] theorem sCmpVTb2 : tbl sCmpVTb 38 = some (.data l3pC) := rfl
/-! s.Turn -/
noncomputable def sTurnC := ct3 EV EV EV (fun p0 p1 p2 => ((I64 p0.1.1 ∧ I64 p0.1.2) ∧ I64 p0.2.1 ∧ I64 p0.2.2) ∧ ((I64 p1.1.1 ∧ I64 p1.1.2) ∧ I64 p1.2.1 ∧ I64 p1.2.2) ∧ ((I64 p2.1.1 ∧ I64 p2.1.2) ∧ I64 p2.2.1 ∧ I64 p2.2.2)) (fun p0 p1 p2 => [.lit (.int .i64 (if (qOk p0.1.1 p0.1.2 ∧ qOk p0.2.1 p0.2.2) ∧ (qOk p1.1.1 p1.1.2 ∧ qOk p1.2.1 p1.2.2) ∧ (qOk p2.1.1 p2.1.2 ∧ qOk p2.2.1 p2.2.2) then (turnQ (Rat.divInt p0.1.1 p0.1.2) (Rat.divInt p0.2.1 p0.2.2) (Rat.divInt p1.1.1 p1.1.2) (Rat.divInt p1.2.1 p1.2.2) (Rat.divInt p2.1.1 p2.1.2) (Rat.divInt p2.2.1 p2.2.2)).num.sign else 2))])
@[simp] theorem sTurnC_at (a b c d : Int) (e f g h : Int) (i j k l : Int) : sTurnC [.agg [eQ a b, eQ c d], .agg [eQ e f, eQ g h], .agg [eQ i j, eQ k l]] = (((I64 a ∧ I64 b) ∧ I64 c ∧ I64 d) ∧ ((I64 e ∧ I64 f) ∧ I64 g ∧ I64 h) ∧ ((I64 i ∧ I64 j) ∧ I64 k ∧ I64 l), [.lit (.int .i64 (if (qOk a b ∧ qOk c d) ∧ (qOk e f ∧ qOk g h) ∧ (qOk i j ∧ qOk k l) then (turnQ (Rat.divInt a b) (Rat.divInt c d) (Rat.divInt e f) (Rat.divInt g h) (Rat.divInt i j) (Rat.divInt k l)).num.sign else 2))]) := ct3_at ((a, b), c, d) ((e, f), g, h) ((i, j), k, l)
noncomputable def sTurnTb : List (FuncId × Ct) := [(35, .data sVOkC), (38, .data l3pC)]
theorem sTurnTb_ok : TbOK NF Tryz.prog (tbl sTurnTb) := tbl_cons (c := .data sVOkC) sVOk_spec sVOk_ok (tbl_cons (c := .data l3pC) l3p_spec l3p_ok tbl_nil)

@[simp] theorem sTurnTb1 : tbl sTurnTb 35 = some (.data sVOkC) := rfl
@[simp] theorem sTurnTb2 : tbl sTurnTb 38 = some (.data l3pC) := rfl
/-! l.toV -/
noncomputable def toVC := ct1 EV (fun p0 => True) (fun p0 => [.agg [eQ p0.1.1 p0.1.2, eQ p0.2.1 p0.2.2]])
@[simp] theorem toVC_at (a b c d : Int) : toVC [.agg [eQ a b, eQ c d]] = (True, [.agg [eQ a b, eQ c d]]) := ct1_at ((a, b), c, d)
noncomputable def toVTb : List (FuncId × Ct) := [(23, .data toQC)]
theorem toVTb_ok {N : NR} : TbOK N Tryz.prog (tbl toVTb) := tbl_cons (c := .data toQC) toQ_spec toQ_ok tbl_nil

@[simp] theorem toVTb1 : tbl toVTb 23 = some (.data toQC) := rfl
theorem toV_spec {N : NR} : SpecD N Tryz.prog 14 toVC := by
  refine rd1 (mf := fun f => false) toVTb_ok (fn := Tryz.f14) (by kernel_rfl) rfl (by kernel_rfl) (by kernel_rfl) ?_
  rintro ⟨⟨a, b⟩, c, d⟩ hp
  have hp : True := hp
  show awp _ _ _ _ (start _ ([.agg [eQ a b, eQ c d]].map .dat) []) (endK _ _ _ (([.agg [eQ a b, eQ c d]]).map .dat) [])
  simp [-D.isLit, Tryz.f14]
theorem toV_ok : callable Tryz.prog 14 = true := by kernel_rfl

/-! l.FnExactCmpV -/
noncomputable def lwCmpVC := ct2 EV EV (fun p0 p1 => ((I64 p0.1.1 ∧ I64 p0.1.2) ∧ I64 p0.2.1 ∧ I64 p0.2.2) ∧ ((I64 p1.1.1 ∧ I64 p1.1.2) ∧ I64 p1.2.1 ∧ I64 p1.2.2)) (fun p0 p1 => [.lit (.bool true)])
@[simp] theorem lwCmpVC_at (a b c d : Int) (e f g h : Int) : lwCmpVC [.agg [eQ a b, eQ c d], .agg [eQ e f, eQ g h]] = (((I64 a ∧ I64 b) ∧ I64 c ∧ I64 d) ∧ ((I64 e ∧ I64 f) ∧ I64 g ∧ I64 h), [.lit (.bool true)]) := ct2_at ((a, b), c, d) ((e, f), g, h)
noncomputable def lwCmpVTb : List (FuncId × Ct) := [(14, .data toVC)]
theorem lwCmpVTb_ok : TbOK NF Tryz.prog (tbl lwCmpVTb) := tbl_cons (c := .data toVC) toV_spec toV_ok tbl_nil

@[simp] theorem lwCmpVTb1 : tbl lwCmpVTb 14 = some (.data toVC) := rfl
/-! l.FnExactTurn -/
noncomputable def lwTurnC := ct3 EV EV EV (fun p0 p1 p2 => ((I64 p0.1.1 ∧ I64 p0.1.2) ∧ I64 p0.2.1 ∧ I64 p0.2.2) ∧ ((I64 p1.1.1 ∧ I64 p1.1.2) ∧ I64 p1.2.1 ∧ I64 p1.2.2) ∧ ((I64 p2.1.1 ∧ I64 p2.1.2) ∧ I64 p2.2.1 ∧ I64 p2.2.2)) (fun p0 p1 p2 => [.lit (.bool true)])
@[simp] theorem lwTurnC_at (a b c d : Int) (e f g h : Int) (i j k l : Int) : lwTurnC [.agg [eQ a b, eQ c d], .agg [eQ e f, eQ g h], .agg [eQ i j, eQ k l]] = (((I64 a ∧ I64 b) ∧ I64 c ∧ I64 d) ∧ ((I64 e ∧ I64 f) ∧ I64 g ∧ I64 h) ∧ ((I64 i ∧ I64 j) ∧ I64 k ∧ I64 l), [.lit (.bool true)]) := ct3_at ((a, b), c, d) ((e, f), g, h) ((i, j), k, l)
noncomputable def lwTurnTb : List (FuncId × Ct) := [(14, .data toVC)]
theorem lwTurnTb_ok : TbOK NF Tryz.prog (tbl lwTurnTb) := tbl_cons (c := .data toVC) toV_spec toV_ok tbl_nil

@[simp] theorem lwTurnTb1 : tbl lwTurnTb 14 = some (.data toVC) := rfl
end Go.Proofs.YtmnplonkijkblaaGreat.Ae

/-! OnSeg, Foot, Near, Dist2: both sides and the laws. No condition. -/
namespace Go.Proofs.YtmnplonkijkblaaGreat.Ae
open Go Go.RowKit Go.Proofs.YtmnplonkijkblaaGreat.Dig
theorem seg_ne {a b c d e f g h : Int} (k : segOk a b c d e f g h) : ¬ (Rat.divInt e f - Rat.divInt a b = 0 ∧ Rat.divInt g h - Rat.divInt c d = 0) := by
  rintro ⟨h1, h2⟩
  obtain ⟨⟨⟨k1, k2⟩, k3, k4⟩, kn⟩ := k
  have e1 : Rat.divInt e f = Rat.divInt a b := by grind
  have e2 : Rat.divInt g h = Rat.divInt c d := by grind
  have x1 := QI_num (qOk_QI k1)
  have x2 := QI_num (qOk_QI k2)
  have x3 := QI_num (qOk_QI k3)
  have x4 := QI_num (qOk_QI k4)
  rw [e1] at x3
  rw [e2] at x4
  exact kn ⟨by rw [← x1.1, ← x3.1], by rw [← x1.2, ← x3.2], by rw [← x2.1, ← x4.1], by rw [← x2.2, ← x4.2]⟩
/-- What holds of a good place and a good piece. -/
structure GV (a b c d : Int) : Prop where
  i : I64 a ∧ I64 b
  j : I64 c ∧ I64 d
  ok : qOk a b ∧ qOk c d
theorem GV.w1 {a b c d : Int} (h : GV a b c d) : QI a b := qOk_QI h.ok.1
theorem GV.w2 {a b c d : Int} (h : GV a b c d) : QI c d := qOk_QI h.ok.2
theorem GV.y1 {a b c d : Int} (h : GV a b c d) : I64 a ∧ I64 b ∧ 0 < b := qOk_64 h.ok.1
theorem GV.y2 {a b c d : Int} (h : GV a b c d) : I64 c ∧ I64 d ∧ 0 < d := qOk_64 h.ok.2
theorem GV.sz {a b c d : Int} (h : GV a b c d) : qsz (Rat.divInt a b) + qsz (Rat.divInt c d) ≤ 4 := by
  have := QI_qsz h.w1
  have := QI_qsz h.w2
  omega
def footP (a b c d p q : Rat) : Rat × Rat := (a + (c - a) * footQ a b c d p q, b + (d - b) * footQ a b c d p q)
def noV : (Int × Int) × (Int × Int) × Bool := ((0, 0), (0, 0), false)

/-! i.OnSeg -/
noncomputable def iOnSegC := ct2 EV ESeg (fun p0 p1 => ((I64 p0.1.1 ∧ I64 p0.1.2) ∧ I64 p0.2.1 ∧ I64 p0.2.2) ∧ (((I64 p1.1.1.1 ∧ I64 p1.1.1.2) ∧ I64 p1.1.2.1 ∧ I64 p1.1.2.2) ∧ ((I64 p1.2.1.1 ∧ I64 p1.2.1.2) ∧ I64 p1.2.2.1 ∧ I64 p1.2.2.2))) (fun p0 p1 => [.lit (.bool (if (qOk p0.1.1 p0.1.2 ∧ qOk p0.2.1 p0.2.2) ∧ segOk p1.1.1.1 p1.1.1.2 p1.1.2.1 p1.1.2.2 p1.2.1.1 p1.2.1.2 p1.2.2.1 p1.2.2.2 then hasB (Rat.divInt p1.1.1.1 p1.1.1.2) (Rat.divInt p1.1.2.1 p1.1.2.2) (Rat.divInt p1.2.1.1 p1.2.1.2) (Rat.divInt p1.2.2.1 p1.2.2.2) (Rat.divInt p0.1.1 p0.1.2) (Rat.divInt p0.2.1 p0.2.2) else false))])
@[simp] theorem iOnSegC_at (a b c d : Int) (e f g h i j k l : Int) : iOnSegC [.agg [eQ a b, eQ c d], .agg [.agg [eQ e f, eQ g h], .agg [eQ i j, eQ k l]]] = (((I64 a ∧ I64 b) ∧ I64 c ∧ I64 d) ∧ (((I64 e ∧ I64 f) ∧ I64 g ∧ I64 h) ∧ ((I64 i ∧ I64 j) ∧ I64 k ∧ I64 l)), [.lit (.bool (if (qOk a b ∧ qOk c d) ∧ segOk e f g h i j k l then hasB (Rat.divInt e f) (Rat.divInt g h) (Rat.divInt i j) (Rat.divInt k l) (Rat.divInt a b) (Rat.divInt c d) else false))]) := ct2_at ((a, b), c, d) (((e, f), g, h), (i, j), k, l)
noncomputable def iOnSegTb : List (FuncId × Ct) := [(39, .data iVOkC), (41, .data pvC)]
theorem iOnSegTb_ok {N : NR} : TbOK N Tryz.prog (tbl iOnSegTb) := tbl_cons (c := .data iVOkC) iVOk_spec iVOk_ok (tbl_cons (c := .data pvC) pv_spec pv_ok tbl_nil)

@[simp] theorem iOnSegTb1 : tbl iOnSegTb 39 = some (.data iVOkC) := rfl
@[simp] theorem iOnSegTb4 : tbl iOnSegTb 41 = some (.data pvC) := rfl
/-! i.Foot -/
noncomputable def iFootC := ct2 EV ESeg (fun p0 p1 => ((I64 p0.1.1 ∧ I64 p0.1.2) ∧ I64 p0.2.1 ∧ I64 p0.2.2) ∧ (((I64 p1.1.1.1 ∧ I64 p1.1.1.2) ∧ I64 p1.1.2.1 ∧ I64 p1.1.2.2) ∧ ((I64 p1.2.1.1 ∧ I64 p1.2.1.2) ∧ I64 p1.2.2.1 ∧ I64 p1.2.2.2))) (fun p0 p1 => vD (if (qOk p0.1.1 p0.1.2 ∧ qOk p0.2.1 p0.2.2) ∧ segOk p1.1.1.1 p1.1.1.2 p1.1.2.1 p1.1.2.2 p1.2.1.1 p1.2.1.2 p1.2.2.1 p1.2.2.2 then oV (footP (Rat.divInt p1.1.1.1 p1.1.1.2) (Rat.divInt p1.1.2.1 p1.1.2.2) (Rat.divInt p1.2.1.1 p1.2.1.2) (Rat.divInt p1.2.2.1 p1.2.2.2) (Rat.divInt p0.1.1 p0.1.2) (Rat.divInt p0.2.1 p0.2.2)).1 (footP (Rat.divInt p1.1.1.1 p1.1.1.2) (Rat.divInt p1.1.2.1 p1.1.2.2) (Rat.divInt p1.2.1.1 p1.2.1.2) (Rat.divInt p1.2.2.1 p1.2.2.2) (Rat.divInt p0.1.1 p0.1.2) (Rat.divInt p0.2.1 p0.2.2)).2 else noV))
@[simp] theorem iFootC_at (a b c d : Int) (e f g h i j k l : Int) : iFootC [.agg [eQ a b, eQ c d], .agg [.agg [eQ e f, eQ g h], .agg [eQ i j, eQ k l]]] = (((I64 a ∧ I64 b) ∧ I64 c ∧ I64 d) ∧ (((I64 e ∧ I64 f) ∧ I64 g ∧ I64 h) ∧ ((I64 i ∧ I64 j) ∧ I64 k ∧ I64 l)), vD (if (qOk a b ∧ qOk c d) ∧ segOk e f g h i j k l then oV (footP (Rat.divInt e f) (Rat.divInt g h) (Rat.divInt i j) (Rat.divInt k l) (Rat.divInt a b) (Rat.divInt c d)).1 (footP (Rat.divInt e f) (Rat.divInt g h) (Rat.divInt i j) (Rat.divInt k l) (Rat.divInt a b) (Rat.divInt c d)).2 else noV)) := ct2_at ((a, b), c, d) (((e, f), g, h), (i, j), k, l)
noncomputable def iFootTb : List (FuncId × Ct) := [(39, .data iVOkC), (41, .data pvC)]
theorem iFootTb_ok {N : NR} : TbOK N Tryz.prog (tbl iFootTb) := tbl_cons (c := .data iVOkC) iVOk_spec iVOk_ok (tbl_cons (c := .data pvC) pv_spec pv_ok tbl_nil)

@[simp] theorem iFootTb1 : tbl iFootTb 39 = some (.data iVOkC) := rfl
@[simp] theorem iFootTb4 : tbl iFootTb 41 = some (.data pvC) := rfl
/-! i.Near -/
noncomputable def iNearC := ct2 EV ESeg (fun p0 p1 => ((I64 p0.1.1 ∧ I64 p0.1.2) ∧ I64 p0.2.1 ∧ I64 p0.2.2) ∧ (((I64 p1.1.1.1 ∧ I64 p1.1.1.2) ∧ I64 p1.1.2.1 ∧ I64 p1.1.2.2) ∧ ((I64 p1.2.1.1 ∧ I64 p1.2.1.2) ∧ I64 p1.2.2.1 ∧ I64 p1.2.2.2))) (fun p0 p1 => vD (if (qOk p0.1.1 p0.1.2 ∧ qOk p0.2.1 p0.2.2) ∧ segOk p1.1.1.1 p1.1.1.2 p1.1.2.1 p1.1.2.2 p1.2.1.1 p1.2.1.2 p1.2.2.1 p1.2.2.2 then oV (nearQ (Rat.divInt p1.1.1.1 p1.1.1.2) (Rat.divInt p1.1.2.1 p1.1.2.2) (Rat.divInt p1.2.1.1 p1.2.1.2) (Rat.divInt p1.2.2.1 p1.2.2.2) (Rat.divInt p0.1.1 p0.1.2) (Rat.divInt p0.2.1 p0.2.2)).1 (nearQ (Rat.divInt p1.1.1.1 p1.1.1.2) (Rat.divInt p1.1.2.1 p1.1.2.2) (Rat.divInt p1.2.1.1 p1.2.1.2) (Rat.divInt p1.2.2.1 p1.2.2.2) (Rat.divInt p0.1.1 p0.1.2) (Rat.divInt p0.2.1 p0.2.2)).2 else noV))
@[simp] theorem iNearC_at (a b c d : Int) (e f g h i j k l : Int) : iNearC [.agg [eQ a b, eQ c d], .agg [.agg [eQ e f, eQ g h], .agg [eQ i j, eQ k l]]] = (((I64 a ∧ I64 b) ∧ I64 c ∧ I64 d) ∧ (((I64 e ∧ I64 f) ∧ I64 g ∧ I64 h) ∧ ((I64 i ∧ I64 j) ∧ I64 k ∧ I64 l)), vD (if (qOk a b ∧ qOk c d) ∧ segOk e f g h i j k l then oV (nearQ (Rat.divInt e f) (Rat.divInt g h) (Rat.divInt i j) (Rat.divInt k l) (Rat.divInt a b) (Rat.divInt c d)).1 (nearQ (Rat.divInt e f) (Rat.divInt g h) (Rat.divInt i j) (Rat.divInt k l) (Rat.divInt a b) (Rat.divInt c d)).2 else noV)) := ct2_at ((a, b), c, d) (((e, f), g, h), (i, j), k, l)
noncomputable def iNearTb : List (FuncId × Ct) := [(39, .data iVOkC), (41, .data pvC)]
theorem iNearTb_ok {N : NR} : TbOK N Tryz.prog (tbl iNearTb) := tbl_cons (c := .data iVOkC) iVOk_spec iVOk_ok (tbl_cons (c := .data pvC) pv_spec pv_ok tbl_nil)

@[simp] theorem iNearTb1 : tbl iNearTb 39 = some (.data iVOkC) := rfl
@[simp] theorem iNearTb4 : tbl iNearTb 41 = some (.data pvC) := rfl
/-! i.Dist2 -/
noncomputable def iDist2C := ct2 EV ESeg (fun p0 p1 => ((I64 p0.1.1 ∧ I64 p0.1.2) ∧ I64 p0.2.1 ∧ I64 p0.2.2) ∧ (((I64 p1.1.1.1 ∧ I64 p1.1.1.2) ∧ I64 p1.1.2.1 ∧ I64 p1.1.2.2) ∧ ((I64 p1.2.1.1 ∧ I64 p1.2.1.2) ∧ I64 p1.2.2.1 ∧ I64 p1.2.2.2))) (fun p0 p1 => d3 (if (qOk p0.1.1 p0.1.2 ∧ qOk p0.2.1 p0.2.2) ∧ segOk p1.1.1.1 p1.1.1.2 p1.1.2.1 p1.1.2.2 p1.2.1.1 p1.2.1.2 p1.2.2.1 p1.2.2.2 then oq (dist2Q (Rat.divInt p0.1.1 p0.1.2) (Rat.divInt p0.2.1 p0.2.2) (nearQ (Rat.divInt p1.1.1.1 p1.1.1.2) (Rat.divInt p1.1.2.1 p1.1.2.2) (Rat.divInt p1.2.1.1 p1.2.1.2) (Rat.divInt p1.2.2.1 p1.2.2.2) (Rat.divInt p0.1.1 p0.1.2) (Rat.divInt p0.2.1 p0.2.2)).1 (nearQ (Rat.divInt p1.1.1.1 p1.1.1.2) (Rat.divInt p1.1.2.1 p1.1.2.2) (Rat.divInt p1.2.1.1 p1.2.1.2) (Rat.divInt p1.2.2.1 p1.2.2.2) (Rat.divInt p0.1.1 p0.1.2) (Rat.divInt p0.2.1 p0.2.2)).2) else no3))
@[simp] theorem iDist2C_at (a b c d : Int) (e f g h i j k l : Int) : iDist2C [.agg [eQ a b, eQ c d], .agg [.agg [eQ e f, eQ g h], .agg [eQ i j, eQ k l]]] = (((I64 a ∧ I64 b) ∧ I64 c ∧ I64 d) ∧ (((I64 e ∧ I64 f) ∧ I64 g ∧ I64 h) ∧ ((I64 i ∧ I64 j) ∧ I64 k ∧ I64 l)), d3 (if (qOk a b ∧ qOk c d) ∧ segOk e f g h i j k l then oq (dist2Q (Rat.divInt a b) (Rat.divInt c d) (nearQ (Rat.divInt e f) (Rat.divInt g h) (Rat.divInt i j) (Rat.divInt k l) (Rat.divInt a b) (Rat.divInt c d)).1 (nearQ (Rat.divInt e f) (Rat.divInt g h) (Rat.divInt i j) (Rat.divInt k l) (Rat.divInt a b) (Rat.divInt c d)).2) else no3)) := ct2_at ((a, b), c, d) (((e, f), g, h), (i, j), k, l)
noncomputable def iDist2Tb : List (FuncId × Ct) := [(39, .data iVOkC), (41, .data pvC), (62, .data rqqC)]
theorem iDist2Tb_ok {N : NR} : TbOK N Tryz.prog (tbl iDist2Tb) := tbl_cons (c := .data iVOkC) iVOk_spec iVOk_ok (tbl_cons (c := .data pvC) pv_spec pv_ok (tbl_cons (c := .data rqqC) rqq_spec rqq_ok tbl_nil))

@[simp] theorem iDist2Tb1 : tbl iDist2Tb 39 = some (.data iVOkC) := rfl
@[simp] theorem iDist2Tb4 : tbl iDist2Tb 41 = some (.data pvC) := rfl
@[simp] theorem iDist2Tb7 : tbl iDist2Tb 62 = some (.data rqqC) := rfl
end Go.Proofs.YtmnplonkijkblaaGreat.Ae

/-! The plain laws of pieces of the plane: on a piece, what two pieces have in common. No condition. -/
namespace Go.Proofs.YtmnplonkijkblaaGreat.Ae
open Go Go.RowKit Go.Proofs.YtmnplonkijkblaaGreat.Dig
theorem isg_pos (z : Int) : 0 < z.sign ↔ 0 < z := by
  rcases Int.lt_trichotomy z 0 with h | h | h
  · rw [Int.sign_eq_neg_one_of_neg h]; omega
  · subst h; simp
  · rw [Int.sign_eq_one_of_pos h]; omega
theorem isg_neg (z : Int) : z.sign < 0 ↔ z < 0 := by
  rcases Int.lt_trichotomy z 0 with h | h | h
  · rw [Int.sign_eq_neg_one_of_neg h]; omega
  · subst h; simp
  · rw [Int.sign_eq_one_of_pos h]; omega
theorem isg_zero (z : Int) : z.sign = 0 ↔ z = 0 := by
  rcases Int.lt_trichotomy z 0 with h | h | h
  · rw [Int.sign_eq_neg_one_of_neg h]; omega
  · subst h; simp
  · rw [Int.sign_eq_one_of_pos h]; omega
theorem qcmp_lt (a b : Rat) : qcmp a b < 0 ↔ a < b := by unfold qcmp; rw [isg_neg, Rat.lt_iff]; omega
theorem qcmp_gt (a b : Rat) : 0 < qcmp a b ↔ b < a := by unfold qcmp; rw [isg_pos, Rat.lt_iff]; omega
theorem qcmp_eq (a b : Rat) : qcmp a b = 0 ↔ a = b := by
  constructor
  · intro h
    have h1 := (fun x => by have := (qcmp_lt a b).mpr x; omega : ¬ a < b)
    have h2 := (fun x => by have := (qcmp_gt a b).mpr x; omega : ¬ b < a)
    grind
  · rintro rfl; unfold qcmp; simp
theorem qs_neg (a : Rat) : a.num.sign < 0 ↔ a < 0 := by rw [isg_neg]; have := Rat.num_nonneg (q := a); grind
theorem qs_pos (a : Rat) : 0 < a.num.sign ↔ 0 < a := by rw [isg_pos]; have := Rat.num_nonneg (q := a); have := Rat.num_eq_zero (q := a); grind
theorem qs_zero (a : Rat) : a.num.sign = 0 ↔ a = 0 := by rw [isg_zero]; exact Rat.num_eq_zero
theorem lohi (a b : Rat) : (loQ a b = a ∧ hiQ a b = b ∧ a ≤ b) ∨ (loQ a b = b ∧ hiQ a b = a ∧ b < a) := by
  unfold loQ hiQ
  by_cases h : 0 < qcmp a b
  · exact .inr ⟨if_pos h, if_pos h, (qcmp_gt _ _).mp h⟩
  · have h' : ¬ b < a := fun x => h ((qcmp_gt a b).mpr x)
    exact .inl ⟨if_neg h, if_neg h, by grind⟩
theorem lohi_same (a : Rat) : loQ a a = a ∧ hiQ a a = a := by unfold loQ hiQ; split <;> exact ⟨rfl, rfl⟩
/-- Between two numbers, as a product tells it. -/
theorem btw (a b p : Rat) : bapart a b p p = false ↔ (p - a) * (p - b) ≤ 0 := by
  unfold bapart
  rw [(lohi_same p).1, (lohi_same p).2, Bool.or_eq_false_iff, decide_eq_false_iff_not, decide_eq_false_iff_not, qcmp_lt, qcmp_lt]
  rcases lohi a b with ⟨e1, e2, h⟩ | ⟨e1, e2, h⟩ <;> rw [e1, e2]
  · constructor
    · rintro ⟨h1, h2⟩
      have : 0 ≤ (p - a) * (b - p) := Rat.mul_nonneg (by grind) (by grind)
      grind
    · intro h0
      constructor
      · intro h1
        have : 0 < (p - a) * (p - b) := Rat.mul_pos (by grind) (by grind)
        grind
      · intro h1
        have : 0 < (a - p) * (b - p) := Rat.mul_pos (by grind) (by grind)
        grind
  · constructor
    · rintro ⟨h1, h2⟩
      have : 0 ≤ (a - p) * (p - b) := Rat.mul_nonneg (by grind) (by grind)
      grind
    · intro h0
      constructor
      · intro h1
        have : 0 < (p - a) * (p - b) := Rat.mul_pos (by grind) (by grind)
        grind
      · intro h1
        have : 0 < (a - p) * (b - p) := Rat.mul_pos (by grind) (by grind)
        grind
theorem sq_zero {a : Rat} (h : a * a ≤ 0) : a = 0 := by
  have h1 := sq_nn a
  have h2 : a * a = 0 := by grind
  rcases Rat.mul_eq_zero.mp h2 with x | x <;> exact x
theorem sq_p {a : Rat} (h : a ≠ 0) : 0 < a * a := by
  have h1 := sq_nn a
  have : a * a ≠ 0 := fun e => h (sq_zero (by grind))
  grind
/-- On a straight piece: by its box, or by the angle at the place. -/
theorem on_has {a b c d p q : Rat} (hn : ¬ (c - a = 0 ∧ d - b = 0)) :
    hasB a b c d p q = (decide ((turnQ a b c d p q).num.sign = 0) && decide ((dotQ (a - p) (b - q) (c - p) (d - q)).num.sign ≤ 0)) := by
  by_cases ht : (turnQ a b c d p q).num.sign = 0
  · have t0 : turnQ a b c d p q = 0 := (qs_zero _).mp ht
    have hd : (dotQ (a - p) (b - q) (c - p) (d - q)).num.sign ≤ 0 ↔ dotQ (a - p) (b - q) (c - p) (d - q) ≤ 0 := by
      have := qs_pos (dotQ (a - p) (b - q) (c - p) (d - q))
      constructor
      · intro h
        have : ¬ 0 < dotQ (a - p) (b - q) (c - p) (d - q) := fun x => by have := (qs_pos _).mpr x; omega
        grind
      · intro h
        have : ¬ 0 < (dotQ (a - p) (b - q) (c - p) (d - q)).num.sign := fun x => by have := (qs_pos _).mp x; grind
        omega
    have key : (bapart a c p p = false ∧ bapart b d q q = false) ↔ dotQ (a - p) (b - q) (c - p) (d - q) ≤ 0 := by
      rw [btw, btw]
      unfold turnQ crossQ at t0
      unfold dotQ
      generalize hX : p - a = X at *
      generalize hY : q - b = Y at *
      generalize hU : c - a = U at *
      generalize hW : d - b = W at *
      have e1 : p - c = X - U := by grind
      have e2 : q - d = Y - W := by grind
      have e3 : a - p = -X := by grind
      have e4 : b - q = -Y := by grind
      have e5 : c - p = U - X := by grind
      have e6 : d - q = W - Y := by grind
      rw [e1, e2, e3, e4, e5, e6]
      constructor
      · rintro ⟨h1, h2⟩; grind
      · intro h
        have id1 : X * (X - U) * (W * W) = Y * (Y - W) * (U * U) := by grind
        have nnU := sq_nn U
        have nnW := sq_nn W
        constructor
        · refine Decidable.byContradiction fun h1 => ?_
          have h1 : 0 < X * (X - U) := by grind
          have h2 : Y * (Y - W) < 0 := by grind
          have p1 : 0 ≤ X * (X - U) * (W * W) := Rat.mul_nonneg (by grind) nnW
          have p2 : 0 ≤ -(Y * (Y - W)) * (U * U) := Rat.mul_nonneg (by grind) nnU
          have hU0 : U = 0 := Decidable.byContradiction fun hU => by
            have : 0 < -(Y * (Y - W)) * (U * U) := Rat.mul_pos (by grind) (sq_p hU)
            grind
          have hW0 : W = 0 := Decidable.byContradiction fun hW => by
            have : 0 < X * (X - U) * (W * W) := Rat.mul_pos h1 (sq_p hW)
            grind
          exact hn ⟨hU0, hW0⟩
        · refine Decidable.byContradiction fun h1 => ?_
          have h1 : 0 < Y * (Y - W) := by grind
          have h2 : X * (X - U) < 0 := by grind
          have p1 : 0 ≤ Y * (Y - W) * (U * U) := Rat.mul_nonneg (by grind) nnU
          have p2 : 0 ≤ -(X * (X - U)) * (W * W) := Rat.mul_nonneg (by grind) nnW
          have hW0 : W = 0 := Decidable.byContradiction fun hW => by
            have : 0 < -(X * (X - U)) * (W * W) := Rat.mul_pos (by grind) (sq_p hW)
            grind
          have hU0 : U = 0 := Decidable.byContradiction fun hU => by
            have : 0 < Y * (Y - W) * (U * U) := Rat.mul_pos h1 (sq_p hU)
            grind
          exact hn ⟨hU0, hW0⟩
    unfold hasB
    rw [decide_eq_true ht, Bool.and_true, Bool.true_and]
    by_cases hD : dotQ (a - p) (b - q) (c - p) (d - q) ≤ 0
    · obtain ⟨k1, k2⟩ := key.mpr hD
      rw [k1, k2, decide_eq_true (hd.mpr hD)]; rfl
    · have : ¬ (bapart a c p p = false ∧ bapart b d q q = false) := fun x => hD (key.mp x)
      rw [decide_eq_false (fun x => hD (hd.mp x))]
      cases h1 : bapart a c p p <;> cases h2 : bapart b d q q <;> simp_all
  · unfold hasB
    rw [decide_eq_false ht, Bool.and_false, Bool.false_and]
theorem ap_pt {a c e g x : Rat} (h1 : (x - a) * (x - c) ≤ 0) (h2 : (x - e) * (x - g) ≤ 0) : bapart a c e g = false := by
  have k1 := (btw a c x).mpr h1
  have k2 := (btw e g x).mpr h2
  unfold bapart at k1 k2 ⊢
  rw [(lohi_same x).1, (lohi_same x).2, Bool.or_eq_false_iff, decide_eq_false_iff_not, decide_eq_false_iff_not, qcmp_lt, qcmp_lt] at k1 k2
  rw [Bool.or_eq_false_iff, decide_eq_false_iff_not, decide_eq_false_iff_not, qcmp_lt, qcmp_lt]
  grind
theorem pcmp_le (a b c d : Rat) : pcmp a b c d ≤ 0 ↔ (a < c ∨ a = c ∧ b ≤ d) := by
  unfold pcmp
  by_cases h : qcmp a c = 0
  · rw [if_pos h]
    have e := (qcmp_eq a c).mp h
    have := qcmp_gt b d
    constructor
    · intro h1
      have : ¬ d < b := fun x => by have := this.mpr x; omega
      exact .inr ⟨e, by grind⟩
    · rintro (h1 | ⟨_, h1⟩)
      · grind
      · have : ¬ 0 < qcmp b d := fun x => by have := this.mp x; grind
        omega
  · rw [if_neg h]
    have hne : a ≠ c := fun e => h ((qcmp_eq a c).mpr e)
    have h2 := qcmp_lt a c
    constructor
    · intro h1; exact .inl (h2.mp (by omega))
    · rintro (h1 | ⟨h1, _⟩)
      · have := h2.mpr h1; omega
      · exact absurd h1 hne
theorem pcmp_swap (a b c d : Rat) : 0 < pcmp a b c d → pcmp c d a b ≤ 0 := by
  intro h
  have h1 : ¬ pcmp a b c d ≤ 0 := by omega
  rw [pcmp_le] at h1 ⊢
  grind
theorem pcmp_trans {a b c d e f : Rat} (h1 : pcmp a b c d ≤ 0) (h2 : pcmp c d e f ≤ 0) : pcmp a b e f ≤ 0 := by
  rw [pcmp_le] at *
  grind
theorem lexbox {a b c d p q : Rat} (h1 : pcmp a b p q ≤ 0) (h2 : pcmp p q c d ≤ 0) (hc : crossQ (p - a) (q - b) (c - a) (d - b) = 0) :
    (p - a) * (p - c) ≤ 0 ∧ (q - b) * (q - d) ≤ 0 := by
  rw [pcmp_le] at h1 h2
  unfold crossQ at hc
  have x1 : 0 ≤ p - a := by grind
  have x2 : 0 ≤ c - p := by grind
  have hx := Rat.mul_nonneg x1 x2
  refine ⟨by grind, ?_⟩
  by_cases hD : c = a
  · have y1 : 0 ≤ q - b := by grind
    have y2 : 0 ≤ d - q := by grind
    have := Rat.mul_nonneg y1 y2
    grind
  · have hD' : c - a ≠ 0 := by grind
    have hpos := sq_p hD'
    refine Decidable.byContradiction fun hn => ?_
    have hZ : 0 < (q - b) * (q - d) := by grind
    have p1 := Rat.mul_pos hZ hpos
    have e1 : (q - b) * (q - d) * ((c - a) * (c - a)) = ((p - a) * (p - c)) * ((d - b) * (d - b)) := by grind
    have p2 : 0 ≤ ((p - a) * (c - p)) * ((d - b) * (d - b)) := Rat.mul_nonneg hx (sq_nn _)
    grind
def upQ (a b c d : Rat) : (Rat × Rat) × Rat × Rat := if 0 < pcmp a b c d then ((c, d), a, b) else ((a, b), c, d)
def pc2 (p q : Rat × Rat) : Int := pcmp p.1 p.2 q.1 q.2
def gtP (x p : Rat × Rat) : Rat × Rat := if 0 < pc2 x p then x else p
def ltP (x p : Rat × Rat) : Rat × Rat := if pc2 x p < 0 then x else p
def endQ (lo hi : Rat × Rat) : Option (Int × (Rat × Rat) × Rat × Rat) := if pc2 lo hi < 0 then some (2, lo, hi) else if pc2 lo hi = 0 then some (1, lo, lo) else none
def lineQ (a b c d e f g h : Rat) : Option (Int × (Rat × Rat) × Rat × Rat) := endQ (gtP (upQ e f g h).1 (upQ a b c d).1) (ltP (upQ e f g h).2 (upQ a b c d).2)
def parQ (a b c d e f g h : Rat) : Rat := crossQ (c - a) (d - b) (g - e) (h - f)
def tQ (a b c d e f g h : Rat) : Rat := crossQ (e - a) (f - b) (g - e) (h - f) / parQ a b c d e f g h
def sQ (a b c d e f g h : Rat) : Rat := crossQ (e - a) (f - b) (c - a) (d - b) / parQ a b c d e f g h
def inU (t : Rat) : Bool := !(decide (t.num.sign < 0)) && !(decide (0 < qcmp t 1))
def smeetQ (a b c d e f g h : Rat) : Option (Int × (Rat × Rat) × Rat × Rat) :=
  if (parQ a b c d e f g h).num.sign = 0 then
    if (crossQ (c - a) (d - b) (e - a) (f - b)).num.sign = 0 then lineQ a b c d e f g h else none
  else if inU (tQ a b c d e f g h) && inU (sQ a b c d e f g h) then some (1, (a + (c - a) * tQ a b c d e f g h, b + (d - b) * tQ a b c d e f g h), a + (c - a) * tQ a b c d e f g h, b + (d - b) * tQ a b c d e f g h)
  else none
def meetQ (a b c d e f g h : Rat) : Option (Int × (Rat × Rat) × Rat × Rat) := if bapart a c e g || bapart b d f h then none else smeetQ a b c d e f g h
theorem up_spec (a b c d : Rat) : pc2 (upQ a b c d).1 (upQ a b c d).2 ≤ 0 ∧ ((upQ a b c d).1 = (a, b) ∧ (upQ a b c d).2 = (c, d) ∨ (upQ a b c d).1 = (c, d) ∧ (upQ a b c d).2 = (a, b)) := by
  unfold upQ pc2
  by_cases h : 0 < pcmp a b c d
  · rw [if_pos h]; exact ⟨pcmp_swap _ _ _ _ h, .inr ⟨rfl, rfl⟩⟩
  · rw [if_neg h]; exact ⟨by show pcmp a b c d ≤ 0; omega, .inl ⟨rfl, rfl⟩⟩
theorem inU_spec {t : Rat} (h : inU t = true) : 0 ≤ t ∧ t ≤ 1 := by
  unfold inU at h
  rw [Bool.and_eq_true, Bool.not_eq_true', Bool.not_eq_true', decide_eq_false_iff_not, decide_eq_false_iff_not, qs_neg, qcmp_gt] at h
  grind
theorem par_tri {U W V X Y Z : Rat} (hn : ¬ (U = 0 ∧ W = 0)) (h1 : U * X - W * V = 0) (h2 : U * Z - W * Y = 0) : Y * X - Z * V = 0 := by
  by_cases hU : U = 0
  · have hW : W ≠ 0 := fun e => hn ⟨hU, e⟩
    have e1 : W * V = 0 := by grind
    have e2 : W * Y = 0 := by grind
    have e3 : V = 0 := (Rat.mul_eq_zero.mp e1).resolve_left hW
    have e4 : Y = 0 := (Rat.mul_eq_zero.mp e2).resolve_left hW
    grind
  · have : U * (Y * X - Z * V) = 0 := by grind
    exact (Rat.mul_eq_zero.mp this).resolve_left hU
theorem smeet_box {a b c d e f g h : Rat} (hn : ¬ (c - a = 0 ∧ d - b = 0)) (hm : ¬ (g - e = 0 ∧ h - f = 0)) {r : Int × (Rat × Rat) × Rat × Rat} (hs : smeetQ a b c d e f g h = some r) : bapart a c e g = false ∧ bapart b d f h = false := by
  unfold smeetQ at hs
  by_cases hk : (parQ a b c d e f g h).num.sign = 0
  · rw [if_pos hk] at hs
    by_cases hw : (crossQ (c - a) (d - b) (e - a) (f - b)).num.sign = 0
    · rw [if_pos hw] at hs
      have k0 : parQ a b c d e f g h = 0 := (qs_zero _).mp hk
      have w0 : crossQ (c - a) (d - b) (e - a) (f - b) = 0 := (qs_zero _).mp hw
      unfold parQ crossQ at k0
      unfold crossQ at w0
      have w1 : (e - a) * (h - f) - (f - b) * (g - e) = 0 := by
        have := par_tri hn k0 w0
        grind
      obtain ⟨o1, u1⟩ := up_spec a b c d
      obtain ⟨o2, u2⟩ := up_spec e f g h
      unfold lineQ at hs
      generalize hP : gtP (upQ e f g h).1 (upQ a b c d).1 = P at hs
      generalize hR : ltP (upQ e f g h).2 (upQ a b c d).2 = R at hs
      generalize upQ a b c d = u at *
      generalize upQ e f g h = v at *
      have pr : pc2 P R ≤ 0 := by unfold endQ at hs; grind
      have p1 : pc2 u.1 P ≤ 0 ∧ pc2 v.1 P ≤ 0 ∧ (P = u.1 ∨ P = v.1) := by
        rw [← hP]; unfold gtP
        by_cases hc : 0 < pc2 v.1 u.1
        · rw [if_pos hc]; exact ⟨pcmp_swap _ _ _ _ hc, by unfold pc2; rw [pcmp_le]; grind, .inr rfl⟩
        · rw [if_neg hc]; exact ⟨by unfold pc2; rw [pcmp_le]; grind, by omega, .inl rfl⟩
      have p2 : pc2 R u.2 ≤ 0 ∧ pc2 R v.2 ≤ 0 := by
        rw [← hR]; unfold ltP
        by_cases hc : pc2 v.2 u.2 < 0
        · rw [if_pos hc]; exact ⟨by omega, by unfold pc2; rw [pcmp_le]; grind⟩
        · rw [if_neg hc]
          refine ⟨by unfold pc2; rw [pcmp_le]; grind, ?_⟩
          by_cases h0 : 0 < pc2 v.2 u.2
          · exact pcmp_swap _ _ _ _ h0
          · have : pcmp v.2.1 v.2.2 u.2.1 u.2.2 = 0 := by unfold pc2 at hc h0; omega
            have hh : ¬ (qcmp v.2.1 u.2.1 ≠ 0) := by
              intro hq; unfold pcmp at this; rw [if_neg hq] at this; exact hq this
            have hq : qcmp v.2.1 u.2.1 = 0 := by omega
            unfold pcmp at this
            rw [if_pos hq] at this
            have e1 := (qcmp_eq _ _).mp hq
            have e2 := (qcmp_eq _ _).mp this
            unfold pc2; rw [pcmp_le]; grind
      have q1 : pc2 P u.2 ≤ 0 := pcmp_trans pr p2.1
      have q2 : pc2 P v.2 ≤ 0 := pcmp_trans pr p2.2
      have c1 : crossQ (P.1 - u.1.1) (P.2 - u.1.2) (u.2.1 - u.1.1) (u.2.2 - u.1.2) = 0 := by
        unfold crossQ
        rcases p1.2.2 with e0 | e0 <;> rcases u1 with ⟨e1, e2⟩ | ⟨e1, e2⟩ <;> rcases u2 with ⟨e3, e4⟩ | ⟨e3, e4⟩ <;> simp only [e0, e1, e2, e3, e4] <;> grind
      have c2 : crossQ (P.1 - v.1.1) (P.2 - v.1.2) (v.2.1 - v.1.1) (v.2.2 - v.1.2) = 0 := by
        unfold crossQ
        rcases p1.2.2 with e0 | e0 <;> rcases u1 with ⟨e1, e2⟩ | ⟨e1, e2⟩ <;> rcases u2 with ⟨e3, e4⟩ | ⟨e3, e4⟩ <;> simp only [e0, e1, e2, e3, e4] <;> grind
      have b1 := lexbox p1.1 q1 c1
      have b2 := lexbox p1.2.1 q2 c2
      have b3 : (P.1 - a) * (P.1 - c) ≤ 0 ∧ (P.2 - b) * (P.2 - d) ≤ 0 := by
        rcases u1 with ⟨e1, e2⟩ | ⟨e1, e2⟩ <;> rw [e1, e2] at b1 <;> refine ⟨?_, ?_⟩ <;> grind
      have b4 : (P.1 - e) * (P.1 - g) ≤ 0 ∧ (P.2 - f) * (P.2 - h) ≤ 0 := by
        rcases u2 with ⟨e1, e2⟩ | ⟨e1, e2⟩ <;> rw [e1, e2] at b2 <;> refine ⟨?_, ?_⟩ <;> grind
      exact ⟨ap_pt b3.1 b4.1, ap_pt b3.2 b4.2⟩
    · rw [if_neg hw] at hs; simp at hs
  · rw [if_neg hk] at hs
    by_cases hi : (inU (tQ a b c d e f g h) && inU (sQ a b c d e f g h)) = true
    · rw [Bool.and_eq_true] at hi
      have ht := inU_spec hi.1
      have hs' := inU_spec hi.2
      have k0 : parQ a b c d e f g h ≠ 0 := fun x => hk ((qs_zero _).mpr x)
      have et : parQ a b c d e f g h * tQ a b c d e f g h = crossQ (e - a) (f - b) (g - e) (h - f) := by unfold tQ; rw [Rat.mul_comm]; exact Rat.div_mul_cancel k0
      have es : parQ a b c d e f g h * sQ a b c d e f g h = crossQ (e - a) (f - b) (c - a) (d - b) := by unfold sQ; rw [Rat.mul_comm]; exact Rat.div_mul_cancel k0
      generalize tQ a b c d e f g h = t at *
      generalize sQ a b c d e f g h = s at *
      have i1 : parQ a b c d e f g h * (a + (c - a) * t - (e + (g - e) * s)) = 0 := by
        have : parQ a b c d e f g h * (a + (c - a) * t - (e + (g - e) * s)) = parQ a b c d e f g h * (a - e) + (c - a) * (parQ a b c d e f g h * t) - (g - e) * (parQ a b c d e f g h * s) := by grind
        rw [this, et, es]; unfold parQ crossQ; grind
      have i2 : parQ a b c d e f g h * (b + (d - b) * t - (f + (h - f) * s)) = 0 := by
        have : parQ a b c d e f g h * (b + (d - b) * t - (f + (h - f) * s)) = parQ a b c d e f g h * (b - f) + (d - b) * (parQ a b c d e f g h * t) - (h - f) * (parQ a b c d e f g h * s) := by grind
        rw [this, et, es]; unfold parQ crossQ; grind
      have j1 := (Rat.mul_eq_zero.mp i1).resolve_left k0
      have j2 := (Rat.mul_eq_zero.mp i2).resolve_left k0
      have r1 : 0 ≤ t * (1 - t) := Rat.mul_nonneg ht.1 (by grind)
      have r2 : 0 ≤ s * (1 - s) := Rat.mul_nonneg hs'.1 (by grind)
      have m1 := Rat.mul_nonneg r1 (sq_nn (c - a))
      have m2 := Rat.mul_nonneg r1 (sq_nn (d - b))
      have m3 := Rat.mul_nonneg r2 (sq_nn (g - e))
      have m4 := Rat.mul_nonneg r2 (sq_nn (h - f))
      have x1 : a + (c - a) * t = e + (g - e) * s := by grind
      have x2 : b + (d - b) * t = f + (h - f) * s := by grind
      refine ⟨ap_pt (x := a + (c - a) * t) ?_ ?_, ap_pt (x := b + (d - b) * t) ?_ ?_⟩
      · grind
      · rw [x1]; grind
      · grind
      · rw [x2]; grind
    · rw [if_neg hi] at hs; simp at hs
/-- The quick test changes nothing. -/
theorem meet_smeet {a b c d e f g h : Rat} (hn : ¬ (c - a = 0 ∧ d - b = 0)) (hm : ¬ (g - e = 0 ∧ h - f = 0)) : meetQ a b c d e f g h = smeetQ a b c d e f g h := by
  unfold meetQ
  cases hs : smeetQ a b c d e f g h with
  | none => simp
  | some r => obtain ⟨h1, h2⟩ := smeet_box hn hm hs; rw [h1, h2]; simp
end Go.Proofs.YtmnplonkijkblaaGreat.Ae

/-! OnSeg, Foot, Near, Dist2: the reference, and the laws.  No condition. -/
namespace Go.Proofs.YtmnplonkijkblaaGreat.Ae
open Go Go.RowKit Go.Proofs.YtmnplonkijkblaaGreat.Dig
@[simp] theorem eqQ_b (a b c d : Int) : eqQC [eQ a b, eQ c d] = (True, [.lit (.bool (decide (a = c) && decide (b = d)))]) := eqQC_at a b c d
theorem rat_one (a : Int) : Rat.divInt a 1 = (a : Rat) := by rw [Rat.divInt_eq_div]; simp; grind

/-! s.SegOk -/
noncomputable def sSegOkC := ct1 ESeg (fun p0 => (((I64 p0.1.1.1 ∧ I64 p0.1.1.2) ∧ I64 p0.1.2.1 ∧ I64 p0.1.2.2) ∧ ((I64 p0.2.1.1 ∧ I64 p0.2.1.2) ∧ I64 p0.2.2.1 ∧ I64 p0.2.2.2))) (fun p0 => [.lit (.bool (decide (segOk p0.1.1.1 p0.1.1.2 p0.1.2.1 p0.1.2.2 p0.2.1.1 p0.2.1.2 p0.2.2.1 p0.2.2.2)))])
@[simp] theorem sSegOkC_at (a b c d e f g h : Int) : sSegOkC [.agg [.agg [eQ a b, eQ c d], .agg [eQ e f, eQ g h]]] = ((((I64 a ∧ I64 b) ∧ I64 c ∧ I64 d) ∧ ((I64 e ∧ I64 f) ∧ I64 g ∧ I64 h)), [.lit (.bool (decide (segOk a b c d e f g h)))]) := ct1_at (((a, b), c, d), (e, f), g, h)
noncomputable def sSegOkTb : List (FuncId × Ct) := [(35, .data sVOkC)]
theorem sSegOkTb_ok : TbOK NF Tryz.prog (tbl sSegOkTb) := tbl_cons (c := .data sVOkC) sVOk_spec sVOk_ok tbl_nil

@[simp] theorem sSegOkTb1 : tbl sSegOkTb 35 = some (.data sVOkC) := rfl
/-! s.l3V -/
noncomputable def l3VC := ct1 EPn (fun p0 => True) (fun p0 => vD (oV p0.1 p0.2))
@[simp] theorem l3VC_at (a b : Rat) : l3VC [.agg [nD a, nD b]] = (True, vD (oV a b)) := ct1_at (a, b)
noncomputable def l3VTb : List (FuncId × Ct) := [(58, .data nQC)]
theorem l3VTb_ok : TbOK NF Tryz.prog (tbl l3VTb) := tbl_cons (c := .data nQC) nQ_spec l1rQ_ok tbl_nil

@[simp] theorem l3VTb1 : tbl l3VTb 58 = some (.data nQC) := rfl
/-! s.l1rInt -/
noncomputable def l1rIntC := ct1 EInt (fun p0 => I64 p0) (fun p0 => [nD (p0 : Rat)])
@[simp] theorem l1rIntC_at (a : Int) : l1rIntC [.lit (.int .i64 a)] = (I64 a, [nD (a : Rat)]) := ct1_at a
noncomputable def l1rIntTb : List (FuncId × Ct) := [(73, .data nOfC)]
theorem l1rIntTb_ok : TbOK NF Tryz.prog (tbl l1rIntTb) := tbl_cons (c := .data nOfC) nOf_spec l1rOf_ok tbl_nil

@[simp] theorem l1rIntTb1 : tbl l1rIntTb 73 = some (.data nOfC) := rfl
theorem l1rInt_spec : SpecD NF Tryz.prog 84 l1rIntC := by
  refine rd1 (mf := fun f => false) l1rIntTb_ok (fn := Tryz.f84) (by kernel_rfl) rfl (by kernel_rfl) (by kernel_rfl) ?_
  rintro a hp
  have hp : I64 a := hp
  show awp _ _ _ _ (start _ ([.lit (.int .i64 a)].map .dat) []) (endK _ _ _ (([nD (a : Rat)]).map .dat) [])
  have e : Rat.divInt a 1 = (a : Rat) := rat_one a
  have h1 : I64 1 := by unfold I64; omega
  simp [-D.isLit, Tryz.f84, hp, h1, e]
theorem l1rInt_ok : callable Tryz.prog 84 = true := by kernel_rfl

/-! s.l3Add -/
noncomputable def l3AddC := ct2 EPn EPn (fun p0 p1 => qsz p0.1 + qsz p0.2 + qsz p1.1 + qsz p1.2 < LM) (fun p0 p1 => [.agg [nD (p0.1 + p1.1), nD (p0.2 + p1.2)]])
@[simp] theorem l3AddC_at (a b : Rat) (c d : Rat) : l3AddC [.agg [nD a, nD b], .agg [nD c, nD d]] = (qsz a + qsz b + qsz c + qsz d < LM, [.agg [nD (a + c), nD (b + d)]]) := ct2_at (a, b) (c, d)
noncomputable def l3AddTb : List (FuncId × Ct) := [(64, .data nAddC)]
theorem l3AddTb_ok : TbOK NF Tryz.prog (tbl l3AddTb) := tbl_cons (c := .data nAddC) nAdd_spec l1rAdd_ok tbl_nil

@[simp] theorem l3AddTb1 : tbl l3AddTb 64 = some (.data nAddC) := rfl
/-! s.l3Times -/
noncomputable def l3TimesC := ct2 EPn ENum (fun p0 p1 => qsz p0.1 + qsz p0.2 + qsz p1 < LM) (fun p0 p1 => [.agg [nD (p0.1 * p1), nD (p0.2 * p1)]])
@[simp] theorem l3TimesC_at (a b : Rat) (c : Rat) : l3TimesC [.agg [nD a, nD b], nD c] = (qsz a + qsz b + qsz c < LM, [.agg [nD (a * c), nD (b * c)]]) := ct2_at (a, b) c
noncomputable def l3TimesTb : List (FuncId × Ct) := [(65, .data nMulC)]
theorem l3TimesTb_ok : TbOK NF Tryz.prog (tbl l3TimesTb) := tbl_cons (c := .data nMulC) nMul_spec l1rMul_ok tbl_nil

@[simp] theorem l3TimesTb1 : tbl l3TimesTb 65 = some (.data nMulC) := rfl
/-! s.l3Dot -/
noncomputable def l3DotC := ct2 EPn EPn (fun p0 p1 => qsz p0.1 + qsz p0.2 + qsz p1.1 + qsz p1.2 < LM) (fun p0 p1 => [nD (dotQ p0.1 p0.2 p1.1 p1.2)])
@[simp] theorem l3DotC_at (a b : Rat) (c d : Rat) : l3DotC [.agg [nD a, nD b], .agg [nD c, nD d]] = (qsz a + qsz b + qsz c + qsz d < LM, [nD (dotQ a b c d)]) := ct2_at (a, b) (c, d)
noncomputable def l3DotTb : List (FuncId × Ct) := [(65, .data nMulC), (64, .data nAddC)]
theorem l3DotTb_ok : TbOK NF Tryz.prog (tbl l3DotTb) := tbl_cons (c := .data nMulC) nMul_spec l1rMul_ok (tbl_cons (c := .data nAddC) nAdd_spec l1rAdd_ok tbl_nil)

@[simp] theorem l3DotTb1 : tbl l3DotTb 65 = some (.data nMulC) := rfl
@[simp] theorem l3DotTb2 : tbl l3DotTb 64 = some (.data nAddC) := rfl
/-! s.l3On -/
noncomputable def l3OnC := ct3 EPn EPn EPn (fun p0 p1 p2 => qsz p1.1 + qsz p1.2 + qsz p2.1 + qsz p2.2 + qsz p0.1 + qsz p0.2 < 10000000 ∧ ¬ (p2.1 - p1.1 = 0 ∧ p2.2 - p1.2 = 0)) (fun p0 p1 p2 => [.lit (.bool (hasB p1.1 p1.2 p2.1 p2.2 p0.1 p0.2))])
@[simp] theorem l3OnC_at (p q : Rat) (a b : Rat) (c d : Rat) : l3OnC [.agg [nD p, nD q], .agg [nD a, nD b], .agg [nD c, nD d]] = (qsz a + qsz b + qsz c + qsz d + qsz p + qsz q < 10000000 ∧ ¬ (c - a = 0 ∧ d - b = 0), [.lit (.bool (hasB a b c d p q))]) := ct3_at (p, q) (a, b) (c, d)
noncomputable def l3OnTb : List (FuncId × Ct) := [(19, .data nSignC)]
theorem l3OnTb_ok : TbOK NF Tryz.prog (tbl l3OnTb) := tbl_cons (c := .data nSignC) nSign_spec l1rSign_ok tbl_nil

@[simp] theorem l3OnTb4 : tbl l3OnTb 19 = some (.data nSignC) := rfl
/-! s.l3Foot -/
noncomputable def l3FootC := ct3 EPn EPn EPn (fun p0 p1 p2 => qsz p1.1 + qsz p1.2 + qsz p2.1 + qsz p2.2 + qsz p0.1 + qsz p0.2 < 10000000 ∧ ¬ (p2.1 - p1.1 = 0 ∧ p2.2 - p1.2 = 0)) (fun p0 p1 p2 => [nD (footQ p1.1 p1.2 p2.1 p2.2 p0.1 p0.2)])
@[simp] theorem l3FootC_at (p q : Rat) (a b : Rat) (c d : Rat) : l3FootC [.agg [nD p, nD q], .agg [nD a, nD b], .agg [nD c, nD d]] = (qsz a + qsz b + qsz c + qsz d + qsz p + qsz q < 10000000 ∧ ¬ (c - a = 0 ∧ d - b = 0), [nD (footQ a b c d p q)]) := ct3_at (p, q) (a, b) (c, d)
noncomputable def l3FootTb : List (FuncId × Ct) := [(66, .data nDivC)]
theorem l3FootTb_ok : TbOK NF Tryz.prog (tbl l3FootTb) := tbl_cons (c := .data nDivC) nDiv_spec l1rDiv_ok tbl_nil

@[simp] theorem l3FootTb3 : tbl l3FootTb 66 = some (.data nDivC) := rfl
/-! s.l3At -/
noncomputable def l3AtC := ct3 EPn EPn ENum (fun p0 p1 p2 => qsz p0.1 + qsz p0.2 + qsz p1.1 + qsz p1.2 + qsz p2 < 100000000) (fun p0 p1 p2 => [.agg [nD (p0.1 + (p1.1 - p0.1) * p2), nD (p0.2 + (p1.2 - p0.2) * p2)]])
@[simp] theorem l3AtC_at (a b : Rat) (c d : Rat) (e : Rat) : l3AtC [.agg [nD a, nD b], .agg [nD c, nD d], nD e] = (qsz a + qsz b + qsz c + qsz d + qsz e < 100000000, [.agg [nD (a + (c - a) * e), nD (b + (d - b) * e)]]) := ct3_at (a, b) (c, d) e
theorem snear {a b c d p q : Rat} (hn : ¬ (c - a = 0 ∧ d - b = 0)) : nearQ a b c d p q = if (footQ a b c d p q).num.sign < 0 then (a, b) else if 0 < qcmp (footQ a b c d p q) 1 then (c, d) else (a + (c - a) * footQ a b c d p q, b + (d - b) * footQ a b c d p q) := by
  unfold nearQ
  generalize footQ a b c d p q = k
  by_cases h1 : k.num.sign < 0
  · rw [if_pos h1, if_pos (by omega)]
  · rw [if_neg h1]
    by_cases h2 : k.num.sign ≤ 0
    · have k0 : k = 0 := (qs_zero k).mp (by omega)
      subst k0
      rw [if_pos h2, if_neg (by rw [qcmp_gt]; decide)]
      congr 1 <;> grind
    · rw [if_neg h2]
      by_cases h3 : 0 < qcmp k 1
      · rw [if_pos h3, if_pos (by omega)]
      · rw [if_neg h3]
        by_cases h4 : 0 ≤ qcmp k 1
        · have k1 : k = 1 := (qcmp_eq k 1).mp (by omega)
          subst k1
          rw [if_pos h4]
          congr 1 <;> grind
        · rw [if_neg h4]

/-! s.l3Near -/
noncomputable def l3NearC := ct3 EPn EPn EPn (fun p0 p1 p2 => qsz p1.1 + qsz p1.2 + qsz p2.1 + qsz p2.2 + qsz p0.1 + qsz p0.2 < 1000000 ∧ ¬ (p2.1 - p1.1 = 0 ∧ p2.2 - p1.2 = 0)) (fun p0 p1 p2 => [.agg [nD (nearQ p1.1 p1.2 p2.1 p2.2 p0.1 p0.2).1, nD (nearQ p1.1 p1.2 p2.1 p2.2 p0.1 p0.2).2]])
@[simp] theorem l3NearC_at (p q : Rat) (a b : Rat) (c d : Rat) : l3NearC [.agg [nD p, nD q], .agg [nD a, nD b], .agg [nD c, nD d]] = (qsz a + qsz b + qsz c + qsz d + qsz p + qsz q < 1000000 ∧ ¬ (c - a = 0 ∧ d - b = 0), [.agg [nD (nearQ a b c d p q).1, nD (nearQ a b c d p q).2]]) := ct3_at (p, q) (a, b) (c, d)
noncomputable def l3NearTb : List (FuncId × Ct) := [(19, .data nSignC), (84, .data l1rIntC)]
theorem l3NearTb_ok : TbOK NF Tryz.prog (tbl l3NearTb) := tbl_cons (c := .data nSignC) nSign_spec l1rSign_ok (tbl_cons (c := .data l1rIntC) l1rInt_spec l1rInt_ok tbl_nil)

@[simp] theorem l3NearTb2 : tbl l3NearTb 19 = some (.data nSignC) := rfl
@[simp] theorem l3NearTb3 : tbl l3NearTb 84 = some (.data l1rIntC) := rfl
/-! s.OnSeg -/
noncomputable def sOnSegC := ct2 EV ESeg (fun p0 p1 => ((I64 p0.1.1 ∧ I64 p0.1.2) ∧ I64 p0.2.1 ∧ I64 p0.2.2) ∧ (((I64 p1.1.1.1 ∧ I64 p1.1.1.2) ∧ I64 p1.1.2.1 ∧ I64 p1.1.2.2) ∧ ((I64 p1.2.1.1 ∧ I64 p1.2.1.2) ∧ I64 p1.2.2.1 ∧ I64 p1.2.2.2))) (fun p0 p1 => [.lit (.bool (if (qOk p0.1.1 p0.1.2 ∧ qOk p0.2.1 p0.2.2) ∧ segOk p1.1.1.1 p1.1.1.2 p1.1.2.1 p1.1.2.2 p1.2.1.1 p1.2.1.2 p1.2.2.1 p1.2.2.2 then hasB (Rat.divInt p1.1.1.1 p1.1.1.2) (Rat.divInt p1.1.2.1 p1.1.2.2) (Rat.divInt p1.2.1.1 p1.2.1.2) (Rat.divInt p1.2.2.1 p1.2.2.2) (Rat.divInt p0.1.1 p0.1.2) (Rat.divInt p0.2.1 p0.2.2) else false))])
@[simp] theorem sOnSegC_at (a b c d : Int) (e f g h i j k l : Int) : sOnSegC [.agg [eQ a b, eQ c d], .agg [.agg [eQ e f, eQ g h], .agg [eQ i j, eQ k l]]] = (((I64 a ∧ I64 b) ∧ I64 c ∧ I64 d) ∧ (((I64 e ∧ I64 f) ∧ I64 g ∧ I64 h) ∧ ((I64 i ∧ I64 j) ∧ I64 k ∧ I64 l)), [.lit (.bool (if (qOk a b ∧ qOk c d) ∧ segOk e f g h i j k l then hasB (Rat.divInt e f) (Rat.divInt g h) (Rat.divInt i j) (Rat.divInt k l) (Rat.divInt a b) (Rat.divInt c d) else false))]) := ct2_at ((a, b), c, d) (((e, f), g, h), (i, j), k, l)
noncomputable def sOnSegTb : List (FuncId × Ct) := [(35, .data sVOkC), (38, .data l3pC)]
theorem sOnSegTb_ok : TbOK NF Tryz.prog (tbl sOnSegTb) := tbl_cons (c := .data sVOkC) sVOk_spec sVOk_ok (tbl_cons (c := .data l3pC) l3p_spec l3p_ok tbl_nil)

@[simp] theorem sOnSegTb1 : tbl sOnSegTb 35 = some (.data sVOkC) := rfl
@[simp] theorem sOnSegTb3 : tbl sOnSegTb 38 = some (.data l3pC) := rfl
/-! s.Foot -/
noncomputable def sFootC := ct2 EV ESeg (fun p0 p1 => ((I64 p0.1.1 ∧ I64 p0.1.2) ∧ I64 p0.2.1 ∧ I64 p0.2.2) ∧ (((I64 p1.1.1.1 ∧ I64 p1.1.1.2) ∧ I64 p1.1.2.1 ∧ I64 p1.1.2.2) ∧ ((I64 p1.2.1.1 ∧ I64 p1.2.1.2) ∧ I64 p1.2.2.1 ∧ I64 p1.2.2.2))) (fun p0 p1 => vD (if (qOk p0.1.1 p0.1.2 ∧ qOk p0.2.1 p0.2.2) ∧ segOk p1.1.1.1 p1.1.1.2 p1.1.2.1 p1.1.2.2 p1.2.1.1 p1.2.1.2 p1.2.2.1 p1.2.2.2 then oV (footP (Rat.divInt p1.1.1.1 p1.1.1.2) (Rat.divInt p1.1.2.1 p1.1.2.2) (Rat.divInt p1.2.1.1 p1.2.1.2) (Rat.divInt p1.2.2.1 p1.2.2.2) (Rat.divInt p0.1.1 p0.1.2) (Rat.divInt p0.2.1 p0.2.2)).1 (footP (Rat.divInt p1.1.1.1 p1.1.1.2) (Rat.divInt p1.1.2.1 p1.1.2.2) (Rat.divInt p1.2.1.1 p1.2.1.2) (Rat.divInt p1.2.2.1 p1.2.2.2) (Rat.divInt p0.1.1 p0.1.2) (Rat.divInt p0.2.1 p0.2.2)).2 else noV))
@[simp] theorem sFootC_at (a b c d : Int) (e f g h i j k l : Int) : sFootC [.agg [eQ a b, eQ c d], .agg [.agg [eQ e f, eQ g h], .agg [eQ i j, eQ k l]]] = (((I64 a ∧ I64 b) ∧ I64 c ∧ I64 d) ∧ (((I64 e ∧ I64 f) ∧ I64 g ∧ I64 h) ∧ ((I64 i ∧ I64 j) ∧ I64 k ∧ I64 l)), vD (if (qOk a b ∧ qOk c d) ∧ segOk e f g h i j k l then oV (footP (Rat.divInt e f) (Rat.divInt g h) (Rat.divInt i j) (Rat.divInt k l) (Rat.divInt a b) (Rat.divInt c d)).1 (footP (Rat.divInt e f) (Rat.divInt g h) (Rat.divInt i j) (Rat.divInt k l) (Rat.divInt a b) (Rat.divInt c d)).2 else noV)) := ct2_at ((a, b), c, d) (((e, f), g, h), (i, j), k, l)
noncomputable def sFootTb : List (FuncId × Ct) := [(35, .data sVOkC), (38, .data l3pC)]
theorem sFootTb_ok : TbOK NF Tryz.prog (tbl sFootTb) := tbl_cons (c := .data sVOkC) sVOk_spec sVOk_ok (tbl_cons (c := .data l3pC) l3p_spec l3p_ok tbl_nil)

@[simp] theorem sFootTb1 : tbl sFootTb 35 = some (.data sVOkC) := rfl
@[simp] theorem sFootTb3 : tbl sFootTb 38 = some (.data l3pC) := rfl
/-! s.Near -/
noncomputable def sNearC := ct2 EV ESeg (fun p0 p1 => ((I64 p0.1.1 ∧ I64 p0.1.2) ∧ I64 p0.2.1 ∧ I64 p0.2.2) ∧ (((I64 p1.1.1.1 ∧ I64 p1.1.1.2) ∧ I64 p1.1.2.1 ∧ I64 p1.1.2.2) ∧ ((I64 p1.2.1.1 ∧ I64 p1.2.1.2) ∧ I64 p1.2.2.1 ∧ I64 p1.2.2.2))) (fun p0 p1 => vD (if (qOk p0.1.1 p0.1.2 ∧ qOk p0.2.1 p0.2.2) ∧ segOk p1.1.1.1 p1.1.1.2 p1.1.2.1 p1.1.2.2 p1.2.1.1 p1.2.1.2 p1.2.2.1 p1.2.2.2 then oV (nearQ (Rat.divInt p1.1.1.1 p1.1.1.2) (Rat.divInt p1.1.2.1 p1.1.2.2) (Rat.divInt p1.2.1.1 p1.2.1.2) (Rat.divInt p1.2.2.1 p1.2.2.2) (Rat.divInt p0.1.1 p0.1.2) (Rat.divInt p0.2.1 p0.2.2)).1 (nearQ (Rat.divInt p1.1.1.1 p1.1.1.2) (Rat.divInt p1.1.2.1 p1.1.2.2) (Rat.divInt p1.2.1.1 p1.2.1.2) (Rat.divInt p1.2.2.1 p1.2.2.2) (Rat.divInt p0.1.1 p0.1.2) (Rat.divInt p0.2.1 p0.2.2)).2 else noV))
@[simp] theorem sNearC_at (a b c d : Int) (e f g h i j k l : Int) : sNearC [.agg [eQ a b, eQ c d], .agg [.agg [eQ e f, eQ g h], .agg [eQ i j, eQ k l]]] = (((I64 a ∧ I64 b) ∧ I64 c ∧ I64 d) ∧ (((I64 e ∧ I64 f) ∧ I64 g ∧ I64 h) ∧ ((I64 i ∧ I64 j) ∧ I64 k ∧ I64 l)), vD (if (qOk a b ∧ qOk c d) ∧ segOk e f g h i j k l then oV (nearQ (Rat.divInt e f) (Rat.divInt g h) (Rat.divInt i j) (Rat.divInt k l) (Rat.divInt a b) (Rat.divInt c d)).1 (nearQ (Rat.divInt e f) (Rat.divInt g h) (Rat.divInt i j) (Rat.divInt k l) (Rat.divInt a b) (Rat.divInt c d)).2 else noV)) := ct2_at ((a, b), c, d) (((e, f), g, h), (i, j), k, l)
noncomputable def sNearTb : List (FuncId × Ct) := [(35, .data sVOkC), (38, .data l3pC)]
theorem sNearTb_ok : TbOK NF Tryz.prog (tbl sNearTb) := tbl_cons (c := .data sVOkC) sVOk_spec sVOk_ok (tbl_cons (c := .data l3pC) l3p_spec l3p_ok tbl_nil)

@[simp] theorem sNearTb1 : tbl sNearTb 35 = some (.data sVOkC) := rfl
@[simp] theorem sNearTb3 : tbl sNearTb 38 = some (.data l3pC) := rfl
/-! s.Dist2 -/
noncomputable def sDist2C := ct2 EV ESeg (fun p0 p1 => ((I64 p0.1.1 ∧ I64 p0.1.2) ∧ I64 p0.2.1 ∧ I64 p0.2.2) ∧ (((I64 p1.1.1.1 ∧ I64 p1.1.1.2) ∧ I64 p1.1.2.1 ∧ I64 p1.1.2.2) ∧ ((I64 p1.2.1.1 ∧ I64 p1.2.1.2) ∧ I64 p1.2.2.1 ∧ I64 p1.2.2.2))) (fun p0 p1 => d3 (if (qOk p0.1.1 p0.1.2 ∧ qOk p0.2.1 p0.2.2) ∧ segOk p1.1.1.1 p1.1.1.2 p1.1.2.1 p1.1.2.2 p1.2.1.1 p1.2.1.2 p1.2.2.1 p1.2.2.2 then oq (dist2Q (Rat.divInt p0.1.1 p0.1.2) (Rat.divInt p0.2.1 p0.2.2) (nearQ (Rat.divInt p1.1.1.1 p1.1.1.2) (Rat.divInt p1.1.2.1 p1.1.2.2) (Rat.divInt p1.2.1.1 p1.2.1.2) (Rat.divInt p1.2.2.1 p1.2.2.2) (Rat.divInt p0.1.1 p0.1.2) (Rat.divInt p0.2.1 p0.2.2)).1 (nearQ (Rat.divInt p1.1.1.1 p1.1.1.2) (Rat.divInt p1.1.2.1 p1.1.2.2) (Rat.divInt p1.2.1.1 p1.2.1.2) (Rat.divInt p1.2.2.1 p1.2.2.2) (Rat.divInt p0.1.1 p0.1.2) (Rat.divInt p0.2.1 p0.2.2)).2) else no3))
@[simp] theorem sDist2C_at (a b c d : Int) (e f g h i j k l : Int) : sDist2C [.agg [eQ a b, eQ c d], .agg [.agg [eQ e f, eQ g h], .agg [eQ i j, eQ k l]]] = (((I64 a ∧ I64 b) ∧ I64 c ∧ I64 d) ∧ (((I64 e ∧ I64 f) ∧ I64 g ∧ I64 h) ∧ ((I64 i ∧ I64 j) ∧ I64 k ∧ I64 l)), d3 (if (qOk a b ∧ qOk c d) ∧ segOk e f g h i j k l then oq (dist2Q (Rat.divInt a b) (Rat.divInt c d) (nearQ (Rat.divInt e f) (Rat.divInt g h) (Rat.divInt i j) (Rat.divInt k l) (Rat.divInt a b) (Rat.divInt c d)).1 (nearQ (Rat.divInt e f) (Rat.divInt g h) (Rat.divInt i j) (Rat.divInt k l) (Rat.divInt a b) (Rat.divInt c d)).2) else no3)) := ct2_at ((a, b), c, d) (((e, f), g, h), (i, j), k, l)
noncomputable def sDist2Tb : List (FuncId × Ct) := [(35, .data sVOkC), (38, .data l3pC), (58, .data nQC)]
theorem sDist2Tb_ok : TbOK NF Tryz.prog (tbl sDist2Tb) := tbl_cons (c := .data sVOkC) sVOk_spec sVOk_ok (tbl_cons (c := .data l3pC) l3p_spec l3p_ok (tbl_cons (c := .data nQC) nQ_spec l1rQ_ok tbl_nil))

@[simp] theorem sDist2Tb1 : tbl sDist2Tb 35 = some (.data sVOkC) := rfl
@[simp] theorem sDist2Tb3 : tbl sDist2Tb 38 = some (.data l3pC) := rfl
@[simp] theorem sDist2Tb7 : tbl sDist2Tb 58 = some (.data nQC) := rfl
/-! l.toSeg -/
noncomputable def toSegC := ct1 ESeg (fun p0 => True) (fun p0 => [.agg [.agg [eQ p0.1.1.1 p0.1.1.2, eQ p0.1.2.1 p0.1.2.2], .agg [eQ p0.2.1.1 p0.2.1.2, eQ p0.2.2.1 p0.2.2.2]]])
@[simp] theorem toSegC_at (a b c d e f g h : Int) : toSegC [.agg [.agg [eQ a b, eQ c d], .agg [eQ e f, eQ g h]]] = (True, [.agg [.agg [eQ a b, eQ c d], .agg [eQ e f, eQ g h]]]) := ct1_at (((a, b), c, d), (e, f), g, h)
noncomputable def toSegTb : List (FuncId × Ct) := [(14, .data toVC)]
theorem toSegTb_ok {N : NR} : TbOK N Tryz.prog (tbl toSegTb) := tbl_cons (c := .data toVC) toV_spec toV_ok tbl_nil

@[simp] theorem toSegTb1 : tbl toSegTb 14 = some (.data toVC) := rfl
/-! l.eqV -/
noncomputable def eqVC := ct2 EV EV (fun p0 p1 => True) (fun p0 p1 => [.lit (.bool (decide (p0.1.1 = p1.1.1 ∧ p0.1.2 = p1.1.2 ∧ p0.2.1 = p1.2.1 ∧ p0.2.2 = p1.2.2)))])
@[simp] theorem eqVC_at (a b c d : Int) (e f g h : Int) : eqVC [.agg [eQ a b, eQ c d], .agg [eQ e f, eQ g h]] = (True, [.lit (.bool (decide (a = e ∧ b = f ∧ c = g ∧ d = h)))]) := ct2_at ((a, b), c, d) ((e, f), g, h)
noncomputable def eqVTb : List (FuncId × Ct) := [(34, .data eqQC)]
theorem eqVTb_ok {N : NR} : TbOK N Tryz.prog (tbl eqVTb) := tbl_cons (c := .data eqQC) eqQ_spec eqQ_ok tbl_nil

@[simp] theorem eqVTb1 : tbl eqVTb 34 = some (.data eqQC) := rfl
/-! l.FnExactOnSeg -/
noncomputable def lwOnSegC := ct2 EV ESeg (fun p0 p1 => ((I64 p0.1.1 ∧ I64 p0.1.2) ∧ I64 p0.2.1 ∧ I64 p0.2.2) ∧ (((I64 p1.1.1.1 ∧ I64 p1.1.1.2) ∧ I64 p1.1.2.1 ∧ I64 p1.1.2.2) ∧ ((I64 p1.2.1.1 ∧ I64 p1.2.1.2) ∧ I64 p1.2.2.1 ∧ I64 p1.2.2.2))) (fun p0 p1 => [.lit (.bool true)])
@[simp] theorem lwOnSegC_at (a b c d : Int) (e f g h i j k l : Int) : lwOnSegC [.agg [eQ a b, eQ c d], .agg [.agg [eQ e f, eQ g h], .agg [eQ i j, eQ k l]]] = (((I64 a ∧ I64 b) ∧ I64 c ∧ I64 d) ∧ (((I64 e ∧ I64 f) ∧ I64 g ∧ I64 h) ∧ ((I64 i ∧ I64 j) ∧ I64 k ∧ I64 l)), [.lit (.bool true)]) := ct2_at ((a, b), c, d) (((e, f), g, h), (i, j), k, l)
noncomputable def lwOnSegTb : List (FuncId × Ct) := [(14, .data toVC)]
theorem lwOnSegTb_ok : TbOK NF Tryz.prog (tbl lwOnSegTb) := tbl_cons (c := .data toVC) toV_spec toV_ok tbl_nil

@[simp] theorem lwOnSegTb1 : tbl lwOnSegTb 14 = some (.data toVC) := rfl
/-! l.FnExactFoot -/
noncomputable def lwFootC := ct2 EV ESeg (fun p0 p1 => ((I64 p0.1.1 ∧ I64 p0.1.2) ∧ I64 p0.2.1 ∧ I64 p0.2.2) ∧ (((I64 p1.1.1.1 ∧ I64 p1.1.1.2) ∧ I64 p1.1.2.1 ∧ I64 p1.1.2.2) ∧ ((I64 p1.2.1.1 ∧ I64 p1.2.1.2) ∧ I64 p1.2.2.1 ∧ I64 p1.2.2.2))) (fun p0 p1 => [.lit (.bool true)])
@[simp] theorem lwFootC_at (a b c d : Int) (e f g h i j k l : Int) : lwFootC [.agg [eQ a b, eQ c d], .agg [.agg [eQ e f, eQ g h], .agg [eQ i j, eQ k l]]] = (((I64 a ∧ I64 b) ∧ I64 c ∧ I64 d) ∧ (((I64 e ∧ I64 f) ∧ I64 g ∧ I64 h) ∧ ((I64 i ∧ I64 j) ∧ I64 k ∧ I64 l)), [.lit (.bool true)]) := ct2_at ((a, b), c, d) (((e, f), g, h), (i, j), k, l)
noncomputable def lwFootTb : List (FuncId × Ct) := [(14, .data toVC)]
theorem lwFootTb_ok : TbOK NF Tryz.prog (tbl lwFootTb) := tbl_cons (c := .data toVC) toV_spec toV_ok tbl_nil

@[simp] theorem lwFootTb1 : tbl lwFootTb 14 = some (.data toVC) := rfl
/-! l.FnExactNear -/
noncomputable def lwNearC := ct2 EV ESeg (fun p0 p1 => ((I64 p0.1.1 ∧ I64 p0.1.2) ∧ I64 p0.2.1 ∧ I64 p0.2.2) ∧ (((I64 p1.1.1.1 ∧ I64 p1.1.1.2) ∧ I64 p1.1.2.1 ∧ I64 p1.1.2.2) ∧ ((I64 p1.2.1.1 ∧ I64 p1.2.1.2) ∧ I64 p1.2.2.1 ∧ I64 p1.2.2.2))) (fun p0 p1 => [.lit (.bool true)])
@[simp] theorem lwNearC_at (a b c d : Int) (e f g h i j k l : Int) : lwNearC [.agg [eQ a b, eQ c d], .agg [.agg [eQ e f, eQ g h], .agg [eQ i j, eQ k l]]] = (((I64 a ∧ I64 b) ∧ I64 c ∧ I64 d) ∧ (((I64 e ∧ I64 f) ∧ I64 g ∧ I64 h) ∧ ((I64 i ∧ I64 j) ∧ I64 k ∧ I64 l)), [.lit (.bool true)]) := ct2_at ((a, b), c, d) (((e, f), g, h), (i, j), k, l)
noncomputable def lwNearTb : List (FuncId × Ct) := [(14, .data toVC)]
theorem lwNearTb_ok : TbOK NF Tryz.prog (tbl lwNearTb) := tbl_cons (c := .data toVC) toV_spec toV_ok tbl_nil

@[simp] theorem lwNearTb1 : tbl lwNearTb 14 = some (.data toVC) := rfl
/-! l.FnExactDist2 -/
noncomputable def lwDist2C := ct2 EV ESeg (fun p0 p1 => ((I64 p0.1.1 ∧ I64 p0.1.2) ∧ I64 p0.2.1 ∧ I64 p0.2.2) ∧ (((I64 p1.1.1.1 ∧ I64 p1.1.1.2) ∧ I64 p1.1.2.1 ∧ I64 p1.1.2.2) ∧ ((I64 p1.2.1.1 ∧ I64 p1.2.1.2) ∧ I64 p1.2.2.1 ∧ I64 p1.2.2.2))) (fun p0 p1 => [.lit (.bool true)])
@[simp] theorem lwDist2C_at (a b c d : Int) (e f g h i j k l : Int) : lwDist2C [.agg [eQ a b, eQ c d], .agg [.agg [eQ e f, eQ g h], .agg [eQ i j, eQ k l]]] = (((I64 a ∧ I64 b) ∧ I64 c ∧ I64 d) ∧ (((I64 e ∧ I64 f) ∧ I64 g ∧ I64 h) ∧ ((I64 i ∧ I64 j) ∧ I64 k ∧ I64 l)), [.lit (.bool true)]) := ct2_at ((a, b), c, d) (((e, f), g, h), (i, j), k, l)
noncomputable def lwDist2Tb : List (FuncId × Ct) := [(14, .data toVC), (34, .data eqQC)]
theorem lwDist2Tb_ok : TbOK NF Tryz.prog (tbl lwDist2Tb) := tbl_cons (c := .data toVC) toV_spec toV_ok (tbl_cons (c := .data eqQC) eqQ_spec eqQ_ok tbl_nil)

@[simp] theorem lwDist2Tb1 : tbl lwDist2Tb 14 = some (.data toVC) := rfl
@[simp] theorem lwDist2Tb5 : tbl lwDist2Tb 34 = some (.data eqQC) := rfl
end Go.Proofs.YtmnplonkijkblaaGreat.Ae

/-! spec: places of space, planes. No condition. -/
namespace Go.Proofs.YtmnplonkijkblaaGreat.Ae
open Go Go.RowKit Go.Proofs.YtmnplonkijkblaaGreat.Dig

/-! s.V3Ok -/
noncomputable def sV3OkC := ct1 EV3 (fun p0 => ((I64 p0.1.1 ∧ I64 p0.1.2) ∧ (I64 p0.2.1.1 ∧ I64 p0.2.1.2) ∧ I64 p0.2.2.1 ∧ I64 p0.2.2.2)) (fun p0 => [.lit (.bool (decide (v3Ok p0.1.1 p0.1.2 p0.2.1.1 p0.2.1.2 p0.2.2.1 p0.2.2.2)))])
@[simp] theorem sV3OkC_at (a b c d e f : Int) : sV3OkC [.agg [eQ a b, eQ c d, eQ e f]] = (((I64 a ∧ I64 b) ∧ (I64 c ∧ I64 d) ∧ I64 e ∧ I64 f), [.lit (.bool (decide (v3Ok a b c d e f)))]) := ct1_at ((a, b), (c, d), e, f)
noncomputable def sV3OkTb : List (FuncId × Ct) := [(43, .data qokC)]
theorem sV3OkTb_ok : TbOK NF Tryz.prog (tbl sV3OkTb) := tbl_cons (c := .data qokC) sQOk_spec sQOk_ok tbl_nil

@[simp] theorem sV3OkTb1 : tbl sV3OkTb 43 = some (.data qokC) := rfl
theorem sV3Ok_spec : SpecD NF Tryz.prog 18 sV3OkC := by
  refine rd1 (mf := fun f => false) sV3OkTb_ok (fn := Tryz.f18) (by kernel_rfl) rfl (by kernel_rfl) (by kernel_rfl) ?_
  rintro ⟨⟨a, b⟩, ⟨c, d⟩, e, f⟩ hp
  have hp : ((I64 a ∧ I64 b) ∧ (I64 c ∧ I64 d) ∧ I64 e ∧ I64 f) := hp
  show awp _ _ _ _ (start _ ([.agg [eQ a b, eQ c d, eQ e f]].map .dat) []) (endK _ _ _ (([.lit (.bool (decide (v3Ok a b c d e f)))]).map .dat) [])
  obtain ⟨⟨i1, i2⟩, ⟨i3, i4⟩, i5, i6⟩ := hp
  by_cases h : qOk a b <;> by_cases h2 : qOk c d <;> simp [-D.isLit, Tryz.f18, v3Ok, i1, i2, i3, i4, i5, i6, h, h2]
theorem sV3Ok_ok : callable Tryz.prog 18 = true := by kernel_rfl

/-! s.l11One -/
noncomputable def l11OneC := ct1 EQ (fun p0 => I64 p0.1 ∧ I64 p0.2) (fun p0 => [.lit (.bool (one1 p0.1 p0.2))])
@[simp] theorem l11OneC_at (a b : Int) : l11OneC [eQ a b] = (I64 a ∧ I64 b, [.lit (.bool (one1 a b))]) := ct1_at (a, b)
theorem l11One_spec : SpecD NF Tryz.prog 44 l11OneC := by
  refine rd1 (mf := fun f => false) (tb := tbl []) tbl_nil (fn := Tryz.f44) (by kernel_rfl) rfl (by kernel_rfl) (by kernel_rfl) ?_
  rintro ⟨a, b⟩ hp
  have hp : I64 a ∧ I64 b := hp
  show awp _ _ _ _ (start _ ([eQ a b].map .dat) []) (endK _ _ _ (([.lit (.bool (one1 a b))]).map .dat) [])
  by_cases h : b = 1 <;> by_cases h2 : a = 1 <;> simp [-D.isLit, Tryz.f44, one1, eQ, i64D, h, h2]
theorem l11One_ok : callable Tryz.prog 44 = true := by kernel_rfl

/-! s.PlaneOk -/
noncomputable def sPlaneOkC := ct1 EPl (fun p0 => ((I64 p0.1.1 ∧ I64 p0.1.2) ∧ (I64 p0.2.1.1 ∧ I64 p0.2.1.2) ∧ (I64 p0.2.2.1.1 ∧ I64 p0.2.2.1.2) ∧ I64 p0.2.2.2.1 ∧ I64 p0.2.2.2.2)) (fun p0 => [.lit (.bool (decide (plOk p0.1.1 p0.1.2 p0.2.1.1 p0.2.1.2 p0.2.2.1.1 p0.2.2.1.2 p0.2.2.2.1 p0.2.2.2.2)))])
@[simp] theorem sPlaneOkC_at (a b c d e f g h : Int) : sPlaneOkC [.agg [eQ a b, eQ c d, eQ e f, eQ g h]] = (((I64 a ∧ I64 b) ∧ (I64 c ∧ I64 d) ∧ (I64 e ∧ I64 f) ∧ I64 g ∧ I64 h), [.lit (.bool (decide (plOk a b c d e f g h)))]) := ct1_at ((a, b), (c, d), (e, f), g, h)
noncomputable def sPlaneOkTb : List (FuncId × Ct) := [(43, .data qokC), (44, .data l11OneC)]
theorem sPlaneOkTb_ok : TbOK NF Tryz.prog (tbl sPlaneOkTb) := tbl_cons (c := .data qokC) sQOk_spec sQOk_ok (tbl_cons (c := .data l11OneC) l11One_spec l11One_ok tbl_nil)

@[simp] theorem sPlaneOkTb1 : tbl sPlaneOkTb 43 = some (.data qokC) := rfl
@[simp] theorem sPlaneOkTb2 : tbl sPlaneOkTb 44 = some (.data l11OneC) := rfl
theorem sPlaneOk_spec : SpecD NF Tryz.prog 17 sPlaneOkC := by
  refine rd1 (mf := fun f => false) sPlaneOkTb_ok (fn := Tryz.f17) (by kernel_rfl) rfl (by kernel_rfl) (by kernel_rfl) ?_
  rintro ⟨⟨a, b⟩, ⟨c, d⟩, ⟨e, f⟩, g, h⟩ hp
  have hp : ((I64 a ∧ I64 b) ∧ (I64 c ∧ I64 d) ∧ (I64 e ∧ I64 f) ∧ I64 g ∧ I64 h) := hp
  show awp _ _ _ _ (start _ ([.agg [eQ a b, eQ c d, eQ e f, eQ g h]].map .dat) []) (endK _ _ _ (([.lit (.bool (decide (plOk a b c d e f g h)))]).map .dat) [])
  obtain ⟨⟨i1, i2⟩, ⟨i3, i4⟩, ⟨i5, i6⟩, i7, i8⟩ := hp
  by_cases h1 : qOk a b
  · by_cases h2 : qOk c d
    · by_cases h3 : qOk e f
      · by_cases h4 : qOk g h
        · by_cases h5 : a = 0
          · subst h5
            by_cases h6 : c = 0
            · subst h6
              simp [-D.isLit, Tryz.f17, plOk, q4Ok, i1, i2, i3, i4, i5, i6, i7, i8, h1, h2, h3, h4]
            · simp [-D.isLit, Tryz.f17, plOk, q4Ok, i1, i2, i3, i4, i5, i6, i7, i8, h1, h2, h3, h4, h6]
          · by_cases h6 : c = 0
            · subst h6
              simp [-D.isLit, Tryz.f17, plOk, q4Ok, i1, i2, i3, i4, i5, i6, i7, i8, h1, h2, h3, h4, h5]
            · simp [-D.isLit, Tryz.f17, plOk, q4Ok, i1, i2, i3, i4, i5, i6, i7, i8, h1, h2, h3, h4, h5, h6]
        · simp [-D.isLit, Tryz.f17, plOk, q4Ok, i1, i2, i3, i4, i5, i6, i7, i8, h1, h2, h3, h4]
      · simp [-D.isLit, Tryz.f17, plOk, q4Ok, i1, i2, i3, i4, i5, i6, i7, i8, h1, h2, h3]
    · simp [-D.isLit, Tryz.f17, plOk, q4Ok, i1, i2, i3, i4, i5, i6, i7, i8, h1, h2]
  · simp [-D.isLit, Tryz.f17, plOk, q4Ok, i1, i2, i3, i4, i5, i6, i7, i8, h1]
theorem sPlaneOk_ok : callable Tryz.prog 17 = true := by kernel_rfl

/-! s.l11p -/
noncomputable def l11pC := ct1 EV3 (fun p0 => (I64 p0.1.1 ∧ I64 p0.1.2 ∧ 0 < p0.1.2) ∧ (I64 p0.2.1.1 ∧ I64 p0.2.1.2 ∧ 0 < p0.2.1.2) ∧ I64 p0.2.2.1 ∧ I64 p0.2.2.2 ∧ 0 < p0.2.2.2) (fun p0 => [.agg [nD (Rat.divInt p0.1.1 p0.1.2), nD (Rat.divInt p0.2.1.1 p0.2.1.2), nD (Rat.divInt p0.2.2.1 p0.2.2.2)]])
@[simp] theorem l11pC_at (a b c d e f : Int) : l11pC [.agg [eQ a b, eQ c d, eQ e f]] = ((I64 a ∧ I64 b ∧ 0 < b) ∧ (I64 c ∧ I64 d ∧ 0 < d) ∧ I64 e ∧ I64 f ∧ 0 < f, [.agg [nD (Rat.divInt a b), nD (Rat.divInt c d), nD (Rat.divInt e f)]]) := ct1_at ((a, b), (c, d), e, f)
noncomputable def l11pTb : List (FuncId × Ct) := [(48, .data nqC)]
theorem l11pTb_ok : TbOK NF Tryz.prog (tbl l11pTb) := tbl_cons (c := .data nqC) nq_spec l1q_ok tbl_nil

@[simp] theorem l11pTb1 : tbl l11pTb 48 = some (.data nqC) := rfl
theorem l11p_spec : SpecD NF Tryz.prog 22 l11pC := by
  refine rd1 (mf := fun f => false) l11pTb_ok (fn := Tryz.f22) (by kernel_rfl) rfl (by kernel_rfl) (by kernel_rfl) ?_
  rintro ⟨⟨a, b⟩, ⟨c, d⟩, e, f⟩ hp
  have hp : (I64 a ∧ I64 b ∧ 0 < b) ∧ (I64 c ∧ I64 d ∧ 0 < d) ∧ I64 e ∧ I64 f ∧ 0 < f := hp
  show awp _ _ _ _ (start _ ([.agg [eQ a b, eQ c d, eQ e f]].map .dat) []) (endK _ _ _ (([.agg [nD (Rat.divInt a b), nD (Rat.divInt c d), nD (Rat.divInt e f)]]).map .dat) [])
  simp [-D.isLit, Tryz.f22, hp]
theorem l11p_ok : callable Tryz.prog 22 = true := by kernel_rfl

/-! s.l11Plane -/
noncomputable def l11PlaneC := ct1 EPl (fun p0 => (I64 p0.1.1 ∧ I64 p0.1.2 ∧ 0 < p0.1.2) ∧ (I64 p0.2.1.1 ∧ I64 p0.2.1.2 ∧ 0 < p0.2.1.2) ∧ (I64 p0.2.2.1.1 ∧ I64 p0.2.2.1.2 ∧ 0 < p0.2.2.1.2) ∧ I64 p0.2.2.2.1 ∧ I64 p0.2.2.2.2 ∧ 0 < p0.2.2.2.2) (fun p0 => [.agg [.agg [nD (Rat.divInt p0.1.1 p0.1.2), nD (Rat.divInt p0.2.1.1 p0.2.1.2), nD (Rat.divInt p0.2.2.1.1 p0.2.2.1.2)], nD (Rat.divInt p0.2.2.2.1 p0.2.2.2.2), .lit (.slice none 0 0)]])
@[simp] theorem l11PlaneC_at (a b c d e f g h : Int) : l11PlaneC [.agg [eQ a b, eQ c d, eQ e f, eQ g h]] = ((I64 a ∧ I64 b ∧ 0 < b) ∧ (I64 c ∧ I64 d ∧ 0 < d) ∧ (I64 e ∧ I64 f ∧ 0 < f) ∧ I64 g ∧ I64 h ∧ 0 < h, [.agg [.agg [nD (Rat.divInt a b), nD (Rat.divInt c d), nD (Rat.divInt e f)], nD (Rat.divInt g h), .lit (.slice none 0 0)]]) := ct1_at ((a, b), (c, d), (e, f), g, h)
noncomputable def l11PlaneTb : List (FuncId × Ct) := [(48, .data nqC)]
theorem l11PlaneTb_ok : TbOK NF Tryz.prog (tbl l11PlaneTb) := tbl_cons (c := .data nqC) nq_spec l1q_ok tbl_nil

@[simp] theorem l11PlaneTb1 : tbl l11PlaneTb 48 = some (.data nqC) := rfl
theorem l11Plane_spec : SpecD NF Tryz.prog 21 l11PlaneC := by
  refine rd1 (mf := fun f => false) l11PlaneTb_ok (fn := Tryz.f21) (by kernel_rfl) rfl (by kernel_rfl) (by kernel_rfl) ?_
  rintro ⟨⟨a, b⟩, ⟨c, d⟩, ⟨e, f⟩, g, h⟩ hp
  have hp : (I64 a ∧ I64 b ∧ 0 < b) ∧ (I64 c ∧ I64 d ∧ 0 < d) ∧ (I64 e ∧ I64 f ∧ 0 < f) ∧ I64 g ∧ I64 h ∧ 0 < h := hp
  show awp _ _ _ _ (start _ ([.agg [eQ a b, eQ c d, eQ e f, eQ g h]].map .dat) []) (endK _ _ _ (([.agg [.agg [nD (Rat.divInt a b), nD (Rat.divInt c d), nD (Rat.divInt e f)], nD (Rat.divInt g h), .lit (.slice none 0 0)]]).map .dat) [])
  simp [-D.isLit, Tryz.f21, hp]
theorem l11Plane_ok : callable Tryz.prog 21 = true := by kernel_rfl

/-! s.l11Sub -/
noncomputable def l11SubC := ct2 EP3n EP3n (fun p0 p1 => qsz p0.1 + qsz p0.2.1 + qsz p0.2.2 + qsz p1.1 + qsz p1.2.1 + qsz p1.2.2 < LM) (fun p0 p1 => [.agg [nD (p0.1 - p1.1), nD (p0.2.1 - p1.2.1), nD (p0.2.2 - p1.2.2)]])
@[simp] theorem l11SubC_at (a b c : Rat) (d e f : Rat) : l11SubC [.agg [nD a, nD b, nD c], .agg [nD d, nD e, nD f]] = (qsz a + qsz b + qsz c + qsz d + qsz e + qsz f < LM, [.agg [nD (a - d), nD (b - e), nD (c - f)]]) := ct2_at (a, b, c) (d, e, f)
noncomputable def l11SubTb : List (FuncId × Ct) := [(46, .data nSubC)]
theorem l11SubTb_ok : TbOK NF Tryz.prog (tbl l11SubTb) := tbl_cons (c := .data nSubC) nSub_spec l1rSub_ok tbl_nil

@[simp] theorem l11SubTb1 : tbl l11SubTb 46 = some (.data nSubC) := rfl
theorem l11Sub_spec : SpecD NF Tryz.prog 55 l11SubC := by
  refine rd2 (mf := fun f => false) l11SubTb_ok (fn := Tryz.f55) (by kernel_rfl) rfl (by kernel_rfl) (by kernel_rfl) ?_
  rintro ⟨a, b, c⟩ ⟨d, e, f⟩ hp
  have hp : qsz a + qsz b + qsz c + qsz d + qsz e + qsz f < LM := hp
  show awp _ _ _ _ (start _ ([.agg [nD a, nD b, nD c], .agg [nD d, nD e, nD f]].map .dat) []) (endK _ _ _ (([.agg [nD (a - d), nD (b - e), nD (c - f)]]).map .dat) [])
  simp [-D.isLit, Tryz.f55]
  grind [qsz_add, qsz_sub, qsz_mul, qsz_neg, MX_val, LM_val]
theorem l11Sub_ok : callable Tryz.prog 55 = true := by kernel_rfl

/-! s.l11Times -/
noncomputable def l11TimesC := ct2 EP3n ENum (fun p0 p1 => qsz p0.1 + qsz p0.2.1 + qsz p0.2.2 + qsz p1 < LM) (fun p0 p1 => [.agg [nD (p0.1 * p1), nD (p0.2.1 * p1), nD (p0.2.2 * p1)]])
@[simp] theorem l11TimesC_at (a b c : Rat) (d : Rat) : l11TimesC [.agg [nD a, nD b, nD c], nD d] = (qsz a + qsz b + qsz c + qsz d < LM, [.agg [nD (a * d), nD (b * d), nD (c * d)]]) := ct2_at (a, b, c) d
noncomputable def l11TimesTb : List (FuncId × Ct) := [(65, .data nMulC)]
theorem l11TimesTb_ok : TbOK NF Tryz.prog (tbl l11TimesTb) := tbl_cons (c := .data nMulC) nMul_spec l1rMul_ok tbl_nil

@[simp] theorem l11TimesTb1 : tbl l11TimesTb 65 = some (.data nMulC) := rfl
theorem l11Times_spec : SpecD NF Tryz.prog 85 l11TimesC := by
  refine rd2 (mf := fun f => false) l11TimesTb_ok (fn := Tryz.f85) (by kernel_rfl) rfl (by kernel_rfl) (by kernel_rfl) ?_
  rintro ⟨a, b, c⟩ d hp
  have hp : qsz a + qsz b + qsz c + qsz d < LM := hp
  show awp _ _ _ _ (start _ ([.agg [nD a, nD b, nD c], nD d].map .dat) []) (endK _ _ _ (([.agg [nD (a * d), nD (b * d), nD (c * d)]]).map .dat) [])
  simp [-D.isLit, Tryz.f85]
  grind [qsz_add, qsz_sub, qsz_mul, qsz_neg, MX_val, LM_val]
theorem l11Times_ok : callable Tryz.prog 85 = true := by kernel_rfl

/-! s.l11Dot -/
noncomputable def l11DotC := ct2 EP3n EP3n (fun p0 p1 => qsz p0.1 + qsz p0.2.1 + qsz p0.2.2 + qsz p1.1 + qsz p1.2.1 + qsz p1.2.2 < LM) (fun p0 p1 => [nD (dot3Q p0.1 p0.2.1 p0.2.2 p1.1 p1.2.1 p1.2.2)])
@[simp] theorem l11DotC_at (a b c : Rat) (d e f : Rat) : l11DotC [.agg [nD a, nD b, nD c], .agg [nD d, nD e, nD f]] = (qsz a + qsz b + qsz c + qsz d + qsz e + qsz f < LM, [nD (dot3Q a b c d e f)]) := ct2_at (a, b, c) (d, e, f)
noncomputable def l11DotTb : List (FuncId × Ct) := [(65, .data nMulC), (64, .data nAddC)]
theorem l11DotTb_ok : TbOK NF Tryz.prog (tbl l11DotTb) := tbl_cons (c := .data nMulC) nMul_spec l1rMul_ok (tbl_cons (c := .data nAddC) nAdd_spec l1rAdd_ok tbl_nil)

@[simp] theorem l11DotTb1 : tbl l11DotTb 65 = some (.data nMulC) := rfl
@[simp] theorem l11DotTb2 : tbl l11DotTb 64 = some (.data nAddC) := rfl
theorem l11Dot_spec : SpecD NF Tryz.prog 47 l11DotC := by
  refine rd2 (mf := fun f => false) l11DotTb_ok (fn := Tryz.f47) (by kernel_rfl) rfl (by kernel_rfl) (by kernel_rfl) ?_
  rintro ⟨a, b, c⟩ ⟨d, e, f⟩ hp
  have hp : qsz a + qsz b + qsz c + qsz d + qsz e + qsz f < LM := hp
  show awp _ _ _ _ (start _ ([.agg [nD a, nD b, nD c], .agg [nD d, nD e, nD f]].map .dat) []) (endK _ _ _ (([nD (dot3Q a b c d e f)]).map .dat) [])
  simp [-D.isLit, Tryz.f47, dot3Q]
  grind [qsz_add, qsz_sub, qsz_mul, qsz_neg, MX_val, LM_val]
theorem l11Dot_ok : callable Tryz.prog 47 = true := by kernel_rfl

/-! s.l11Cross -/
noncomputable def l11CrossC := ct2 EP3n EP3n (fun p0 p1 => qsz p0.1 + qsz p0.2.1 + qsz p0.2.2 + qsz p1.1 + qsz p1.2.1 + qsz p1.2.2 < LM) (fun p0 p1 => [.agg [nD (p0.2.1 * p1.2.2 - p0.2.2 * p1.2.1), nD (p0.2.2 * p1.1 - p0.1 * p1.2.2), nD (p0.1 * p1.2.1 - p0.2.1 * p1.1)]])
@[simp] theorem l11CrossC_at (a b c : Rat) (d e f : Rat) : l11CrossC [.agg [nD a, nD b, nD c], .agg [nD d, nD e, nD f]] = (qsz a + qsz b + qsz c + qsz d + qsz e + qsz f < LM, [.agg [nD (b * f - c * e), nD (c * d - a * f), nD (a * e - b * d)]]) := ct2_at (a, b, c) (d, e, f)
noncomputable def l11CrossTb : List (FuncId × Ct) := [(65, .data nMulC), (46, .data nSubC)]
theorem l11CrossTb_ok : TbOK NF Tryz.prog (tbl l11CrossTb) := tbl_cons (c := .data nMulC) nMul_spec l1rMul_ok (tbl_cons (c := .data nSubC) nSub_spec l1rSub_ok tbl_nil)

@[simp] theorem l11CrossTb1 : tbl l11CrossTb 65 = some (.data nMulC) := rfl
@[simp] theorem l11CrossTb2 : tbl l11CrossTb 46 = some (.data nSubC) := rfl
theorem l11Cross_spec : SpecD NF Tryz.prog 54 l11CrossC := by
  refine rd2 (mf := fun f => false) l11CrossTb_ok (fn := Tryz.f54) (by kernel_rfl) rfl (by kernel_rfl) (by kernel_rfl) ?_
  rintro ⟨a, b, c⟩ ⟨d, e, f⟩ hp
  have hp : qsz a + qsz b + qsz c + qsz d + qsz e + qsz f < LM := hp
  show awp _ _ _ _ (start _ ([.agg [nD a, nD b, nD c], .agg [nD d, nD e, nD f]].map .dat) []) (endK _ _ _ (([.agg [nD (b * f - c * e), nD (c * d - a * f), nD (a * e - b * d)]]).map .dat) [])
  simp [-D.isLit, Tryz.f54]
  grind [qsz_add, qsz_sub, qsz_mul, qsz_neg, MX_val, LM_val]
theorem l11Cross_ok : callable Tryz.prog 54 = true := by kernel_rfl

/-! s.l11V -/
noncomputable def l11VC := ct1 EP3n (fun p0 => True) (fun p0 => v3T (oV3 p0.1 p0.2.1 p0.2.2))
@[simp] theorem l11VC_at (a b c : Rat) : l11VC [.agg [nD a, nD b, nD c]] = (True, v3T (oV3 a b c)) := ct1_at (a, b, c)
noncomputable def l11VTb : List (FuncId × Ct) := [(58, .data nQC)]
theorem l11VTb_ok : TbOK NF Tryz.prog (tbl l11VTb) := tbl_cons (c := .data nQC) nQ_spec l1rQ_ok tbl_nil

@[simp] theorem l11VTb1 : tbl l11VTb 58 = some (.data nQC) := rfl
theorem l11V_spec : SpecD NF Tryz.prog 36 l11VC := by
  refine rd1 (mf := fun f => false) l11VTb_ok (fn := Tryz.f36) (by kernel_rfl) rfl (by kernel_rfl) (by kernel_rfl) ?_
  rintro ⟨a, b, c⟩ hp
  have hp : True := hp
  show awp _ _ _ _ (start _ ([.agg [nD a, nD b, nD c]].map .dat) []) (endK _ _ _ ((v3T (oV3 a b c)).map .dat) [])
  cases e1 : (oq a).2.2 <;> cases e2 : (oq b).2.2 <;> cases e3 : (oq c).2.2 <;> simp [-D.isLit, Tryz.f36, oV3, v3T, e1, e2, e3, eQ, i64D]
theorem l11V_ok : callable Tryz.prog 36 = true := by kernel_rfl

/-! s.l11Height -/
noncomputable def l11HtC := ct2 EFn EP3n (fun p0 p1 => qsz p0.1.1 + qsz p0.1.2.1 + qsz p0.1.2.2 + qsz p0.2 + qsz p1.1 + qsz p1.2.1 + qsz p1.2.2 < 100000000) (fun p0 p1 => [nD (htQ p0.1.1 p0.1.2.1 p0.1.2.2 p0.2 p1.1 p1.2.1 p1.2.2)])
@[simp] theorem l11HtC_at (a b c d : Rat) (e f g : Rat) : l11HtC [.agg [.agg [nD a, nD b, nD c], nD d, .lit (.slice none 0 0)], .agg [nD e, nD f, nD g]] = (qsz a + qsz b + qsz c + qsz d + qsz e + qsz f + qsz g < 100000000, [nD (htQ a b c d e f g)]) := ct2_at ((a, b, c), d) (e, f, g)
noncomputable def l11HtTb : List (FuncId × Ct) := [(47, .data l11DotC), (46, .data nSubC)]
theorem l11HtTb_ok : TbOK NF Tryz.prog (tbl l11HtTb) := tbl_cons (c := .data l11DotC) l11Dot_spec l11Dot_ok (tbl_cons (c := .data nSubC) nSub_spec l1rSub_ok tbl_nil)

@[simp] theorem l11HtTb1 : tbl l11HtTb 47 = some (.data l11DotC) := rfl
@[simp] theorem l11HtTb2 : tbl l11HtTb 46 = some (.data nSubC) := rfl
theorem l11Ht_spec : SpecD NF Tryz.prog 20 l11HtC := by
  refine rd2 (mf := fun f => false) l11HtTb_ok (fn := Tryz.f20) (by kernel_rfl) rfl (by kernel_rfl) (by kernel_rfl) ?_
  rintro ⟨⟨a, b, c⟩, d⟩ ⟨e, f, g⟩ hp
  have hp : qsz a + qsz b + qsz c + qsz d + qsz e + qsz f + qsz g < 100000000 := hp
  show awp _ _ _ _ (start _ ([.agg [.agg [nD a, nD b, nD c], nD d, .lit (.slice none 0 0)], .agg [nD e, nD f, nD g]].map .dat) []) (endK _ _ _ (([nD (htQ a b c d e f g)]).map .dat) [])
  simp [-D.isLit, Tryz.f20, htQ]
  grind [qsz_add, qsz_sub, qsz_mul, qsz_neg, MX_val, LM_val, dot3Q_sz]
theorem l11Ht_ok : callable Tryz.prog 20 = true := by kernel_rfl

/-! s.l1rAbs -/
noncomputable def nabsC := ct1 ENum (fun p0 => True) (fun p0 => [nD (rabs p0)])
@[simp] theorem nabsC_at (a : Rat) : nabsC [nD a] = (True, [nD (rabs a)]) := ct1_at a
noncomputable def nabsTb : List (FuncId × Ct) := [(19, .data nSignC), (72, .data nNegC)]
theorem nabsTb_ok : TbOK NF Tryz.prog (tbl nabsTb) := tbl_cons (c := .data nSignC) nSign_spec l1rSign_ok (tbl_cons (c := .data nNegC) nNeg_spec l1rNeg_ok tbl_nil)

@[simp] theorem nabsTb1 : tbl nabsTb 19 = some (.data nSignC) := rfl
@[simp] theorem nabsTb2 : tbl nabsTb 72 = some (.data nNegC) := rfl
theorem nabs_spec : SpecD NF Tryz.prog 83 nabsC := by
  refine rd1 (mf := fun f => false) nabsTb_ok (fn := Tryz.f83) (by kernel_rfl) rfl (by kernel_rfl) (by kernel_rfl) ?_
  rintro a hp
  have hp : True := hp
  show awp _ _ _ _ (start _ ([nD a].map .dat) []) (endK _ _ _ (([nD (rabs a)]).map .dat) [])
  by_cases h : a.num.sign < 0 <;> simp [-D.isLit, Tryz.f83, rabs, h]
theorem nabs_ok : callable Tryz.prog 83 = true := by kernel_rfl

/-! s.l11Zero -/
noncomputable def l11ZeroC := ct1 EP3n (fun p0 => True) (fun p0 => [.lit (.bool (decide (p0.1.num.sign = 0 ∧ p0.2.1.num.sign = 0 ∧ p0.2.2.num.sign = 0)))])
@[simp] theorem l11ZeroC_at (a b c : Rat) : l11ZeroC [.agg [nD a, nD b, nD c]] = (True, [.lit (.bool (decide (a.num.sign = 0 ∧ b.num.sign = 0 ∧ c.num.sign = 0)))]) := ct1_at (a, b, c)
noncomputable def l11ZeroTb : List (FuncId × Ct) := [(19, .data nSignC)]
theorem l11ZeroTb_ok : TbOK NF Tryz.prog (tbl l11ZeroTb) := tbl_cons (c := .data nSignC) nSign_spec l1rSign_ok tbl_nil

@[simp] theorem l11ZeroTb1 : tbl l11ZeroTb 19 = some (.data nSignC) := rfl
theorem l11Zero_spec : SpecD NF Tryz.prog 56 l11ZeroC := by
  refine rd1 (mf := fun f => false) l11ZeroTb_ok (fn := Tryz.f56) (by kernel_rfl) rfl (by kernel_rfl) (by kernel_rfl) ?_
  rintro ⟨a, b, c⟩ hp
  have hp : True := hp
  show awp _ _ _ _ (start _ ([.agg [nD a, nD b, nD c]].map .dat) []) (endK _ _ _ (([.lit (.bool (decide (a.num.sign = 0 ∧ b.num.sign = 0 ∧ c.num.sign = 0)))]).map .dat) [])
  by_cases h : a.num.sign = 0 <;> by_cases h2 : b.num.sign = 0 <;> simp [-D.isLit, Tryz.f56, h, h2]
theorem l11Zero_ok : callable Tryz.prog 56 = true := by kernel_rfl
theorem rabs_sgn (a : Rat) : (rabs a).num.sign = 0 ↔ a.num.sign = 0 := by
  have h1 : a.num.sign = 0 ↔ a = 0 := ⟨sgn_eq, fun h => by subst h; rfl⟩
  have h2 : (rabs a).num.sign = 0 ↔ rabs a = 0 := ⟨sgn_eq, fun h => by rw [h]; rfl⟩
  rw [h1, h2]
  constructor
  · intro h; exact Classical.byContradiction fun h' => rabs_ne h' h
  · rintro rfl; rfl

/-! s.l11Norm -/
noncomputable def l11NormC := ct1 EFn (fun p0 => qsz p0.1.1 + qsz p0.1.2.1 + qsz p0.1.2.2 + qsz p0.2 < 100000000 ∧ ledQ p0.1.1 p0.1.2.1 p0.1.2.2 ≠ 0) (fun p0 => [.agg [.agg [nD (p0.1.1 * (rabs (ledQ p0.1.1 p0.1.2.1 p0.1.2.2))⁻¹), nD (p0.1.2.1 * (rabs (ledQ p0.1.1 p0.1.2.1 p0.1.2.2))⁻¹), nD (p0.1.2.2 * (rabs (ledQ p0.1.1 p0.1.2.1 p0.1.2.2))⁻¹)], nD (p0.2 * (rabs (ledQ p0.1.1 p0.1.2.1 p0.1.2.2))⁻¹), .lit (.slice none 0 0)]])
@[simp] theorem l11NormC_at (a b c d : Rat) : l11NormC [.agg [.agg [nD a, nD b, nD c], nD d, .lit (.slice none 0 0)]] = (qsz a + qsz b + qsz c + qsz d < 100000000 ∧ ledQ a b c ≠ 0, [.agg [.agg [nD (a * (rabs (ledQ a b c))⁻¹), nD (b * (rabs (ledQ a b c))⁻¹), nD (c * (rabs (ledQ a b c))⁻¹)], nD (d * (rabs (ledQ a b c))⁻¹), .lit (.slice none 0 0)]]) := ct1_at ((a, b, c), d)
noncomputable def l11NormTb : List (FuncId × Ct) := [(83, .data nabsC), (19, .data nSignC), (84, .data l1rIntC), (66, .data nDivC), (85, .data l11TimesC), (65, .data nMulC)]
theorem l11NormTb_ok : TbOK NF Tryz.prog (tbl l11NormTb) := tbl_cons (c := .data nabsC) nabs_spec nabs_ok (tbl_cons (c := .data nSignC) nSign_spec l1rSign_ok (tbl_cons (c := .data l1rIntC) l1rInt_spec l1rInt_ok (tbl_cons (c := .data nDivC) nDiv_spec l1rDiv_ok (tbl_cons (c := .data l11TimesC) l11Times_spec l11Times_ok (tbl_cons (c := .data nMulC) nMul_spec l1rMul_ok tbl_nil)))))

@[simp] theorem l11NormTb1 : tbl l11NormTb 83 = some (.data nabsC) := rfl
@[simp] theorem l11NormTb2 : tbl l11NormTb 19 = some (.data nSignC) := rfl
@[simp] theorem l11NormTb3 : tbl l11NormTb 84 = some (.data l1rIntC) := rfl
@[simp] theorem l11NormTb4 : tbl l11NormTb 66 = some (.data nDivC) := rfl
@[simp] theorem l11NormTb5 : tbl l11NormTb 85 = some (.data l11TimesC) := rfl
@[simp] theorem l11NormTb6 : tbl l11NormTb 65 = some (.data nMulC) := rfl
theorem l11Norm_spec : SpecD NF Tryz.prog 57 l11NormC := by
  refine rd1 (mf := fun f => false) l11NormTb_ok (fn := Tryz.f57) (by kernel_rfl) rfl (by kernel_rfl) (by kernel_rfl) ?_
  rintro ⟨⟨a, b, c⟩, d⟩ hp
  have hp : qsz a + qsz b + qsz c + qsz d < 100000000 ∧ ledQ a b c ≠ 0 := hp
  show awp _ _ _ _ (start _ ([.agg [.agg [nD a, nD b, nD c], nD d, .lit (.slice none 0 0)]].map .dat) []) (endK _ _ _ (([.agg [.agg [nD (a * (rabs (ledQ a b c))⁻¹), nD (b * (rabs (ledQ a b c))⁻¹), nD (c * (rabs (ledQ a b c))⁻¹)], nD (d * (rabs (ledQ a b c))⁻¹), .lit (.slice none 0 0)]]).map .dat) [])
  obtain ⟨h0, h1⟩ := hp
  have r1 := rabs_ne h1
  have r2 := rabs_sz (ledQ a b c)
  have r3 := ledQ_sz a b c
  have r4 := qsz_inv' r1
  have r5 := qsz_one
  have s1 : qsz (1 : Rat) + qsz (rabs (ledQ a b c)) < MX := by rw [MX_val]; omega
  have s2 : qsz a + qsz b + qsz c + qsz (rabs (ledQ a b c))⁻¹ < LM := by rw [LM_val]; omega
  have s3 : qsz d + qsz (rabs (ledQ a b c))⁻¹ < MX := by rw [MX_val]; omega
  have i1 : I64 1 := by unfold I64; omega
  have o1 : ((1 : Int) : Rat) = 1 := rfl
  have o2 := one_div_inv (rabs (ledQ a b c))
  by_cases h2 : a.num.sign = 0
  · have k2 := (rabs_sgn a).2 h2
    by_cases h3 : b.num.sign = 0
    · have k3 := (rabs_sgn b).2 h3
      have e : ledQ a b c = c := by unfold ledQ; rw [if_pos h2, if_pos h3]
      rw [e] at r1 s1 s2 s3 o2 ⊢
      simp [-D.isLit, Tryz.f57, k2, k3, o1, o2, i1, r1, s1, s2, s3]
    · have k3 := fun x => h3 ((rabs_sgn b).1 x)
      have e : ledQ a b c = b := by unfold ledQ; rw [if_pos h2, if_neg h3]
      rw [e] at r1 s1 s2 s3 o2 ⊢
      simp [-D.isLit, Tryz.f57, k2, k3, o1, o2, i1, r1, s1, s2, s3]
  · have k2 := fun x => h2 ((rabs_sgn a).1 x)
    have e : ledQ a b c = a := by unfold ledQ; rw [if_neg h2]
    rw [e] at r1 s1 s2 s3 o2 ⊢
    simp [-D.isLit, Tryz.f57, k2, o1, o2, i1, r1, s1, s2, s3]
theorem l11Norm_ok : callable Tryz.prog 57 = true := by kernel_rfl

/-! s.l11Through -/
noncomputable def l11ThrC := ct3 EP3n EP3n EP3n (fun p0 p1 p2 => qsz p0.1 + qsz p0.2.1 + qsz p0.2.2 + qsz p1.1 + qsz p1.2.1 + qsz p1.2.2 + qsz p2.1 + qsz p2.2.1 + qsz p2.2.2 < 1000000) (fun p0 p1 p2 => thrN zFn (throQ p0.1 p0.2.1 p0.2.2 p1.1 p1.2.1 p1.2.2 p2.1 p2.2.1 p2.2.2))
@[simp] theorem l11ThrC_at (a b c : Rat) (d e f : Rat) (g h i : Rat) : l11ThrC [.agg [nD a, nD b, nD c], .agg [nD d, nD e, nD f], .agg [nD g, nD h, nD i]] = (qsz a + qsz b + qsz c + qsz d + qsz e + qsz f + qsz g + qsz h + qsz i < 1000000, thrN zFn (throQ a b c d e f g h i)) := ct3_at (a, b, c) (d, e, f) (g, h, i)
noncomputable def l11ThrTb : List (FuncId × Ct) := [(55, .data l11SubC), (54, .data l11CrossC), (56, .data l11ZeroC), (47, .data l11DotC), (57, .data l11NormC)]
theorem l11ThrTb_ok : TbOK NF Tryz.prog (tbl l11ThrTb) := tbl_cons (c := .data l11SubC) l11Sub_spec l11Sub_ok (tbl_cons (c := .data l11CrossC) l11Cross_spec l11Cross_ok (tbl_cons (c := .data l11ZeroC) l11Zero_spec l11Zero_ok (tbl_cons (c := .data l11DotC) l11Dot_spec l11Dot_ok (tbl_cons (c := .data l11NormC) l11Norm_spec l11Norm_ok tbl_nil))))

@[simp] theorem l11ThrTb1 : tbl l11ThrTb 55 = some (.data l11SubC) := rfl
@[simp] theorem l11ThrTb2 : tbl l11ThrTb 54 = some (.data l11CrossC) := rfl
@[simp] theorem l11ThrTb3 : tbl l11ThrTb 56 = some (.data l11ZeroC) := rfl
@[simp] theorem l11ThrTb4 : tbl l11ThrTb 47 = some (.data l11DotC) := rfl
@[simp] theorem l11ThrTb5 : tbl l11ThrTb 57 = some (.data l11NormC) := rfl
theorem l11Thr_spec : SpecD NF Tryz.prog 30 l11ThrC := by
  refine rd3 (mf := fun f => false) l11ThrTb_ok (fn := Tryz.f30) (by kernel_rfl) rfl (by kernel_rfl) (by kernel_rfl) ?_
  rintro ⟨a, b, c⟩ ⟨d, e, f⟩ ⟨g, h, i⟩ hp
  have hp : qsz a + qsz b + qsz c + qsz d + qsz e + qsz f + qsz g + qsz h + qsz i < 1000000 := hp
  show awp _ _ _ _ (start _ ([.agg [nD a, nD b, nD c], .agg [nD d, nD e, nD f], .agg [nD g, nD h, nD i]].map .dat) []) (endK _ _ _ ((thrN zFn (throQ a b c d e f g h i)).map .dat) [])
  have hx : qsz (crX a b c d e f g h i) + qsz (crY a b c d e f g h i) + qsz (crZ a b c d e f g h i) < 20000000 := by
    unfold crX crY crZ
    grind [qsz_sub, qsz_mul]
  have s1 : qsz d + qsz e + qsz f + qsz a + qsz b + qsz c < LM := by rw [LM_val]; omega
  have s2 : qsz g + qsz h + qsz i + qsz a + qsz b + qsz c < LM := by rw [LM_val]; omega
  have s3 : qsz (d - a) + qsz (e - b) + qsz (f - c) + qsz (g - a) + qsz (h - b) + qsz (i - c) < LM := by grind [qsz_sub, LM_val]
  have e1 : (e - b) * (i - c) - (f - c) * (h - b) = crX a b c d e f g h i := rfl
  have e2 : (f - c) * (g - a) - (d - a) * (i - c) = crY a b c d e f g h i := rfl
  have e3 : (d - a) * (h - b) - (e - b) * (g - a) = crZ a b c d e f g h i := rfl
  unfold throQ
  generalize crX a b c d e f g h i = x at *
  generalize crY a b c d e f g h i = y at *
  generalize crZ a b c d e f g h i = z at *
  have s4 : qsz x + qsz y + qsz z + qsz a + qsz b + qsz c < LM := by rw [LM_val]; omega
  have hd := dot3Q_sz x y z a b c
  have s5 : qsz x + qsz y + qsz z + qsz (dot3Q x y z a b c) < 100000000 := by omega
  by_cases hz : x.num.sign = 0 ∧ y.num.sign = 0 ∧ z.num.sign = 0
  · have k1 := sgn_eq hz.1
    have k2 := sgn_eq hz.2.1
    have k3 := sgn_eq hz.2.2
    have et : thrQ x y z (dot3Q x y z a b c) = none := by unfold thrQ; rw [if_pos hz]
    rw [et]
    simp [-D.isLit, Tryz.f30, thrN, zFn, zNum, s1, s2, s3, s4, e1, e2, e3, k1, k2, k3]
  · have hl := led_ne hz
    have hz2 : x = 0 → y = 0 → ¬ z = 0 := fun k1 k2 k3 => hz ⟨by rw [k1]; rfl, by rw [k2]; rfl, by rw [k3]; rfl⟩
    have et : thrQ x y z (dot3Q x y z a b c) = some ((x * (rabs (ledQ x y z))⁻¹, y * (rabs (ledQ x y z))⁻¹, z * (rabs (ledQ x y z))⁻¹), dot3Q x y z a b c * (rabs (ledQ x y z))⁻¹) := by unfold thrQ; rw [if_neg hz]
    rw [et]
    simp [-D.isLit, Tryz.f30, thrN, s1, s2, s3, s4, s5, e1, e2, e3, hz2, hl]
    exact fun k1 k2 k3 => (hz2 k1 k2 k3).elim
theorem l11Thr_ok : callable Tryz.prog 30 = true := by kernel_rfl

/-! s.l11Told -/
noncomputable def l11ToldC := ct1 EFn (fun p0 => True) (fun p0 => plT (oPl p0.1.1 p0.1.2.1 p0.1.2.2 p0.2))
@[simp] theorem l11ToldC_at (a b c d : Rat) : l11ToldC [.agg [.agg [nD a, nD b, nD c], nD d, .lit (.slice none 0 0)]] = (True, plT (oPl a b c d)) := ct1_at ((a, b, c), d)
noncomputable def l11ToldTb : List (FuncId × Ct) := [(36, .data l11VC), (58, .data nQC)]
theorem l11ToldTb_ok : TbOK NF Tryz.prog (tbl l11ToldTb) := tbl_cons (c := .data l11VC) l11V_spec l11V_ok (tbl_cons (c := .data nQC) nQ_spec l1rQ_ok tbl_nil)

@[simp] theorem l11ToldTb1 : tbl l11ToldTb 36 = some (.data l11VC) := rfl
@[simp] theorem l11ToldTb2 : tbl l11ToldTb 58 = some (.data nQC) := rfl
theorem l11Told_spec : SpecD NF Tryz.prog 31 l11ToldC := by
  refine rd1 (mf := fun f => false) l11ToldTb_ok (fn := Tryz.f31) (by kernel_rfl) rfl (by kernel_rfl) (by kernel_rfl) ?_
  rintro ⟨⟨a, b, c⟩, d⟩ hp
  have hp : True := hp
  show awp _ _ _ _ (start _ ([.agg [.agg [nD a, nD b, nD c], nD d, .lit (.slice none 0 0)]].map .dat) []) (endK _ _ _ ((plT (oPl a b c d)).map .dat) [])
  cases e1 : (oq a).2.2 <;> cases e2 : (oq b).2.2 <;> cases e3 : (oq c).2.2 <;> cases e4 : (oq d).2.2 <;> simp [-D.isLit, Tryz.f31, oPl, plT, oV3, v3T, e1, e2, e3, e4, eQ, i64D]
theorem l11Told_ok : callable Tryz.prog 31 = true := by kernel_rfl

/-! s.l11Axis -/
noncomputable def l11AxisC := ct1 EFn (fun p0 => True) (fun p0 => [.lit (.int .i64 (offI p0.1.2.1 p0.1.2.2))])
@[simp] theorem l11AxisC_at (a b c d : Rat) : l11AxisC [.agg [.agg [nD a, nD b, nD c], nD d, .lit (.slice none 0 0)]] = (True, [.lit (.int .i64 (offI b c))]) := ct1_at ((a, b, c), d)
noncomputable def l11AxisTb : List (FuncId × Ct) := [(19, .data nSignC)]
theorem l11AxisTb_ok : TbOK NF Tryz.prog (tbl l11AxisTb) := tbl_cons (c := .data nSignC) nSign_spec l1rSign_ok tbl_nil

@[simp] theorem l11AxisTb1 : tbl l11AxisTb 19 = some (.data nSignC) := rfl
theorem l11Axis_spec : SpecD NF Tryz.prog 63 l11AxisC := by
  refine rd1 (mf := fun f => false) l11AxisTb_ok (fn := Tryz.f63) (by kernel_rfl) rfl (by kernel_rfl) (by kernel_rfl) ?_
  rintro ⟨⟨a, b, c⟩, d⟩ hp
  have hp : True := hp
  show awp _ _ _ _ (start _ ([.agg [.agg [nD a, nD b, nD c], nD d, .lit (.slice none 0 0)]].map .dat) []) (endK _ _ _ (([.lit (.int .i64 (offI b c))]).map .dat) [])
  by_cases h : c.num.sign = 0 <;> by_cases h2 : b.num.sign = 0 <;> simp [-D.isLit, Tryz.f63, offI, h, h2]
theorem l11Axis_ok : callable Tryz.prog 63 = true := by kernel_rfl
theorem offI_3 (b c : Rat) : offI b c = 0 ∨ offI b c = 1 ∨ offI b c = 2 := by unfold offI; split <;> (try split) <;> simp

/-! s.l11Drop -/
noncomputable def l11DropC := ct2 EInt EP3n (fun p0 p1 => p0 = 0 ∨ p0 = 1 ∨ p0 = 2) (fun p0 p1 => [.agg (if p0 = 2 then [nD p1.1, nD p1.2.1] else if p0 = 1 then [nD p1.1, nD p1.2.2] else [nD p1.2.1, nD p1.2.2])])
@[simp] theorem l11DropC_at (n : Int) (x y z : Rat) : l11DropC [.lit (.int .i64 n), .agg [nD x, nD y, nD z]] = (n = 0 ∨ n = 1 ∨ n = 2, [.agg (if n = 2 then [nD x, nD y] else if n = 1 then [nD x, nD z] else [nD y, nD z])]) := ct2_at n (x, y, z)
/-! s.l11Lift -/
noncomputable def l11LiftC := ct2 EFn EPn (fun p0 p1 => qsz p0.1.1 + qsz p0.1.2.1 + qsz p0.1.2.2 + qsz p0.2 + qsz p1.1 + qsz p1.2 < 10000000 ∧ ¬ (p0.1.1 = 0 ∧ p0.1.2.1 = 0 ∧ p0.1.2.2 = 0)) (fun p0 p1 => [.agg [nD (lftQ p0.1.1 p0.1.2.1 p0.1.2.2 p0.2 p1.1 p1.2).1, nD (lftQ p0.1.1 p0.1.2.1 p0.1.2.2 p0.2 p1.1 p1.2).2.1, nD (lftQ p0.1.1 p0.1.2.1 p0.1.2.2 p0.2 p1.1 p1.2).2.2]])
@[simp] theorem l11LiftC_at (a b c d : Rat) (x y : Rat) : l11LiftC [.agg [.agg [nD a, nD b, nD c], nD d, .lit (.slice none 0 0)], .agg [nD x, nD y]] = (qsz a + qsz b + qsz c + qsz d + qsz x + qsz y < 10000000 ∧ ¬ (a = 0 ∧ b = 0 ∧ c = 0), [.agg [nD (lftQ a b c d x y).1, nD (lftQ a b c d x y).2.1, nD (lftQ a b c d x y).2.2]]) := ct2_at ((a, b, c), d) (x, y)
noncomputable def l11LiftTb : List (FuncId × Ct) := [(63, .data l11AxisC), (65, .data nMulC), (64, .data nAddC), (46, .data nSubC), (66, .data nDivC)]
theorem l11LiftTb_ok : TbOK NF Tryz.prog (tbl l11LiftTb) := tbl_cons (c := .data l11AxisC) l11Axis_spec l11Axis_ok (tbl_cons (c := .data nMulC) nMul_spec l1rMul_ok (tbl_cons (c := .data nAddC) nAdd_spec l1rAdd_ok (tbl_cons (c := .data nSubC) nSub_spec l1rSub_ok (tbl_cons (c := .data nDivC) nDiv_spec l1rDiv_ok tbl_nil))))

@[simp] theorem l11LiftTb1 : tbl l11LiftTb 63 = some (.data l11AxisC) := rfl
@[simp] theorem l11LiftTb2 : tbl l11LiftTb 65 = some (.data nMulC) := rfl
@[simp] theorem l11LiftTb3 : tbl l11LiftTb 64 = some (.data nAddC) := rfl
@[simp] theorem l11LiftTb4 : tbl l11LiftTb 46 = some (.data nSubC) := rfl
@[simp] theorem l11LiftTb5 : tbl l11LiftTb 66 = some (.data nDivC) := rfl
theorem l11Lift_spec : SpecD NF Tryz.prog 37 l11LiftC := by
  refine rd2 (mf := fun f => false) l11LiftTb_ok (fn := Tryz.f37) (by kernel_rfl) rfl (by kernel_rfl) (by kernel_rfl) ?_
  rintro ⟨⟨a, b, c⟩, d⟩ ⟨x, y⟩ hp
  have hp : qsz a + qsz b + qsz c + qsz d + qsz x + qsz y < 10000000 ∧ ¬ (a = 0 ∧ b = 0 ∧ c = 0) := hp
  show awp _ _ _ _ (start _ ([.agg [.agg [nD a, nD b, nD c], nD d, .lit (.slice none 0 0)], .agg [nD x, nD y]].map .dat) []) (endK _ _ _ (([.agg [nD (lftQ a b c d x y).1, nD (lftQ a b c d x y).2.1, nD (lftQ a b c d x y).2.2]]).map .dat) [])
  obtain ⟨h0, h1⟩ := hp
  by_cases h : c.num.sign = 0
  · have e1 := sgn_eq h
    by_cases h2 : b.num.sign = 0
    · have e2 := sgn_eq h2
      have e3 : a ≠ 0 := fun x => h1 ⟨x, e2, e1⟩
      simp [-D.isLit, Tryz.f37, offI, lftQ, h, h2, e3]
      grind [qsz_add, qsz_sub, qsz_mul, qsz_neg, MX_val, LM_val]
    · have e3 := sgn_ne h2
      simp [-D.isLit, Tryz.f37, offI, lftQ, h, h2, e3]
      grind [qsz_add, qsz_sub, qsz_mul, qsz_neg, MX_val, LM_val]
  · have e3 := sgn_ne h
    simp [-D.isLit, Tryz.f37, offI, lftQ, h, e3]
    grind [qsz_add, qsz_sub, qsz_mul, qsz_neg, MX_val, LM_val]
theorem l11Lift_ok : callable Tryz.prog 37 = true := by kernel_rfl
end Go.Proofs.YtmnplonkijkblaaGreat.Ae
