/- Texts put together, in the order in which they build: L64, S1, S2, L65, L66, L67, L68, L69, S3, L70, S4, S5, T1, T2, T3. No condition. -/
import Derived.Test.YtledfadnhcdflaaZ4
import Derived.Below
import Derived.OpenShut
set_option linter.unusedVariables false
set_option linter.unusedSimpArgs false
/-! impl.bigRat: Neg, Inv, Add, Sub, Mul, Cmp, SetInt, newBigRat. No condition. -/
namespace Go.Proofs.Ytledfadnhcdflaa.Ae
open Go Go.RowKit Go.Proofs.Ytledfadnhcdflaa.Dig
variable {N : NR}

def q1E (p : Q1) : List Ar × List D := ([.ref 0, .dat (.ptr (eBR p.a))], [eBN])
theorem q1E_inj (p q : Q1) (h : q1E p = q1E q) : p = q := by
  obtain ⟨a⟩ := p; obtain ⟨b⟩ := q
  simp only [q1E, Prod.mk.injEq, List.cons.injEq, and_true, true_and, Ar.dat.injEq, D.ptr.injEq] at h
  rw [eBR_inj h]
structure Q2 where
  a : Rat
  b : Rat
def q2E (p : Q2) : List Ar × List D := ([.ref 0, .dat (.ptr (eBR p.a)), .dat (.ptr (eBR p.b))], [eBN])
theorem q2E_inj (p q : Q2) (h : q2E p = q2E q) : p = q := by
  obtain ⟨a, b⟩ := p; obtain ⟨c, d⟩ := q
  simp only [q2E, Prod.mk.injEq, List.cons.injEq, and_true, true_and, Ar.dat.injEq, D.ptr.injEq] at h
  rw [eBR_inj h.1, eBR_inj h.2]
noncomputable def brTb : List (FuncId × Ct) := [(43, .mut [true, false, false] sfC), (95, .data numC), (97, .data denC), (101, .mut [true, false] ngC), (134, .mut [true, false, false] iMulC), (135, .mut [true, false, false] iAddC), (44, .data newC), (153, .data iCmpC)]
theorem brTb_ok : TbOK N Try.prog (tbl brTb) := tbl_cons (c := .mut [true, false, false] sfC) SetFrac_spec SetFrac_ok (tbl_cons (c := .data numC) Num_spec Num_ok (tbl_cons (c := .data denC) Denom_spec Denom_ok (tbl_cons (c := .mut [true, false] ngC) Neg_spec Neg_ok (tbl_cons (c := .mut [true, false, false] iMulC) Mul_spec Mul_ok (tbl_cons (c := .mut [true, false, false] iAddC) Add_spec Add_ok (tbl_cons (c := .data newC) newBigInt_spec newBigInt_ok (tbl_cons (c := .data iCmpC) Cmp_spec Cmp_ok tbl_nil)))))))

@[simp] theorem brTb1 : tbl brTb 43 = some (.mut [true, false, false] sfC) := rfl
@[simp] theorem brTb2 : tbl brTb 95 = some (.data numC) := rfl
@[simp] theorem brTb3 : tbl brTb 97 = some (.data denC) := rfl
@[simp] theorem brTb4 : tbl brTb 101 = some (.mut [true, false] ngC) := rfl
@[simp] theorem brTb5 : tbl brTb 134 = some (.mut [true, false, false] iMulC) := rfl
@[simp] theorem brTb6 : tbl brTb 135 = some (.mut [true, false, false] iAddC) := rfl
@[simp] theorem brTb7 : tbl brTb 44 = some (.data newC) := rfl
@[simp] theorem brTb8 : tbl brTb 153 = some (.data iCmpC) := rfl
def brMf : FuncId → Bool := fun f => f == 43 || f == 101 || f == 134 || f == 135 || f == 153
attribute [simp] brMf
@[simp] theorem eBN_size : eBN.size = 4 := rfl
@[simp] theorem eBN_agg : eBN.isAgg = true := rfl
theorem eBN_eq : eBN = .agg [.agg [.lit (.bool false), .lit (.slice none 0 0)], .agg [.lit (.bool false), .lit (.slice none 0 0)]] := rfl
theorem sfC_n (a b : Int) : sfC [.ref 0, .dat (.ptr (eZ a)), .dat (.ptr (eZ b))] [.agg [.agg [.lit (.bool false), .lit (.slice none 0 0)], .agg [.lit (.bool false), .lit (.slice none 0 0)]]] = ((SZ a ∧ SZ b ∧ b ≠ 0), [.ref 0], [eBR (Rat.divInt a b)]) := sfC_at a b
theorem iMulC_n (x y : Int) : iMulC [.ref 0, .dat (.ptr (eZ x)), .dat (.ptr (eZ y))] [.agg [.lit (.bool false), .lit (.slice none 0 0)]] = ((SZ x ∧ SZ y), [.ref 0], [eZ (x * y)]) := iMulC_dd x y .new

noncomputable def bNegC := ctM q1E (fun p => qsz p.a < MX) (fun p => ([.ref 0], [eBR (-p.a)]))
theorem bNegC_at (a : Rat) : bNegC [.ref 0, .dat (.ptr (eBR a))] [eBN] = (qsz a < MX, [.ref 0], [eBR (-a)]) := ctM_at q1E_inj ⟨a⟩
theorem RNeg_spec : SpecM N Try.prog 136 bNegC := by
  refine rdM (mf := brMf) brTb_ok (fn := Try.f136) (by kernel_rfl) rfl (by kernel_rfl) ?_
  rintro ⟨a⟩ ha
  have ha : qsz a < MX := ha
  unfold MX at ha
  have ha' : qsz a < 1099511627776 := by omega
  refine ⟨by show 2 ≤ 14; decide, rfl, ?_⟩
  have c1 := ngC_n a.num
  have c2 := denC_at a
  have c3 := sfC_at (-a.num) a.den
  rw [← neg_divInt] at c3
  simp only [q1E, Try.f136]
  have hd := dz a
  simp only [SZ_num ha', SZ_den ha', SZ_neg, ha', hd, ne_eq, not_false_eq_true, and_self] at c1 c2 c3
  generalize eBR (-a) = r at *
  simp only [eBR] at c2 ⊢
  simp [c1, c2, c3]
theorem RNeg_ok : callable Try.prog 136 = true := by kernel_rfl

noncomputable def bInvC := ctM q1E (fun p => qsz p.a < MX ∧ p.a ≠ 0) (fun p => ([.ref 0], [eBR p.a⁻¹]))
theorem bInvC_at (a : Rat) : bInvC [.ref 0, .dat (.ptr (eBR a))] [eBN] = ((qsz a < MX ∧ a ≠ 0), [.ref 0], [eBR a⁻¹]) := ctM_at q1E_inj ⟨a⟩
theorem RInv_spec : SpecM N Try.prog 151 bInvC := by
  refine rdM (mf := brMf) brTb_ok (fn := Try.f151) (by kernel_rfl) rfl (by kernel_rfl) ?_
  rintro ⟨a⟩ ⟨ha, h0⟩
  have ha : qsz a < MX := ha
  have h0 : a ≠ 0 := h0
  unfold MX at ha
  have ha' : qsz a < 1099511627776 := by omega
  refine ⟨by show 2 ≤ 11; decide, rfl, ?_⟩
  have c1 := numC_at a
  have c2 := denC_at a
  have c3 := sfC_at a.den a.num
  rw [← inv_divInt] at c3
  simp only [q1E, Try.f151]
  have hd := num_ne h0
  simp only [SZ_num ha', SZ_den ha', ha', hd, ne_eq, not_false_eq_true, and_self] at c1 c2 c3
  simp [c1, c2, c3]
theorem RInv_ok : callable Try.prog 151 = true := by kernel_rfl

noncomputable def bMulC := ctM q2E (fun p => qsz p.a + qsz p.b < MX) (fun p => ([.ref 0], [eBR (p.a * p.b)]))
theorem bMulC_at (a b : Rat) : bMulC [.ref 0, .dat (.ptr (eBR a)), .dat (.ptr (eBR b))] [eBN] = (qsz a + qsz b < MX, [.ref 0], [eBR (a * b)]) := ctM_at q2E_inj ⟨a, b⟩
theorem RMul_spec : SpecM N Try.prog 112 bMulC := by
  refine rdM (mf := brMf) brTb_ok (fn := Try.f112) (by kernel_rfl) rfl (by kernel_rfl) ?_
  rintro ⟨a, b⟩ ha
  have ha : qsz a + qsz b < MX := ha
  unfold MX at ha
  have ha' : qsz a < 1099511627776 := by omega
  have hb' : qsz b < 1099511627776 := by omega
  obtain ⟨m1, m2⟩ := mul_parts a b
  have s1 : SZ (a.num * b.num) := by rw [SZ_ln]; omega
  have s2 : SZ ((a.den : Int) * b.den) := by rw [SZ_ln]; omega
  refine ⟨by show 3 ≤ 23; decide, rfl, ?_⟩
  have c1 := iMulC_n a.num b.num
  have c2 := denC_at a
  have c3 := denC_at b
  have c4 := iMulC_n a.den b.den
  have c5 := sfC_at (a.num * b.num) ((a.den : Int) * b.den)
  rw [← mul_divInt] at c5
  simp only [q2E, Try.f112]
  have hd := dd_ne a b
  simp only [SZ_num ha', SZ_num hb', SZ_den ha', SZ_den hb', s1, s2, ha', hb', hd, ne_eq, not_false_eq_true, and_self] at c1 c2 c3 c4 c5
  generalize eBR (a * b) = r at *
  generalize a.num * b.num = x at *
  generalize (a.den : Int) * b.den = y at *
  simp only [eBR] at c2 c3 ⊢
  simp [c1, c2, c3, c4, c5]
theorem RMul_ok : callable Try.prog 112 = true := by kernel_rfl

noncomputable def bAddC := ctM q2E (fun p => qsz p.a + qsz p.b < MX) (fun p => ([.ref 0], [eBR (p.a + p.b)]))
theorem bAddC_at (a b : Rat) : bAddC [.ref 0, .dat (.ptr (eBR a)), .dat (.ptr (eBR b))] [eBN] = (qsz a + qsz b < MX, [.ref 0], [eBR (a + b)]) := ctM_at q2E_inj ⟨a, b⟩
theorem RAdd_spec : SpecM N Try.prog 76 bAddC := by
  refine rdM (mf := brMf) brTb_ok (fn := Try.f76) (by kernel_rfl) rfl (by kernel_rfl) ?_
  rintro ⟨a, b⟩ ha
  have ha : qsz a + qsz b < MX := ha
  unfold MX at ha
  have ha' : qsz a < 1099511627776 := by omega
  have hb' : qsz b < 1099511627776 := by omega
  obtain ⟨m1, m2, m3, m4⟩ := add_parts a b
  have s1 : SZ (a.num * b.den) := by rw [SZ_ln]; omega
  have s2 : SZ (b.num * a.den) := by rw [SZ_ln]; omega
  have s3 : SZ (a.num * b.den + b.num * a.den) := by rw [SZ_ln]; omega
  have s4 : SZ ((a.den : Int) * b.den) := by rw [SZ_ln]; omega
  refine ⟨by show 3 ≤ 35; decide, rfl, ?_⟩
  have c1 := iMulC_n a.num b.den
  have c2 := denC_at a
  have c3 := denC_at b
  have c4 := iMulC_n b.num a.den
  have c6 := iAddC_zd (a.num * b.den) (b.num * a.den)
  have c7 := iMulC_n a.den b.den
  have c5 := sfC_at (a.num * b.den + b.num * a.den) ((a.den : Int) * b.den)
  rw [← add_divInt] at c5
  simp only [q2E, Try.f76]
  have hd := dd_ne a b
  simp only [SZ_num ha', SZ_num hb', SZ_den ha', SZ_den hb', s1, s2, s3, s4, ha', hb', hd, ne_eq, not_false_eq_true, and_self] at c1 c2 c3 c4 c5 c6 c7
  generalize eBR (a + b) = r at *
  generalize a.num * b.den + b.num * a.den = z at *
  generalize a.num * b.den = x at *
  generalize b.num * a.den = x2 at *
  generalize (a.den : Int) * b.den = y at *
  simp only [eBR] at c2 c3 ⊢
  simp [c1, c2, c3, c4, c5, c6, c7]
theorem RAdd_ok : callable Try.prog 76 = true := by kernel_rfl

noncomputable def bSubC := ctM q2E (fun p => qsz p.a + qsz p.b < MX) (fun p => ([.ref 0], [eBR (p.a - p.b)]))
theorem bSubC_at (a b : Rat) : bSubC [.ref 0, .dat (.ptr (eBR a)), .dat (.ptr (eBR b))] [eBN] = (qsz a + qsz b < MX, [.ref 0], [eBR (a - b)]) := ctM_at q2E_inj ⟨a, b⟩
noncomputable def bsTb : List (FuncId × Ct) := [(136, .mut [true, false] bNegC), (76, .mut [true, false, false] bAddC)]
theorem bsTb_ok : TbOK N Try.prog (tbl bsTb) := tbl_cons (c := .mut [true, false] bNegC) RNeg_spec RNeg_ok (tbl_cons (c := .mut [true, false, false] bAddC) RAdd_spec RAdd_ok tbl_nil)

@[simp] theorem bsTb1 : tbl bsTb 136 = some (.mut [true, false] bNegC) := rfl
@[simp] theorem bsTb2 : tbl bsTb 76 = some (.mut [true, false, false] bAddC) := rfl
theorem RSub_spec : SpecM N Try.prog 108 bSubC := by
  refine rdM (mf := fun f => f == 136 || f == 76) bsTb_ok (fn := Try.f108) (by kernel_rfl) rfl (by kernel_rfl) ?_
  rintro ⟨a, b⟩ ha
  have ha : qsz a + qsz b < MX := ha
  have hb : qsz b < MX := by omega
  refine ⟨by show 3 ≤ 13; decide, rfl, ?_⟩
  have c1 := bNegC_at b
  have c2 := bAddC_at a (-b)
  rw [← Rat.sub_eq_add_neg, qsz_neg] at c2
  simp only [ha, hb, eBN_eq] at c1 c2
  simp only [q2E, Try.f108, eBN_eq]
  simp [c1, c2]
theorem RSub_ok : callable Try.prog 108 = true := by kernel_rfl

structure Q2c where
  a : Rat
  b : Rat
def bcE (p : Q2c) : List D := [.ptr (eBR p.a), .ptr (eBR p.b)]
theorem bcE_inj (p q : Q2c) (h : bcE p = bcE q) : p = q := by
  obtain ⟨a, b⟩ := p; obtain ⟨c, d⟩ := q
  simp only [bcE, List.cons.injEq, and_true, D.ptr.injEq] at h
  rw [eBR_inj h.1, eBR_inj h.2]
/-- How two fractions compare. -/
def qcmp (a b : Rat) : Int := (a.num * b.den - b.num * a.den).sign
noncomputable def bCmpC := ctD bcE (fun p => qsz p.a + qsz p.b < MX) (fun p => [i64D (qcmp p.a p.b)])
theorem bCmpC_at (a b : Rat) : bCmpC [.ptr (eBR a), .ptr (eBR b)] = (qsz a + qsz b < MX, [i64D (qcmp a b)]) := ctD_at bcE_inj ⟨a, b⟩
theorem RCmp_spec : SpecD N Try.prog 115 bCmpC := by
  refine rdD (mf := brMf) brTb_ok (fn := Try.f115) (by kernel_rfl) rfl (by kernel_rfl) ?_
  rintro ⟨a, b⟩ ha
  have ha : qsz a + qsz b < MX := ha
  unfold MX at ha
  have ha' : qsz a < 1099511627776 := by omega
  have hb' : qsz b < 1099511627776 := by omega
  obtain ⟨m1, m2, m3, m4⟩ := add_parts a b
  have s1 : SZ (a.num * b.den) := by rw [SZ_ln]; omega
  have s2 : SZ (b.num * a.den) := by rw [SZ_ln]; omega
  refine ⟨by show 2 ≤ 20; decide, ?_⟩
  have c1 := iMulC_n a.num b.den
  have c2 := denC_at a
  have c3 := denC_at b
  have c4 := iMulC_n b.num a.den
  have c6 := iCmpC_at (a.num * b.den) (b.num * a.den)
  simp only [bcE, Try.f115, qcmp]
  simp only [SZ_num ha', SZ_num hb', SZ_den ha', SZ_den hb', s1, s2, ha', hb', ne_eq, not_false_eq_true, and_self, i64D] at c1 c2 c3 c4 c6 ⊢
  generalize (a.num * b.den - b.num * a.den).sign = r at *
  generalize a.num * b.den = x at *
  generalize b.num * a.den = x2 at *
  simp only [eBR] at c2 c3 ⊢
  simp [c1, c2, c3, c4, c6]
theorem RCmp_ok : callable Try.prog 115 = true := by kernel_rfl

def siE (p : Z1) : List Ar × List D := ([.ref 0, .dat (.ptr (eZ p.a))], [eBN])
theorem siE_inj (p q : Z1) (h : siE p = siE q) : p = q := by
  obtain ⟨a⟩ := p; obtain ⟨b⟩ := q
  simp only [siE, Prod.mk.injEq, List.cons.injEq, and_true, true_and, Ar.dat.injEq, D.ptr.injEq] at h
  rw [eZ_inj h]
noncomputable def siC := ctM siE (fun p => SZ p.a) (fun p => ([.ref 0], [eBR (p.a : Rat)]))
theorem siC_at (a : Int) : siC [.ref 0, .dat (.ptr (eZ a))] [eBN] = (SZ a, [.ref 0], [eBR (a : Rat)]) := ctM_at siE_inj ⟨a⟩
theorem SetInt_spec : SpecM N Try.prog 117 siC := by
  refine rdM (mf := brMf) brTb_ok (fn := Try.f117) (by kernel_rfl) rfl (by kernel_rfl) ?_
  rintro ⟨a⟩ ha
  have ha : SZ a := ha
  refine ⟨by show 2 ≤ 9; decide, rfl, ?_⟩
  have c1 := newC_at 1
  have c2 := sfC_at a 1
  have h1 : I64 1 := by unfold I64; omega
  have h2 := SZ_I64 h1
  have e : Rat.divInt a 1 = (a : Rat) := by rw [Rat.divInt_eq_div]; grind
  rw [e] at c2
  simp only [ha, h1, h2, i64D, and_self] at c1 c2
  simp only [siE, Try.f117]
  simp at c2
  simp [c1, c2]
theorem SetInt_ok : callable Try.prog 117 = true := by kernel_rfl

noncomputable def nbrC := ctD iiE (fun p => I64 p.a ∧ I64 p.b ∧ p.b ≠ 0) (fun p => [.ptr (eBR (Rat.divInt p.a p.b))])
theorem nbrC_at (a b : Int) : nbrC [i64D a, i64D b] = ((I64 a ∧ I64 b ∧ b ≠ 0), [.ptr (eBR (Rat.divInt a b))]) := ctD_at iiE_inj ⟨a, b⟩
theorem newBigRat_spec : SpecD N Try.prog 77 nbrC := by
  refine rdD (mf := brMf) brTb_ok (fn := Try.f77) (by kernel_rfl) rfl (by kernel_rfl) ?_
  rintro ⟨a, b⟩ ⟨ha, hb, h0⟩
  have ha : I64 a := ha
  have hb : I64 b := hb
  have h0 : b ≠ 0 := h0
  refine ⟨by show 2 ≤ 11; decide, ?_⟩
  have c1 := newC_at a
  have c2 := newC_at b
  have c3 := sfC_n a b
  simp only [ha, hb, h0, SZ_I64 ha, SZ_I64 hb, i64D, and_self, ne_eq, not_false_eq_true] at c1 c2 c3
  simp only [iiE, i64D, Try.f77]
  simp [c1, c2, c3]
theorem newBigRat_ok : callable Try.prog 77 = true := by kernel_rfl
end Go.Proofs.Ytledfadnhcdflaa.Ae

/-! The reference's fractions: what they are worth. No condition. -/
namespace Go.Proofs.Ytledfadnhcdflaa.Ae
open Go Go.RowKit Go.Proofs.Ytledfadnhcdflaa.Dig

def SR.val (r : SR) : Rat := Rat.divInt r.num r.den
/-- A fraction of the reference: of moderate size, great ones in lowest terms. -/
def WV (r : SR) : Prop := WR r ∧ ∀ p q, r = .big p q → Int.gcd p q = 1
theorem WR_den {r : SR} (h : WR r) : 0 < r.den := (WR_SZ h).2.2
/-- In lowest terms. -/
theorem low_div {n d : Int} (h : 0 < d) : n / (Int.gcd n d : Int) = (Rat.divInt n d).num ∧ d / (Int.gcd n d : Int) = (Rat.divInt n d).den := by
  obtain ⟨e1, e2⟩ := low_pos (a := n) h
  have h1 : (Int.gcd n d : Int) ∣ n := Int.gcd_dvd_left ..
  have h2 : (Int.gcd n d : Int) ∣ d := Int.gcd_dvd_right ..
  rw [Int.tdiv_eq_ediv_of_dvd h1] at e1
  rw [Int.tdiv_eq_ediv_of_dvd h2] at e2
  exact ⟨e1, e2⟩
theorem low_k {n d : Int} (h : 0 < d) : ∃ k : Int, 0 < k ∧ n = k * (Rat.divInt n d).num ∧ d = k * (Rat.divInt n d).den := by
  obtain ⟨e1, e2⟩ := low_div (n := n) h
  refine ⟨Int.gcd n d, ?_, ?_, ?_⟩
  · have : Int.gcd n d ≠ 0 := fun h0 => by have := (Int.gcd_eq_zero_iff.1 h0).2; omega
    omega
  · rw [← e1, Int.mul_ediv_cancel' (Int.gcd_dvd_left ..)]
  · rw [← e2, Int.mul_ediv_cancel' (Int.gcd_dvd_right ..)]
theorem val_k {r : SR} (h : WR r) : ∃ k : Int, 0 < k ∧ r.num = k * r.val.num ∧ r.den = k * r.val.den := low_k (WR_den h)
theorem gcd_red (q : Rat) : Int.gcd q.num q.den = 1 := q.reduced
theorem packR_ok {p q : Int} (h0 : 0 < q) (hp : SZ p) (hq : SZ q) (hg : Int.gcd p q = 1) : WV (packR p q) ∧ (packR p q).val = Rat.divInt p q := by
  unfold packR
  split
  · rename_i h
    exact ⟨⟨⟨by omega, h0, by omega⟩, fun _ _ e => by cases e⟩, rfl⟩
  · exact ⟨⟨⟨hp, hq, h0⟩, fun _ _ e => by cases e; exact hg⟩, rfl⟩
theorem packR_low {n d : Int} (h : 0 < d) (hn : SZ n) (hd : SZ d) : WV (packR (n / (Int.gcd n d : Int)) (d / (Int.gcd n d : Int))) ∧ (packR (n / (Int.gcd n d : Int)) (d / (Int.gcd n d : Int))).val = Rat.divInt n d := by
  obtain ⟨e1, e2⟩ := low_div (n := n) h
  rw [e1, e2]
  have h1 := packR_ok (p := (Rat.divInt n d).num) (q := (Rat.divInt n d).den) (by have := (Rat.divInt n d).den_pos; omega) (SZ_le (num_le n d) hn) (SZ_le (by rw [Int.natAbs_natCast]; exact den_le (by omega)) hd) (gcd_red _)
  rw [Rat.num_divInt_den] at h1
  exact h1
theorem ofR_ok {n d : Int} (h0 : 0 < d) (hn : I64 n) (hd : I64 d) : WV (ofR n d) ∧ (ofR n d).val = Rat.divInt n d := by
  unfold ofR
  split
  · rename_i h
    exact ⟨⟨⟨by omega, h0, by omega⟩, fun _ _ e => by cases e⟩, rfl⟩
  · exact packR_low h0 (SZ_I64 hn) (SZ_I64 hd)
theorem bigR_ok {n d : Int} (h0 : d ≠ 0) (hn : SZ n) (hd : SZ d) : WV (bigR n d) ∧ (bigR n d).val = Rat.divInt n d := by
  unfold bigR
  split
  · rename_i h
    subst h
    refine ⟨⟨⟨by decide, by decide, by decide⟩, fun _ _ e => by cases e⟩, ?_⟩
    show Rat.divInt 0 1 = _
    rw [Rat.zero_divInt, Rat.zero_divInt]
  · split
    · rename_i h
      have e : Int.gcd n d = Int.gcd (-n) (-d) := by rw [Int.neg_gcd, Int.gcd_neg]
      rw [e]
      have := packR_low (n := -n) (d := -d) (by omega) (SZ_neg.2 hn) (SZ_neg.2 hd)
      rw [Rat.neg_divInt_neg] at this
      exact this
    · exact packR_low (by omega) hn hd
/-- How many digits it takes. -/
theorem rep_sz {r : SR} (h : WV r) : ln r.num.natAbs ≤ qsz r.val ∧ ln r.den.natAbs ≤ qsz r.val := by
  have h1 := qsz_pos r.val
  have one : ∀ x : Nat, x < 2147483648 → ln x ≤ 1 := fun x hx => ln_iff.2 (by simp only [B]; omega)
  cases r with
  | small n d =>
    obtain ⟨⟨x1, x2, x3⟩, _⟩ := h
    have a1 : ln (SR.small n d).num.natAbs ≤ 1 := one _ x1
    have a2 : ln (SR.small n d).den.natAbs ≤ 1 := one _ (by show d.natAbs < _; omega)
    omega
  | lit n d =>
    obtain ⟨⟨x1, x2, x3⟩, _⟩ := h
    have a1 : ln (SR.lit n d).num.natAbs ≤ 1 := one _ x1
    have a2 : ln (SR.lit n d).den.natAbs ≤ 1 := one _ (by show d.natAbs < _; omega)
    omega
  | big p q =>
    obtain ⟨⟨x1, x2, x3⟩, hg⟩ := h
    have hg := hg p q rfl
    obtain ⟨e1, e2⟩ := low_div (n := p) x3
    rw [hg] at e1 e2
    simp at e1 e2
    have v1 : (SR.big p q).val = Rat.divInt p q := rfl
    have v2 : (SR.big p q).num = p := rfl
    have v3 : (SR.big p q).den = q := rfl
    rw [v1, v2, v3]
    have p1 := qsz_num (Rat.divInt p q)
    have p2 := qsz_den (Rat.divInt p q)
    rw [← e1] at p1
    refine ⟨p1, ?_⟩
    rw [show q.natAbs = (Rat.divInt p q).den by omega]
    exact p2
theorem neg_val (r : SR) : (negR r).val = -r.val := by
  unfold SR.val
  rw [negR_num, negR_den, Rat.neg_divInt]
theorem neg_WV {r : SR} (h : WV r) : WV (negR r) := by
  refine ⟨negR_WR h.1, fun p q e => ?_⟩
  cases r with
  | small n d => cases e
  | lit n d => cases e
  | big p' q' =>
    simp only [negR, SR.big.injEq] at e
    obtain ⟨rfl, rfl⟩ := e
    have := h.2 _ _ rfl
    rw [Int.neg_gcd]
    exact this
theorem SZ_of {a : Int} {k : Nat} (h : ln a.natAbs ≤ k) (hk : k < 1099511627776) : SZ a := by rw [SZ_ln]; omega
/-- The products and sums that a sum asks for. -/
theorem cross_sz {a b : SR} (ha : WV a) (hb : WV b) (h : qsz a.val + qsz b.val < MX) :
    SZ (a.num * b.den) ∧ SZ (b.num * a.den) ∧ SZ (a.num * b.den + b.num * a.den) ∧ SZ (a.num * b.den - b.num * a.den) ∧ SZ (a.den * b.den) ∧ SZ (a.num * b.num) ∧ SZ (a.den * b.num) := by
  unfold MX at h
  obtain ⟨a1, a2⟩ := rep_sz ha
  obtain ⟨b1, b2⟩ := rep_sz hb
  have m1 := ln_na_mul a.num b.den
  have m2 := ln_na_mul b.num a.den
  have m3 := ln_na_add (a.num * b.den) (b.num * a.den)
  have m4 := ln_na_add (a.num * b.den) (-(b.num * a.den))
  rw [Int.natAbs_neg, ← Int.sub_eq_add_neg] at m4
  have m5 := ln_na_mul a.den b.den
  have m6 := ln_na_mul a.num b.num
  have m7 := ln_na_mul a.den b.num
  refine ⟨SZ_of m1 ?_, SZ_of m2 ?_, SZ_of m3 ?_, SZ_of m4 ?_, SZ_of m5 ?_, SZ_of m6 ?_, SZ_of m7 ?_⟩ <;> omega
theorem I64_prod {n d : Int} (hn : n.natAbs < 2147483648) (hd : d.natAbs < 2147483648) : (n * d).natAbs ≤ 4611686014132420609 := by
  rw [Int.natAbs_mul]
  have := Nat.mul_le_mul (show n.natAbs ≤ 2147483647 by omega) (show d.natAbs ≤ 2147483647 by omega)
  omega
theorem not_big {r : SR} (h : WR r) (hb : r.isBig = false) : r.num.natAbs < 2147483648 ∧ 0 < r.den ∧ r.den.natAbs < 2147483648 := by
  cases r with
  | small n d => obtain ⟨x1, x2, x3⟩ := h; exact ⟨x1, x2, by show d.natAbs < _; omega⟩
  | lit n d => obtain ⟨x1, x2, x3⟩ := h; exact ⟨x1, x2, by show d.natAbs < _; omega⟩
  | big p q => cases hb
theorem den_val_ne {r : SR} (h : WR r) : r.den ≠ 0 := by have := WR_den h; omega
theorem add_ok {a b : SR} (ha : WV a) (hb : WV b) (h : qsz a.val + qsz b.val < MX) : WV (addR a b) ∧ (addR a b).val = a.val + b.val := by
  obtain ⟨s1, s2, s3, s4, s5, s6, s7⟩ := cross_sz ha hb h
  have hv : a.val + b.val = Rat.divInt (a.num * b.den + b.num * a.den) (a.den * b.den) := Rat.divInt_add_divInt _ _ (den_val_ne ha.1) (den_val_ne hb.1)
  have hd := Int.mul_pos (WR_den ha.1) (WR_den hb.1)
  rw [hv]
  unfold addR
  split
  · exact bigR_ok (by omega) s3 s5
  · rename_i hbig
    simp only [Bool.or_eq_true, not_or, Bool.not_eq_true] at hbig
    obtain ⟨x1, x2, x3⟩ := not_big ha.1 hbig.1
    obtain ⟨y1, y2, y3⟩ := not_big hb.1 hbig.2
    have p1 := I64_prod x1 y3
    have p2 := I64_prod y1 x3
    have p3 := I64_prod x3 y3
    exact ofR_ok hd (by unfold I64; omega) (by unfold I64; omega)
theorem mul_ok {a b : SR} (ha : WV a) (hb : WV b) (h : qsz a.val + qsz b.val < MX) : WV (mulR a b) ∧ (mulR a b).val = a.val * b.val := by
  obtain ⟨s1, s2, s3, s4, s5, s6, s7⟩ := cross_sz ha hb h
  have hv : a.val * b.val = Rat.divInt (a.num * b.num) (a.den * b.den) := Rat.divInt_mul_divInt _ _
  have hd := Int.mul_pos (WR_den ha.1) (WR_den hb.1)
  rw [hv]
  unfold mulR
  split
  · exact bigR_ok (by omega) s6 s5
  · rename_i hbig
    simp only [Bool.or_eq_true, not_or, Bool.not_eq_true] at hbig
    obtain ⟨x1, x2, x3⟩ := not_big ha.1 hbig.1
    obtain ⟨y1, y2, y3⟩ := not_big hb.1 hbig.2
    have p1 := I64_prod x1 y1
    have p3 := I64_prod x3 y3
    exact ofR_ok hd (by unfold I64; omega) (by unfold I64; omega)
theorem sub_ok {a b : SR} (ha : WV a) (hb : WV b) (h : qsz a.val + qsz b.val < MX) : WV (subR a b) ∧ (subR a b).val = a.val - b.val := by
  have := add_ok ha (neg_WV hb) (by rw [neg_val, qsz_neg]; exact h)
  rw [neg_val, ← Rat.sub_eq_add_neg] at this
  exact this
theorem val_zero {r : SR} (h : WR r) : r.val = 0 ↔ r.num = 0 := by
  obtain ⟨k, h1, h2, h3⟩ := val_k h
  constructor
  · intro h0; rw [h2, h0]; simp
  · intro h0
    unfold SR.val
    rw [h0, Rat.zero_divInt]
theorem div_ok {a b : SR} (ha : WV a) (hb : WV b) (h0 : b.val ≠ 0) (h : qsz a.val + qsz b.val < MX) : WV (divR a b) ∧ (divR a b).val = a.val / b.val := by
  have hn : b.num ≠ 0 := fun h' => h0 ((val_zero hb.1).2 h')
  have inv : b.val⁻¹ = Rat.divInt b.den b.num := by unfold SR.val; exact Rat.inv_divInt _ _
  have small : ∀ n d : Int, b.num = n → b.den = d → n.natAbs < 2147483648 → 0 < d → d < 2147483648 → WV (invR n d) ∧ (invR n d).val = b.val⁻¹ := by
    intro n d e1 e2 x1 x2 x3
    rw [inv, e1, e2]
    rw [e1] at hn
    unfold invR
    split
    · refine ⟨⟨⟨by omega, by omega, by omega⟩, fun _ _ e => by cases e⟩, ?_⟩
      show Rat.divInt (-d) (-n) = _
      rw [Rat.neg_divInt_neg]
    · exact ⟨⟨⟨by omega, by omega, by omega⟩, fun _ _ e => by cases e⟩, rfl⟩
  have hq := qsz_inv h0
  have way : ∀ c : SR, WV c → c.val = b.val⁻¹ → WV (mulR a c) ∧ (mulR a c).val = a.val / b.val := by
    intro c hc he
    have := mul_ok ha hc (by rw [he]; omega)
    rw [he, ← Rat.div_def] at this
    exact this
  cases b with
  | small n d =>
    obtain ⟨x1, x2, x3⟩ := hb.1
    obtain ⟨w1, w2⟩ := small n d rfl rfl x1 x2 x3
    exact way _ w1 w2
  | lit n d =>
    obtain ⟨x1, x2, x3⟩ := hb.1
    obtain ⟨w1, w2⟩ := small n d rfl rfl x1 x2 x3
    exact way _ w1 w2
  | big p q =>
    obtain ⟨s1, s2, s3, s4, s5, s6, s7⟩ := cross_sz ha hb h
    have hv : a.val / (SR.big p q).val = Rat.divInt (a.num * q) (a.den * p) := by
      rw [Rat.div_def, inv]
      exact Rat.divInt_mul_divInt _ _
    rw [hv]
    exact bigR_ok (Int.mul_ne_zero (den_val_ne ha.1) hn) s1 s7
theorem sign_val {r : SR} (h : WR r) : r.num.sign = r.val.num.sign := by
  obtain ⟨k, h1, h2, h3⟩ := val_k h
  rw [h2, Int.sign_mul, Int.sign_eq_one_of_pos h1, Int.one_mul]
theorem cmp_val {a b : SR} (ha : WR a) (hb : WR b) : (a.num * b.den - b.num * a.den).sign = qcmp a.val b.val := by
  obtain ⟨k, h1, h2, h3⟩ := val_k ha
  obtain ⟨l, l1, l2, l3⟩ := val_k hb
  unfold qcmp
  have e : a.num * b.den - b.num * a.den = (k * l) * (a.val.num * b.val.den - b.val.num * a.val.den) := by
    rw [h2, h3, l2, l3]
    grind
  rw [e, Int.sign_mul, Int.sign_eq_one_of_pos (Int.mul_pos h1 l1), Int.one_mul]
theorem floor_val {r : SR} (h : WR r) : r.num / r.den = r.val.floor := by
  obtain ⟨k, h1, h2, h3⟩ := val_k h
  rw [Rat.floor_def]
  conv => lhs; rw [h2, h3]
  exact Int.mul_ediv_mul_of_pos _ _ h1
/-- A Q out of a fraction. -/
def oq (q : Rat) : Int × Int × Bool := if q.num.natAbs ≤ 1000000000000000000 ∧ q.den ≤ 1000000000000000000 then (q.num, q.den, true) else (0, 0, false)
theorem qOf_val {r : SR} (h : WV r) : qOfR r = oq r.val := by
  have small : ∀ n d : Int, r.num = n → r.den = d → n.natAbs < 2147483648 → 0 < d → d < 2147483648 → (n / (Int.gcd n d : Int), d / (Int.gcd n d : Int), true) = oq r.val := by
    intro n d e1 e2 x1 x2 x3
    obtain ⟨k1, k2⟩ := low_div (n := n) x2
    have v : r.val = Rat.divInt n d := by unfold SR.val; rw [e1, e2]
    rw [v, k1, k2]
    unfold oq
    have n1 := num_le n d
    have n2 := den_le (n := n) (d := d) (by omega)
    rw [if_pos ⟨by omega, by omega⟩]
  cases r with
  | small n d =>
    obtain ⟨x1, x2, x3⟩ := h.1
    exact small n d rfl rfl x1 x2 x3
  | lit n d =>
    obtain ⟨x1, x2, x3⟩ := h.1
    exact small n d rfl rfl x1 x2 x3
  | big p q =>
    obtain ⟨⟨x1, x2, x3⟩, hg⟩ := h
    have hg := hg p q rfl
    obtain ⟨e1, e2⟩ := low_div (n := p) x3
    rw [hg] at e1 e2
    simp at e1 e2
    have v1 : (SR.big p q).val = Rat.divInt p q := rfl
    rw [v1]
    unfold qOfR oq
    simp only
    rw [← e1, ← e2]
    have : (q.natAbs ≤ 1000000000000000000) ↔ (Rat.divInt p q).den ≤ 1000000000000000000 := by omega
    simp only [this]
end Go.Proofs.Ytledfadnhcdflaa.Ae

/-! The reference's fractions as opaque numbers. No condition. -/
namespace Go.Proofs.Ytledfadnhcdflaa.Ae
open Go Go.RowKit Go.Proofs.Ytledfadnhcdflaa.Dig

mutual
/-- No opaque number is in it. -/
def D.pl : D → Bool
  | .lit _ => true
  | .num _ _ => false
  | .agg ds => D.pls ds
  | .sl _ xs => D.pls xs
  | .ptr d => D.pl d
def D.pls : List D → Bool
  | [] => true
  | d :: ds => D.pl d && D.pls ds
end
theorem pls_at : ∀ (ds : List D) (i : Nat) (d : D), D.pls ds = true → ds[i]? = some d → d.pl = true
  | [], i, d, _, h => by simp at h
  | x :: ds, 0, d, hp, h => by
    simp at h
    subst h
    simp only [D.pls, Bool.and_eq_true] at hp
    exact hp.1
  | x :: ds, i + 1, d, hp, h => by
    simp only [D.pls, Bool.and_eq_true] at hp
    exact pls_at ds i d hp.2 (by simpa using h)
theorem Rep.plain {N N' : NR} {F : Nat → Prop} {w : World} {d : D} {cs : List Value} (h : Rep N F w d cs) (hp : d.pl = true) : Rep N' F w d cs := by
  induction h with
  | lit h => exact .lit h
  | num h => simp [D.pl] at hp
  | agg hl h ih =>
    simp only [D.pl] at hp
    exact .agg hl (fun i d cs h1 h2 => ih i d cs h1 h2 (pls_at _ i d hp h1))
  | sl A c es hc hm ha h ih =>
    simp only [D.pl] at hp
    exact .sl A c es hc hm ha (fun i d h1 => ih i d h1 (pls_at _ i d hp h1))
  | ptr b off es hb hc h ih =>
    simp only [D.pl] at hp
    exact .ptr b off es hb hc (ih hp)
def NN : NR := ⟨fun _ _ _ _ _ => False, fun h => h.elim, fun h => h.elim, fun _ h => h.elim⟩
/-- A number of the kind 1 is a fraction of the reference with that worth. -/
def NF : NR where
  R k F w q cs := k = 1 ∧ ∃ r, WV r ∧ r.val = q ∧ Rep NN F w (eR r) cs
  len := by
    rintro k F w q cs ⟨rfl, r, _, _, h⟩
    rw [h.len, eR_size]; rfl
  one := by
    rintro k F w q cs ⟨rfl, r, _, _, h⟩
    exact h.one
  mono := by
    rintro k F F' w w' q cs hF ⟨rfl, r, h1, h2, h⟩
    exact ⟨rfl, r, h1, h2, h.mono hF⟩
theorem pls_dg : ∀ l : List Nat, D.pls (l.map dg) = true
  | [] => rfl
  | x :: l => by simp only [List.map_cons, D.pls, pls_dg l, dg, D.pl, Bool.and_self]
theorem pl_eZ (z : Int) : (eZ z).pl = true := by
  simp only [eZ, eM, eW, D.pl, D.pls, pls_dg, Bool.and_self]
theorem pl_eR (r : SR) : (eR r).pl = true := by
  cases r <;> simp [eR, D.pl, D.pls, i64D, pl_eZ]

inductive Cv : D → D → Prop
  | same (d : D) (h : ∀ k q, d ≠ .num k q) : Cv d d
  | num (r : SR) (h : WV r) : Cv (.num 1 r.val) (eR r)
def CvL : List D → List D → Prop
  | [], [] => True
  | x :: a, y :: b => Cv x y ∧ CvL a b
  | _, _ => False
theorem cv_in {F : Nat → Prop} {w : World} {d : D} {v : Value} (h : RepV NF F w d v) : ∃ d', Cv d d' ∧ RepV NF F w d' v := by
  cases d with
  | num k q =>
    obtain ⟨cs, hr, hv⟩ := h
    cases hr with
    | num hr =>
      obtain ⟨rfl, r, h1, rfl, h3⟩ := hr
      refine ⟨eR r, .num r h1, cs, h3.plain (pl_eR r), ?_⟩
      rw [hv]
      unfold mkV
      rw [eR_isAgg]
      rfl
  | _ => exact ⟨_, .same _ (fun k q e => by cases e), h⟩
theorem cv_out {F : Nat → Prop} {w : World} {d d' : D} {v : Value} (hc : Cv d d') (h : RepV NF F w d' v) : RepV NF F w d v := by
  cases hc with
  | same _ _ => exact h
  | num r hw =>
    obtain ⟨cs, hr, hv⟩ := h
    refine ⟨cs, .num ⟨rfl, r, hw, rfl, hr.plain (pl_eR r)⟩, ?_⟩
    rw [hv]
    unfold mkV
    rw [eR_isAgg]
    rfl
theorem cvL_in {F : Nat → Prop} {w : World} : ∀ (ds : List D) (vs : List Value), RepVs NF F w ds vs → ∃ ds', CvL ds ds' ∧ RepVs NF F w ds' vs
  | [], vs, h => ⟨[], trivial, h⟩
  | d :: ds, [], h => by have := h.1; simp at this
  | d :: ds, v :: vs, h => by
    obtain ⟨d', c1, r1⟩ := cv_in (h.2 0 d v rfl rfl)
    obtain ⟨ds', c2, r2⟩ := cvL_in ds vs ⟨by simpa using h.1, fun i d v h1 h2 => h.2 (i + 1) d v (by simpa using h1) (by simpa using h2)⟩
    refine ⟨d' :: ds', ⟨c1, c2⟩, by simp only [List.length_cons]; rw [r2.1], fun i e u h1 h2 => ?_⟩
    cases i with
    | zero =>
      simp only [List.getElem?_cons_zero, Option.some.injEq] at h1 h2
      subst h1 h2
      exact r1
    | succ i => exact r2.2 i e u (by simpa using h1) (by simpa using h2)
theorem cvL_out {F : Nat → Prop} {w : World} : ∀ (ds ds' : List D) (vs : List Value), CvL ds ds' → RepVs NF F w ds' vs → RepVs NF F w ds vs
  | [], [], vs, _, h => h
  | d :: ds, d' :: ds', [], _, h => by have := h.1; simp at this
  | d :: ds, d' :: ds', v :: vs, hc, h => by
    have r1 := cv_out hc.1 (h.2 0 d' v rfl rfl)
    have r2 := cvL_out ds ds' vs hc.2 ⟨by simpa using h.1, fun i d v h1 h2 => h.2 (i + 1) d v (by simpa using h1) (by simpa using h2)⟩
    refine ⟨by simp only [List.length_cons]; rw [r2.1], fun i e u h1 h2 => ?_⟩
    cases i with
    | zero =>
      simp only [List.getElem?_cons_zero, Option.some.injEq] at h1 h2
      subst h1 h2
      exact r1
    | succ i => exact r2.2 i e u (by simpa using h1) (by simpa using h2)
  | [], _ :: _, _, hc, _ => hc.elim
  | _ :: _, [], _, hc, _ => hc.elim
theorem cvR_out {F : Nat → Prop} {w : World} {ds ds' : List D} {v : Value} (hc : CvL ds ds') (h : RepRes NF F w ds' v) : RepRes NF F w ds v := by
  cases ds with
  | nil =>
    cases ds' with
    | nil => exact h
    | cons => exact hc.elim
  | cons d t =>
    cases ds' with
    | nil => exact hc.elim
    | cons d' t' =>
      cases t with
      | nil =>
        cases t' with
        | nil => exact cv_out hc.1 h
        | cons => exact hc.2.elim
      | cons e t =>
        cases t' with
        | nil => exact hc.2.elim
        | cons e' t' =>
          obtain ⟨vs, h1, h2⟩ := h
          exact ⟨vs, h1, cvL_out _ _ _ hc h2⟩
/-- A contract over the reference's fractions is one over opaque numbers. -/
theorem specD_num {P : Program} {f : FuncId} {g g' : List D → Prop × List D} (h : SpecD NF P f g) (hg : ∀ ds', (g' ds').1 → ∀ ds, CvL ds' ds → (g ds).1 ∧ CvL (g' ds').2 (g ds).2) : SpecD NF P f g' := by
  intro ds' hp F w vs hF hr
  obtain ⟨ds, c, hr'⟩ := cvL_in ds' vs hr
  obtain ⟨h1, h2⟩ := hg ds' hp ds c
  exact (h ds h1 F w vs hF hr').mono fun e w' ⟨v, he, hv, hfr⟩ => ⟨v, he, cvR_out h2 hv, hfr⟩
/-- The same for contracts over inputs of a kind. -/
theorem specD_num' {P : Program} {f : FuncId} {g : List D → Prop × List D} {β : Type} {e' : β → List D} {pre' : β → Prop} {post' : β → List D} (h : SpecD NF P f g) (hg : ∀ b, pre' b → ∀ ds, CvL (e' b) ds → (g ds).1 ∧ CvL (post' b) (g ds).2) : SpecD NF P f (ctD e' pre' post') := by
  refine specD_num h (fun ds' hp ds hc => ?_)
  obtain ⟨b, rfl, h1, h2⟩ := ctD_pre hp
  rw [h2]
  exact hg b h1 ds hc
theorem cv_num {q : Rat} {d : D} (h : Cv (.num 1 q) d) : ∃ r, WV r ∧ r.val = q ∧ d = eR r := by
  generalize hx : D.num 1 q = x at h
  cases h with
  | same _ hh => exact absurd hx.symm (hh 1 q)
  | num r hw =>
    injection hx with _ hx
    exact ⟨r, hw, hx.symm, rfl⟩
theorem cv_same {d d' : D} (hd : ∀ k q, d ≠ .num k q) (h : Cv d d') : d' = d := by
  cases h with
  | same _ _ => rfl
  | num r _ => exact absurd rfl (hd 1 r.val)
theorem cv_to {r : SR} {q : Rat} (h : WV r ∧ r.val = q) : Cv (.num 1 q) (eR r) := by
  obtain ⟨h1, rfl⟩ := h
  exact .num r h1
theorem cv1 {q : Rat} {ds : List D} (h : CvL [.num 1 q] ds) : ∃ r, WV r ∧ r.val = q ∧ ds = [eR r] := by
  cases ds with
  | nil => exact h.elim
  | cons d t =>
    cases t with
    | cons e t => exact h.2.elim
    | nil =>
      obtain ⟨r, h1, h2, rfl⟩ := cv_num h.1
      exact ⟨r, h1, h2, rfl⟩
theorem cv2 {q p : Rat} {ds : List D} (h : CvL [.num 1 q, .num 1 p] ds) : ∃ r s, WV r ∧ r.val = q ∧ WV s ∧ s.val = p ∧ ds = [eR r, eR s] := by
  cases ds with
  | nil => exact h.elim
  | cons d t =>
    obtain ⟨r, h1, h2, rfl⟩ := cv_num h.1
    obtain ⟨s, h3, h4, rfl⟩ := cv1 h.2
    exact ⟨r, s, h1, h2, h3, h4, rfl⟩
theorem cvs1 {d : D} {ds : List D} (hd : ∀ k q, d ≠ .num k q) (h : CvL [d] ds) : ds = [d] := by
  cases ds with
  | nil => exact h.elim
  | cons e t =>
    cases t with
    | cons e t => exact h.2.elim
    | nil => rw [cv_same hd h.1]
theorem cvs2 {d e : D} {ds : List D} (hd : ∀ k q, d ≠ .num k q) (he : ∀ k q, e ≠ .num k q) (h : CvL [d, e] ds) : ds = [d, e] := by
  cases ds with
  | nil => exact h.elim
  | cons x t => rw [cv_same hd h.1, cvs1 he h.2]
theorem cvo1 {d : D} (hd : ∀ k q, d ≠ .num k q) : CvL [d] [d] := ⟨.same d hd, trivial⟩
theorem cvo2 {d e : D} (hd : ∀ k q, d ≠ .num k q) (he : ∀ k q, e ≠ .num k q) : CvL [d, e] [d, e] := ⟨.same d hd, .same e he, trivial⟩

def nD (q : Rat) : D := .num 1 q
@[simp] theorem nD_size (q : Rat) : (nD q).size = 3 := rfl
@[simp] theorem nD_agg (q : Rat) : (nD q).isAgg = true := rfl
@[simp] theorem nD_lit (q : Rat) : (nD q).isLit = false := rfl
theorem nD_inj {a b : Rat} (h : nD a = nD b) : a = b := by unfold nD at h; injection h
def f1E (p : Q1) : List D := [nD p.a]
theorem f1E_inj (p q : Q1) (h : f1E p = f1E q) : p = q := by
  obtain ⟨a⟩ := p; obtain ⟨b⟩ := q
  simp only [f1E, List.cons.injEq, and_true] at h
  rw [nD_inj h]
def f2E (p : Q2) : List D := [nD p.a, nD p.b]
theorem f2E_inj (p q : Q2) (h : f2E p = f2E q) : p = q := by
  obtain ⟨a, b⟩ := p; obtain ⟨c, d⟩ := q
  simp only [f2E, List.cons.injEq, and_true] at h
  rw [nD_inj h.1, nD_inj h.2]
end Go.Proofs.Ytledfadnhcdflaa.Ae

/-! impl.rat: what it holds; little, big, fit, ri, rq, low, neg. No condition. -/
namespace Go.Proofs.Ytledfadnhcdflaa.Ae
open Go Go.RowKit Go.Proofs.Ytledfadnhcdflaa.Dig
variable {N : NR}

def smallQ (q : Rat) : Prop := q.num.natAbs < 9223372036854775808 ∧ q.den < 9223372036854775808
instance (q : Rat) : Decidable (smallQ q) := by unfold smallQ; infer_instance
/-- A fraction as the program holds it. -/
def eRat (q : Rat) : D := if smallQ q then .agg [i64D q.num, i64D q.den, .lit (.pointer none)] else .agg [i64D 0, i64D 0, .ptr (eBR q)]
theorem eRat_s {q : Rat} (h : smallQ q) : eRat q = .agg [i64D q.num, i64D q.den, .lit (.pointer none)] := by unfold eRat; rw [if_pos h]
theorem eRat_b {q : Rat} (h : ¬ smallQ q) : eRat q = .agg [i64D 0, i64D 0, .ptr (eBR q)] := by unfold eRat; rw [if_neg h]
@[simp] theorem eRat_size (q : Rat) : (eRat q).size = 3 := by unfold eRat; split <;> rfl
@[simp] theorem eRat_agg (q : Rat) : (eRat q).isAgg = true := by unfold eRat; split <;> rfl
@[simp] theorem eRat_lit (q : Rat) : (eRat q).isLit = false := by unfold eRat; split <;> rfl
theorem eRat_inj {a b : Rat} (h : eRat a = eRat b) : a = b := by
  by_cases ha : smallQ a <;> by_cases hb : smallQ b
  · rw [eRat_s ha, eRat_s hb] at h
    simp only [D.agg.injEq, List.cons.injEq, and_true, i64D, D.lit.injEq, Value.int.injEq, true_and] at h
    exact Rat.ext h.1 (by omega)
  · rw [eRat_s ha, eRat_b hb] at h; simp at h
  · rw [eRat_b ha, eRat_s hb] at h; simp at h
  · rw [eRat_b ha, eRat_b hb] at h
    simp only [D.agg.injEq, List.cons.injEq, and_true, true_and, D.ptr.injEq] at h
    exact eBR_inj h
def r1E (p : Q1) : List D := [eRat p.a]
theorem r1E_inj (p q : Q1) (h : r1E p = r1E q) : p = q := by
  obtain ⟨a⟩ := p; obtain ⟨b⟩ := q
  simp only [r1E, List.cons.injEq, and_true] at h
  rw [eRat_inj h]
def r2E (p : Q2) : List D := [eRat p.a, eRat p.b]
theorem r2E_inj (p q : Q2) (h : r2E p = r2E q) : p = q := by
  obtain ⟨a, b⟩ := p; obtain ⟨c, d⟩ := q
  simp only [r2E, List.cons.injEq, and_true] at h
  rw [eRat_inj h.1, eRat_inj h.2]
def boolD (b : Bool) : D := .lit (.bool b)
theorem smallQ_qsz {q : Rat} (h : smallQ q) : qsz q ≤ 2 := by
  unfold smallQ at h
  exact Nat.max_le.2 ⟨ln_i64 (by omega), ln_i64 (by omega)⟩

/-! little -/
def lit31 (q : Rat) : Prop := q.num.natAbs < 2147483648 ∧ q.den < 2147483648
instance (q : Rat) : Decidable (lit31 q) := by unfold lit31; infer_instance
theorem lit31_small {q : Rat} (h : lit31 q) : smallQ q := ⟨by unfold lit31 at h; omega, by unfold lit31 at h; omega⟩
noncomputable def littleC := ctD r1E (fun p => True) (fun p => [boolD (decide (lit31 p.a))])
theorem littleC_at (a : Rat) : littleC [eRat a] = (True, [boolD (decide (lit31 a))]) := ctD_at r1E_inj ⟨a⟩
theorem little_spec : SpecD N Try.prog 105 littleC := by
  refine rdD (mf := fun f => false) tbl_nil (fn := Try.f105) (by kernel_rfl) rfl (by kernel_rfl) ?_
  rintro ⟨a⟩ _
  refine ⟨by show 1 ≤ 21; decide, ?_⟩
  simp only [r1E, Try.f105, boolD]
  by_cases ha : smallQ a
  · rw [eRat_s ha]
    have e : decide (lit31 a) = (decide (-2147483648 < a.num) && (decide (a.num < 2147483648) && decide ((a.den : Int) < 2147483648))) := by
      rw [← Bool.decide_and, ← Bool.decide_and]
      congr 1
      apply propext
      unfold lit31
      omega
    rw [e]
    generalize a.num = n
    generalize (a.den : Int) = d
    by_cases h1 : -2147483648 < n <;> by_cases h2 : n < 2147483648 <;> by_cases h3 : d < 2147483648 <;> simp [i64D, h1, h2, h3]
  · have e : decide (lit31 a) = false := by
      rw [decide_eq_false_iff_not]
      exact fun h => ha (lit31_small h)
    rw [eRat_b ha, e]
    simp [i64D]
theorem little_ok : callable Try.prog 105 = true := by kernel_rfl

/-! big -/
noncomputable def bigIC := ctD r1E (fun p => True) (fun p => [.ptr (eBR p.a)])
theorem bigIC_at (a : Rat) : bigIC [eRat a] = (True, [.ptr (eBR a)]) := ctD_at r1E_inj ⟨a⟩
noncomputable def bigITb : List (FuncId × Ct) := [(77, .data nbrC)]
theorem bigITb_ok : TbOK N Try.prog (tbl bigITb) := tbl_cons (c := .data nbrC) newBigRat_spec newBigRat_ok tbl_nil

@[simp] theorem bigITb1 : tbl bigITb 77 = some (.data nbrC) := rfl
theorem big_spec : SpecD N Try.prog 106 bigIC := by
  refine rdD (mf := fun f => false) bigITb_ok (fn := Try.f106) (by kernel_rfl) rfl (by kernel_rfl) ?_
  rintro ⟨a⟩ _
  refine ⟨by show 1 ≤ 13; decide, ?_⟩
  simp only [r1E, Try.f106]
  by_cases ha : smallQ a
  · rw [eRat_s ha]
    have c1 := nbrC_at a.num a.den
    unfold smallQ at ha
    have h1 : I64 a.num := by unfold I64; omega
    have h2 : I64 (a.den : Int) := by unfold I64; omega
    rw [Rat.num_divInt_den] at c1
    simp only [h1, h2, dz a, ne_eq, not_false_eq_true, and_self, i64D] at c1
    simp [i64D, c1]
  · rw [eRat_b ha]
    simp [i64D]
theorem big_ok : callable Try.prog 106 = true := by kernel_rfl

/-! fit -/
noncomputable def fitC := ctD pbE (fun p => qsz p.a < 1099511627776) (fun p => [eRat p.a])
theorem fitC_at (a : Rat) : fitC [.ptr (eBR a)] = (qsz a < 1099511627776, [eRat a]) := ctD_at pbE_inj ⟨a⟩
noncomputable def fitTb : List (FuncId × Ct) := [(95, .data numC), (97, .data denC), (96, .data isI64C), (98, .data int64C)]
theorem fitTb_ok : TbOK N Try.prog (tbl fitTb) := tbl_cons (c := .data numC) Num_spec Num_ok (tbl_cons (c := .data denC) Denom_spec Denom_ok (tbl_cons (c := .data isI64C) IsInt64_spec IsInt64_ok (tbl_cons (c := .data int64C) Int64_spec Int64_ok tbl_nil)))

@[simp] theorem fitTb1 : tbl fitTb 95 = some (.data numC) := rfl
@[simp] theorem fitTb2 : tbl fitTb 97 = some (.data denC) := rfl
@[simp] theorem fitTb3 : tbl fitTb 96 = some (.data isI64C) := rfl
@[simp] theorem fitTb4 : tbl fitTb 98 = some (.data int64C) := rfl
theorem fit_spec : SpecD N Try.prog 42 fitC := by
  refine rdD (mf := fun f => false) fitTb_ok (fn := Try.f42) (by kernel_rfl) rfl (by kernel_rfl) ?_
  rintro ⟨a⟩ ha
  have ha : qsz a < 1099511627776 := ha
  refine ⟨by show 1 ≤ 24; decide, ?_⟩
  simp only [pbE, Try.f42]
  have c1 := numC_at a
  have c2 := denC_at a
  have c3 := isI64C_at a.num
  have c4 := isI64C_at a.den
  have c5 := int64C_at a.num
  have c6 := int64C_at a.den
  simp only [ha, SZ_num ha, SZ_den ha, i64D] at c1 c2 c3 c4 c5 c6
  by_cases hs : smallQ a
  · rw [eRat_s hs]
    unfold smallQ at hs
    have h1 : I64 a.num := by unfold I64; omega
    have h2 : I64 (a.den : Int) := by unfold I64; omega
    have h3 : -9223372036854775808 < a.num := by omega
    simp only [h1, h2, decide_true] at c3 c4 c5 c6
    simp [i64D, c1, c2, c3, c4, c5, c6, h3]
  · rw [eRat_b hs]
    by_cases h1 : I64 a.num
    · by_cases h2 : I64 (a.den : Int)
      · have h3 : ¬ -9223372036854775808 < a.num := by
          intro h
          refine hs ⟨?_, ?_⟩
          · unfold I64 at h1; omega
          · unfold I64 at h2; omega
        simp only [h1, h2, decide_true] at c3 c4 c5 c6
        simp [i64D, c1, c2, c3, c4, c5, c6, h3]
      · simp only [h1, h2, decide_true, decide_false] at c3 c4
        simp [i64D, c1, c2, c3, c4]
    · simp only [h1, decide_false] at c3
      simp [i64D, c1, c2, c3]
theorem fit_ok : callable Try.prog 42 = true := by kernel_rfl

/-! ri, rq, low, neg -/
theorem smallQ_int {n : Int} (h : n.natAbs < 9223372036854775808) : smallQ (n : Rat) := ⟨by rw [Rat.num_intCast]; exact h, by rw [Rat.den_intCast]; decide⟩
noncomputable def riC := ctD z1E (fun p => p.a.natAbs < 9223372036854775808) (fun p => [eRat (p.a : Rat)])
theorem riC_at (a : Int) : riC [i64D a] = (a.natAbs < 9223372036854775808, [eRat (a : Rat)]) := ctD_at z1E_inj ⟨a⟩
theorem ri_spec : SpecD N Try.prog 67 riC := by
  refine rdD (mf := fun f => false) tbl_nil (fn := Try.f67) (by kernel_rfl) rfl (by kernel_rfl) ?_
  rintro ⟨a⟩ ha
  have ha : a.natAbs < 9223372036854775808 := ha
  refine ⟨by show 1 ≤ 5; decide, ?_⟩
  simp only [z1E, Try.f67, eRat_s (smallQ_int ha), Rat.num_intCast, Rat.den_intCast, i64D]
  simp
/-- A fraction in lowest terms. -/
def QI (n d : Int) : Prop := 0 < d ∧ Int.gcd n d = 1 ∧ n.natAbs < 9223372036854775808 ∧ d < 9223372036854775808
theorem QI_num {n d : Int} (h : QI n d) : (Rat.divInt n d).num = n ∧ ((Rat.divInt n d).den : Int) = d := by
  obtain ⟨h1, h2, _⟩ := h
  obtain ⟨e1, e2⟩ := low_pos (a := n) h1
  rw [h2] at e1 e2
  rw [← e1, ← e2]
  simp
theorem QI_small {n d : Int} (h : QI n d) : smallQ (Rat.divInt n d) := by
  obtain ⟨e1, e2⟩ := QI_num h
  obtain ⟨h1, h2, h3, h4⟩ := h
  refine ⟨by rw [e1]; exact h3, by omega⟩
theorem eRat_QI {n d : Int} (h : QI n d) : eRat (Rat.divInt n d) = .agg [i64D n, i64D d, .lit (.pointer none)] := by
  obtain ⟨e1, e2⟩ := QI_num h
  rw [eRat_s (QI_small h), e1, e2]
noncomputable def rqC := ctD qE (fun p => QI p.a p.b) (fun p => [eRat (Rat.divInt p.a p.b)])
theorem rqC_at (a b : Int) : rqC [eQ a b] = (QI a b, [eRat (Rat.divInt a b)]) := ctD_at qE_inj ⟨a, b⟩
theorem rq_spec : SpecD N Try.prog 50 rqC := by
  refine rdD (mf := fun f => false) tbl_nil (fn := Try.f50) (by kernel_rfl) rfl (by kernel_rfl) ?_
  rintro ⟨a, b⟩ h
  have h : QI a b := h
  refine ⟨by show 1 ≤ 8; decide, ?_⟩
  simp only [qE, Try.f50, eRat_QI h, i64D, eQ]
  simp
theorem rq_ok : callable Try.prog 50 = true := by kernel_rfl

/-! low -/
noncomputable def lowC := ctD iiE (fun p => p.a.natAbs < 9223372036854775808 ∧ 0 < p.b ∧ p.b < 9223372036854775808) (fun p => [eRat (Rat.divInt p.a p.b)])
theorem lowC_at (a b : Int) : lowC [i64D a, i64D b] = ((a.natAbs < 9223372036854775808 ∧ 0 < b ∧ b < 9223372036854775808), [eRat (Rat.divInt a b)]) := ctD_at iiE_inj ⟨a, b⟩
noncomputable def lowTb : List (FuncId × Ct) := [(110, .data absC), (109, .data gcdC)]
theorem lowTb_ok : TbOK N Try.prog (tbl lowTb) := tbl_cons (c := .data absC) abs64_spec abs64_ok (tbl_cons (c := .data gcdC) gcd64_spec gcd64_ok tbl_nil)

@[simp] theorem lowTb1 : tbl lowTb 110 = some (.data absC) := rfl
@[simp] theorem lowTb2 : tbl lowTb 109 = some (.data gcdC) := rfl
theorem small_divInt {n d : Int} (hn : n.natAbs < 9223372036854775808) (h0 : 0 < d) (hd : d < 9223372036854775808) : smallQ (Rat.divInt n d) :=
  ⟨Nat.lt_of_le_of_lt (num_le n d) hn, Nat.lt_of_le_of_lt (den_le (by omega)) (by omega)⟩
theorem low_spec : SpecD N Try.prog 75 lowC := by
  refine rdD (mf := fun f => false) lowTb_ok (fn := Try.f75) (by kernel_rfl) rfl (by kernel_rfl) ?_
  rintro ⟨n, d⟩ ⟨hn, h0, hd⟩
  have hn : n.natAbs < 9223372036854775808 := hn
  have h0 : 0 < d := h0
  have hd : d < 9223372036854775808 := hd
  refine ⟨by show 2 ≤ 23; decide, ?_⟩
  have hs := small_divInt hn h0 hd
  obtain ⟨e1, e2⟩ := low_pos (a := n) h0
  rw [eRat_s hs, ← e1, ← e2]
  have c1 := absC_at n
  have c2 := gcdC_at n.natAbs d.natAbs
  have h1 : I64 n := by unfold I64; omega
  have h2 : n.natAbs < 18446744073709551616 := by omega
  have h3 : d.natAbs < 18446744073709551616 := by omega
  have e3 : Nat.gcd n.natAbs d.natAbs = Int.gcd n d := rfl
  have hg0 : 0 < Int.gcd n d := by
    rcases Nat.eq_zero_or_pos (Int.gcd n d) with h | h
    · have := (Int.gcd_eq_zero_iff.1 h).2; omega
    · exact h
  have hgl : Int.gcd n d ≤ d.natAbs := Nat.le_of_dvd (by omega) (Nat.gcd_dvd_right _ _)
  have w1 : IntKind.u64.wrap d = (d.natAbs : Int) := by rw [wrap_u64]; omega
  simp only [h1, h2, h3, e3, and_self, u64D, i64D] at c1 c2
  have b1 := Int.natAbs_tdiv n (Int.gcd n d)
  have b2 := Int.natAbs_tdiv d (Int.gcd n d)
  have b3 : (Int.tdiv n (Int.gcd n d)).natAbs ≤ n.natAbs := by rw [b1]; exact Nat.div_le_self _ _
  have b4 : (Int.tdiv d (Int.gcd n d)).natAbs ≤ d.natAbs := by rw [b2]; exact Nat.div_le_self _ _
  have w3 : IntKind.i64.wrap (Int.tdiv n (Int.gcd n d)) = Int.tdiv n (Int.gcd n d) := i64_id _ (by omega) (by omega)
  have w4 : IntKind.i64.wrap (Int.tdiv d (Int.gcd n d)) = Int.tdiv d (Int.gcd n d) := i64_id _ (by omega) (by omega)
  have w2 : IntKind.i64.wrap (Int.gcd n d : Int) = (Int.gcd n d : Int) := i64_id _ (by omega) (by omega)
  clear b1 b2 e1 e2 hs
  simp only [iiE, Try.f75, i64D]
  generalize Int.gcd n d = g at *
  generalize hx : Int.tdiv n (g : Int) = x at *
  generalize hy : Int.tdiv d (g : Int) = y at *
  have hgz : ¬ g = 0 := by omega
  by_cases h4 : 1 < g
  · have h4' : (1 : Int) < g := by omega
    simp [c1, c2, w1, w2, hx, hy, w3, w4, h4', h4, hgz]
  · have h5 : g = 1 := by omega
    subst h5
    simp at hx hy w2
    subst hx hy
    simp [c1, c2, w1, w2]
theorem low_ok : callable Try.prog 75 = true := by kernel_rfl

/-! neg -/
noncomputable def rngC := ctD r1E (fun p => qsz p.a < MX) (fun p => [eRat (-p.a)])
theorem rngC_at (a : Rat) : rngC [eRat a] = (qsz a < MX, [eRat (-a)]) := ctD_at r1E_inj ⟨a⟩
theorem smallQ_neg {a : Rat} : smallQ (-a) ↔ smallQ a := by unfold smallQ; rw [Rat.neg_num, Rat.neg_den, Int.natAbs_neg]
noncomputable def ngTb : List (FuncId × Ct) := [(136, .mut [true, false] bNegC)]
theorem ngTb_ok : TbOK N Try.prog (tbl ngTb) := tbl_cons (c := .mut [true, false] bNegC) RNeg_spec RNeg_ok tbl_nil

@[simp] theorem ngTb1 : tbl ngTb 136 = some (.mut [true, false] bNegC) := rfl
theorem rneg_spec : SpecD N Try.prog 78 rngC := by
  refine rdD (mf := fun f => f == 136 || f == bld 57) ngTb_ok (fn := Try.f78) (by kernel_rfl) rfl (by kernel_rfl) ?_
  rintro ⟨a⟩ ha
  have ha : qsz a < MX := ha
  refine ⟨by show 1 ≤ 17; decide, ?_⟩
  simp only [r1E, Try.f78]
  by_cases hs : smallQ a
  · rw [eRat_s hs, eRat_s (smallQ_neg.2 hs), Rat.neg_num, Rat.neg_den]
    unfold smallQ at hs
    have w : IntKind.i64.wrap (-a.num) = -a.num := i64_id _ (by omega) (by omega)
    simp [i64D, w]
  · rw [eRat_b hs, eRat_b (fun h => hs (smallQ_neg.1 h))]
    have c1 := bNegC_at a
    simp only [ha, eBN_eq] at c1
    simp [i64D, c1]
theorem rneg_ok : callable Try.prog 78 = true := by kernel_rfl
theorem ri_ok : callable Try.prog 67 = true := by kernel_rfl
end Go.Proofs.Ytledfadnhcdflaa.Ae

/-! impl.rat: add, sub. No condition. -/
namespace Go.Proofs.Ytledfadnhcdflaa.Ae
open Go Go.RowKit Go.Proofs.Ytledfadnhcdflaa.Dig
variable {N : NR}

theorem rat_eq (a : Rat) : a = (a.num : Rat) / ((a.den : Int) : Rat) := by
  rw [← Rat.divInt_eq_div, Rat.num_divInt_den]
theorem den_rz (a : Rat) : ((a.den : Int) : Rat) ≠ 0 := by
  intro h
  exact dz a (by exact_mod_cast h)
theorem add_same {a b : Rat} (h : a.den = b.den) : a + b = Rat.divInt (a.num + b.num) a.den := by
  have h1 := rat_eq a
  have h2 := rat_eq b
  rw [← h] at h2
  rw [Rat.divInt_eq_div, Rat.intCast_add]
  have h3 := den_rz a
  grind
theorem sub_same {a b : Rat} (h : a.den = b.den) : a - b = Rat.divInt (a.num - b.num) a.den := by
  have h1 := rat_eq a
  have h2 := rat_eq b
  rw [← h] at h2
  rw [Rat.divInt_eq_div, Rat.intCast_sub]
  have h3 := den_rz a
  grind
theorem sub_divInt (a b : Rat) : a - b = Rat.divInt (a.num * b.den - b.num * a.den) (a.den * b.den) := by
  have := add_divInt a (-b)
  rw [Rat.neg_num, Rat.neg_den, Int.neg_mul, ← Int.sub_eq_add_neg, ← Rat.sub_eq_add_neg] at this
  exact this
noncomputable def raTb : List (FuncId × Ct) := [(105, .data littleC), (75, .data lowC), (106, .data bigIC), (76, .mut [true, false, false] bAddC), (108, .mut [true, false, false] bSubC), (42, .data fitC)]
theorem raTb_ok : TbOK N Try.prog (tbl raTb) := tbl_cons (c := .data littleC) little_spec little_ok (tbl_cons (c := .data lowC) low_spec low_ok (tbl_cons (c := .data bigIC) big_spec big_ok (tbl_cons (c := .mut [true, false, false] bAddC) RAdd_spec RAdd_ok (tbl_cons (c := .mut [true, false, false] bSubC) RSub_spec RSub_ok (tbl_cons (c := .data fitC) fit_spec fit_ok tbl_nil)))))

@[simp] theorem raTb1 : tbl raTb 105 = some (.data littleC) := rfl
@[simp] theorem raTb2 : tbl raTb 75 = some (.data lowC) := rfl
@[simp] theorem raTb3 : tbl raTb 106 = some (.data bigIC) := rfl
@[simp] theorem raTb4 : tbl raTb 76 = some (.mut [true, false, false] bAddC) := rfl
@[simp] theorem raTb5 : tbl raTb 108 = some (.mut [true, false, false] bSubC) := rfl
@[simp] theorem raTb6 : tbl raTb 42 = some (.data fitC) := rfl
def raMf : FuncId → Bool := fun f => f == 76 || f == 108 || f == 42
attribute [simp] raMf
theorem prod31 {n d : Int} (hn : n.natAbs < 2147483648) (hd : 0 < d ∧ d < 2147483648) : -4611686018427387904 < n * d ∧ n * d < 4611686018427387904 := prod_bd hn hd

noncomputable def raddC := ctD r2E (fun p => qsz p.a + qsz p.b < MX) (fun p => [eRat (p.a + p.b)])
theorem raddC_at (a b : Rat) : raddC [eRat a, eRat b] = (qsz a + qsz b < MX, [eRat (a + b)]) := ctD_at r2E_inj ⟨a, b⟩
set_option maxHeartbeats 4000000 in
theorem radd_spec : SpecD N Try.prog 51 raddC := by
  refine rdD (mf := raMf) raTb_ok (fn := Try.f51) (by kernel_rfl) rfl (by kernel_rfl) ?_
  rintro ⟨a, b⟩ hq
  have hq : qsz a + qsz b < MX := hq
  refine ⟨by show 2 ≤ 62; decide, ?_⟩
  have c1 := littleC_at a
  have c2 := littleC_at b
  simp only [r2E, Try.f51, boolD] at c1 c2 ⊢
  by_cases hab : lit31 a ∧ lit31 b
  · obtain ⟨ha, hb⟩ := hab
    have sa := lit31_small ha
    have sb := lit31_small hb
    rw [eRat_s sa] at c1 ⊢
    rw [eRat_s sb] at c2 ⊢
    simp only [ha, hb, decide_true, i64D] at c1 c2
    unfold lit31 at ha hb
    have da := a.den_pos
    have db := b.den_pos
    have x1 := prod31 ha.1 (d := b.den) (by omega)
    have x2 := prod31 hb.1 (d := a.den) (by omega)
    have x3 := pos_bd (c := a.den) (d := b.den) (by omega) (by omega)
    have w1 : IntKind.i64.wrap (a.num + b.num) = a.num + b.num := i64_id _ (by omega) (by omega)
    have w2 : IntKind.i64.wrap (a.num * b.den) = a.num * b.den := i64_id _ (by omega) (by omega)
    have w3 : IntKind.i64.wrap (b.num * a.den) = b.num * a.den := i64_id _ (by omega) (by omega)
    have w4 : IntKind.i64.wrap ((a.den : Int) * b.den) = (a.den : Int) * b.den := i64_id _ (by omega) (by omega)
    have w5 : IntKind.i64.wrap (a.num * b.den + b.num * a.den) = a.num * b.den + b.num * a.den := i64_id _ (by omega) (by omega)
    by_cases hd : a.den = b.den
    · by_cases h1 : b.den = 1
      · have e := add_same hd
        have hQ : QI (a.num + b.num) 1 := ⟨by omega, by simp, by omega, by omega⟩
        rw [hd, h1] at e
        rw [e]
        have e2 := eRat_QI hQ
        have e3 : Rat.divInt (a.num + b.num) ((1 : Nat) : Int) = Rat.divInt (a.num + b.num) 1 := rfl
        rw [e3, e2, hd, h1]
        rw [hd, h1] at c1
        rw [h1] at c2
        simp at c1 c2
        simp [i64D, c1, c2, w1]
      · have e := add_same hd
        have c3 := lowC_at (a.num + b.num) b.den
        have b1 : (a.num + b.num).natAbs < 9223372036854775808 := by omega
        have b2 : 0 < (b.den : Int) := by omega
        have b3 : (b.den : Int) < 9223372036854775808 := by omega
        simp only [b1, b2, b3, and_self, i64D] at c3
        rw [e]
        rw [hd] at c1 ⊢
        have h1' : ¬ (b.den : Int) = 1 := by omega
        simp [i64D, c1, c2, c3, w1, h1, h1']
    · have c3 := lowC_at (a.num * b.den + b.num * a.den) ((a.den : Int) * b.den)
      have b1 : (a.num * b.den + b.num * a.den).natAbs < 9223372036854775808 := by omega
      have b2 : 0 < (a.den : Int) * b.den := by omega
      have b3 : (a.den : Int) * b.den < 9223372036854775808 := by omega
      simp only [b1, b2, b3, and_self, i64D] at c3
      rw [← add_divInt] at c3
      generalize a + b = ab at *
      have h0 : ¬ ((a.den : Int) = 1 ∧ (b.den : Int) = 1) := by omega
      have h2 : ¬ (a.den : Int) = b.den := by omega
      generalize (a.den : Int) = d at *
      generalize (b.den : Int) = d' at *
      generalize a.num = n at *
      generalize b.num = n' at *
      by_cases h1 : d = 1
      · have h3 : ¬ d' = 1 := by omega
        subst h1
        simp at c1 c3 w3 w4 w5 h2
        simp [i64D, c1, c2, c3, w1, w2, w3, w4, w5, h2, h3]
      · simp [i64D, c1, c2, c3, w1, w2, w3, w4, w5, h1, h2]
  · have c3 := bigIC_at a
    have c4 := bigIC_at b
    have c5 := bAddC_at a b
    have c6 := fitC_at (a + b)
    have hs := qsz_add a b
    have hs' : qsz (a + b) < 1099511627776 := by unfold MX at hq; omega
    simp only [hq, hs', eBN_eq] at c5 c6
    generalize a + b = ab at *
    by_cases ha : lit31 a
    · have hb : ¬ lit31 b := fun h => hab ⟨ha, h⟩
      simp only [ha, hb, decide_true, decide_false] at c1 c2
      simp [-D.isLit, c1, c2, c3, c4, c5, c6, List.idxOf_cons]
    · simp only [ha, decide_false] at c1
      simp [-D.isLit, c1, c3, c4, c5, c6, List.idxOf_cons]
theorem radd_ok : callable Try.prog 51 = true := by kernel_rfl

noncomputable def rsubC := ctD r2E (fun p => qsz p.a + qsz p.b < MX) (fun p => [eRat (p.a - p.b)])
theorem rsubC_at (a b : Rat) : rsubC [eRat a, eRat b] = (qsz a + qsz b < MX, [eRat (a - b)]) := ctD_at r2E_inj ⟨a, b⟩
set_option maxHeartbeats 4000000 in
theorem rsub_spec : SpecD N Try.prog 53 rsubC := by
  refine rdD (mf := raMf) raTb_ok (fn := Try.f53) (by kernel_rfl) rfl (by kernel_rfl) ?_
  rintro ⟨a, b⟩ hq
  have hq : qsz a + qsz b < MX := hq
  refine ⟨by show 2 ≤ 62; decide, ?_⟩
  have c1 := littleC_at a
  have c2 := littleC_at b
  simp only [r2E, Try.f53, boolD] at c1 c2 ⊢
  by_cases hab : lit31 a ∧ lit31 b
  · obtain ⟨ha, hb⟩ := hab
    have sa := lit31_small ha
    have sb := lit31_small hb
    rw [eRat_s sa] at c1 ⊢
    rw [eRat_s sb] at c2 ⊢
    simp only [ha, hb, decide_true, i64D] at c1 c2
    unfold lit31 at ha hb
    have da := a.den_pos
    have db := b.den_pos
    have x1 := prod31 ha.1 (d := b.den) (by omega)
    have x2 := prod31 hb.1 (d := a.den) (by omega)
    have x3 := pos_bd (c := a.den) (d := b.den) (by omega) (by omega)
    have w1 : IntKind.i64.wrap (a.num - b.num) = a.num - b.num := i64_id _ (by omega) (by omega)
    have w2 : IntKind.i64.wrap (a.num * b.den) = a.num * b.den := i64_id _ (by omega) (by omega)
    have w3 : IntKind.i64.wrap (b.num * a.den) = b.num * a.den := i64_id _ (by omega) (by omega)
    have w4 : IntKind.i64.wrap ((a.den : Int) * b.den) = (a.den : Int) * b.den := i64_id _ (by omega) (by omega)
    have w5 : IntKind.i64.wrap (a.num * b.den - b.num * a.den) = a.num * b.den - b.num * a.den := i64_id _ (by omega) (by omega)
    by_cases hd : a.den = b.den
    · by_cases h1 : b.den = 1
      · have e := sub_same hd
        have hQ : QI (a.num - b.num) 1 := ⟨by omega, by simp, by omega, by omega⟩
        rw [hd, h1] at e
        rw [e]
        have e2 := eRat_QI hQ
        have e3 : Rat.divInt (a.num - b.num) ((1 : Nat) : Int) = Rat.divInt (a.num - b.num) 1 := rfl
        rw [e3, e2, hd, h1]
        rw [hd, h1] at c1
        rw [h1] at c2
        simp at c1 c2
        simp [i64D, c1, c2, w1]
      · have e := sub_same hd
        have c3 := lowC_at (a.num - b.num) b.den
        have b1 : (a.num - b.num).natAbs < 9223372036854775808 := by omega
        have b2 : 0 < (b.den : Int) := by omega
        have b3 : (b.den : Int) < 9223372036854775808 := by omega
        simp only [b1, b2, b3, and_self, i64D] at c3
        rw [e]
        rw [hd] at c1 ⊢
        have h1' : ¬ (b.den : Int) = 1 := by omega
        simp [i64D, c1, c2, c3, w1, h1, h1']
    · have c3 := lowC_at (a.num * b.den - b.num * a.den) ((a.den : Int) * b.den)
      have b1 : (a.num * b.den - b.num * a.den).natAbs < 9223372036854775808 := by omega
      have b2 : 0 < (a.den : Int) * b.den := by omega
      have b3 : (a.den : Int) * b.den < 9223372036854775808 := by omega
      simp only [b1, b2, b3, and_self, i64D] at c3
      rw [← sub_divInt] at c3
      generalize a - b = ab at *
      have h0 : ¬ ((a.den : Int) = 1 ∧ (b.den : Int) = 1) := by omega
      have h2 : ¬ (a.den : Int) = b.den := by omega
      generalize (a.den : Int) = d at *
      generalize (b.den : Int) = d' at *
      generalize a.num = n at *
      generalize b.num = n' at *
      by_cases h1 : d = 1
      · have h3 : ¬ d' = 1 := by omega
        subst h1
        simp at c1 c3 w3 w4 w5 h2
        simp [i64D, c1, c2, c3, w1, w2, w3, w4, w5, h2, h3]
      · simp [i64D, c1, c2, c3, w1, w2, w3, w4, w5, h1, h2]
  · have c3 := bigIC_at a
    have c4 := bigIC_at b
    have c5 := bSubC_at a b
    have c6 := fitC_at (a - b)
    have hs := qsz_sub a b
    have hs' : qsz (a - b) < 1099511627776 := by unfold MX at hq; omega
    simp only [hq, hs', eBN_eq] at c5 c6
    generalize a - b = ab at *
    by_cases ha : lit31 a
    · have hb : ¬ lit31 b := fun h => hab ⟨ha, h⟩
      simp only [ha, hb, decide_true, decide_false] at c1 c2
      simp [-D.isLit, c1, c2, c3, c4, c5, c6, List.idxOf_cons]
    · simp only [ha, decide_false] at c1
      simp [-D.isLit, c1, c3, c4, c5, c6, List.idxOf_cons]
theorem rsub_ok : callable Try.prog 53 = true := by kernel_rfl
end Go.Proofs.Ytledfadnhcdflaa.Ae

/-! impl.rat: inv, sign, q, floor, fromInt; math/bits.Mul64. No condition. -/
namespace Go.Proofs.Ytledfadnhcdflaa.Ae
open Go Go.RowKit Go.Proofs.Ytledfadnhcdflaa.Dig
variable {N : NR}

/-! sign -/
noncomputable def rsgC := ctD r1E (fun p => True) (fun p => [i64D p.a.num.sign])
theorem rsgC_at (a : Rat) : rsgC [eRat a] = (True, [i64D a.num.sign]) := ctD_at r1E_inj ⟨a⟩
noncomputable def rsgTb : List (FuncId × Ct) := [(152, .data bsgC)]
theorem rsgTb_ok : TbOK N Try.prog (tbl rsgTb) := tbl_cons (c := .data bsgC) RSign_spec RSign_ok tbl_nil

@[simp] theorem rsgTb1 : tbl rsgTb 152 = some (.data bsgC) := rfl
theorem rsign_spec : SpecD N Try.prog 114 rsgC := by
  refine rdD (mf := fun f => false) rsgTb_ok (fn := Try.f114) (by kernel_rfl) rfl (by kernel_rfl) ?_
  rintro ⟨a⟩ _
  refine ⟨by show 1 ≤ 17; decide, ?_⟩
  simp only [r1E, Try.f114]
  by_cases hs : smallQ a
  · rw [eRat_s hs]
    rcases Int.lt_trichotomy a.num 0 with h | h | h
    · rw [Int.sign_eq_neg_one_of_neg h]
      simp [i64D, h]
    · rw [h]
      simp [i64D]
    · rw [Int.sign_eq_one_of_pos h]
      have h1 : ¬ a.num < 0 := by omega
      simp [i64D, h, h1]
  · rw [eRat_b hs]
    have c1 := bsgC_at a
    simp only [i64D] at c1
    simp [i64D, c1]
theorem rsign_ok : callable Try.prog 114 = true := by kernel_rfl

/-! inv -/
noncomputable def rinvC := ctD r1E (fun p => qsz p.a < MX ∧ p.a ≠ 0) (fun p => [eRat p.a⁻¹])
theorem rinvC_at (a : Rat) : rinvC [eRat a] = ((qsz a < MX ∧ a ≠ 0), [eRat a⁻¹]) := ctD_at r1E_inj ⟨a⟩
noncomputable def rinvTb : List (FuncId × Ct) := [(151, .mut [true, false] bInvC), (42, .data fitC)]
theorem rinvTb_ok : TbOK N Try.prog (tbl rinvTb) := tbl_cons (c := .mut [true, false] bInvC) RInv_spec RInv_ok (tbl_cons (c := .data fitC) fit_spec fit_ok tbl_nil)

@[simp] theorem rinvTb1 : tbl rinvTb 151 = some (.mut [true, false] bInvC) := rfl
@[simp] theorem rinvTb2 : tbl rinvTb 42 = some (.data fitC) := rfl
theorem inv_pos {a : Rat} (h : 0 < a.num) : a⁻¹.num = a.den ∧ (a⁻¹.den : Int) = a.num := by
  have hr : Int.gcd a.den a.num = 1 := by rw [Int.gcd_comm]; exact a.reduced
  rw [inv_divInt]
  obtain ⟨e1, e2⟩ := low_pos (a := a.den) h
  rw [hr] at e1 e2
  rw [← e1, ← e2]
  simp
theorem inv_neg {a : Rat} (h : a.num < 0) : a⁻¹.num = -(a.den : Int) ∧ (a⁻¹.den : Int) = -a.num := by
  have hr : Int.gcd a.den a.num = 1 := by rw [Int.gcd_comm]; exact a.reduced
  rw [inv_divInt]
  obtain ⟨e1, e2⟩ := low_neg (a := a.den) h
  rw [hr] at e1 e2
  rw [← e1, ← e2]
  simp [Int.tdiv_neg]
theorem rinv_spec : SpecD N Try.prog 113 rinvC := by
  refine rdD (mf := fun f => f == 151 || f == 42) rinvTb_ok (fn := Try.f113) (by kernel_rfl) rfl (by kernel_rfl) ?_
  rintro ⟨a⟩ ⟨ha, h0⟩
  have ha : qsz a < MX := ha
  have h0 : a ≠ 0 := h0
  refine ⟨by show 1 ≤ 26; decide, ?_⟩
  simp only [r1E, Try.f113]
  have hn := num_ne h0
  have hd := a.den_pos
  by_cases hs : smallQ a
  · have hs' := hs
    unfold smallQ at hs'
    by_cases h : a.num < 0
    · obtain ⟨e1, e2⟩ := inv_neg h
      have hs2 : smallQ a⁻¹ := ⟨by omega, by omega⟩
      rw [eRat_s hs, eRat_s hs2, e1, e2]
      have w1 : IntKind.i64.wrap (-(a.den : Int)) = -(a.den : Int) := i64_id _ (by omega) (by omega)
      have w2 : IntKind.i64.wrap (-a.num) = -a.num := i64_id _ (by omega) (by omega)
      simp [i64D, h, w1, w2]
    · obtain ⟨e1, e2⟩ := inv_pos (a := a) (by omega)
      have hs2 : smallQ a⁻¹ := ⟨by omega, by omega⟩
      rw [eRat_s hs, eRat_s hs2, e1, e2]
      simp [i64D, h]
  · rw [eRat_b hs]
    have c1 := bInvC_at a
    have c2 := fitC_at a⁻¹
    have hq := qsz_inv h0
    have hq2 : qsz a⁻¹ < 1099511627776 := by unfold MX at ha; omega
    simp only [ha, h0, hq2, ne_eq, not_false_eq_true, and_self, eBN_eq] at c1 c2
    simp [-D.isLit, i64D, c1, c2]
theorem rinv_ok : callable Try.prog 113 = true := by kernel_rfl

/-! q -/
def MN : Int := 1000000000000000000
def isQ (q : Rat) : Prop := q.num.natAbs ≤ 1000000000000000000 ∧ q.den ≤ 1000000000000000000
instance (q : Rat) : Decidable (isQ q) := by unfold isQ; infer_instance
def oQ (q : Rat) : List D := if isQ q then [eQ q.num q.den, boolD true] else [eQ 0 0, boolD false]
noncomputable def rqqC := ctD r1E (fun p => True) (fun p => oQ p.a)
theorem rqqC_at (a : Rat) : rqqC [eRat a] = (True, oQ a) := ctD_at r1E_inj ⟨a⟩
theorem rqq_spec : SpecD N Try.prog 45 rqqC := by
  refine rdD (mf := fun f => false) tbl_nil (fn := Try.f45) (by kernel_rfl) rfl (by kernel_rfl) ?_
  rintro ⟨a⟩ _
  refine ⟨by show 1 ≤ 28; decide, ?_⟩
  simp only [r1E, Try.f45, boolD]
  by_cases hs : smallQ a
  · rw [eRat_s hs]
    unfold oQ
    by_cases hq : isQ a
    · rw [if_pos hq]
      unfold isQ at hq
      have h1 : ¬ a.num < -1000000000000000000 := by omega
      have h2 : ¬ 1000000000000000000 < a.num := by omega
      have h3 : ¬ (1000000000000000000 : Int) < a.den := by omega
      simp [i64D, eQ, boolD, h1, h2, h3]
    · rw [if_neg hq]
      unfold isQ at hq
      by_cases h1 : a.num < -1000000000000000000
      · simp [i64D, eQ, boolD, h1]
      · by_cases h2 : 1000000000000000000 < a.num
        · simp [i64D, eQ, boolD, h1, h2]
        · have h3 : (1000000000000000000 : Int) < a.den := by omega
          simp [i64D, eQ, boolD, h1, h2, h3]
  · have hq : ¬ isQ a := by unfold smallQ at hs; unfold isQ; omega
    unfold oQ
    rw [eRat_b hs, if_neg hq]
    simp [i64D, eQ, boolD]
theorem rqq_ok : callable Try.prog 45 = true := by kernel_rfl

/-! floor, fromInt -/
noncomputable def rflC := ctD r1E (fun p => qsz p.a < MX) (fun p => [.ptr (eZ p.a.floor)])
theorem rflC_at (a : Rat) : rflC [eRat a] = (qsz a < MX, [.ptr (eZ a.floor)]) := ctD_at r1E_inj ⟨a⟩
noncomputable def rflTb : List (FuncId × Ct) := [(106, .data bigIC), (95, .data numC), (97, .data denC), (118, .mut [true, false, false] idC)]
theorem rflTb_ok : TbOK N Try.prog (tbl rflTb) := tbl_cons (c := .data bigIC) big_spec big_ok (tbl_cons (c := .data numC) Num_spec Num_ok (tbl_cons (c := .data denC) Denom_spec Denom_ok (tbl_cons (c := .mut [true, false, false] idC) Div_spec Div_ok tbl_nil)))

@[simp] theorem rflTb1 : tbl rflTb 106 = some (.data bigIC) := rfl
@[simp] theorem rflTb2 : tbl rflTb 95 = some (.data numC) := rfl
@[simp] theorem rflTb3 : tbl rflTb 97 = some (.data denC) := rfl
@[simp] theorem rflTb4 : tbl rflTb 118 = some (.mut [true, false, false] idC) := rfl
theorem rfloor_spec : SpecD N Try.prog 63 rflC := by
  refine rdD (mf := fun f => f == 118) rflTb_ok (fn := Try.f63) (by kernel_rfl) rfl (by kernel_rfl) ?_
  rintro ⟨a⟩ ha
  have ha : qsz a < MX := ha
  have ha' : qsz a < 1099511627776 := by unfold MX at ha; omega
  refine ⟨by show 1 ≤ 12; decide, ?_⟩
  have c1 := bigIC_at a
  have c2 := numC_at a
  have c3 := denC_at a
  have c4 := idC_at a.num a.den .new
  simp only [ha', SZ_num ha', SZ_den ha', dz a, ne_eq, not_false_eq_true, and_self, eB_new] at c2 c3 c4
  simp only [r1E, Try.f63, Rat.floor_def]
  simp [c1, c2, c3, c4]
theorem rfloor_ok : callable Try.prog 63 = true := by kernel_rfl
noncomputable def fiC := ctD pE (fun p => ln p.a.natAbs < MX) (fun p => [eRat (p.a : Rat)])
theorem fiC_at (a : Int) : fiC [.ptr (eZ a)] = (ln a.natAbs < MX, [eRat (a : Rat)]) := ctD_at pE_inj ⟨a⟩
noncomputable def fiTb : List (FuncId × Ct) := [(117, .mut [true, false] siC), (42, .data fitC)]
theorem fiTb_ok : TbOK N Try.prog (tbl fiTb) := tbl_cons (c := .mut [true, false] siC) SetInt_spec SetInt_ok (tbl_cons (c := .data fitC) fit_spec fit_ok tbl_nil)

@[simp] theorem fiTb1 : tbl fiTb 117 = some (.mut [true, false] siC) := rfl
@[simp] theorem fiTb2 : tbl fiTb 42 = some (.data fitC) := rfl
theorem qsz_int (a : Int) : qsz (a : Rat) = max (ln a.natAbs) 1 := by unfold qsz; rw [Rat.num_intCast, Rat.den_intCast, ln_one]
theorem fromInt_spec : SpecD N Try.prog 62 fiC := by
  refine rdD (mf := fun f => f == 117 || f == 42) fiTb_ok (fn := Try.f62) (by kernel_rfl) rfl (by kernel_rfl) ?_
  rintro ⟨a⟩ ha
  have ha : ln a.natAbs < MX := ha
  unfold MX at ha
  refine ⟨by show 1 ≤ 7; decide, ?_⟩
  have c1 := siC_at a
  have c2 := fitC_at (a : Rat)
  have h1 : SZ a := by rw [SZ_ln]; omega
  have h2 : qsz (a : Rat) < 1099511627776 := by rw [qsz_int]; omega
  simp only [h1, h2, eBN_eq] at c1 c2
  simp only [pE, Try.f62]
  simp [-D.isLit, c1, c2]
theorem fromInt_ok : callable Try.prog 62 = true := by kernel_rfl

/-! Mul64 -/
noncomputable def m64C := ctD uuE (fun p => p.a < 18446744073709551616 ∧ p.b < 18446744073709551616) (fun p => [u64D (p.a * p.b / 18446744073709551616), u64D (p.a * p.b % 18446744073709551616)])
theorem m64C_at (a b : Nat) : m64C [u64D a, u64D b] = ((a < 18446744073709551616 ∧ b < 18446744073709551616), [u64D (a * b / 18446744073709551616), u64D (a * b % 18446744073709551616)]) := ctD_at uuE_inj ⟨a, b⟩
theorem and32 (x : Nat) (h : x < 18446744073709551616) : bAnd .u64 x 4294967295 = ((x % 4294967296 : Nat) : Int) := by
  have := bAnd64 x 4294967295 h (by decide)
  rw [show (x &&& 4294967295) = x % 4294967296 from Nat.and_two_pow_sub_one_eq_mod x 32] at this
  exact this
theorem mul_split (x1 x0 y1 y0 : Nat) : (x1 * 4294967296 + x0) * (y1 * 4294967296 + y0) = x1 * y1 * 18446744073709551616 + (x1 * y0 + x0 * y1) * 4294967296 + x0 * y0 := by
  grind
theorem bd32 {x y : Nat} (hx : x < 4294967296) (hy : y < 4294967296) : x * y ≤ 18446744065119617025 := by
  have := Nat.mul_le_mul (show x ≤ 4294967295 by omega) (show y ≤ 4294967295 by omega)
  omega
theorem Mul64_spec : SpecD N Try.prog 111 m64C := by
  refine rdD (mf := fun f => false) tbl_nil (fn := Try.f111) (by kernel_rfl) rfl (by kernel_rfl) ?_
  rintro ⟨x, y⟩ ⟨hx, hy⟩
  have hx : x < 18446744073709551616 := hx
  have hy : y < 18446744073709551616 := hy
  refine ⟨by show 2 ≤ 51; decide, ?_⟩
  simp only [uuE, u64D, Try.f111]
  have a1 := and32 x hx
  have a2 := and32 y hy
  have d1 : (x : Int) / 4294967296 = ((x / 4294967296 : Nat) : Int) := by omega
  have d2 : (y : Int) / 4294967296 = ((y / 4294967296 : Nat) : Int) := by omega
  have e := mul_split (x / 4294967296) (x % 4294967296) (y / 4294967296) (y % 4294967296)
  rw [Nat.div_add_mod', Nat.div_add_mod'] at e
  obtain ⟨x1, hx1⟩ : ∃ x1, x1 = x / 4294967296 := ⟨_, rfl⟩
  obtain ⟨x0, hx0⟩ : ∃ x0, x0 = x % 4294967296 := ⟨_, rfl⟩
  obtain ⟨y1, hy1⟩ : ∃ y1, y1 = y / 4294967296 := ⟨_, rfl⟩
  obtain ⟨y0, hy0⟩ : ∃ y0, y0 = y % 4294967296 := ⟨_, rfl⟩
  rw [← hx1, ← hx0, ← hy1, ← hy0] at e
  rw [← hx0] at a1
  rw [← hy0] at a2
  rw [← hx1] at d1
  rw [← hy1] at d2
  have b00 := bd32 (x := x0) (y := y0) (by omega) (by omega)
  have b10 := bd32 (x := x1) (y := y0) (by omega) (by omega)
  have b01 := bd32 (x := x0) (y := y1) (by omega) (by omega)
  have b11 := bd32 (x := x1) (y := y1) (by omega) (by omega)
  clear hx1 hx0 hy1 hy0
  have m0 : ((x0 : Int) * y0) = ((x0 * y0 : Nat) : Int) := by rw [Int.natCast_mul]
  have m1 : ((x1 : Int) * y0) = ((x1 * y0 : Nat) : Int) := by rw [Int.natCast_mul]
  have m2 : ((x0 : Int) * y1) = ((x0 * y1 : Nat) : Int) := by rw [Int.natCast_mul]
  have m3 : ((x1 : Int) * y1) = ((x1 * y1 : Nat) : Int) := by rw [Int.natCast_mul]
  have m4 : ((x : Int) * y) = ((x * y : Nat) : Int) := by rw [Int.natCast_mul]
  generalize x * y = p at *
  generalize x0 * y0 = p00 at *
  generalize x1 * y0 = p10 at *
  generalize x0 * y1 = p01 at *
  generalize x1 * y1 = p11 at *
  have w0 : IntKind.u64.wrap (p00 : Int) = p00 := u64_id _ (by omega) (by omega)
  have w1 : IntKind.u64.wrap (p10 : Int) = p10 := u64_id _ (by omega) (by omega)
  have w2 : IntKind.u64.wrap (p01 : Int) = p01 := u64_id _ (by omega) (by omega)
  have w3 : IntKind.u64.wrap (p11 : Int) = p11 := u64_id _ (by omega) (by omega)
  have d3 : (p00 : Int) / 4294967296 = ((p00 / 4294967296 : Nat) : Int) := by omega
  obtain ⟨t, ht⟩ : ∃ t, t = p10 + p00 / 4294967296 := ⟨_, rfl⟩
  have w4 : IntKind.u64.wrap ((p10 : Int) + ((p00 / 4294967296 : Nat) : Int)) = (t : Int) := by rw [u64_id _ (by omega) (by omega)]; omega
  have a3 := and32 t (by omega)
  have d4 : (t : Int) / 4294967296 = ((t / 4294967296 : Nat) : Int) := by omega
  obtain ⟨v, hv⟩ : ∃ v, v = t % 4294967296 + p01 := ⟨_, rfl⟩
  have w5 : IntKind.u64.wrap (((t % 4294967296 : Nat) : Int) + (p01 : Int)) = (v : Int) := by rw [u64_id _ (by omega) (by omega)]; omega
  have d5 : (v : Int) / 4294967296 = ((v / 4294967296 : Nat) : Int) := by omega
  have w6 : IntKind.u64.wrap ((p11 : Int) + ((t / 4294967296 : Nat) : Int)) = ((p11 + t / 4294967296 : Nat) : Int) := by rw [u64_id _ (by omega) (by omega)]; omega
  have w7 : IntKind.u64.wrap (((p11 + t / 4294967296 : Nat) : Int) + ((v / 4294967296 : Nat) : Int)) = ((p / 18446744073709551616 : Nat) : Int) := by rw [u64_id _ (by omega) (by omega)]; omega
  have w8 : IntKind.u64.wrap (p : Int) = ((p % 18446744073709551616 : Nat) : Int) := by rw [wrap_u64]; omega
  generalize p / 18446744073709551616 = hi at *
  generalize p % 18446744073709551616 = lo at *
  generalize p11 + t / 4294967296 = u at *
  generalize v / 4294967296 = v1 at *
  generalize t / 4294967296 = t1 at *
  generalize t % 4294967296 = t0 at *
  generalize p00 / 4294967296 = q0 at *
  simp [a1, a2, a3, d1, d2, d3, d4, d5, m0, m1, m2, m3, m4, w0, w1, w2, w3, w4, w5, w6, w7, w8]
theorem Mul64_ok : callable Try.prog 111 = true := by kernel_rfl
end Go.Proofs.Ytledfadnhcdflaa.Ae

/-! impl.rat: mul, div. No condition. -/
namespace Go.Proofs.Ytledfadnhcdflaa.Ae
open Go Go.RowKit Go.Proofs.Ytledfadnhcdflaa.Dig
variable {N : NR}

theorem mul_low (a b : Rat) : (a * b).num = (a.num.tdiv (Nat.gcd a.num.natAbs b.den)) * (b.num.tdiv (Nat.gcd b.num.natAbs a.den)) ∧ (a * b).den = (a.den / Nat.gcd b.num.natAbs a.den) * (b.den / Nat.gcd a.num.natAbs b.den) := by
  have h1 : (Nat.gcd a.num.natAbs b.den : Int) ∣ a.num := Int.ofNat_dvd_left.2 (Nat.gcd_dvd_left _ _)
  have h2 : (Nat.gcd b.num.natAbs a.den : Int) ∣ b.num := Int.ofNat_dvd_left.2 (Nat.gcd_dvd_left _ _)
  rw [Int.tdiv_eq_ediv_of_dvd h1, Int.tdiv_eq_ediv_of_dvd h2]
  show (Rat.mul a b).num = _ ∧ (Rat.mul a b).den = _
  unfold Rat.mul
  simp
noncomputable def rmC := ctD r2E (fun p => qsz p.a + qsz p.b < MX) (fun p => [eRat (p.a * p.b)])
theorem rmC_at (a b : Rat) : rmC [eRat a, eRat b] = (qsz a + qsz b < MX, [eRat (a * b)]) := ctD_at r2E_inj ⟨a, b⟩
noncomputable def rmTb : List (FuncId × Ct) := [(105, .data littleC), (75, .data lowC), (106, .data bigIC), (112, .mut [true, false, false] bMulC), (42, .data fitC), (67, .data riC), (110, .data absC), (109, .data gcdC), (111, .data m64C)]
theorem rmTb_ok : TbOK N Try.prog (tbl rmTb) := tbl_cons (c := .data littleC) little_spec little_ok (tbl_cons (c := .data lowC) low_spec low_ok (tbl_cons (c := .data bigIC) big_spec big_ok (tbl_cons (c := .mut [true, false, false] bMulC) RMul_spec RMul_ok (tbl_cons (c := .data fitC) fit_spec fit_ok (tbl_cons (c := .data riC) ri_spec ri_ok (tbl_cons (c := .data absC) abs64_spec abs64_ok (tbl_cons (c := .data gcdC) gcd64_spec gcd64_ok (tbl_cons (c := .data m64C) Mul64_spec Mul64_ok tbl_nil))))))))

@[simp] theorem rmTb1 : tbl rmTb 105 = some (.data littleC) := rfl
@[simp] theorem rmTb2 : tbl rmTb 75 = some (.data lowC) := rfl
@[simp] theorem rmTb3 : tbl rmTb 106 = some (.data bigIC) := rfl
@[simp] theorem rmTb4 : tbl rmTb 112 = some (.mut [true, false, false] bMulC) := rfl
@[simp] theorem rmTb5 : tbl rmTb 42 = some (.data fitC) := rfl
@[simp] theorem rmTb6 : tbl rmTb 67 = some (.data riC) := rfl
@[simp] theorem rmTb7 : tbl rmTb 110 = some (.data absC) := rfl
@[simp] theorem rmTb8 : tbl rmTb 109 = some (.data gcdC) := rfl
@[simp] theorem rmTb9 : tbl rmTb 111 = some (.data m64C) := rfl
/-- What the third way of mul reckons with: the parts without what divides both. -/
theorem mul_way {n n' : Int} {d d' g h : Nat} (hg : g = Nat.gcd n.natAbs d') (hh : h = Nat.gcd n'.natAbs d) (hd : 0 < d) (hd' : 0 < d') (hn : n.natAbs < 9223372036854775808) (hn' : n'.natAbs < 9223372036854775808) (hdl : d < 9223372036854775808) (hdl' : d' < 9223372036854775808) :
    0 < g ∧ 0 < h ∧ g < 9223372036854775808 ∧ h < 9223372036854775808 ∧ (n.tdiv g).natAbs < 9223372036854775808 ∧ (n'.tdiv h).natAbs < 9223372036854775808 ∧ Int.tdiv d h = ((d / h : Nat) : Int) ∧ Int.tdiv d' g = ((d' / g : Nat) : Int) ∧ d / h < 9223372036854775808 ∧ d' / g < 9223372036854775808 := by
  have g1 : 0 < g := by rw [hg]; exact Nat.gcd_pos_of_pos_right _ hd'
  have h1 : 0 < h := by rw [hh]; exact Nat.gcd_pos_of_pos_right _ hd
  have g2 : g ≤ d' := by rw [hg]; exact Nat.le_of_dvd hd' (Nat.gcd_dvd_right _ _)
  have h2 : h ≤ d := by rw [hh]; exact Nat.le_of_dvd hd (Nat.gcd_dvd_right _ _)
  have b1 : (n.tdiv g).natAbs ≤ n.natAbs := by rw [Int.natAbs_tdiv]; exact Nat.div_le_self _ _
  have b2 : (n'.tdiv h).natAbs ≤ n'.natAbs := by rw [Int.natAbs_tdiv]; exact Nat.div_le_self _ _
  have b3 := Nat.div_le_self d h
  have b4 := Nat.div_le_self d' g
  exact ⟨g1, h1, by omega, by omega, by omega, by omega, tdiv_nat d h, tdiv_nat d' g, by omega, by omega⟩
theorem sign_prod (x y : Int) (h : (x * y).natAbs < 9223372036854775808) : (if (decide (x < 0) != decide (y < 0)) = true then IntKind.i64.wrap (-((x.natAbs * y.natAbs : Nat) : Int)) else ((x.natAbs * y.natAbs : Nat) : Int)) = x * y := by
  rw [← Int.natAbs_mul]
  by_cases hx : x < 0 <;> by_cases hy : y < 0
  · have := Int.mul_pos_of_neg_of_neg hx hy
    simp [hx, hy]; omega
  · have : x * y ≤ 0 := Int.mul_nonpos_of_nonpos_of_nonneg (by omega) (by omega)
    simp [hx, hy]
    rw [i64_id _ (by omega) (by omega)]; omega
  · have : x * y ≤ 0 := Int.mul_nonpos_of_nonneg_of_nonpos (by omega) (by omega)
    simp [hx, hy]
    rw [i64_id _ (by omega) (by omega)]; omega
  · have : 0 ≤ x * y := Int.mul_nonneg (by omega) (by omega)
    simp [hx, hy]; omega
def rmMf : FuncId → Bool := fun f => f == 112 || f == 42
attribute [simp] rmMf
set_option maxRecDepth 100000 in
set_option maxHeartbeats 8000000 in
theorem rmul_spec : SpecD N Try.prog 55 rmC := by
  refine rdD (mf := rmMf) rmTb_ok (fn := Try.f55) (by kernel_rfl) rfl (by kernel_rfl) ?_
  rintro ⟨a, b⟩ hq
  have hq : qsz a + qsz b < MX := hq
  refine ⟨by show 2 ≤ 146; decide, ?_⟩
  simp only [r2E, Try.f55]
  have d1 := bigIC_at a
  have d2 := bigIC_at b
  have d3 := bMulC_at a b
  have d4 := fitC_at (a * b)
  have hs := qsz_mul a b
  have hs' : qsz (a * b) < 1099511627776 := by unfold MX at hq; omega
  simp only [hq, hs', eBN_eq] at d3 d4
  by_cases hab : smallQ a ∧ smallQ b
  · obtain ⟨sa, sb⟩ := hab
    by_cases hz : a.num = 0 ∨ b.num = 0
    · have e : a * b = ((0 : Int) : Rat) := by
        rw [mul_divInt]
        have : a.num * b.num = 0 := by rcases hz with h | h <;> rw [h] <;> simp
        rw [this]; simp
      have c1 := riC_at 0
      simp [i64D] at c1
      rw [e, eRat_s sa, eRat_s sb]
      by_cases h0 : a.num = 0
      · simp [i64D, h0, c1]
      · have h1 : b.num = 0 := by rcases hz with h | h; exact absurd h h0; exact h
        simp [i64D, h0, h1, c1]
    · have z1 : ¬ a.num = 0 := fun h => hz (.inl h)
      have z2 : ¬ b.num = 0 := fun h => hz (.inr h)
      have c1 := littleC_at a
      have c2 := littleC_at b
      have da := a.den_pos
      have db := b.den_pos
      by_cases hl : lit31 a ∧ lit31 b
      · obtain ⟨ha, hb⟩ := hl
        rw [eRat_s sa] at c1 ⊢
        rw [eRat_s sb] at c2 ⊢
        simp only [ha, hb, decide_true, boolD, i64D] at c1 c2
        unfold lit31 at ha hb
        have x1 : -4611686018427387904 < a.num * b.num ∧ a.num * b.num < 4611686018427387904 := by
          have h1 : (a.num * b.num).natAbs ≤ 2147483647 * 2147483647 := by rw [Int.natAbs_mul]; exact Nat.mul_le_mul (by omega) (by omega)
          omega
        have x3 := pos_bd (c := a.den) (d := b.den) (by omega) (by omega)
        have w1 : IntKind.i64.wrap (a.num * b.num) = a.num * b.num := i64_id _ (by omega) (by omega)
        have w4 : IntKind.i64.wrap ((a.den : Int) * b.den) = (a.den : Int) * b.den := i64_id _ (by omega) (by omega)
        have c3 := lowC_at (a.num * b.num) ((a.den : Int) * b.den)
        have b1 : (a.num * b.num).natAbs < 9223372036854775808 := by omega
        have b2 : 0 < (a.den : Int) * b.den := by omega
        have b3 : (a.den : Int) * b.den < 9223372036854775808 := by omega
        simp only [b1, b2, b3, and_self, i64D] at c3
        rw [← mul_divInt] at c3
        by_cases h1 : a.den = 1 ∧ b.den = 1
        · obtain ⟨h1, h2⟩ := h1
          have hQ : QI (a.num * b.num) 1 := ⟨by omega, by simp, by omega, by omega⟩
          have e2 := eRat_QI hQ
          have e3 : a * b = Rat.divInt (a.num * b.num) 1 := by rw [mul_divInt, h1, h2]; rfl
          rw [e3, e2]
          rw [h1] at c1 ⊢
          rw [h2] at c2 ⊢
          simp at c1 c2
          simp [i64D, c1, c2, w1, z1, z2]
        · generalize a * b = ab at *
          by_cases h2 : a.den = 1
          · have h3 : ¬ b.den = 1 := fun h => h1 ⟨h2, h⟩
            have h3' : ¬ (b.den : Int) = 1 := by omega
            rw [h2] at c1 c3 w4 ⊢
            simp at c1 c3 w4
            simp [i64D, c1, c2, c3, w1, w4, z1, z2, h3, h3']
          · have h2' : ¬ (a.den : Int) = 1 := by omega
            simp [i64D, c1, c2, c3, w1, w4, z1, z2, h2, h2']
      · have hlit : ((decide (lit31 a)) && decide (lit31 b)) = false := by
          rw [← Bool.decide_and]
          exact decide_eq_false hl
        obtain ⟨m1, m2⟩ := mul_low a b
        obtain ⟨g, hg⟩ : ∃ g, g = Nat.gcd a.num.natAbs b.den := ⟨_, rfl⟩
        obtain ⟨h, hh⟩ : ∃ h, h = Nat.gcd b.num.natAbs a.den := ⟨_, rfl⟩
        have sa' := sa
        have sb' := sb
        unfold smallQ at sa' sb'
        obtain ⟨q1, q2, q3, q4, q5, q6, q7, q8, q9, q10⟩ := mul_way hg hh da db sa'.1 sb'.1 sa'.2 sb'.2
        rw [← hg, ← hh] at m1 m2
        have g1 := absC_at a.num
        have g2 := absC_at b.num
        have g3 := gcdC_at a.num.natAbs b.den
        have g4 := gcdC_at b.num.natAbs a.den
        have i1 : I64 a.num := by unfold I64; omega
        have i2 : I64 b.num := by unfold I64; omega
        have i3 : a.num.natAbs < 18446744073709551616 := by omega
        have i4 : b.num.natAbs < 18446744073709551616 := by omega
        have i5 : a.den < 18446744073709551616 := by omega
        have i6 : b.den < 18446744073709551616 := by omega
        rw [← hg] at g3
        rw [← hh] at g4
        simp only [i1, i2, i3, i4, i5, i6, and_self, u64D, i64D] at g1 g2 g3 g4
        have w1 : IntKind.u64.wrap (a.den : Int) = a.den := u64_id _ (by omega) (by omega)
        have w2 : IntKind.u64.wrap (b.den : Int) = b.den := u64_id _ (by omega) (by omega)
        have w3 : IntKind.i64.wrap (g : Int) = g := i64_id _ (by omega) (by omega)
        have w4 : IntKind.i64.wrap (h : Int) = h := i64_id _ (by omega) (by omega)
        have hgz : ¬ g = 0 := by omega
        have hhz : ¬ h = 0 := by omega
        rw [eRat_s sa] at c1 d1 ⊢
        rw [eRat_s sb] at c2 d2 ⊢
        simp only [boolD, i64D] at c1 c2 d1 d2 ⊢
        have hsm : smallQ (a * b) ↔ (a.num.tdiv g).natAbs * (b.num.tdiv h).natAbs < 9223372036854775808 ∧ a.den / h * (b.den / g) < 9223372036854775808 := by
          unfold smallQ
          rw [m1, m2, Int.natAbs_mul]
        have heR := fun hh => eRat_s (q := a * b) hh
        rw [m1, m2] at heR
        clear m1 m2 hg hh sa' sb' i1 i2 i3 i4 i5 i6 hz hs hs' hq sa sb hl
        generalize decide (lit31 a) = la at *
        generalize decide (lit31 b) = lb at *
        generalize eBR a = ba at *
        generalize eBR b = bb at *
        generalize a * b = ab at *
        generalize hX : a.num.tdiv g = x at *
        generalize hY : b.num.tdiv h = y at *
        generalize a.den / h = u at *
        generalize b.den / g = v at *
        have w5 : IntKind.i64.wrap x = x := i64_id _ (by omega) (by omega)
        have w6 : IntKind.i64.wrap y = y := i64_id _ (by omega) (by omega)
        have w7 : IntKind.i64.wrap (u : Int) = u := i64_id _ (by omega) (by omega)
        have w8 : IntKind.i64.wrap (v : Int) = v := i64_id _ (by omega) (by omega)
        have w9 : IntKind.u64.wrap (u : Int) = u := u64_id _ (by omega) (by omega)
        have w10 : IntKind.u64.wrap (v : Int) = v := u64_id _ (by omega) (by omega)
        have j1 := absC_at x
        have j2 := absC_at y
        have j3 := m64C_at x.natAbs y.natAbs
        have j4 := m64C_at u v
        have k1 : I64 x := by unfold I64; omega
        have k2 : I64 y := by unfold I64; omega
        have k3 : x.natAbs < 18446744073709551616 := by omega
        have k4 : y.natAbs < 18446744073709551616 := by omega
        have k5 : u < 18446744073709551616 := by omega
        have k6 : v < 18446744073709551616 := by omega
        simp only [k1, k2, k3, k4, k5, k6, and_self, i64D, u64D] at j1 j2 j3 j4
        have sp := sign_prod x y
        rw [Int.natAbs_mul] at sp
        obtain ⟨P, hP⟩ : ∃ P, P = x.natAbs * y.natAbs := ⟨_, rfl⟩
        obtain ⟨R, hR⟩ : ∃ R, R = u * v := ⟨_, rfl⟩
        rw [← hP] at j3 sp hsm
        rw [← hR] at j4 hsm
        have fin : P / 18446744073709551616 = 0 → R / 18446744073709551616 = 0 → P % 18446744073709551616 < 9223372036854775808 → R % 18446744073709551616 < 9223372036854775808 →
            ∃ s : Int, (if (decide (x < 0) != decide (y < 0)) = true then IntKind.i64.wrap (-IntKind.i64.wrap ((P % 18446744073709551616 : Nat) : Int)) else IntKind.i64.wrap ((P % 18446744073709551616 : Nat) : Int)) = s ∧ eRat ab = .agg [.lit (.int .i64 s), .lit (.int .i64 (IntKind.i64.wrap ((R % 18446744073709551616 : Nat) : Int))), .lit (.pointer none)] := by
          intro o1 o2 o3 o4
          have b1 : P < 9223372036854775808 := by omega
          have b2 : R < 9223372036854775808 := by omega
          have e3 : P % 18446744073709551616 = P := Nat.mod_eq_of_lt (by omega)
          have e4 : R % 18446744073709551616 = R := Nat.mod_eq_of_lt (by omega)
          have w11 : IntKind.i64.wrap (P : Int) = P := i64_id _ (by omega) (by omega)
          have w12 : IntKind.i64.wrap (R : Int) = R := i64_id _ (by omega) (by omega)
          rw [e3, e4, w11, w12, heR (hsm.2 ⟨b1, b2⟩), hR]
          exact ⟨_, sp b1, rfl⟩
        clear sp heR k1 k2 k3 k4 k5 k6 hP hR hsm
        generalize P / 18446744073709551616 = p1 at *
        generalize P % 18446744073709551616 = p0 at *
        generalize R / 18446744073709551616 = r1 at *
        generalize R % 18446744073709551616 = r0 at *
        have t1 : ((p0 : Nat) : Int) < 9223372036854775808 ↔ p0 < 9223372036854775808 := by omega
        have t2 : ((r0 : Nat) : Int) < 9223372036854775808 ↔ r0 < 9223372036854775808 := by omega
        cases la with
        | false =>
          simp [-D.isLit, c1, d1, d2, d3, d4, g1, g2, g3, g4, j1, j2, j3, j4, w1, w2, w3, w4, w5, w6, w7, w8, w9, w10, hX, hY, q7, q8, hgz, hhz, z1, z2, List.idxOf_cons]
          intro o1 o2 o3 o4
          obtain ⟨s, hs1, hs2⟩ := fin o1 o2 (t1.1 o3) (t2.1 o4)
          rw [hs2]
          constructor
          · intro hxy
            rw [if_pos (by by_cases hx : x < 0 <;> by_cases hy : y < 0 <;> simp [hx, hy] at hxy ⊢)] at hs1
            rw [hs1]
            exact Sub.refl _
          · intro hxy
            rw [if_neg (by by_cases hx : x < 0 <;> by_cases hy : y < 0 <;> simp [hx, hy] at hxy ⊢)] at hs1
            rw [hs1]
            exact Sub.refl _
        | true =>
          cases lb with
          | true => simp at hlit
          | false =>
            simp [-D.isLit, c1, c2, d1, d2, d3, d4, g1, g2, g3, g4, j1, j2, j3, j4, w1, w2, w3, w4, w5, w6, w7, w8, w9, w10, hX, hY, q7, q8, hgz, hhz, z1, z2, List.idxOf_cons]
            intro o1 o2 o3 o4
            obtain ⟨s, hs1, hs2⟩ := fin o1 o2 (t1.1 o3) (t2.1 o4)
            rw [hs2]
            constructor
            · intro hxy
              rw [if_pos (by by_cases hx : x < 0 <;> by_cases hy : y < 0 <;> simp [hx, hy] at hxy ⊢)] at hs1
              rw [hs1]
              exact Sub.refl _
            · intro hxy
              rw [if_neg (by by_cases hx : x < 0 <;> by_cases hy : y < 0 <;> simp [hx, hy] at hxy ⊢)] at hs1
              rw [hs1]
              exact Sub.refl _
  · by_cases sa : smallQ a
    · have sb : ¬ smallQ b := fun h => hab ⟨sa, h⟩
      rw [eRat_s sa] at d1 ⊢
      rw [eRat_b sb] at d2 ⊢
      simp only [i64D] at d1 d2
      simp [-D.isLit, i64D, d1, d2, d3, d4, List.idxOf_cons]
    · rw [eRat_b sa] at d1 ⊢
      simp only [i64D] at d1
      simp [-D.isLit, i64D, d1, d2, d3, d4, List.idxOf_cons]
theorem rmul_ok : callable Try.prog 55 = true := by kernel_rfl

/-! div -/
noncomputable def rdvC := ctD r2E (fun p => qsz p.a + qsz p.b < MX ∧ p.b ≠ 0) (fun p => [eRat (p.a / p.b)])
theorem rdvC_at (a b : Rat) : rdvC [eRat a, eRat b] = ((qsz a + qsz b < MX ∧ b ≠ 0), [eRat (a / b)]) := ctD_at r2E_inj ⟨a, b⟩
noncomputable def rdvTb : List (FuncId × Ct) := [(55, .data rmC), (113, .data rinvC)]
theorem rdvTb_ok : TbOK N Try.prog (tbl rdvTb) := tbl_cons (c := .data rmC) rmul_spec rmul_ok (tbl_cons (c := .data rinvC) rinv_spec rinv_ok tbl_nil)

@[simp] theorem rdvTb1 : tbl rdvTb 55 = some (.data rmC) := rfl
@[simp] theorem rdvTb2 : tbl rdvTb 113 = some (.data rinvC) := rfl
theorem rdiv_spec : SpecD N Try.prog 57 rdvC := by
  refine rdD (mf := fun f => false) rdvTb_ok (fn := Try.f57) (by kernel_rfl) rfl (by kernel_rfl) ?_
  rintro ⟨a, b⟩ ⟨hq, h0⟩
  have hq : qsz a + qsz b < MX := hq
  have h0 : b ≠ 0 := h0
  refine ⟨by show 2 ≤ 9; decide, ?_⟩
  simp only [r2E, Try.f57]
  have c1 := rinvC_at b
  have c2 := rmC_at a b⁻¹
  have h1 := qsz_inv h0
  have h2 : qsz b < MX := by omega
  have h3 : qsz a + qsz b⁻¹ < MX := by omega
  rw [← Rat.div_def] at c2
  simp only [h0, h2, h3, ne_eq, not_false_eq_true, and_self] at c1 c2
  simp [c1, c2]
theorem rdiv_ok : callable Try.prog 57 = true := by kernel_rfl
end Go.Proofs.Ytledfadnhcdflaa.Ae

/-! impl.rat: cmp; impl.QOk, allQ. No condition. -/
namespace Go.Proofs.Ytledfadnhcdflaa.Ae
open Go Go.RowKit Go.Proofs.Ytledfadnhcdflaa.Dig
variable {N : NR}

noncomputable def rcC := ctD r2E (fun p => qsz p.a + qsz p.b < MX) (fun p => [i64D (qcmp p.a p.b)])
theorem rcC_at (a b : Rat) : rcC [eRat a, eRat b] = (qsz a + qsz b < MX, [i64D (qcmp a b)]) := ctD_at r2E_inj ⟨a, b⟩
noncomputable def rcTb : List (FuncId × Ct) := [(114, .data rsgC), (106, .data bigIC), (115, .data bCmpC), (110, .data absC), (111, .data m64C)]
theorem rcTb_ok : TbOK N Try.prog (tbl rcTb) := tbl_cons (c := .data rsgC) rsign_spec rsign_ok (tbl_cons (c := .data bigIC) big_spec big_ok (tbl_cons (c := .data bCmpC) RCmp_spec RCmp_ok (tbl_cons (c := .data absC) abs64_spec abs64_ok (tbl_cons (c := .data m64C) Mul64_spec Mul64_ok tbl_nil))))

@[simp] theorem rcTb1 : tbl rcTb 114 = some (.data rsgC) := rfl
@[simp] theorem rcTb2 : tbl rcTb 106 = some (.data bigIC) := rfl
@[simp] theorem rcTb3 : tbl rcTb 115 = some (.data bCmpC) := rfl
@[simp] theorem rcTb4 : tbl rcTb 110 = some (.data absC) := rfl
@[simp] theorem rcTb5 : tbl rcTb 111 = some (.data m64C) := rfl
theorem qcmp_same {a b : Rat} (h : a.den = b.den) : qcmp a b = (a.num - b.num).sign := by
  unfold qcmp
  rw [h, ← Int.sub_mul, Int.sign_mul, Int.sign_eq_one_of_pos (show 0 < (b.den : Int) by have := b.den_pos; omega), Int.mul_one]
theorem sgn_cases (x : Int) : (x < 0 ∧ x.sign = -1) ∨ (x = 0 ∧ x.sign = 0) ∨ (0 < x ∧ x.sign = 1) := by
  rcases Int.lt_trichotomy x 0 with h | h | h
  · exact .inl ⟨h, Int.sign_eq_neg_one_of_neg h⟩
  · exact .inr (.inl ⟨h, by rw [h]; rfl⟩)
  · exact .inr (.inr ⟨h, Int.sign_eq_one_of_pos h⟩)
/-- By the signs, and by the products' sizes. -/
theorem qcmp_way (a b : Rat) : (a.num.sign < b.num.sign → qcmp a b = -1) ∧ (b.num.sign < a.num.sign → qcmp a b = 1) ∧
    (a.num.sign = b.num.sign → (a.num.natAbs * b.den < b.num.natAbs * a.den → qcmp a b = -a.num.sign) ∧ (b.num.natAbs * a.den < a.num.natAbs * b.den → qcmp a b = a.num.sign) ∧ (a.num.natAbs * b.den = b.num.natAbs * a.den → qcmp a b = 0)) := by
  have da := a.den_pos
  have db := b.den_pos
  have e1 : a.num = a.num.sign * a.num.natAbs := (Int.sign_mul_natAbs a.num).symm
  have e2 : b.num = b.num.sign * b.num.natAbs := (Int.sign_mul_natAbs b.num).symm
  have m1 : a.num * b.den = a.num.sign * ((a.num.natAbs * b.den : Nat) : Int) := by rw [Int.natCast_mul, ← Int.mul_assoc, ← e1]
  have m2 : b.num * a.den = b.num.sign * ((b.num.natAbs * a.den : Nat) : Int) := by rw [Int.natCast_mul, ← Int.mul_assoc, ← e2]
  have p1 : a.num.sign ≠ 0 → 0 < a.num.natAbs * b.den := fun h => Nat.mul_pos (by rcases sgn_cases a.num with ⟨h1, h2⟩ | ⟨h1, h2⟩ | ⟨h1, h2⟩ <;> omega) db
  have p2 : b.num.sign ≠ 0 → 0 < b.num.natAbs * a.den := fun h => Nat.mul_pos (by rcases sgn_cases b.num with ⟨h1, h2⟩ | ⟨h1, h2⟩ | ⟨h1, h2⟩ <;> omega) da
  have z1 : a.num.sign = 0 → a.num.natAbs * b.den = 0 := fun h => by
    have : a.num.natAbs = 0 := by rcases sgn_cases a.num with ⟨h1, h2⟩ | ⟨h1, h2⟩ | ⟨h1, h2⟩ <;> omega
    rw [this, Nat.zero_mul]
  have z2 : b.num.sign = 0 → b.num.natAbs * a.den = 0 := fun h => by
    have : b.num.natAbs = 0 := by rcases sgn_cases b.num with ⟨h1, h2⟩ | ⟨h1, h2⟩ | ⟨h1, h2⟩ <;> omega
    rw [this, Nat.zero_mul]
  unfold qcmp
  rw [m1, m2]
  have h1 := sgn_cases a.num
  have h2 := sgn_cases b.num
  generalize a.num.natAbs * b.den = A at *
  generalize b.num.natAbs * a.den = C at *
  generalize a.num.sign = s at *
  generalize b.num.sign = t at *
  have hs : s = -1 ∨ s = 0 ∨ s = 1 := by rcases h1 with ⟨_, h⟩ | ⟨_, h⟩ | ⟨_, h⟩ <;> simp [h]
  have ht : t = -1 ∨ t = 0 ∨ t = 1 := by rcases h2 with ⟨_, h⟩ | ⟨_, h⟩ | ⟨_, h⟩ <;> simp [h]
  have neg : ∀ x : Int, x < 0 → x.sign = -1 := fun x h => Int.sign_eq_neg_one_of_neg h
  have pos : ∀ x : Int, 0 < x → x.sign = 1 := fun x h => Int.sign_eq_one_of_pos h
  clear h1 h2 m1 m2 e1 e2
  rcases hs with rfl | rfl | rfl <;> rcases ht with rfl | rfl | rfl <;> simp at p1 p2 z1 z2
  all_goals refine ⟨fun h => ?_, fun h => ?_, fun h => ⟨fun h' => ?_, fun h' => ?_, fun h' => ?_⟩⟩
  all_goals first
    | omega
    | (apply neg; omega)
    | (apply pos; omega)
    | (rw [neg _ (by omega)]; omega)
    | (rw [pos _ (by omega)]; omega)
    | (subst h'; simp; done)
    | (simp [*]; done)
set_option maxRecDepth 100000 in
set_option maxHeartbeats 4000000 in
theorem rcmp_spec : SpecD N Try.prog 59 rcC := by
  refine rdD (mf := fun f => false) rcTb_ok (fn := Try.f59) (by kernel_rfl) rfl (by kernel_rfl) ?_
  rintro ⟨a, b⟩ hq
  have hq : qsz a + qsz b < MX := hq
  refine ⟨by show 2 ≤ 87; decide, ?_⟩
  simp only [r2E, Try.f59]
  have d1 := bigIC_at a
  have d2 := bigIC_at b
  have d3 := bCmpC_at a b
  simp only [hq, i64D] at d3
  by_cases hab : smallQ a ∧ smallQ b
  · obtain ⟨sa, sb⟩ := hab
    have da := a.den_pos
    have db := b.den_pos
    rw [eRat_s sa, eRat_s sb]
    by_cases hd : a.den = b.den
    · rw [qcmp_same hd]
      have hd' : (a.den : Int) = b.den := by omega
      rcases Int.lt_trichotomy a.num b.num with h | h | h
      · rw [Int.sign_eq_neg_one_of_neg (by omega)]
        simp [i64D, hd', h]
      · rw [h, Int.sub_self]
        simp [i64D, hd']
      · rw [Int.sign_eq_one_of_pos (by omega)]
        have h1 : ¬ a.num < b.num := by omega
        simp [i64D, hd', h, h1]
    · obtain ⟨f1, f2, f3⟩ := qcmp_way a b
      have hd' : ¬ (a.den : Int) = b.den := by omega
      have c1 := rsgC_at a
      have c2 := rsgC_at b
      have c3 := absC_at a.num
      have c4 := absC_at b.num
      have c5 := m64C_at a.num.natAbs b.den
      have c6 := m64C_at b.num.natAbs a.den
      have sa' := sa
      have sb' := sb
      unfold smallQ at sa' sb'
      have i1 : I64 a.num := by unfold I64; omega
      have i2 : I64 b.num := by unfold I64; omega
      have i3 : a.num.natAbs < 18446744073709551616 := by omega
      have i4 : b.num.natAbs < 18446744073709551616 := by omega
      have i5 : a.den < 18446744073709551616 := by omega
      have i6 : b.den < 18446744073709551616 := by omega
      have w1 : IntKind.u64.wrap (a.den : Int) = a.den := u64_id _ (by omega) (by omega)
      have w2 : IntKind.u64.wrap (b.den : Int) = b.den := u64_id _ (by omega) (by omega)
      rw [eRat_s sa] at c1
      rw [eRat_s sb] at c2
      simp only [i1, i2, i3, i4, i5, i6, and_self, u64D, i64D] at c1 c2 c3 c4 c5 c6 ⊢
      have hs := sign_bd a.num
      generalize qcmp a b = r at *
      generalize a.num.natAbs * b.den = A at *
      generalize b.num.natAbs * a.den = C at *
      generalize a.num.sign = s at *
      generalize b.num.sign = t at *
      simp at c5 c6
      simp [c1, c2, c3, c4, c5, c6, w1, w2, hd']
      have hS : ∀ x, x = r → Sub (D.lit (.int .i64 x)) (.lit (.int .i64 r)) := fun x h => by rw [h]; exact Sub.refl _
      have v1 : IntKind.i64.wrap (-s) = -s := i64_id _ (by omega) (by omega)
      have v2 : IntKind.i64.wrap s = s := i64_id _ (by omega) (by omega)
      have v3 : IntKind.i64.wrap 0 = 0 := by rw [wrap_i64]; rfl
      rw [v1, v2, v3]
      clear d1 d2 d3 c1 c2 c3 c4 c5 c6 i1 i2 sa' sb' sa sb
      refine ⟨fun k => ⟨fun k1 => hS _ (f1 k1).symm, fun k1 => hS _ (f2 (by omega)).symm⟩, fun k => ?_⟩
      obtain ⟨g1, g2, g3⟩ := f3 k
      exact ⟨fun k1 => ⟨fun k2 => hS _ (g1 (by omega)).symm, fun k2 => hS _ (g2 (by omega)).symm⟩, fun k1 => ⟨fun k2 => ⟨fun k3 => hS _ (g1 (by omega)).symm, fun k3 => hS _ (g2 (by omega)).symm⟩, fun k2 => hS _ (g3 (by omega)).symm⟩⟩
  · by_cases sa : smallQ a
    · have sb : ¬ smallQ b := fun h => hab ⟨sa, h⟩
      rw [eRat_s sa] at d1 ⊢
      rw [eRat_b sb] at d2 ⊢
      simp only [i64D] at d1 d2
      simp [-D.isLit, i64D, d1, d2, d3, List.idxOf_cons]
    · rw [eRat_b sa] at d1 ⊢
      simp only [i64D] at d1
      simp [-D.isLit, i64D, d1, d2, d3, List.idxOf_cons]
theorem rcmp_ok : callable Try.prog 59 = true := by kernel_rfl

/-! QOk, allQ -/
def qOk (n d : Int) : Prop := (1 ≤ d ∧ d ≤ 1000000000000000000) ∧ (-1000000000000000000 ≤ n ∧ n ≤ 1000000000000000000) ∧ Int.gcd n d = 1
instance (n d : Int) : Decidable (qOk n d) := by unfold qOk; infer_instance
theorem qOk_QI {n d : Int} (h : qOk n d) : QI n d := ⟨by unfold qOk at h; omega, h.2.2, by unfold qOk at h; omega, by unfold qOk at h; omega⟩
noncomputable def qokC := ctD qE (fun p => I64 p.a ∧ I64 p.b) (fun p => [boolD (decide (qOk p.a p.b))])
theorem qokC_at (a b : Int) : qokC [eQ a b] = ((I64 a ∧ I64 b), [boolD (decide (qOk a b))]) := ctD_at qE_inj ⟨a, b⟩
theorem iQOk_spec : SpecD N Try.prog 66 qokC := by
  refine rdD (mf := fun f => false) lowTb_ok (fn := Try.f66) (by kernel_rfl) rfl (by kernel_rfl) ?_
  rintro ⟨n, d⟩ ⟨hn, hd⟩
  have hn : I64 n := hn
  have hd : I64 d := hd
  refine ⟨by show 1 ≤ 31; decide, ?_⟩
  have c1 := absC_at n
  have c2 := gcdC_at n.natAbs d.natAbs
  unfold I64 at hd
  have h2 : n.natAbs < 18446744073709551616 := by unfold I64 at hn; omega
  have h3 : d.natAbs < 18446744073709551616 := by omega
  have e3 : Nat.gcd n.natAbs d.natAbs = Int.gcd n d := rfl
  simp only [hn, h2, h3, e3, and_self, u64D, i64D] at c1 c2
  simp only [qE, eQ, i64D, Try.f66, boolD]
  have hw : 1 ≤ d → IntKind.u64.wrap d = (d.natAbs : Int) := fun h => by rw [wrap_u64]; omega
  have e : decide (qOk n d) = (decide (1 ≤ d) && (decide (d ≤ 1000000000000000000) && (decide (-1000000000000000000 ≤ n) && (decide (n ≤ 1000000000000000000) && decide (Int.gcd n d = 1))))) := by
    rw [← Bool.decide_and, ← Bool.decide_and, ← Bool.decide_and, ← Bool.decide_and]
    congr 1
    apply propext
    unfold qOk
    constructor
    · rintro ⟨⟨a, b⟩, ⟨c, e⟩, f⟩; exact ⟨a, b, c, e, f⟩
    · rintro ⟨a, b, c, e, f⟩; exact ⟨⟨a, b⟩, ⟨c, e⟩, f⟩
  rw [e]
  clear e e3
  generalize Int.gcd n d = g at *
  by_cases h1 : 1 ≤ d
  · have w1 := hw h1
    by_cases h4 : d ≤ 1000000000000000000 <;> by_cases h5 : -1000000000000000000 ≤ n <;> by_cases h6 : n ≤ 1000000000000000000 <;> simp [h1, h4, h5, h6, w1, c1, c2]
    by_cases h7 : g = 1
    · subst h7; simp
    · have h7' : ¬ (g : Int) = 1 := by omega
      simp [h7, h7']
  · simp [h1]
theorem iQOk_ok : callable Try.prog 66 = true := by kernel_rfl

/-- A list of fractions as the program gets it. -/
structure QL where
  l : List (Int × Int)
def eQL (l : List (Int × Int)) : D := .sl 2 (l.map fun p => eQ p.1 p.2)
def qlE (p : QL) : List D := [eQL p.l]
theorem eQ_inj {a b c d : Int} (h : eQ a b = eQ c d) : a = c ∧ b = d := by
  simp only [eQ, D.agg.injEq, List.cons.injEq, and_true] at h
  exact ⟨i64D_inj h.1, i64D_inj h.2⟩
theorem eQL_inj : ∀ {a b : List (Int × Int)}, eQL a = eQL b → a = b
  | [], [], _ => rfl
  | x :: a, y :: b, h => by
    simp only [eQL, D.sl.injEq, List.map_cons, List.cons.injEq, true_and] at h
    obtain ⟨h1, h2⟩ := eQ_inj h.1
    have h3 : eQL a = eQL b := by unfold eQL; rw [h.2]
    rw [eQL_inj h3]
    congr 1
    exact Prod.ext h1 h2
  | [], _ :: _, h => by simp [eQL] at h
  | _ :: _, [], h => by simp [eQL] at h
theorem qlE_inj (p q : QL) (h : qlE p = qlE q) : p = q := by
  obtain ⟨a⟩ := p; obtain ⟨b⟩ := q
  simp only [qlE, List.cons.injEq, and_true] at h
  rw [eQL_inj h]
def I64p (p : Int × Int) : Prop := I64 p.1 ∧ I64 p.2
noncomputable def allQC := ctD qlE (fun p => p.l.length < 4611686018427387904 ∧ ∀ q ∈ p.l, I64p q) (fun p => [boolD (p.l.all fun q => decide (qOk q.1 q.2))])
theorem allQC_at (l : List (Int × Int)) : allQC [eQL l] = ((l.length < 4611686018427387904 ∧ ∀ q ∈ l, I64p q), [boolD (l.all fun q => decide (qOk q.1 q.2))]) := ctD_at qlE_inj ⟨l⟩
noncomputable def allQTb : List (FuncId × Ct) := [(66, .data qokC)]
theorem allQTb_ok : TbOK N Try.prog (tbl allQTb) := tbl_cons (c := .data qokC) iQOk_spec iQOk_ok tbl_nil

@[simp] theorem allQTb1 : tbl allQTb 66 = some (.data qokC) := rfl
@[simp] theorem eQ_size (n d : Int) : (eQ n d).size = 2 := rfl
@[simp] theorem eQ_agg (n d : Int) : (eQ n d).isAgg = true := rfl
@[simp] theorem eQ_lit (n d : Int) : (eQ n d).isLit = false := rfl
def allQS (l : List (Int × Int)) (k : Nat) : St := ⟨[.any, .any, .any, .any, .any, .dat (eQL l), .dat (.lit (.int .i64 l.length)), .dat (.lit (.int .i64 k)), .any, .any, .any, .any, .any, .any, .any], [none, none, none, none, none, none, none, none, none, none, none, none, none, none, none]⟩
theorem all_drop {α : Type} (f : α → Bool) (l : List α) (k : Nat) (x : α) (h : l[k]? = some x) (hb : ∀ y ∈ l.take k, f y = true) : (f x = false → l.all f = false) ∧ (f x = true → ∀ y ∈ l.take (k + 1), f y = true) := by
  constructor
  · intro hx
    rw [List.all_eq_false]
    exact ⟨x, List.mem_of_getElem? h, by rw [hx]; simp⟩
  · intro hx y hy
    rw [take_succ l k x h] at hy
    rcases List.mem_append.1 hy with hy | hy
    · exact hb y hy
    · simp at hy; rw [hy]; exact hx
theorem allQ_spec : SpecD N Try.prog 49 allQC := by
  refine rdD (mf := fun f => false) allQTb_ok (fn := Try.f49) (by kernel_rfl) rfl (by kernel_rfl) ?_
  rintro ⟨l⟩ ⟨hl, hb⟩
  have hl : l.length < 4611686018427387904 := hl
  have hb : ∀ q ∈ l, I64p q := hb
  refine ⟨by show 1 ≤ 15; decide, ?_⟩
  simp only [qlE, boolD, Try.f49]
  generalize hr : (l.all fun q => decide (qOk q.1 q.2)) = r
  simp [eQL]
  refine loop_go (fun n st => ∃ k, n = l.length - k ∧ k ≤ l.length ∧ (∀ y ∈ l.take k, decide (qOk y.1 y.2) = true) ∧ st = allQS l k) (s0 := allQS l 0) (n := l.length) (snd_of (by simp [LeT, allQS, eQL]) (by simp [allQS])) ⟨0, rfl, Nat.zero_le _, by simp, rfl⟩ ?_
  rintro n st ⟨k, hn, hk, hall, rfl⟩ KN hN
  by_cases h : k < l.length
  · have hx := List.getElem?_eq_getElem h
    obtain ⟨⟨n0, d0⟩, hq⟩ : ∃ q, q = l[k] := ⟨_, rfl⟩
    rw [← hq] at hx
    have e1 : ix (l.map fun p => eQ p.1 p.2) k = some (eQ n0 d0) := by
      unfold ix
      rw [List.getElem?_map, hx]; rfl
    obtain ⟨i1, i2⟩ := hb (n0, d0) (List.mem_of_getElem? hx)
    have c1 := qokC_at n0 d0
    have i1 : I64 n0 := i1
    have i2 : I64 d0 := i2
    simp only [i1, i2, and_self, boolD] at c1
    obtain ⟨a1, a2⟩ := all_drop (fun q => decide (qOk q.1 q.2)) l k (n0, d0) hx hall
    have w1 : IntKind.i64.wrap ((k : Int) + 1) = (k : Int) + 1 := i64_id _ (by omega) (by omega)
    by_cases hok : qOk n0 d0
    · have a2 := a2 (by simp [hok])
      simp only [hok, decide_true] at c1
      simp [allQS, eQL, h, e1, c1, w1]
      exact hN _ (nx (m := l.length - (k + 1)) (s'' := allQS l (k + 1)) (snd_obs (n := 15) [] rfl (by simp) (by simp [allQS, eQL])) ⟨k + 1, rfl, h, a2, rfl⟩ (by omega))
    · have a1 := a1 (by simp [hok])
      rw [hr] at a1
      subst a1
      simp only [hok, decide_false] at c1
      simp [allQS, eQL, h, e1, c1, w1]
  · have hkl : k = l.length := by omega
    subst hkl
    rw [List.take_length] at hall
    have hrt : r = true := by rw [← hr, List.all_eq_true]; exact hall
    subst hrt
    simp [allQS, eQL]
theorem allQ_ok : callable Try.prog 49 = true := by kernel_rfl
end Go.Proofs.Ytledfadnhcdflaa.Ae

/-! The reference's fractions as opaque numbers: the contracts. No condition. -/
namespace Go.Proofs.Ytledfadnhcdflaa.Ae
open Go Go.RowKit Go.Proofs.Ytledfadnhcdflaa.Dig

theorem nn_z (z : Int) : ∀ k q, eZ z ≠ .num k q := fun k q h => by unfold eZ at h; cases h
theorem nn_i (z : Int) : ∀ k q, i64D z ≠ .num k q := fun k q h => by unfold i64D at h; cases h
theorem nn_q (a b : Int) : ∀ k q, eQ a b ≠ .num k q := fun k q h => by unfold eQ at h; cases h
theorem nn_b (b : Bool) : ∀ k q, boolD b ≠ .num k q := fun k q h => by unfold boolD at h; cases h

noncomputable def nAddC := ctD f2E (fun p => qsz p.a + qsz p.b < MX) (fun p => [nD (p.a + p.b)])
theorem nAddC_at (a b : Rat) : nAddC [nD a, nD b] = (qsz a + qsz b < MX, [nD (a + b)]) := ctD_at f2E_inj ⟨a, b⟩
theorem nAdd_spec : SpecD NF Try.prog 47 nAddC := specD_num' l1rAdd_spec (fun ⟨a, b⟩ h ds hc => by
  obtain ⟨r, s, h1, rfl, h2, rfl, rfl⟩ := cv2 hc
  have h : qsz r.val + qsz s.val < MX := h
  obtain ⟨s1, s2, s3, s4, s5, s6, s7⟩ := cross_sz h1 h2 h
  have c := rAddC_at r s
  rw [c]
  exact ⟨⟨h1.1, h2.1, s1, s2, s3, s5⟩, cv_to (add_ok h1 h2 h), trivial⟩)
noncomputable def nMulC := ctD f2E (fun p => qsz p.a + qsz p.b < MX) (fun p => [nD (p.a * p.b)])
theorem nMulC_at (a b : Rat) : nMulC [nD a, nD b] = (qsz a + qsz b < MX, [nD (a * b)]) := ctD_at f2E_inj ⟨a, b⟩
theorem nMul_spec : SpecD NF Try.prog 54 nMulC := specD_num' l1rMul_spec (fun ⟨a, b⟩ h ds hc => by
  obtain ⟨r, s, h1, rfl, h2, rfl, rfl⟩ := cv2 hc
  have h : qsz r.val + qsz s.val < MX := h
  obtain ⟨s1, s2, s3, s4, s5, s6, s7⟩ := cross_sz h1 h2 h
  have c := rMulC_at r s
  rw [c]
  exact ⟨⟨h1.1, h2.1, s6, s5⟩, cv_to (mul_ok h1 h2 h), trivial⟩)
noncomputable def nSubC := ctD f2E (fun p => qsz p.a + qsz p.b < MX) (fun p => [nD (p.a - p.b)])
theorem nSubC_at (a b : Rat) : nSubC [nD a, nD b] = (qsz a + qsz b < MX, [nD (a - b)]) := ctD_at f2E_inj ⟨a, b⟩
theorem nSub_spec : SpecD NF Try.prog 52 nSubC := specD_num' l1rSub_spec (fun ⟨a, b⟩ h ds hc => by
  obtain ⟨r, s, h1, rfl, h2, rfl, rfl⟩ := cv2 hc
  have h : qsz r.val + qsz s.val < MX := h
  obtain ⟨s1, s2, s3, s4, s5, s6, s7⟩ := cross_sz h1 h2 h
  have c := rSubC_at r s
  rw [c]
  exact ⟨⟨h1.1, h2.1, s1, s2, s4, s5⟩, cv_to (sub_ok h1 h2 h), trivial⟩)
noncomputable def nDivC := ctD f2E (fun p => qsz p.a + qsz p.b < MX ∧ p.b ≠ 0) (fun p => [nD (p.a / p.b)])
theorem nDivC_at (a b : Rat) : nDivC [nD a, nD b] = ((qsz a + qsz b < MX ∧ b ≠ 0), [nD (a / b)]) := ctD_at f2E_inj ⟨a, b⟩
theorem nDiv_spec : SpecD NF Try.prog 56 nDivC := specD_num' l1rDiv_spec (fun ⟨a, b⟩ h ds hc => by
  obtain ⟨r, s, h1, rfl, h2, rfl, rfl⟩ := cv2 hc
  obtain ⟨h, h0⟩ := h
  have h : qsz r.val + qsz s.val < MX := h
  have h0 : s.val ≠ 0 := h0
  obtain ⟨s1, s2, s3, s4, s5, s6, s7⟩ := cross_sz h1 h2 h
  have c := rDivC_at r s
  rw [c]
  exact ⟨⟨h1.1, h2.1, fun h' => h0 ((val_zero h2.1).2 h'), s1, s7⟩, cv_to (div_ok h1 h2 h0 h), trivial⟩)
noncomputable def nNegC := ctD f1E (fun p => True) (fun p => [nD (-p.a)])
theorem nNegC_at (a : Rat) : nNegC [nD a] = (True, [nD (-a)]) := ctD_at f1E_inj ⟨a⟩
theorem nNeg_spec : SpecD NF Try.prog 107 nNegC := specD_num' l1rNeg_spec (fun ⟨a⟩ h ds hc => by
  obtain ⟨r, h1, rfl, rfl⟩ := cv1 hc
  have c := rNegC_at r
  rw [c]
  exact ⟨h1.1, cv_to ⟨neg_WV h1, neg_val r⟩, trivial⟩)
noncomputable def nSignC := ctD f1E (fun p => True) (fun p => [i64D p.a.num.sign])
theorem nSignC_at (a : Rat) : nSignC [nD a] = (True, [i64D a.num.sign]) := ctD_at f1E_inj ⟨a⟩
theorem nSign_spec : SpecD NF Try.prog 137 nSignC := specD_num' l1rSign_spec (fun ⟨a⟩ h ds hc => by
  obtain ⟨r, h1, rfl, rfl⟩ := cv1 hc
  have c := rSignC_at r
  rw [c]
  refine ⟨h1.1, ?_⟩
  rw [sign_val h1.1]
  exact cvo1 (nn_i _))
noncomputable def nCmpC := ctD f2E (fun p => qsz p.a + qsz p.b < MX) (fun p => [i64D (qcmp p.a p.b)])
theorem nCmpC_at (a b : Rat) : nCmpC [nD a, nD b] = (qsz a + qsz b < MX, [i64D (qcmp a b)]) := ctD_at f2E_inj ⟨a, b⟩
theorem nCmp_spec : SpecD NF Try.prog 58 nCmpC := specD_num' l1rCmp_spec (fun ⟨a, b⟩ h ds hc => by
  obtain ⟨r, s, h1, rfl, h2, rfl, rfl⟩ := cv2 hc
  have h : qsz r.val + qsz s.val < MX := h
  obtain ⟨s1, s2, s3, s4, s5, s6, s7⟩ := cross_sz h1 h2 h
  have c := rCmpC_at r s
  rw [c]
  refine ⟨⟨h1.1, h2.1, s1, s2, s4⟩, ?_⟩
  rw [cmp_val h1.1 h2.1]
  exact cvo1 (nn_i _))
noncomputable def nFloorC := ctD f1E (fun p => True) (fun p => [eZ p.a.floor])
theorem nFloorC_at (a : Rat) : nFloorC [nD a] = (True, [eZ a.floor]) := ctD_at f1E_inj ⟨a⟩
theorem nFloor_spec : SpecD NF Try.prog 60 nFloorC := specD_num' l1rFloor_spec (fun ⟨a⟩ h ds hc => by
  obtain ⟨r, h1, rfl, rfl⟩ := cv1 hc
  have c := rFloorC_at r
  rw [c]
  refine ⟨h1.1, ?_⟩
  rw [floor_val h1.1]
  exact cvo1 (nn_z _))
def d3 (r : Int × Int × Bool) : List D := [eQ r.1 r.2.1, boolD r.2.2]
noncomputable def nQC := ctD f1E (fun p => True) (fun p => d3 (oq p.a))
theorem nQC_at (a : Rat) : nQC [nD a] = (True, d3 (oq a)) := ctD_at f1E_inj ⟨a⟩
theorem nQ_spec : SpecD NF Try.prog 39 nQC := specD_num' l1rQ_spec (fun ⟨a⟩ h ds hc => by
  obtain ⟨r, h1, rfl, rfl⟩ := cv1 hc
  have c := rQC_at r
  rw [c]
  refine ⟨h1.1, ?_⟩
  rw [qOf_val h1]
  exact cvo2 (nn_q _ _) (nn_b _))
noncomputable def nWholeC := ctD zE (fun p => SZ p.a) (fun p => [nD (p.a : Rat)])
theorem nWholeC_at (a : Int) : nWholeC [eZ a] = (SZ a, [nD (a : Rat)]) := ctD_at zE_inj ⟨a⟩
theorem divInt_one (a : Int) : Rat.divInt a 1 = (a : Rat) := by rw [Rat.divInt_eq_div]; grind
theorem nWhole_spec : SpecD NF Try.prog 61 nWholeC := specD_num' l1rWhole_spec (fun ⟨a⟩ h ds hc => by
  obtain rfl := cvs1 (nn_z a) hc
  have h : SZ a := h
  have c := rWholeC_at a
  rw [c]
  have h1 := packR_ok (p := a) (q := 1) (by decide) h (SZ_I64 (by unfold I64; omega)) (by simp)
  rw [divInt_one] at h1
  exact ⟨h, cv_to h1, trivial⟩)
noncomputable def nqC := ctD qE (fun p => I64 p.a ∧ I64 p.b ∧ 0 < p.b) (fun p => [nD (Rat.divInt p.a p.b)])
theorem nqC_at (a b : Int) : nqC [eQ a b] = ((I64 a ∧ I64 b ∧ 0 < b), [nD (Rat.divInt a b)]) := ctD_at qE_inj ⟨a, b⟩
theorem nq_spec : SpecD NF Try.prog 48 nqC := specD_num' l1q_spec (fun ⟨a, b⟩ h ds hc => by
  obtain rfl := cvs1 (nn_q a b) hc
  obtain ⟨h1, h2, h3⟩ := h
  have h1 : I64 a := h1
  have h2 : I64 b := h2
  have h3 : 0 < b := h3
  have c := l1qC_at a b
  rw [c]
  exact ⟨⟨h1, h2, h3⟩, cv_to (ofR_ok h3 h1 h2), trivial⟩)
noncomputable def nOfC := ctD iiE (fun p => I64 p.a ∧ I64 p.b ∧ 0 < p.b) (fun p => [nD (Rat.divInt p.a p.b)])
theorem nOfC_at (a b : Int) : nOfC [i64D a, i64D b] = ((I64 a ∧ I64 b ∧ 0 < b), [nD (Rat.divInt a b)]) := ctD_at iiE_inj ⟨a, b⟩
theorem nOf_spec : SpecD NF Try.prog 104 nOfC := specD_num' l1rOf_spec (fun ⟨a, b⟩ h ds hc => by
  obtain rfl := cvs2 (nn_i a) (nn_i b) hc
  obtain ⟨h1, h2, h3⟩ := h
  have h1 : I64 a := h1
  have h2 : I64 b := h2
  have h3 : 0 < b := h3
  have c := ofC_at a b
  rw [c]
  exact ⟨⟨h1, h2, h3⟩, cv_to (ofR_ok h3 h1 h2), trivial⟩)
noncomputable def nBigC := ctD zzE (fun p => SZ p.a ∧ SZ p.b ∧ p.b ≠ 0) (fun p => [nD (Rat.divInt p.a p.b)])
theorem nBigC_at (a b : Int) : nBigC [eZ a, eZ b] = ((SZ a ∧ SZ b ∧ b ≠ 0), [nD (Rat.divInt a b)]) := ctD_at zzE_inj ⟨a, b⟩
theorem nBig_spec : SpecD NF Try.prog 40 nBigC := specD_num' l1rBig_spec (fun ⟨a, b⟩ h ds hc => by
  obtain rfl := cvs2 (nn_z a) (nn_z b) hc
  obtain ⟨h1, h2, h3⟩ := h
  have h1 : SZ a := h1
  have h2 : SZ b := h2
  have h3 : b ≠ 0 := h3
  have c := bigC_at a b
  rw [c]
  exact ⟨⟨h1, h2, h3⟩, cv_to (bigR_ok h3 h1 h2), trivial⟩)
theorem oQ_d3 (q : Rat) : oQ q = d3 (oq q) := by
  unfold oQ oq d3
  by_cases h : isQ q
  · rw [if_pos h, if_pos (show q.num.natAbs ≤ 1000000000000000000 ∧ q.den ≤ 1000000000000000000 from h)]
  · rw [if_neg h, if_neg (show ¬ (q.num.natAbs ≤ 1000000000000000000 ∧ q.den ≤ 1000000000000000000) from h)]
end Go.Proofs.Ytledfadnhcdflaa.Ae

/-! impl: QAdd, QSub, QMul, QDiv, QCmp, QFloor, QOf. No condition. -/
namespace Go.Proofs.Ytledfadnhcdflaa.Ae
open Go Go.RowKit Go.Proofs.Ytledfadnhcdflaa.Dig

structure Q4 where
  a : Int
  b : Int
  c : Int
  d : Int
def q4E (p : Q4) : List D := [eQ p.a p.b, eQ p.c p.d]
theorem q4E_inj (p q : Q4) (h : q4E p = q4E q) : p = q := by
  obtain ⟨a, b, c, d⟩ := p; obtain ⟨a', b', c', d'⟩ := q
  simp only [q4E, List.cons.injEq, and_true] at h
  obtain ⟨h1, h2⟩ := eQ_inj h.1
  obtain ⟨h3, h4⟩ := eQ_inj h.2
  simp only [h1, h2, h3, h4]
def I4 (p : Q4) : Prop := (I64 p.a ∧ I64 p.b) ∧ I64 p.c ∧ I64 p.d
def no3 : Int × Int × Bool := (0, 0, false)
def opR (ok : Prop) [Decidable ok] (F : Rat → Rat → Rat) (p : Q4) : Int × Int × Bool := if ok then oq (F (Rat.divInt p.a p.b) (Rat.divInt p.c p.d)) else no3
theorem opR_y {ok : Prop} [Decidable ok] {F : Rat → Rat → Rat} {p : Q4} (h : ok) : opR ok F p = oq (F (Rat.divInt p.a p.b) (Rat.divInt p.c p.d)) := if_pos h
theorem opR_n {ok : Prop} [Decidable ok] {F : Rat → Rat → Rat} {p : Q4} (h : ¬ ok) : opR ok F p = no3 := if_neg h
def ok2 (p : Q4) : Prop := qOk p.a p.b ∧ qOk p.c p.d
instance (p : Q4) : Decidable (ok2 p) := by unfold ok2; infer_instance
def okD (p : Q4) : Prop := ok2 p ∧ p.c ≠ 0
instance (p : Q4) : Decidable (okD p) := by unfold okD; infer_instance
def okF (p : Q4) : Prop := ok2 p ∧ 0 < p.c
instance (p : Q4) : Decidable (okF p) := by unfold okF; infer_instance
def flr (a b : Rat) : Rat := ((a / b).floor : Rat) * b
noncomputable def qaddC := ctD q4E I4 (fun p => d3 (opR (ok2 p) (· + ·) p))
noncomputable def qsubC := ctD q4E I4 (fun p => d3 (opR (ok2 p) (· - ·) p))
noncomputable def qmulC := ctD q4E I4 (fun p => d3 (opR (ok2 p) (· * ·) p))
noncomputable def qdivC := ctD q4E I4 (fun p => d3 (opR (okD p) (· / ·) p))
noncomputable def qflrC := ctD q4E I4 (fun p => d3 (opR (okF p) flr p))
noncomputable def qcmpC := ctD q4E I4 (fun p => [i64D (if ok2 p then qcmp (Rat.divInt p.a p.b) (Rat.divInt p.c p.d) else 2)])
noncomputable def qofC := ctD iiE (fun p => I64 p.a ∧ I64 p.b) (fun p => d3 (if p.b = 0 then no3 else oq (Rat.divInt p.a p.b)))
theorem qaddC_at (a b c d : Int) : qaddC [eQ a b, eQ c d] = (I4 ⟨a, b, c, d⟩, d3 (opR (ok2 ⟨a, b, c, d⟩) (· + ·) ⟨a, b, c, d⟩)) := ctD_at q4E_inj ⟨a, b, c, d⟩
theorem qsubC_at (a b c d : Int) : qsubC [eQ a b, eQ c d] = (I4 ⟨a, b, c, d⟩, d3 (opR (ok2 ⟨a, b, c, d⟩) (· - ·) ⟨a, b, c, d⟩)) := ctD_at q4E_inj ⟨a, b, c, d⟩
theorem qmulC_at (a b c d : Int) : qmulC [eQ a b, eQ c d] = (I4 ⟨a, b, c, d⟩, d3 (opR (ok2 ⟨a, b, c, d⟩) (· * ·) ⟨a, b, c, d⟩)) := ctD_at q4E_inj ⟨a, b, c, d⟩
theorem qdivC_at (a b c d : Int) : qdivC [eQ a b, eQ c d] = (I4 ⟨a, b, c, d⟩, d3 (opR (okD ⟨a, b, c, d⟩) (· / ·) ⟨a, b, c, d⟩)) := ctD_at q4E_inj ⟨a, b, c, d⟩
theorem qflrC_at (a b c d : Int) : qflrC [eQ a b, eQ c d] = (I4 ⟨a, b, c, d⟩, d3 (opR (okF ⟨a, b, c, d⟩) flr ⟨a, b, c, d⟩)) := ctD_at q4E_inj ⟨a, b, c, d⟩
theorem qcmpC_at (a b c d : Int) : qcmpC [eQ a b, eQ c d] = (I4 ⟨a, b, c, d⟩, [i64D (if ok2 ⟨a, b, c, d⟩ then qcmp (Rat.divInt a b) (Rat.divInt c d) else 2)]) := ctD_at q4E_inj ⟨a, b, c, d⟩
theorem qofC_at (a b : Int) : qofC [i64D a, i64D b] = ((I64 a ∧ I64 b), d3 (if b = 0 then no3 else oq (Rat.divInt a b))) := ctD_at iiE_inj ⟨a, b⟩
theorem d3_no : d3 no3 = [eQ 0 0, boolD false] := rfl
theorem QI_qsz {n d : Int} (h : QI n d) : qsz (Rat.divInt n d) ≤ 2 := smallQ_qsz (QI_small h)
theorem QI_ne {n d : Int} (h : QI n d) (h0 : n ≠ 0) : Rat.divInt n d ≠ 0 := fun e => by
  have := (QI_num h).1
  rw [e] at this
  exact h0 this.symm
theorem ln_floor (q : Rat) : ln q.floor.natAbs ≤ qsz q := by
  rw [Rat.floor_def]
  exact Nat.le_trans (ln_mono (natAbs_ediv_le _ _)) (qsz_num q)
theorem qsz_floor (q : Rat) : qsz (q.floor : Rat) ≤ qsz q := by
  rw [qsz_int]
  have h1 := ln_floor q
  have h2 := qsz_pos q
  omega
theorem allQ2 (a b c d : Int) (h : I4 ⟨a, b, c, d⟩) : allQC [.sl 2 [eQ a b, eQ c d]] = (True, [boolD (decide (ok2 ⟨a, b, c, d⟩))]) := by
  have h1 := allQC_at [(a, b), (c, d)]
  have h2 : ([(a, b), (c, d)] : List (Int × Int)).length < 4611686018427387904 ∧ ∀ q ∈ [(a, b), (c, d)], I64p q := by
    refine ⟨by simp, ?_⟩
    intro q hq
    simp at hq
    rcases hq with rfl | rfl
    · exact h.1
    · exact h.2
  have h3 : (([(a, b), (c, d)] : List (Int × Int)).all fun q => decide (qOk q.1 q.2)) = decide (ok2 ⟨a, b, c, d⟩) := by
    by_cases h1 : qOk a b <;> by_cases h2 : qOk c d <;> simp [ok2, h1, h2]
  rw [h3, eq_true h2] at h1
  exact h1
@[simp] theorem nav_eQ0 (n d : Int) : nav (eQ n d) [0] = some (.lit (.int .i64 n), 0) := rfl
@[simp] theorem nav_eQ1 (n d : Int) : nav (eQ n d) [1] = some (.lit (.int .i64 d), 1) := rfl
theorem eQ00 : eQ 0 0 = .agg [.lit (.int .i64 0), .lit (.int .i64 0)] := rfl

noncomputable def pqTb : List (FuncId × Ct) := [(49, .data allQC), (50, .data rqC), (51, .data raddC), (53, .data rsubC), (55, .data rmC), (57, .data rdvC), (59, .data rcC), (45, .data rqqC), (63, .data rflC), (62, .data fiC), (43, .mut [true, false, false] sfC), (44, .data newC), (42, .data fitC)]
theorem pqTb_ok {N : NR} : TbOK N Try.prog (tbl pqTb) := tbl_cons (c := .data allQC) allQ_spec allQ_ok (tbl_cons (c := .data rqC) rq_spec rq_ok (tbl_cons (c := .data raddC) radd_spec radd_ok (tbl_cons (c := .data rsubC) rsub_spec rsub_ok (tbl_cons (c := .data rmC) rmul_spec rmul_ok (tbl_cons (c := .data rdvC) rdiv_spec rdiv_ok (tbl_cons (c := .data rcC) rcmp_spec rcmp_ok (tbl_cons (c := .data rqqC) rqq_spec rqq_ok (tbl_cons (c := .data rflC) rfloor_spec rfloor_ok (tbl_cons (c := .data fiC) fromInt_spec fromInt_ok (tbl_cons (c := .mut [true, false, false] sfC) SetFrac_spec SetFrac_ok (tbl_cons (c := .data newC) newBigInt_spec newBigInt_ok (tbl_cons (c := .data fitC) fit_spec fit_ok tbl_nil))))))))))))

@[simp] theorem pqTb1 : tbl pqTb 49 = some (.data allQC) := rfl
@[simp] theorem pqTb2 : tbl pqTb 50 = some (.data rqC) := rfl
@[simp] theorem pqTb3 : tbl pqTb 51 = some (.data raddC) := rfl
@[simp] theorem pqTb4 : tbl pqTb 53 = some (.data rsubC) := rfl
@[simp] theorem pqTb5 : tbl pqTb 55 = some (.data rmC) := rfl
@[simp] theorem pqTb6 : tbl pqTb 57 = some (.data rdvC) := rfl
@[simp] theorem pqTb7 : tbl pqTb 59 = some (.data rcC) := rfl
@[simp] theorem pqTb8 : tbl pqTb 45 = some (.data rqqC) := rfl
@[simp] theorem pqTb9 : tbl pqTb 63 = some (.data rflC) := rfl
@[simp] theorem pqTb10 : tbl pqTb 62 = some (.data fiC) := rfl
@[simp] theorem pqTb11 : tbl pqTb 43 = some (.mut [true, false, false] sfC) := rfl
@[simp] theorem pqTb12 : tbl pqTb 44 = some (.data newC) := rfl
@[simp] theorem pqTb13 : tbl pqTb 42 = some (.data fitC) := rfl
def pqMf : FuncId → Bool := fun f => f == 42 || f == 43
attribute [simp] pqMf

theorem iQAdd_spec {N : NR} : SpecD N Try.prog 19 qaddC := by
  refine rdD (mf := pqMf) pqTb_ok (fn := Try.f19) (by kernel_rfl) rfl (by kernel_rfl) ?_
  rintro ⟨a, b, c, d⟩ hI
  have hI : I4 ⟨a, b, c, d⟩ := hI
  refine ⟨of_decide_eq_true (by kernel_rfl), ?_⟩
  have c1 := allQ2 a b c d hI
  simp only [q4E, Try.f19]
  by_cases h : ok2 ⟨a, b, c, d⟩
  · simp only [h, decide_true, boolD] at c1
    have q1 : QI a b := qOk_QI h.1
    have q2 : QI c d := qOk_QI h.2
    have c2 := rqC_at a b
    have c3 := rqC_at c d
    have z1 := QI_qsz q1
    have z2 := QI_qsz q2
    have hz : qsz (Rat.divInt a b) + qsz (Rat.divInt c d) < MX := by unfold MX; omega
    have c4 := raddC_at (Rat.divInt a b) (Rat.divInt c d)
    have c5 := rqqC_at (Rat.divInt a b + Rat.divInt c d)
    rw [opR_y (F := (· + ·)) h]
    simp only [q1, q2, hz, oQ_d3] at c2 c3 c4 c5
    generalize oq (Rat.divInt a b + Rat.divInt c d) = o at *
    simp only [d3, boolD] at c5 ⊢
    simp [-D.isLit, c1, c2, c3, c4, c5]
  · rw [opR_n (F := (· + ·)) h]
    simp only [h, decide_false, boolD] at c1
    simp only [d3_no, boolD]
    simp [-D.isLit, c1, eQ00]
theorem iQAdd_ok : callable Try.prog 19 = true := by kernel_rfl

theorem iQSub_spec {N : NR} : SpecD N Try.prog 21 qsubC := by
  refine rdD (mf := pqMf) pqTb_ok (fn := Try.f21) (by kernel_rfl) rfl (by kernel_rfl) ?_
  rintro ⟨a, b, c, d⟩ hI
  have hI : I4 ⟨a, b, c, d⟩ := hI
  refine ⟨of_decide_eq_true (by kernel_rfl), ?_⟩
  have c1 := allQ2 a b c d hI
  simp only [q4E, Try.f21]
  by_cases h : ok2 ⟨a, b, c, d⟩
  · simp only [h, decide_true, boolD] at c1
    have q1 : QI a b := qOk_QI h.1
    have q2 : QI c d := qOk_QI h.2
    have c2 := rqC_at a b
    have c3 := rqC_at c d
    have z1 := QI_qsz q1
    have z2 := QI_qsz q2
    have hz : qsz (Rat.divInt a b) + qsz (Rat.divInt c d) < MX := by unfold MX; omega
    have c4 := rsubC_at (Rat.divInt a b) (Rat.divInt c d)
    have c5 := rqqC_at (Rat.divInt a b - Rat.divInt c d)
    rw [opR_y (F := (· - ·)) h]
    simp only [q1, q2, hz, oQ_d3] at c2 c3 c4 c5
    generalize oq (Rat.divInt a b - Rat.divInt c d) = o at *
    simp only [d3, boolD] at c5 ⊢
    simp [-D.isLit, c1, c2, c3, c4, c5]
  · rw [opR_n (F := (· - ·)) h]
    simp only [h, decide_false, boolD] at c1
    simp only [d3_no, boolD]
    simp [-D.isLit, c1, eQ00]
theorem iQSub_ok : callable Try.prog 21 = true := by kernel_rfl

theorem iQMul_spec {N : NR} : SpecD N Try.prog 23 qmulC := by
  refine rdD (mf := pqMf) pqTb_ok (fn := Try.f23) (by kernel_rfl) rfl (by kernel_rfl) ?_
  rintro ⟨a, b, c, d⟩ hI
  have hI : I4 ⟨a, b, c, d⟩ := hI
  refine ⟨of_decide_eq_true (by kernel_rfl), ?_⟩
  have c1 := allQ2 a b c d hI
  simp only [q4E, Try.f23]
  by_cases h : ok2 ⟨a, b, c, d⟩
  · simp only [h, decide_true, boolD] at c1
    have q1 : QI a b := qOk_QI h.1
    have q2 : QI c d := qOk_QI h.2
    have c2 := rqC_at a b
    have c3 := rqC_at c d
    have z1 := QI_qsz q1
    have z2 := QI_qsz q2
    have hz : qsz (Rat.divInt a b) + qsz (Rat.divInt c d) < MX := by unfold MX; omega
    have c4 := rmC_at (Rat.divInt a b) (Rat.divInt c d)
    have c5 := rqqC_at (Rat.divInt a b * Rat.divInt c d)
    rw [opR_y (F := (· * ·)) h]
    simp only [q1, q2, hz, oQ_d3] at c2 c3 c4 c5
    generalize oq (Rat.divInt a b * Rat.divInt c d) = o at *
    simp only [d3, boolD] at c5 ⊢
    simp [-D.isLit, c1, c2, c3, c4, c5]
  · rw [opR_n (F := (· * ·)) h]
    simp only [h, decide_false, boolD] at c1
    simp only [d3_no, boolD]
    simp [-D.isLit, c1, eQ00]
theorem iQMul_ok : callable Try.prog 23 = true := by kernel_rfl

theorem iQDiv_spec {N : NR} : SpecD N Try.prog 25 qdivC := by
  refine rdD (mf := pqMf) pqTb_ok (fn := Try.f25) (by kernel_rfl) rfl (by kernel_rfl) ?_
  rintro ⟨a, b, c, d⟩ hI
  have hI : I4 ⟨a, b, c, d⟩ := hI
  refine ⟨of_decide_eq_true (by kernel_rfl), ?_⟩
  have c1 := allQ2 a b c d hI
  simp only [q4E, Try.f25]
  by_cases h : ok2 ⟨a, b, c, d⟩
  · simp only [h, decide_true, boolD] at c1
    have q1 : QI a b := qOk_QI h.1
    have q2 : QI c d := qOk_QI h.2
    have c2 := rqC_at a b
    have c3 := rqC_at c d
    have z1 := QI_qsz q1
    have z2 := QI_qsz q2
    have hz : qsz (Rat.divInt a b) + qsz (Rat.divInt c d) < MX := by unfold MX; omega
    by_cases h0 : c = 0
    · rw [opR_n (F := (· / ·)) (fun h' => h'.2 h0)]
      simp only [d3_no, boolD]
      simp [-D.isLit, c1, h0, eQ00]
      simp [-D.isLit, h0] at c1
      simp [-D.isLit, c1, h0]
    · have c4 := rdvC_at (Rat.divInt a b) (Rat.divInt c d)
      have c5 := rqqC_at (Rat.divInt a b / Rat.divInt c d)
      have hne := QI_ne q2 h0
      rw [opR_y (F := (· / ·)) ⟨h, h0⟩]
      simp only [q1, q2, hz, hne, ne_eq, not_false_eq_true, and_self, oQ_d3] at c2 c3 c4 c5
      generalize oq (Rat.divInt a b / Rat.divInt c d) = o at *
      simp only [d3, boolD] at c5 ⊢
      simp [-D.isLit, c1, c2, c3, c4, c5, h0]
  · rw [opR_n (F := (· / ·)) (fun h' => h h'.1)]
    simp only [h, decide_false, boolD] at c1
    simp only [d3_no, boolD]
    simp [-D.isLit, c1, eQ00]
theorem iQDiv_ok : callable Try.prog 25 = true := by kernel_rfl

theorem iQCmp_spec {N : NR} : SpecD N Try.prog 27 qcmpC := by
  refine rdD (mf := pqMf) pqTb_ok (fn := Try.f27) (by kernel_rfl) rfl (by kernel_rfl) ?_
  rintro ⟨a, b, c, d⟩ hI
  have hI : I4 ⟨a, b, c, d⟩ := hI
  refine ⟨of_decide_eq_true (by kernel_rfl), ?_⟩
  have c1 := allQ2 a b c d hI
  simp only [q4E, Try.f27]
  by_cases h : ok2 ⟨a, b, c, d⟩
  · simp only [h, decide_true, boolD, if_true] at c1 ⊢
    have q1 : QI a b := qOk_QI h.1
    have q2 : QI c d := qOk_QI h.2
    have c2 := rqC_at a b
    have c3 := rqC_at c d
    have z1 := QI_qsz q1
    have z2 := QI_qsz q2
    have hz : qsz (Rat.divInt a b) + qsz (Rat.divInt c d) < MX := by unfold MX; omega
    have c4 := rcC_at (Rat.divInt a b) (Rat.divInt c d)
    have hb : -1 ≤ qcmp (Rat.divInt a b) (Rat.divInt c d) ∧ qcmp (Rat.divInt a b) (Rat.divInt c d) ≤ 1 := sign_bd _
    simp only [q1, q2, hz, i64D] at c2 c3 c4 ⊢
    generalize qcmp (Rat.divInt a b) (Rat.divInt c d) = r at *
    have w : IntKind.i64.wrap r = r := i64_id _ (by omega) (by omega)
    simp [-D.isLit, c1, c2, c3, c4, w]
  · simp only [h, decide_false, boolD, if_false] at c1 ⊢
    simp [-D.isLit, c1, i64D]
theorem iQCmp_ok : callable Try.prog 27 = true := by kernel_rfl
theorem iQFloor_spec {N : NR} : SpecD N Try.prog 29 qflrC := by
  refine rdD (mf := pqMf) pqTb_ok (fn := Try.f29) (by kernel_rfl) rfl (by kernel_rfl) ?_
  rintro ⟨a, b, c, d⟩ hI
  have hI : I4 ⟨a, b, c, d⟩ := hI
  refine ⟨of_decide_eq_true (by kernel_rfl), ?_⟩
  have c1 := allQ2 a b c d hI
  simp only [q4E, Try.f29]
  by_cases h : ok2 ⟨a, b, c, d⟩
  · simp only [h, decide_true, boolD] at c1
    have q1 : QI a b := qOk_QI h.1
    have q2 : QI c d := qOk_QI h.2
    have c2 := rqC_at a b
    have c3 := rqC_at c d
    have z1 := QI_qsz q1
    have z2 := QI_qsz q2
    have hz : qsz (Rat.divInt a b) + qsz (Rat.divInt c d) < MX := by unfold MX; omega
    by_cases h0 : c ≤ 0
    · rw [opR_n (F := flr) (fun h' => by have h'' : 0 < c := h'.2; omega)]
      simp only [d3_no, boolD]
      have h1 : ¬ 0 < c := by omega
      simp [-D.isLit, c1, h0, h1, eQ00]
    · have h1 : 0 < c := by omega
      have hne := QI_ne q2 (by omega)
      have c4 := rdvC_at (Rat.divInt a b) (Rat.divInt c d)
      have c5 := rflC_at (Rat.divInt a b / Rat.divInt c d)
      have c6 := fiC_at (Rat.divInt a b / Rat.divInt c d).floor
      have c7 := rmC_at ((Rat.divInt a b / Rat.divInt c d).floor : Rat) (Rat.divInt c d)
      have c8 := rqqC_at (flr (Rat.divInt a b) (Rat.divInt c d))
      have z3 := qsz_div (a := Rat.divInt a b) hne
      have z4 := qsz_floor (Rat.divInt a b / Rat.divInt c d)
      have z5 := ln_floor (Rat.divInt a b / Rat.divInt c d)
      have z6 : qsz (Rat.divInt a b / Rat.divInt c d) < MX := by omega
      have z7 : ln (Rat.divInt a b / Rat.divInt c d).floor.natAbs < MX := by omega
      have z8 : qsz ((Rat.divInt a b / Rat.divInt c d).floor : Rat) + qsz (Rat.divInt c d) < MX := by unfold MX at *; omega
      rw [opR_y (F := flr) ⟨h, h1⟩]
      simp only [q1, q2, hz, hne, z6, z7, z8, ne_eq, not_false_eq_true, and_self, oQ_d3] at c2 c3 c4 c5 c6 c7 c8
      have e : flr (Rat.divInt a b) (Rat.divInt c d) = ((Rat.divInt a b / Rat.divInt c d).floor : Rat) * Rat.divInt c d := rfl
      rw [← e] at c7
      generalize flr (Rat.divInt a b) (Rat.divInt c d) = fl at *
      generalize (Rat.divInt a b / Rat.divInt c d).floor = fz at *
      generalize oq fl = o at *
      simp only [d3, boolD] at c8 ⊢
      simp [-D.isLit, c1, c2, c3, c4, c5, c6, c7, c8, h0, h1]
  · rw [opR_n (F := flr) (fun h' => h h'.1)]
    simp only [h, decide_false, boolD] at c1
    simp only [d3_no, boolD]
    simp [-D.isLit, c1, eQ00]
theorem iQFloor_ok : callable Try.prog 29 = true := by kernel_rfl
theorem iQOf_spec {N : NR} : SpecD N Try.prog 15 qofC := by
  refine rdD (mf := pqMf) pqTb_ok (fn := Try.f15) (by kernel_rfl) rfl (by kernel_rfl) ?_
  rintro ⟨a, b⟩ ⟨ha, hb⟩
  have ha : I64 a := ha
  have hb : I64 b := hb
  refine ⟨of_decide_eq_true (by kernel_rfl), ?_⟩
  simp only [iiE, Try.f15]
  by_cases h0 : b = 0
  · rw [if_pos h0]
    subst h0
    simp only [d3_no, boolD]
    simp [-D.isLit, i64D, eQ00]
  · rw [if_neg h0]
    have c1 := newC_at a
    have c2 := newC_at b
    have c3 := sfC_n a b
    have c4 := fitC_at (Rat.divInt a b)
    have c5 := rqqC_at (Rat.divInt a b)
    have hl := qsz_divInt (n := a) h0
    have l1 : ln a.natAbs ≤ 2 := ln_i64 (by unfold I64 at ha; omega)
    have l2 : ln b.natAbs ≤ 2 := ln_i64 (by unfold I64 at hb; omega)
    have hl2 : qsz (Rat.divInt a b) < 1099511627776 := by omega
    simp only [ha, hb, SZ_I64 ha, SZ_I64 hb, h0, hl2, i64D, ne_eq, not_false_eq_true, and_self, oQ_d3] at c1 c2 c3 c4 c5
    generalize oq (Rat.divInt a b) = o at *
    simp only [d3, boolD] at c5 ⊢
    simp [-D.isLit, i64D, c1, c2, c3, c4, c5, h0]
theorem iQOf_ok : callable Try.prog 15 = true := by kernel_rfl
end Go.Proofs.Ytledfadnhcdflaa.Ae

/-! spec: QOk, QAdd, QSub, QMul, QDiv, QCmp, QFloor, QOf. No condition. -/
namespace Go.Proofs.Ytledfadnhcdflaa.Ae
open Go Go.RowKit Go.Proofs.Ytledfadnhcdflaa.Dig

noncomputable def sokTb : List (FuncId × Ct) := [(88, .data absC), (87, .data gcdC)]
theorem sokTb_ok : TbOK NF Try.prog (tbl sokTb) := tbl_cons (c := .data absC) l1Abs_spec l1Abs_ok (tbl_cons (c := .data gcdC) l1Gcd_spec l1Gcd_ok tbl_nil)

@[simp] theorem sokTb1 : tbl sokTb 88 = some (.data absC) := rfl
@[simp] theorem sokTb2 : tbl sokTb 87 = some (.data gcdC) := rfl
theorem sQOk_spec : SpecD NF Try.prog 46 qokC := by
  refine rdD (mf := fun f => false) sokTb_ok (fn := Try.f46) (by kernel_rfl) rfl (by kernel_rfl) ?_
  rintro ⟨n, d⟩ ⟨hn, hd⟩
  have hn : I64 n := hn
  have hd : I64 d := hd
  refine ⟨of_decide_eq_true (by kernel_rfl), ?_⟩
  have c1 := absC_at n
  have c2 := gcdC_at n.natAbs d.natAbs
  unfold I64 at hd
  have h2 : n.natAbs < 18446744073709551616 := by unfold I64 at hn; omega
  have h3 : d.natAbs < 18446744073709551616 := by omega
  have e3 : Nat.gcd n.natAbs d.natAbs = Int.gcd n d := rfl
  simp only [hn, h2, h3, e3, and_self, u64D, i64D] at c1 c2
  simp only [qE, i64D, Try.f46, boolD]
  have hw : ¬ d < 1 → IntKind.u64.wrap d = (d.natAbs : Int) := fun h => by rw [wrap_u64]; omega
  have e : decide (qOk n d) = (!(decide (d < 1)) && (!(decide (1000000000000000000 < d)) && (!(decide (n < -1000000000000000000)) && (!(decide (1000000000000000000 < n)) && decide (Int.gcd n d = 1))))) := by
    rw [← decide_not, ← decide_not, ← decide_not, ← decide_not, ← Bool.decide_and, ← Bool.decide_and, ← Bool.decide_and, ← Bool.decide_and]
    congr 1
    apply propext
    unfold qOk
    constructor
    · rintro ⟨⟨a, b⟩, ⟨c, e⟩, f⟩; exact ⟨by omega, by omega, by omega, by omega, f⟩
    · rintro ⟨a, b, c, e, f⟩; exact ⟨⟨by omega, by omega⟩, ⟨by omega, by omega⟩, f⟩
  rw [e]
  clear e e3
  generalize Int.gcd n d = g at *
  by_cases h1 : d < 1
  · simp [h1]
  · have w1 := hw h1
    by_cases h4 : 1000000000000000000 < d <;> by_cases h5 : n < -1000000000000000000 <;> by_cases h6 : 1000000000000000000 < n <;> simp [h1, h4, h5, h6, w1, c1, c2]
    by_cases h7 : g = 1
    · subst h7; simp
    · have h7' : ¬ (g : Int) = 1 := by omega
      simp [h7, h7']
theorem sQOk_ok : callable Try.prog 46 = true := by kernel_rfl

noncomputable def sqTbl : List (FuncId × Ct) := [(46, .data qokC), (48, .data nqC), (47, .data nAddC), (52, .data nSubC), (54, .data nMulC), (56, .data nDivC), (58, .data nCmpC), (39, .data nQC), (60, .data nFloorC), (61, .data nWholeC), (41, .data zOfC), (40, .data nBigC)]
theorem sqTbl_ok : TbOK NF Try.prog (tbl sqTbl) := tbl_cons (c := .data qokC) sQOk_spec sQOk_ok (tbl_cons (c := .data nqC) nq_spec l1q_ok (tbl_cons (c := .data nAddC) nAdd_spec l1rAdd_ok (tbl_cons (c := .data nSubC) nSub_spec l1rSub_ok (tbl_cons (c := .data nMulC) nMul_spec l1rMul_ok (tbl_cons (c := .data nDivC) nDiv_spec l1rDiv_ok (tbl_cons (c := .data nCmpC) nCmp_spec l1rCmp_ok (tbl_cons (c := .data nQC) nQ_spec l1rQ_ok (tbl_cons (c := .data nFloorC) nFloor_spec l1rFloor_ok (tbl_cons (c := .data nWholeC) nWhole_spec l1rWhole_ok (tbl_cons (c := .data zOfC) l1ZOf_spec l1ZOf_ok (tbl_cons (c := .data nBigC) nBig_spec l1rBig_ok tbl_nil)))))))))))

@[simp] theorem sqTbl1 : tbl sqTbl 46 = some (.data qokC) := rfl
@[simp] theorem sqTbl2 : tbl sqTbl 48 = some (.data nqC) := rfl
@[simp] theorem sqTbl3 : tbl sqTbl 47 = some (.data nAddC) := rfl
@[simp] theorem sqTbl4 : tbl sqTbl 52 = some (.data nSubC) := rfl
@[simp] theorem sqTbl5 : tbl sqTbl 54 = some (.data nMulC) := rfl
@[simp] theorem sqTbl6 : tbl sqTbl 56 = some (.data nDivC) := rfl
@[simp] theorem sqTbl7 : tbl sqTbl 58 = some (.data nCmpC) := rfl
@[simp] theorem sqTbl8 : tbl sqTbl 39 = some (.data nQC) := rfl
@[simp] theorem sqTbl9 : tbl sqTbl 60 = some (.data nFloorC) := rfl
@[simp] theorem sqTbl10 : tbl sqTbl 61 = some (.data nWholeC) := rfl
@[simp] theorem sqTbl11 : tbl sqTbl 41 = some (.data zOfC) := rfl
@[simp] theorem sqTbl12 : tbl sqTbl 40 = some (.data nBigC) := rfl
theorem okC1 {a b c d : Int} (h : I4 ⟨a, b, c, d⟩) : (qokC [eQ a b] = (True, [.lit (.bool (decide (qOk a b)))])) ∧ qokC [eQ c d] = (True, [.lit (.bool (decide (qOk c d)))]) := by
  have c1 := qokC_at a b
  have c2 := qokC_at c d
  obtain ⟨⟨h1, h2⟩, h3, h4⟩ := h
  have h1 : I64 a := h1
  have h2 : I64 b := h2
  have h3 : I64 c := h3
  have h4 : I64 d := h4
  simp only [h1, h2, h3, h4, and_self, boolD] at c1 c2
  exact ⟨c1, c2⟩
theorem qOk_64 {n d : Int} (h : qOk n d) : I64 n ∧ I64 d ∧ 0 < d := by unfold qOk at h; unfold I64; omega

theorem sQAdd_spec : SpecD NF Try.prog 17 qaddC := by
  refine rdD (mf := fun f => false) sqTbl_ok (fn := Try.f17) (by kernel_rfl) rfl (by kernel_rfl) ?_
  rintro ⟨a, b, c, d⟩ hI
  obtain ⟨k1, k2⟩ := okC1 hI
  refine ⟨of_decide_eq_true (by kernel_rfl), ?_⟩
  simp only [q4E, Try.f17]
  by_cases h1 : qOk a b
  · by_cases h2 : qOk c d
    · simp only [h1, h2, decide_true] at k1 k2
      have q1 : QI a b := qOk_QI h1
      have q2 : QI c d := qOk_QI h2
      have c2 := nqC_at a b
      have c3 := nqC_at c d
      have z1 := QI_qsz q1
      have z2 := QI_qsz q2
      have hz : qsz (Rat.divInt a b) + qsz (Rat.divInt c d) < MX := by unfold MX; omega
      have c4 := nAddC_at (Rat.divInt a b) (Rat.divInt c d)
      have c5 := nQC_at (Rat.divInt a b + Rat.divInt c d)
      rw [opR_y (F := (· + ·)) ⟨h1, h2⟩]
      simp only [qOk_64 h1, qOk_64 h2, hz, and_self] at c2 c3 c4 c5
      generalize oq (Rat.divInt a b + Rat.divInt c d) = o at *
      simp only [d3, boolD] at c5 ⊢
      simp [-D.isLit, k1, k2, c2, c3, c4, c5]
    · rw [opR_n (F := (· + ·)) (fun h => h2 h.2)]
      simp only [h1, h2, decide_true, decide_false] at k1 k2
      simp only [d3_no, boolD]
      simp [-D.isLit, k1, k2, eQ00]
  · rw [opR_n (F := (· + ·)) (fun h => h1 h.1)]
    simp only [h1, decide_false] at k1
    simp only [d3_no, boolD]
    simp [-D.isLit, k1, eQ00]
theorem sQAdd_ok : callable Try.prog 17 = true := by kernel_rfl

theorem sQSub_spec : SpecD NF Try.prog 20 qsubC := by
  refine rdD (mf := fun f => false) sqTbl_ok (fn := Try.f20) (by kernel_rfl) rfl (by kernel_rfl) ?_
  rintro ⟨a, b, c, d⟩ hI
  obtain ⟨k1, k2⟩ := okC1 hI
  refine ⟨of_decide_eq_true (by kernel_rfl), ?_⟩
  simp only [q4E, Try.f20]
  by_cases h1 : qOk a b
  · by_cases h2 : qOk c d
    · simp only [h1, h2, decide_true] at k1 k2
      have q1 : QI a b := qOk_QI h1
      have q2 : QI c d := qOk_QI h2
      have c2 := nqC_at a b
      have c3 := nqC_at c d
      have z1 := QI_qsz q1
      have z2 := QI_qsz q2
      have hz : qsz (Rat.divInt a b) + qsz (Rat.divInt c d) < MX := by unfold MX; omega
      have c4 := nSubC_at (Rat.divInt a b) (Rat.divInt c d)
      have c5 := nQC_at (Rat.divInt a b - Rat.divInt c d)
      rw [opR_y (F := (· - ·)) ⟨h1, h2⟩]
      simp only [qOk_64 h1, qOk_64 h2, hz, and_self] at c2 c3 c4 c5
      generalize oq (Rat.divInt a b - Rat.divInt c d) = o at *
      simp only [d3, boolD] at c5 ⊢
      simp [-D.isLit, k1, k2, c2, c3, c4, c5]
    · rw [opR_n (F := (· - ·)) (fun h => h2 h.2)]
      simp only [h1, h2, decide_true, decide_false] at k1 k2
      simp only [d3_no, boolD]
      simp [-D.isLit, k1, k2, eQ00]
  · rw [opR_n (F := (· - ·)) (fun h => h1 h.1)]
    simp only [h1, decide_false] at k1
    simp only [d3_no, boolD]
    simp [-D.isLit, k1, eQ00]
theorem sQSub_ok : callable Try.prog 20 = true := by kernel_rfl

theorem sQMul_spec : SpecD NF Try.prog 22 qmulC := by
  refine rdD (mf := fun f => false) sqTbl_ok (fn := Try.f22) (by kernel_rfl) rfl (by kernel_rfl) ?_
  rintro ⟨a, b, c, d⟩ hI
  obtain ⟨k1, k2⟩ := okC1 hI
  refine ⟨of_decide_eq_true (by kernel_rfl), ?_⟩
  simp only [q4E, Try.f22]
  by_cases h1 : qOk a b
  · by_cases h2 : qOk c d
    · simp only [h1, h2, decide_true] at k1 k2
      have q1 : QI a b := qOk_QI h1
      have q2 : QI c d := qOk_QI h2
      have c2 := nqC_at a b
      have c3 := nqC_at c d
      have z1 := QI_qsz q1
      have z2 := QI_qsz q2
      have hz : qsz (Rat.divInt a b) + qsz (Rat.divInt c d) < MX := by unfold MX; omega
      have c4 := nMulC_at (Rat.divInt a b) (Rat.divInt c d)
      have c5 := nQC_at (Rat.divInt a b * Rat.divInt c d)
      rw [opR_y (F := (· * ·)) ⟨h1, h2⟩]
      simp only [qOk_64 h1, qOk_64 h2, hz, and_self] at c2 c3 c4 c5
      generalize oq (Rat.divInt a b * Rat.divInt c d) = o at *
      simp only [d3, boolD] at c5 ⊢
      simp [-D.isLit, k1, k2, c2, c3, c4, c5]
    · rw [opR_n (F := (· * ·)) (fun h => h2 h.2)]
      simp only [h1, h2, decide_true, decide_false] at k1 k2
      simp only [d3_no, boolD]
      simp [-D.isLit, k1, k2, eQ00]
  · rw [opR_n (F := (· * ·)) (fun h => h1 h.1)]
    simp only [h1, decide_false] at k1
    simp only [d3_no, boolD]
    simp [-D.isLit, k1, eQ00]
theorem sQMul_ok : callable Try.prog 22 = true := by kernel_rfl

theorem sQDiv_spec : SpecD NF Try.prog 24 qdivC := by
  refine rdD (mf := fun f => false) sqTbl_ok (fn := Try.f24) (by kernel_rfl) rfl (by kernel_rfl) ?_
  rintro ⟨a, b, c, d⟩ hI
  obtain ⟨k1, k2⟩ := okC1 hI
  refine ⟨of_decide_eq_true (by kernel_rfl), ?_⟩
  simp only [q4E, Try.f24]
  by_cases h1 : qOk a b
  · by_cases h2 : qOk c d
    · simp only [h1, h2, decide_true] at k1 k2
      have q1 : QI a b := qOk_QI h1
      have q2 : QI c d := qOk_QI h2
      have c2 := nqC_at a b
      have c3 := nqC_at c d
      have z1 := QI_qsz q1
      have z2 := QI_qsz q2
      have hz : qsz (Rat.divInt a b) + qsz (Rat.divInt c d) < MX := by unfold MX; omega
      by_cases h0 : c = 0
      · rw [opR_n (F := (· / ·)) (fun h' => h'.2 h0)]
        simp only [d3_no, boolD]
        simp [-D.isLit, h0] at k2
        simp [-D.isLit, k1, k2, h0, eQ00]
      · have c4 := nDivC_at (Rat.divInt a b) (Rat.divInt c d)
        have c5 := nQC_at (Rat.divInt a b / Rat.divInt c d)
        have hne := QI_ne q2 h0
        rw [opR_y (F := (· / ·)) ⟨⟨h1, h2⟩, h0⟩]
        simp only [qOk_64 h1, qOk_64 h2, hz, hne, ne_eq, not_false_eq_true, and_self] at c2 c3 c4 c5
        generalize oq (Rat.divInt a b / Rat.divInt c d) = o at *
        simp only [d3, boolD] at c5 ⊢
        simp [-D.isLit, k1, k2, c2, c3, c4, c5, h0]
    · rw [opR_n (F := (· / ·)) (fun h => h2 h.1.2)]
      simp only [h1, h2, decide_true, decide_false] at k1 k2
      simp only [d3_no, boolD]
      simp [-D.isLit, k1, k2, eQ00]
  · rw [opR_n (F := (· / ·)) (fun h => h1 h.1.1)]
    simp only [h1, decide_false] at k1
    simp only [d3_no, boolD]
    simp [-D.isLit, k1, eQ00]
theorem sQDiv_ok : callable Try.prog 24 = true := by kernel_rfl

theorem sQCmp_spec : SpecD NF Try.prog 26 qcmpC := by
  refine rdD (mf := fun f => false) sqTbl_ok (fn := Try.f26) (by kernel_rfl) rfl (by kernel_rfl) ?_
  rintro ⟨a, b, c, d⟩ hI
  obtain ⟨k1, k2⟩ := okC1 hI
  refine ⟨of_decide_eq_true (by kernel_rfl), ?_⟩
  simp only [q4E, Try.f26]
  by_cases h1 : qOk a b
  · by_cases h2 : qOk c d
    · simp only [h1, h2, decide_true] at k1 k2
      have q1 : QI a b := qOk_QI h1
      have q2 : QI c d := qOk_QI h2
      have c2 := nqC_at a b
      have c3 := nqC_at c d
      have z1 := QI_qsz q1
      have z2 := QI_qsz q2
      have hz : qsz (Rat.divInt a b) + qsz (Rat.divInt c d) < MX := by unfold MX; omega
      have c4 := nCmpC_at (Rat.divInt a b) (Rat.divInt c d)
      have hok : ok2 ⟨a, b, c, d⟩ := ⟨h1, h2⟩
      simp only [qOk_64 h1, qOk_64 h2, hz, and_self, i64D] at c2 c3 c4
      simp only [hok, if_true, i64D]
      generalize qcmp (Rat.divInt a b) (Rat.divInt c d) = r at *
      simp [-D.isLit, k1, k2, c2, c3, c4]
    · have hok : ¬ ok2 ⟨a, b, c, d⟩ := fun h => h2 h.2
      simp only [h1, h2, decide_true, decide_false] at k1 k2
      simp only [hok, if_false, i64D]
      simp [-D.isLit, k1, k2]
  · have hok : ¬ ok2 ⟨a, b, c, d⟩ := fun h => h1 h.1
    simp only [h1, decide_false] at k1
    simp only [hok, if_false, i64D]
    simp [-D.isLit, k1]
theorem sQCmp_ok : callable Try.prog 26 = true := by kernel_rfl

theorem sQFloor_spec : SpecD NF Try.prog 28 qflrC := by
  refine rdD (mf := fun f => false) sqTbl_ok (fn := Try.f28) (by kernel_rfl) rfl (by kernel_rfl) ?_
  rintro ⟨a, b, c, d⟩ hI
  obtain ⟨k1, k2⟩ := okC1 hI
  refine ⟨of_decide_eq_true (by kernel_rfl), ?_⟩
  simp only [q4E, Try.f28]
  by_cases h1 : qOk a b
  · by_cases h2 : qOk c d
    · simp only [h1, h2, decide_true] at k1 k2
      have q1 : QI a b := qOk_QI h1
      have q2 : QI c d := qOk_QI h2
      have c2 := nqC_at a b
      have c3 := nqC_at c d
      have z1 := QI_qsz q1
      have z2 := QI_qsz q2
      have hz : qsz (Rat.divInt a b) + qsz (Rat.divInt c d) < MX := by unfold MX; omega
      by_cases h0 : c < 1
      · rw [opR_n (F := flr) (fun h' => by have h'' : 0 < c := h'.2; omega)]
        simp only [d3_no, boolD]
        simp [-D.isLit, k1, k2, h0, eQ00]
      · have h3 : 0 < c := by omega
        have hne := QI_ne q2 (by omega)
        have c4 := nDivC_at (Rat.divInt a b) (Rat.divInt c d)
        have c5 := nFloorC_at (Rat.divInt a b / Rat.divInt c d)
        have c6 := nWholeC_at (Rat.divInt a b / Rat.divInt c d).floor
        have c7 := nMulC_at ((Rat.divInt a b / Rat.divInt c d).floor : Rat) (Rat.divInt c d)
        have c8 := nQC_at (flr (Rat.divInt a b) (Rat.divInt c d))
        have z3 := qsz_div (a := Rat.divInt a b) hne
        have z4 := qsz_floor (Rat.divInt a b / Rat.divInt c d)
        have z5 := ln_floor (Rat.divInt a b / Rat.divInt c d)
        have z7 : SZ (Rat.divInt a b / Rat.divInt c d).floor := by rw [SZ_ln]; unfold MX at *; omega
        have z8 : qsz ((Rat.divInt a b / Rat.divInt c d).floor : Rat) + qsz (Rat.divInt c d) < MX := by unfold MX at *; omega
        rw [opR_y (F := flr) ⟨⟨h1, h2⟩, h3⟩]
        simp only [qOk_64 h1, qOk_64 h2, hz, hne, z7, z8, ne_eq, not_false_eq_true, and_self] at c2 c3 c4 c5 c6 c7 c8
        have e : flr (Rat.divInt a b) (Rat.divInt c d) = ((Rat.divInt a b / Rat.divInt c d).floor : Rat) * Rat.divInt c d := rfl
        rw [← e] at c7
        generalize flr (Rat.divInt a b) (Rat.divInt c d) = fl at *
        generalize (Rat.divInt a b / Rat.divInt c d).floor = fz at *
        generalize oq fl = o at *
        simp only [d3, boolD] at c8 ⊢
        simp [-D.isLit, k1, k2, c2, c3, c4, c5, c6, c7, c8, h0]
    · rw [opR_n (F := flr) (fun h => h2 h.1.2)]
      simp only [h1, h2, decide_true, decide_false] at k1 k2
      simp only [d3_no, boolD]
      simp [-D.isLit, k1, k2, eQ00]
  · rw [opR_n (F := flr) (fun h => h1 h.1.1)]
    simp only [h1, decide_false] at k1
    simp only [d3_no, boolD]
    simp [-D.isLit, k1, eQ00]
theorem sQFloor_ok : callable Try.prog 28 = true := by kernel_rfl

theorem sQOf_spec : SpecD NF Try.prog 14 qofC := by
  refine rdD (mf := fun f => false) sqTbl_ok (fn := Try.f14) (by kernel_rfl) rfl (by kernel_rfl) ?_
  rintro ⟨a, b⟩ ⟨ha, hb⟩
  have ha : I64 a := ha
  have hb : I64 b := hb
  refine ⟨of_decide_eq_true (by kernel_rfl), ?_⟩
  simp only [iiE, Try.f14]
  by_cases h0 : b = 0
  · rw [if_pos h0]
    subst h0
    simp only [d3_no, boolD]
    simp [-D.isLit, i64D, eQ00]
  · rw [if_neg h0]
    have c1 := zOfC_at a
    have c2 := zOfC_at b
    have c3 := nBigC_at a b
    have c5 := nQC_at (Rat.divInt a b)
    simp only [ha, hb, SZ_I64 ha, SZ_I64 hb, h0, i64D, ne_eq, not_false_eq_true, and_self] at c1 c2 c3 c5
    generalize oq (Rat.divInt a b) = o at *
    simp only [d3, boolD] at c5 ⊢
    simp [-D.isLit, i64D, c1, c2, c3, c5, h0]
theorem sQOf_ok : callable Try.prog 14 = true := by kernel_rfl
end Go.Proofs.Ytledfadnhcdflaa.Ae

/-! The laws on fractions: each law's function returns true. No condition. -/
namespace Go.Proofs.Ytledfadnhcdflaa.Ae
open Go Go.RowKit Go.Proofs.Ytledfadnhcdflaa.Dig

/-- A law's call, out of its contract. -/
theorem law_calls {f : FuncId} {g : List D → Prop × List D} (h : SpecD NF Try.prog f g) {ds : List D} (hp : (g ds).1) (hr : (g ds).2 = [boolD true]) {vs : List Value} {w : World} (hrep : RepVs NF (fun _ => False) w ds vs) :
    Calls Try.prog f vs.toArray w fun e w' => e = .returned (.bool true) ∧ Below w.heap.size w w' := by
  refine (h ds hp (fun _ => False) w vs (fun k hk => hk.elim) hrep).mono fun e w' ⟨v, he, hv, hfr⟩ => ?_
  rw [hr] at hv
  have hv : RepV NF _ w' (.lit (.bool true)) v := hv
  obtain ⟨rfl, _⟩ := RepV.lit hv
  exact ⟨he, ⟨hfr.os, hfr.tape, hfr.output, hfr.size, fun k hk => hfr.block k hk (fun h => h)⟩⟩
theorem repV_flat {N : NR} {F : Nat → Prop} {w : World} {d : D} {cs : List Value} (h : flatD d = some cs) (h1 : ∀ v ∈ cs, v.oneCell' = true) (ha : d.isAgg = true) : RepV N F w d (.agg cs.toArray) :=
  ⟨cs, flatD_rep d cs h h1, by unfold mkV; rw [ha]; rfl⟩
theorem repVs_nil {N : NR} {F : Nat → Prop} {w : World} : RepVs N F w [] [] := ⟨rfl, fun i d v h => by simp at h⟩
theorem repVs_cons {N : NR} {F : Nat → Prop} {w : World} {d : D} {v : Value} {ds : List D} {vs : List Value} (h : RepV N F w d v) (hs : RepVs N F w ds vs) : RepVs N F w (d :: ds) (v :: vs) :=
  ⟨by simp only [List.length_cons]; rw [hs.1], fun i e u h1 h2 => by
    cases i with
    | zero =>
      simp only [List.getElem?_cons_zero, Option.some.injEq] at h1 h2
      subst h1 h2
      exact h
    | succ i => exact hs.2 i e u (by simpa using h1) (by simpa using h2)⟩
theorem rep_q {N : NR} {F : Nat → Prop} {w : World} (a b : Int) : RepV N F w (eQ a b) (.agg #[.int .i64 a, .int .i64 b]) := repV_flat (cs := [.int .i64 a, .int .i64 b]) rfl (fun v hv => by simp at hv; rcases hv with rfl | rfl <;> rfl) rfl
theorem rep_i {N : NR} {F : Nat → Prop} {w : World} (a : Int) : RepV N F w (i64D a) (.int .i64 a) := RepV.of_lit rfl
theorem wf64 {a : Int} (h : (Lit.int .i64 a).wf = true) : I64 a := bounds_i64 h

noncomputable def toQC := ctD qE (fun _ => True) (fun p => [eQ p.a p.b])
theorem toQC_at (a b : Int) : toQC [eQ a b] = (True, [eQ a b]) := ctD_at qE_inj ⟨a, b⟩
theorem toQ_spec {N : NR} : SpecD N Try.prog 18 toQC := by
  refine rdD (mf := fun f => false) tbl_nil (fn := Try.f18) (by kernel_rfl) rfl (by kernel_rfl) ?_
  rintro ⟨a, b⟩ _
  refine ⟨of_decide_eq_true (by kernel_rfl), ?_⟩
  simp only [qE, Try.f18]
  simp [eQ, i64D]
theorem toQ_ok : callable Try.prog 18 = true := by kernel_rfl
noncomputable def eqQC := ctD q4E (fun _ => True) (fun p => [boolD (decide (p.a = p.c) && decide (p.b = p.d))])
theorem eqQC_at (a b c d : Int) : eqQC [eQ a b, eQ c d] = (True, [boolD (decide (a = c) && decide (b = d))]) := ctD_at q4E_inj ⟨a, b, c, d⟩
theorem eqQ_spec {N : NR} : SpecD N Try.prog 16 eqQC := by
  refine rdD (mf := fun f => false) tbl_nil (fn := Try.f16) (by kernel_rfl) rfl (by kernel_rfl) ?_
  rintro ⟨a, b, c, d⟩ _
  refine ⟨of_decide_eq_true (by kernel_rfl), ?_⟩
  simp only [q4E, Try.f16, boolD]
  by_cases h1 : a = c <;> by_cases h2 : b = d <;> simp [h1, h2]
theorem eqQ_ok : callable Try.prog 16 = true := by kernel_rfl
theorem eqQ_self (r : Int × Int × Bool) : eqQC [eQ r.1 r.2.1, eQ r.1 r.2.1] = (True, [.lit (.bool true)]) := by
  rw [eqQC_at]; simp [boolD]

noncomputable def lwQAddTb : List (FuncId × Ct) := [(18, .data toQC), (16, .data eqQC), (19, .data qaddC), (17, .data qaddC)]
theorem lwQAddTb_ok : TbOK NF Try.prog (tbl lwQAddTb) := tbl_cons (c := .data toQC) toQ_spec toQ_ok (tbl_cons (c := .data eqQC) eqQ_spec eqQ_ok (tbl_cons (c := .data qaddC) iQAdd_spec iQAdd_ok (tbl_cons (c := .data qaddC) sQAdd_spec sQAdd_ok tbl_nil)))

@[simp] theorem lwQAddTb1 : tbl lwQAddTb 18 = some (.data toQC) := rfl
@[simp] theorem lwQAddTb2 : tbl lwQAddTb 16 = some (.data eqQC) := rfl
@[simp] theorem lwQAddTb3 : tbl lwQAddTb 19 = some (.data qaddC) := rfl
@[simp] theorem lwQAddTb4 : tbl lwQAddTb 17 = some (.data qaddC) := rfl
noncomputable def lwQAddC := ctD q4E I4 (fun _ => [boolD true])
theorem lwQAdd_spec : SpecD NF Try.prog 4 lwQAddC := by
  refine rdD (mf := fun f => false) lwQAddTb_ok (fn := Try.f4) (by kernel_rfl) rfl (by kernel_rfl) ?_
  rintro ⟨a, b, c, d⟩ hI
  have hI : I4 ⟨a, b, c, d⟩ := hI
  refine ⟨of_decide_eq_true (by kernel_rfl), ?_⟩
  simp only [q4E, Try.f4, boolD]
  have c1 := toQC_at a b
  have c2 := toQC_at c d
  have c3 := qaddC_at a b c d
  simp only [hI] at c3
  generalize opR (ok2 ⟨a, b, c, d⟩) (· + ·) ⟨a, b, c, d⟩ = r at *
  have c4 := eqQ_self r
  simp only [d3, boolD] at c3
  simp [-D.isLit, c1, c2, c3, c4]
theorem lwQAdd_calls (a b c d : Int) (ha : (Lit.int .i64 a).wf = true) (hb : (Lit.int .i64 b).wf = true) (hc : (Lit.int .i64 c).wf = true) (hd : (Lit.int .i64 d).wf = true) (w : World) :
    Calls Try.prog 4 #[.agg #[.int .i64 a, .int .i64 b], .agg #[.int .i64 c, .int .i64 d]] w fun e w' => e = .returned (.bool true) ∧ Below w.heap.size w w' := by
  have e : lwQAddC [eQ a b, eQ c d] = (I4 ⟨a, b, c, d⟩, [boolD true]) := ctD_at q4E_inj ⟨a, b, c, d⟩
  exact law_calls lwQAdd_spec (ds := [eQ a b, eQ c d]) (by rw [e]; exact ⟨⟨wf64 ha, wf64 hb⟩, wf64 hc, wf64 hd⟩) (by rw [e]) (vs := [.agg #[.int .i64 a, .int .i64 b], .agg #[.int .i64 c, .int .i64 d]]) (repVs_cons (rep_q a b) (repVs_cons (rep_q c d) repVs_nil))

noncomputable def lwQSubTb : List (FuncId × Ct) := [(18, .data toQC), (16, .data eqQC), (21, .data qsubC), (20, .data qsubC)]
theorem lwQSubTb_ok : TbOK NF Try.prog (tbl lwQSubTb) := tbl_cons (c := .data toQC) toQ_spec toQ_ok (tbl_cons (c := .data eqQC) eqQ_spec eqQ_ok (tbl_cons (c := .data qsubC) iQSub_spec iQSub_ok (tbl_cons (c := .data qsubC) sQSub_spec sQSub_ok tbl_nil)))

@[simp] theorem lwQSubTb1 : tbl lwQSubTb 18 = some (.data toQC) := rfl
@[simp] theorem lwQSubTb2 : tbl lwQSubTb 16 = some (.data eqQC) := rfl
@[simp] theorem lwQSubTb3 : tbl lwQSubTb 21 = some (.data qsubC) := rfl
@[simp] theorem lwQSubTb4 : tbl lwQSubTb 20 = some (.data qsubC) := rfl
noncomputable def lwQSubC := ctD q4E I4 (fun _ => [boolD true])
theorem lwQSub_spec : SpecD NF Try.prog 5 lwQSubC := by
  refine rdD (mf := fun f => false) lwQSubTb_ok (fn := Try.f5) (by kernel_rfl) rfl (by kernel_rfl) ?_
  rintro ⟨a, b, c, d⟩ hI
  have hI : I4 ⟨a, b, c, d⟩ := hI
  refine ⟨of_decide_eq_true (by kernel_rfl), ?_⟩
  simp only [q4E, Try.f5, boolD]
  have c1 := toQC_at a b
  have c2 := toQC_at c d
  have c3 := qsubC_at a b c d
  simp only [hI] at c3
  generalize opR (ok2 ⟨a, b, c, d⟩) (· - ·) ⟨a, b, c, d⟩ = r at *
  have c4 := eqQ_self r
  simp only [d3, boolD] at c3
  simp [-D.isLit, c1, c2, c3, c4]
theorem lwQSub_calls (a b c d : Int) (ha : (Lit.int .i64 a).wf = true) (hb : (Lit.int .i64 b).wf = true) (hc : (Lit.int .i64 c).wf = true) (hd : (Lit.int .i64 d).wf = true) (w : World) :
    Calls Try.prog 5 #[.agg #[.int .i64 a, .int .i64 b], .agg #[.int .i64 c, .int .i64 d]] w fun e w' => e = .returned (.bool true) ∧ Below w.heap.size w w' := by
  have e : lwQSubC [eQ a b, eQ c d] = (I4 ⟨a, b, c, d⟩, [boolD true]) := ctD_at q4E_inj ⟨a, b, c, d⟩
  exact law_calls lwQSub_spec (ds := [eQ a b, eQ c d]) (by rw [e]; exact ⟨⟨wf64 ha, wf64 hb⟩, wf64 hc, wf64 hd⟩) (by rw [e]) (vs := [.agg #[.int .i64 a, .int .i64 b], .agg #[.int .i64 c, .int .i64 d]]) (repVs_cons (rep_q a b) (repVs_cons (rep_q c d) repVs_nil))

noncomputable def lwQMulTb : List (FuncId × Ct) := [(18, .data toQC), (16, .data eqQC), (23, .data qmulC), (22, .data qmulC)]
theorem lwQMulTb_ok : TbOK NF Try.prog (tbl lwQMulTb) := tbl_cons (c := .data toQC) toQ_spec toQ_ok (tbl_cons (c := .data eqQC) eqQ_spec eqQ_ok (tbl_cons (c := .data qmulC) iQMul_spec iQMul_ok (tbl_cons (c := .data qmulC) sQMul_spec sQMul_ok tbl_nil)))

@[simp] theorem lwQMulTb1 : tbl lwQMulTb 18 = some (.data toQC) := rfl
@[simp] theorem lwQMulTb2 : tbl lwQMulTb 16 = some (.data eqQC) := rfl
@[simp] theorem lwQMulTb3 : tbl lwQMulTb 23 = some (.data qmulC) := rfl
@[simp] theorem lwQMulTb4 : tbl lwQMulTb 22 = some (.data qmulC) := rfl
noncomputable def lwQMulC := ctD q4E I4 (fun _ => [boolD true])
theorem lwQMul_spec : SpecD NF Try.prog 6 lwQMulC := by
  refine rdD (mf := fun f => false) lwQMulTb_ok (fn := Try.f6) (by kernel_rfl) rfl (by kernel_rfl) ?_
  rintro ⟨a, b, c, d⟩ hI
  have hI : I4 ⟨a, b, c, d⟩ := hI
  refine ⟨of_decide_eq_true (by kernel_rfl), ?_⟩
  simp only [q4E, Try.f6, boolD]
  have c1 := toQC_at a b
  have c2 := toQC_at c d
  have c3 := qmulC_at a b c d
  simp only [hI] at c3
  generalize opR (ok2 ⟨a, b, c, d⟩) (· * ·) ⟨a, b, c, d⟩ = r at *
  have c4 := eqQ_self r
  simp only [d3, boolD] at c3
  simp [-D.isLit, c1, c2, c3, c4]
theorem lwQMul_calls (a b c d : Int) (ha : (Lit.int .i64 a).wf = true) (hb : (Lit.int .i64 b).wf = true) (hc : (Lit.int .i64 c).wf = true) (hd : (Lit.int .i64 d).wf = true) (w : World) :
    Calls Try.prog 6 #[.agg #[.int .i64 a, .int .i64 b], .agg #[.int .i64 c, .int .i64 d]] w fun e w' => e = .returned (.bool true) ∧ Below w.heap.size w w' := by
  have e : lwQMulC [eQ a b, eQ c d] = (I4 ⟨a, b, c, d⟩, [boolD true]) := ctD_at q4E_inj ⟨a, b, c, d⟩
  exact law_calls lwQMul_spec (ds := [eQ a b, eQ c d]) (by rw [e]; exact ⟨⟨wf64 ha, wf64 hb⟩, wf64 hc, wf64 hd⟩) (by rw [e]) (vs := [.agg #[.int .i64 a, .int .i64 b], .agg #[.int .i64 c, .int .i64 d]]) (repVs_cons (rep_q a b) (repVs_cons (rep_q c d) repVs_nil))

noncomputable def lwQDivTb : List (FuncId × Ct) := [(18, .data toQC), (16, .data eqQC), (25, .data qdivC), (24, .data qdivC)]
theorem lwQDivTb_ok : TbOK NF Try.prog (tbl lwQDivTb) := tbl_cons (c := .data toQC) toQ_spec toQ_ok (tbl_cons (c := .data eqQC) eqQ_spec eqQ_ok (tbl_cons (c := .data qdivC) iQDiv_spec iQDiv_ok (tbl_cons (c := .data qdivC) sQDiv_spec sQDiv_ok tbl_nil)))

@[simp] theorem lwQDivTb1 : tbl lwQDivTb 18 = some (.data toQC) := rfl
@[simp] theorem lwQDivTb2 : tbl lwQDivTb 16 = some (.data eqQC) := rfl
@[simp] theorem lwQDivTb3 : tbl lwQDivTb 25 = some (.data qdivC) := rfl
@[simp] theorem lwQDivTb4 : tbl lwQDivTb 24 = some (.data qdivC) := rfl
noncomputable def lwQDivC := ctD q4E I4 (fun _ => [boolD true])
theorem lwQDiv_spec : SpecD NF Try.prog 7 lwQDivC := by
  refine rdD (mf := fun f => false) lwQDivTb_ok (fn := Try.f7) (by kernel_rfl) rfl (by kernel_rfl) ?_
  rintro ⟨a, b, c, d⟩ hI
  have hI : I4 ⟨a, b, c, d⟩ := hI
  refine ⟨of_decide_eq_true (by kernel_rfl), ?_⟩
  simp only [q4E, Try.f7, boolD]
  have c1 := toQC_at a b
  have c2 := toQC_at c d
  have c3 := qdivC_at a b c d
  simp only [hI] at c3
  generalize opR (okD ⟨a, b, c, d⟩) (· / ·) ⟨a, b, c, d⟩ = r at *
  have c4 := eqQ_self r
  simp only [d3, boolD] at c3
  simp [-D.isLit, c1, c2, c3, c4]
theorem lwQDiv_calls (a b c d : Int) (ha : (Lit.int .i64 a).wf = true) (hb : (Lit.int .i64 b).wf = true) (hc : (Lit.int .i64 c).wf = true) (hd : (Lit.int .i64 d).wf = true) (w : World) :
    Calls Try.prog 7 #[.agg #[.int .i64 a, .int .i64 b], .agg #[.int .i64 c, .int .i64 d]] w fun e w' => e = .returned (.bool true) ∧ Below w.heap.size w w' := by
  have e : lwQDivC [eQ a b, eQ c d] = (I4 ⟨a, b, c, d⟩, [boolD true]) := ctD_at q4E_inj ⟨a, b, c, d⟩
  exact law_calls lwQDiv_spec (ds := [eQ a b, eQ c d]) (by rw [e]; exact ⟨⟨wf64 ha, wf64 hb⟩, wf64 hc, wf64 hd⟩) (by rw [e]) (vs := [.agg #[.int .i64 a, .int .i64 b], .agg #[.int .i64 c, .int .i64 d]]) (repVs_cons (rep_q a b) (repVs_cons (rep_q c d) repVs_nil))

noncomputable def lwQFloorTb : List (FuncId × Ct) := [(18, .data toQC), (16, .data eqQC), (29, .data qflrC), (28, .data qflrC)]
theorem lwQFloorTb_ok : TbOK NF Try.prog (tbl lwQFloorTb) := tbl_cons (c := .data toQC) toQ_spec toQ_ok (tbl_cons (c := .data eqQC) eqQ_spec eqQ_ok (tbl_cons (c := .data qflrC) iQFloor_spec iQFloor_ok (tbl_cons (c := .data qflrC) sQFloor_spec sQFloor_ok tbl_nil)))

@[simp] theorem lwQFloorTb1 : tbl lwQFloorTb 18 = some (.data toQC) := rfl
@[simp] theorem lwQFloorTb2 : tbl lwQFloorTb 16 = some (.data eqQC) := rfl
@[simp] theorem lwQFloorTb3 : tbl lwQFloorTb 29 = some (.data qflrC) := rfl
@[simp] theorem lwQFloorTb4 : tbl lwQFloorTb 28 = some (.data qflrC) := rfl
noncomputable def lwQFloorC := ctD q4E I4 (fun _ => [boolD true])
theorem lwQFloor_spec : SpecD NF Try.prog 9 lwQFloorC := by
  refine rdD (mf := fun f => false) lwQFloorTb_ok (fn := Try.f9) (by kernel_rfl) rfl (by kernel_rfl) ?_
  rintro ⟨a, b, c, d⟩ hI
  have hI : I4 ⟨a, b, c, d⟩ := hI
  refine ⟨of_decide_eq_true (by kernel_rfl), ?_⟩
  simp only [q4E, Try.f9, boolD]
  have c1 := toQC_at a b
  have c2 := toQC_at c d
  have c3 := qflrC_at a b c d
  simp only [hI] at c3
  generalize opR (okF ⟨a, b, c, d⟩) flr ⟨a, b, c, d⟩ = r at *
  have c4 := eqQ_self r
  simp only [d3, boolD] at c3
  simp [-D.isLit, c1, c2, c3, c4]
theorem lwQFloor_calls (a b c d : Int) (ha : (Lit.int .i64 a).wf = true) (hb : (Lit.int .i64 b).wf = true) (hc : (Lit.int .i64 c).wf = true) (hd : (Lit.int .i64 d).wf = true) (w : World) :
    Calls Try.prog 9 #[.agg #[.int .i64 a, .int .i64 b], .agg #[.int .i64 c, .int .i64 d]] w fun e w' => e = .returned (.bool true) ∧ Below w.heap.size w w' := by
  have e : lwQFloorC [eQ a b, eQ c d] = (I4 ⟨a, b, c, d⟩, [boolD true]) := ctD_at q4E_inj ⟨a, b, c, d⟩
  exact law_calls lwQFloor_spec (ds := [eQ a b, eQ c d]) (by rw [e]; exact ⟨⟨wf64 ha, wf64 hb⟩, wf64 hc, wf64 hd⟩) (by rw [e]) (vs := [.agg #[.int .i64 a, .int .i64 b], .agg #[.int .i64 c, .int .i64 d]]) (repVs_cons (rep_q a b) (repVs_cons (rep_q c d) repVs_nil))

noncomputable def lwQCmpTb : List (FuncId × Ct) := [(18, .data toQC), (16, .data eqQC), (27, .data qcmpC), (26, .data qcmpC)]
theorem lwQCmpTb_ok : TbOK NF Try.prog (tbl lwQCmpTb) := tbl_cons (c := .data toQC) toQ_spec toQ_ok (tbl_cons (c := .data eqQC) eqQ_spec eqQ_ok (tbl_cons (c := .data qcmpC) iQCmp_spec iQCmp_ok (tbl_cons (c := .data qcmpC) sQCmp_spec sQCmp_ok tbl_nil)))

@[simp] theorem lwQCmpTb1 : tbl lwQCmpTb 18 = some (.data toQC) := rfl
@[simp] theorem lwQCmpTb2 : tbl lwQCmpTb 16 = some (.data eqQC) := rfl
@[simp] theorem lwQCmpTb3 : tbl lwQCmpTb 27 = some (.data qcmpC) := rfl
@[simp] theorem lwQCmpTb4 : tbl lwQCmpTb 26 = some (.data qcmpC) := rfl
noncomputable def lwQCmpC := ctD q4E I4 (fun _ => [boolD true])
theorem lwQCmp_spec : SpecD NF Try.prog 8 lwQCmpC := by
  refine rdD (mf := fun f => false) lwQCmpTb_ok (fn := Try.f8) (by kernel_rfl) rfl (by kernel_rfl) ?_
  rintro ⟨a, b, c, d⟩ hI
  have hI : I4 ⟨a, b, c, d⟩ := hI
  refine ⟨of_decide_eq_true (by kernel_rfl), ?_⟩
  simp only [q4E, Try.f8, boolD]
  have c1 := toQC_at a b
  have c2 := toQC_at c d
  have c3 := qcmpC_at a b c d
  simp only [hI, i64D] at c3
  generalize (if ok2 ⟨a, b, c, d⟩ then qcmp (Rat.divInt a b) (Rat.divInt c d) else 2) = r at *
  simp [-D.isLit, c1, c2, c3]
theorem lwQCmp_calls (a b c d : Int) (ha : (Lit.int .i64 a).wf = true) (hb : (Lit.int .i64 b).wf = true) (hc : (Lit.int .i64 c).wf = true) (hd : (Lit.int .i64 d).wf = true) (w : World) :
    Calls Try.prog 8 #[.agg #[.int .i64 a, .int .i64 b], .agg #[.int .i64 c, .int .i64 d]] w fun e w' => e = .returned (.bool true) ∧ Below w.heap.size w w' := by
  have e : lwQCmpC [eQ a b, eQ c d] = (I4 ⟨a, b, c, d⟩, [boolD true]) := ctD_at q4E_inj ⟨a, b, c, d⟩
  exact law_calls lwQCmp_spec (ds := [eQ a b, eQ c d]) (by rw [e]; exact ⟨⟨wf64 ha, wf64 hb⟩, wf64 hc, wf64 hd⟩) (by rw [e]) (vs := [.agg #[.int .i64 a, .int .i64 b], .agg #[.int .i64 c, .int .i64 d]]) (repVs_cons (rep_q a b) (repVs_cons (rep_q c d) repVs_nil))

noncomputable def lwQOfTb : List (FuncId × Ct) := [(18, .data toQC), (16, .data eqQC), (15, .data qofC), (14, .data qofC)]
theorem lwQOfTb_ok : TbOK NF Try.prog (tbl lwQOfTb) := tbl_cons (c := .data toQC) toQ_spec toQ_ok (tbl_cons (c := .data eqQC) eqQ_spec eqQ_ok (tbl_cons (c := .data qofC) iQOf_spec iQOf_ok (tbl_cons (c := .data qofC) sQOf_spec sQOf_ok tbl_nil)))

@[simp] theorem lwQOfTb1 : tbl lwQOfTb 18 = some (.data toQC) := rfl
@[simp] theorem lwQOfTb2 : tbl lwQOfTb 16 = some (.data eqQC) := rfl
@[simp] theorem lwQOfTb3 : tbl lwQOfTb 15 = some (.data qofC) := rfl
@[simp] theorem lwQOfTb4 : tbl lwQOfTb 14 = some (.data qofC) := rfl
noncomputable def lwQOfC := ctD iiE (fun p => I64 p.a ∧ I64 p.b) (fun _ => [boolD true])
theorem lwQOf_spec : SpecD NF Try.prog 3 lwQOfC := by
  refine rdD (mf := fun f => false) lwQOfTb_ok (fn := Try.f3) (by kernel_rfl) rfl (by kernel_rfl) ?_
  rintro ⟨a, b⟩ ⟨ha, hb⟩
  have ha : I64 a := ha
  have hb : I64 b := hb
  refine ⟨of_decide_eq_true (by kernel_rfl), ?_⟩
  simp only [iiE, Try.f3, boolD]
  have c3 := qofC_at a b
  simp only [ha, hb, and_self] at c3
  generalize (if b = 0 then no3 else oq (Rat.divInt a b)) = r at *
  have c4 := eqQ_self r
  simp only [d3, boolD] at c3
  simp [-D.isLit, c3, c4]
theorem lwQOf_calls (a b : Int) (ha : (Lit.int .i64 a).wf = true) (hb : (Lit.int .i64 b).wf = true) (w : World) :
    Calls Try.prog 3 #[.int .i64 a, .int .i64 b] w fun e w' => e = .returned (.bool true) ∧ Below w.heap.size w w' := by
  have e : lwQOfC [i64D a, i64D b] = ((I64 a ∧ I64 b), [boolD true]) := ctD_at iiE_inj ⟨a, b⟩
  exact law_calls lwQOf_spec (ds := [i64D a, i64D b]) (by rw [e]; exact ⟨wf64 ha, wf64 hb⟩) (by rw [e]) (vs := [.int .i64 a, .int .i64 b]) (repVs_cons (rep_i a) (repVs_cons (rep_i b) repVs_nil))
end Go.Proofs.Ytledfadnhcdflaa.Ae

/-! Contracts over several inputs; what a call of the fractions' functions asks and gives, as steps for simp. No condition. -/
namespace Go.Proofs.Ytledfadnhcdflaa.Ae
open Go Go.RowKit Go.Proofs.Ytledfadnhcdflaa.Dig

/-- A kind of input, as data. -/
structure Enc (α : Type) where
  e : α → D
  inj : ∀ a b, e a = e b → a = b
def ERat : Enc Rat := ⟨eRat, fun _ _ => eRat_inj⟩
def ENum : Enc Rat := ⟨nD, fun _ _ => nD_inj⟩
def EInt : Enc Int := ⟨i64D, fun _ _ => i64D_inj⟩
def EZ : Enc Int := ⟨eZ, fun _ _ => eZ_inj⟩
theorem boolD_inj {a b : Bool} (h : boolD a = boolD b) : a = b := by unfold boolD at h; injection h with h; injection h
def EBool : Enc Bool := ⟨boolD, fun _ _ => boolD_inj⟩
def EQ : Enc (Int × Int) := ⟨fun p => eQ p.1 p.2, fun _ _ h => Prod.ext (eQ_inj h).1 (eQ_inj h).2⟩
/-- A struct of two parts. -/
def Enc.pair {α β : Type} (A : Enc α) (B : Enc β) : Enc (α × β) := ⟨fun p => .agg [A.e p.1, B.e p.2], fun p q h => by
  simp only [D.agg.injEq, List.cons.injEq, and_true] at h
  exact Prod.ext (A.inj _ _ h.1) (B.inj _ _ h.2)⟩
def Enc.trip {α β γ : Type} (A : Enc α) (B : Enc β) (C : Enc γ) : Enc (α × β × γ) := ⟨fun p => .agg [A.e p.1, B.e p.2.1, C.e p.2.2], fun p q h => by
  simp only [D.agg.injEq, List.cons.injEq, and_true] at h
  exact Prod.ext (A.inj _ _ h.1) (Prod.ext (B.inj _ _ h.2.1) (C.inj _ _ h.2.2))⟩
theorem map_inj {α : Type} (E : Enc α) : ∀ {a b : List α}, a.map E.e = b.map E.e → a = b
  | [], [], _ => rfl
  | x :: a, y :: b, h => by
    simp only [List.map_cons, List.cons.injEq] at h
    rw [E.inj _ _ h.1, map_inj E h.2]
  | [], _ :: _, h => by simp at h
  | _ :: _, [], h => by simp at h
/-- A slice. -/
def Enc.list {α : Type} (sz : Nat) (E : Enc α) : Enc (List α) := ⟨fun l => .sl sz (l.map E.e), fun a b h => by
  injection h with _ h; exact map_inj E h⟩
noncomputable def ct1 {α : Type} (A : Enc α) (pre : α → Prop) (post : α → List D) := ctD (fun a => [A.e a]) pre post
theorem ct1_at {α : Type} {A : Enc α} {pre : α → Prop} {post : α → List D} (a : α) : ct1 A pre post [A.e a] = (pre a, post a) :=
  ctD_at (e := fun a => [A.e a]) (fun a b h => by simp only [List.cons.injEq, and_true] at h; exact A.inj _ _ h) a
noncomputable def ct2 {α β : Type} (A : Enc α) (B : Enc β) (pre : α → β → Prop) (post : α → β → List D) := ctD (fun p : α × β => [A.e p.1, B.e p.2]) (fun p => pre p.1 p.2) (fun p => post p.1 p.2)
theorem ct2_at {α β : Type} {A : Enc α} {B : Enc β} {pre : α → β → Prop} {post : α → β → List D} (a : α) (b : β) : ct2 A B pre post [A.e a, B.e b] = (pre a b, post a b) :=
  ctD_at (e := fun p : α × β => [A.e p.1, B.e p.2]) (fun p q h => by simp only [List.cons.injEq, and_true] at h; exact Prod.ext (A.inj _ _ h.1) (B.inj _ _ h.2)) (a, b)
noncomputable def ct3 {α β γ : Type} (A : Enc α) (B : Enc β) (C : Enc γ) (pre : α → β → γ → Prop) (post : α → β → γ → List D) := ctD (fun p : α × β × γ => [A.e p.1, B.e p.2.1, C.e p.2.2]) (fun p => pre p.1 p.2.1 p.2.2) (fun p => post p.1 p.2.1 p.2.2)
theorem ct3_at {α β γ : Type} {A : Enc α} {B : Enc β} {C : Enc γ} {pre : α → β → γ → Prop} {post : α → β → γ → List D} (a : α) (b : β) (c : γ) : ct3 A B C pre post [A.e a, B.e b, C.e c] = (pre a b c, post a b c) :=
  ctD_at (e := fun p : α × β × γ => [A.e p.1, B.e p.2.1, C.e p.2.2]) (fun p q h => by simp only [List.cons.injEq, and_true] at h; exact Prod.ext (A.inj _ _ h.1) (Prod.ext (B.inj _ _ h.2.1) (C.inj _ _ h.2.2))) (a, b, c)
noncomputable def ct4 {α β γ δ : Type} (A : Enc α) (B : Enc β) (C : Enc γ) (E : Enc δ) (pre : α → β → γ → δ → Prop) (post : α → β → γ → δ → List D) := ctD (fun p : α × β × γ × δ => [A.e p.1, B.e p.2.1, C.e p.2.2.1, E.e p.2.2.2]) (fun p => pre p.1 p.2.1 p.2.2.1 p.2.2.2) (fun p => post p.1 p.2.1 p.2.2.1 p.2.2.2)
theorem ct4_at {α β γ δ : Type} {A : Enc α} {B : Enc β} {C : Enc γ} {E : Enc δ} {pre : α → β → γ → δ → Prop} {post : α → β → γ → δ → List D} (a : α) (b : β) (c : γ) (d : δ) : ct4 A B C E pre post [A.e a, B.e b, C.e c, E.e d] = (pre a b c d, post a b c d) :=
  ctD_at (e := fun p : α × β × γ × δ => [A.e p.1, B.e p.2.1, C.e p.2.2.1, E.e p.2.2.2]) (fun p q h => by simp only [List.cons.injEq, and_true] at h; exact Prod.ext (A.inj _ _ h.1) (Prod.ext (B.inj _ _ h.2.1) (Prod.ext (C.inj _ _ h.2.2.1) (E.inj _ _ h.2.2.2)))) (a, b, c, d)
/-- A function's contract, out of its reading. -/
theorem rd1 {N : NR} {α : Type} {A : Enc α} {pre : α → Prop} {post : α → List D} {f : FuncId} {fn : Func} {c : Code} {mf : FuncId → Bool} {tb : FuncId → Option Ct} (htb : TbOK N Try.prog tb) (hf : Try.prog.funcs[f]? = some fn) (hb : fn.body = some c) (hd : drawAll mf c = true) (hl : Nat.ble 1 fn.ntmps = true)
    (h : ∀ a, pre a → awp Try.prog mf tb c (start fn.ntmps ([A.e a].map .dat) []) (endK Try.prog fn.ntmps fn.results.toList ((post a).map .dat) [])) : SpecD N Try.prog f (ct1 A pre post) :=
  rdD htb hf hb hd (fun a ha => ⟨Nat.le_of_ble_eq_true hl, h a ha⟩)
theorem rd2 {N : NR} {α β : Type} {A : Enc α} {B : Enc β} {pre : α → β → Prop} {post : α → β → List D} {f : FuncId} {fn : Func} {c : Code} {mf : FuncId → Bool} {tb : FuncId → Option Ct} (htb : TbOK N Try.prog tb) (hf : Try.prog.funcs[f]? = some fn) (hb : fn.body = some c) (hd : drawAll mf c = true) (hl : Nat.ble 2 fn.ntmps = true)
    (h : ∀ a b, pre a b → awp Try.prog mf tb c (start fn.ntmps ([A.e a, B.e b].map .dat) []) (endK Try.prog fn.ntmps fn.results.toList ((post a b).map .dat) [])) : SpecD N Try.prog f (ct2 A B pre post) :=
  rdD htb hf hb hd (fun p ha => ⟨Nat.le_of_ble_eq_true hl, h p.1 p.2 ha⟩)
theorem rd3 {N : NR} {α β γ : Type} {A : Enc α} {B : Enc β} {C : Enc γ} {pre : α → β → γ → Prop} {post : α → β → γ → List D} {f : FuncId} {fn : Func} {c : Code} {mf : FuncId → Bool} {tb : FuncId → Option Ct} (htb : TbOK N Try.prog tb) (hf : Try.prog.funcs[f]? = some fn) (hb : fn.body = some c) (hd : drawAll mf c = true) (hl : Nat.ble 3 fn.ntmps = true)
    (h : ∀ a b d, pre a b d → awp Try.prog mf tb c (start fn.ntmps ([A.e a, B.e b, C.e d].map .dat) []) (endK Try.prog fn.ntmps fn.results.toList ((post a b d).map .dat) [])) : SpecD N Try.prog f (ct3 A B C pre post) :=
  rdD htb hf hb hd (fun p ha => ⟨Nat.le_of_ble_eq_true hl, h p.1 p.2.1 p.2.2 ha⟩)
theorem rd4 {N : NR} {α β γ δ : Type} {A : Enc α} {B : Enc β} {C : Enc γ} {E : Enc δ} {pre : α → β → γ → δ → Prop} {post : α → β → γ → δ → List D} {f : FuncId} {fn : Func} {c : Code} {mf : FuncId → Bool} {tb : FuncId → Option Ct} (htb : TbOK N Try.prog tb) (hf : Try.prog.funcs[f]? = some fn) (hb : fn.body = some c) (hd : drawAll mf c = true) (hl : Nat.ble 4 fn.ntmps = true)
    (h : ∀ a b d g, pre a b d g → awp Try.prog mf tb c (start fn.ntmps ([A.e a, B.e b, C.e d, E.e g].map .dat) []) (endK Try.prog fn.ntmps fn.results.toList ((post a b d g).map .dat) [])) : SpecD N Try.prog f (ct4 A B C E pre post) :=
  rdD htb hf hb hd (fun p ha => ⟨Nat.le_of_ble_eq_true hl, h p.1 p.2.1 p.2.2.1 p.2.2.2 ha⟩)
/-- A table in which every entry is right. -/
structure Ok (N : NR) (p : FuncId × Ct) : Prop where
  ok : CtOK N Try.prog p.1 p.2
  ca : callable Try.prog p.1 = true
theorem tblAll {N : NR} : ∀ (l : List (FuncId × Ct)), (∀ p ∈ l, Ok N p) → TbOK N Try.prog (tbl l)
  | [], _ => tbl_nil
  | p :: l, h => tbl_cons (h p (by simp)).ok (h p (by simp)).ca (tblAll l (fun q hq => h q (by simp [hq])))
/-- Of moderate length, all together. -/
def LM : Nat := 1000000000
theorem MX_val : MX = 549755813888 := rfl
theorem LM_val : LM = 1000000000 := rfl
def EP : Enc (Rat × Rat) := ERat.pair ERat
def EPn : Enc (Rat × Rat) := ENum.pair ENum
def EV : Enc ((Int × Int) × Int × Int) := EQ.pair EQ
def vOk (v : (Int × Int) × Int × Int) : Prop := qOk v.1.1 v.1.2 ∧ qOk v.2.1 v.2.2
instance (v : (Int × Int) × Int × Int) : Decidable (vOk v) := by unfold vOk; infer_instance
/-- A place as fractions. -/
def vq (v : (Int × Int) × Int × Int) : Rat × Rat := (Rat.divInt v.1.1 v.1.2, Rat.divInt v.2.1 v.2.2)
def V64 (v : (Int × Int) × Int × Int) : Prop := (I64 v.1.1 ∧ I64 v.1.2) ∧ I64 v.2.1 ∧ I64 v.2.2
def psz (p : Rat × Rat) : Nat := qsz p.1 + qsz p.2
theorem vOk_sz {v : (Int × Int) × Int × Int} (h : vOk v) : qsz (Rat.divInt v.1.1 v.1.2) ≤ 2 ∧ qsz (Rat.divInt v.2.1 v.2.2) ≤ 2 := ⟨QI_qsz (qOk_QI h.1), QI_qsz (qOk_QI h.2)⟩
@[simp] theorem EP_e (x y : Rat) : EP.e (x, y) = .agg [eRat x, eRat y] := rfl
@[simp] theorem EPn_e (x y : Rat) : EPn.e (x, y) = .agg [nD x, nD y] := rfl
@[simp] theorem EV_e (a b c d : Int) : EV.e ((a, b), c, d) = .agg [eQ a b, eQ c d] := rfl
@[simp] theorem ERat_e (x : Rat) : ERat.e x = eRat x := rfl
@[simp] theorem ENum_e (x : Rat) : ENum.e x = nD x := rfl
@[simp] theorem EInt_e (x : Int) : EInt.e x = i64D x := rfl
@[simp] theorem EBool_e (x : Bool) : EBool.e x = boolD x := rfl
@[simp] theorem EQ_e (a b : Int) : EQ.e (a, b) = eQ a b := rfl
section
variable (a b : Rat) (n d : Int)
@[simp] theorem z_add : raddC [eRat a, eRat b] = (qsz a + qsz b < MX, [eRat (a + b)]) := raddC_at a b
@[simp] theorem z_sub : rsubC [eRat a, eRat b] = (qsz a + qsz b < MX, [eRat (a - b)]) := rsubC_at a b
@[simp] theorem z_mul : rmC [eRat a, eRat b] = (qsz a + qsz b < MX, [eRat (a * b)]) := rmC_at a b
@[simp] theorem z_div : rdvC [eRat a, eRat b] = ((qsz a + qsz b < MX ∧ b ≠ 0), [eRat (a / b)]) := rdvC_at a b
@[simp] theorem z_neg : rngC [eRat a] = (qsz a < MX, [eRat (-a)]) := rngC_at a
@[simp] theorem z_inv : rinvC [eRat a] = ((qsz a < MX ∧ a ≠ 0), [eRat a⁻¹]) := rinvC_at a
@[simp] theorem z_cmp : rcC [eRat a, eRat b] = (qsz a + qsz b < MX, [.lit (.int .i64 (qcmp a b))]) := rcC_at a b
@[simp] theorem z_sign : rsgC [eRat a] = (True, [.lit (.int .i64 a.num.sign)]) := rsgC_at a
@[simp] theorem z_q : rqqC [eRat a] = (True, [eQ (oq a).1 (oq a).2.1, .lit (.bool (oq a).2.2)]) := by rw [rqqC_at, oQ_d3]; rfl
@[simp] theorem z_rq : rqC [eQ n d] = (QI n d, [eRat (Rat.divInt n d)]) := rqC_at n d
@[simp] theorem z_ri : riC [.lit (.int .i64 n)] = (n.natAbs < 9223372036854775808, [eRat (n : Rat)]) := riC_at n
@[simp] theorem z_floor : rflC [eRat a] = (qsz a < MX, [.ptr (eZ a.floor)]) := rflC_at a
@[simp] theorem z_fromInt : fiC [.ptr (eZ n)] = (ln n.natAbs < MX, [eRat (n : Rat)]) := fiC_at n
@[simp] theorem n_add : nAddC [nD a, nD b] = (qsz a + qsz b < MX, [nD (a + b)]) := nAddC_at a b
@[simp] theorem n_sub : nSubC [nD a, nD b] = (qsz a + qsz b < MX, [nD (a - b)]) := nSubC_at a b
@[simp] theorem n_mul : nMulC [nD a, nD b] = (qsz a + qsz b < MX, [nD (a * b)]) := nMulC_at a b
@[simp] theorem n_div : nDivC [nD a, nD b] = ((qsz a + qsz b < MX ∧ b ≠ 0), [nD (a / b)]) := nDivC_at a b
@[simp] theorem n_neg : nNegC [nD a] = (True, [nD (-a)]) := nNegC_at a
@[simp] theorem n_cmp : nCmpC [nD a, nD b] = (qsz a + qsz b < MX, [.lit (.int .i64 (qcmp a b))]) := nCmpC_at a b
@[simp] theorem n_sign : nSignC [nD a] = (True, [.lit (.int .i64 a.num.sign)]) := nSignC_at a
@[simp] theorem n_q : nQC [nD a] = (True, [eQ (oq a).1 (oq a).2.1, .lit (.bool (oq a).2.2)]) := nQC_at a
@[simp] theorem n_lq : nqC [eQ n d] = ((I64 n ∧ I64 d ∧ 0 < d), [nD (Rat.divInt n d)]) := nqC_at n d
@[simp] theorem n_of : nOfC [.lit (.int .i64 n), .lit (.int .i64 d)] = ((I64 n ∧ I64 d ∧ 0 < d), [nD (Rat.divInt n d)]) := nOfC_at n d
@[simp] theorem n_floor : nFloorC [nD a] = (True, [eZ a.floor]) := nFloorC_at a
@[simp] theorem n_whole : nWholeC [eZ n] = (SZ n, [nD (n : Rat)]) := nWholeC_at n
@[simp] theorem n_big : nBigC [eZ n, eZ d] = ((SZ n ∧ SZ d ∧ d ≠ 0), [nD (Rat.divInt n d)]) := nBigC_at n d
@[simp] theorem n_zof : zOfC [.lit (.int .i64 n)] = (I64 n, [eZ n]) := zOfC_at n
@[simp] theorem n_zadd : zAddC [eZ n, eZ d] = ((SZ n ∧ SZ d), [eZ (n + d)]) := zAddC_at n d
@[simp] theorem z_ok : qokC [eQ n d] = ((I64 n ∧ I64 d), [.lit (.bool (decide (qOk n d)))]) := qokC_at n d
@[simp] theorem z_toQ : toQC [eQ n d] = (True, [eQ n d]) := toQC_at n d
end
theorem z_all2 (a b c d : Int) : allQC [.sl 2 [eQ a b, eQ c d]] = (((I64 a ∧ I64 b) ∧ I64 c ∧ I64 d), [.lit (.bool (decide (qOk a b) && decide (qOk c d)))]) := by
  have h1 := allQC_at [(a, b), (c, d)]
  have h2 : (([(a, b), (c, d)] : List (Int × Int)).length < 4611686018427387904 ∧ ∀ q ∈ [(a, b), (c, d)], I64p q) ↔ ((I64 a ∧ I64 b) ∧ I64 c ∧ I64 d) := by
    constructor
    · rintro ⟨_, h⟩
      exact ⟨h (a, b) (by simp), h (c, d) (by simp)⟩
    · rintro ⟨h1, h2⟩
      refine ⟨by simp, ?_⟩
      intro q hq
      simp at hq
      rcases hq with rfl | rfl
      · exact h1
      · exact h2
  rw [propext h2] at h1
  have h3 : (([(a, b), (c, d)] : List (Int × Int)).all fun q => decide (qOk q.1 q.2)) = (decide (qOk a b) && decide (qOk c d)) := by simp
  rw [h3] at h1
  exact h1
attribute [simp] z_all2
end Go.Proofs.Ytledfadnhcdflaa.Ae

/-! impl: places of the plane; VOk, pv, cmp, sub, cross, turn. No condition. -/
namespace Go.Proofs.Ytledfadnhcdflaa.Ae
open Go Go.RowKit Go.Proofs.Ytledfadnhcdflaa.Dig
def crossQ (a b c d : Rat) : Rat := a * d - b * c
def turnQ (a b c d e f : Rat) : Rat := crossQ (c - a) (d - b) (e - a) (f - b)
/-- How two places compare. -/
def pcmp (a b c d : Rat) : Int := if qcmp a c = 0 then qcmp b d else qcmp a c
theorem qcmp_bd (a b : Rat) : -1 ≤ qcmp a b ∧ qcmp a b ≤ 1 := sign_bd _
theorem pcmp_bd (a b c d : Rat) : -1 ≤ pcmp a b c d ∧ pcmp a b c d ≤ 1 := by unfold pcmp; split <;> exact qcmp_bd _ _
theorem sub_lit {x y : Int} (h : x = y) : Sub (.lit (.int .i64 x)) (.lit (.int .i64 y)) := by rw [h]; exact Sub.refl _

/-! i.VOk -/
noncomputable def iVOkC := ct1 EV (fun p0 => ((I64 p0.1.1 ∧ I64 p0.1.2) ∧ I64 p0.2.1 ∧ I64 p0.2.2)) (fun p0 => [.lit (.bool (decide (qOk p0.1.1 p0.1.2) && decide (qOk p0.2.1 p0.2.2)))])
@[simp] theorem iVOkC_at (a b c d : Int) : iVOkC [.agg [eQ a b, eQ c d]] = (((I64 a ∧ I64 b) ∧ I64 c ∧ I64 d), [.lit (.bool (decide (qOk a b) && decide (qOk c d)))]) := ct1_at ((a, b), c, d)
noncomputable def iVOkTb : List (FuncId × Ct) := [(49, .data allQC)]
theorem iVOkTb_ok {N : NR} : TbOK N Try.prog (tbl iVOkTb) := tbl_cons (c := .data allQC) allQ_spec allQ_ok tbl_nil

@[simp] theorem iVOkTb1 : tbl iVOkTb 49 = some (.data allQC) := rfl
theorem iVOk_spec {N : NR} : SpecD N Try.prog 82 iVOkC := by
  refine rd1 (mf := fun f => false) iVOkTb_ok (fn := Try.f82) (by kernel_rfl) rfl (by kernel_rfl) (by kernel_rfl) ?_
  rintro ⟨⟨a, b⟩, c, d⟩ hp
  have hp : ((I64 a ∧ I64 b) ∧ I64 c ∧ I64 d) := hp
  show awp _ _ _ _ (start _ ([.agg [eQ a b, eQ c d]].map .dat) []) (endK _ _ _ (([.lit (.bool (decide (qOk a b) && decide (qOk c d)))]).map .dat) [])
  simp [-D.isLit, Try.f82]
  exact hp
theorem iVOk_ok : callable Try.prog 82 = true := by kernel_rfl

/-! i.pv -/
noncomputable def pvC := ct1 EV (fun p0 => QI p0.1.1 p0.1.2 ∧ QI p0.2.1 p0.2.2) (fun p0 => [.agg [eRat (Rat.divInt p0.1.1 p0.1.2), eRat (Rat.divInt p0.2.1 p0.2.2)]])
@[simp] theorem pvC_at (a b c d : Int) : pvC [.agg [eQ a b, eQ c d]] = (QI a b ∧ QI c d, [.agg [eRat (Rat.divInt a b), eRat (Rat.divInt c d)]]) := ct1_at ((a, b), c, d)
noncomputable def pvTb : List (FuncId × Ct) := [(50, .data rqC)]
theorem pvTb_ok {N : NR} : TbOK N Try.prog (tbl pvTb) := tbl_cons (c := .data rqC) rq_spec rq_ok tbl_nil

@[simp] theorem pvTb1 : tbl pvTb 50 = some (.data rqC) := rfl
theorem pv_spec {N : NR} : SpecD N Try.prog 83 pvC := by
  refine rd1 (mf := fun f => false) pvTb_ok (fn := Try.f83) (by kernel_rfl) rfl (by kernel_rfl) (by kernel_rfl) ?_
  rintro ⟨⟨a, b⟩, c, d⟩ hp
  have hp : QI a b ∧ QI c d := hp
  show awp _ _ _ _ (start _ ([.agg [eQ a b, eQ c d]].map .dat) []) (endK _ _ _ (([.agg [eRat (Rat.divInt a b), eRat (Rat.divInt c d)]]).map .dat) [])
  simp [-D.isLit, Try.f83, hp]
theorem pv_ok : callable Try.prog 83 = true := by kernel_rfl

/-! (i.pt).cmp -/
noncomputable def ptcmpC := ct2 EP EP (fun p0 p1 => qsz p0.1 + qsz p0.2 + qsz p1.1 + qsz p1.2 < LM) (fun p0 p1 => [.lit (.int .i64 (pcmp p0.1 p0.2 p1.1 p1.2))])
@[simp] theorem ptcmpC_at (a b : Rat) (c d : Rat) : ptcmpC [.agg [eRat a, eRat b], .agg [eRat c, eRat d]] = (qsz a + qsz b + qsz c + qsz d < LM, [.lit (.int .i64 (pcmp a b c d))]) := ct2_at (a, b) (c, d)
noncomputable def ptcmpTb : List (FuncId × Ct) := [(59, .data rcC)]
theorem ptcmpTb_ok {N : NR} : TbOK N Try.prog (tbl ptcmpTb) := tbl_cons (c := .data rcC) rcmp_spec rcmp_ok tbl_nil

@[simp] theorem ptcmpTb1 : tbl ptcmpTb 59 = some (.data rcC) := rfl
theorem ptcmp_spec {N : NR} : SpecD N Try.prog 84 ptcmpC := by
  refine rd2 (mf := fun f => false) ptcmpTb_ok (fn := Try.f84) (by kernel_rfl) rfl (by kernel_rfl) (by kernel_rfl) ?_
  rintro ⟨a, b⟩ ⟨c, d⟩ hp
  have hp : qsz a + qsz b + qsz c + qsz d < LM := hp
  show awp _ _ _ _ (start _ ([.agg [eRat a, eRat b], .agg [eRat c, eRat d]].map .dat) []) (endK _ _ _ (([.lit (.int .i64 (pcmp a b c d))]).map .dat) [])
  simp [-D.isLit, Try.f84]
  refine ⟨by grind [qsz_add, qsz_sub, qsz_mul, qsz_neg, MX_val, LM_val], fun h => ?_, fun h => ⟨by grind [qsz_add, qsz_sub, qsz_mul, qsz_neg, MX_val, LM_val], ?_⟩⟩
  · exact sub_lit (by unfold pcmp; rw [if_neg h])
  · exact sub_lit (by unfold pcmp; rw [if_pos h])
theorem ptcmp_ok : callable Try.prog 84 = true := by kernel_rfl

/-! (i.pt).sub -/
noncomputable def ptsubC := ct2 EP EP (fun p0 p1 => qsz p0.1 + qsz p0.2 + qsz p1.1 + qsz p1.2 < LM) (fun p0 p1 => [.agg [eRat (p0.1 - p1.1), eRat (p0.2 - p1.2)]])
@[simp] theorem ptsubC_at (a b : Rat) (c d : Rat) : ptsubC [.agg [eRat a, eRat b], .agg [eRat c, eRat d]] = (qsz a + qsz b + qsz c + qsz d < LM, [.agg [eRat (a - c), eRat (b - d)]]) := ct2_at (a, b) (c, d)
noncomputable def ptsubTb : List (FuncId × Ct) := [(53, .data rsubC)]
theorem ptsubTb_ok {N : NR} : TbOK N Try.prog (tbl ptsubTb) := tbl_cons (c := .data rsubC) rsub_spec rsub_ok tbl_nil

@[simp] theorem ptsubTb1 : tbl ptsubTb 53 = some (.data rsubC) := rfl
theorem ptsub_spec {N : NR} : SpecD N Try.prog 141 ptsubC := by
  refine rd2 (mf := fun f => false) ptsubTb_ok (fn := Try.f141) (by kernel_rfl) rfl (by kernel_rfl) (by kernel_rfl) ?_
  rintro ⟨a, b⟩ ⟨c, d⟩ hp
  have hp : qsz a + qsz b + qsz c + qsz d < LM := hp
  show awp _ _ _ _ (start _ ([.agg [eRat a, eRat b], .agg [eRat c, eRat d]].map .dat) []) (endK _ _ _ (([.agg [eRat (a - c), eRat (b - d)]]).map .dat) [])
  simp [-D.isLit, Try.f141]
  grind [qsz_add, qsz_sub, qsz_mul, qsz_neg, MX_val, LM_val]
theorem ptsub_ok : callable Try.prog 141 = true := by kernel_rfl

/-! i.cross -/
noncomputable def crsC := ct2 EP EP (fun p0 p1 => qsz p0.1 + qsz p0.2 + qsz p1.1 + qsz p1.2 < LM) (fun p0 p1 => [eRat (crossQ p0.1 p0.2 p1.1 p1.2)])
@[simp] theorem crsC_at (a b : Rat) (c d : Rat) : crsC [.agg [eRat a, eRat b], .agg [eRat c, eRat d]] = (qsz a + qsz b + qsz c + qsz d < LM, [eRat (crossQ a b c d)]) := ct2_at (a, b) (c, d)
noncomputable def crsTb : List (FuncId × Ct) := [(53, .data rsubC), (55, .data rmC)]
theorem crsTb_ok {N : NR} : TbOK N Try.prog (tbl crsTb) := tbl_cons (c := .data rsubC) rsub_spec rsub_ok (tbl_cons (c := .data rmC) rmul_spec rmul_ok tbl_nil)

@[simp] theorem crsTb1 : tbl crsTb 53 = some (.data rsubC) := rfl
@[simp] theorem crsTb2 : tbl crsTb 55 = some (.data rmC) := rfl
theorem crs_spec {N : NR} : SpecD N Try.prog 140 crsC := by
  refine rd2 (mf := fun f => false) crsTb_ok (fn := Try.f140) (by kernel_rfl) rfl (by kernel_rfl) (by kernel_rfl) ?_
  rintro ⟨a, b⟩ ⟨c, d⟩ hp
  have hp : qsz a + qsz b + qsz c + qsz d < LM := hp
  show awp _ _ _ _ (start _ ([.agg [eRat a, eRat b], .agg [eRat c, eRat d]].map .dat) []) (endK _ _ _ (([eRat (crossQ a b c d)]).map .dat) [])
  simp [-D.isLit, Try.f140, crossQ]
  grind [qsz_add, qsz_sub, qsz_mul, qsz_neg, MX_val, LM_val]
theorem crs_ok : callable Try.prog 140 = true := by kernel_rfl

/-! i.turn -/
noncomputable def trnC := ct3 EP EP EP (fun p0 p1 p2 => qsz p0.1 + qsz p0.2 + qsz p1.1 + qsz p1.2 + qsz p2.1 + qsz p2.2 < 100000000) (fun p0 p1 p2 => [.lit (.int .i64 (turnQ p0.1 p0.2 p1.1 p1.2 p2.1 p2.2).num.sign)])
@[simp] theorem trnC_at (a b : Rat) (c d : Rat) (e f : Rat) : trnC [.agg [eRat a, eRat b], .agg [eRat c, eRat d], .agg [eRat e, eRat f]] = (qsz a + qsz b + qsz c + qsz d + qsz e + qsz f < 100000000, [.lit (.int .i64 (turnQ a b c d e f).num.sign)]) := ct3_at (a, b) (c, d) (e, f)
noncomputable def trnTb : List (FuncId × Ct) := [(141, .data ptsubC), (140, .data crsC), (114, .data rsgC)]
theorem trnTb_ok {N : NR} : TbOK N Try.prog (tbl trnTb) := tbl_cons (c := .data ptsubC) ptsub_spec ptsub_ok (tbl_cons (c := .data crsC) crs_spec crs_ok (tbl_cons (c := .data rsgC) rsign_spec rsign_ok tbl_nil))

@[simp] theorem trnTb1 : tbl trnTb 141 = some (.data ptsubC) := rfl
@[simp] theorem trnTb2 : tbl trnTb 140 = some (.data crsC) := rfl
@[simp] theorem trnTb3 : tbl trnTb 114 = some (.data rsgC) := rfl
theorem trn_spec {N : NR} : SpecD N Try.prog 86 trnC := by
  refine rd3 (mf := fun f => false) trnTb_ok (fn := Try.f86) (by kernel_rfl) rfl (by kernel_rfl) (by kernel_rfl) ?_
  rintro ⟨a, b⟩ ⟨c, d⟩ ⟨e, f⟩ hp
  have hp : qsz a + qsz b + qsz c + qsz d + qsz e + qsz f < 100000000 := hp
  show awp _ _ _ _ (start _ ([.agg [eRat a, eRat b], .agg [eRat c, eRat d], .agg [eRat e, eRat f]].map .dat) []) (endK _ _ _ (([.lit (.int .i64 (turnQ a b c d e f).num.sign)]).map .dat) [])
  simp [-D.isLit, Try.f86, turnQ]
  grind [qsz_add, qsz_sub, qsz_mul, qsz_neg, MX_val, LM_val]
theorem trn_ok : callable Try.prog 86 = true := by kernel_rfl
end Go.Proofs.Ytledfadnhcdflaa.Ae

/-! The laws CmpV and Turn: both sides.  No condition. -/
namespace Go.Proofs.Ytledfadnhcdflaa.Ae
open Go Go.RowKit Go.Proofs.Ytledfadnhcdflaa.Dig

/-! i.CmpV -/
noncomputable def iCmpVC := ct2 EV EV (fun p0 p1 => ((I64 p0.1.1 ∧ I64 p0.1.2) ∧ I64 p0.2.1 ∧ I64 p0.2.2) ∧ ((I64 p1.1.1 ∧ I64 p1.1.2) ∧ I64 p1.2.1 ∧ I64 p1.2.2)) (fun p0 p1 => [.lit (.int .i64 (if (qOk p0.1.1 p0.1.2 ∧ qOk p0.2.1 p0.2.2) ∧ (qOk p1.1.1 p1.1.2 ∧ qOk p1.2.1 p1.2.2) then pcmp (Rat.divInt p0.1.1 p0.1.2) (Rat.divInt p0.2.1 p0.2.2) (Rat.divInt p1.1.1 p1.1.2) (Rat.divInt p1.2.1 p1.2.2) else 2))])
@[simp] theorem iCmpVC_at (a b c d : Int) (e f g h : Int) : iCmpVC [.agg [eQ a b, eQ c d], .agg [eQ e f, eQ g h]] = (((I64 a ∧ I64 b) ∧ I64 c ∧ I64 d) ∧ ((I64 e ∧ I64 f) ∧ I64 g ∧ I64 h), [.lit (.int .i64 (if (qOk a b ∧ qOk c d) ∧ (qOk e f ∧ qOk g h) then pcmp (Rat.divInt a b) (Rat.divInt c d) (Rat.divInt e f) (Rat.divInt g h) else 2))]) := ct2_at ((a, b), c, d) ((e, f), g, h)
noncomputable def iCmpVTb : List (FuncId × Ct) := [(82, .data iVOkC), (83, .data pvC), (84, .data ptcmpC)]
theorem iCmpVTb_ok {N : NR} : TbOK N Try.prog (tbl iCmpVTb) := tbl_cons (c := .data iVOkC) iVOk_spec iVOk_ok (tbl_cons (c := .data pvC) pv_spec pv_ok (tbl_cons (c := .data ptcmpC) ptcmp_spec ptcmp_ok tbl_nil))

@[simp] theorem iCmpVTb1 : tbl iCmpVTb 82 = some (.data iVOkC) := rfl
@[simp] theorem iCmpVTb2 : tbl iCmpVTb 83 = some (.data pvC) := rfl
@[simp] theorem iCmpVTb3 : tbl iCmpVTb 84 = some (.data ptcmpC) := rfl
theorem iCmpV_spec {N : NR} : SpecD N Try.prog 36 iCmpVC := by
  refine rd2 (mf := fun f => false) iCmpVTb_ok (fn := Try.f36) (by kernel_rfl) rfl (by kernel_rfl) (by kernel_rfl) ?_
  rintro ⟨⟨a, b⟩, c, d⟩ ⟨⟨e, f⟩, g, h⟩ hp
  have hp : ((I64 a ∧ I64 b) ∧ I64 c ∧ I64 d) ∧ ((I64 e ∧ I64 f) ∧ I64 g ∧ I64 h) := hp
  show awp _ _ _ _ (start _ ([.agg [eQ a b, eQ c d], .agg [eQ e f, eQ g h]].map .dat) []) (endK _ _ _ (([.lit (.int .i64 (if (qOk a b ∧ qOk c d) ∧ (qOk e f ∧ qOk g h) then pcmp (Rat.divInt a b) (Rat.divInt c d) (Rat.divInt e f) (Rat.divInt g h) else 2))]).map .dat) [])
  obtain ⟨⟨⟨i1, i2⟩, i3, i4⟩, ⟨i5, i6⟩, i7, i8⟩ := hp
  by_cases h1 : qOk a b ∧ qOk c d
  · by_cases h2 : qOk e f ∧ qOk g h
    · have w1 := qOk_QI h1.1
      have w2 := qOk_QI h1.2
      have w3 := qOk_QI h2.1
      have w4 := qOk_QI h2.2
      have y1 := qOk_64 h1.1
      have y2 := qOk_64 h1.2
      have y3 := qOk_64 h2.1
      have y4 := qOk_64 h2.2
      have z1 := QI_qsz w1
      have z2 := QI_qsz w2
      have z3 := QI_qsz w3
      have z4 := QI_qsz w4
      have e1 : IntKind.i64.wrap (pcmp (Rat.divInt a b) (Rat.divInt c d) (Rat.divInt e f) (Rat.divInt g h)) = pcmp (Rat.divInt a b) (Rat.divInt c d) (Rat.divInt e f) (Rat.divInt g h) := i64_id _ (by have := pcmp_bd (Rat.divInt a b) (Rat.divInt c d) (Rat.divInt e f) (Rat.divInt g h); omega) (by have := pcmp_bd (Rat.divInt a b) (Rat.divInt c d) (Rat.divInt e f) (Rat.divInt g h); omega)
      have s1 : qsz (Rat.divInt a b) + qsz (Rat.divInt c d) + qsz (Rat.divInt e f) + qsz (Rat.divInt g h) < LM := by rw [LM_val]; omega
      simp [-D.isLit, Try.f36, i1, i2, i3, i4, i5, i6, i7, i8, h1.1, h1.2, h2.1, h2.2, w1, w2, w3, w4, y1, y2, y3, y4, e1, s1]
    · have h2' : (decide (qOk e f) && decide (qOk g h)) = false := by rw [← Bool.decide_and]; exact decide_eq_false h2
      simp [-D.isLit, Try.f36, i1, i2, i3, i4, i5, i6, i7, i8, h1.1, h1.2, h2, h2']
  · have h1' : (decide (qOk a b) && decide (qOk c d)) = false := by rw [← Bool.decide_and]; exact decide_eq_false h1
    simp [-D.isLit, Try.f36, i1, i2, i3, i4, i5, i6, i7, i8, h1, h1']
theorem iCmpV_ok : callable Try.prog 36 = true := by kernel_rfl

/-! i.Turn -/
noncomputable def iTurnC := ct3 EV EV EV (fun p0 p1 p2 => ((I64 p0.1.1 ∧ I64 p0.1.2) ∧ I64 p0.2.1 ∧ I64 p0.2.2) ∧ ((I64 p1.1.1 ∧ I64 p1.1.2) ∧ I64 p1.2.1 ∧ I64 p1.2.2) ∧ ((I64 p2.1.1 ∧ I64 p2.1.2) ∧ I64 p2.2.1 ∧ I64 p2.2.2)) (fun p0 p1 p2 => [.lit (.int .i64 (if (qOk p0.1.1 p0.1.2 ∧ qOk p0.2.1 p0.2.2) ∧ (qOk p1.1.1 p1.1.2 ∧ qOk p1.2.1 p1.2.2) ∧ (qOk p2.1.1 p2.1.2 ∧ qOk p2.2.1 p2.2.2) then (turnQ (Rat.divInt p0.1.1 p0.1.2) (Rat.divInt p0.2.1 p0.2.2) (Rat.divInt p1.1.1 p1.1.2) (Rat.divInt p1.2.1 p1.2.2) (Rat.divInt p2.1.1 p2.1.2) (Rat.divInt p2.2.1 p2.2.2)).num.sign else 2))])
@[simp] theorem iTurnC_at (a b c d : Int) (e f g h : Int) (i j k l : Int) : iTurnC [.agg [eQ a b, eQ c d], .agg [eQ e f, eQ g h], .agg [eQ i j, eQ k l]] = (((I64 a ∧ I64 b) ∧ I64 c ∧ I64 d) ∧ ((I64 e ∧ I64 f) ∧ I64 g ∧ I64 h) ∧ ((I64 i ∧ I64 j) ∧ I64 k ∧ I64 l), [.lit (.int .i64 (if (qOk a b ∧ qOk c d) ∧ (qOk e f ∧ qOk g h) ∧ (qOk i j ∧ qOk k l) then (turnQ (Rat.divInt a b) (Rat.divInt c d) (Rat.divInt e f) (Rat.divInt g h) (Rat.divInt i j) (Rat.divInt k l)).num.sign else 2))]) := ct3_at ((a, b), c, d) ((e, f), g, h) ((i, j), k, l)
noncomputable def iTurnTb : List (FuncId × Ct) := [(82, .data iVOkC), (83, .data pvC), (86, .data trnC)]
theorem iTurnTb_ok {N : NR} : TbOK N Try.prog (tbl iTurnTb) := tbl_cons (c := .data iVOkC) iVOk_spec iVOk_ok (tbl_cons (c := .data pvC) pv_spec pv_ok (tbl_cons (c := .data trnC) trn_spec trn_ok tbl_nil))

@[simp] theorem iTurnTb1 : tbl iTurnTb 82 = some (.data iVOkC) := rfl
@[simp] theorem iTurnTb2 : tbl iTurnTb 83 = some (.data pvC) := rfl
@[simp] theorem iTurnTb3 : tbl iTurnTb 86 = some (.data trnC) := rfl
theorem iTurn_spec {N : NR} : SpecD N Try.prog 38 iTurnC := by
  refine rd3 (mf := fun f => false) iTurnTb_ok (fn := Try.f38) (by kernel_rfl) rfl (by kernel_rfl) (by kernel_rfl) ?_
  rintro ⟨⟨a, b⟩, c, d⟩ ⟨⟨e, f⟩, g, h⟩ ⟨⟨i, j⟩, k, l⟩ hp
  have hp : ((I64 a ∧ I64 b) ∧ I64 c ∧ I64 d) ∧ ((I64 e ∧ I64 f) ∧ I64 g ∧ I64 h) ∧ ((I64 i ∧ I64 j) ∧ I64 k ∧ I64 l) := hp
  show awp _ _ _ _ (start _ ([.agg [eQ a b, eQ c d], .agg [eQ e f, eQ g h], .agg [eQ i j, eQ k l]].map .dat) []) (endK _ _ _ (([.lit (.int .i64 (if (qOk a b ∧ qOk c d) ∧ (qOk e f ∧ qOk g h) ∧ (qOk i j ∧ qOk k l) then (turnQ (Rat.divInt a b) (Rat.divInt c d) (Rat.divInt e f) (Rat.divInt g h) (Rat.divInt i j) (Rat.divInt k l)).num.sign else 2))]).map .dat) [])
  obtain ⟨⟨⟨i1, i2⟩, i3, i4⟩, ⟨⟨i5, i6⟩, i7, i8⟩, ⟨i9, i10⟩, i11, i12⟩ := hp
  by_cases h1 : qOk a b ∧ qOk c d
  · by_cases h2 : qOk e f ∧ qOk g h
    · by_cases h3 : qOk i j ∧ qOk k l
      · have w1 := qOk_QI h1.1
        have w2 := qOk_QI h1.2
        have w3 := qOk_QI h2.1
        have w4 := qOk_QI h2.2
        have w5 := qOk_QI h3.1
        have w6 := qOk_QI h3.2
        have y1 := qOk_64 h1.1
        have y2 := qOk_64 h1.2
        have y3 := qOk_64 h2.1
        have y4 := qOk_64 h2.2
        have y5 := qOk_64 h3.1
        have y6 := qOk_64 h3.2
        have z1 := QI_qsz w1
        have z2 := QI_qsz w2
        have z3 := QI_qsz w3
        have z4 := QI_qsz w4
        have z5 := QI_qsz w5
        have z6 := QI_qsz w6
        have e1 : IntKind.i64.wrap (turnQ (Rat.divInt a b) (Rat.divInt c d) (Rat.divInt e f) (Rat.divInt g h) (Rat.divInt i j) (Rat.divInt k l)).num.sign = (turnQ (Rat.divInt a b) (Rat.divInt c d) (Rat.divInt e f) (Rat.divInt g h) (Rat.divInt i j) (Rat.divInt k l)).num.sign := i64_id _ (by have := sign_bd (turnQ (Rat.divInt a b) (Rat.divInt c d) (Rat.divInt e f) (Rat.divInt g h) (Rat.divInt i j) (Rat.divInt k l)).num; omega) (by have := sign_bd (turnQ (Rat.divInt a b) (Rat.divInt c d) (Rat.divInt e f) (Rat.divInt g h) (Rat.divInt i j) (Rat.divInt k l)).num; omega)
        have s1 : qsz (Rat.divInt a b) + qsz (Rat.divInt c d) + qsz (Rat.divInt e f) + qsz (Rat.divInt g h) + qsz (Rat.divInt i j) + qsz (Rat.divInt k l) < 100000000 := by omega
        simp [-D.isLit, Try.f38, i1, i2, i3, i4, i5, i6, i7, i8, i9, i10, i11, i12, h1.1, h1.2, h2.1, h2.2, h3.1, h3.2, w1, w2, w3, w4, w5, w6, y1, y2, y3, y4, y5, y6, e1, s1]
      · have h3' : (decide (qOk i j) && decide (qOk k l)) = false := by rw [← Bool.decide_and]; exact decide_eq_false h3
        simp [-D.isLit, Try.f38, i1, i2, i3, i4, i5, i6, i7, i8, i9, i10, i11, i12, h1.1, h1.2, h2.1, h2.2, h3, h3']
    · have h2' : (decide (qOk e f) && decide (qOk g h)) = false := by rw [← Bool.decide_and]; exact decide_eq_false h2
      simp [-D.isLit, Try.f38, i1, i2, i3, i4, i5, i6, i7, i8, h1.1, h1.2, h2, h2']
  · have h1' : (decide (qOk a b) && decide (qOk c d)) = false := by rw [← Bool.decide_and]; exact decide_eq_false h1
    simp [-D.isLit, Try.f38, i1, i2, i3, i4, i5, i6, i7, i8, h1, h1']
theorem iTurn_ok : callable Try.prog 38 = true := by kernel_rfl

/-! s.VOk -/
noncomputable def sVOkC := ct1 EV (fun p0 => ((I64 p0.1.1 ∧ I64 p0.1.2) ∧ I64 p0.2.1 ∧ I64 p0.2.2)) (fun p0 => [.lit (.bool (decide (qOk p0.1.1 p0.1.2) && decide (qOk p0.2.1 p0.2.2)))])
@[simp] theorem sVOkC_at (a b c d : Int) : sVOkC [.agg [eQ a b, eQ c d]] = (((I64 a ∧ I64 b) ∧ I64 c ∧ I64 d), [.lit (.bool (decide (qOk a b) && decide (qOk c d)))]) := ct1_at ((a, b), c, d)
noncomputable def sVOkTb : List (FuncId × Ct) := [(46, .data qokC)]
theorem sVOkTb_ok : TbOK NF Try.prog (tbl sVOkTb) := tbl_cons (c := .data qokC) sQOk_spec sQOk_ok tbl_nil

@[simp] theorem sVOkTb1 : tbl sVOkTb 46 = some (.data qokC) := rfl
theorem sVOk_spec : SpecD NF Try.prog 79 sVOkC := by
  refine rd1 (mf := fun f => false) sVOkTb_ok (fn := Try.f79) (by kernel_rfl) rfl (by kernel_rfl) (by kernel_rfl) ?_
  rintro ⟨⟨a, b⟩, c, d⟩ hp
  have hp : ((I64 a ∧ I64 b) ∧ I64 c ∧ I64 d) := hp
  show awp _ _ _ _ (start _ ([.agg [eQ a b, eQ c d]].map .dat) []) (endK _ _ _ (([.lit (.bool (decide (qOk a b) && decide (qOk c d)))]).map .dat) [])
  obtain ⟨⟨i1, i2⟩, i3, i4⟩ := hp
  by_cases h : qOk a b <;> simp [-D.isLit, Try.f79, i1, i2, i3, i4, h]
theorem sVOk_ok : callable Try.prog 79 = true := by kernel_rfl

/-! s.l3p -/
noncomputable def l3pC := ct1 EV (fun p0 => (I64 p0.1.1 ∧ I64 p0.1.2 ∧ 0 < p0.1.2) ∧ I64 p0.2.1 ∧ I64 p0.2.2 ∧ 0 < p0.2.2) (fun p0 => [.agg [nD (Rat.divInt p0.1.1 p0.1.2), nD (Rat.divInt p0.2.1 p0.2.2)]])
@[simp] theorem l3pC_at (a b c d : Int) : l3pC [.agg [eQ a b, eQ c d]] = ((I64 a ∧ I64 b ∧ 0 < b) ∧ I64 c ∧ I64 d ∧ 0 < d, [.agg [nD (Rat.divInt a b), nD (Rat.divInt c d)]]) := ct1_at ((a, b), c, d)
noncomputable def l3pTb : List (FuncId × Ct) := [(48, .data nqC)]
theorem l3pTb_ok : TbOK NF Try.prog (tbl l3pTb) := tbl_cons (c := .data nqC) nq_spec l1q_ok tbl_nil

@[simp] theorem l3pTb1 : tbl l3pTb 48 = some (.data nqC) := rfl
theorem l3p_spec : SpecD NF Try.prog 81 l3pC := by
  refine rd1 (mf := fun f => false) l3pTb_ok (fn := Try.f81) (by kernel_rfl) rfl (by kernel_rfl) (by kernel_rfl) ?_
  rintro ⟨⟨a, b⟩, c, d⟩ hp
  have hp : (I64 a ∧ I64 b ∧ 0 < b) ∧ I64 c ∧ I64 d ∧ 0 < d := hp
  show awp _ _ _ _ (start _ ([.agg [eQ a b, eQ c d]].map .dat) []) (endK _ _ _ (([.agg [nD (Rat.divInt a b), nD (Rat.divInt c d)]]).map .dat) [])
  simp [-D.isLit, Try.f81, hp]
theorem l3p_ok : callable Try.prog 81 = true := by kernel_rfl

/-! s.l3Cmp -/
noncomputable def l3CmpC := ct2 EPn EPn (fun p0 p1 => qsz p0.1 + qsz p0.2 + qsz p1.1 + qsz p1.2 < LM) (fun p0 p1 => [.lit (.int .i64 (pcmp p0.1 p0.2 p1.1 p1.2))])
@[simp] theorem l3CmpC_at (a b : Rat) (c d : Rat) : l3CmpC [.agg [nD a, nD b], .agg [nD c, nD d]] = (qsz a + qsz b + qsz c + qsz d < LM, [.lit (.int .i64 (pcmp a b c d))]) := ct2_at (a, b) (c, d)
noncomputable def l3CmpTb : List (FuncId × Ct) := [(58, .data nCmpC)]
theorem l3CmpTb_ok : TbOK NF Try.prog (tbl l3CmpTb) := tbl_cons (c := .data nCmpC) nCmp_spec l1rCmp_ok tbl_nil

@[simp] theorem l3CmpTb1 : tbl l3CmpTb 58 = some (.data nCmpC) := rfl
theorem l3Cmp_spec : SpecD NF Try.prog 80 l3CmpC := by
  refine rd2 (mf := fun f => false) l3CmpTb_ok (fn := Try.f80) (by kernel_rfl) rfl (by kernel_rfl) (by kernel_rfl) ?_
  rintro ⟨a, b⟩ ⟨c, d⟩ hp
  have hp : qsz a + qsz b + qsz c + qsz d < LM := hp
  show awp _ _ _ _ (start _ ([.agg [nD a, nD b], .agg [nD c, nD d]].map .dat) []) (endK _ _ _ (([.lit (.int .i64 (pcmp a b c d))]).map .dat) [])
  simp [-D.isLit, Try.f80]
  refine ⟨by grind [qsz_add, qsz_sub, qsz_mul, qsz_neg, MX_val, LM_val], fun h => ?_, fun h => ⟨by grind [qsz_add, qsz_sub, qsz_mul, qsz_neg, MX_val, LM_val], ?_⟩⟩
  · exact sub_lit (by unfold pcmp; rw [if_neg h])
  · exact sub_lit (by unfold pcmp; rw [if_pos h])
theorem l3Cmp_ok : callable Try.prog 80 = true := by kernel_rfl

/-! s.l3Sub -/
noncomputable def l3SubC := ct2 EPn EPn (fun p0 p1 => qsz p0.1 + qsz p0.2 + qsz p1.1 + qsz p1.2 < LM) (fun p0 p1 => [.agg [nD (p0.1 - p1.1), nD (p0.2 - p1.2)]])
@[simp] theorem l3SubC_at (a b : Rat) (c d : Rat) : l3SubC [.agg [nD a, nD b], .agg [nD c, nD d]] = (qsz a + qsz b + qsz c + qsz d < LM, [.agg [nD (a - c), nD (b - d)]]) := ct2_at (a, b) (c, d)
noncomputable def l3SubTb : List (FuncId × Ct) := [(52, .data nSubC)]
theorem l3SubTb_ok : TbOK NF Try.prog (tbl l3SubTb) := tbl_cons (c := .data nSubC) nSub_spec l1rSub_ok tbl_nil

@[simp] theorem l3SubTb1 : tbl l3SubTb 52 = some (.data nSubC) := rfl
theorem l3Sub_spec : SpecD NF Try.prog 139 l3SubC := by
  refine rd2 (mf := fun f => false) l3SubTb_ok (fn := Try.f139) (by kernel_rfl) rfl (by kernel_rfl) (by kernel_rfl) ?_
  rintro ⟨a, b⟩ ⟨c, d⟩ hp
  have hp : qsz a + qsz b + qsz c + qsz d < LM := hp
  show awp _ _ _ _ (start _ ([.agg [nD a, nD b], .agg [nD c, nD d]].map .dat) []) (endK _ _ _ (([.agg [nD (a - c), nD (b - d)]]).map .dat) [])
  simp [-D.isLit, Try.f139]
  grind [qsz_add, qsz_sub, qsz_mul, qsz_neg, MX_val, LM_val]
theorem l3Sub_ok : callable Try.prog 139 = true := by kernel_rfl

/-! s.l3Cross -/
noncomputable def l3CrossC := ct2 EPn EPn (fun p0 p1 => qsz p0.1 + qsz p0.2 + qsz p1.1 + qsz p1.2 < LM) (fun p0 p1 => [nD (crossQ p0.1 p0.2 p1.1 p1.2)])
@[simp] theorem l3CrossC_at (a b : Rat) (c d : Rat) : l3CrossC [.agg [nD a, nD b], .agg [nD c, nD d]] = (qsz a + qsz b + qsz c + qsz d < LM, [nD (crossQ a b c d)]) := ct2_at (a, b) (c, d)
noncomputable def l3CrossTb : List (FuncId × Ct) := [(52, .data nSubC), (54, .data nMulC)]
theorem l3CrossTb_ok : TbOK NF Try.prog (tbl l3CrossTb) := tbl_cons (c := .data nSubC) nSub_spec l1rSub_ok (tbl_cons (c := .data nMulC) nMul_spec l1rMul_ok tbl_nil)

@[simp] theorem l3CrossTb1 : tbl l3CrossTb 52 = some (.data nSubC) := rfl
@[simp] theorem l3CrossTb2 : tbl l3CrossTb 54 = some (.data nMulC) := rfl
theorem l3Cross_spec : SpecD NF Try.prog 138 l3CrossC := by
  refine rd2 (mf := fun f => false) l3CrossTb_ok (fn := Try.f138) (by kernel_rfl) rfl (by kernel_rfl) (by kernel_rfl) ?_
  rintro ⟨a, b⟩ ⟨c, d⟩ hp
  have hp : qsz a + qsz b + qsz c + qsz d < LM := hp
  show awp _ _ _ _ (start _ ([.agg [nD a, nD b], .agg [nD c, nD d]].map .dat) []) (endK _ _ _ (([nD (crossQ a b c d)]).map .dat) [])
  simp [-D.isLit, Try.f138, crossQ]
  grind [qsz_add, qsz_sub, qsz_mul, qsz_neg, MX_val, LM_val]
theorem l3Cross_ok : callable Try.prog 138 = true := by kernel_rfl

/-! s.l3Turn -/
noncomputable def l3TurnC := ct3 EPn EPn EPn (fun p0 p1 p2 => qsz p0.1 + qsz p0.2 + qsz p1.1 + qsz p1.2 + qsz p2.1 + qsz p2.2 < 100000000) (fun p0 p1 p2 => [.lit (.int .i64 (turnQ p0.1 p0.2 p1.1 p1.2 p2.1 p2.2).num.sign)])
@[simp] theorem l3TurnC_at (a b : Rat) (c d : Rat) (e f : Rat) : l3TurnC [.agg [nD a, nD b], .agg [nD c, nD d], .agg [nD e, nD f]] = (qsz a + qsz b + qsz c + qsz d + qsz e + qsz f < 100000000, [.lit (.int .i64 (turnQ a b c d e f).num.sign)]) := ct3_at (a, b) (c, d) (e, f)
noncomputable def l3TurnTb : List (FuncId × Ct) := [(139, .data l3SubC), (138, .data l3CrossC), (137, .data nSignC)]
theorem l3TurnTb_ok : TbOK NF Try.prog (tbl l3TurnTb) := tbl_cons (c := .data l3SubC) l3Sub_spec l3Sub_ok (tbl_cons (c := .data l3CrossC) l3Cross_spec l3Cross_ok (tbl_cons (c := .data nSignC) nSign_spec l1rSign_ok tbl_nil))

@[simp] theorem l3TurnTb1 : tbl l3TurnTb 139 = some (.data l3SubC) := rfl
@[simp] theorem l3TurnTb2 : tbl l3TurnTb 138 = some (.data l3CrossC) := rfl
@[simp] theorem l3TurnTb3 : tbl l3TurnTb 137 = some (.data nSignC) := rfl
theorem l3Turn_spec : SpecD NF Try.prog 85 l3TurnC := by
  refine rd3 (mf := fun f => false) l3TurnTb_ok (fn := Try.f85) (by kernel_rfl) rfl (by kernel_rfl) (by kernel_rfl) ?_
  rintro ⟨a, b⟩ ⟨c, d⟩ ⟨e, f⟩ hp
  have hp : qsz a + qsz b + qsz c + qsz d + qsz e + qsz f < 100000000 := hp
  show awp _ _ _ _ (start _ ([.agg [nD a, nD b], .agg [nD c, nD d], .agg [nD e, nD f]].map .dat) []) (endK _ _ _ (([.lit (.int .i64 (turnQ a b c d e f).num.sign)]).map .dat) [])
  simp [-D.isLit, Try.f85, turnQ]
  grind [qsz_add, qsz_sub, qsz_mul, qsz_neg, MX_val, LM_val]
theorem l3Turn_ok : callable Try.prog 85 = true := by kernel_rfl

/-! s.CmpV -/
noncomputable def sCmpVC := ct2 EV EV (fun p0 p1 => ((I64 p0.1.1 ∧ I64 p0.1.2) ∧ I64 p0.2.1 ∧ I64 p0.2.2) ∧ ((I64 p1.1.1 ∧ I64 p1.1.2) ∧ I64 p1.2.1 ∧ I64 p1.2.2)) (fun p0 p1 => [.lit (.int .i64 (if (qOk p0.1.1 p0.1.2 ∧ qOk p0.2.1 p0.2.2) ∧ (qOk p1.1.1 p1.1.2 ∧ qOk p1.2.1 p1.2.2) then pcmp (Rat.divInt p0.1.1 p0.1.2) (Rat.divInt p0.2.1 p0.2.2) (Rat.divInt p1.1.1 p1.1.2) (Rat.divInt p1.2.1 p1.2.2) else 2))])
@[simp] theorem sCmpVC_at (a b c d : Int) (e f g h : Int) : sCmpVC [.agg [eQ a b, eQ c d], .agg [eQ e f, eQ g h]] = (((I64 a ∧ I64 b) ∧ I64 c ∧ I64 d) ∧ ((I64 e ∧ I64 f) ∧ I64 g ∧ I64 h), [.lit (.int .i64 (if (qOk a b ∧ qOk c d) ∧ (qOk e f ∧ qOk g h) then pcmp (Rat.divInt a b) (Rat.divInt c d) (Rat.divInt e f) (Rat.divInt g h) else 2))]) := ct2_at ((a, b), c, d) ((e, f), g, h)
noncomputable def sCmpVTb : List (FuncId × Ct) := [(79, .data sVOkC), (81, .data l3pC), (80, .data l3CmpC)]
theorem sCmpVTb_ok : TbOK NF Try.prog (tbl sCmpVTb) := tbl_cons (c := .data sVOkC) sVOk_spec sVOk_ok (tbl_cons (c := .data l3pC) l3p_spec l3p_ok (tbl_cons (c := .data l3CmpC) l3Cmp_spec l3Cmp_ok tbl_nil))

@[simp] theorem sCmpVTb1 : tbl sCmpVTb 79 = some (.data sVOkC) := rfl
@[simp] theorem sCmpVTb2 : tbl sCmpVTb 81 = some (.data l3pC) := rfl
@[simp] theorem sCmpVTb3 : tbl sCmpVTb 80 = some (.data l3CmpC) := rfl
theorem sCmpV_spec : SpecD NF Try.prog 34 sCmpVC := by
  refine rd2 (mf := fun f => false) sCmpVTb_ok (fn := Try.f34) (by kernel_rfl) rfl (by kernel_rfl) (by kernel_rfl) ?_
  rintro ⟨⟨a, b⟩, c, d⟩ ⟨⟨e, f⟩, g, h⟩ hp
  have hp : ((I64 a ∧ I64 b) ∧ I64 c ∧ I64 d) ∧ ((I64 e ∧ I64 f) ∧ I64 g ∧ I64 h) := hp
  show awp _ _ _ _ (start _ ([.agg [eQ a b, eQ c d], .agg [eQ e f, eQ g h]].map .dat) []) (endK _ _ _ (([.lit (.int .i64 (if (qOk a b ∧ qOk c d) ∧ (qOk e f ∧ qOk g h) then pcmp (Rat.divInt a b) (Rat.divInt c d) (Rat.divInt e f) (Rat.divInt g h) else 2))]).map .dat) [])
  obtain ⟨⟨⟨i1, i2⟩, i3, i4⟩, ⟨i5, i6⟩, i7, i8⟩ := hp
  by_cases h1 : qOk a b ∧ qOk c d
  · by_cases h2 : qOk e f ∧ qOk g h
    · have w1 := qOk_QI h1.1
      have w2 := qOk_QI h1.2
      have w3 := qOk_QI h2.1
      have w4 := qOk_QI h2.2
      have y1 := qOk_64 h1.1
      have y2 := qOk_64 h1.2
      have y3 := qOk_64 h2.1
      have y4 := qOk_64 h2.2
      have z1 := QI_qsz w1
      have z2 := QI_qsz w2
      have z3 := QI_qsz w3
      have z4 := QI_qsz w4
      have e1 : IntKind.i64.wrap (pcmp (Rat.divInt a b) (Rat.divInt c d) (Rat.divInt e f) (Rat.divInt g h)) = pcmp (Rat.divInt a b) (Rat.divInt c d) (Rat.divInt e f) (Rat.divInt g h) := i64_id _ (by have := pcmp_bd (Rat.divInt a b) (Rat.divInt c d) (Rat.divInt e f) (Rat.divInt g h); omega) (by have := pcmp_bd (Rat.divInt a b) (Rat.divInt c d) (Rat.divInt e f) (Rat.divInt g h); omega)
      have s1 : qsz (Rat.divInt a b) + qsz (Rat.divInt c d) + qsz (Rat.divInt e f) + qsz (Rat.divInt g h) < LM := by rw [LM_val]; omega
      simp [-D.isLit, Try.f34, i1, i2, i3, i4, i5, i6, i7, i8, h1.1, h1.2, h2.1, h2.2, w1, w2, w3, w4, y1, y2, y3, y4, e1, s1]
    · have h2' : (decide (qOk e f) && decide (qOk g h)) = false := by rw [← Bool.decide_and]; exact decide_eq_false h2
      simp [-D.isLit, Try.f34, i1, i2, i3, i4, i5, i6, i7, i8, h1.1, h1.2, h2, h2']
  · have h1' : (decide (qOk a b) && decide (qOk c d)) = false := by rw [← Bool.decide_and]; exact decide_eq_false h1
    simp [-D.isLit, Try.f34, i1, i2, i3, i4, i5, i6, i7, i8, h1, h1']
theorem sCmpV_ok : callable Try.prog 34 = true := by kernel_rfl

/-! s.Turn -/
noncomputable def sTurnC := ct3 EV EV EV (fun p0 p1 p2 => ((I64 p0.1.1 ∧ I64 p0.1.2) ∧ I64 p0.2.1 ∧ I64 p0.2.2) ∧ ((I64 p1.1.1 ∧ I64 p1.1.2) ∧ I64 p1.2.1 ∧ I64 p1.2.2) ∧ ((I64 p2.1.1 ∧ I64 p2.1.2) ∧ I64 p2.2.1 ∧ I64 p2.2.2)) (fun p0 p1 p2 => [.lit (.int .i64 (if (qOk p0.1.1 p0.1.2 ∧ qOk p0.2.1 p0.2.2) ∧ (qOk p1.1.1 p1.1.2 ∧ qOk p1.2.1 p1.2.2) ∧ (qOk p2.1.1 p2.1.2 ∧ qOk p2.2.1 p2.2.2) then (turnQ (Rat.divInt p0.1.1 p0.1.2) (Rat.divInt p0.2.1 p0.2.2) (Rat.divInt p1.1.1 p1.1.2) (Rat.divInt p1.2.1 p1.2.2) (Rat.divInt p2.1.1 p2.1.2) (Rat.divInt p2.2.1 p2.2.2)).num.sign else 2))])
@[simp] theorem sTurnC_at (a b c d : Int) (e f g h : Int) (i j k l : Int) : sTurnC [.agg [eQ a b, eQ c d], .agg [eQ e f, eQ g h], .agg [eQ i j, eQ k l]] = (((I64 a ∧ I64 b) ∧ I64 c ∧ I64 d) ∧ ((I64 e ∧ I64 f) ∧ I64 g ∧ I64 h) ∧ ((I64 i ∧ I64 j) ∧ I64 k ∧ I64 l), [.lit (.int .i64 (if (qOk a b ∧ qOk c d) ∧ (qOk e f ∧ qOk g h) ∧ (qOk i j ∧ qOk k l) then (turnQ (Rat.divInt a b) (Rat.divInt c d) (Rat.divInt e f) (Rat.divInt g h) (Rat.divInt i j) (Rat.divInt k l)).num.sign else 2))]) := ct3_at ((a, b), c, d) ((e, f), g, h) ((i, j), k, l)
noncomputable def sTurnTb : List (FuncId × Ct) := [(79, .data sVOkC), (81, .data l3pC), (85, .data l3TurnC)]
theorem sTurnTb_ok : TbOK NF Try.prog (tbl sTurnTb) := tbl_cons (c := .data sVOkC) sVOk_spec sVOk_ok (tbl_cons (c := .data l3pC) l3p_spec l3p_ok (tbl_cons (c := .data l3TurnC) l3Turn_spec l3Turn_ok tbl_nil))

@[simp] theorem sTurnTb1 : tbl sTurnTb 79 = some (.data sVOkC) := rfl
@[simp] theorem sTurnTb2 : tbl sTurnTb 81 = some (.data l3pC) := rfl
@[simp] theorem sTurnTb3 : tbl sTurnTb 85 = some (.data l3TurnC) := rfl
theorem sTurn_spec : SpecD NF Try.prog 37 sTurnC := by
  refine rd3 (mf := fun f => false) sTurnTb_ok (fn := Try.f37) (by kernel_rfl) rfl (by kernel_rfl) (by kernel_rfl) ?_
  rintro ⟨⟨a, b⟩, c, d⟩ ⟨⟨e, f⟩, g, h⟩ ⟨⟨i, j⟩, k, l⟩ hp
  have hp : ((I64 a ∧ I64 b) ∧ I64 c ∧ I64 d) ∧ ((I64 e ∧ I64 f) ∧ I64 g ∧ I64 h) ∧ ((I64 i ∧ I64 j) ∧ I64 k ∧ I64 l) := hp
  show awp _ _ _ _ (start _ ([.agg [eQ a b, eQ c d], .agg [eQ e f, eQ g h], .agg [eQ i j, eQ k l]].map .dat) []) (endK _ _ _ (([.lit (.int .i64 (if (qOk a b ∧ qOk c d) ∧ (qOk e f ∧ qOk g h) ∧ (qOk i j ∧ qOk k l) then (turnQ (Rat.divInt a b) (Rat.divInt c d) (Rat.divInt e f) (Rat.divInt g h) (Rat.divInt i j) (Rat.divInt k l)).num.sign else 2))]).map .dat) [])
  obtain ⟨⟨⟨i1, i2⟩, i3, i4⟩, ⟨⟨i5, i6⟩, i7, i8⟩, ⟨i9, i10⟩, i11, i12⟩ := hp
  by_cases h1 : qOk a b ∧ qOk c d
  · by_cases h2 : qOk e f ∧ qOk g h
    · by_cases h3 : qOk i j ∧ qOk k l
      · have w1 := qOk_QI h1.1
        have w2 := qOk_QI h1.2
        have w3 := qOk_QI h2.1
        have w4 := qOk_QI h2.2
        have w5 := qOk_QI h3.1
        have w6 := qOk_QI h3.2
        have y1 := qOk_64 h1.1
        have y2 := qOk_64 h1.2
        have y3 := qOk_64 h2.1
        have y4 := qOk_64 h2.2
        have y5 := qOk_64 h3.1
        have y6 := qOk_64 h3.2
        have z1 := QI_qsz w1
        have z2 := QI_qsz w2
        have z3 := QI_qsz w3
        have z4 := QI_qsz w4
        have z5 := QI_qsz w5
        have z6 := QI_qsz w6
        have e1 : IntKind.i64.wrap (turnQ (Rat.divInt a b) (Rat.divInt c d) (Rat.divInt e f) (Rat.divInt g h) (Rat.divInt i j) (Rat.divInt k l)).num.sign = (turnQ (Rat.divInt a b) (Rat.divInt c d) (Rat.divInt e f) (Rat.divInt g h) (Rat.divInt i j) (Rat.divInt k l)).num.sign := i64_id _ (by have := sign_bd (turnQ (Rat.divInt a b) (Rat.divInt c d) (Rat.divInt e f) (Rat.divInt g h) (Rat.divInt i j) (Rat.divInt k l)).num; omega) (by have := sign_bd (turnQ (Rat.divInt a b) (Rat.divInt c d) (Rat.divInt e f) (Rat.divInt g h) (Rat.divInt i j) (Rat.divInt k l)).num; omega)
        have s1 : qsz (Rat.divInt a b) + qsz (Rat.divInt c d) + qsz (Rat.divInt e f) + qsz (Rat.divInt g h) + qsz (Rat.divInt i j) + qsz (Rat.divInt k l) < 100000000 := by omega
        simp [-D.isLit, Try.f37, i1, i2, i3, i4, i5, i6, i7, i8, i9, i10, i11, i12, h1.1, h1.2, h2.1, h2.2, h3.1, h3.2, w1, w2, w3, w4, w5, w6, y1, y2, y3, y4, y5, y6, e1, s1]
      · have h3' : (decide (qOk i j) && decide (qOk k l)) = false := by rw [← Bool.decide_and]; exact decide_eq_false h3
        simp [-D.isLit, Try.f37, i1, i2, i3, i4, i5, i6, i7, i8, i9, i10, i11, i12, h1.1, h1.2, h2.1, h2.2, h3, h3']
    · have h2' : (decide (qOk e f) && decide (qOk g h)) = false := by rw [← Bool.decide_and]; exact decide_eq_false h2
      simp [-D.isLit, Try.f37, i1, i2, i3, i4, i5, i6, i7, i8, h1.1, h1.2, h2, h2']
  · have h1' : (decide (qOk a b) && decide (qOk c d)) = false := by rw [← Bool.decide_and]; exact decide_eq_false h1
    simp [-D.isLit, Try.f37, i1, i2, i3, i4, i5, i6, i7, i8, h1, h1']
theorem sTurn_ok : callable Try.prog 37 = true := by kernel_rfl

/-! l.toV -/
noncomputable def toVC := ct1 EV (fun p0 => True) (fun p0 => [.agg [eQ p0.1.1 p0.1.2, eQ p0.2.1 p0.2.2]])
@[simp] theorem toVC_at (a b c d : Int) : toVC [.agg [eQ a b, eQ c d]] = (True, [.agg [eQ a b, eQ c d]]) := ct1_at ((a, b), c, d)
noncomputable def toVTb : List (FuncId × Ct) := [(18, .data toQC)]
theorem toVTb_ok {N : NR} : TbOK N Try.prog (tbl toVTb) := tbl_cons (c := .data toQC) toQ_spec toQ_ok tbl_nil

@[simp] theorem toVTb1 : tbl toVTb 18 = some (.data toQC) := rfl
theorem toV_spec {N : NR} : SpecD N Try.prog 35 toVC := by
  refine rd1 (mf := fun f => false) toVTb_ok (fn := Try.f35) (by kernel_rfl) rfl (by kernel_rfl) (by kernel_rfl) ?_
  rintro ⟨⟨a, b⟩, c, d⟩ hp
  have hp : True := hp
  show awp _ _ _ _ (start _ ([.agg [eQ a b, eQ c d]].map .dat) []) (endK _ _ _ (([.agg [eQ a b, eQ c d]]).map .dat) [])
  simp [-D.isLit, Try.f35]
theorem toV_ok : callable Try.prog 35 = true := by kernel_rfl

/-! l.FnExactCmpV -/
noncomputable def lwCmpVC := ct2 EV EV (fun p0 p1 => ((I64 p0.1.1 ∧ I64 p0.1.2) ∧ I64 p0.2.1 ∧ I64 p0.2.2) ∧ ((I64 p1.1.1 ∧ I64 p1.1.2) ∧ I64 p1.2.1 ∧ I64 p1.2.2)) (fun p0 p1 => [.lit (.bool true)])
@[simp] theorem lwCmpVC_at (a b c d : Int) (e f g h : Int) : lwCmpVC [.agg [eQ a b, eQ c d], .agg [eQ e f, eQ g h]] = (((I64 a ∧ I64 b) ∧ I64 c ∧ I64 d) ∧ ((I64 e ∧ I64 f) ∧ I64 g ∧ I64 h), [.lit (.bool true)]) := ct2_at ((a, b), c, d) ((e, f), g, h)
noncomputable def lwCmpVTb : List (FuncId × Ct) := [(35, .data toVC), (36, .data iCmpVC), (34, .data sCmpVC)]
theorem lwCmpVTb_ok : TbOK NF Try.prog (tbl lwCmpVTb) := tbl_cons (c := .data toVC) toV_spec toV_ok (tbl_cons (c := .data iCmpVC) iCmpV_spec iCmpV_ok (tbl_cons (c := .data sCmpVC) sCmpV_spec sCmpV_ok tbl_nil))

@[simp] theorem lwCmpVTb1 : tbl lwCmpVTb 35 = some (.data toVC) := rfl
@[simp] theorem lwCmpVTb2 : tbl lwCmpVTb 36 = some (.data iCmpVC) := rfl
@[simp] theorem lwCmpVTb3 : tbl lwCmpVTb 34 = some (.data sCmpVC) := rfl
theorem lwCmpV_spec : SpecD NF Try.prog 12 lwCmpVC := by
  refine rd2 (mf := fun f => false) lwCmpVTb_ok (fn := Try.f12) (by kernel_rfl) rfl (by kernel_rfl) (by kernel_rfl) ?_
  rintro ⟨⟨a, b⟩, c, d⟩ ⟨⟨e, f⟩, g, h⟩ hp
  have hp : ((I64 a ∧ I64 b) ∧ I64 c ∧ I64 d) ∧ ((I64 e ∧ I64 f) ∧ I64 g ∧ I64 h) := hp
  show awp _ _ _ _ (start _ ([.agg [eQ a b, eQ c d], .agg [eQ e f, eQ g h]].map .dat) []) (endK _ _ _ (([.lit (.bool true)]).map .dat) [])
  simp [-D.isLit, Try.f12, hp]
theorem lwCmpV_ok : callable Try.prog 12 = true := by kernel_rfl

/-! l.FnExactTurn -/
noncomputable def lwTurnC := ct3 EV EV EV (fun p0 p1 p2 => ((I64 p0.1.1 ∧ I64 p0.1.2) ∧ I64 p0.2.1 ∧ I64 p0.2.2) ∧ ((I64 p1.1.1 ∧ I64 p1.1.2) ∧ I64 p1.2.1 ∧ I64 p1.2.2) ∧ ((I64 p2.1.1 ∧ I64 p2.1.2) ∧ I64 p2.2.1 ∧ I64 p2.2.2)) (fun p0 p1 p2 => [.lit (.bool true)])
@[simp] theorem lwTurnC_at (a b c d : Int) (e f g h : Int) (i j k l : Int) : lwTurnC [.agg [eQ a b, eQ c d], .agg [eQ e f, eQ g h], .agg [eQ i j, eQ k l]] = (((I64 a ∧ I64 b) ∧ I64 c ∧ I64 d) ∧ ((I64 e ∧ I64 f) ∧ I64 g ∧ I64 h) ∧ ((I64 i ∧ I64 j) ∧ I64 k ∧ I64 l), [.lit (.bool true)]) := ct3_at ((a, b), c, d) ((e, f), g, h) ((i, j), k, l)
noncomputable def lwTurnTb : List (FuncId × Ct) := [(35, .data toVC), (38, .data iTurnC), (37, .data sTurnC)]
theorem lwTurnTb_ok : TbOK NF Try.prog (tbl lwTurnTb) := tbl_cons (c := .data toVC) toV_spec toV_ok (tbl_cons (c := .data iTurnC) iTurn_spec iTurn_ok (tbl_cons (c := .data sTurnC) sTurn_spec sTurn_ok tbl_nil))

@[simp] theorem lwTurnTb1 : tbl lwTurnTb 35 = some (.data toVC) := rfl
@[simp] theorem lwTurnTb2 : tbl lwTurnTb 38 = some (.data iTurnC) := rfl
@[simp] theorem lwTurnTb3 : tbl lwTurnTb 37 = some (.data sTurnC) := rfl
theorem lwTurn_spec : SpecD NF Try.prog 13 lwTurnC := by
  refine rd3 (mf := fun f => false) lwTurnTb_ok (fn := Try.f13) (by kernel_rfl) rfl (by kernel_rfl) (by kernel_rfl) ?_
  rintro ⟨⟨a, b⟩, c, d⟩ ⟨⟨e, f⟩, g, h⟩ ⟨⟨i, j⟩, k, l⟩ hp
  have hp : ((I64 a ∧ I64 b) ∧ I64 c ∧ I64 d) ∧ ((I64 e ∧ I64 f) ∧ I64 g ∧ I64 h) ∧ ((I64 i ∧ I64 j) ∧ I64 k ∧ I64 l) := hp
  show awp _ _ _ _ (start _ ([.agg [eQ a b, eQ c d], .agg [eQ e f, eQ g h], .agg [eQ i j, eQ k l]].map .dat) []) (endK _ _ _ (([.lit (.bool true)]).map .dat) [])
  simp [-D.isLit, Try.f13, hp]
theorem lwTurn_ok : callable Try.prog 13 = true := by kernel_rfl
theorem lwCmpV_calls (a b c d e f g h : Int) (ha : (Lit.int .i64 a).wf = true) (hb : (Lit.int .i64 b).wf = true) (hc : (Lit.int .i64 c).wf = true) (hd : (Lit.int .i64 d).wf = true) (he : (Lit.int .i64 e).wf = true) (hf : (Lit.int .i64 f).wf = true) (hg : (Lit.int .i64 g).wf = true) (hh : (Lit.int .i64 h).wf = true) (w : World) :
    Calls Try.prog 12 #[.agg #[.int .i64 a, .int .i64 b, .int .i64 c, .int .i64 d], .agg #[.int .i64 e, .int .i64 f, .int .i64 g, .int .i64 h]] w fun e w' => e = .returned (.bool true) ∧ Below w.heap.size w w' :=
  law_calls lwCmpV_spec (ds := [.agg [eQ a b, eQ c d], .agg [eQ e f, eQ g h]]) (by rw [lwCmpVC_at]; exact ⟨⟨⟨wf64 ha, wf64 hb⟩, wf64 hc, wf64 hd⟩, ⟨⟨wf64 he, wf64 hf⟩, wf64 hg, wf64 hh⟩⟩) (by rw [lwCmpVC_at]; rfl) (vs := [.agg #[.int .i64 a, .int .i64 b, .int .i64 c, .int .i64 d], .agg #[.int .i64 e, .int .i64 f, .int .i64 g, .int .i64 h]]) (repVs_cons (repV_flat (cs := [.int .i64 a, .int .i64 b, .int .i64 c, .int .i64 d]) rfl (fun v hv => by simp at hv; rcases hv with rfl | rfl | rfl | rfl <;> rfl) rfl) (repVs_cons (repV_flat (cs := [.int .i64 e, .int .i64 f, .int .i64 g, .int .i64 h]) rfl (fun v hv => by simp at hv; rcases hv with rfl | rfl | rfl | rfl <;> rfl) rfl) repVs_nil))
theorem lwTurn_calls (a b c d e f g h i j k l : Int) (ha : (Lit.int .i64 a).wf = true) (hb : (Lit.int .i64 b).wf = true) (hc : (Lit.int .i64 c).wf = true) (hd : (Lit.int .i64 d).wf = true) (he : (Lit.int .i64 e).wf = true) (hf : (Lit.int .i64 f).wf = true) (hg : (Lit.int .i64 g).wf = true) (hh : (Lit.int .i64 h).wf = true) (hi : (Lit.int .i64 i).wf = true) (hj : (Lit.int .i64 j).wf = true) (hk : (Lit.int .i64 k).wf = true) (hl : (Lit.int .i64 l).wf = true) (w : World) :
    Calls Try.prog 13 #[.agg #[.int .i64 a, .int .i64 b, .int .i64 c, .int .i64 d], .agg #[.int .i64 e, .int .i64 f, .int .i64 g, .int .i64 h], .agg #[.int .i64 i, .int .i64 j, .int .i64 k, .int .i64 l]] w fun e w' => e = .returned (.bool true) ∧ Below w.heap.size w w' :=
  law_calls lwTurn_spec (ds := [.agg [eQ a b, eQ c d], .agg [eQ e f, eQ g h], .agg [eQ i j, eQ k l]]) (by rw [lwTurnC_at]; exact ⟨⟨⟨wf64 ha, wf64 hb⟩, wf64 hc, wf64 hd⟩, ⟨⟨wf64 he, wf64 hf⟩, wf64 hg, wf64 hh⟩, ⟨⟨wf64 hi, wf64 hj⟩, wf64 hk, wf64 hl⟩⟩) (by rw [lwTurnC_at]; rfl) (vs := [.agg #[.int .i64 a, .int .i64 b, .int .i64 c, .int .i64 d], .agg #[.int .i64 e, .int .i64 f, .int .i64 g, .int .i64 h], .agg #[.int .i64 i, .int .i64 j, .int .i64 k, .int .i64 l]]) (repVs_cons (repV_flat (cs := [.int .i64 a, .int .i64 b, .int .i64 c, .int .i64 d]) rfl (fun v hv => by simp at hv; rcases hv with rfl | rfl | rfl | rfl <;> rfl) rfl) (repVs_cons (repV_flat (cs := [.int .i64 e, .int .i64 f, .int .i64 g, .int .i64 h]) rfl (fun v hv => by simp at hv; rcases hv with rfl | rfl | rfl | rfl <;> rfl) rfl) (repVs_cons (repV_flat (cs := [.int .i64 i, .int .i64 j, .int .i64 k, .int .i64 l]) rfl (fun v hv => by simp at hv; rcases hv with rfl | rfl | rfl | rfl <;> rfl) rfl) repVs_nil)))
end Go.Proofs.Ytledfadnhcdflaa.Ae
