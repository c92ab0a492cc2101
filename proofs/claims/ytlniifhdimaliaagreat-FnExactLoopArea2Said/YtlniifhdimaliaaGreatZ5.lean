/- Texts put together, in the order in which they build: S2, L65, L66, L67, L68, L69, S3, L70, S4, S5, T1, T2, T3, T4, T5, Q2, T6. No condition. -/
import Derived.Test.YtlniifhdimaliaaGreatZ4
import Derived.Below
import Derived.OpenShut
set_option linter.unusedVariables false
set_option linter.unusedSimpArgs false
/-! The reference's fractions as opaque numbers. No condition. -/
namespace Go.Proofs.YtlniifhdimaliaaGreat.Ae
open Go Go.RowKit Go.Proofs.YtlniifhdimaliaaGreat.Dig

mutual
/-- No opaque number is in it. -/
def D.pl : D → Bool
  | .lit _ => true
  | .num _ _ => false
  | .agg ds => D.pls ds
  | .sl _ xs => D.pls xs
  | .ptr d => D.pl d
def D.pls : List D → Bool
  | [] => true
  | d :: ds => D.pl d && D.pls ds
end
theorem pls_at : ∀ (ds : List D) (i : Nat) (d : D), D.pls ds = true → ds[i]? = some d → d.pl = true
  | [], i, d, _, h => by simp at h
  | x :: ds, 0, d, hp, h => by
    simp at h
    subst h
    simp only [D.pls, Bool.and_eq_true] at hp
    exact hp.1
  | x :: ds, i + 1, d, hp, h => by
    simp only [D.pls, Bool.and_eq_true] at hp
    exact pls_at ds i d hp.2 (by simpa using h)
theorem Rep.plain {N N' : NR} {F : Nat → Prop} {w : World} {d : D} {cs : List Value} (h : Rep N F w d cs) (hp : d.pl = true) : Rep N' F w d cs := by
  induction h with
  | lit h => exact .lit h
  | num h => simp [D.pl] at hp
  | agg hl h ih =>
    simp only [D.pl] at hp
    exact .agg hl (fun i d cs h1 h2 => ih i d cs h1 h2 (pls_at _ i d hp h1))
  | sl A c es hc hm ha h ih =>
    simp only [D.pl] at hp
    exact .sl A c es hc hm ha (fun i d h1 => ih i d h1 (pls_at _ i d hp h1))
  | ptr b off es hb hc h ih =>
    simp only [D.pl] at hp
    exact .ptr b off es hb hc (ih hp)
def NN : NR := ⟨fun _ _ _ _ _ => False, fun h => h.elim, fun h => h.elim, fun _ h => h.elim⟩
/-- A number of the kind 1 is a fraction of the reference with that worth. -/
def NF : NR where
  R k F w q cs := k = 1 ∧ ∃ r, WV r ∧ r.val = q ∧ Rep NN F w (eR r) cs
  len := by
    rintro k F w q cs ⟨rfl, r, _, _, h⟩
    rw [h.len, eR_size]; rfl
  one := by
    rintro k F w q cs ⟨rfl, r, _, _, h⟩
    exact h.one
  mono := by
    rintro k F F' w w' q cs hF ⟨rfl, r, h1, h2, h⟩
    exact ⟨rfl, r, h1, h2, h.mono hF⟩
theorem pls_dg : ∀ l : List Nat, D.pls (l.map dg) = true
  | [] => rfl
  | x :: l => by simp only [List.map_cons, D.pls, pls_dg l, dg, D.pl, Bool.and_self]
theorem pl_eZ (z : Int) : (eZ z).pl = true := by
  simp only [eZ, eM, eW, D.pl, D.pls, pls_dg, Bool.and_self]
theorem pl_eR (r : SR) : (eR r).pl = true := by
  cases r <;> simp [eR, D.pl, D.pls, i64D, pl_eZ]

inductive Cv : D → D → Prop
  | same (d : D) (h : ∀ k q, d ≠ .num k q) : Cv d d
  | num (r : SR) (h : WV r) : Cv (.num 1 r.val) (eR r)
def CvL : List D → List D → Prop
  | [], [] => True
  | x :: a, y :: b => Cv x y ∧ CvL a b
  | _, _ => False
theorem cv_in {F : Nat → Prop} {w : World} {d : D} {v : Value} (h : RepV NF F w d v) : ∃ d', Cv d d' ∧ RepV NF F w d' v := by
  cases d with
  | num k q =>
    obtain ⟨cs, hr, hv⟩ := h
    cases hr with
    | num hr =>
      obtain ⟨rfl, r, h1, rfl, h3⟩ := hr
      refine ⟨eR r, .num r h1, cs, h3.plain (pl_eR r), ?_⟩
      rw [hv]
      unfold mkV
      rw [eR_isAgg]
      rfl
  | _ => exact ⟨_, .same _ (fun k q e => by cases e), h⟩
theorem cv_out {F : Nat → Prop} {w : World} {d d' : D} {v : Value} (hc : Cv d d') (h : RepV NF F w d' v) : RepV NF F w d v := by
  cases hc with
  | same _ _ => exact h
  | num r hw =>
    obtain ⟨cs, hr, hv⟩ := h
    refine ⟨cs, .num ⟨rfl, r, hw, rfl, hr.plain (pl_eR r)⟩, ?_⟩
    rw [hv]
    unfold mkV
    rw [eR_isAgg]
    rfl
theorem cvL_in {F : Nat → Prop} {w : World} : ∀ (ds : List D) (vs : List Value), RepVs NF F w ds vs → ∃ ds', CvL ds ds' ∧ RepVs NF F w ds' vs
  | [], vs, h => ⟨[], trivial, h⟩
  | d :: ds, [], h => by have := h.1; simp at this
  | d :: ds, v :: vs, h => by
    obtain ⟨d', c1, r1⟩ := cv_in (h.2 0 d v rfl rfl)
    obtain ⟨ds', c2, r2⟩ := cvL_in ds vs ⟨by simpa using h.1, fun i d v h1 h2 => h.2 (i + 1) d v (by simpa using h1) (by simpa using h2)⟩
    refine ⟨d' :: ds', ⟨c1, c2⟩, by simp only [List.length_cons]; rw [r2.1], fun i e u h1 h2 => ?_⟩
    cases i with
    | zero =>
      simp only [List.getElem?_cons_zero, Option.some.injEq] at h1 h2
      subst h1 h2
      exact r1
    | succ i => exact r2.2 i e u (by simpa using h1) (by simpa using h2)
theorem cvL_out {F : Nat → Prop} {w : World} : ∀ (ds ds' : List D) (vs : List Value), CvL ds ds' → RepVs NF F w ds' vs → RepVs NF F w ds vs
  | [], [], vs, _, h => h
  | d :: ds, d' :: ds', [], _, h => by have := h.1; simp at this
  | d :: ds, d' :: ds', v :: vs, hc, h => by
    have r1 := cv_out hc.1 (h.2 0 d' v rfl rfl)
    have r2 := cvL_out ds ds' vs hc.2 ⟨by simpa using h.1, fun i d v h1 h2 => h.2 (i + 1) d v (by simpa using h1) (by simpa using h2)⟩
    refine ⟨by simp only [List.length_cons]; rw [r2.1], fun i e u h1 h2 => ?_⟩
    cases i with
    | zero =>
      simp only [List.getElem?_cons_zero, Option.some.injEq] at h1 h2
      subst h1 h2
      exact r1
    | succ i => exact r2.2 i e u (by simpa using h1) (by simpa using h2)
  | [], _ :: _, _, hc, _ => hc.elim
  | _ :: _, [], _, hc, _ => hc.elim
theorem cvR_out {F : Nat → Prop} {w : World} {ds ds' : List D} {v : Value} (hc : CvL ds ds') (h : RepRes NF F w ds' v) : RepRes NF F w ds v := by
  cases ds with
  | nil =>
    cases ds' with
    | nil => exact h
    | cons => exact hc.elim
  | cons d t =>
    cases ds' with
    | nil => exact hc.elim
    | cons d' t' =>
      cases t with
      | nil =>
        cases t' with
        | nil => exact cv_out hc.1 h
        | cons => exact hc.2.elim
      | cons e t =>
        cases t' with
        | nil => exact hc.2.elim
        | cons e' t' =>
          obtain ⟨vs, h1, h2⟩ := h
          exact ⟨vs, h1, cvL_out _ _ _ hc h2⟩
/-- A contract over the reference's fractions is one over opaque numbers. -/
theorem specD_num {P : Program} {f : FuncId} {g g' : List D → Prop × List D} (h : SpecD NF P f g) (hg : ∀ ds', (g' ds').1 → ∀ ds, CvL ds' ds → (g ds).1 ∧ CvL (g' ds').2 (g ds).2) : SpecD NF P f g' := by
  intro ds' hp F w vs hF hr
  obtain ⟨ds, c, hr'⟩ := cvL_in ds' vs hr
  obtain ⟨h1, h2⟩ := hg ds' hp ds c
  exact (h ds h1 F w vs hF hr').mono fun e w' ⟨v, he, hv, hfr⟩ => ⟨v, he, cvR_out h2 hv, hfr⟩
/-- The same for contracts over inputs of a kind. -/
theorem specD_num' {P : Program} {f : FuncId} {g : List D → Prop × List D} {β : Type} {e' : β → List D} {pre' : β → Prop} {post' : β → List D} (h : SpecD NF P f g) (hg : ∀ b, pre' b → ∀ ds, CvL (e' b) ds → (g ds).1 ∧ CvL (post' b) (g ds).2) : SpecD NF P f (ctD e' pre' post') := by
  refine specD_num h (fun ds' hp ds hc => ?_)
  obtain ⟨b, rfl, h1, h2⟩ := ctD_pre hp
  rw [h2]
  exact hg b h1 ds hc
theorem cv_num {q : Rat} {d : D} (h : Cv (.num 1 q) d) : ∃ r, WV r ∧ r.val = q ∧ d = eR r := by
  generalize hx : D.num 1 q = x at h
  cases h with
  | same _ hh => exact absurd hx.symm (hh 1 q)
  | num r hw =>
    injection hx with _ hx
    exact ⟨r, hw, hx.symm, rfl⟩
theorem cv_same {d d' : D} (hd : ∀ k q, d ≠ .num k q) (h : Cv d d') : d' = d := by
  cases h with
  | same _ _ => rfl
  | num r _ => exact absurd rfl (hd 1 r.val)
theorem cv_to {r : SR} {q : Rat} (h : WV r ∧ r.val = q) : Cv (.num 1 q) (eR r) := by
  obtain ⟨h1, rfl⟩ := h
  exact .num r h1
theorem cv1 {q : Rat} {ds : List D} (h : CvL [.num 1 q] ds) : ∃ r, WV r ∧ r.val = q ∧ ds = [eR r] := by
  cases ds with
  | nil => exact h.elim
  | cons d t =>
    cases t with
    | cons e t => exact h.2.elim
    | nil =>
      obtain ⟨r, h1, h2, rfl⟩ := cv_num h.1
      exact ⟨r, h1, h2, rfl⟩
theorem cv2 {q p : Rat} {ds : List D} (h : CvL [.num 1 q, .num 1 p] ds) : ∃ r s, WV r ∧ r.val = q ∧ WV s ∧ s.val = p ∧ ds = [eR r, eR s] := by
  cases ds with
  | nil => exact h.elim
  | cons d t =>
    obtain ⟨r, h1, h2, rfl⟩ := cv_num h.1
    obtain ⟨s, h3, h4, rfl⟩ := cv1 h.2
    exact ⟨r, s, h1, h2, h3, h4, rfl⟩
theorem cvs1 {d : D} {ds : List D} (hd : ∀ k q, d ≠ .num k q) (h : CvL [d] ds) : ds = [d] := by
  cases ds with
  | nil => exact h.elim
  | cons e t =>
    cases t with
    | cons e t => exact h.2.elim
    | nil => rw [cv_same hd h.1]
theorem cvs2 {d e : D} {ds : List D} (hd : ∀ k q, d ≠ .num k q) (he : ∀ k q, e ≠ .num k q) (h : CvL [d, e] ds) : ds = [d, e] := by
  cases ds with
  | nil => exact h.elim
  | cons x t => rw [cv_same hd h.1, cvs1 he h.2]
theorem cvo1 {d : D} (hd : ∀ k q, d ≠ .num k q) : CvL [d] [d] := ⟨.same d hd, trivial⟩
theorem cvo2 {d e : D} (hd : ∀ k q, d ≠ .num k q) (he : ∀ k q, e ≠ .num k q) : CvL [d, e] [d, e] := ⟨.same d hd, .same e he, trivial⟩

def nD (q : Rat) : D := .num 1 q
@[simp] theorem nD_size (q : Rat) : (nD q).size = 3 := rfl
@[simp] theorem nD_agg (q : Rat) : (nD q).isAgg = true := rfl
@[simp] theorem nD_lit (q : Rat) : (nD q).isLit = false := rfl
theorem nD_inj {a b : Rat} (h : nD a = nD b) : a = b := by unfold nD at h; injection h
def f1E (p : Q1) : List D := [nD p.a]
theorem f1E_inj (p q : Q1) (h : f1E p = f1E q) : p = q := by
  obtain ⟨a⟩ := p; obtain ⟨b⟩ := q
  simp only [f1E, List.cons.injEq, and_true] at h
  rw [nD_inj h]
def f2E (p : Q2) : List D := [nD p.a, nD p.b]
theorem f2E_inj (p q : Q2) (h : f2E p = f2E q) : p = q := by
  obtain ⟨a, b⟩ := p; obtain ⟨c, d⟩ := q
  simp only [f2E, List.cons.injEq, and_true] at h
  rw [nD_inj h.1, nD_inj h.2]
end Go.Proofs.YtlniifhdimaliaaGreat.Ae

/-! impl.rat: what it holds; little, big, fit, ri, rq, low, neg. No condition. -/
namespace Go.Proofs.YtlniifhdimaliaaGreat.Ae
open Go Go.RowKit Go.Proofs.YtlniifhdimaliaaGreat.Dig
variable {N : NR}

def smallQ (q : Rat) : Prop := q.num.natAbs < 9223372036854775808 ∧ q.den < 9223372036854775808
instance (q : Rat) : Decidable (smallQ q) := by unfold smallQ; infer_instance
/-- A fraction as the program holds it. -/
def eRat (q : Rat) : D := if smallQ q then .agg [i64D q.num, i64D q.den, .lit (.pointer none)] else .agg [i64D 0, i64D 0, .ptr (eBR q)]
theorem eRat_s {q : Rat} (h : smallQ q) : eRat q = .agg [i64D q.num, i64D q.den, .lit (.pointer none)] := by unfold eRat; rw [if_pos h]
theorem eRat_b {q : Rat} (h : ¬ smallQ q) : eRat q = .agg [i64D 0, i64D 0, .ptr (eBR q)] := by unfold eRat; rw [if_neg h]
@[simp] theorem eRat_size (q : Rat) : (eRat q).size = 3 := by unfold eRat; split <;> rfl
@[simp] theorem eRat_agg (q : Rat) : (eRat q).isAgg = true := by unfold eRat; split <;> rfl
@[simp] theorem eRat_lit (q : Rat) : (eRat q).isLit = false := by unfold eRat; split <;> rfl
theorem eRat_inj {a b : Rat} (h : eRat a = eRat b) : a = b := by
  by_cases ha : smallQ a <;> by_cases hb : smallQ b
  · rw [eRat_s ha, eRat_s hb] at h
    simp only [D.agg.injEq, List.cons.injEq, and_true, i64D, D.lit.injEq, Value.int.injEq, true_and] at h
    exact Rat.ext h.1 (by omega)
  · rw [eRat_s ha, eRat_b hb] at h; simp at h
  · rw [eRat_b ha, eRat_s hb] at h; simp at h
  · rw [eRat_b ha, eRat_b hb] at h
    simp only [D.agg.injEq, List.cons.injEq, and_true, true_and, D.ptr.injEq] at h
    exact eBR_inj h
def r1E (p : Q1) : List D := [eRat p.a]
theorem r1E_inj (p q : Q1) (h : r1E p = r1E q) : p = q := by
  obtain ⟨a⟩ := p; obtain ⟨b⟩ := q
  simp only [r1E, List.cons.injEq, and_true] at h
  rw [eRat_inj h]
def r2E (p : Q2) : List D := [eRat p.a, eRat p.b]
theorem r2E_inj (p q : Q2) (h : r2E p = r2E q) : p = q := by
  obtain ⟨a, b⟩ := p; obtain ⟨c, d⟩ := q
  simp only [r2E, List.cons.injEq, and_true] at h
  rw [eRat_inj h.1, eRat_inj h.2]
def boolD (b : Bool) : D := .lit (.bool b)
theorem smallQ_qsz {q : Rat} (h : smallQ q) : qsz q ≤ 2 := by
  unfold smallQ at h
  exact Nat.max_le.2 ⟨ln_i64 (by omega), ln_i64 (by omega)⟩

/-! little -/
def lit31 (q : Rat) : Prop := q.num.natAbs < 2147483648 ∧ q.den < 2147483648
instance (q : Rat) : Decidable (lit31 q) := by unfold lit31; infer_instance
theorem lit31_small {q : Rat} (h : lit31 q) : smallQ q := ⟨by unfold lit31 at h; omega, by unfold lit31 at h; omega⟩
noncomputable def littleC := ctD r1E (fun p => True) (fun p => [boolD (decide (lit31 p.a))])
theorem littleC_at (a : Rat) : littleC [eRat a] = (True, [boolD (decide (lit31 a))]) := ctD_at r1E_inj ⟨a⟩
theorem little_spec : SpecD N Tryz.prog 135 littleC := by
  refine rdD (mf := fun f => false) tbl_nil (fn := Tryz.f135) (by kernel_rfl) rfl (by kernel_rfl) ?_
  rintro ⟨a⟩ _
  refine ⟨by show 1 ≤ 21; decide, ?_⟩
  simp only [r1E, Tryz.f135, boolD]
  by_cases ha : smallQ a
  · rw [eRat_s ha]
    have e : decide (lit31 a) = (decide (-2147483648 < a.num) && (decide (a.num < 2147483648) && decide ((a.den : Int) < 2147483648))) := by
      rw [← Bool.decide_and, ← Bool.decide_and]
      congr 1
      apply propext
      unfold lit31
      omega
    rw [e]
    generalize a.num = n
    generalize (a.den : Int) = d
    by_cases h1 : -2147483648 < n <;> by_cases h2 : n < 2147483648 <;> by_cases h3 : d < 2147483648 <;> simp [i64D, h1, h2, h3]
  · have e : decide (lit31 a) = false := by
      rw [decide_eq_false_iff_not]
      exact fun h => ha (lit31_small h)
    rw [eRat_b ha, e]
    simp [i64D]
theorem little_ok : callable Tryz.prog 135 = true := by kernel_rfl

/-! big -/
noncomputable def bigIC := ctD r1E (fun p => True) (fun p => [.ptr (eBR p.a)])
theorem bigIC_at (a : Rat) : bigIC [eRat a] = (True, [.ptr (eBR a)]) := ctD_at r1E_inj ⟨a⟩
noncomputable def bigITb : List (FuncId × Ct) := [(153, .data nbrC)]
theorem bigITb_ok : TbOK N Tryz.prog (tbl bigITb) := tbl_cons (c := .data nbrC) newBigRat_spec newBigRat_ok tbl_nil

@[simp] theorem bigITb1 : tbl bigITb 153 = some (.data nbrC) := rfl
theorem big_spec : SpecD N Tryz.prog 124 bigIC := by
  refine rdD (mf := fun f => false) bigITb_ok (fn := Tryz.f124) (by kernel_rfl) rfl (by kernel_rfl) ?_
  rintro ⟨a⟩ _
  refine ⟨by show 1 ≤ 13; decide, ?_⟩
  simp only [r1E, Tryz.f124]
  by_cases ha : smallQ a
  · rw [eRat_s ha]
    have c1 := nbrC_at a.num a.den
    unfold smallQ at ha
    have h1 : I64 a.num := by unfold I64; omega
    have h2 : I64 (a.den : Int) := by unfold I64; omega
    rw [Rat.num_divInt_den] at c1
    simp only [h1, h2, dz a, ne_eq, not_false_eq_true, and_self, i64D] at c1
    simp [i64D, c1]
  · rw [eRat_b ha]
    simp [i64D]
theorem big_ok : callable Tryz.prog 124 = true := by kernel_rfl

/-! fit -/
noncomputable def fitC := ctD pbE (fun p => qsz p.a < 1099511627776) (fun p => [eRat p.a])
theorem fitC_at (a : Rat) : fitC [.ptr (eBR a)] = (qsz a < 1099511627776, [eRat a]) := ctD_at pbE_inj ⟨a⟩
noncomputable def fitTb : List (FuncId × Ct) := [(169, .data numC), (155, .data denC), (170, .data isI64C), (171, .data int64C)]
theorem fitTb_ok : TbOK N Tryz.prog (tbl fitTb) := tbl_cons (c := .data numC) Num_spec Num_ok (tbl_cons (c := .data denC) Denom_spec Denom_ok (tbl_cons (c := .data isI64C) IsInt64_spec IsInt64_ok (tbl_cons (c := .data int64C) Int64_spec Int64_ok tbl_nil)))

@[simp] theorem fitTb1 : tbl fitTb 169 = some (.data numC) := rfl
@[simp] theorem fitTb2 : tbl fitTb 155 = some (.data denC) := rfl
@[simp] theorem fitTb3 : tbl fitTb 170 = some (.data isI64C) := rfl
@[simp] theorem fitTb4 : tbl fitTb 171 = some (.data int64C) := rfl
theorem fit_spec : SpecD N Tryz.prog 137 fitC := by
  refine rdD (mf := fun f => false) fitTb_ok (fn := Tryz.f137) (by kernel_rfl) rfl (by kernel_rfl) ?_
  rintro ⟨a⟩ ha
  have ha : qsz a < 1099511627776 := ha
  refine ⟨by show 1 ≤ 24; decide, ?_⟩
  simp only [pbE, Tryz.f137]
  have c1 := numC_at a
  have c2 := denC_at a
  have c3 := isI64C_at a.num
  have c4 := isI64C_at a.den
  have c5 := int64C_at a.num
  have c6 := int64C_at a.den
  simp only [ha, SZ_num ha, SZ_den ha, i64D] at c1 c2 c3 c4 c5 c6
  by_cases hs : smallQ a
  · rw [eRat_s hs]
    unfold smallQ at hs
    have h1 : I64 a.num := by unfold I64; omega
    have h2 : I64 (a.den : Int) := by unfold I64; omega
    have h3 : -9223372036854775808 < a.num := by omega
    simp only [h1, h2, decide_true] at c3 c4 c5 c6
    simp [i64D, c1, c2, c3, c4, c5, c6, h3]
  · rw [eRat_b hs]
    by_cases h1 : I64 a.num
    · by_cases h2 : I64 (a.den : Int)
      · have h3 : ¬ -9223372036854775808 < a.num := by
          intro h
          refine hs ⟨?_, ?_⟩
          · unfold I64 at h1; omega
          · unfold I64 at h2; omega
        simp only [h1, h2, decide_true] at c3 c4 c5 c6
        simp [i64D, c1, c2, c3, c4, c5, c6, h3]
      · simp only [h1, h2, decide_true, decide_false] at c3 c4
        simp [i64D, c1, c2, c3, c4]
    · simp only [h1, decide_false] at c3
      simp [i64D, c1, c2, c3]
theorem fit_ok : callable Tryz.prog 137 = true := by kernel_rfl

/-! ri, rq, low, neg -/
theorem smallQ_int {n : Int} (h : n.natAbs < 9223372036854775808) : smallQ (n : Rat) := ⟨by rw [Rat.num_intCast]; exact h, by rw [Rat.den_intCast]; decide⟩
noncomputable def riC := ctD z1E (fun p => p.a.natAbs < 9223372036854775808) (fun p => [eRat (p.a : Rat)])
theorem riC_at (a : Int) : riC [i64D a] = (a.natAbs < 9223372036854775808, [eRat (a : Rat)]) := ctD_at z1E_inj ⟨a⟩
theorem ri_spec : SpecD N Tryz.prog 81 riC := by
  refine rdD (mf := fun f => false) tbl_nil (fn := Tryz.f81) (by kernel_rfl) rfl (by kernel_rfl) ?_
  rintro ⟨a⟩ ha
  have ha : a.natAbs < 9223372036854775808 := ha
  refine ⟨by show 1 ≤ 5; decide, ?_⟩
  simp only [z1E, Tryz.f81, eRat_s (smallQ_int ha), Rat.num_intCast, Rat.den_intCast, i64D]
  simp
/-- A fraction in lowest terms. -/
def QI (n d : Int) : Prop := 0 < d ∧ Int.gcd n d = 1 ∧ n.natAbs < 9223372036854775808 ∧ d < 9223372036854775808
theorem QI_num {n d : Int} (h : QI n d) : (Rat.divInt n d).num = n ∧ ((Rat.divInt n d).den : Int) = d := by
  obtain ⟨h1, h2, _⟩ := h
  obtain ⟨e1, e2⟩ := low_pos (a := n) h1
  rw [h2] at e1 e2
  rw [← e1, ← e2]
  simp
theorem QI_small {n d : Int} (h : QI n d) : smallQ (Rat.divInt n d) := by
  obtain ⟨e1, e2⟩ := QI_num h
  obtain ⟨h1, h2, h3, h4⟩ := h
  refine ⟨by rw [e1]; exact h3, by omega⟩
theorem eRat_QI {n d : Int} (h : QI n d) : eRat (Rat.divInt n d) = .agg [i64D n, i64D d, .lit (.pointer none)] := by
  obtain ⟨e1, e2⟩ := QI_num h
  rw [eRat_s (QI_small h), e1, e2]
noncomputable def rqC := ctD qE (fun p => QI p.a p.b) (fun p => [eRat (Rat.divInt p.a p.b)])
theorem rqC_at (a b : Int) : rqC [eQ a b] = (QI a b, [eRat (Rat.divInt a b)]) := ctD_at qE_inj ⟨a, b⟩
theorem rq_spec : SpecD N Tryz.prog 101 rqC := by
  refine rdD (mf := fun f => false) tbl_nil (fn := Tryz.f101) (by kernel_rfl) rfl (by kernel_rfl) ?_
  rintro ⟨a, b⟩ h
  have h : QI a b := h
  refine ⟨by show 1 ≤ 8; decide, ?_⟩
  simp only [qE, Tryz.f101, eRat_QI h, i64D, eQ]
  simp
theorem rq_ok : callable Tryz.prog 101 = true := by kernel_rfl

/-! low -/
noncomputable def lowC := ctD iiE (fun p => p.a.natAbs < 9223372036854775808 ∧ 0 < p.b ∧ p.b < 9223372036854775808) (fun p => [eRat (Rat.divInt p.a p.b)])
theorem lowC_at (a b : Int) : lowC [i64D a, i64D b] = ((a.natAbs < 9223372036854775808 ∧ 0 < b ∧ b < 9223372036854775808), [eRat (Rat.divInt a b)]) := ctD_at iiE_inj ⟨a, b⟩
noncomputable def lowTb : List (FuncId × Ct) := [(123, .data absC), (145, .data gcdC)]
theorem lowTb_ok : TbOK N Tryz.prog (tbl lowTb) := tbl_cons (c := .data absC) abs64_spec abs64_ok (tbl_cons (c := .data gcdC) gcd64_spec gcd64_ok tbl_nil)

@[simp] theorem lowTb1 : tbl lowTb 123 = some (.data absC) := rfl
@[simp] theorem lowTb2 : tbl lowTb 145 = some (.data gcdC) := rfl
theorem small_divInt {n d : Int} (hn : n.natAbs < 9223372036854775808) (h0 : 0 < d) (hd : d < 9223372036854775808) : smallQ (Rat.divInt n d) :=
  ⟨Nat.lt_of_le_of_lt (num_le n d) hn, Nat.lt_of_le_of_lt (den_le (by omega)) (by omega)⟩
theorem low_spec : SpecD N Tryz.prog 136 lowC := by
  refine rdD (mf := fun f => false) lowTb_ok (fn := Tryz.f136) (by kernel_rfl) rfl (by kernel_rfl) ?_
  rintro ⟨n, d⟩ ⟨hn, h0, hd⟩
  have hn : n.natAbs < 9223372036854775808 := hn
  have h0 : 0 < d := h0
  have hd : d < 9223372036854775808 := hd
  refine ⟨by show 2 ≤ 23; decide, ?_⟩
  have hs := small_divInt hn h0 hd
  obtain ⟨e1, e2⟩ := low_pos (a := n) h0
  rw [eRat_s hs, ← e1, ← e2]
  have c1 := absC_at n
  have c2 := gcdC_at n.natAbs d.natAbs
  have h1 : I64 n := by unfold I64; omega
  have h2 : n.natAbs < 18446744073709551616 := by omega
  have h3 : d.natAbs < 18446744073709551616 := by omega
  have e3 : Nat.gcd n.natAbs d.natAbs = Int.gcd n d := rfl
  have hg0 : 0 < Int.gcd n d := by
    rcases Nat.eq_zero_or_pos (Int.gcd n d) with h | h
    · have := (Int.gcd_eq_zero_iff.1 h).2; omega
    · exact h
  have hgl : Int.gcd n d ≤ d.natAbs := Nat.le_of_dvd (by omega) (Nat.gcd_dvd_right _ _)
  have w1 : IntKind.u64.wrap d = (d.natAbs : Int) := by rw [wrap_u64]; omega
  simp only [h1, h2, h3, e3, and_self, u64D, i64D] at c1 c2
  have b1 := Int.natAbs_tdiv n (Int.gcd n d)
  have b2 := Int.natAbs_tdiv d (Int.gcd n d)
  have b3 : (Int.tdiv n (Int.gcd n d)).natAbs ≤ n.natAbs := by rw [b1]; exact Nat.div_le_self _ _
  have b4 : (Int.tdiv d (Int.gcd n d)).natAbs ≤ d.natAbs := by rw [b2]; exact Nat.div_le_self _ _
  have w3 : IntKind.i64.wrap (Int.tdiv n (Int.gcd n d)) = Int.tdiv n (Int.gcd n d) := i64_id _ (by omega) (by omega)
  have w4 : IntKind.i64.wrap (Int.tdiv d (Int.gcd n d)) = Int.tdiv d (Int.gcd n d) := i64_id _ (by omega) (by omega)
  have w2 : IntKind.i64.wrap (Int.gcd n d : Int) = (Int.gcd n d : Int) := i64_id _ (by omega) (by omega)
  clear b1 b2 e1 e2 hs
  simp only [iiE, Tryz.f136, i64D]
  generalize Int.gcd n d = g at *
  generalize hx : Int.tdiv n (g : Int) = x at *
  generalize hy : Int.tdiv d (g : Int) = y at *
  have hgz : ¬ g = 0 := by omega
  by_cases h4 : 1 < g
  · have h4' : (1 : Int) < g := by omega
    simp [c1, c2, w1, w2, hx, hy, w3, w4, h4', h4, hgz]
  · have h5 : g = 1 := by omega
    subst h5
    simp at hx hy w2
    subst hx hy
    simp [c1, c2, w1, w2]
theorem low_ok : callable Tryz.prog 136 = true := by kernel_rfl

/-! neg -/
noncomputable def rngC := ctD r1E (fun p => qsz p.a < MX) (fun p => [eRat (-p.a)])
theorem rngC_at (a : Rat) : rngC [eRat a] = (qsz a < MX, [eRat (-a)]) := ctD_at r1E_inj ⟨a⟩
theorem smallQ_neg {a : Rat} : smallQ (-a) ↔ smallQ a := by unfold smallQ; rw [Rat.neg_num, Rat.neg_den, Int.natAbs_neg]
noncomputable def ngTb : List (FuncId × Ct) := [(134, .mut [true, false] bNegC)]
theorem ngTb_ok : TbOK N Tryz.prog (tbl ngTb) := tbl_cons (c := .mut [true, false] bNegC) RNeg_spec RNeg_ok tbl_nil

@[simp] theorem ngTb1 : tbl ngTb 134 = some (.mut [true, false] bNegC) := rfl
theorem rneg_spec : SpecD N Tryz.prog 83 rngC := by
  refine rdD (mf := fun f => f == 134 || f == bld 88) ngTb_ok (fn := Tryz.f83) (by kernel_rfl) rfl (by kernel_rfl) ?_
  rintro ⟨a⟩ ha
  have ha : qsz a < MX := ha
  refine ⟨by show 1 ≤ 17; decide, ?_⟩
  simp only [r1E, Tryz.f83]
  by_cases hs : smallQ a
  · rw [eRat_s hs, eRat_s (smallQ_neg.2 hs), Rat.neg_num, Rat.neg_den]
    unfold smallQ at hs
    have w : IntKind.i64.wrap (-a.num) = -a.num := i64_id _ (by omega) (by omega)
    simp [i64D, w]
  · rw [eRat_b hs, eRat_b (fun h => hs (smallQ_neg.1 h))]
    have c1 := bNegC_at a
    simp only [ha, eBN_eq] at c1
    simp [i64D, c1]
theorem rneg_ok : callable Tryz.prog 83 = true := by kernel_rfl
theorem ri_ok : callable Tryz.prog 81 = true := by kernel_rfl
end Go.Proofs.YtlniifhdimaliaaGreat.Ae

/-! impl.rat: add, sub. No condition. -/
namespace Go.Proofs.YtlniifhdimaliaaGreat.Ae
open Go Go.RowKit Go.Proofs.YtlniifhdimaliaaGreat.Dig
variable {N : NR}

theorem rat_eq (a : Rat) : a = (a.num : Rat) / ((a.den : Int) : Rat) := by
  rw [← Rat.divInt_eq_div, Rat.num_divInt_den]
theorem den_rz (a : Rat) : ((a.den : Int) : Rat) ≠ 0 := by
  intro h
  exact dz a (by exact_mod_cast h)
theorem add_same {a b : Rat} (h : a.den = b.den) : a + b = Rat.divInt (a.num + b.num) a.den := by
  have h1 := rat_eq a
  have h2 := rat_eq b
  rw [← h] at h2
  rw [Rat.divInt_eq_div, Rat.intCast_add]
  have h3 := den_rz a
  grind
theorem sub_same {a b : Rat} (h : a.den = b.den) : a - b = Rat.divInt (a.num - b.num) a.den := by
  have h1 := rat_eq a
  have h2 := rat_eq b
  rw [← h] at h2
  rw [Rat.divInt_eq_div, Rat.intCast_sub]
  have h3 := den_rz a
  grind
theorem sub_divInt (a b : Rat) : a - b = Rat.divInt (a.num * b.den - b.num * a.den) (a.den * b.den) := by
  have := add_divInt a (-b)
  rw [Rat.neg_num, Rat.neg_den, Int.neg_mul, ← Int.sub_eq_add_neg, ← Rat.sub_eq_add_neg] at this
  exact this
noncomputable def raTb : List (FuncId × Ct) := [(135, .data littleC), (136, .data lowC), (124, .data bigIC), (138, .mut [true, false, false] bAddC), (166, .mut [true, false, false] bSubC), (137, .data fitC)]
theorem raTb_ok : TbOK N Tryz.prog (tbl raTb) := tbl_cons (c := .data littleC) little_spec little_ok (tbl_cons (c := .data lowC) low_spec low_ok (tbl_cons (c := .data bigIC) big_spec big_ok (tbl_cons (c := .mut [true, false, false] bAddC) RAdd_spec RAdd_ok (tbl_cons (c := .mut [true, false, false] bSubC) RSub_spec RSub_ok (tbl_cons (c := .data fitC) fit_spec fit_ok tbl_nil)))))

@[simp] theorem raTb1 : tbl raTb 135 = some (.data littleC) := rfl
@[simp] theorem raTb2 : tbl raTb 136 = some (.data lowC) := rfl
@[simp] theorem raTb3 : tbl raTb 124 = some (.data bigIC) := rfl
@[simp] theorem raTb4 : tbl raTb 138 = some (.mut [true, false, false] bAddC) := rfl
@[simp] theorem raTb5 : tbl raTb 166 = some (.mut [true, false, false] bSubC) := rfl
@[simp] theorem raTb6 : tbl raTb 137 = some (.data fitC) := rfl
def raMf : FuncId → Bool := fun f => f == 138 || f == 166 || f == 137
attribute [simp] raMf
theorem prod31 {n d : Int} (hn : n.natAbs < 2147483648) (hd : 0 < d ∧ d < 2147483648) : -4611686018427387904 < n * d ∧ n * d < 4611686018427387904 := prod_bd hn hd

noncomputable def raddC := ctD r2E (fun p => qsz p.a + qsz p.b < MX) (fun p => [eRat (p.a + p.b)])
theorem raddC_at (a b : Rat) : raddC [eRat a, eRat b] = (qsz a + qsz b < MX, [eRat (a + b)]) := ctD_at r2E_inj ⟨a, b⟩
set_option maxHeartbeats 4000000 in
theorem radd_spec : SpecD N Tryz.prog 84 raddC := by
  refine rdD (mf := raMf) raTb_ok (fn := Tryz.f84) (by kernel_rfl) rfl (by kernel_rfl) ?_
  rintro ⟨a, b⟩ hq
  have hq : qsz a + qsz b < MX := hq
  refine ⟨by show 2 ≤ 62; decide, ?_⟩
  have c1 := littleC_at a
  have c2 := littleC_at b
  simp only [r2E, Tryz.f84, boolD] at c1 c2 ⊢
  by_cases hab : lit31 a ∧ lit31 b
  · obtain ⟨ha, hb⟩ := hab
    have sa := lit31_small ha
    have sb := lit31_small hb
    rw [eRat_s sa] at c1 ⊢
    rw [eRat_s sb] at c2 ⊢
    simp only [ha, hb, decide_true, i64D] at c1 c2
    unfold lit31 at ha hb
    have da := a.den_pos
    have db := b.den_pos
    have x1 := prod31 ha.1 (d := b.den) (by omega)
    have x2 := prod31 hb.1 (d := a.den) (by omega)
    have x3 := pos_bd (c := a.den) (d := b.den) (by omega) (by omega)
    have w1 : IntKind.i64.wrap (a.num + b.num) = a.num + b.num := i64_id _ (by omega) (by omega)
    have w2 : IntKind.i64.wrap (a.num * b.den) = a.num * b.den := i64_id _ (by omega) (by omega)
    have w3 : IntKind.i64.wrap (b.num * a.den) = b.num * a.den := i64_id _ (by omega) (by omega)
    have w4 : IntKind.i64.wrap ((a.den : Int) * b.den) = (a.den : Int) * b.den := i64_id _ (by omega) (by omega)
    have w5 : IntKind.i64.wrap (a.num * b.den + b.num * a.den) = a.num * b.den + b.num * a.den := i64_id _ (by omega) (by omega)
    by_cases hd : a.den = b.den
    · by_cases h1 : b.den = 1
      · have e := add_same hd
        have hQ : QI (a.num + b.num) 1 := ⟨by omega, by simp, by omega, by omega⟩
        rw [hd, h1] at e
        rw [e]
        have e2 := eRat_QI hQ
        have e3 : Rat.divInt (a.num + b.num) ((1 : Nat) : Int) = Rat.divInt (a.num + b.num) 1 := rfl
        rw [e3, e2, hd, h1]
        rw [hd, h1] at c1
        rw [h1] at c2
        simp at c1 c2
        simp [i64D, c1, c2, w1]
      · have e := add_same hd
        have c3 := lowC_at (a.num + b.num) b.den
        have b1 : (a.num + b.num).natAbs < 9223372036854775808 := by omega
        have b2 : 0 < (b.den : Int) := by omega
        have b3 : (b.den : Int) < 9223372036854775808 := by omega
        simp only [b1, b2, b3, and_self, i64D] at c3
        rw [e]
        rw [hd] at c1 ⊢
        have h1' : ¬ (b.den : Int) = 1 := by omega
        simp [i64D, c1, c2, c3, w1, h1, h1']
    · have c3 := lowC_at (a.num * b.den + b.num * a.den) ((a.den : Int) * b.den)
      have b1 : (a.num * b.den + b.num * a.den).natAbs < 9223372036854775808 := by omega
      have b2 : 0 < (a.den : Int) * b.den := by omega
      have b3 : (a.den : Int) * b.den < 9223372036854775808 := by omega
      simp only [b1, b2, b3, and_self, i64D] at c3
      rw [← add_divInt] at c3
      generalize a + b = ab at *
      have h0 : ¬ ((a.den : Int) = 1 ∧ (b.den : Int) = 1) := by omega
      have h2 : ¬ (a.den : Int) = b.den := by omega
      generalize (a.den : Int) = d at *
      generalize (b.den : Int) = d' at *
      generalize a.num = n at *
      generalize b.num = n' at *
      by_cases h1 : d = 1
      · have h3 : ¬ d' = 1 := by omega
        subst h1
        simp at c1 c3 w3 w4 w5 h2
        simp [i64D, c1, c2, c3, w1, w2, w3, w4, w5, h2, h3]
      · simp [i64D, c1, c2, c3, w1, w2, w3, w4, w5, h1, h2]
  · have c3 := bigIC_at a
    have c4 := bigIC_at b
    have c5 := bAddC_at a b
    have c6 := fitC_at (a + b)
    have hs := qsz_add a b
    have hs' : qsz (a + b) < 1099511627776 := by unfold MX at hq; omega
    simp only [hq, hs', eBN_eq] at c5 c6
    generalize a + b = ab at *
    by_cases ha : lit31 a
    · have hb : ¬ lit31 b := fun h => hab ⟨ha, h⟩
      simp only [ha, hb, decide_true, decide_false] at c1 c2
      simp [-D.isLit, c1, c2, c3, c4, c5, c6, List.idxOf_cons]
    · simp only [ha, decide_false] at c1
      simp [-D.isLit, c1, c3, c4, c5, c6, List.idxOf_cons]
theorem radd_ok : callable Tryz.prog 84 = true := by kernel_rfl

noncomputable def rsubC := ctD r2E (fun p => qsz p.a + qsz p.b < MX) (fun p => [eRat (p.a - p.b)])
theorem rsubC_at (a b : Rat) : rsubC [eRat a, eRat b] = (qsz a + qsz b < MX, [eRat (a - b)]) := ctD_at r2E_inj ⟨a, b⟩
set_option maxHeartbeats 4000000 in
theorem rsub_spec : SpecD N Tryz.prog 133 rsubC := by
  refine rdD (mf := raMf) raTb_ok (fn := Tryz.f133) (by kernel_rfl) rfl (by kernel_rfl) ?_
  rintro ⟨a, b⟩ hq
  have hq : qsz a + qsz b < MX := hq
  refine ⟨by show 2 ≤ 62; decide, ?_⟩
  have c1 := littleC_at a
  have c2 := littleC_at b
  simp only [r2E, Tryz.f133, boolD] at c1 c2 ⊢
  by_cases hab : lit31 a ∧ lit31 b
  · obtain ⟨ha, hb⟩ := hab
    have sa := lit31_small ha
    have sb := lit31_small hb
    rw [eRat_s sa] at c1 ⊢
    rw [eRat_s sb] at c2 ⊢
    simp only [ha, hb, decide_true, i64D] at c1 c2
    unfold lit31 at ha hb
    have da := a.den_pos
    have db := b.den_pos
    have x1 := prod31 ha.1 (d := b.den) (by omega)
    have x2 := prod31 hb.1 (d := a.den) (by omega)
    have x3 := pos_bd (c := a.den) (d := b.den) (by omega) (by omega)
    have w1 : IntKind.i64.wrap (a.num - b.num) = a.num - b.num := i64_id _ (by omega) (by omega)
    have w2 : IntKind.i64.wrap (a.num * b.den) = a.num * b.den := i64_id _ (by omega) (by omega)
    have w3 : IntKind.i64.wrap (b.num * a.den) = b.num * a.den := i64_id _ (by omega) (by omega)
    have w4 : IntKind.i64.wrap ((a.den : Int) * b.den) = (a.den : Int) * b.den := i64_id _ (by omega) (by omega)
    have w5 : IntKind.i64.wrap (a.num * b.den - b.num * a.den) = a.num * b.den - b.num * a.den := i64_id _ (by omega) (by omega)
    by_cases hd : a.den = b.den
    · by_cases h1 : b.den = 1
      · have e := sub_same hd
        have hQ : QI (a.num - b.num) 1 := ⟨by omega, by simp, by omega, by omega⟩
        rw [hd, h1] at e
        rw [e]
        have e2 := eRat_QI hQ
        have e3 : Rat.divInt (a.num - b.num) ((1 : Nat) : Int) = Rat.divInt (a.num - b.num) 1 := rfl
        rw [e3, e2, hd, h1]
        rw [hd, h1] at c1
        rw [h1] at c2
        simp at c1 c2
        simp [i64D, c1, c2, w1]
      · have e := sub_same hd
        have c3 := lowC_at (a.num - b.num) b.den
        have b1 : (a.num - b.num).natAbs < 9223372036854775808 := by omega
        have b2 : 0 < (b.den : Int) := by omega
        have b3 : (b.den : Int) < 9223372036854775808 := by omega
        simp only [b1, b2, b3, and_self, i64D] at c3
        rw [e]
        rw [hd] at c1 ⊢
        have h1' : ¬ (b.den : Int) = 1 := by omega
        simp [i64D, c1, c2, c3, w1, h1, h1']
    · have c3 := lowC_at (a.num * b.den - b.num * a.den) ((a.den : Int) * b.den)
      have b1 : (a.num * b.den - b.num * a.den).natAbs < 9223372036854775808 := by omega
      have b2 : 0 < (a.den : Int) * b.den := by omega
      have b3 : (a.den : Int) * b.den < 9223372036854775808 := by omega
      simp only [b1, b2, b3, and_self, i64D] at c3
      rw [← sub_divInt] at c3
      generalize a - b = ab at *
      have h0 : ¬ ((a.den : Int) = 1 ∧ (b.den : Int) = 1) := by omega
      have h2 : ¬ (a.den : Int) = b.den := by omega
      generalize (a.den : Int) = d at *
      generalize (b.den : Int) = d' at *
      generalize a.num = n at *
      generalize b.num = n' at *
      by_cases h1 : d = 1
      · have h3 : ¬ d' = 1 := by omega
        subst h1
        simp at c1 c3 w3 w4 w5 h2
        simp [i64D, c1, c2, c3, w1, w2, w3, w4, w5, h2, h3]
      · simp [i64D, c1, c2, c3, w1, w2, w3, w4, w5, h1, h2]
  · have c3 := bigIC_at a
    have c4 := bigIC_at b
    have c5 := bSubC_at a b
    have c6 := fitC_at (a - b)
    have hs := qsz_sub a b
    have hs' : qsz (a - b) < 1099511627776 := by unfold MX at hq; omega
    simp only [hq, hs', eBN_eq] at c5 c6
    generalize a - b = ab at *
    by_cases ha : lit31 a
    · have hb : ¬ lit31 b := fun h => hab ⟨ha, h⟩
      simp only [ha, hb, decide_true, decide_false] at c1 c2
      simp [-D.isLit, c1, c2, c3, c4, c5, c6, List.idxOf_cons]
    · simp only [ha, decide_false] at c1
      simp [-D.isLit, c1, c3, c4, c5, c6, List.idxOf_cons]
theorem rsub_ok : callable Tryz.prog 133 = true := by kernel_rfl
end Go.Proofs.YtlniifhdimaliaaGreat.Ae

/-! impl.rat: inv, sign, q, floor, fromInt; math/bits.Mul64. No condition. -/
namespace Go.Proofs.YtlniifhdimaliaaGreat.Ae
open Go Go.RowKit Go.Proofs.YtlniifhdimaliaaGreat.Dig
variable {N : NR}

/-! sign -/
noncomputable def rsgC := ctD r1E (fun p => True) (fun p => [i64D p.a.num.sign])
theorem rsgC_at (a : Rat) : rsgC [eRat a] = (True, [i64D a.num.sign]) := ctD_at r1E_inj ⟨a⟩
noncomputable def rsgTb : List (FuncId × Ct) := [(148, .data bsgC)]
theorem rsgTb_ok : TbOK N Tryz.prog (tbl rsgTb) := tbl_cons (c := .data bsgC) RSign_spec RSign_ok tbl_nil

@[simp] theorem rsgTb1 : tbl rsgTb 148 = some (.data bsgC) := rfl
theorem rsign_spec : SpecD N Tryz.prog 109 rsgC := by
  refine rdD (mf := fun f => false) rsgTb_ok (fn := Tryz.f109) (by kernel_rfl) rfl (by kernel_rfl) ?_
  rintro ⟨a⟩ _
  refine ⟨by show 1 ≤ 17; decide, ?_⟩
  simp only [r1E, Tryz.f109]
  by_cases hs : smallQ a
  · rw [eRat_s hs]
    rcases Int.lt_trichotomy a.num 0 with h | h | h
    · rw [Int.sign_eq_neg_one_of_neg h]
      simp [i64D, h]
    · rw [h]
      simp [i64D]
    · rw [Int.sign_eq_one_of_pos h]
      have h1 : ¬ a.num < 0 := by omega
      simp [i64D, h, h1]
  · rw [eRat_b hs]
    have c1 := bsgC_at a
    simp only [i64D] at c1
    simp [i64D, c1]
theorem rsign_ok : callable Tryz.prog 109 = true := by kernel_rfl

/-! inv -/
noncomputable def rinvC := ctD r1E (fun p => qsz p.a < MX ∧ p.a ≠ 0) (fun p => [eRat p.a⁻¹])
theorem rinvC_at (a : Rat) : rinvC [eRat a] = ((qsz a < MX ∧ a ≠ 0), [eRat a⁻¹]) := ctD_at r1E_inj ⟨a⟩
noncomputable def rinvTb : List (FuncId × Ct) := [(173, .mut [true, false] bInvC), (137, .data fitC)]
theorem rinvTb_ok : TbOK N Tryz.prog (tbl rinvTb) := tbl_cons (c := .mut [true, false] bInvC) RInv_spec RInv_ok (tbl_cons (c := .data fitC) fit_spec fit_ok tbl_nil)

@[simp] theorem rinvTb1 : tbl rinvTb 173 = some (.mut [true, false] bInvC) := rfl
@[simp] theorem rinvTb2 : tbl rinvTb 137 = some (.data fitC) := rfl
theorem inv_pos {a : Rat} (h : 0 < a.num) : a⁻¹.num = a.den ∧ (a⁻¹.den : Int) = a.num := by
  have hr : Int.gcd a.den a.num = 1 := by rw [Int.gcd_comm]; exact a.reduced
  rw [inv_divInt]
  obtain ⟨e1, e2⟩ := low_pos (a := a.den) h
  rw [hr] at e1 e2
  rw [← e1, ← e2]
  simp
theorem inv_neg {a : Rat} (h : a.num < 0) : a⁻¹.num = -(a.den : Int) ∧ (a⁻¹.den : Int) = -a.num := by
  have hr : Int.gcd a.den a.num = 1 := by rw [Int.gcd_comm]; exact a.reduced
  rw [inv_divInt]
  obtain ⟨e1, e2⟩ := low_neg (a := a.den) h
  rw [hr] at e1 e2
  rw [← e1, ← e2]
  simp [Int.tdiv_neg]
theorem rinv_spec : SpecD N Tryz.prog 147 rinvC := by
  refine rdD (mf := fun f => f == 173 || f == 137) rinvTb_ok (fn := Tryz.f147) (by kernel_rfl) rfl (by kernel_rfl) ?_
  rintro ⟨a⟩ ⟨ha, h0⟩
  have ha : qsz a < MX := ha
  have h0 : a ≠ 0 := h0
  refine ⟨by show 1 ≤ 26; decide, ?_⟩
  simp only [r1E, Tryz.f147]
  have hn := num_ne h0
  have hd := a.den_pos
  by_cases hs : smallQ a
  · have hs' := hs
    unfold smallQ at hs'
    by_cases h : a.num < 0
    · obtain ⟨e1, e2⟩ := inv_neg h
      have hs2 : smallQ a⁻¹ := ⟨by omega, by omega⟩
      rw [eRat_s hs, eRat_s hs2, e1, e2]
      have w1 : IntKind.i64.wrap (-(a.den : Int)) = -(a.den : Int) := i64_id _ (by omega) (by omega)
      have w2 : IntKind.i64.wrap (-a.num) = -a.num := i64_id _ (by omega) (by omega)
      simp [i64D, h, w1, w2]
    · obtain ⟨e1, e2⟩ := inv_pos (a := a) (by omega)
      have hs2 : smallQ a⁻¹ := ⟨by omega, by omega⟩
      rw [eRat_s hs, eRat_s hs2, e1, e2]
      simp [i64D, h]
  · rw [eRat_b hs]
    have c1 := bInvC_at a
    have c2 := fitC_at a⁻¹
    have hq := qsz_inv h0
    have hq2 : qsz a⁻¹ < 1099511627776 := by unfold MX at ha; omega
    simp only [ha, h0, hq2, ne_eq, not_false_eq_true, and_self, eBN_eq] at c1 c2
    simp [-D.isLit, i64D, c1, c2]
theorem rinv_ok : callable Tryz.prog 147 = true := by kernel_rfl

/-! q -/
def MN : Int := 1000000000000000000
def isQ (q : Rat) : Prop := q.num.natAbs ≤ 1000000000000000000 ∧ q.den ≤ 1000000000000000000
instance (q : Rat) : Decidable (isQ q) := by unfold isQ; infer_instance
def oQ (q : Rat) : List D := if isQ q then [eQ q.num q.den, boolD true] else [eQ 0 0, boolD false]
noncomputable def rqqC := ctD r1E (fun p => True) (fun p => oQ p.a)
theorem rqqC_at (a : Rat) : rqqC [eRat a] = (True, oQ a) := ctD_at r1E_inj ⟨a⟩
theorem rqq_spec : SpecD N Tryz.prog 67 rqqC := by
  refine rdD (mf := fun f => false) tbl_nil (fn := Tryz.f67) (by kernel_rfl) rfl (by kernel_rfl) ?_
  rintro ⟨a⟩ _
  refine ⟨by show 1 ≤ 28; decide, ?_⟩
  simp only [r1E, Tryz.f67, boolD]
  by_cases hs : smallQ a
  · rw [eRat_s hs]
    unfold oQ
    by_cases hq : isQ a
    · rw [if_pos hq]
      unfold isQ at hq
      have h1 : ¬ a.num < -1000000000000000000 := by omega
      have h2 : ¬ 1000000000000000000 < a.num := by omega
      have h3 : ¬ (1000000000000000000 : Int) < a.den := by omega
      simp [i64D, eQ, boolD, h1, h2, h3]
    · rw [if_neg hq]
      unfold isQ at hq
      by_cases h1 : a.num < -1000000000000000000
      · simp [i64D, eQ, boolD, h1]
      · by_cases h2 : 1000000000000000000 < a.num
        · simp [i64D, eQ, boolD, h1, h2]
        · have h3 : (1000000000000000000 : Int) < a.den := by omega
          simp [i64D, eQ, boolD, h1, h2, h3]
  · have hq : ¬ isQ a := by unfold smallQ at hs; unfold isQ; omega
    unfold oQ
    rw [eRat_b hs, if_neg hq]
    simp [i64D, eQ, boolD]
theorem rqq_ok : callable Tryz.prog 67 = true := by kernel_rfl

/-! floor, fromInt -/
noncomputable def rflC := ctD r1E (fun p => qsz p.a < MX) (fun p => [.ptr (eZ p.a.floor)])
theorem rflC_at (a : Rat) : rflC [eRat a] = (qsz a < MX, [.ptr (eZ a.floor)]) := ctD_at r1E_inj ⟨a⟩
noncomputable def rflTb : List (FuncId × Ct) := [(124, .data bigIC), (169, .data numC), (155, .data denC)]
theorem rflTb_ok : TbOK N Tryz.prog (tbl rflTb) := tbl_cons (c := .data bigIC) big_spec big_ok (tbl_cons (c := .data numC) Num_spec Num_ok (tbl_cons (c := .data denC) Denom_spec Denom_ok tbl_nil))

@[simp] theorem rflTb1 : tbl rflTb 124 = some (.data bigIC) := rfl
@[simp] theorem rflTb2 : tbl rflTb 169 = some (.data numC) := rfl
@[simp] theorem rflTb3 : tbl rflTb 155 = some (.data denC) := rfl
noncomputable def fiC := ctD pE (fun p => ln p.a.natAbs < MX) (fun p => [eRat (p.a : Rat)])
theorem fiC_at (a : Int) : fiC [.ptr (eZ a)] = (ln a.natAbs < MX, [eRat (a : Rat)]) := ctD_at pE_inj ⟨a⟩
noncomputable def fiTb : List (FuncId × Ct) := [(137, .data fitC)]
theorem fiTb_ok : TbOK N Tryz.prog (tbl fiTb) := tbl_cons (c := .data fitC) fit_spec fit_ok tbl_nil

@[simp] theorem fiTb2 : tbl fiTb 137 = some (.data fitC) := rfl
theorem qsz_int (a : Int) : qsz (a : Rat) = max (ln a.natAbs) 1 := by unfold qsz; rw [Rat.num_intCast, Rat.den_intCast, ln_one]
/-! Mul64 -/
noncomputable def m64C := ctD uuE (fun p => p.a < 18446744073709551616 ∧ p.b < 18446744073709551616) (fun p => [u64D (p.a * p.b / 18446744073709551616), u64D (p.a * p.b % 18446744073709551616)])
theorem m64C_at (a b : Nat) : m64C [u64D a, u64D b] = ((a < 18446744073709551616 ∧ b < 18446744073709551616), [u64D (a * b / 18446744073709551616), u64D (a * b % 18446744073709551616)]) := ctD_at uuE_inj ⟨a, b⟩
theorem and32 (x : Nat) (h : x < 18446744073709551616) : bAnd .u64 x 4294967295 = ((x % 4294967296 : Nat) : Int) := by
  have := bAnd64 x 4294967295 h (by decide)
  rw [show (x &&& 4294967295) = x % 4294967296 from Nat.and_two_pow_sub_one_eq_mod x 32] at this
  exact this
theorem mul_split (x1 x0 y1 y0 : Nat) : (x1 * 4294967296 + x0) * (y1 * 4294967296 + y0) = x1 * y1 * 18446744073709551616 + (x1 * y0 + x0 * y1) * 4294967296 + x0 * y0 := by
  grind
theorem bd32 {x y : Nat} (hx : x < 4294967296) (hy : y < 4294967296) : x * y ≤ 18446744065119617025 := by
  have := Nat.mul_le_mul (show x ≤ 4294967295 by omega) (show y ≤ 4294967295 by omega)
  omega
theorem Mul64_spec : SpecD N Tryz.prog 122 m64C := by
  refine rdD (mf := fun f => false) tbl_nil (fn := Tryz.f122) (by kernel_rfl) rfl (by kernel_rfl) ?_
  rintro ⟨x, y⟩ ⟨hx, hy⟩
  have hx : x < 18446744073709551616 := hx
  have hy : y < 18446744073709551616 := hy
  refine ⟨by show 2 ≤ 51; decide, ?_⟩
  simp only [uuE, u64D, Tryz.f122]
  have a1 := and32 x hx
  have a2 := and32 y hy
  have d1 : (x : Int) / 4294967296 = ((x / 4294967296 : Nat) : Int) := by omega
  have d2 : (y : Int) / 4294967296 = ((y / 4294967296 : Nat) : Int) := by omega
  have e := mul_split (x / 4294967296) (x % 4294967296) (y / 4294967296) (y % 4294967296)
  rw [Nat.div_add_mod', Nat.div_add_mod'] at e
  obtain ⟨x1, hx1⟩ : ∃ x1, x1 = x / 4294967296 := ⟨_, rfl⟩
  obtain ⟨x0, hx0⟩ : ∃ x0, x0 = x % 4294967296 := ⟨_, rfl⟩
  obtain ⟨y1, hy1⟩ : ∃ y1, y1 = y / 4294967296 := ⟨_, rfl⟩
  obtain ⟨y0, hy0⟩ : ∃ y0, y0 = y % 4294967296 := ⟨_, rfl⟩
  rw [← hx1, ← hx0, ← hy1, ← hy0] at e
  rw [← hx0] at a1
  rw [← hy0] at a2
  rw [← hx1] at d1
  rw [← hy1] at d2
  have b00 := bd32 (x := x0) (y := y0) (by omega) (by omega)
  have b10 := bd32 (x := x1) (y := y0) (by omega) (by omega)
  have b01 := bd32 (x := x0) (y := y1) (by omega) (by omega)
  have b11 := bd32 (x := x1) (y := y1) (by omega) (by omega)
  clear hx1 hx0 hy1 hy0
  have m0 : ((x0 : Int) * y0) = ((x0 * y0 : Nat) : Int) := by rw [Int.natCast_mul]
  have m1 : ((x1 : Int) * y0) = ((x1 * y0 : Nat) : Int) := by rw [Int.natCast_mul]
  have m2 : ((x0 : Int) * y1) = ((x0 * y1 : Nat) : Int) := by rw [Int.natCast_mul]
  have m3 : ((x1 : Int) * y1) = ((x1 * y1 : Nat) : Int) := by rw [Int.natCast_mul]
  have m4 : ((x : Int) * y) = ((x * y : Nat) : Int) := by rw [Int.natCast_mul]
  generalize x * y = p at *
  generalize x0 * y0 = p00 at *
  generalize x1 * y0 = p10 at *
  generalize x0 * y1 = p01 at *
  generalize x1 * y1 = p11 at *
  have w0 : IntKind.u64.wrap (p00 : Int) = p00 := u64_id _ (by omega) (by omega)
  have w1 : IntKind.u64.wrap (p10 : Int) = p10 := u64_id _ (by omega) (by omega)
  have w2 : IntKind.u64.wrap (p01 : Int) = p01 := u64_id _ (by omega) (by omega)
  have w3 : IntKind.u64.wrap (p11 : Int) = p11 := u64_id _ (by omega) (by omega)
  have d3 : (p00 : Int) / 4294967296 = ((p00 / 4294967296 : Nat) : Int) := by omega
  obtain ⟨t, ht⟩ : ∃ t, t = p10 + p00 / 4294967296 := ⟨_, rfl⟩
  have w4 : IntKind.u64.wrap ((p10 : Int) + ((p00 / 4294967296 : Nat) : Int)) = (t : Int) := by rw [u64_id _ (by omega) (by omega)]; omega
  have a3 := and32 t (by omega)
  have d4 : (t : Int) / 4294967296 = ((t / 4294967296 : Nat) : Int) := by omega
  obtain ⟨v, hv⟩ : ∃ v, v = t % 4294967296 + p01 := ⟨_, rfl⟩
  have w5 : IntKind.u64.wrap (((t % 4294967296 : Nat) : Int) + (p01 : Int)) = (v : Int) := by rw [u64_id _ (by omega) (by omega)]; omega
  have d5 : (v : Int) / 4294967296 = ((v / 4294967296 : Nat) : Int) := by omega
  have w6 : IntKind.u64.wrap ((p11 : Int) + ((t / 4294967296 : Nat) : Int)) = ((p11 + t / 4294967296 : Nat) : Int) := by rw [u64_id _ (by omega) (by omega)]; omega
  have w7 : IntKind.u64.wrap (((p11 + t / 4294967296 : Nat) : Int) + ((v / 4294967296 : Nat) : Int)) = ((p / 18446744073709551616 : Nat) : Int) := by rw [u64_id _ (by omega) (by omega)]; omega
  have w8 : IntKind.u64.wrap (p : Int) = ((p % 18446744073709551616 : Nat) : Int) := by rw [wrap_u64]; omega
  generalize p / 18446744073709551616 = hi at *
  generalize p % 18446744073709551616 = lo at *
  generalize p11 + t / 4294967296 = u at *
  generalize v / 4294967296 = v1 at *
  generalize t / 4294967296 = t1 at *
  generalize t % 4294967296 = t0 at *
  generalize p00 / 4294967296 = q0 at *
  simp [a1, a2, a3, d1, d2, d3, d4, d5, m0, m1, m2, m3, m4, w0, w1, w2, w3, w4, w5, w6, w7, w8]
theorem Mul64_ok : callable Tryz.prog 122 = true := by kernel_rfl
end Go.Proofs.YtlniifhdimaliaaGreat.Ae

/-! impl.rat: mul, div. No condition. -/
namespace Go.Proofs.YtlniifhdimaliaaGreat.Ae
open Go Go.RowKit Go.Proofs.YtlniifhdimaliaaGreat.Dig
variable {N : NR}

theorem mul_low (a b : Rat) : (a * b).num = (a.num.tdiv (Nat.gcd a.num.natAbs b.den)) * (b.num.tdiv (Nat.gcd b.num.natAbs a.den)) ∧ (a * b).den = (a.den / Nat.gcd b.num.natAbs a.den) * (b.den / Nat.gcd a.num.natAbs b.den) := by
  have h1 : (Nat.gcd a.num.natAbs b.den : Int) ∣ a.num := Int.ofNat_dvd_left.2 (Nat.gcd_dvd_left _ _)
  have h2 : (Nat.gcd b.num.natAbs a.den : Int) ∣ b.num := Int.ofNat_dvd_left.2 (Nat.gcd_dvd_left _ _)
  rw [Int.tdiv_eq_ediv_of_dvd h1, Int.tdiv_eq_ediv_of_dvd h2]
  show (Rat.mul a b).num = _ ∧ (Rat.mul a b).den = _
  unfold Rat.mul
  simp
noncomputable def rmC := ctD r2E (fun p => qsz p.a + qsz p.b < MX) (fun p => [eRat (p.a * p.b)])
theorem rmC_at (a b : Rat) : rmC [eRat a, eRat b] = (qsz a + qsz b < MX, [eRat (a * b)]) := ctD_at r2E_inj ⟨a, b⟩
noncomputable def rmTb : List (FuncId × Ct) := [(135, .data littleC), (136, .data lowC), (124, .data bigIC), (146, .mut [true, false, false] bMulC), (137, .data fitC), (81, .data riC), (123, .data absC), (145, .data gcdC), (122, .data m64C)]
theorem rmTb_ok : TbOK N Tryz.prog (tbl rmTb) := tbl_cons (c := .data littleC) little_spec little_ok (tbl_cons (c := .data lowC) low_spec low_ok (tbl_cons (c := .data bigIC) big_spec big_ok (tbl_cons (c := .mut [true, false, false] bMulC) RMul_spec RMul_ok (tbl_cons (c := .data fitC) fit_spec fit_ok (tbl_cons (c := .data riC) ri_spec ri_ok (tbl_cons (c := .data absC) abs64_spec abs64_ok (tbl_cons (c := .data gcdC) gcd64_spec gcd64_ok (tbl_cons (c := .data m64C) Mul64_spec Mul64_ok tbl_nil))))))))

@[simp] theorem rmTb1 : tbl rmTb 135 = some (.data littleC) := rfl
@[simp] theorem rmTb2 : tbl rmTb 136 = some (.data lowC) := rfl
@[simp] theorem rmTb3 : tbl rmTb 124 = some (.data bigIC) := rfl
@[simp] theorem rmTb4 : tbl rmTb 146 = some (.mut [true, false, false] bMulC) := rfl
@[simp] theorem rmTb5 : tbl rmTb 137 = some (.data fitC) := rfl
@[simp] theorem rmTb6 : tbl rmTb 81 = some (.data riC) := rfl
@[simp] theorem rmTb7 : tbl rmTb 123 = some (.data absC) := rfl
@[simp] theorem rmTb8 : tbl rmTb 145 = some (.data gcdC) := rfl
@[simp] theorem rmTb9 : tbl rmTb 122 = some (.data m64C) := rfl
/-- What the third way of mul reckons with: the parts without what divides both. -/
theorem mul_way {n n' : Int} {d d' g h : Nat} (hg : g = Nat.gcd n.natAbs d') (hh : h = Nat.gcd n'.natAbs d) (hd : 0 < d) (hd' : 0 < d') (hn : n.natAbs < 9223372036854775808) (hn' : n'.natAbs < 9223372036854775808) (hdl : d < 9223372036854775808) (hdl' : d' < 9223372036854775808) :
    0 < g ∧ 0 < h ∧ g < 9223372036854775808 ∧ h < 9223372036854775808 ∧ (n.tdiv g).natAbs < 9223372036854775808 ∧ (n'.tdiv h).natAbs < 9223372036854775808 ∧ Int.tdiv d h = ((d / h : Nat) : Int) ∧ Int.tdiv d' g = ((d' / g : Nat) : Int) ∧ d / h < 9223372036854775808 ∧ d' / g < 9223372036854775808 := by
  have g1 : 0 < g := by rw [hg]; exact Nat.gcd_pos_of_pos_right _ hd'
  have h1 : 0 < h := by rw [hh]; exact Nat.gcd_pos_of_pos_right _ hd
  have g2 : g ≤ d' := by rw [hg]; exact Nat.le_of_dvd hd' (Nat.gcd_dvd_right _ _)
  have h2 : h ≤ d := by rw [hh]; exact Nat.le_of_dvd hd (Nat.gcd_dvd_right _ _)
  have b1 : (n.tdiv g).natAbs ≤ n.natAbs := by rw [Int.natAbs_tdiv]; exact Nat.div_le_self _ _
  have b2 : (n'.tdiv h).natAbs ≤ n'.natAbs := by rw [Int.natAbs_tdiv]; exact Nat.div_le_self _ _
  have b3 := Nat.div_le_self d h
  have b4 := Nat.div_le_self d' g
  exact ⟨g1, h1, by omega, by omega, by omega, by omega, tdiv_nat d h, tdiv_nat d' g, by omega, by omega⟩
theorem sign_prod (x y : Int) (h : (x * y).natAbs < 9223372036854775808) : (if (decide (x < 0) != decide (y < 0)) = true then IntKind.i64.wrap (-((x.natAbs * y.natAbs : Nat) : Int)) else ((x.natAbs * y.natAbs : Nat) : Int)) = x * y := by
  rw [← Int.natAbs_mul]
  by_cases hx : x < 0 <;> by_cases hy : y < 0
  · have := Int.mul_pos_of_neg_of_neg hx hy
    simp [hx, hy]; omega
  · have : x * y ≤ 0 := Int.mul_nonpos_of_nonpos_of_nonneg (by omega) (by omega)
    simp [hx, hy]
    rw [i64_id _ (by omega) (by omega)]; omega
  · have : x * y ≤ 0 := Int.mul_nonpos_of_nonneg_of_nonpos (by omega) (by omega)
    simp [hx, hy]
    rw [i64_id _ (by omega) (by omega)]; omega
  · have : 0 ≤ x * y := Int.mul_nonneg (by omega) (by omega)
    simp [hx, hy]; omega
def rmMf : FuncId → Bool := fun f => f == 146 || f == 137
attribute [simp] rmMf
set_option maxRecDepth 100000 in
set_option maxHeartbeats 8000000 in
theorem rmul_spec : SpecD N Tryz.prog 106 rmC := by
  refine rdD (mf := rmMf) rmTb_ok (fn := Tryz.f106) (by kernel_rfl) rfl (by kernel_rfl) ?_
  rintro ⟨a, b⟩ hq
  have hq : qsz a + qsz b < MX := hq
  refine ⟨by show 2 ≤ 146; decide, ?_⟩
  simp only [r2E, Tryz.f106]
  have d1 := bigIC_at a
  have d2 := bigIC_at b
  have d3 := bMulC_at a b
  have d4 := fitC_at (a * b)
  have hs := qsz_mul a b
  have hs' : qsz (a * b) < 1099511627776 := by unfold MX at hq; omega
  simp only [hq, hs', eBN_eq] at d3 d4
  by_cases hab : smallQ a ∧ smallQ b
  · obtain ⟨sa, sb⟩ := hab
    by_cases hz : a.num = 0 ∨ b.num = 0
    · have e : a * b = ((0 : Int) : Rat) := by
        rw [mul_divInt]
        have : a.num * b.num = 0 := by rcases hz with h | h <;> rw [h] <;> simp
        rw [this]; simp
      have c1 := riC_at 0
      simp [i64D] at c1
      rw [e, eRat_s sa, eRat_s sb]
      by_cases h0 : a.num = 0
      · simp [i64D, h0, c1]
      · have h1 : b.num = 0 := by rcases hz with h | h; exact absurd h h0; exact h
        simp [i64D, h0, h1, c1]
    · have z1 : ¬ a.num = 0 := fun h => hz (.inl h)
      have z2 : ¬ b.num = 0 := fun h => hz (.inr h)
      have c1 := littleC_at a
      have c2 := littleC_at b
      have da := a.den_pos
      have db := b.den_pos
      by_cases hl : lit31 a ∧ lit31 b
      · obtain ⟨ha, hb⟩ := hl
        rw [eRat_s sa] at c1 ⊢
        rw [eRat_s sb] at c2 ⊢
        simp only [ha, hb, decide_true, boolD, i64D] at c1 c2
        unfold lit31 at ha hb
        have x1 : -4611686018427387904 < a.num * b.num ∧ a.num * b.num < 4611686018427387904 := by
          have h1 : (a.num * b.num).natAbs ≤ 2147483647 * 2147483647 := by rw [Int.natAbs_mul]; exact Nat.mul_le_mul (by omega) (by omega)
          omega
        have x3 := pos_bd (c := a.den) (d := b.den) (by omega) (by omega)
        have w1 : IntKind.i64.wrap (a.num * b.num) = a.num * b.num := i64_id _ (by omega) (by omega)
        have w4 : IntKind.i64.wrap ((a.den : Int) * b.den) = (a.den : Int) * b.den := i64_id _ (by omega) (by omega)
        have c3 := lowC_at (a.num * b.num) ((a.den : Int) * b.den)
        have b1 : (a.num * b.num).natAbs < 9223372036854775808 := by omega
        have b2 : 0 < (a.den : Int) * b.den := by omega
        have b3 : (a.den : Int) * b.den < 9223372036854775808 := by omega
        simp only [b1, b2, b3, and_self, i64D] at c3
        rw [← mul_divInt] at c3
        by_cases h1 : a.den = 1 ∧ b.den = 1
        · obtain ⟨h1, h2⟩ := h1
          have hQ : QI (a.num * b.num) 1 := ⟨by omega, by simp, by omega, by omega⟩
          have e2 := eRat_QI hQ
          have e3 : a * b = Rat.divInt (a.num * b.num) 1 := by rw [mul_divInt, h1, h2]; rfl
          rw [e3, e2]
          rw [h1] at c1 ⊢
          rw [h2] at c2 ⊢
          simp at c1 c2
          simp [i64D, c1, c2, w1, z1, z2]
        · generalize a * b = ab at *
          by_cases h2 : a.den = 1
          · have h3 : ¬ b.den = 1 := fun h => h1 ⟨h2, h⟩
            have h3' : ¬ (b.den : Int) = 1 := by omega
            rw [h2] at c1 c3 w4 ⊢
            simp at c1 c3 w4
            simp [i64D, c1, c2, c3, w1, w4, z1, z2, h3, h3']
          · have h2' : ¬ (a.den : Int) = 1 := by omega
            simp [i64D, c1, c2, c3, w1, w4, z1, z2, h2, h2']
      · have hlit : ((decide (lit31 a)) && decide (lit31 b)) = false := by
          rw [← Bool.decide_and]
          exact decide_eq_false hl
        obtain ⟨m1, m2⟩ := mul_low a b
        obtain ⟨g, hg⟩ : ∃ g, g = Nat.gcd a.num.natAbs b.den := ⟨_, rfl⟩
        obtain ⟨h, hh⟩ : ∃ h, h = Nat.gcd b.num.natAbs a.den := ⟨_, rfl⟩
        have sa' := sa
        have sb' := sb
        unfold smallQ at sa' sb'
        obtain ⟨q1, q2, q3, q4, q5, q6, q7, q8, q9, q10⟩ := mul_way hg hh da db sa'.1 sb'.1 sa'.2 sb'.2
        rw [← hg, ← hh] at m1 m2
        have g1 := absC_at a.num
        have g2 := absC_at b.num
        have g3 := gcdC_at a.num.natAbs b.den
        have g4 := gcdC_at b.num.natAbs a.den
        have i1 : I64 a.num := by unfold I64; omega
        have i2 : I64 b.num := by unfold I64; omega
        have i3 : a.num.natAbs < 18446744073709551616 := by omega
        have i4 : b.num.natAbs < 18446744073709551616 := by omega
        have i5 : a.den < 18446744073709551616 := by omega
        have i6 : b.den < 18446744073709551616 := by omega
        rw [← hg] at g3
        rw [← hh] at g4
        simp only [i1, i2, i3, i4, i5, i6, and_self, u64D, i64D] at g1 g2 g3 g4
        have w1 : IntKind.u64.wrap (a.den : Int) = a.den := u64_id _ (by omega) (by omega)
        have w2 : IntKind.u64.wrap (b.den : Int) = b.den := u64_id _ (by omega) (by omega)
        have w3 : IntKind.i64.wrap (g : Int) = g := i64_id _ (by omega) (by omega)
        have w4 : IntKind.i64.wrap (h : Int) = h := i64_id _ (by omega) (by omega)
        have hgz : ¬ g = 0 := by omega
        have hhz : ¬ h = 0 := by omega
        rw [eRat_s sa] at c1 d1 ⊢
        rw [eRat_s sb] at c2 d2 ⊢
        simp only [boolD, i64D] at c1 c2 d1 d2 ⊢
        have hsm : smallQ (a * b) ↔ (a.num.tdiv g).natAbs * (b.num.tdiv h).natAbs < 9223372036854775808 ∧ a.den / h * (b.den / g) < 9223372036854775808 := by
          unfold smallQ
          rw [m1, m2, Int.natAbs_mul]
        have heR := fun hh => eRat_s (q := a * b) hh
        rw [m1, m2] at heR
        clear m1 m2 hg hh sa' sb' i1 i2 i3 i4 i5 i6 hz hs hs' hq sa sb hl
        generalize decide (lit31 a) = la at *
        generalize decide (lit31 b) = lb at *
        generalize eBR a = ba at *
        generalize eBR b = bb at *
        generalize a * b = ab at *
        generalize hX : a.num.tdiv g = x at *
        generalize hY : b.num.tdiv h = y at *
        generalize a.den / h = u at *
        generalize b.den / g = v at *
        have w5 : IntKind.i64.wrap x = x := i64_id _ (by omega) (by omega)
        have w6 : IntKind.i64.wrap y = y := i64_id _ (by omega) (by omega)
        have w7 : IntKind.i64.wrap (u : Int) = u := i64_id _ (by omega) (by omega)
        have w8 : IntKind.i64.wrap (v : Int) = v := i64_id _ (by omega) (by omega)
        have w9 : IntKind.u64.wrap (u : Int) = u := u64_id _ (by omega) (by omega)
        have w10 : IntKind.u64.wrap (v : Int) = v := u64_id _ (by omega) (by omega)
        have j1 := absC_at x
        have j2 := absC_at y
        have j3 := m64C_at x.natAbs y.natAbs
        have j4 := m64C_at u v
        have k1 : I64 x := by unfold I64; omega
        have k2 : I64 y := by unfold I64; omega
        have k3 : x.natAbs < 18446744073709551616 := by omega
        have k4 : y.natAbs < 18446744073709551616 := by omega
        have k5 : u < 18446744073709551616 := by omega
        have k6 : v < 18446744073709551616 := by omega
        simp only [k1, k2, k3, k4, k5, k6, and_self, i64D, u64D] at j1 j2 j3 j4
        have sp := sign_prod x y
        rw [Int.natAbs_mul] at sp
        obtain ⟨P, hP⟩ : ∃ P, P = x.natAbs * y.natAbs := ⟨_, rfl⟩
        obtain ⟨R, hR⟩ : ∃ R, R = u * v := ⟨_, rfl⟩
        rw [← hP] at j3 sp hsm
        rw [← hR] at j4 hsm
        have fin : P / 18446744073709551616 = 0 → R / 18446744073709551616 = 0 → P % 18446744073709551616 < 9223372036854775808 → R % 18446744073709551616 < 9223372036854775808 →
            ∃ s : Int, (if (decide (x < 0) != decide (y < 0)) = true then IntKind.i64.wrap (-IntKind.i64.wrap ((P % 18446744073709551616 : Nat) : Int)) else IntKind.i64.wrap ((P % 18446744073709551616 : Nat) : Int)) = s ∧ eRat ab = .agg [.lit (.int .i64 s), .lit (.int .i64 (IntKind.i64.wrap ((R % 18446744073709551616 : Nat) : Int))), .lit (.pointer none)] := by
          intro o1 o2 o3 o4
          have b1 : P < 9223372036854775808 := by omega
          have b2 : R < 9223372036854775808 := by omega
          have e3 : P % 18446744073709551616 = P := Nat.mod_eq_of_lt (by omega)
          have e4 : R % 18446744073709551616 = R := Nat.mod_eq_of_lt (by omega)
          have w11 : IntKind.i64.wrap (P : Int) = P := i64_id _ (by omega) (by omega)
          have w12 : IntKind.i64.wrap (R : Int) = R := i64_id _ (by omega) (by omega)
          rw [e3, e4, w11, w12, heR (hsm.2 ⟨b1, b2⟩), hR]
          exact ⟨_, sp b1, rfl⟩
        clear sp heR k1 k2 k3 k4 k5 k6 hP hR hsm
        generalize P / 18446744073709551616 = p1 at *
        generalize P % 18446744073709551616 = p0 at *
        generalize R / 18446744073709551616 = r1 at *
        generalize R % 18446744073709551616 = r0 at *
        have t1 : ((p0 : Nat) : Int) < 9223372036854775808 ↔ p0 < 9223372036854775808 := by omega
        have t2 : ((r0 : Nat) : Int) < 9223372036854775808 ↔ r0 < 9223372036854775808 := by omega
        cases la with
        | false =>
          simp [-D.isLit, c1, d1, d2, d3, d4, g1, g2, g3, g4, j1, j2, j3, j4, w1, w2, w3, w4, w5, w6, w7, w8, w9, w10, hX, hY, q7, q8, hgz, hhz, z1, z2, List.idxOf_cons]
          intro o1 o2 o3 o4
          obtain ⟨s, hs1, hs2⟩ := fin o1 o2 (t1.1 o3) (t2.1 o4)
          rw [hs2]
          constructor
          · intro hxy
            rw [if_pos (by by_cases hx : x < 0 <;> by_cases hy : y < 0 <;> simp [hx, hy] at hxy ⊢)] at hs1
            rw [hs1]
            exact Sub.refl _
          · intro hxy
            rw [if_neg (by by_cases hx : x < 0 <;> by_cases hy : y < 0 <;> simp [hx, hy] at hxy ⊢)] at hs1
            rw [hs1]
            exact Sub.refl _
        | true =>
          cases lb with
          | true => simp at hlit
          | false =>
            simp [-D.isLit, c1, c2, d1, d2, d3, d4, g1, g2, g3, g4, j1, j2, j3, j4, w1, w2, w3, w4, w5, w6, w7, w8, w9, w10, hX, hY, q7, q8, hgz, hhz, z1, z2, List.idxOf_cons]
            intro o1 o2 o3 o4
            obtain ⟨s, hs1, hs2⟩ := fin o1 o2 (t1.1 o3) (t2.1 o4)
            rw [hs2]
            constructor
            · intro hxy
              rw [if_pos (by by_cases hx : x < 0 <;> by_cases hy : y < 0 <;> simp [hx, hy] at hxy ⊢)] at hs1
              rw [hs1]
              exact Sub.refl _
            · intro hxy
              rw [if_neg (by by_cases hx : x < 0 <;> by_cases hy : y < 0 <;> simp [hx, hy] at hxy ⊢)] at hs1
              rw [hs1]
              exact Sub.refl _
  · by_cases sa : smallQ a
    · have sb : ¬ smallQ b := fun h => hab ⟨sa, h⟩
      rw [eRat_s sa] at d1 ⊢
      rw [eRat_b sb] at d2 ⊢
      simp only [i64D] at d1 d2
      simp [-D.isLit, i64D, d1, d2, d3, d4, List.idxOf_cons]
    · rw [eRat_b sa] at d1 ⊢
      simp only [i64D] at d1
      simp [-D.isLit, i64D, d1, d2, d3, d4, List.idxOf_cons]
theorem rmul_ok : callable Tryz.prog 106 = true := by kernel_rfl

/-! div -/
noncomputable def rdvC := ctD r2E (fun p => qsz p.a + qsz p.b < MX ∧ p.b ≠ 0) (fun p => [eRat (p.a / p.b)])
theorem rdvC_at (a b : Rat) : rdvC [eRat a, eRat b] = ((qsz a + qsz b < MX ∧ b ≠ 0), [eRat (a / b)]) := ctD_at r2E_inj ⟨a, b⟩
noncomputable def rdvTb : List (FuncId × Ct) := [(106, .data rmC), (147, .data rinvC)]
theorem rdvTb_ok : TbOK N Tryz.prog (tbl rdvTb) := tbl_cons (c := .data rmC) rmul_spec rmul_ok (tbl_cons (c := .data rinvC) rinv_spec rinv_ok tbl_nil)

@[simp] theorem rdvTb1 : tbl rdvTb 106 = some (.data rmC) := rfl
@[simp] theorem rdvTb2 : tbl rdvTb 147 = some (.data rinvC) := rfl
theorem rdiv_spec : SpecD N Tryz.prog 108 rdvC := by
  refine rdD (mf := fun f => false) rdvTb_ok (fn := Tryz.f108) (by kernel_rfl) rfl (by kernel_rfl) ?_
  rintro ⟨a, b⟩ ⟨hq, h0⟩
  have hq : qsz a + qsz b < MX := hq
  have h0 : b ≠ 0 := h0
  refine ⟨by show 2 ≤ 9; decide, ?_⟩
  simp only [r2E, Tryz.f108]
  have c1 := rinvC_at b
  have c2 := rmC_at a b⁻¹
  have h1 := qsz_inv h0
  have h2 : qsz b < MX := by omega
  have h3 : qsz a + qsz b⁻¹ < MX := by omega
  rw [← Rat.div_def] at c2
  simp only [h0, h2, h3, ne_eq, not_false_eq_true, and_self] at c1 c2
  simp [c1, c2]
theorem rdiv_ok : callable Tryz.prog 108 = true := by kernel_rfl
end Go.Proofs.YtlniifhdimaliaaGreat.Ae

/-! impl.rat: cmp; impl.QOk, allQ. No condition. -/
namespace Go.Proofs.YtlniifhdimaliaaGreat.Ae
open Go Go.RowKit Go.Proofs.YtlniifhdimaliaaGreat.Dig
variable {N : NR}

noncomputable def rcC := ctD r2E (fun p => qsz p.a + qsz p.b < MX) (fun p => [i64D (qcmp p.a p.b)])
theorem rcC_at (a b : Rat) : rcC [eRat a, eRat b] = (qsz a + qsz b < MX, [i64D (qcmp a b)]) := ctD_at r2E_inj ⟨a, b⟩
noncomputable def rcTb : List (FuncId × Ct) := [(109, .data rsgC), (124, .data bigIC), (125, .data bCmpC), (123, .data absC), (122, .data m64C)]
theorem rcTb_ok : TbOK N Tryz.prog (tbl rcTb) := tbl_cons (c := .data rsgC) rsign_spec rsign_ok (tbl_cons (c := .data bigIC) big_spec big_ok (tbl_cons (c := .data bCmpC) RCmp_spec RCmp_ok (tbl_cons (c := .data absC) abs64_spec abs64_ok (tbl_cons (c := .data m64C) Mul64_spec Mul64_ok tbl_nil))))

@[simp] theorem rcTb1 : tbl rcTb 109 = some (.data rsgC) := rfl
@[simp] theorem rcTb2 : tbl rcTb 124 = some (.data bigIC) := rfl
@[simp] theorem rcTb3 : tbl rcTb 125 = some (.data bCmpC) := rfl
@[simp] theorem rcTb4 : tbl rcTb 123 = some (.data absC) := rfl
@[simp] theorem rcTb5 : tbl rcTb 122 = some (.data m64C) := rfl
theorem qcmp_same {a b : Rat} (h : a.den = b.den) : qcmp a b = (a.num - b.num).sign := by
  unfold qcmp
  rw [h, ← Int.sub_mul, Int.sign_mul, Int.sign_eq_one_of_pos (show 0 < (b.den : Int) by have := b.den_pos; omega), Int.mul_one]
theorem sgn_cases (x : Int) : (x < 0 ∧ x.sign = -1) ∨ (x = 0 ∧ x.sign = 0) ∨ (0 < x ∧ x.sign = 1) := by
  rcases Int.lt_trichotomy x 0 with h | h | h
  · exact .inl ⟨h, Int.sign_eq_neg_one_of_neg h⟩
  · exact .inr (.inl ⟨h, by rw [h]; rfl⟩)
  · exact .inr (.inr ⟨h, Int.sign_eq_one_of_pos h⟩)
/-- By the signs, and by the products' sizes. -/
theorem qcmp_way (a b : Rat) : (a.num.sign < b.num.sign → qcmp a b = -1) ∧ (b.num.sign < a.num.sign → qcmp a b = 1) ∧
    (a.num.sign = b.num.sign → (a.num.natAbs * b.den < b.num.natAbs * a.den → qcmp a b = -a.num.sign) ∧ (b.num.natAbs * a.den < a.num.natAbs * b.den → qcmp a b = a.num.sign) ∧ (a.num.natAbs * b.den = b.num.natAbs * a.den → qcmp a b = 0)) := by
  have da := a.den_pos
  have db := b.den_pos
  have e1 : a.num = a.num.sign * a.num.natAbs := (Int.sign_mul_natAbs a.num).symm
  have e2 : b.num = b.num.sign * b.num.natAbs := (Int.sign_mul_natAbs b.num).symm
  have m1 : a.num * b.den = a.num.sign * ((a.num.natAbs * b.den : Nat) : Int) := by rw [Int.natCast_mul, ← Int.mul_assoc, ← e1]
  have m2 : b.num * a.den = b.num.sign * ((b.num.natAbs * a.den : Nat) : Int) := by rw [Int.natCast_mul, ← Int.mul_assoc, ← e2]
  have p1 : a.num.sign ≠ 0 → 0 < a.num.natAbs * b.den := fun h => Nat.mul_pos (by rcases sgn_cases a.num with ⟨h1, h2⟩ | ⟨h1, h2⟩ | ⟨h1, h2⟩ <;> omega) db
  have p2 : b.num.sign ≠ 0 → 0 < b.num.natAbs * a.den := fun h => Nat.mul_pos (by rcases sgn_cases b.num with ⟨h1, h2⟩ | ⟨h1, h2⟩ | ⟨h1, h2⟩ <;> omega) da
  have z1 : a.num.sign = 0 → a.num.natAbs * b.den = 0 := fun h => by
    have : a.num.natAbs = 0 := by rcases sgn_cases a.num with ⟨h1, h2⟩ | ⟨h1, h2⟩ | ⟨h1, h2⟩ <;> omega
    rw [this, Nat.zero_mul]
  have z2 : b.num.sign = 0 → b.num.natAbs * a.den = 0 := fun h => by
    have : b.num.natAbs = 0 := by rcases sgn_cases b.num with ⟨h1, h2⟩ | ⟨h1, h2⟩ | ⟨h1, h2⟩ <;> omega
    rw [this, Nat.zero_mul]
  unfold qcmp
  rw [m1, m2]
  have h1 := sgn_cases a.num
  have h2 := sgn_cases b.num
  generalize a.num.natAbs * b.den = A at *
  generalize b.num.natAbs * a.den = C at *
  generalize a.num.sign = s at *
  generalize b.num.sign = t at *
  have hs : s = -1 ∨ s = 0 ∨ s = 1 := by rcases h1 with ⟨_, h⟩ | ⟨_, h⟩ | ⟨_, h⟩ <;> simp [h]
  have ht : t = -1 ∨ t = 0 ∨ t = 1 := by rcases h2 with ⟨_, h⟩ | ⟨_, h⟩ | ⟨_, h⟩ <;> simp [h]
  have neg : ∀ x : Int, x < 0 → x.sign = -1 := fun x h => Int.sign_eq_neg_one_of_neg h
  have pos : ∀ x : Int, 0 < x → x.sign = 1 := fun x h => Int.sign_eq_one_of_pos h
  clear h1 h2 m1 m2 e1 e2
  rcases hs with rfl | rfl | rfl <;> rcases ht with rfl | rfl | rfl <;> simp at p1 p2 z1 z2
  all_goals refine ⟨fun h => ?_, fun h => ?_, fun h => ⟨fun h' => ?_, fun h' => ?_, fun h' => ?_⟩⟩
  all_goals first
    | omega
    | (apply neg; omega)
    | (apply pos; omega)
    | (rw [neg _ (by omega)]; omega)
    | (rw [pos _ (by omega)]; omega)
    | (subst h'; simp; done)
    | (simp [*]; done)
set_option maxRecDepth 100000 in
set_option maxHeartbeats 4000000 in
theorem rcmp_spec : SpecD N Tryz.prog 73 rcC := by
  refine rdD (mf := fun f => false) rcTb_ok (fn := Tryz.f73) (by kernel_rfl) rfl (by kernel_rfl) ?_
  rintro ⟨a, b⟩ hq
  have hq : qsz a + qsz b < MX := hq
  refine ⟨by show 2 ≤ 87; decide, ?_⟩
  simp only [r2E, Tryz.f73]
  have d1 := bigIC_at a
  have d2 := bigIC_at b
  have d3 := bCmpC_at a b
  simp only [hq, i64D] at d3
  by_cases hab : smallQ a ∧ smallQ b
  · obtain ⟨sa, sb⟩ := hab
    have da := a.den_pos
    have db := b.den_pos
    rw [eRat_s sa, eRat_s sb]
    by_cases hd : a.den = b.den
    · rw [qcmp_same hd]
      have hd' : (a.den : Int) = b.den := by omega
      rcases Int.lt_trichotomy a.num b.num with h | h | h
      · rw [Int.sign_eq_neg_one_of_neg (by omega)]
        simp [i64D, hd', h]
      · rw [h, Int.sub_self]
        simp [i64D, hd']
      · rw [Int.sign_eq_one_of_pos (by omega)]
        have h1 : ¬ a.num < b.num := by omega
        simp [i64D, hd', h, h1]
    · obtain ⟨f1, f2, f3⟩ := qcmp_way a b
      have hd' : ¬ (a.den : Int) = b.den := by omega
      have c1 := rsgC_at a
      have c2 := rsgC_at b
      have c3 := absC_at a.num
      have c4 := absC_at b.num
      have c5 := m64C_at a.num.natAbs b.den
      have c6 := m64C_at b.num.natAbs a.den
      have sa' := sa
      have sb' := sb
      unfold smallQ at sa' sb'
      have i1 : I64 a.num := by unfold I64; omega
      have i2 : I64 b.num := by unfold I64; omega
      have i3 : a.num.natAbs < 18446744073709551616 := by omega
      have i4 : b.num.natAbs < 18446744073709551616 := by omega
      have i5 : a.den < 18446744073709551616 := by omega
      have i6 : b.den < 18446744073709551616 := by omega
      have w1 : IntKind.u64.wrap (a.den : Int) = a.den := u64_id _ (by omega) (by omega)
      have w2 : IntKind.u64.wrap (b.den : Int) = b.den := u64_id _ (by omega) (by omega)
      rw [eRat_s sa] at c1
      rw [eRat_s sb] at c2
      simp only [i1, i2, i3, i4, i5, i6, and_self, u64D, i64D] at c1 c2 c3 c4 c5 c6 ⊢
      have hs := sign_bd a.num
      generalize qcmp a b = r at *
      generalize a.num.natAbs * b.den = A at *
      generalize b.num.natAbs * a.den = C at *
      generalize a.num.sign = s at *
      generalize b.num.sign = t at *
      simp at c5 c6
      simp [c1, c2, c3, c4, c5, c6, w1, w2, hd']
      have hS : ∀ x, x = r → Sub (D.lit (.int .i64 x)) (.lit (.int .i64 r)) := fun x h => by rw [h]; exact Sub.refl _
      have v1 : IntKind.i64.wrap (-s) = -s := i64_id _ (by omega) (by omega)
      have v2 : IntKind.i64.wrap s = s := i64_id _ (by omega) (by omega)
      have v3 : IntKind.i64.wrap 0 = 0 := by rw [wrap_i64]; rfl
      rw [v1, v2, v3]
      clear d1 d2 d3 c1 c2 c3 c4 c5 c6 i1 i2 sa' sb' sa sb
      refine ⟨fun k => ⟨fun k1 => hS _ (f1 k1).symm, fun k1 => hS _ (f2 (by omega)).symm⟩, fun k => ?_⟩
      obtain ⟨g1, g2, g3⟩ := f3 k
      exact ⟨fun k1 => ⟨fun k2 => hS _ (g1 (by omega)).symm, fun k2 => hS _ (g2 (by omega)).symm⟩, fun k1 => ⟨fun k2 => ⟨fun k3 => hS _ (g1 (by omega)).symm, fun k3 => hS _ (g2 (by omega)).symm⟩, fun k2 => hS _ (g3 (by omega)).symm⟩⟩
  · by_cases sa : smallQ a
    · have sb : ¬ smallQ b := fun h => hab ⟨sa, h⟩
      rw [eRat_s sa] at d1 ⊢
      rw [eRat_b sb] at d2 ⊢
      simp only [i64D] at d1 d2
      simp [-D.isLit, i64D, d1, d2, d3, List.idxOf_cons]
    · rw [eRat_b sa] at d1 ⊢
      simp only [i64D] at d1
      simp [-D.isLit, i64D, d1, d2, d3, List.idxOf_cons]
theorem rcmp_ok : callable Tryz.prog 73 = true := by kernel_rfl

/-! QOk, allQ -/
def qOk (n d : Int) : Prop := (1 ≤ d ∧ d ≤ 1000000000000000000) ∧ (-1000000000000000000 ≤ n ∧ n ≤ 1000000000000000000) ∧ Int.gcd n d = 1
instance (n d : Int) : Decidable (qOk n d) := by unfold qOk; infer_instance
theorem qOk_QI {n d : Int} (h : qOk n d) : QI n d := ⟨by unfold qOk at h; omega, h.2.2, by unfold qOk at h; omega, by unfold qOk at h; omega⟩
noncomputable def qokC := ctD qE (fun p => I64 p.a ∧ I64 p.b) (fun p => [boolD (decide (qOk p.a p.b))])
theorem qokC_at (a b : Int) : qokC [eQ a b] = ((I64 a ∧ I64 b), [boolD (decide (qOk a b))]) := ctD_at qE_inj ⟨a, b⟩
theorem iQOk_spec : SpecD N Tryz.prog 143 qokC := by
  refine rdD (mf := fun f => false) lowTb_ok (fn := Tryz.f143) (by kernel_rfl) rfl (by kernel_rfl) ?_
  rintro ⟨n, d⟩ ⟨hn, hd⟩
  have hn : I64 n := hn
  have hd : I64 d := hd
  refine ⟨by show 1 ≤ 31; decide, ?_⟩
  have c1 := absC_at n
  have c2 := gcdC_at n.natAbs d.natAbs
  unfold I64 at hd
  have h2 : n.natAbs < 18446744073709551616 := by unfold I64 at hn; omega
  have h3 : d.natAbs < 18446744073709551616 := by omega
  have e3 : Nat.gcd n.natAbs d.natAbs = Int.gcd n d := rfl
  simp only [hn, h2, h3, e3, and_self, u64D, i64D] at c1 c2
  simp only [qE, eQ, i64D, Tryz.f143, boolD]
  have hw : 1 ≤ d → IntKind.u64.wrap d = (d.natAbs : Int) := fun h => by rw [wrap_u64]; omega
  have e : decide (qOk n d) = (decide (1 ≤ d) && (decide (d ≤ 1000000000000000000) && (decide (-1000000000000000000 ≤ n) && (decide (n ≤ 1000000000000000000) && decide (Int.gcd n d = 1))))) := by
    rw [← Bool.decide_and, ← Bool.decide_and, ← Bool.decide_and, ← Bool.decide_and]
    congr 1
    apply propext
    unfold qOk
    constructor
    · rintro ⟨⟨a, b⟩, ⟨c, e⟩, f⟩; exact ⟨a, b, c, e, f⟩
    · rintro ⟨a, b, c, e, f⟩; exact ⟨⟨a, b⟩, ⟨c, e⟩, f⟩
  rw [e]
  clear e e3
  generalize Int.gcd n d = g at *
  by_cases h1 : 1 ≤ d
  · have w1 := hw h1
    by_cases h4 : d ≤ 1000000000000000000 <;> by_cases h5 : -1000000000000000000 ≤ n <;> by_cases h6 : n ≤ 1000000000000000000 <;> simp [h1, h4, h5, h6, w1, c1, c2]
    by_cases h7 : g = 1
    · subst h7; simp
    · have h7' : ¬ (g : Int) = 1 := by omega
      simp [h7, h7']
  · simp [h1]
theorem iQOk_ok : callable Tryz.prog 143 = true := by kernel_rfl

/-- A list of fractions as the program gets it. -/
structure QL where
  l : List (Int × Int)
def eQL (l : List (Int × Int)) : D := .sl 2 (l.map fun p => eQ p.1 p.2)
def qlE (p : QL) : List D := [eQL p.l]
theorem eQ_inj {a b c d : Int} (h : eQ a b = eQ c d) : a = c ∧ b = d := by
  simp only [eQ, D.agg.injEq, List.cons.injEq, and_true] at h
  exact ⟨i64D_inj h.1, i64D_inj h.2⟩
theorem eQL_inj : ∀ {a b : List (Int × Int)}, eQL a = eQL b → a = b
  | [], [], _ => rfl
  | x :: a, y :: b, h => by
    simp only [eQL, D.sl.injEq, List.map_cons, List.cons.injEq, true_and] at h
    obtain ⟨h1, h2⟩ := eQ_inj h.1
    have h3 : eQL a = eQL b := by unfold eQL; rw [h.2]
    rw [eQL_inj h3]
    congr 1
    exact Prod.ext h1 h2
  | [], _ :: _, h => by simp [eQL] at h
  | _ :: _, [], h => by simp [eQL] at h
theorem qlE_inj (p q : QL) (h : qlE p = qlE q) : p = q := by
  obtain ⟨a⟩ := p; obtain ⟨b⟩ := q
  simp only [qlE, List.cons.injEq, and_true] at h
  rw [eQL_inj h]
def I64p (p : Int × Int) : Prop := I64 p.1 ∧ I64 p.2
noncomputable def allQC := ctD qlE (fun p => p.l.length < 4611686018427387904 ∧ ∀ q ∈ p.l, I64p q) (fun p => [boolD (p.l.all fun q => decide (qOk q.1 q.2))])
theorem allQC_at (l : List (Int × Int)) : allQC [eQL l] = ((l.length < 4611686018427387904 ∧ ∀ q ∈ l, I64p q), [boolD (l.all fun q => decide (qOk q.1 q.2))]) := ctD_at qlE_inj ⟨l⟩
noncomputable def allQTb : List (FuncId × Ct) := [(143, .data qokC)]
theorem allQTb_ok : TbOK N Tryz.prog (tbl allQTb) := tbl_cons (c := .data qokC) iQOk_spec iQOk_ok tbl_nil

@[simp] theorem allQTb1 : tbl allQTb 143 = some (.data qokC) := rfl
@[simp] theorem eQ_size (n d : Int) : (eQ n d).size = 2 := rfl
@[simp] theorem eQ_agg (n d : Int) : (eQ n d).isAgg = true := rfl
@[simp] theorem eQ_lit (n d : Int) : (eQ n d).isLit = false := rfl
def allQS (l : List (Int × Int)) (k : Nat) : St := ⟨[.any, .any, .any, .any, .any, .dat (eQL l), .dat (.lit (.int .i64 l.length)), .dat (.lit (.int .i64 k)), .any, .any, .any, .any, .any, .any, .any], [none, none, none, none, none, none, none, none, none, none, none, none, none, none, none]⟩
theorem all_drop {α : Type} (f : α → Bool) (l : List α) (k : Nat) (x : α) (h : l[k]? = some x) (hb : ∀ y ∈ l.take k, f y = true) : (f x = false → l.all f = false) ∧ (f x = true → ∀ y ∈ l.take (k + 1), f y = true) := by
  constructor
  · intro hx
    rw [List.all_eq_false]
    exact ⟨x, List.mem_of_getElem? h, by rw [hx]; simp⟩
  · intro hx y hy
    rw [take_succ l k x h] at hy
    rcases List.mem_append.1 hy with hy | hy
    · exact hb y hy
    · simp at hy; rw [hy]; exact hx
theorem allQ_spec : SpecD N Tryz.prog 98 allQC := by
  refine rdD (mf := fun f => false) allQTb_ok (fn := Tryz.f98) (by kernel_rfl) rfl (by kernel_rfl) ?_
  rintro ⟨l⟩ ⟨hl, hb⟩
  have hl : l.length < 4611686018427387904 := hl
  have hb : ∀ q ∈ l, I64p q := hb
  refine ⟨by show 1 ≤ 15; decide, ?_⟩
  simp only [qlE, boolD, Tryz.f98]
  generalize hr : (l.all fun q => decide (qOk q.1 q.2)) = r
  simp [eQL]
  refine loop_go (fun n st => ∃ k, n = l.length - k ∧ k ≤ l.length ∧ (∀ y ∈ l.take k, decide (qOk y.1 y.2) = true) ∧ st = allQS l k) (s0 := allQS l 0) (n := l.length) (snd_of (by simp [LeT, allQS, eQL]) (by simp [allQS])) ⟨0, rfl, Nat.zero_le _, by simp, rfl⟩ ?_
  rintro n st ⟨k, hn, hk, hall, rfl⟩ KN hN
  by_cases h : k < l.length
  · have hx := List.getElem?_eq_getElem h
    obtain ⟨⟨n0, d0⟩, hq⟩ : ∃ q, q = l[k] := ⟨_, rfl⟩
    rw [← hq] at hx
    have e1 : ix (l.map fun p => eQ p.1 p.2) k = some (eQ n0 d0) := by
      unfold ix
      rw [List.getElem?_map, hx]; rfl
    obtain ⟨i1, i2⟩ := hb (n0, d0) (List.mem_of_getElem? hx)
    have c1 := qokC_at n0 d0
    have i1 : I64 n0 := i1
    have i2 : I64 d0 := i2
    simp only [i1, i2, and_self, boolD] at c1
    obtain ⟨a1, a2⟩ := all_drop (fun q => decide (qOk q.1 q.2)) l k (n0, d0) hx hall
    have w1 : IntKind.i64.wrap ((k : Int) + 1) = (k : Int) + 1 := i64_id _ (by omega) (by omega)
    by_cases hok : qOk n0 d0
    · have a2 := a2 (by simp [hok])
      simp only [hok, decide_true] at c1
      simp [allQS, eQL, h, e1, c1, w1]
      exact hN _ (nx (m := l.length - (k + 1)) (s'' := allQS l (k + 1)) (snd_obs (n := 15) [] rfl (by simp) (by simp [allQS, eQL])) ⟨k + 1, rfl, h, a2, rfl⟩ (by omega))
    · have a1 := a1 (by simp [hok])
      rw [hr] at a1
      subst a1
      simp only [hok, decide_false] at c1
      simp [allQS, eQL, h, e1, c1, w1]
  · have hkl : k = l.length := by omega
    subst hkl
    rw [List.take_length] at hall
    have hrt : r = true := by rw [← hr, List.all_eq_true]; exact hall
    subst hrt
    simp [allQS, eQL]
theorem allQ_ok : callable Tryz.prog 98 = true := by kernel_rfl
end Go.Proofs.YtlniifhdimaliaaGreat.Ae

/-! The reference's fractions as opaque numbers: the contracts. No condition. -/
namespace Go.Proofs.YtlniifhdimaliaaGreat.Ae
open Go Go.RowKit Go.Proofs.YtlniifhdimaliaaGreat.Dig

theorem nn_z (z : Int) : ∀ k q, eZ z ≠ .num k q := fun k q h => by unfold eZ at h; cases h
theorem nn_i (z : Int) : ∀ k q, i64D z ≠ .num k q := fun k q h => by unfold i64D at h; cases h
theorem nn_q (a b : Int) : ∀ k q, eQ a b ≠ .num k q := fun k q h => by unfold eQ at h; cases h
theorem nn_b (b : Bool) : ∀ k q, boolD b ≠ .num k q := fun k q h => by unfold boolD at h; cases h

noncomputable def nAddC := ctD f2E (fun p => qsz p.a + qsz p.b < MX) (fun p => [nD (p.a + p.b)])
theorem nAddC_at (a b : Rat) : nAddC [nD a, nD b] = (qsz a + qsz b < MX, [nD (a + b)]) := ctD_at f2E_inj ⟨a, b⟩
theorem nAdd_spec : SpecD NF Tryz.prog 77 nAddC := specD_num' l1rAdd_spec (fun ⟨a, b⟩ h ds hc => by
  obtain ⟨r, s, h1, rfl, h2, rfl, rfl⟩ := cv2 hc
  have h : qsz r.val + qsz s.val < MX := h
  obtain ⟨s1, s2, s3, s4, s5, s6, s7⟩ := cross_sz h1 h2 h
  have c := rAddC_at r s
  rw [c]
  exact ⟨⟨h1.1, h2.1, s1, s2, s3, s5⟩, cv_to (add_ok h1 h2 h), trivial⟩)
noncomputable def nMulC := ctD f2E (fun p => qsz p.a + qsz p.b < MX) (fun p => [nD (p.a * p.b)])
theorem nMulC_at (a b : Rat) : nMulC [nD a, nD b] = (qsz a + qsz b < MX, [nD (a * b)]) := ctD_at f2E_inj ⟨a, b⟩
theorem nMul_spec : SpecD NF Tryz.prog 115 nMulC := specD_num' l1rMul_spec (fun ⟨a, b⟩ h ds hc => by
  obtain ⟨r, s, h1, rfl, h2, rfl, rfl⟩ := cv2 hc
  have h : qsz r.val + qsz s.val < MX := h
  obtain ⟨s1, s2, s3, s4, s5, s6, s7⟩ := cross_sz h1 h2 h
  have c := rMulC_at r s
  rw [c]
  exact ⟨⟨h1.1, h2.1, s6, s5⟩, cv_to (mul_ok h1 h2 h), trivial⟩)
noncomputable def nSubC := ctD f2E (fun p => qsz p.a + qsz p.b < MX) (fun p => [nD (p.a - p.b)])
theorem nSubC_at (a b : Rat) : nSubC [nD a, nD b] = (qsz a + qsz b < MX, [nD (a - b)]) := ctD_at f2E_inj ⟨a, b⟩
theorem nSub_spec : SpecD NF Tryz.prog 110 nSubC := specD_num' l1rSub_spec (fun ⟨a, b⟩ h ds hc => by
  obtain ⟨r, s, h1, rfl, h2, rfl, rfl⟩ := cv2 hc
  have h : qsz r.val + qsz s.val < MX := h
  obtain ⟨s1, s2, s3, s4, s5, s6, s7⟩ := cross_sz h1 h2 h
  have c := rSubC_at r s
  rw [c]
  exact ⟨⟨h1.1, h2.1, s1, s2, s4, s5⟩, cv_to (sub_ok h1 h2 h), trivial⟩)
noncomputable def nDivC := ctD f2E (fun p => qsz p.a + qsz p.b < MX ∧ p.b ≠ 0) (fun p => [nD (p.a / p.b)])
theorem nDivC_at (a b : Rat) : nDivC [nD a, nD b] = ((qsz a + qsz b < MX ∧ b ≠ 0), [nD (a / b)]) := ctD_at f2E_inj ⟨a, b⟩
theorem nDiv_spec : SpecD NF Tryz.prog 104 nDivC := specD_num' l1rDiv_spec (fun ⟨a, b⟩ h ds hc => by
  obtain ⟨r, s, h1, rfl, h2, rfl, rfl⟩ := cv2 hc
  obtain ⟨h, h0⟩ := h
  have h : qsz r.val + qsz s.val < MX := h
  have h0 : s.val ≠ 0 := h0
  obtain ⟨s1, s2, s3, s4, s5, s6, s7⟩ := cross_sz h1 h2 h
  have c := rDivC_at r s
  rw [c]
  exact ⟨⟨h1.1, h2.1, fun h' => h0 ((val_zero h2.1).2 h'), s1, s7⟩, cv_to (div_ok h1 h2 h0 h), trivial⟩)
noncomputable def nNegC := ctD f1E (fun p => True) (fun p => [nD (-p.a)])
theorem nNegC_at (a : Rat) : nNegC [nD a] = (True, [nD (-a)]) := ctD_at f1E_inj ⟨a⟩
theorem nNeg_spec : SpecD NF Tryz.prog 149 nNegC := specD_num' l1rNeg_spec (fun ⟨a⟩ h ds hc => by
  obtain ⟨r, h1, rfl, rfl⟩ := cv1 hc
  have c := rNegC_at r
  rw [c]
  exact ⟨h1.1, cv_to ⟨neg_WV h1, neg_val r⟩, trivial⟩)
noncomputable def nSignC := ctD f1E (fun p => True) (fun p => [i64D p.a.num.sign])
theorem nSignC_at (a : Rat) : nSignC [nD a] = (True, [i64D a.num.sign]) := ctD_at f1E_inj ⟨a⟩
theorem nSign_spec : SpecD NF Tryz.prog 96 nSignC := specD_num' l1rSign_spec (fun ⟨a⟩ h ds hc => by
  obtain ⟨r, h1, rfl, rfl⟩ := cv1 hc
  have c := rSignC_at r
  rw [c]
  refine ⟨h1.1, ?_⟩
  rw [sign_val h1.1]
  exact cvo1 (nn_i _))
noncomputable def nCmpC := ctD f2E (fun p => qsz p.a + qsz p.b < MX) (fun p => [i64D (qcmp p.a p.b)])
theorem nCmpC_at (a b : Rat) : nCmpC [nD a, nD b] = (qsz a + qsz b < MX, [i64D (qcmp a b)]) := ctD_at f2E_inj ⟨a, b⟩
theorem nCmp_spec : SpecD NF Tryz.prog 71 nCmpC := specD_num' l1rCmp_spec (fun ⟨a, b⟩ h ds hc => by
  obtain ⟨r, s, h1, rfl, h2, rfl, rfl⟩ := cv2 hc
  have h : qsz r.val + qsz s.val < MX := h
  obtain ⟨s1, s2, s3, s4, s5, s6, s7⟩ := cross_sz h1 h2 h
  have c := rCmpC_at r s
  rw [c]
  refine ⟨⟨h1.1, h2.1, s1, s2, s4⟩, ?_⟩
  rw [cmp_val h1.1 h2.1]
  exact cvo1 (nn_i _))
noncomputable def nFloorC := ctD f1E (fun p => True) (fun p => [eZ p.a.floor])
theorem nFloorC_at (a : Rat) : nFloorC [nD a] = (True, [eZ a.floor]) := ctD_at f1E_inj ⟨a⟩
def d3 (r : Int × Int × Bool) : List D := [eQ r.1 r.2.1, boolD r.2.2]
noncomputable def nQC := ctD f1E (fun p => True) (fun p => d3 (oq p.a))
theorem nQC_at (a : Rat) : nQC [nD a] = (True, d3 (oq a)) := ctD_at f1E_inj ⟨a⟩
theorem nQ_spec : SpecD NF Tryz.prog 64 nQC := specD_num' l1rQ_spec (fun ⟨a⟩ h ds hc => by
  obtain ⟨r, h1, rfl, rfl⟩ := cv1 hc
  have c := rQC_at r
  rw [c]
  refine ⟨h1.1, ?_⟩
  rw [qOf_val h1]
  exact cvo2 (nn_q _ _) (nn_b _))
noncomputable def nWholeC := ctD zE (fun p => SZ p.a) (fun p => [nD (p.a : Rat)])
theorem nWholeC_at (a : Int) : nWholeC [eZ a] = (SZ a, [nD (a : Rat)]) := ctD_at zE_inj ⟨a⟩
theorem divInt_one (a : Int) : Rat.divInt a 1 = (a : Rat) := by rw [Rat.divInt_eq_div]; grind
noncomputable def nqC := ctD qE (fun p => I64 p.a ∧ I64 p.b ∧ 0 < p.b) (fun p => [nD (Rat.divInt p.a p.b)])
theorem nqC_at (a b : Int) : nqC [eQ a b] = ((I64 a ∧ I64 b ∧ 0 < b), [nD (Rat.divInt a b)]) := ctD_at qE_inj ⟨a, b⟩
theorem nq_spec : SpecD NF Tryz.prog 97 nqC := specD_num' l1q_spec (fun ⟨a, b⟩ h ds hc => by
  obtain rfl := cvs1 (nn_q a b) hc
  obtain ⟨h1, h2, h3⟩ := h
  have h1 : I64 a := h1
  have h2 : I64 b := h2
  have h3 : 0 < b := h3
  have c := l1qC_at a b
  rw [c]
  exact ⟨⟨h1, h2, h3⟩, cv_to (ofR_ok h3 h1 h2), trivial⟩)
noncomputable def nOfC := ctD iiE (fun p => I64 p.a ∧ I64 p.b ∧ 0 < p.b) (fun p => [nD (Rat.divInt p.a p.b)])
theorem nOfC_at (a b : Int) : nOfC [i64D a, i64D b] = ((I64 a ∧ I64 b ∧ 0 < b), [nD (Rat.divInt a b)]) := ctD_at iiE_inj ⟨a, b⟩
theorem nOf_spec : SpecD NF Tryz.prog 128 nOfC := specD_num' l1rOf_spec (fun ⟨a, b⟩ h ds hc => by
  obtain rfl := cvs2 (nn_i a) (nn_i b) hc
  obtain ⟨h1, h2, h3⟩ := h
  have h1 : I64 a := h1
  have h2 : I64 b := h2
  have h3 : 0 < b := h3
  have c := ofC_at a b
  rw [c]
  exact ⟨⟨h1, h2, h3⟩, cv_to (ofR_ok h3 h1 h2), trivial⟩)
noncomputable def nBigC := ctD zzE (fun p => SZ p.a ∧ SZ p.b ∧ p.b ≠ 0) (fun p => [nD (Rat.divInt p.a p.b)])
theorem nBigC_at (a b : Int) : nBigC [eZ a, eZ b] = ((SZ a ∧ SZ b ∧ b ≠ 0), [nD (Rat.divInt a b)]) := ctD_at zzE_inj ⟨a, b⟩
theorem nBig_spec : SpecD NF Tryz.prog 129 nBigC := specD_num' l1rBig_spec (fun ⟨a, b⟩ h ds hc => by
  obtain rfl := cvs2 (nn_z a) (nn_z b) hc
  obtain ⟨h1, h2, h3⟩ := h
  have h1 : SZ a := h1
  have h2 : SZ b := h2
  have h3 : b ≠ 0 := h3
  have c := bigC_at a b
  rw [c]
  exact ⟨⟨h1, h2, h3⟩, cv_to (bigR_ok h3 h1 h2), trivial⟩)
theorem oQ_d3 (q : Rat) : oQ q = d3 (oq q) := by
  unfold oQ oq d3
  by_cases h : isQ q
  · rw [if_pos h, if_pos (show q.num.natAbs ≤ 1000000000000000000 ∧ q.den ≤ 1000000000000000000 from h)]
  · rw [if_neg h, if_neg (show ¬ (q.num.natAbs ≤ 1000000000000000000 ∧ q.den ≤ 1000000000000000000) from h)]
end Go.Proofs.YtlniifhdimaliaaGreat.Ae

/-! impl: QAdd, QSub, QMul, QDiv, QCmp, QFloor, QOf. No condition. -/
namespace Go.Proofs.YtlniifhdimaliaaGreat.Ae
open Go Go.RowKit Go.Proofs.YtlniifhdimaliaaGreat.Dig

structure Q4 where
  a : Int
  b : Int
  c : Int
  d : Int
def q4E (p : Q4) : List D := [eQ p.a p.b, eQ p.c p.d]
theorem q4E_inj (p q : Q4) (h : q4E p = q4E q) : p = q := by
  obtain ⟨a, b, c, d⟩ := p; obtain ⟨a', b', c', d'⟩ := q
  simp only [q4E, List.cons.injEq, and_true] at h
  obtain ⟨h1, h2⟩ := eQ_inj h.1
  obtain ⟨h3, h4⟩ := eQ_inj h.2
  simp only [h1, h2, h3, h4]
def I4 (p : Q4) : Prop := (I64 p.a ∧ I64 p.b) ∧ I64 p.c ∧ I64 p.d
def no3 : Int × Int × Bool := (0, 0, false)
def opR (ok : Prop) [Decidable ok] (F : Rat → Rat → Rat) (p : Q4) : Int × Int × Bool := if ok then oq (F (Rat.divInt p.a p.b) (Rat.divInt p.c p.d)) else no3
theorem opR_y {ok : Prop} [Decidable ok] {F : Rat → Rat → Rat} {p : Q4} (h : ok) : opR ok F p = oq (F (Rat.divInt p.a p.b) (Rat.divInt p.c p.d)) := if_pos h
theorem opR_n {ok : Prop} [Decidable ok] {F : Rat → Rat → Rat} {p : Q4} (h : ¬ ok) : opR ok F p = no3 := if_neg h
def ok2 (p : Q4) : Prop := qOk p.a p.b ∧ qOk p.c p.d
instance (p : Q4) : Decidable (ok2 p) := by unfold ok2; infer_instance
def okD (p : Q4) : Prop := ok2 p ∧ p.c ≠ 0
instance (p : Q4) : Decidable (okD p) := by unfold okD; infer_instance
def okF (p : Q4) : Prop := ok2 p ∧ 0 < p.c
instance (p : Q4) : Decidable (okF p) := by unfold okF; infer_instance
def flr (a b : Rat) : Rat := ((a / b).floor : Rat) * b
noncomputable def qaddC := ctD q4E I4 (fun p => d3 (opR (ok2 p) (· + ·) p))
noncomputable def qsubC := ctD q4E I4 (fun p => d3 (opR (ok2 p) (· - ·) p))
noncomputable def qmulC := ctD q4E I4 (fun p => d3 (opR (ok2 p) (· * ·) p))
noncomputable def qdivC := ctD q4E I4 (fun p => d3 (opR (okD p) (· / ·) p))
noncomputable def qflrC := ctD q4E I4 (fun p => d3 (opR (okF p) flr p))
noncomputable def qcmpC := ctD q4E I4 (fun p => [i64D (if ok2 p then qcmp (Rat.divInt p.a p.b) (Rat.divInt p.c p.d) else 2)])
noncomputable def qofC := ctD iiE (fun p => I64 p.a ∧ I64 p.b) (fun p => d3 (if p.b = 0 then no3 else oq (Rat.divInt p.a p.b)))
theorem qaddC_at (a b c d : Int) : qaddC [eQ a b, eQ c d] = (I4 ⟨a, b, c, d⟩, d3 (opR (ok2 ⟨a, b, c, d⟩) (· + ·) ⟨a, b, c, d⟩)) := ctD_at q4E_inj ⟨a, b, c, d⟩
theorem qsubC_at (a b c d : Int) : qsubC [eQ a b, eQ c d] = (I4 ⟨a, b, c, d⟩, d3 (opR (ok2 ⟨a, b, c, d⟩) (· - ·) ⟨a, b, c, d⟩)) := ctD_at q4E_inj ⟨a, b, c, d⟩
theorem qmulC_at (a b c d : Int) : qmulC [eQ a b, eQ c d] = (I4 ⟨a, b, c, d⟩, d3 (opR (ok2 ⟨a, b, c, d⟩) (· * ·) ⟨a, b, c, d⟩)) := ctD_at q4E_inj ⟨a, b, c, d⟩
theorem qdivC_at (a b c d : Int) : qdivC [eQ a b, eQ c d] = (I4 ⟨a, b, c, d⟩, d3 (opR (okD ⟨a, b, c, d⟩) (· / ·) ⟨a, b, c, d⟩)) := ctD_at q4E_inj ⟨a, b, c, d⟩
theorem qflrC_at (a b c d : Int) : qflrC [eQ a b, eQ c d] = (I4 ⟨a, b, c, d⟩, d3 (opR (okF ⟨a, b, c, d⟩) flr ⟨a, b, c, d⟩)) := ctD_at q4E_inj ⟨a, b, c, d⟩
theorem qcmpC_at (a b c d : Int) : qcmpC [eQ a b, eQ c d] = (I4 ⟨a, b, c, d⟩, [i64D (if ok2 ⟨a, b, c, d⟩ then qcmp (Rat.divInt a b) (Rat.divInt c d) else 2)]) := ctD_at q4E_inj ⟨a, b, c, d⟩
theorem qofC_at (a b : Int) : qofC [i64D a, i64D b] = ((I64 a ∧ I64 b), d3 (if b = 0 then no3 else oq (Rat.divInt a b))) := ctD_at iiE_inj ⟨a, b⟩
theorem d3_no : d3 no3 = [eQ 0 0, boolD false] := rfl
theorem QI_qsz {n d : Int} (h : QI n d) : qsz (Rat.divInt n d) ≤ 2 := smallQ_qsz (QI_small h)
theorem QI_ne {n d : Int} (h : QI n d) (h0 : n ≠ 0) : Rat.divInt n d ≠ 0 := fun e => by
  have := (QI_num h).1
  rw [e] at this
  exact h0 this.symm
theorem ln_floor (q : Rat) : ln q.floor.natAbs ≤ qsz q := by
  rw [Rat.floor_def]
  exact Nat.le_trans (ln_mono (natAbs_ediv_le _ _)) (qsz_num q)
theorem qsz_floor (q : Rat) : qsz (q.floor : Rat) ≤ qsz q := by
  rw [qsz_int]
  have h1 := ln_floor q
  have h2 := qsz_pos q
  omega
theorem allQ2 (a b c d : Int) (h : I4 ⟨a, b, c, d⟩) : allQC [.sl 2 [eQ a b, eQ c d]] = (True, [boolD (decide (ok2 ⟨a, b, c, d⟩))]) := by
  have h1 := allQC_at [(a, b), (c, d)]
  have h2 : ([(a, b), (c, d)] : List (Int × Int)).length < 4611686018427387904 ∧ ∀ q ∈ [(a, b), (c, d)], I64p q := by
    refine ⟨by simp, ?_⟩
    intro q hq
    simp at hq
    rcases hq with rfl | rfl
    · exact h.1
    · exact h.2
  have h3 : (([(a, b), (c, d)] : List (Int × Int)).all fun q => decide (qOk q.1 q.2)) = decide (ok2 ⟨a, b, c, d⟩) := by
    by_cases h1 : qOk a b <;> by_cases h2 : qOk c d <;> simp [ok2, h1, h2]
  rw [h3, eq_true h2] at h1
  exact h1
@[simp] theorem nav_eQ0 (n d : Int) : nav (eQ n d) [0] = some (.lit (.int .i64 n), 0) := rfl
@[simp] theorem nav_eQ1 (n d : Int) : nav (eQ n d) [1] = some (.lit (.int .i64 d), 1) := rfl
theorem eQ00 : eQ 0 0 = .agg [.lit (.int .i64 0), .lit (.int .i64 0)] := rfl

noncomputable def pqTb : List (FuncId × Ct) := [(98, .data allQC), (101, .data rqC), (84, .data raddC), (133, .data rsubC), (106, .data rmC), (108, .data rdvC), (73, .data rcC), (67, .data rqqC), (167, .mut [true, false, false] sfC), (176, .data newC), (137, .data fitC)]
theorem pqTb_ok {N : NR} : TbOK N Tryz.prog (tbl pqTb) := tbl_cons (c := .data allQC) allQ_spec allQ_ok (tbl_cons (c := .data rqC) rq_spec rq_ok (tbl_cons (c := .data raddC) radd_spec radd_ok (tbl_cons (c := .data rsubC) rsub_spec rsub_ok (tbl_cons (c := .data rmC) rmul_spec rmul_ok (tbl_cons (c := .data rdvC) rdiv_spec rdiv_ok (tbl_cons (c := .data rcC) rcmp_spec rcmp_ok (tbl_cons (c := .data rqqC) rqq_spec rqq_ok (tbl_cons (c := .mut [true, false, false] sfC) SetFrac_spec SetFrac_ok (tbl_cons (c := .data newC) newBigInt_spec newBigInt_ok (tbl_cons (c := .data fitC) fit_spec fit_ok tbl_nil))))))))))

@[simp] theorem pqTb1 : tbl pqTb 98 = some (.data allQC) := rfl
@[simp] theorem pqTb2 : tbl pqTb 101 = some (.data rqC) := rfl
@[simp] theorem pqTb3 : tbl pqTb 84 = some (.data raddC) := rfl
@[simp] theorem pqTb4 : tbl pqTb 133 = some (.data rsubC) := rfl
@[simp] theorem pqTb5 : tbl pqTb 106 = some (.data rmC) := rfl
@[simp] theorem pqTb6 : tbl pqTb 108 = some (.data rdvC) := rfl
@[simp] theorem pqTb7 : tbl pqTb 73 = some (.data rcC) := rfl
@[simp] theorem pqTb8 : tbl pqTb 67 = some (.data rqqC) := rfl
@[simp] theorem pqTb11 : tbl pqTb 167 = some (.mut [true, false, false] sfC) := rfl
@[simp] theorem pqTb12 : tbl pqTb 176 = some (.data newC) := rfl
@[simp] theorem pqTb13 : tbl pqTb 137 = some (.data fitC) := rfl
def pqMf : FuncId → Bool := fun f => f == 137 || f == 167
attribute [simp] pqMf

end Go.Proofs.YtlniifhdimaliaaGreat.Ae

/-! spec: QOk, QAdd, QSub, QMul, QDiv, QCmp, QFloor, QOf. No condition. -/
namespace Go.Proofs.YtlniifhdimaliaaGreat.Ae
open Go Go.RowKit Go.Proofs.YtlniifhdimaliaaGreat.Dig

noncomputable def sokTb : List (FuncId × Ct) := [(112, .data absC), (111, .data gcdC)]
theorem sokTb_ok : TbOK NF Tryz.prog (tbl sokTb) := tbl_cons (c := .data absC) l1Abs_spec l1Abs_ok (tbl_cons (c := .data gcdC) l1Gcd_spec l1Gcd_ok tbl_nil)

@[simp] theorem sokTb1 : tbl sokTb 112 = some (.data absC) := rfl
@[simp] theorem sokTb2 : tbl sokTb 111 = some (.data gcdC) := rfl
theorem sQOk_spec : SpecD NF Tryz.prog 94 qokC := by
  refine rdD (mf := fun f => false) sokTb_ok (fn := Tryz.f94) (by kernel_rfl) rfl (by kernel_rfl) ?_
  rintro ⟨n, d⟩ ⟨hn, hd⟩
  have hn : I64 n := hn
  have hd : I64 d := hd
  refine ⟨of_decide_eq_true (by kernel_rfl), ?_⟩
  have c1 := absC_at n
  have c2 := gcdC_at n.natAbs d.natAbs
  unfold I64 at hd
  have h2 : n.natAbs < 18446744073709551616 := by unfold I64 at hn; omega
  have h3 : d.natAbs < 18446744073709551616 := by omega
  have e3 : Nat.gcd n.natAbs d.natAbs = Int.gcd n d := rfl
  simp only [hn, h2, h3, e3, and_self, u64D, i64D] at c1 c2
  simp only [qE, i64D, Tryz.f94, boolD]
  have hw : ¬ d < 1 → IntKind.u64.wrap d = (d.natAbs : Int) := fun h => by rw [wrap_u64]; omega
  have e : decide (qOk n d) = (!(decide (d < 1)) && (!(decide (1000000000000000000 < d)) && (!(decide (n < -1000000000000000000)) && (!(decide (1000000000000000000 < n)) && decide (Int.gcd n d = 1))))) := by
    rw [← decide_not, ← decide_not, ← decide_not, ← decide_not, ← Bool.decide_and, ← Bool.decide_and, ← Bool.decide_and, ← Bool.decide_and]
    congr 1
    apply propext
    unfold qOk
    constructor
    · rintro ⟨⟨a, b⟩, ⟨c, e⟩, f⟩; exact ⟨by omega, by omega, by omega, by omega, f⟩
    · rintro ⟨a, b, c, e, f⟩; exact ⟨⟨by omega, by omega⟩, ⟨by omega, by omega⟩, f⟩
  rw [e]
  clear e e3
  generalize Int.gcd n d = g at *
  by_cases h1 : d < 1
  · simp [h1]
  · have w1 := hw h1
    by_cases h4 : 1000000000000000000 < d <;> by_cases h5 : n < -1000000000000000000 <;> by_cases h6 : 1000000000000000000 < n <;> simp [h1, h4, h5, h6, w1, c1, c2]
    by_cases h7 : g = 1
    · subst h7; simp
    · have h7' : ¬ (g : Int) = 1 := by omega
      simp [h7, h7']
theorem sQOk_ok : callable Tryz.prog 94 = true := by kernel_rfl

noncomputable def sqTbl : List (FuncId × Ct) := [(94, .data qokC), (97, .data nqC), (77, .data nAddC), (110, .data nSubC), (115, .data nMulC), (104, .data nDivC), (71, .data nCmpC), (64, .data nQC), (150, .data zOfC), (129, .data nBigC)]
theorem sqTbl_ok : TbOK NF Tryz.prog (tbl sqTbl) := tbl_cons (c := .data qokC) sQOk_spec sQOk_ok (tbl_cons (c := .data nqC) nq_spec l1q_ok (tbl_cons (c := .data nAddC) nAdd_spec l1rAdd_ok (tbl_cons (c := .data nSubC) nSub_spec l1rSub_ok (tbl_cons (c := .data nMulC) nMul_spec l1rMul_ok (tbl_cons (c := .data nDivC) nDiv_spec l1rDiv_ok (tbl_cons (c := .data nCmpC) nCmp_spec l1rCmp_ok (tbl_cons (c := .data nQC) nQ_spec l1rQ_ok (tbl_cons (c := .data zOfC) l1ZOf_spec l1ZOf_ok (tbl_cons (c := .data nBigC) nBig_spec l1rBig_ok tbl_nil)))))))))

@[simp] theorem sqTbl1 : tbl sqTbl 94 = some (.data qokC) := rfl
@[simp] theorem sqTbl2 : tbl sqTbl 97 = some (.data nqC) := rfl
@[simp] theorem sqTbl3 : tbl sqTbl 77 = some (.data nAddC) := rfl
@[simp] theorem sqTbl4 : tbl sqTbl 110 = some (.data nSubC) := rfl
@[simp] theorem sqTbl5 : tbl sqTbl 115 = some (.data nMulC) := rfl
@[simp] theorem sqTbl6 : tbl sqTbl 104 = some (.data nDivC) := rfl
@[simp] theorem sqTbl7 : tbl sqTbl 71 = some (.data nCmpC) := rfl
@[simp] theorem sqTbl8 : tbl sqTbl 64 = some (.data nQC) := rfl
@[simp] theorem sqTbl11 : tbl sqTbl 150 = some (.data zOfC) := rfl
@[simp] theorem sqTbl12 : tbl sqTbl 129 = some (.data nBigC) := rfl
theorem okC1 {a b c d : Int} (h : I4 ⟨a, b, c, d⟩) : (qokC [eQ a b] = (True, [.lit (.bool (decide (qOk a b)))])) ∧ qokC [eQ c d] = (True, [.lit (.bool (decide (qOk c d)))]) := by
  have c1 := qokC_at a b
  have c2 := qokC_at c d
  obtain ⟨⟨h1, h2⟩, h3, h4⟩ := h
  have h1 : I64 a := h1
  have h2 : I64 b := h2
  have h3 : I64 c := h3
  have h4 : I64 d := h4
  simp only [h1, h2, h3, h4, and_self, boolD] at c1 c2
  exact ⟨c1, c2⟩
theorem qOk_64 {n d : Int} (h : qOk n d) : I64 n ∧ I64 d ∧ 0 < d := by unfold qOk at h; unfold I64; omega

end Go.Proofs.YtlniifhdimaliaaGreat.Ae

/-! The laws on fractions: each law's function returns true. No condition. -/
namespace Go.Proofs.YtlniifhdimaliaaGreat.Ae
open Go Go.RowKit Go.Proofs.YtlniifhdimaliaaGreat.Dig

/-- A law's call, out of its contract. -/
theorem law_calls {f : FuncId} {g : List D → Prop × List D} (h : SpecD NF Tryz.prog f g) {ds : List D} (hp : (g ds).1) (hr : (g ds).2 = [boolD true]) {vs : List Value} {w : World} (hrep : RepVs NF (fun _ => False) w ds vs) :
    Calls Tryz.prog f vs.toArray w fun e w' => e = .returned (.bool true) ∧ Below w.heap.size w w' := by
  refine (h ds hp (fun _ => False) w vs (fun k hk => hk.elim) hrep).mono fun e w' ⟨v, he, hv, hfr⟩ => ?_
  rw [hr] at hv
  have hv : RepV NF _ w' (.lit (.bool true)) v := hv
  obtain ⟨rfl, _⟩ := RepV.lit hv
  exact ⟨he, ⟨hfr.os, hfr.tape, hfr.output, hfr.size, fun k hk => hfr.block k hk (fun h => h)⟩⟩
theorem repV_flat {N : NR} {F : Nat → Prop} {w : World} {d : D} {cs : List Value} (h : flatD d = some cs) (h1 : ∀ v ∈ cs, v.oneCell' = true) (ha : d.isAgg = true) : RepV N F w d (.agg cs.toArray) :=
  ⟨cs, flatD_rep d cs h h1, by unfold mkV; rw [ha]; rfl⟩
theorem repVs_nil {N : NR} {F : Nat → Prop} {w : World} : RepVs N F w [] [] := ⟨rfl, fun i d v h => by simp at h⟩
theorem repVs_cons {N : NR} {F : Nat → Prop} {w : World} {d : D} {v : Value} {ds : List D} {vs : List Value} (h : RepV N F w d v) (hs : RepVs N F w ds vs) : RepVs N F w (d :: ds) (v :: vs) :=
  ⟨by simp only [List.length_cons]; rw [hs.1], fun i e u h1 h2 => by
    cases i with
    | zero =>
      simp only [List.getElem?_cons_zero, Option.some.injEq] at h1 h2
      subst h1 h2
      exact h
    | succ i => exact hs.2 i e u (by simpa using h1) (by simpa using h2)⟩
theorem rep_q {N : NR} {F : Nat → Prop} {w : World} (a b : Int) : RepV N F w (eQ a b) (.agg #[.int .i64 a, .int .i64 b]) := repV_flat (cs := [.int .i64 a, .int .i64 b]) rfl (fun v hv => by simp at hv; rcases hv with rfl | rfl <;> rfl) rfl
theorem rep_i {N : NR} {F : Nat → Prop} {w : World} (a : Int) : RepV N F w (i64D a) (.int .i64 a) := RepV.of_lit rfl
theorem wf64 {a : Int} (h : (Lit.int .i64 a).wf = true) : I64 a := bounds_i64 h

noncomputable def toQC := ctD qE (fun _ => True) (fun p => [eQ p.a p.b])
theorem toQC_at (a b : Int) : toQC [eQ a b] = (True, [eQ a b]) := ctD_at qE_inj ⟨a, b⟩
theorem toQ_spec {N : NR} : SpecD N Tryz.prog 47 toQC := by
  refine rdD (mf := fun f => false) tbl_nil (fn := Tryz.f47) (by kernel_rfl) rfl (by kernel_rfl) ?_
  rintro ⟨a, b⟩ _
  refine ⟨of_decide_eq_true (by kernel_rfl), ?_⟩
  simp only [qE, Tryz.f47]
  simp [eQ, i64D]
theorem toQ_ok : callable Tryz.prog 47 = true := by kernel_rfl
noncomputable def eqQC := ctD q4E (fun _ => True) (fun p => [boolD (decide (p.a = p.c) && decide (p.b = p.d))])
theorem eqQC_at (a b c d : Int) : eqQC [eQ a b, eQ c d] = (True, [boolD (decide (a = c) && decide (b = d))]) := ctD_at q4E_inj ⟨a, b, c, d⟩
theorem eqQ_spec {N : NR} : SpecD N Tryz.prog 23 eqQC := by
  refine rdD (mf := fun f => false) tbl_nil (fn := Tryz.f23) (by kernel_rfl) rfl (by kernel_rfl) ?_
  rintro ⟨a, b, c, d⟩ _
  refine ⟨of_decide_eq_true (by kernel_rfl), ?_⟩
  simp only [q4E, Tryz.f23, boolD]
  by_cases h1 : a = c <;> by_cases h2 : b = d <;> simp [h1, h2]
theorem eqQ_ok : callable Tryz.prog 23 = true := by kernel_rfl
theorem eqQ_self (r : Int × Int × Bool) : eqQC [eQ r.1 r.2.1, eQ r.1 r.2.1] = (True, [.lit (.bool true)]) := by
  rw [eqQC_at]; simp [boolD]

noncomputable def lwQAddTb : List (FuncId × Ct) := [(47, .data toQC), (23, .data eqQC)]
theorem lwQAddTb_ok : TbOK NF Tryz.prog (tbl lwQAddTb) := tbl_cons (c := .data toQC) toQ_spec toQ_ok (tbl_cons (c := .data eqQC) eqQ_spec eqQ_ok tbl_nil)

@[simp] theorem lwQAddTb1 : tbl lwQAddTb 47 = some (.data toQC) := rfl
@[simp] theorem lwQAddTb2 : tbl lwQAddTb 23 = some (.data eqQC) := rfl
noncomputable def lwQAddC := ctD q4E I4 (fun _ => [boolD true])
noncomputable def lwQSubTb : List (FuncId × Ct) := [(47, .data toQC), (23, .data eqQC)]
theorem lwQSubTb_ok : TbOK NF Tryz.prog (tbl lwQSubTb) := tbl_cons (c := .data toQC) toQ_spec toQ_ok (tbl_cons (c := .data eqQC) eqQ_spec eqQ_ok tbl_nil)

@[simp] theorem lwQSubTb1 : tbl lwQSubTb 47 = some (.data toQC) := rfl
@[simp] theorem lwQSubTb2 : tbl lwQSubTb 23 = some (.data eqQC) := rfl
noncomputable def lwQSubC := ctD q4E I4 (fun _ => [boolD true])
noncomputable def lwQMulTb : List (FuncId × Ct) := [(47, .data toQC), (23, .data eqQC)]
theorem lwQMulTb_ok : TbOK NF Tryz.prog (tbl lwQMulTb) := tbl_cons (c := .data toQC) toQ_spec toQ_ok (tbl_cons (c := .data eqQC) eqQ_spec eqQ_ok tbl_nil)

@[simp] theorem lwQMulTb1 : tbl lwQMulTb 47 = some (.data toQC) := rfl
@[simp] theorem lwQMulTb2 : tbl lwQMulTb 23 = some (.data eqQC) := rfl
noncomputable def lwQMulC := ctD q4E I4 (fun _ => [boolD true])
noncomputable def lwQDivTb : List (FuncId × Ct) := [(47, .data toQC), (23, .data eqQC)]
theorem lwQDivTb_ok : TbOK NF Tryz.prog (tbl lwQDivTb) := tbl_cons (c := .data toQC) toQ_spec toQ_ok (tbl_cons (c := .data eqQC) eqQ_spec eqQ_ok tbl_nil)

@[simp] theorem lwQDivTb1 : tbl lwQDivTb 47 = some (.data toQC) := rfl
@[simp] theorem lwQDivTb2 : tbl lwQDivTb 23 = some (.data eqQC) := rfl
noncomputable def lwQDivC := ctD q4E I4 (fun _ => [boolD true])
noncomputable def lwQFloorTb : List (FuncId × Ct) := [(47, .data toQC), (23, .data eqQC)]
theorem lwQFloorTb_ok : TbOK NF Tryz.prog (tbl lwQFloorTb) := tbl_cons (c := .data toQC) toQ_spec toQ_ok (tbl_cons (c := .data eqQC) eqQ_spec eqQ_ok tbl_nil)

@[simp] theorem lwQFloorTb1 : tbl lwQFloorTb 47 = some (.data toQC) := rfl
@[simp] theorem lwQFloorTb2 : tbl lwQFloorTb 23 = some (.data eqQC) := rfl
noncomputable def lwQFloorC := ctD q4E I4 (fun _ => [boolD true])
noncomputable def lwQCmpTb : List (FuncId × Ct) := [(47, .data toQC), (23, .data eqQC)]
theorem lwQCmpTb_ok : TbOK NF Tryz.prog (tbl lwQCmpTb) := tbl_cons (c := .data toQC) toQ_spec toQ_ok (tbl_cons (c := .data eqQC) eqQ_spec eqQ_ok tbl_nil)

@[simp] theorem lwQCmpTb1 : tbl lwQCmpTb 47 = some (.data toQC) := rfl
@[simp] theorem lwQCmpTb2 : tbl lwQCmpTb 23 = some (.data eqQC) := rfl
noncomputable def lwQCmpC := ctD q4E I4 (fun _ => [boolD true])
noncomputable def lwQOfTb : List (FuncId × Ct) := [(47, .data toQC), (23, .data eqQC)]
theorem lwQOfTb_ok : TbOK NF Tryz.prog (tbl lwQOfTb) := tbl_cons (c := .data toQC) toQ_spec toQ_ok (tbl_cons (c := .data eqQC) eqQ_spec eqQ_ok tbl_nil)

@[simp] theorem lwQOfTb1 : tbl lwQOfTb 47 = some (.data toQC) := rfl
@[simp] theorem lwQOfTb2 : tbl lwQOfTb 23 = some (.data eqQC) := rfl
noncomputable def lwQOfC := ctD iiE (fun p => I64 p.a ∧ I64 p.b) (fun _ => [boolD true])
end Go.Proofs.YtlniifhdimaliaaGreat.Ae

/-! Contracts over several inputs; what a call of the fractions' functions asks and gives, as steps for simp. No condition. -/
namespace Go.Proofs.YtlniifhdimaliaaGreat.Ae
open Go Go.RowKit Go.Proofs.YtlniifhdimaliaaGreat.Dig

/-- A kind of input, as data. -/
structure Enc (α : Type) where
  e : α → D
  inj : ∀ a b, e a = e b → a = b
def ERat : Enc Rat := ⟨eRat, fun _ _ => eRat_inj⟩
def ENum : Enc Rat := ⟨nD, fun _ _ => nD_inj⟩
def EInt : Enc Int := ⟨i64D, fun _ _ => i64D_inj⟩
def EZ : Enc Int := ⟨eZ, fun _ _ => eZ_inj⟩
theorem boolD_inj {a b : Bool} (h : boolD a = boolD b) : a = b := by unfold boolD at h; injection h with h; injection h
def EBool : Enc Bool := ⟨boolD, fun _ _ => boolD_inj⟩
def EQ : Enc (Int × Int) := ⟨fun p => eQ p.1 p.2, fun _ _ h => Prod.ext (eQ_inj h).1 (eQ_inj h).2⟩
/-- A struct of two parts. -/
def Enc.pair {α β : Type} (A : Enc α) (B : Enc β) : Enc (α × β) := ⟨fun p => .agg [A.e p.1, B.e p.2], fun p q h => by
  simp only [D.agg.injEq, List.cons.injEq, and_true] at h
  exact Prod.ext (A.inj _ _ h.1) (B.inj _ _ h.2)⟩
def Enc.trip {α β γ : Type} (A : Enc α) (B : Enc β) (C : Enc γ) : Enc (α × β × γ) := ⟨fun p => .agg [A.e p.1, B.e p.2.1, C.e p.2.2], fun p q h => by
  simp only [D.agg.injEq, List.cons.injEq, and_true] at h
  exact Prod.ext (A.inj _ _ h.1) (Prod.ext (B.inj _ _ h.2.1) (C.inj _ _ h.2.2))⟩
theorem map_inj {α : Type} (E : Enc α) : ∀ {a b : List α}, a.map E.e = b.map E.e → a = b
  | [], [], _ => rfl
  | x :: a, y :: b, h => by
    simp only [List.map_cons, List.cons.injEq] at h
    rw [E.inj _ _ h.1, map_inj E h.2]
  | [], _ :: _, h => by simp at h
  | _ :: _, [], h => by simp at h
/-- A slice. -/
def Enc.list {α : Type} (sz : Nat) (E : Enc α) : Enc (List α) := ⟨fun l => .sl sz (l.map E.e), fun a b h => by
  injection h with _ h; exact map_inj E h⟩
noncomputable def ct1 {α : Type} (A : Enc α) (pre : α → Prop) (post : α → List D) := ctD (fun a => [A.e a]) pre post
theorem ct1_at {α : Type} {A : Enc α} {pre : α → Prop} {post : α → List D} (a : α) : ct1 A pre post [A.e a] = (pre a, post a) :=
  ctD_at (e := fun a => [A.e a]) (fun a b h => by simp only [List.cons.injEq, and_true] at h; exact A.inj _ _ h) a
noncomputable def ct2 {α β : Type} (A : Enc α) (B : Enc β) (pre : α → β → Prop) (post : α → β → List D) := ctD (fun p : α × β => [A.e p.1, B.e p.2]) (fun p => pre p.1 p.2) (fun p => post p.1 p.2)
theorem ct2_at {α β : Type} {A : Enc α} {B : Enc β} {pre : α → β → Prop} {post : α → β → List D} (a : α) (b : β) : ct2 A B pre post [A.e a, B.e b] = (pre a b, post a b) :=
  ctD_at (e := fun p : α × β => [A.e p.1, B.e p.2]) (fun p q h => by simp only [List.cons.injEq, and_true] at h; exact Prod.ext (A.inj _ _ h.1) (B.inj _ _ h.2)) (a, b)
noncomputable def ct3 {α β γ : Type} (A : Enc α) (B : Enc β) (C : Enc γ) (pre : α → β → γ → Prop) (post : α → β → γ → List D) := ctD (fun p : α × β × γ => [A.e p.1, B.e p.2.1, C.e p.2.2]) (fun p => pre p.1 p.2.1 p.2.2) (fun p => post p.1 p.2.1 p.2.2)
theorem ct3_at {α β γ : Type} {A : Enc α} {B : Enc β} {C : Enc γ} {pre : α → β → γ → Prop} {post : α → β → γ → List D} (a : α) (b : β) (c : γ) : ct3 A B C pre post [A.e a, B.e b, C.e c] = (pre a b c, post a b c) :=
  ctD_at (e := fun p : α × β × γ => [A.e p.1, B.e p.2.1, C.e p.2.2]) (fun p q h => by simp only [List.cons.injEq, and_true] at h; exact Prod.ext (A.inj _ _ h.1) (Prod.ext (B.inj _ _ h.2.1) (C.inj _ _ h.2.2))) (a, b, c)
noncomputable def ct4 {α β γ δ : Type} (A : Enc α) (B : Enc β) (C : Enc γ) (E : Enc δ) (pre : α → β → γ → δ → Prop) (post : α → β → γ → δ → List D) := ctD (fun p : α × β × γ × δ => [A.e p.1, B.e p.2.1, C.e p.2.2.1, E.e p.2.2.2]) (fun p => pre p.1 p.2.1 p.2.2.1 p.2.2.2) (fun p => post p.1 p.2.1 p.2.2.1 p.2.2.2)
theorem ct4_at {α β γ δ : Type} {A : Enc α} {B : Enc β} {C : Enc γ} {E : Enc δ} {pre : α → β → γ → δ → Prop} {post : α → β → γ → δ → List D} (a : α) (b : β) (c : γ) (d : δ) : ct4 A B C E pre post [A.e a, B.e b, C.e c, E.e d] = (pre a b c d, post a b c d) :=
  ctD_at (e := fun p : α × β × γ × δ => [A.e p.1, B.e p.2.1, C.e p.2.2.1, E.e p.2.2.2]) (fun p q h => by simp only [List.cons.injEq, and_true] at h; exact Prod.ext (A.inj _ _ h.1) (Prod.ext (B.inj _ _ h.2.1) (Prod.ext (C.inj _ _ h.2.2.1) (E.inj _ _ h.2.2.2)))) (a, b, c, d)
/-- A function's contract, out of its reading. -/
theorem rd1 {N : NR} {α : Type} {A : Enc α} {pre : α → Prop} {post : α → List D} {f : FuncId} {fn : Func} {c : Code} {mf : FuncId → Bool} {tb : FuncId → Option Ct} (htb : TbOK N Tryz.prog tb) (hf : Tryz.prog.funcs[f]? = some fn) (hb : fn.body = some c) (hd : drawAll mf c = true) (hl : Nat.ble 1 fn.ntmps = true)
    (h : ∀ a, pre a → awp Tryz.prog mf tb c (start fn.ntmps ([A.e a].map .dat) []) (endK Tryz.prog fn.ntmps fn.results.toList ((post a).map .dat) [])) : SpecD N Tryz.prog f (ct1 A pre post) :=
  rdD htb hf hb hd (fun a ha => ⟨Nat.le_of_ble_eq_true hl, h a ha⟩)
theorem rd2 {N : NR} {α β : Type} {A : Enc α} {B : Enc β} {pre : α → β → Prop} {post : α → β → List D} {f : FuncId} {fn : Func} {c : Code} {mf : FuncId → Bool} {tb : FuncId → Option Ct} (htb : TbOK N Tryz.prog tb) (hf : Tryz.prog.funcs[f]? = some fn) (hb : fn.body = some c) (hd : drawAll mf c = true) (hl : Nat.ble 2 fn.ntmps = true)
    (h : ∀ a b, pre a b → awp Tryz.prog mf tb c (start fn.ntmps ([A.e a, B.e b].map .dat) []) (endK Tryz.prog fn.ntmps fn.results.toList ((post a b).map .dat) [])) : SpecD N Tryz.prog f (ct2 A B pre post) :=
  rdD htb hf hb hd (fun p ha => ⟨Nat.le_of_ble_eq_true hl, h p.1 p.2 ha⟩)
theorem rd3 {N : NR} {α β γ : Type} {A : Enc α} {B : Enc β} {C : Enc γ} {pre : α → β → γ → Prop} {post : α → β → γ → List D} {f : FuncId} {fn : Func} {c : Code} {mf : FuncId → Bool} {tb : FuncId → Option Ct} (htb : TbOK N Tryz.prog tb) (hf : Tryz.prog.funcs[f]? = some fn) (hb : fn.body = some c) (hd : drawAll mf c = true) (hl : Nat.ble 3 fn.ntmps = true)
    (h : ∀ a b d, pre a b d → awp Tryz.prog mf tb c (start fn.ntmps ([A.e a, B.e b, C.e d].map .dat) []) (endK Tryz.prog fn.ntmps fn.results.toList ((post a b d).map .dat) [])) : SpecD N Tryz.prog f (ct3 A B C pre post) :=
  rdD htb hf hb hd (fun p ha => ⟨Nat.le_of_ble_eq_true hl, h p.1 p.2.1 p.2.2 ha⟩)
theorem rd4 {N : NR} {α β γ δ : Type} {A : Enc α} {B : Enc β} {C : Enc γ} {E : Enc δ} {pre : α → β → γ → δ → Prop} {post : α → β → γ → δ → List D} {f : FuncId} {fn : Func} {c : Code} {mf : FuncId → Bool} {tb : FuncId → Option Ct} (htb : TbOK N Tryz.prog tb) (hf : Tryz.prog.funcs[f]? = some fn) (hb : fn.body = some c) (hd : drawAll mf c = true) (hl : Nat.ble 4 fn.ntmps = true)
    (h : ∀ a b d g, pre a b d g → awp Tryz.prog mf tb c (start fn.ntmps ([A.e a, B.e b, C.e d, E.e g].map .dat) []) (endK Tryz.prog fn.ntmps fn.results.toList ((post a b d g).map .dat) [])) : SpecD N Tryz.prog f (ct4 A B C E pre post) :=
  rdD htb hf hb hd (fun p ha => ⟨Nat.le_of_ble_eq_true hl, h p.1 p.2.1 p.2.2.1 p.2.2.2 ha⟩)
/-- A table in which every entry is right. -/
structure Ok (N : NR) (p : FuncId × Ct) : Prop where
  ok : CtOK N Tryz.prog p.1 p.2
  ca : callable Tryz.prog p.1 = true
theorem tblAll {N : NR} : ∀ (l : List (FuncId × Ct)), (∀ p ∈ l, Ok N p) → TbOK N Tryz.prog (tbl l)
  | [], _ => tbl_nil
  | p :: l, h => tbl_cons (h p (by simp)).ok (h p (by simp)).ca (tblAll l (fun q hq => h q (by simp [hq])))
/-- Of moderate length, all together. -/
def LM : Nat := 1000000000
theorem MX_val : MX = 549755813888 := rfl
theorem LM_val : LM = 1000000000 := rfl
def EP : Enc (Rat × Rat) := ERat.pair ERat
def EPn : Enc (Rat × Rat) := ENum.pair ENum
def EV : Enc ((Int × Int) × Int × Int) := EQ.pair EQ
def vOk (v : (Int × Int) × Int × Int) : Prop := qOk v.1.1 v.1.2 ∧ qOk v.2.1 v.2.2
instance (v : (Int × Int) × Int × Int) : Decidable (vOk v) := by unfold vOk; infer_instance
/-- A place as fractions. -/
def vq (v : (Int × Int) × Int × Int) : Rat × Rat := (Rat.divInt v.1.1 v.1.2, Rat.divInt v.2.1 v.2.2)
def V64 (v : (Int × Int) × Int × Int) : Prop := (I64 v.1.1 ∧ I64 v.1.2) ∧ I64 v.2.1 ∧ I64 v.2.2
def psz (p : Rat × Rat) : Nat := qsz p.1 + qsz p.2
theorem vOk_sz {v : (Int × Int) × Int × Int} (h : vOk v) : qsz (Rat.divInt v.1.1 v.1.2) ≤ 2 ∧ qsz (Rat.divInt v.2.1 v.2.2) ≤ 2 := ⟨QI_qsz (qOk_QI h.1), QI_qsz (qOk_QI h.2)⟩
@[simp] theorem EP_e (x y : Rat) : EP.e (x, y) = .agg [eRat x, eRat y] := rfl
@[simp] theorem EPn_e (x y : Rat) : EPn.e (x, y) = .agg [nD x, nD y] := rfl
@[simp] theorem EV_e (a b c d : Int) : EV.e ((a, b), c, d) = .agg [eQ a b, eQ c d] := rfl
@[simp] theorem ERat_e (x : Rat) : ERat.e x = eRat x := rfl
@[simp] theorem ENum_e (x : Rat) : ENum.e x = nD x := rfl
@[simp] theorem EInt_e (x : Int) : EInt.e x = i64D x := rfl
@[simp] theorem EBool_e (x : Bool) : EBool.e x = boolD x := rfl
@[simp] theorem EQ_e (a b : Int) : EQ.e (a, b) = eQ a b := rfl
section
variable (a b : Rat) (n d : Int)
@[simp] theorem z_add : raddC [eRat a, eRat b] = (qsz a + qsz b < MX, [eRat (a + b)]) := raddC_at a b
@[simp] theorem z_sub : rsubC [eRat a, eRat b] = (qsz a + qsz b < MX, [eRat (a - b)]) := rsubC_at a b
@[simp] theorem z_mul : rmC [eRat a, eRat b] = (qsz a + qsz b < MX, [eRat (a * b)]) := rmC_at a b
@[simp] theorem z_div : rdvC [eRat a, eRat b] = ((qsz a + qsz b < MX ∧ b ≠ 0), [eRat (a / b)]) := rdvC_at a b
@[simp] theorem z_neg : rngC [eRat a] = (qsz a < MX, [eRat (-a)]) := rngC_at a
@[simp] theorem z_inv : rinvC [eRat a] = ((qsz a < MX ∧ a ≠ 0), [eRat a⁻¹]) := rinvC_at a
@[simp] theorem z_cmp : rcC [eRat a, eRat b] = (qsz a + qsz b < MX, [.lit (.int .i64 (qcmp a b))]) := rcC_at a b
@[simp] theorem z_sign : rsgC [eRat a] = (True, [.lit (.int .i64 a.num.sign)]) := rsgC_at a
@[simp] theorem z_q : rqqC [eRat a] = (True, [eQ (oq a).1 (oq a).2.1, .lit (.bool (oq a).2.2)]) := by rw [rqqC_at, oQ_d3]; rfl
@[simp] theorem z_rq : rqC [eQ n d] = (QI n d, [eRat (Rat.divInt n d)]) := rqC_at n d
@[simp] theorem z_ri : riC [.lit (.int .i64 n)] = (n.natAbs < 9223372036854775808, [eRat (n : Rat)]) := riC_at n
@[simp] theorem z_floor : rflC [eRat a] = (qsz a < MX, [.ptr (eZ a.floor)]) := rflC_at a
@[simp] theorem z_fromInt : fiC [.ptr (eZ n)] = (ln n.natAbs < MX, [eRat (n : Rat)]) := fiC_at n
@[simp] theorem n_add : nAddC [nD a, nD b] = (qsz a + qsz b < MX, [nD (a + b)]) := nAddC_at a b
@[simp] theorem n_sub : nSubC [nD a, nD b] = (qsz a + qsz b < MX, [nD (a - b)]) := nSubC_at a b
@[simp] theorem n_mul : nMulC [nD a, nD b] = (qsz a + qsz b < MX, [nD (a * b)]) := nMulC_at a b
@[simp] theorem n_div : nDivC [nD a, nD b] = ((qsz a + qsz b < MX ∧ b ≠ 0), [nD (a / b)]) := nDivC_at a b
@[simp] theorem n_neg : nNegC [nD a] = (True, [nD (-a)]) := nNegC_at a
@[simp] theorem n_cmp : nCmpC [nD a, nD b] = (qsz a + qsz b < MX, [.lit (.int .i64 (qcmp a b))]) := nCmpC_at a b
@[simp] theorem n_sign : nSignC [nD a] = (True, [.lit (.int .i64 a.num.sign)]) := nSignC_at a
@[simp] theorem n_q : nQC [nD a] = (True, [eQ (oq a).1 (oq a).2.1, .lit (.bool (oq a).2.2)]) := nQC_at a
@[simp] theorem n_lq : nqC [eQ n d] = ((I64 n ∧ I64 d ∧ 0 < d), [nD (Rat.divInt n d)]) := nqC_at n d
@[simp] theorem n_of : nOfC [.lit (.int .i64 n), .lit (.int .i64 d)] = ((I64 n ∧ I64 d ∧ 0 < d), [nD (Rat.divInt n d)]) := nOfC_at n d
@[simp] theorem n_floor : nFloorC [nD a] = (True, [eZ a.floor]) := nFloorC_at a
@[simp] theorem n_whole : nWholeC [eZ n] = (SZ n, [nD (n : Rat)]) := nWholeC_at n
@[simp] theorem n_big : nBigC [eZ n, eZ d] = ((SZ n ∧ SZ d ∧ d ≠ 0), [nD (Rat.divInt n d)]) := nBigC_at n d
@[simp] theorem n_zof : zOfC [.lit (.int .i64 n)] = (I64 n, [eZ n]) := zOfC_at n
@[simp] theorem n_zadd : zAddC [eZ n, eZ d] = ((SZ n ∧ SZ d), [eZ (n + d)]) := zAddC_at n d
@[simp] theorem z_ok : qokC [eQ n d] = ((I64 n ∧ I64 d), [.lit (.bool (decide (qOk n d)))]) := qokC_at n d
@[simp] theorem z_toQ : toQC [eQ n d] = (True, [eQ n d]) := toQC_at n d
end
theorem z_all2 (a b c d : Int) : allQC [.sl 2 [eQ a b, eQ c d]] = (((I64 a ∧ I64 b) ∧ I64 c ∧ I64 d), [.lit (.bool (decide (qOk a b) && decide (qOk c d)))]) := by
  have h1 := allQC_at [(a, b), (c, d)]
  have h2 : (([(a, b), (c, d)] : List (Int × Int)).length < 4611686018427387904 ∧ ∀ q ∈ [(a, b), (c, d)], I64p q) ↔ ((I64 a ∧ I64 b) ∧ I64 c ∧ I64 d) := by
    constructor
    · rintro ⟨_, h⟩
      exact ⟨h (a, b) (by simp), h (c, d) (by simp)⟩
    · rintro ⟨h1, h2⟩
      refine ⟨by simp, ?_⟩
      intro q hq
      simp at hq
      rcases hq with rfl | rfl
      · exact h1
      · exact h2
  rw [propext h2] at h1
  have h3 : (([(a, b), (c, d)] : List (Int × Int)).all fun q => decide (qOk q.1 q.2)) = (decide (qOk a b) && decide (qOk c d)) := by simp
  rw [h3] at h1
  exact h1
attribute [simp] z_all2
end Go.Proofs.YtlniifhdimaliaaGreat.Ae

/-! impl: places of the plane; VOk, pv, cmp, sub, cross, turn. No condition. -/
namespace Go.Proofs.YtlniifhdimaliaaGreat.Ae
open Go Go.RowKit Go.Proofs.YtlniifhdimaliaaGreat.Dig
def crossQ (a b c d : Rat) : Rat := a * d - b * c
def turnQ (a b c d e f : Rat) : Rat := crossQ (c - a) (d - b) (e - a) (f - b)
/-- How two places compare. -/
def pcmp (a b c d : Rat) : Int := if qcmp a c = 0 then qcmp b d else qcmp a c
theorem qcmp_bd (a b : Rat) : -1 ≤ qcmp a b ∧ qcmp a b ≤ 1 := sign_bd _
theorem pcmp_bd (a b c d : Rat) : -1 ≤ pcmp a b c d ∧ pcmp a b c d ≤ 1 := by unfold pcmp; split <;> exact qcmp_bd _ _
theorem sub_lit {x y : Int} (h : x = y) : Sub (.lit (.int .i64 x)) (.lit (.int .i64 y)) := by rw [h]; exact Sub.refl _

/-! i.VOk -/
noncomputable def iVOkC := ct1 EV (fun p0 => ((I64 p0.1.1 ∧ I64 p0.1.2) ∧ I64 p0.2.1 ∧ I64 p0.2.2)) (fun p0 => [.lit (.bool (decide (qOk p0.1.1 p0.1.2) && decide (qOk p0.2.1 p0.2.2)))])
@[simp] theorem iVOkC_at (a b c d : Int) : iVOkC [.agg [eQ a b, eQ c d]] = (((I64 a ∧ I64 b) ∧ I64 c ∧ I64 d), [.lit (.bool (decide (qOk a b) && decide (qOk c d)))]) := ct1_at ((a, b), c, d)
noncomputable def iVOkTb : List (FuncId × Ct) := [(98, .data allQC)]
theorem iVOkTb_ok {N : NR} : TbOK N Tryz.prog (tbl iVOkTb) := tbl_cons (c := .data allQC) allQ_spec allQ_ok tbl_nil

@[simp] theorem iVOkTb1 : tbl iVOkTb 98 = some (.data allQC) := rfl
theorem iVOk_spec {N : NR} : SpecD N Tryz.prog 48 iVOkC := by
  refine rd1 (mf := fun f => false) iVOkTb_ok (fn := Tryz.f48) (by kernel_rfl) rfl (by kernel_rfl) (by kernel_rfl) ?_
  rintro ⟨⟨a, b⟩, c, d⟩ hp
  have hp : ((I64 a ∧ I64 b) ∧ I64 c ∧ I64 d) := hp
  show awp _ _ _ _ (start _ ([.agg [eQ a b, eQ c d]].map .dat) []) (endK _ _ _ (([.lit (.bool (decide (qOk a b) && decide (qOk c d)))]).map .dat) [])
  simp [-D.isLit, Tryz.f48]
  exact hp
theorem iVOk_ok : callable Tryz.prog 48 = true := by kernel_rfl

/-! i.pv -/
noncomputable def pvC := ct1 EV (fun p0 => QI p0.1.1 p0.1.2 ∧ QI p0.2.1 p0.2.2) (fun p0 => [.agg [eRat (Rat.divInt p0.1.1 p0.1.2), eRat (Rat.divInt p0.2.1 p0.2.2)]])
@[simp] theorem pvC_at (a b c d : Int) : pvC [.agg [eQ a b, eQ c d]] = (QI a b ∧ QI c d, [.agg [eRat (Rat.divInt a b), eRat (Rat.divInt c d)]]) := ct1_at ((a, b), c, d)
noncomputable def pvTb : List (FuncId × Ct) := [(101, .data rqC)]
theorem pvTb_ok {N : NR} : TbOK N Tryz.prog (tbl pvTb) := tbl_cons (c := .data rqC) rq_spec rq_ok tbl_nil

@[simp] theorem pvTb1 : tbl pvTb 101 = some (.data rqC) := rfl
theorem pv_spec {N : NR} : SpecD N Tryz.prog 52 pvC := by
  refine rd1 (mf := fun f => false) pvTb_ok (fn := Tryz.f52) (by kernel_rfl) rfl (by kernel_rfl) (by kernel_rfl) ?_
  rintro ⟨⟨a, b⟩, c, d⟩ hp
  have hp : QI a b ∧ QI c d := hp
  show awp _ _ _ _ (start _ ([.agg [eQ a b, eQ c d]].map .dat) []) (endK _ _ _ (([.agg [eRat (Rat.divInt a b), eRat (Rat.divInt c d)]]).map .dat) [])
  simp [-D.isLit, Tryz.f52, hp]
theorem pv_ok : callable Tryz.prog 52 = true := by kernel_rfl

/-! (i.pt).cmp -/
noncomputable def ptcmpC := ct2 EP EP (fun p0 p1 => qsz p0.1 + qsz p0.2 + qsz p1.1 + qsz p1.2 < LM) (fun p0 p1 => [.lit (.int .i64 (pcmp p0.1 p0.2 p1.1 p1.2))])
@[simp] theorem ptcmpC_at (a b : Rat) (c d : Rat) : ptcmpC [.agg [eRat a, eRat b], .agg [eRat c, eRat d]] = (qsz a + qsz b + qsz c + qsz d < LM, [.lit (.int .i64 (pcmp a b c d))]) := ct2_at (a, b) (c, d)
noncomputable def ptcmpTb : List (FuncId × Ct) := [(73, .data rcC)]
theorem ptcmpTb_ok {N : NR} : TbOK N Tryz.prog (tbl ptcmpTb) := tbl_cons (c := .data rcC) rcmp_spec rcmp_ok tbl_nil

@[simp] theorem ptcmpTb1 : tbl ptcmpTb 73 = some (.data rcC) := rfl
theorem ptcmp_spec {N : NR} : SpecD N Tryz.prog 119 ptcmpC := by
  refine rd2 (mf := fun f => false) ptcmpTb_ok (fn := Tryz.f119) (by kernel_rfl) rfl (by kernel_rfl) (by kernel_rfl) ?_
  rintro ⟨a, b⟩ ⟨c, d⟩ hp
  have hp : qsz a + qsz b + qsz c + qsz d < LM := hp
  show awp _ _ _ _ (start _ ([.agg [eRat a, eRat b], .agg [eRat c, eRat d]].map .dat) []) (endK _ _ _ (([.lit (.int .i64 (pcmp a b c d))]).map .dat) [])
  simp [-D.isLit, Tryz.f119]
  refine ⟨by grind [qsz_add, qsz_sub, qsz_mul, qsz_neg, MX_val, LM_val], fun h => ?_, fun h => ⟨by grind [qsz_add, qsz_sub, qsz_mul, qsz_neg, MX_val, LM_val], ?_⟩⟩
  · exact sub_lit (by unfold pcmp; rw [if_neg h])
  · exact sub_lit (by unfold pcmp; rw [if_pos h])
theorem ptcmp_ok : callable Tryz.prog 119 = true := by kernel_rfl

/-! (i.pt).sub -/
noncomputable def ptsubC := ct2 EP EP (fun p0 p1 => qsz p0.1 + qsz p0.2 + qsz p1.1 + qsz p1.2 < LM) (fun p0 p1 => [.agg [eRat (p0.1 - p1.1), eRat (p0.2 - p1.2)]])
@[simp] theorem ptsubC_at (a b : Rat) (c d : Rat) : ptsubC [.agg [eRat a, eRat b], .agg [eRat c, eRat d]] = (qsz a + qsz b + qsz c + qsz d < LM, [.agg [eRat (a - c), eRat (b - d)]]) := ct2_at (a, b) (c, d)
noncomputable def ptsubTb : List (FuncId × Ct) := [(133, .data rsubC)]
theorem ptsubTb_ok {N : NR} : TbOK N Tryz.prog (tbl ptsubTb) := tbl_cons (c := .data rsubC) rsub_spec rsub_ok tbl_nil

@[simp] theorem ptsubTb1 : tbl ptsubTb 133 = some (.data rsubC) := rfl
theorem ptsub_spec {N : NR} : SpecD N Tryz.prog 105 ptsubC := by
  refine rd2 (mf := fun f => false) ptsubTb_ok (fn := Tryz.f105) (by kernel_rfl) rfl (by kernel_rfl) (by kernel_rfl) ?_
  rintro ⟨a, b⟩ ⟨c, d⟩ hp
  have hp : qsz a + qsz b + qsz c + qsz d < LM := hp
  show awp _ _ _ _ (start _ ([.agg [eRat a, eRat b], .agg [eRat c, eRat d]].map .dat) []) (endK _ _ _ (([.agg [eRat (a - c), eRat (b - d)]]).map .dat) [])
  simp [-D.isLit, Tryz.f105]
  grind [qsz_add, qsz_sub, qsz_mul, qsz_neg, MX_val, LM_val]
theorem ptsub_ok : callable Tryz.prog 105 = true := by kernel_rfl

/-! i.cross -/
noncomputable def crsC := ct2 EP EP (fun p0 p1 => qsz p0.1 + qsz p0.2 + qsz p1.1 + qsz p1.2 < LM) (fun p0 p1 => [eRat (crossQ p0.1 p0.2 p1.1 p1.2)])
@[simp] theorem crsC_at (a b : Rat) (c d : Rat) : crsC [.agg [eRat a, eRat b], .agg [eRat c, eRat d]] = (qsz a + qsz b + qsz c + qsz d < LM, [eRat (crossQ a b c d)]) := ct2_at (a, b) (c, d)
noncomputable def crsTb : List (FuncId × Ct) := [(133, .data rsubC), (106, .data rmC)]
theorem crsTb_ok {N : NR} : TbOK N Tryz.prog (tbl crsTb) := tbl_cons (c := .data rsubC) rsub_spec rsub_ok (tbl_cons (c := .data rmC) rmul_spec rmul_ok tbl_nil)

@[simp] theorem crsTb1 : tbl crsTb 133 = some (.data rsubC) := rfl
@[simp] theorem crsTb2 : tbl crsTb 106 = some (.data rmC) := rfl
theorem crs_spec {N : NR} : SpecD N Tryz.prog 82 crsC := by
  refine rd2 (mf := fun f => false) crsTb_ok (fn := Tryz.f82) (by kernel_rfl) rfl (by kernel_rfl) (by kernel_rfl) ?_
  rintro ⟨a, b⟩ ⟨c, d⟩ hp
  have hp : qsz a + qsz b + qsz c + qsz d < LM := hp
  show awp _ _ _ _ (start _ ([.agg [eRat a, eRat b], .agg [eRat c, eRat d]].map .dat) []) (endK _ _ _ (([eRat (crossQ a b c d)]).map .dat) [])
  simp [-D.isLit, Tryz.f82, crossQ]
  grind [qsz_add, qsz_sub, qsz_mul, qsz_neg, MX_val, LM_val]
theorem crs_ok : callable Tryz.prog 82 = true := by kernel_rfl

/-! i.turn -/
noncomputable def trnC := ct3 EP EP EP (fun p0 p1 p2 => qsz p0.1 + qsz p0.2 + qsz p1.1 + qsz p1.2 + qsz p2.1 + qsz p2.2 < 100000000) (fun p0 p1 p2 => [.lit (.int .i64 (turnQ p0.1 p0.2 p1.1 p1.2 p2.1 p2.2).num.sign)])
@[simp] theorem trnC_at (a b : Rat) (c d : Rat) (e f : Rat) : trnC [.agg [eRat a, eRat b], .agg [eRat c, eRat d], .agg [eRat e, eRat f]] = (qsz a + qsz b + qsz c + qsz d + qsz e + qsz f < 100000000, [.lit (.int .i64 (turnQ a b c d e f).num.sign)]) := ct3_at (a, b) (c, d) (e, f)
noncomputable def trnTb : List (FuncId × Ct) := [(105, .data ptsubC), (82, .data crsC), (109, .data rsgC)]
theorem trnTb_ok {N : NR} : TbOK N Tryz.prog (tbl trnTb) := tbl_cons (c := .data ptsubC) ptsub_spec ptsub_ok (tbl_cons (c := .data crsC) crs_spec crs_ok (tbl_cons (c := .data rsgC) rsign_spec rsign_ok tbl_nil))

@[simp] theorem trnTb1 : tbl trnTb 105 = some (.data ptsubC) := rfl
@[simp] theorem trnTb2 : tbl trnTb 82 = some (.data crsC) := rfl
@[simp] theorem trnTb3 : tbl trnTb 109 = some (.data rsgC) := rfl
theorem trn_spec {N : NR} : SpecD N Tryz.prog 100 trnC := by
  refine rd3 (mf := fun f => false) trnTb_ok (fn := Tryz.f100) (by kernel_rfl) rfl (by kernel_rfl) (by kernel_rfl) ?_
  rintro ⟨a, b⟩ ⟨c, d⟩ ⟨e, f⟩ hp
  have hp : qsz a + qsz b + qsz c + qsz d + qsz e + qsz f < 100000000 := hp
  show awp _ _ _ _ (start _ ([.agg [eRat a, eRat b], .agg [eRat c, eRat d], .agg [eRat e, eRat f]].map .dat) []) (endK _ _ _ (([.lit (.int .i64 (turnQ a b c d e f).num.sign)]).map .dat) [])
  simp [-D.isLit, Tryz.f100, turnQ]
  grind [qsz_add, qsz_sub, qsz_mul, qsz_neg, MX_val, LM_val]
theorem trn_ok : callable Tryz.prog 100 = true := by kernel_rfl
end Go.Proofs.YtlniifhdimaliaaGreat.Ae

/-! The laws CmpV and Turn: both sides.  No condition. -/
namespace Go.Proofs.YtlniifhdimaliaaGreat.Ae
open Go Go.RowKit Go.Proofs.YtlniifhdimaliaaGreat.Dig

/-! i.CmpV -/
noncomputable def iCmpVC := ct2 EV EV (fun p0 p1 => ((I64 p0.1.1 ∧ I64 p0.1.2) ∧ I64 p0.2.1 ∧ I64 p0.2.2) ∧ ((I64 p1.1.1 ∧ I64 p1.1.2) ∧ I64 p1.2.1 ∧ I64 p1.2.2)) (fun p0 p1 => [.lit (.int .i64 (if (qOk p0.1.1 p0.1.2 ∧ qOk p0.2.1 p0.2.2) ∧ (qOk p1.1.1 p1.1.2 ∧ qOk p1.2.1 p1.2.2) then pcmp (Rat.divInt p0.1.1 p0.1.2) (Rat.divInt p0.2.1 p0.2.2) (Rat.divInt p1.1.1 p1.1.2) (Rat.divInt p1.2.1 p1.2.2) else 2))])
@[simp] theorem iCmpVC_at (a b c d : Int) (e f g h : Int) : iCmpVC [.agg [eQ a b, eQ c d], .agg [eQ e f, eQ g h]] = (((I64 a ∧ I64 b) ∧ I64 c ∧ I64 d) ∧ ((I64 e ∧ I64 f) ∧ I64 g ∧ I64 h), [.lit (.int .i64 (if (qOk a b ∧ qOk c d) ∧ (qOk e f ∧ qOk g h) then pcmp (Rat.divInt a b) (Rat.divInt c d) (Rat.divInt e f) (Rat.divInt g h) else 2))]) := ct2_at ((a, b), c, d) ((e, f), g, h)
noncomputable def iCmpVTb : List (FuncId × Ct) := [(48, .data iVOkC), (52, .data pvC), (119, .data ptcmpC)]
theorem iCmpVTb_ok {N : NR} : TbOK N Tryz.prog (tbl iCmpVTb) := tbl_cons (c := .data iVOkC) iVOk_spec iVOk_ok (tbl_cons (c := .data pvC) pv_spec pv_ok (tbl_cons (c := .data ptcmpC) ptcmp_spec ptcmp_ok tbl_nil))

@[simp] theorem iCmpVTb1 : tbl iCmpVTb 48 = some (.data iVOkC) := rfl
@[simp] theorem iCmpVTb2 : tbl iCmpVTb 52 = some (.data pvC) := rfl
@[simp] theorem iCmpVTb3 : tbl iCmpVTb 119 = some (.data ptcmpC) := rfl
/-! i.Turn -/
noncomputable def iTurnC := ct3 EV EV EV (fun p0 p1 p2 => ((I64 p0.1.1 ∧ I64 p0.1.2) ∧ I64 p0.2.1 ∧ I64 p0.2.2) ∧ ((I64 p1.1.1 ∧ I64 p1.1.2) ∧ I64 p1.2.1 ∧ I64 p1.2.2) ∧ ((I64 p2.1.1 ∧ I64 p2.1.2) ∧ I64 p2.2.1 ∧ I64 p2.2.2)) (fun p0 p1 p2 => [.lit (.int .i64 (if (qOk p0.1.1 p0.1.2 ∧ qOk p0.2.1 p0.2.2) ∧ (qOk p1.1.1 p1.1.2 ∧ qOk p1.2.1 p1.2.2) ∧ (qOk p2.1.1 p2.1.2 ∧ qOk p2.2.1 p2.2.2) then (turnQ (Rat.divInt p0.1.1 p0.1.2) (Rat.divInt p0.2.1 p0.2.2) (Rat.divInt p1.1.1 p1.1.2) (Rat.divInt p1.2.1 p1.2.2) (Rat.divInt p2.1.1 p2.1.2) (Rat.divInt p2.2.1 p2.2.2)).num.sign else 2))])
@[simp] theorem iTurnC_at (a b c d : Int) (e f g h : Int) (i j k l : Int) : iTurnC [.agg [eQ a b, eQ c d], .agg [eQ e f, eQ g h], .agg [eQ i j, eQ k l]] = (((I64 a ∧ I64 b) ∧ I64 c ∧ I64 d) ∧ ((I64 e ∧ I64 f) ∧ I64 g ∧ I64 h) ∧ ((I64 i ∧ I64 j) ∧ I64 k ∧ I64 l), [.lit (.int .i64 (if (qOk a b ∧ qOk c d) ∧ (qOk e f ∧ qOk g h) ∧ (qOk i j ∧ qOk k l) then (turnQ (Rat.divInt a b) (Rat.divInt c d) (Rat.divInt e f) (Rat.divInt g h) (Rat.divInt i j) (Rat.divInt k l)).num.sign else 2))]) := ct3_at ((a, b), c, d) ((e, f), g, h) ((i, j), k, l)
noncomputable def iTurnTb : List (FuncId × Ct) := [(48, .data iVOkC), (52, .data pvC), (100, .data trnC)]
theorem iTurnTb_ok {N : NR} : TbOK N Tryz.prog (tbl iTurnTb) := tbl_cons (c := .data iVOkC) iVOk_spec iVOk_ok (tbl_cons (c := .data pvC) pv_spec pv_ok (tbl_cons (c := .data trnC) trn_spec trn_ok tbl_nil))

@[simp] theorem iTurnTb1 : tbl iTurnTb 48 = some (.data iVOkC) := rfl
@[simp] theorem iTurnTb2 : tbl iTurnTb 52 = some (.data pvC) := rfl
@[simp] theorem iTurnTb3 : tbl iTurnTb 100 = some (.data trnC) := rfl
/-! s.VOk -/
noncomputable def sVOkC := ct1 EV (fun p0 => ((I64 p0.1.1 ∧ I64 p0.1.2) ∧ I64 p0.2.1 ∧ I64 p0.2.2)) (fun p0 => [.lit (.bool (decide (qOk p0.1.1 p0.1.2) && decide (qOk p0.2.1 p0.2.2)))])
@[simp] theorem sVOkC_at (a b c d : Int) : sVOkC [.agg [eQ a b, eQ c d]] = (((I64 a ∧ I64 b) ∧ I64 c ∧ I64 d), [.lit (.bool (decide (qOk a b) && decide (qOk c d)))]) := ct1_at ((a, b), c, d)
noncomputable def sVOkTb : List (FuncId × Ct) := [(94, .data qokC)]
theorem sVOkTb_ok : TbOK NF Tryz.prog (tbl sVOkTb) := tbl_cons (c := .data qokC) sQOk_spec sQOk_ok tbl_nil

@[simp] theorem sVOkTb1 : tbl sVOkTb 94 = some (.data qokC) := rfl
theorem sVOk_spec : SpecD NF Tryz.prog 43 sVOkC := by
  refine rd1 (mf := fun f => false) sVOkTb_ok (fn := Tryz.f43) (by kernel_rfl) rfl (by kernel_rfl) (by kernel_rfl) ?_
  rintro ⟨⟨a, b⟩, c, d⟩ hp
  have hp : ((I64 a ∧ I64 b) ∧ I64 c ∧ I64 d) := hp
  show awp _ _ _ _ (start _ ([.agg [eQ a b, eQ c d]].map .dat) []) (endK _ _ _ (([.lit (.bool (decide (qOk a b) && decide (qOk c d)))]).map .dat) [])
  obtain ⟨⟨i1, i2⟩, i3, i4⟩ := hp
  by_cases h : qOk a b <;> simp [-D.isLit, Tryz.f43, i1, i2, i3, i4, h]
theorem sVOk_ok : callable Tryz.prog 43 = true := by kernel_rfl

/-! s.l3p -/
noncomputable def l3pC := ct1 EV (fun p0 => (I64 p0.1.1 ∧ I64 p0.1.2 ∧ 0 < p0.1.2) ∧ I64 p0.2.1 ∧ I64 p0.2.2 ∧ 0 < p0.2.2) (fun p0 => [.agg [nD (Rat.divInt p0.1.1 p0.1.2), nD (Rat.divInt p0.2.1 p0.2.2)]])
@[simp] theorem l3pC_at (a b c d : Int) : l3pC [.agg [eQ a b, eQ c d]] = ((I64 a ∧ I64 b ∧ 0 < b) ∧ I64 c ∧ I64 d ∧ 0 < d, [.agg [nD (Rat.divInt a b), nD (Rat.divInt c d)]]) := ct1_at ((a, b), c, d)
noncomputable def l3pTb : List (FuncId × Ct) := [(97, .data nqC)]
theorem l3pTb_ok : TbOK NF Tryz.prog (tbl l3pTb) := tbl_cons (c := .data nqC) nq_spec l1q_ok tbl_nil

@[simp] theorem l3pTb1 : tbl l3pTb 97 = some (.data nqC) := rfl
theorem l3p_spec : SpecD NF Tryz.prog 46 l3pC := by
  refine rd1 (mf := fun f => false) l3pTb_ok (fn := Tryz.f46) (by kernel_rfl) rfl (by kernel_rfl) (by kernel_rfl) ?_
  rintro ⟨⟨a, b⟩, c, d⟩ hp
  have hp : (I64 a ∧ I64 b ∧ 0 < b) ∧ I64 c ∧ I64 d ∧ 0 < d := hp
  show awp _ _ _ _ (start _ ([.agg [eQ a b, eQ c d]].map .dat) []) (endK _ _ _ (([.agg [nD (Rat.divInt a b), nD (Rat.divInt c d)]]).map .dat) [])
  simp [-D.isLit, Tryz.f46, hp]
theorem l3p_ok : callable Tryz.prog 46 = true := by kernel_rfl

/-! s.l3Cmp -/
noncomputable def l3CmpC := ct2 EPn EPn (fun p0 p1 => qsz p0.1 + qsz p0.2 + qsz p1.1 + qsz p1.2 < LM) (fun p0 p1 => [.lit (.int .i64 (pcmp p0.1 p0.2 p1.1 p1.2))])
@[simp] theorem l3CmpC_at (a b : Rat) (c d : Rat) : l3CmpC [.agg [nD a, nD b], .agg [nD c, nD d]] = (qsz a + qsz b + qsz c + qsz d < LM, [.lit (.int .i64 (pcmp a b c d))]) := ct2_at (a, b) (c, d)
noncomputable def l3CmpTb : List (FuncId × Ct) := [(71, .data nCmpC)]
theorem l3CmpTb_ok : TbOK NF Tryz.prog (tbl l3CmpTb) := tbl_cons (c := .data nCmpC) nCmp_spec l1rCmp_ok tbl_nil

@[simp] theorem l3CmpTb1 : tbl l3CmpTb 71 = some (.data nCmpC) := rfl
theorem l3Cmp_spec : SpecD NF Tryz.prog 117 l3CmpC := by
  refine rd2 (mf := fun f => false) l3CmpTb_ok (fn := Tryz.f117) (by kernel_rfl) rfl (by kernel_rfl) (by kernel_rfl) ?_
  rintro ⟨a, b⟩ ⟨c, d⟩ hp
  have hp : qsz a + qsz b + qsz c + qsz d < LM := hp
  show awp _ _ _ _ (start _ ([.agg [nD a, nD b], .agg [nD c, nD d]].map .dat) []) (endK _ _ _ (([.lit (.int .i64 (pcmp a b c d))]).map .dat) [])
  simp [-D.isLit, Tryz.f117]
  refine ⟨by grind [qsz_add, qsz_sub, qsz_mul, qsz_neg, MX_val, LM_val], fun h => ?_, fun h => ⟨by grind [qsz_add, qsz_sub, qsz_mul, qsz_neg, MX_val, LM_val], ?_⟩⟩
  · exact sub_lit (by unfold pcmp; rw [if_neg h])
  · exact sub_lit (by unfold pcmp; rw [if_pos h])
theorem l3Cmp_ok : callable Tryz.prog 117 = true := by kernel_rfl

/-! s.l3Sub -/
noncomputable def l3SubC := ct2 EPn EPn (fun p0 p1 => qsz p0.1 + qsz p0.2 + qsz p1.1 + qsz p1.2 < LM) (fun p0 p1 => [.agg [nD (p0.1 - p1.1), nD (p0.2 - p1.2)]])
@[simp] theorem l3SubC_at (a b : Rat) (c d : Rat) : l3SubC [.agg [nD a, nD b], .agg [nD c, nD d]] = (qsz a + qsz b + qsz c + qsz d < LM, [.agg [nD (a - c), nD (b - d)]]) := ct2_at (a, b) (c, d)
noncomputable def l3SubTb : List (FuncId × Ct) := [(110, .data nSubC)]
theorem l3SubTb_ok : TbOK NF Tryz.prog (tbl l3SubTb) := tbl_cons (c := .data nSubC) nSub_spec l1rSub_ok tbl_nil

@[simp] theorem l3SubTb1 : tbl l3SubTb 110 = some (.data nSubC) := rfl
theorem l3Sub_spec : SpecD NF Tryz.prog 63 l3SubC := by
  refine rd2 (mf := fun f => false) l3SubTb_ok (fn := Tryz.f63) (by kernel_rfl) rfl (by kernel_rfl) (by kernel_rfl) ?_
  rintro ⟨a, b⟩ ⟨c, d⟩ hp
  have hp : qsz a + qsz b + qsz c + qsz d < LM := hp
  show awp _ _ _ _ (start _ ([.agg [nD a, nD b], .agg [nD c, nD d]].map .dat) []) (endK _ _ _ (([.agg [nD (a - c), nD (b - d)]]).map .dat) [])
  simp [-D.isLit, Tryz.f63]
  grind [qsz_add, qsz_sub, qsz_mul, qsz_neg, MX_val, LM_val]
theorem l3Sub_ok : callable Tryz.prog 63 = true := by kernel_rfl

/-! s.l3Cross -/
noncomputable def l3CrossC := ct2 EPn EPn (fun p0 p1 => qsz p0.1 + qsz p0.2 + qsz p1.1 + qsz p1.2 < LM) (fun p0 p1 => [nD (crossQ p0.1 p0.2 p1.1 p1.2)])
@[simp] theorem l3CrossC_at (a b : Rat) (c d : Rat) : l3CrossC [.agg [nD a, nD b], .agg [nD c, nD d]] = (qsz a + qsz b + qsz c + qsz d < LM, [nD (crossQ a b c d)]) := ct2_at (a, b) (c, d)
noncomputable def l3CrossTb : List (FuncId × Ct) := [(110, .data nSubC), (115, .data nMulC)]
theorem l3CrossTb_ok : TbOK NF Tryz.prog (tbl l3CrossTb) := tbl_cons (c := .data nSubC) nSub_spec l1rSub_ok (tbl_cons (c := .data nMulC) nMul_spec l1rMul_ok tbl_nil)

@[simp] theorem l3CrossTb1 : tbl l3CrossTb 110 = some (.data nSubC) := rfl
@[simp] theorem l3CrossTb2 : tbl l3CrossTb 115 = some (.data nMulC) := rfl
theorem l3Cross_spec : SpecD NF Tryz.prog 78 l3CrossC := by
  refine rd2 (mf := fun f => false) l3CrossTb_ok (fn := Tryz.f78) (by kernel_rfl) rfl (by kernel_rfl) (by kernel_rfl) ?_
  rintro ⟨a, b⟩ ⟨c, d⟩ hp
  have hp : qsz a + qsz b + qsz c + qsz d < LM := hp
  show awp _ _ _ _ (start _ ([.agg [nD a, nD b], .agg [nD c, nD d]].map .dat) []) (endK _ _ _ (([nD (crossQ a b c d)]).map .dat) [])
  simp [-D.isLit, Tryz.f78, crossQ]
  grind [qsz_add, qsz_sub, qsz_mul, qsz_neg, MX_val, LM_val]
theorem l3Cross_ok : callable Tryz.prog 78 = true := by kernel_rfl

/-! s.l3Turn -/
noncomputable def l3TurnC := ct3 EPn EPn EPn (fun p0 p1 p2 => qsz p0.1 + qsz p0.2 + qsz p1.1 + qsz p1.2 + qsz p2.1 + qsz p2.2 < 100000000) (fun p0 p1 p2 => [.lit (.int .i64 (turnQ p0.1 p0.2 p1.1 p1.2 p2.1 p2.2).num.sign)])
@[simp] theorem l3TurnC_at (a b : Rat) (c d : Rat) (e f : Rat) : l3TurnC [.agg [nD a, nD b], .agg [nD c, nD d], .agg [nD e, nD f]] = (qsz a + qsz b + qsz c + qsz d + qsz e + qsz f < 100000000, [.lit (.int .i64 (turnQ a b c d e f).num.sign)]) := ct3_at (a, b) (c, d) (e, f)
noncomputable def l3TurnTb : List (FuncId × Ct) := [(63, .data l3SubC), (78, .data l3CrossC), (96, .data nSignC)]
theorem l3TurnTb_ok : TbOK NF Tryz.prog (tbl l3TurnTb) := tbl_cons (c := .data l3SubC) l3Sub_spec l3Sub_ok (tbl_cons (c := .data l3CrossC) l3Cross_spec l3Cross_ok (tbl_cons (c := .data nSignC) nSign_spec l1rSign_ok tbl_nil))

@[simp] theorem l3TurnTb1 : tbl l3TurnTb 63 = some (.data l3SubC) := rfl
@[simp] theorem l3TurnTb2 : tbl l3TurnTb 78 = some (.data l3CrossC) := rfl
@[simp] theorem l3TurnTb3 : tbl l3TurnTb 96 = some (.data nSignC) := rfl
theorem l3Turn_spec : SpecD NF Tryz.prog 95 l3TurnC := by
  refine rd3 (mf := fun f => false) l3TurnTb_ok (fn := Tryz.f95) (by kernel_rfl) rfl (by kernel_rfl) (by kernel_rfl) ?_
  rintro ⟨a, b⟩ ⟨c, d⟩ ⟨e, f⟩ hp
  have hp : qsz a + qsz b + qsz c + qsz d + qsz e + qsz f < 100000000 := hp
  show awp _ _ _ _ (start _ ([.agg [nD a, nD b], .agg [nD c, nD d], .agg [nD e, nD f]].map .dat) []) (endK _ _ _ (([.lit (.int .i64 (turnQ a b c d e f).num.sign)]).map .dat) [])
  simp [-D.isLit, Tryz.f95, turnQ]
  grind [qsz_add, qsz_sub, qsz_mul, qsz_neg, MX_val, LM_val]
theorem l3Turn_ok : callable Tryz.prog 95 = true := by kernel_rfl

/-! s.CmpV -/
noncomputable def sCmpVC := ct2 EV EV (fun p0 p1 => ((I64 p0.1.1 ∧ I64 p0.1.2) ∧ I64 p0.2.1 ∧ I64 p0.2.2) ∧ ((I64 p1.1.1 ∧ I64 p1.1.2) ∧ I64 p1.2.1 ∧ I64 p1.2.2)) (fun p0 p1 => [.lit (.int .i64 (if (qOk p0.1.1 p0.1.2 ∧ qOk p0.2.1 p0.2.2) ∧ (qOk p1.1.1 p1.1.2 ∧ qOk p1.2.1 p1.2.2) then pcmp (Rat.divInt p0.1.1 p0.1.2) (Rat.divInt p0.2.1 p0.2.2) (Rat.divInt p1.1.1 p1.1.2) (Rat.divInt p1.2.1 p1.2.2) else 2))])
@[simp] theorem sCmpVC_at (a b c d : Int) (e f g h : Int) : sCmpVC [.agg [eQ a b, eQ c d], .agg [eQ e f, eQ g h]] = (((I64 a ∧ I64 b) ∧ I64 c ∧ I64 d) ∧ ((I64 e ∧ I64 f) ∧ I64 g ∧ I64 h), [.lit (.int .i64 (if (qOk a b ∧ qOk c d) ∧ (qOk e f ∧ qOk g h) then pcmp (Rat.divInt a b) (Rat.divInt c d) (Rat.divInt e f) (Rat.divInt g h) else 2))]) := ct2_at ((a, b), c, d) ((e, f), g, h)
noncomputable def sCmpVTb : List (FuncId × Ct) := [(43, .data sVOkC), (46, .data l3pC), (117, .data l3CmpC)]
theorem sCmpVTb_ok : TbOK NF Tryz.prog (tbl sCmpVTb) := tbl_cons (c := .data sVOkC) sVOk_spec sVOk_ok (tbl_cons (c := .data l3pC) l3p_spec l3p_ok (tbl_cons (c := .data l3CmpC) l3Cmp_spec l3Cmp_ok tbl_nil))

@[simp] theorem sCmpVTb1 : tbl sCmpVTb 43 = some (.data sVOkC) := rfl
@[simp] theorem sCmpVTb2 : tbl sCmpVTb 46 = some (.data l3pC) := rfl
@[simp] theorem sCmpVTb3 : tbl sCmpVTb 117 = some (.data l3CmpC) := rfl
/-! s.Turn -/
noncomputable def sTurnC := ct3 EV EV EV (fun p0 p1 p2 => ((I64 p0.1.1 ∧ I64 p0.1.2) ∧ I64 p0.2.1 ∧ I64 p0.2.2) ∧ ((I64 p1.1.1 ∧ I64 p1.1.2) ∧ I64 p1.2.1 ∧ I64 p1.2.2) ∧ ((I64 p2.1.1 ∧ I64 p2.1.2) ∧ I64 p2.2.1 ∧ I64 p2.2.2)) (fun p0 p1 p2 => [.lit (.int .i64 (if (qOk p0.1.1 p0.1.2 ∧ qOk p0.2.1 p0.2.2) ∧ (qOk p1.1.1 p1.1.2 ∧ qOk p1.2.1 p1.2.2) ∧ (qOk p2.1.1 p2.1.2 ∧ qOk p2.2.1 p2.2.2) then (turnQ (Rat.divInt p0.1.1 p0.1.2) (Rat.divInt p0.2.1 p0.2.2) (Rat.divInt p1.1.1 p1.1.2) (Rat.divInt p1.2.1 p1.2.2) (Rat.divInt p2.1.1 p2.1.2) (Rat.divInt p2.2.1 p2.2.2)).num.sign else 2))])
@[simp] theorem sTurnC_at (a b c d : Int) (e f g h : Int) (i j k l : Int) : sTurnC [.agg [eQ a b, eQ c d], .agg [eQ e f, eQ g h], .agg [eQ i j, eQ k l]] = (((I64 a ∧ I64 b) ∧ I64 c ∧ I64 d) ∧ ((I64 e ∧ I64 f) ∧ I64 g ∧ I64 h) ∧ ((I64 i ∧ I64 j) ∧ I64 k ∧ I64 l), [.lit (.int .i64 (if (qOk a b ∧ qOk c d) ∧ (qOk e f ∧ qOk g h) ∧ (qOk i j ∧ qOk k l) then (turnQ (Rat.divInt a b) (Rat.divInt c d) (Rat.divInt e f) (Rat.divInt g h) (Rat.divInt i j) (Rat.divInt k l)).num.sign else 2))]) := ct3_at ((a, b), c, d) ((e, f), g, h) ((i, j), k, l)
noncomputable def sTurnTb : List (FuncId × Ct) := [(43, .data sVOkC), (46, .data l3pC), (95, .data l3TurnC)]
theorem sTurnTb_ok : TbOK NF Tryz.prog (tbl sTurnTb) := tbl_cons (c := .data sVOkC) sVOk_spec sVOk_ok (tbl_cons (c := .data l3pC) l3p_spec l3p_ok (tbl_cons (c := .data l3TurnC) l3Turn_spec l3Turn_ok tbl_nil))

@[simp] theorem sTurnTb1 : tbl sTurnTb 43 = some (.data sVOkC) := rfl
@[simp] theorem sTurnTb2 : tbl sTurnTb 46 = some (.data l3pC) := rfl
@[simp] theorem sTurnTb3 : tbl sTurnTb 95 = some (.data l3TurnC) := rfl
/-! l.toV -/
noncomputable def toVC := ct1 EV (fun p0 => True) (fun p0 => [.agg [eQ p0.1.1 p0.1.2, eQ p0.2.1 p0.2.2]])
@[simp] theorem toVC_at (a b c d : Int) : toVC [.agg [eQ a b, eQ c d]] = (True, [.agg [eQ a b, eQ c d]]) := ct1_at ((a, b), c, d)
noncomputable def toVTb : List (FuncId × Ct) := [(47, .data toQC)]
theorem toVTb_ok {N : NR} : TbOK N Tryz.prog (tbl toVTb) := tbl_cons (c := .data toQC) toQ_spec toQ_ok tbl_nil

@[simp] theorem toVTb1 : tbl toVTb 47 = some (.data toQC) := rfl
theorem toV_spec {N : NR} : SpecD N Tryz.prog 13 toVC := by
  refine rd1 (mf := fun f => false) toVTb_ok (fn := Tryz.f13) (by kernel_rfl) rfl (by kernel_rfl) (by kernel_rfl) ?_
  rintro ⟨⟨a, b⟩, c, d⟩ hp
  have hp : True := hp
  show awp _ _ _ _ (start _ ([.agg [eQ a b, eQ c d]].map .dat) []) (endK _ _ _ (([.agg [eQ a b, eQ c d]]).map .dat) [])
  simp [-D.isLit, Tryz.f13]
theorem toV_ok : callable Tryz.prog 13 = true := by kernel_rfl

/-! l.FnExactCmpV -/
noncomputable def lwCmpVC := ct2 EV EV (fun p0 p1 => ((I64 p0.1.1 ∧ I64 p0.1.2) ∧ I64 p0.2.1 ∧ I64 p0.2.2) ∧ ((I64 p1.1.1 ∧ I64 p1.1.2) ∧ I64 p1.2.1 ∧ I64 p1.2.2)) (fun p0 p1 => [.lit (.bool true)])
@[simp] theorem lwCmpVC_at (a b c d : Int) (e f g h : Int) : lwCmpVC [.agg [eQ a b, eQ c d], .agg [eQ e f, eQ g h]] = (((I64 a ∧ I64 b) ∧ I64 c ∧ I64 d) ∧ ((I64 e ∧ I64 f) ∧ I64 g ∧ I64 h), [.lit (.bool true)]) := ct2_at ((a, b), c, d) ((e, f), g, h)
noncomputable def lwCmpVTb : List (FuncId × Ct) := [(13, .data toVC)]
theorem lwCmpVTb_ok : TbOK NF Tryz.prog (tbl lwCmpVTb) := tbl_cons (c := .data toVC) toV_spec toV_ok tbl_nil

@[simp] theorem lwCmpVTb1 : tbl lwCmpVTb 13 = some (.data toVC) := rfl
/-! l.FnExactTurn -/
noncomputable def lwTurnC := ct3 EV EV EV (fun p0 p1 p2 => ((I64 p0.1.1 ∧ I64 p0.1.2) ∧ I64 p0.2.1 ∧ I64 p0.2.2) ∧ ((I64 p1.1.1 ∧ I64 p1.1.2) ∧ I64 p1.2.1 ∧ I64 p1.2.2) ∧ ((I64 p2.1.1 ∧ I64 p2.1.2) ∧ I64 p2.2.1 ∧ I64 p2.2.2)) (fun p0 p1 p2 => [.lit (.bool true)])
@[simp] theorem lwTurnC_at (a b c d : Int) (e f g h : Int) (i j k l : Int) : lwTurnC [.agg [eQ a b, eQ c d], .agg [eQ e f, eQ g h], .agg [eQ i j, eQ k l]] = (((I64 a ∧ I64 b) ∧ I64 c ∧ I64 d) ∧ ((I64 e ∧ I64 f) ∧ I64 g ∧ I64 h) ∧ ((I64 i ∧ I64 j) ∧ I64 k ∧ I64 l), [.lit (.bool true)]) := ct3_at ((a, b), c, d) ((e, f), g, h) ((i, j), k, l)
noncomputable def lwTurnTb : List (FuncId × Ct) := [(13, .data toVC)]
theorem lwTurnTb_ok : TbOK NF Tryz.prog (tbl lwTurnTb) := tbl_cons (c := .data toVC) toV_spec toV_ok tbl_nil

@[simp] theorem lwTurnTb1 : tbl lwTurnTb 13 = some (.data toVC) := rfl
end Go.Proofs.YtlniifhdimaliaaGreat.Ae

/-! impl: straight pieces: SegOk, psg, add, times, dot, dir, up, minmax, apart, has, foot, near, dist2, v. No condition. -/
namespace Go.Proofs.YtlniifhdimaliaaGreat.Ae
open Go Go.RowKit Go.Proofs.YtlniifhdimaliaaGreat.Dig
@[simp] theorem flatD_eQ (a b : Int) : flatD (eQ a b) = some [.int .i64 a, .int .i64 b] := rfl
attribute [simp] eqV eqVs
theorem keyLits_struct {P : Program} {d : Nat} {t : TypeId} {fs : Array Field} {cs : List Value} (hu : P.underlying t = some (.struct fs)) (hl : cs.length = P.cellsOf t) (hn : fs.all (·.name != "_") = true) :
    P.keyLits (d + 1) t cs = (fs.toList.mapM fun f => P.keyLits d f.type ((cs.drop f.offset).take (P.cellsOf f.type))).map List.flatten := by
  conv => lhs; unfold Program.keyLits
  rw [hu]
  show (if cs.length = P.cellsOf t ∧ fs.all (·.name != "_") = true then (fs.toList.mapM fun f => P.keyLits d f.type ((cs.drop f.offset).take (P.cellsOf f.type))).map List.flatten else none) = _
  rw [if_pos ⟨hl, hn⟩]
theorem keyLits_i64 {P : Program} {d : Nat} {t : TypeId} {a : Int} (hu : P.underlying t = some (.int .i64)) (h : I64 a) : P.keyLits (d + 1) t [.int .i64 a] = some [.int .i64 a] := by
  have hw : (Lit.int .i64 a).wf = true := by
    unfold I64 at h
    have e1 : IntKind.i64.min = -9223372036854775808 := by decide
    have e2 : IntKind.i64.max = 9223372036854775807 := by decide
    simp only [Lit.wf, e1, e2, Bool.and_eq_true, decide_eq_true_eq]; omega
  unfold Program.keyLits
  rw [hu]
  exact if_pos ⟨rfl, hw⟩
theorem klQ {d : Nat} (a b : Int) (h : I64 a ∧ I64 b) : Tryz.prog.keyLits (d + 2) 29 [.int .i64 a, .int .i64 b] = some [.int .i64 a, .int .i64 b] := by
  rw [keyLits_struct Tryz.underlying29 (by simp) (by kernel_rfl)]
  simp [keyLits_i64 Tryz.underlying2 h.1, keyLits_i64 Tryz.underlying2 h.2]
theorem klV {d : Nat} (a b c e : Int) (h : (I64 a ∧ I64 b) ∧ I64 c ∧ I64 e) : Tryz.prog.keyLits (d + 3) 31 [.int .i64 a, .int .i64 b, .int .i64 c, .int .i64 e] = some [.int .i64 a, .int .i64 b, .int .i64 c, .int .i64 e] := by
  rw [keyLits_struct Tryz.underlying31 (by simp) (by kernel_rfl)]
  simp [klQ a b h.1, klQ c e h.2]
theorem ktV : Tryz.prog.keyTypeAt 6 31 = true := by kernel_rfl
theorem egV : Tryz.prog.eqGuardType Tryz.prog.depth 31 = false := by kernel_rfl
theorem eqPre_V (a b c d e f g h : Int) (h1 : (I64 a ∧ I64 b) ∧ I64 c ∧ I64 d) (h2 : (I64 e ∧ I64 f) ∧ I64 g ∧ I64 h) : eqPre Tryz.prog 31 [.int .i64 a, .int .i64 b, .int .i64 c, .int .i64 d] [.int .i64 e, .int .i64 f, .int .i64 g, .int .i64 h] :=
  ⟨⟨_, Tryz.underlying31⟩, ⟨by simp, by simp⟩, ktV, egV, _, _, klV a b c d h1, klV e f g h h2, by simp⟩
def ESg : Enc ((Rat × Rat) × Rat × Rat) := EP.pair EP
def ESeg : Enc (((Int × Int) × Int × Int) × (Int × Int) × Int × Int) := EV.pair EV
@[simp] theorem ESg_e (a b c d : Rat) : ESg.e ((a, b), c, d) = .agg [.agg [eRat a, eRat b], .agg [eRat c, eRat d]] := rfl
@[simp] theorem ESeg_e (a b c d e f g h : Int) : ESeg.e (((a, b), c, d), (e, f), g, h) = .agg [.agg [eQ a b, eQ c d], .agg [eQ e f, eQ g h]] := rfl
theorem sq_nn (a : Rat) : 0 ≤ a * a := by
  by_cases h : 0 ≤ a
  · exact Rat.mul_nonneg h h
  · have : 0 ≤ (-a) * (-a) := Rat.mul_nonneg (by grind) (by grind)
    grind
def segOk (a b c d e f g h : Int) : Prop := ((qOk a b ∧ qOk c d) ∧ qOk e f ∧ qOk g h) ∧ ¬ (a = e ∧ b = f ∧ c = g ∧ d = h)
instance (a b c d e f g h : Int) : Decidable (segOk a b c d e f g h) := by unfold segOk; infer_instance
def dotQ (a b c d : Rat) : Rat := a * c + b * d
def loQ (a b : Rat) : Rat := if 0 < qcmp a b then b else a
def hiQ (a b : Rat) : Rat := if 0 < qcmp a b then a else b
def bapart (a b c d : Rat) : Bool := decide (qcmp (hiQ a b) (loQ c d) < 0) || decide (qcmp (hiQ c d) (loQ a b) < 0)
def hasB (a b c d p q : Rat) : Bool := !bapart a c p p && !bapart b d q q && decide ((turnQ a b c d p q).num.sign = 0)
def footQ (a b c d p q : Rat) : Rat := dotQ (p - a) (q - b) (c - a) (d - b) / dotQ (c - a) (d - b) (c - a) (d - b)
def nearQ (a b c d p q : Rat) : Rat × Rat := if (footQ a b c d p q).num.sign ≤ 0 then (a, b) else if 0 ≤ qcmp (footQ a b c d p q) 1 then (c, d) else (a + (c - a) * footQ a b c d p q, b + (d - b) * footQ a b c d p q)
def dist2Q (a b c d : Rat) : Rat := dotQ (a - c) (b - d) (a - c) (b - d)
theorem loQ_sz (a b : Rat) : qsz (loQ a b) ≤ qsz a + qsz b := by unfold loQ; split <;> omega
theorem hiQ_sz (a b : Rat) : qsz (hiQ a b) ≤ qsz a + qsz b := by unfold hiQ; split <;> omega
theorem dotQ_sz (a b c d : Rat) : qsz (dotQ a b c d) ≤ qsz a + qsz b + qsz c + qsz d + 1 := by unfold dotQ; grind [qsz_add, qsz_mul]
/-- A place's coordinates, if they are moderate. -/
def oV (x y : Rat) : (Int × Int) × (Int × Int) × Bool := if (oq x).2.2 = true ∧ (oq y).2.2 = true then (((oq x).1, (oq x).2.1), ((oq y).1, (oq y).2.1), true) else ((0, 0), (0, 0), false)
def vD (o : (Int × Int) × (Int × Int) × Bool) : List D := [.agg [eQ o.1.1 o.1.2, eQ o.2.1.1 o.2.1.2], .lit (.bool o.2.2)]
theorem sq_pos {a b : Rat} (h : ¬ (a = 0 ∧ b = 0)) : dotQ a b a b ≠ 0 := by
  unfold dotQ
  have h1 : 0 ≤ a * a := sq_nn a
  have h2 : 0 ≤ b * b := sq_nn b
  intro e
  have e1 : a * a = 0 := by grind
  have e2 : b * b = 0 := by grind
  exact h ⟨by rcases Rat.mul_eq_zero.mp e1 with x | x <;> exact x, by rcases Rat.mul_eq_zero.mp e2 with x | x <;> exact x⟩

/-! i.SegOk -/
noncomputable def iSegOkC := ct1 ESeg (fun p0 => (((I64 p0.1.1.1 ∧ I64 p0.1.1.2) ∧ I64 p0.1.2.1 ∧ I64 p0.1.2.2) ∧ ((I64 p0.2.1.1 ∧ I64 p0.2.1.2) ∧ I64 p0.2.2.1 ∧ I64 p0.2.2.2))) (fun p0 => [.lit (.bool (decide (segOk p0.1.1.1 p0.1.1.2 p0.1.2.1 p0.1.2.2 p0.2.1.1 p0.2.1.2 p0.2.2.1 p0.2.2.2)))])
@[simp] theorem iSegOkC_at (a b c d e f g h : Int) : iSegOkC [.agg [.agg [eQ a b, eQ c d], .agg [eQ e f, eQ g h]]] = ((((I64 a ∧ I64 b) ∧ I64 c ∧ I64 d) ∧ ((I64 e ∧ I64 f) ∧ I64 g ∧ I64 h)), [.lit (.bool (decide (segOk a b c d e f g h)))]) := ct1_at (((a, b), c, d), (e, f), g, h)
noncomputable def iSegOkTb : List (FuncId × Ct) := [(48, .data iVOkC)]
theorem iSegOkTb_ok {N : NR} : TbOK N Tryz.prog (tbl iSegOkTb) := tbl_cons (c := .data iVOkC) iVOk_spec iVOk_ok tbl_nil

@[simp] theorem iSegOkTb1 : tbl iSegOkTb 48 = some (.data iVOkC) := rfl
theorem iSegOk_spec {N : NR} : SpecD N Tryz.prog 49 iSegOkC := by
  refine rd1 (mf := fun f => false) iSegOkTb_ok (fn := Tryz.f49) (by kernel_rfl) rfl (by kernel_rfl) (by kernel_rfl) ?_
  rintro ⟨⟨⟨a, b⟩, c, d⟩, ⟨e, f⟩, g, h⟩ hp
  have hp : (((I64 a ∧ I64 b) ∧ I64 c ∧ I64 d) ∧ ((I64 e ∧ I64 f) ∧ I64 g ∧ I64 h)) := hp
  show awp _ _ _ _ (start _ ([.agg [.agg [eQ a b, eQ c d], .agg [eQ e f, eQ g h]]].map .dat) []) (endK _ _ _ (([.lit (.bool (decide (segOk a b c d e f g h)))]).map .dat) [])
  obtain ⟨⟨⟨i1, i2⟩, i3, i4⟩, ⟨i5, i6⟩, i7, i8⟩ := hp
  by_cases h1 : qOk a b ∧ qOk c d
  · by_cases h2 : qOk e f ∧ qOk g h
    · have ep := eqPre_V a b c d e f g h ⟨⟨i1, i2⟩, i3, i4⟩ ⟨⟨i5, i6⟩, i7, i8⟩
      by_cases h3 : a = e ∧ b = f ∧ c = g ∧ d = h
      · obtain ⟨rfl, rfl, rfl, rfl⟩ := h3
        simp [-D.isLit, Tryz.f49, segOk, ep, i1, i2, i3, i4, h1.1, h1.2]
      · simp [-D.isLit, Tryz.f49, segOk, ep, i1, i2, i3, i4, i5, i6, i7, i8, h1.1, h1.2, h2.1, h2.2, h3]
        rw [show (!a == e || (!b == f || (!c == g || !d == h))) = true from by simp only [Bool.or_eq_true, Bool.not_eq_true', beq_eq_false_iff_ne, ne_eq]; grind]
        exact Sub.refl _
    · have h2' : (decide (qOk e f) && decide (qOk g h)) = false := by rw [← Bool.decide_and]; exact decide_eq_false h2
      simp [-D.isLit, Tryz.f49, segOk, i1, i2, i3, i4, i5, i6, i7, i8, h1.1, h1.2, h2, h2']
  · have h1' : (decide (qOk a b) && decide (qOk c d)) = false := by rw [← Bool.decide_and]; exact decide_eq_false h1
    simp [-D.isLit, Tryz.f49, segOk, i1, i2, i3, i4, i5, i6, i7, i8, h1, h1']
theorem iSegOk_ok : callable Tryz.prog 49 = true := by kernel_rfl

/-! i.psg -/
noncomputable def psgC := ct1 ESeg (fun p0 => (QI p0.1.1.1 p0.1.1.2 ∧ QI p0.1.2.1 p0.1.2.2) ∧ QI p0.2.1.1 p0.2.1.2 ∧ QI p0.2.2.1 p0.2.2.2) (fun p0 => [.agg [.agg [eRat (Rat.divInt p0.1.1.1 p0.1.1.2), eRat (Rat.divInt p0.1.2.1 p0.1.2.2)], .agg [eRat (Rat.divInt p0.2.1.1 p0.2.1.2), eRat (Rat.divInt p0.2.2.1 p0.2.2.2)]]])
@[simp] theorem psgC_at (a b c d e f g h : Int) : psgC [.agg [.agg [eQ a b, eQ c d], .agg [eQ e f, eQ g h]]] = ((QI a b ∧ QI c d) ∧ QI e f ∧ QI g h, [.agg [.agg [eRat (Rat.divInt a b), eRat (Rat.divInt c d)], .agg [eRat (Rat.divInt e f), eRat (Rat.divInt g h)]]]) := ct1_at (((a, b), c, d), (e, f), g, h)
noncomputable def psgTb : List (FuncId × Ct) := [(52, .data pvC)]
theorem psgTb_ok {N : NR} : TbOK N Tryz.prog (tbl psgTb) := tbl_cons (c := .data pvC) pv_spec pv_ok tbl_nil

@[simp] theorem psgTb1 : tbl psgTb 52 = some (.data pvC) := rfl
theorem psg_spec {N : NR} : SpecD N Tryz.prog 50 psgC := by
  refine rd1 (mf := fun f => false) psgTb_ok (fn := Tryz.f50) (by kernel_rfl) rfl (by kernel_rfl) (by kernel_rfl) ?_
  rintro ⟨⟨⟨a, b⟩, c, d⟩, ⟨e, f⟩, g, h⟩ hp
  have hp : (QI a b ∧ QI c d) ∧ QI e f ∧ QI g h := hp
  show awp _ _ _ _ (start _ ([.agg [.agg [eQ a b, eQ c d], .agg [eQ e f, eQ g h]]].map .dat) []) (endK _ _ _ (([.agg [.agg [eRat (Rat.divInt a b), eRat (Rat.divInt c d)], .agg [eRat (Rat.divInt e f), eRat (Rat.divInt g h)]]]).map .dat) [])
  simp [-D.isLit, Tryz.f50, hp]
theorem psg_ok : callable Tryz.prog 50 = true := by kernel_rfl

/-! (i.pt).add -/
noncomputable def ptaddC := ct2 EP EP (fun p0 p1 => qsz p0.1 + qsz p0.2 + qsz p1.1 + qsz p1.2 < LM) (fun p0 p1 => [.agg [eRat (p0.1 + p1.1), eRat (p0.2 + p1.2)]])
@[simp] theorem ptaddC_at (a b : Rat) (c d : Rat) : ptaddC [.agg [eRat a, eRat b], .agg [eRat c, eRat d]] = (qsz a + qsz b + qsz c + qsz d < LM, [.agg [eRat (a + c), eRat (b + d)]]) := ct2_at (a, b) (c, d)
noncomputable def ptaddTb : List (FuncId × Ct) := [(84, .data raddC)]
theorem ptaddTb_ok {N : NR} : TbOK N Tryz.prog (tbl ptaddTb) := tbl_cons (c := .data raddC) radd_spec radd_ok tbl_nil

@[simp] theorem ptaddTb1 : tbl ptaddTb 84 = some (.data raddC) := rfl
theorem ptadd_spec {N : NR} : SpecD N Tryz.prog 56 ptaddC := by
  refine rd2 (mf := fun f => false) ptaddTb_ok (fn := Tryz.f56) (by kernel_rfl) rfl (by kernel_rfl) (by kernel_rfl) ?_
  rintro ⟨a, b⟩ ⟨c, d⟩ hp
  have hp : qsz a + qsz b + qsz c + qsz d < LM := hp
  show awp _ _ _ _ (start _ ([.agg [eRat a, eRat b], .agg [eRat c, eRat d]].map .dat) []) (endK _ _ _ (([.agg [eRat (a + c), eRat (b + d)]]).map .dat) [])
  simp [-D.isLit, Tryz.f56]
  grind [qsz_add, qsz_sub, qsz_mul, qsz_neg, MX_val, LM_val]
theorem ptadd_ok : callable Tryz.prog 56 = true := by kernel_rfl

/-! (i.pt).times -/
noncomputable def pttimesC := ct2 EP ERat (fun p0 p1 => qsz p0.1 + qsz p0.2 + qsz p1 < LM) (fun p0 p1 => [.agg [eRat (p0.1 * p1), eRat (p0.2 * p1)]])
@[simp] theorem pttimesC_at (a b : Rat) (c : Rat) : pttimesC [.agg [eRat a, eRat b], eRat c] = (qsz a + qsz b + qsz c < LM, [.agg [eRat (a * c), eRat (b * c)]]) := ct2_at (a, b) c
noncomputable def pttimesTb : List (FuncId × Ct) := [(106, .data rmC)]
theorem pttimesTb_ok {N : NR} : TbOK N Tryz.prog (tbl pttimesTb) := tbl_cons (c := .data rmC) rmul_spec rmul_ok tbl_nil

@[simp] theorem pttimesTb1 : tbl pttimesTb 106 = some (.data rmC) := rfl
theorem pttimes_spec {N : NR} : SpecD N Tryz.prog 58 pttimesC := by
  refine rd2 (mf := fun f => false) pttimesTb_ok (fn := Tryz.f58) (by kernel_rfl) rfl (by kernel_rfl) (by kernel_rfl) ?_
  rintro ⟨a, b⟩ c hp
  have hp : qsz a + qsz b + qsz c < LM := hp
  show awp _ _ _ _ (start _ ([.agg [eRat a, eRat b], eRat c].map .dat) []) (endK _ _ _ (([.agg [eRat (a * c), eRat (b * c)]]).map .dat) [])
  simp [-D.isLit, Tryz.f58]
  grind [qsz_add, qsz_sub, qsz_mul, qsz_neg, MX_val, LM_val]
theorem pttimes_ok : callable Tryz.prog 58 = true := by kernel_rfl

/-! i.dot -/
noncomputable def dotrC := ct2 EP EP (fun p0 p1 => qsz p0.1 + qsz p0.2 + qsz p1.1 + qsz p1.2 < LM) (fun p0 p1 => [eRat (dotQ p0.1 p0.2 p1.1 p1.2)])
@[simp] theorem dotrC_at (a b : Rat) (c d : Rat) : dotrC [.agg [eRat a, eRat b], .agg [eRat c, eRat d]] = (qsz a + qsz b + qsz c + qsz d < LM, [eRat (dotQ a b c d)]) := ct2_at (a, b) (c, d)
noncomputable def dotrTb : List (FuncId × Ct) := [(106, .data rmC), (84, .data raddC)]
theorem dotrTb_ok {N : NR} : TbOK N Tryz.prog (tbl dotrTb) := tbl_cons (c := .data rmC) rmul_spec rmul_ok (tbl_cons (c := .data raddC) radd_spec radd_ok tbl_nil)

@[simp] theorem dotrTb1 : tbl dotrTb 106 = some (.data rmC) := rfl
@[simp] theorem dotrTb2 : tbl dotrTb 84 = some (.data raddC) := rfl
theorem dotr_spec {N : NR} : SpecD N Tryz.prog 107 dotrC := by
  refine rd2 (mf := fun f => false) dotrTb_ok (fn := Tryz.f107) (by kernel_rfl) rfl (by kernel_rfl) (by kernel_rfl) ?_
  rintro ⟨a, b⟩ ⟨c, d⟩ hp
  have hp : qsz a + qsz b + qsz c + qsz d < LM := hp
  show awp _ _ _ _ (start _ ([.agg [eRat a, eRat b], .agg [eRat c, eRat d]].map .dat) []) (endK _ _ _ (([eRat (dotQ a b c d)]).map .dat) [])
  simp [-D.isLit, Tryz.f107, dotQ]
  grind [qsz_add, qsz_sub, qsz_mul, qsz_neg, MX_val, LM_val]
theorem dotr_ok : callable Tryz.prog 107 = true := by kernel_rfl

/-! (i.sg).dir -/
noncomputable def sgdirC := ct1 ESg (fun p0 => qsz p0.1.1 + qsz p0.1.2 + qsz p0.2.1 + qsz p0.2.2 < LM) (fun p0 => [.agg [eRat (p0.2.1 - p0.1.1), eRat (p0.2.2 - p0.1.2)]])
@[simp] theorem sgdirC_at (a b c d : Rat) : sgdirC [.agg [.agg [eRat a, eRat b], .agg [eRat c, eRat d]]] = (qsz a + qsz b + qsz c + qsz d < LM, [.agg [eRat (c - a), eRat (d - b)]]) := ct1_at ((a, b), c, d)
noncomputable def sgdirTb : List (FuncId × Ct) := [(105, .data ptsubC)]
theorem sgdirTb_ok {N : NR} : TbOK N Tryz.prog (tbl sgdirTb) := tbl_cons (c := .data ptsubC) ptsub_spec ptsub_ok tbl_nil

@[simp] theorem sgdirTb1 : tbl sgdirTb 105 = some (.data ptsubC) := rfl
theorem sgdir_spec {N : NR} : SpecD N Tryz.prog 57 sgdirC := by
  refine rd1 (mf := fun f => false) sgdirTb_ok (fn := Tryz.f57) (by kernel_rfl) rfl (by kernel_rfl) (by kernel_rfl) ?_
  rintro ⟨⟨a, b⟩, c, d⟩ hp
  have hp : qsz a + qsz b + qsz c + qsz d < LM := hp
  show awp _ _ _ _ (start _ ([.agg [.agg [eRat a, eRat b], .agg [eRat c, eRat d]]].map .dat) []) (endK _ _ _ (([.agg [eRat (c - a), eRat (d - b)]]).map .dat) [])
  simp [-D.isLit, Tryz.f57]
  grind [qsz_add, qsz_sub, qsz_mul, qsz_neg, MX_val, LM_val]
theorem sgdir_ok : callable Tryz.prog 57 = true := by kernel_rfl

/-! i.minmax -/
noncomputable def mnmxC := ct2 ERat ERat (fun p0 p1 => qsz p0 + qsz p1 < LM) (fun p0 p1 => [eRat (loQ p0 p1), eRat (hiQ p0 p1)])
@[simp] theorem mnmxC_at (a : Rat) (b : Rat) : mnmxC [eRat a, eRat b] = (qsz a + qsz b < LM, [eRat (loQ a b), eRat (hiQ a b)]) := ct2_at a b
noncomputable def mnmxTb : List (FuncId × Ct) := [(73, .data rcC)]
theorem mnmxTb_ok {N : NR} : TbOK N Tryz.prog (tbl mnmxTb) := tbl_cons (c := .data rcC) rcmp_spec rcmp_ok tbl_nil

@[simp] theorem mnmxTb1 : tbl mnmxTb 73 = some (.data rcC) := rfl
theorem mnmx_spec {N : NR} : SpecD N Tryz.prog 144 mnmxC := by
  refine rd2 (mf := fun f => f == cel 4 || f == cel 5) mnmxTb_ok (fn := Tryz.f144) (by kernel_rfl) rfl (by kernel_rfl) (by kernel_rfl) ?_
  rintro a b hp
  have hp : qsz a + qsz b < LM := hp
  show awp _ _ _ _ (start _ ([eRat a, eRat b].map .dat) []) (endK _ _ _ (([eRat (loQ a b), eRat (hiQ a b)]).map .dat) [])
  have h0 : qsz a + qsz b < MX := by grind [qsz_add, qsz_sub, qsz_mul, qsz_neg, MX_val, LM_val]
  by_cases h : 0 < qcmp a b <;> simp [-D.isLit, Tryz.f144, loQ, hiQ, h, h0]
theorem mnmx_ok : callable Tryz.prog 144 = true := by kernel_rfl

/-! i.apart -/
noncomputable def aprtC := ct4 ERat ERat ERat ERat (fun p0 p1 p2 p3 => qsz p0 + qsz p1 + qsz p2 + qsz p3 < LM) (fun p0 p1 p2 p3 => [.lit (.bool (bapart p0 p1 p2 p3))])
@[simp] theorem aprtC_at (a : Rat) (b : Rat) (c : Rat) (d : Rat) : aprtC [eRat a, eRat b, eRat c, eRat d] = (qsz a + qsz b + qsz c + qsz d < LM, [.lit (.bool (bapart a b c d))]) := ct4_at a b c d
noncomputable def aprtTb : List (FuncId × Ct) := [(144, .data mnmxC), (73, .data rcC)]
theorem aprtTb_ok {N : NR} : TbOK N Tryz.prog (tbl aprtTb) := tbl_cons (c := .data mnmxC) mnmx_spec mnmx_ok (tbl_cons (c := .data rcC) rcmp_spec rcmp_ok tbl_nil)

@[simp] theorem aprtTb1 : tbl aprtTb 144 = some (.data mnmxC) := rfl
@[simp] theorem aprtTb2 : tbl aprtTb 73 = some (.data rcC) := rfl
theorem aprt_spec {N : NR} : SpecD N Tryz.prog 99 aprtC := by
  refine rd4 (mf := fun f => false) aprtTb_ok (fn := Tryz.f99) (by kernel_rfl) rfl (by kernel_rfl) (by kernel_rfl) ?_
  rintro a b c d hp
  have hp : qsz a + qsz b + qsz c + qsz d < LM := hp
  show awp _ _ _ _ (start _ ([eRat a, eRat b, eRat c, eRat d].map .dat) []) (endK _ _ _ (([.lit (.bool (bapart a b c d))]).map .dat) [])
  have h1 : qsz a + qsz b < LM := by omega
  have h2 : qsz c + qsz d < LM := by omega
  have h3 : qsz (hiQ a b) + qsz (loQ c d) < MX := by grind [qsz_add, qsz_sub, qsz_mul, qsz_neg, MX_val, LM_val, loQ_sz, hiQ_sz]
  have h4 : qsz (hiQ c d) + qsz (loQ a b) < MX := by grind [qsz_add, qsz_sub, qsz_mul, qsz_neg, MX_val, LM_val, loQ_sz, hiQ_sz]
  by_cases h : qcmp (hiQ a b) (loQ c d) < 0 <;> simp [-D.isLit, Tryz.f99, bapart, h, h1, h2, h3, h4]
theorem aprt_ok : callable Tryz.prog 99 = true := by kernel_rfl

/-! (i.sg).has -/
noncomputable def sghasC := ct2 ESg EP (fun p0 p1 => qsz p0.1.1 + qsz p0.1.2 + qsz p0.2.1 + qsz p0.2.2 + qsz p1.1 + qsz p1.2 < 10000000) (fun p0 p1 => [.lit (.bool (hasB p0.1.1 p0.1.2 p0.2.1 p0.2.2 p1.1 p1.2))])
@[simp] theorem sghasC_at (a b c d : Rat) (e f : Rat) : sghasC [.agg [.agg [eRat a, eRat b], .agg [eRat c, eRat d]], .agg [eRat e, eRat f]] = (qsz a + qsz b + qsz c + qsz d + qsz e + qsz f < 10000000, [.lit (.bool (hasB a b c d e f))]) := ct2_at ((a, b), c, d) (e, f)
noncomputable def sghasTb : List (FuncId × Ct) := [(99, .data aprtC), (100, .data trnC)]
theorem sghasTb_ok {N : NR} : TbOK N Tryz.prog (tbl sghasTb) := tbl_cons (c := .data aprtC) aprt_spec aprt_ok (tbl_cons (c := .data trnC) trn_spec trn_ok tbl_nil)

@[simp] theorem sghasTb1 : tbl sghasTb 99 = some (.data aprtC) := rfl
@[simp] theorem sghasTb2 : tbl sghasTb 100 = some (.data trnC) := rfl
theorem sghas_spec {N : NR} : SpecD N Tryz.prog 51 sghasC := by
  refine rd2 (mf := fun f => false) sghasTb_ok (fn := Tryz.f51) (by kernel_rfl) rfl (by kernel_rfl) (by kernel_rfl) ?_
  rintro ⟨⟨a, b⟩, c, d⟩ ⟨e, f⟩ hp
  have hp : qsz a + qsz b + qsz c + qsz d + qsz e + qsz f < 10000000 := hp
  show awp _ _ _ _ (start _ ([.agg [.agg [eRat a, eRat b], .agg [eRat c, eRat d]], .agg [eRat e, eRat f]].map .dat) []) (endK _ _ _ (([.lit (.bool (hasB a b c d e f))]).map .dat) [])
  have h1 : qsz a + qsz c + qsz e + qsz e < LM := by grind [qsz_add, qsz_sub, qsz_mul, qsz_neg, MX_val, LM_val]
  have h2 : qsz b + qsz d + qsz f + qsz f < LM := by grind [qsz_add, qsz_sub, qsz_mul, qsz_neg, MX_val, LM_val]
  have h3 : qsz a + qsz b + qsz c + qsz d + qsz e + qsz f < 100000000 := by omega
  cases e1 : bapart a c e e <;> cases e2 : bapart b d f f <;> simp [-D.isLit, Tryz.f51, hasB, h1, h2, h3, e1, e2]
theorem sghas_ok : callable Tryz.prog 51 = true := by kernel_rfl

/-! (i.sg).foot -/
noncomputable def sgfootC := ct2 ESg EP (fun p0 p1 => qsz p0.1.1 + qsz p0.1.2 + qsz p0.2.1 + qsz p0.2.2 + qsz p1.1 + qsz p1.2 < 10000000 ∧ ¬ (p0.2.1 - p0.1.1 = 0 ∧ p0.2.2 - p0.1.2 = 0)) (fun p0 p1 => [eRat (footQ p0.1.1 p0.1.2 p0.2.1 p0.2.2 p1.1 p1.2)])
@[simp] theorem sgfootC_at (a b c d : Rat) (e f : Rat) : sgfootC [.agg [.agg [eRat a, eRat b], .agg [eRat c, eRat d]], .agg [eRat e, eRat f]] = (qsz a + qsz b + qsz c + qsz d + qsz e + qsz f < 10000000 ∧ ¬ (c - a = 0 ∧ d - b = 0), [eRat (footQ a b c d e f)]) := ct2_at ((a, b), c, d) (e, f)
noncomputable def sgfootTb : List (FuncId × Ct) := [(57, .data sgdirC), (105, .data ptsubC), (107, .data dotrC), (108, .data rdvC)]
theorem sgfootTb_ok {N : NR} : TbOK N Tryz.prog (tbl sgfootTb) := tbl_cons (c := .data sgdirC) sgdir_spec sgdir_ok (tbl_cons (c := .data ptsubC) ptsub_spec ptsub_ok (tbl_cons (c := .data dotrC) dotr_spec dotr_ok (tbl_cons (c := .data rdvC) rdiv_spec rdiv_ok tbl_nil)))

@[simp] theorem sgfootTb1 : tbl sgfootTb 57 = some (.data sgdirC) := rfl
@[simp] theorem sgfootTb2 : tbl sgfootTb 105 = some (.data ptsubC) := rfl
@[simp] theorem sgfootTb3 : tbl sgfootTb 107 = some (.data dotrC) := rfl
@[simp] theorem sgfootTb4 : tbl sgfootTb 108 = some (.data rdvC) := rfl
theorem sgfoot_spec {N : NR} : SpecD N Tryz.prog 59 sgfootC := by
  refine rd2 (mf := fun f => false) sgfootTb_ok (fn := Tryz.f59) (by kernel_rfl) rfl (by kernel_rfl) (by kernel_rfl) ?_
  rintro ⟨⟨a, b⟩, c, d⟩ ⟨e, f⟩ hp
  have hp : qsz a + qsz b + qsz c + qsz d + qsz e + qsz f < 10000000 ∧ ¬ (c - a = 0 ∧ d - b = 0) := hp
  show awp _ _ _ _ (start _ ([.agg [.agg [eRat a, eRat b], .agg [eRat c, eRat d]], .agg [eRat e, eRat f]].map .dat) []) (endK _ _ _ (([eRat (footQ a b c d e f)]).map .dat) [])
  simp [-D.isLit, Tryz.f59, footQ]
  grind [qsz_add, qsz_sub, qsz_mul, qsz_neg, MX_val, LM_val, dotQ_sz, sq_pos]
theorem sgfoot_ok : callable Tryz.prog 59 = true := by kernel_rfl
theorem footQ_sz {a b c d p q : Rat} (h : ¬ (c - a = 0 ∧ d - b = 0)) : qsz (footQ a b c d p q) ≤ 4 * (qsz a + qsz b + qsz c + qsz d + qsz p + qsz q) + 10 := by
  unfold footQ
  have := qsz_div (a := dotQ (p - a) (q - b) (c - a) (d - b)) (sq_pos h)
  grind [dotQ_sz, qsz_sub]
theorem nearQ_sz {a b c d p q : Rat} (h : ¬ (c - a = 0 ∧ d - b = 0)) : qsz (nearQ a b c d p q).1 + qsz (nearQ a b c d p q).2 ≤ 12 * (qsz a + qsz b + qsz c + qsz d + qsz p + qsz q) + 40 := by
  have := footQ_sz (p := p) (q := q) h
  unfold nearQ
  split
  · show qsz a + qsz b ≤ _; omega
  · split
    · show qsz c + qsz d ≤ _; omega
    · show qsz (a + (c - a) * footQ a b c d p q) + qsz (b + (d - b) * footQ a b c d p q) ≤ _
      grind [qsz_add, qsz_sub, qsz_mul]
theorem one_rat : ((1 : Int) : Rat) = 1 := rfl
theorem qsz_one : qsz 1 = 1 := by decide +kernel

/-! (i.sg).near -/
noncomputable def sgnearC := ct2 ESg EP (fun p0 p1 => qsz p0.1.1 + qsz p0.1.2 + qsz p0.2.1 + qsz p0.2.2 + qsz p1.1 + qsz p1.2 < 1000000 ∧ ¬ (p0.2.1 - p0.1.1 = 0 ∧ p0.2.2 - p0.1.2 = 0)) (fun p0 p1 => [.agg [eRat (nearQ p0.1.1 p0.1.2 p0.2.1 p0.2.2 p1.1 p1.2).1, eRat (nearQ p0.1.1 p0.1.2 p0.2.1 p0.2.2 p1.1 p1.2).2]])
@[simp] theorem sgnearC_at (a b c d : Rat) (e f : Rat) : sgnearC [.agg [.agg [eRat a, eRat b], .agg [eRat c, eRat d]], .agg [eRat e, eRat f]] = (qsz a + qsz b + qsz c + qsz d + qsz e + qsz f < 1000000 ∧ ¬ (c - a = 0 ∧ d - b = 0), [.agg [eRat (nearQ a b c d e f).1, eRat (nearQ a b c d e f).2]]) := ct2_at ((a, b), c, d) (e, f)
noncomputable def sgnearTb : List (FuncId × Ct) := [(59, .data sgfootC), (109, .data rsgC), (81, .data riC), (73, .data rcC), (57, .data sgdirC), (58, .data pttimesC), (56, .data ptaddC)]
theorem sgnearTb_ok {N : NR} : TbOK N Tryz.prog (tbl sgnearTb) := tbl_cons (c := .data sgfootC) sgfoot_spec sgfoot_ok (tbl_cons (c := .data rsgC) rsign_spec rsign_ok (tbl_cons (c := .data riC) ri_spec ri_ok (tbl_cons (c := .data rcC) rcmp_spec rcmp_ok (tbl_cons (c := .data sgdirC) sgdir_spec sgdir_ok (tbl_cons (c := .data pttimesC) pttimes_spec pttimes_ok (tbl_cons (c := .data ptaddC) ptadd_spec ptadd_ok tbl_nil))))))

@[simp] theorem sgnearTb1 : tbl sgnearTb 59 = some (.data sgfootC) := rfl
@[simp] theorem sgnearTb2 : tbl sgnearTb 109 = some (.data rsgC) := rfl
@[simp] theorem sgnearTb3 : tbl sgnearTb 81 = some (.data riC) := rfl
@[simp] theorem sgnearTb4 : tbl sgnearTb 73 = some (.data rcC) := rfl
@[simp] theorem sgnearTb5 : tbl sgnearTb 57 = some (.data sgdirC) := rfl
@[simp] theorem sgnearTb6 : tbl sgnearTb 58 = some (.data pttimesC) := rfl
@[simp] theorem sgnearTb7 : tbl sgnearTb 56 = some (.data ptaddC) := rfl
theorem sgnear_spec {N : NR} : SpecD N Tryz.prog 62 sgnearC := by
  refine rd2 (mf := fun f => false) sgnearTb_ok (fn := Tryz.f62) (by kernel_rfl) rfl (by kernel_rfl) (by kernel_rfl) ?_
  rintro ⟨⟨a, b⟩, c, d⟩ ⟨e, f⟩ hp
  have hp : qsz a + qsz b + qsz c + qsz d + qsz e + qsz f < 1000000 ∧ ¬ (c - a = 0 ∧ d - b = 0) := hp
  show awp _ _ _ _ (start _ ([.agg [.agg [eRat a, eRat b], .agg [eRat c, eRat d]], .agg [eRat e, eRat f]].map .dat) []) (endK _ _ _ (([.agg [eRat (nearQ a b c d e f).1, eRat (nearQ a b c d e f).2]]).map .dat) [])
  have hz := footQ_sz (p := e) (q := f) hp.2
  have h0 : qsz a + qsz b + qsz c + qsz d + qsz e + qsz f < 10000000 := by omega
  have h1 : qsz (footQ a b c d e f) + qsz (1 : Rat) < MX := by rw [qsz_one, MX_val]; omega
  have h2 := hp.2
  by_cases e1 : (footQ a b c d e f).num.sign ≤ 0
  · simp [-D.isLit, Tryz.f62, nearQ, h0, h2, e1]
  · by_cases e2 : 0 ≤ qcmp (footQ a b c d e f) 1
    · simp [-D.isLit, Tryz.f62, nearQ, h0, h1, h2, e1, e2]
    · simp [-D.isLit, Tryz.f62, nearQ, h0, h1, h2, e1, e2]
      grind [qsz_add, qsz_sub, qsz_mul, qsz_neg, MX_val, LM_val]
theorem sgnear_ok : callable Tryz.prog 62 = true := by kernel_rfl

/-! i.dist2 -/
noncomputable def dst2C := ct2 EP EP (fun p0 p1 => qsz p0.1 + qsz p0.2 + qsz p1.1 + qsz p1.2 < 100000000) (fun p0 p1 => [eRat (dist2Q p0.1 p0.2 p1.1 p1.2)])
@[simp] theorem dst2C_at (a b : Rat) (c d : Rat) : dst2C [.agg [eRat a, eRat b], .agg [eRat c, eRat d]] = (qsz a + qsz b + qsz c + qsz d < 100000000, [eRat (dist2Q a b c d)]) := ct2_at (a, b) (c, d)
noncomputable def dst2Tb : List (FuncId × Ct) := [(105, .data ptsubC), (107, .data dotrC)]
theorem dst2Tb_ok {N : NR} : TbOK N Tryz.prog (tbl dst2Tb) := tbl_cons (c := .data ptsubC) ptsub_spec ptsub_ok (tbl_cons (c := .data dotrC) dotr_spec dotr_ok tbl_nil)

@[simp] theorem dst2Tb1 : tbl dst2Tb 105 = some (.data ptsubC) := rfl
@[simp] theorem dst2Tb2 : tbl dst2Tb 107 = some (.data dotrC) := rfl
theorem dst2_spec {N : NR} : SpecD N Tryz.prog 66 dst2C := by
  refine rd2 (mf := fun f => false) dst2Tb_ok (fn := Tryz.f66) (by kernel_rfl) rfl (by kernel_rfl) (by kernel_rfl) ?_
  rintro ⟨a, b⟩ ⟨c, d⟩ hp
  have hp : qsz a + qsz b + qsz c + qsz d < 100000000 := hp
  show awp _ _ _ _ (start _ ([.agg [eRat a, eRat b], .agg [eRat c, eRat d]].map .dat) []) (endK _ _ _ (([eRat (dist2Q a b c d)]).map .dat) [])
  simp [-D.isLit, Tryz.f66, dist2Q]
  grind [qsz_add, qsz_sub, qsz_mul, qsz_neg, MX_val, LM_val]
theorem dst2_ok : callable Tryz.prog 66 = true := by kernel_rfl

/-! (i.pt).v -/
noncomputable def ptvC := ct1 EP (fun p0 => True) (fun p0 => vD (oV p0.1 p0.2))
@[simp] theorem ptvC_at (a b : Rat) : ptvC [.agg [eRat a, eRat b]] = (True, vD (oV a b)) := ct1_at (a, b)
noncomputable def ptvTb : List (FuncId × Ct) := [(67, .data rqqC)]
theorem ptvTb_ok {N : NR} : TbOK N Tryz.prog (tbl ptvTb) := tbl_cons (c := .data rqqC) rqq_spec rqq_ok tbl_nil

@[simp] theorem ptvTb1 : tbl ptvTb 67 = some (.data rqqC) := rfl
theorem ptv_spec {N : NR} : SpecD N Tryz.prog 60 ptvC := by
  refine rd1 (mf := fun f => false) ptvTb_ok (fn := Tryz.f60) (by kernel_rfl) rfl (by kernel_rfl) (by kernel_rfl) ?_
  rintro ⟨a, b⟩ hp
  have hp : True := hp
  show awp _ _ _ _ (start _ ([.agg [eRat a, eRat b]].map .dat) []) (endK _ _ _ ((vD (oV a b)).map .dat) [])
  cases e1 : (oq a).2.2 <;> cases e2 : (oq b).2.2 <;> simp [-D.isLit, Tryz.f60, oV, vD, e1, e2, eQ, i64D]
theorem ptv_ok : callable Tryz.prog 60 = true := by kernel_rfl
end Go.Proofs.YtlniifhdimaliaaGreat.Ae

/-! OnSeg, Foot, Near, Dist2: both sides and the laws. No condition. -/
namespace Go.Proofs.YtlniifhdimaliaaGreat.Ae
open Go Go.RowKit Go.Proofs.YtlniifhdimaliaaGreat.Dig
theorem seg_ne {a b c d e f g h : Int} (k : segOk a b c d e f g h) : ¬ (Rat.divInt e f - Rat.divInt a b = 0 ∧ Rat.divInt g h - Rat.divInt c d = 0) := by
  rintro ⟨h1, h2⟩
  obtain ⟨⟨⟨k1, k2⟩, k3, k4⟩, kn⟩ := k
  have e1 : Rat.divInt e f = Rat.divInt a b := by grind
  have e2 : Rat.divInt g h = Rat.divInt c d := by grind
  have x1 := QI_num (qOk_QI k1)
  have x2 := QI_num (qOk_QI k2)
  have x3 := QI_num (qOk_QI k3)
  have x4 := QI_num (qOk_QI k4)
  rw [e1] at x3
  rw [e2] at x4
  exact kn ⟨by rw [← x1.1, ← x3.1], by rw [← x1.2, ← x3.2], by rw [← x2.1, ← x4.1], by rw [← x2.2, ← x4.2]⟩
/-- What holds of a good place and a good piece. -/
structure GV (a b c d : Int) : Prop where
  i : I64 a ∧ I64 b
  j : I64 c ∧ I64 d
  ok : qOk a b ∧ qOk c d
theorem GV.w1 {a b c d : Int} (h : GV a b c d) : QI a b := qOk_QI h.ok.1
theorem GV.w2 {a b c d : Int} (h : GV a b c d) : QI c d := qOk_QI h.ok.2
theorem GV.y1 {a b c d : Int} (h : GV a b c d) : I64 a ∧ I64 b ∧ 0 < b := qOk_64 h.ok.1
theorem GV.y2 {a b c d : Int} (h : GV a b c d) : I64 c ∧ I64 d ∧ 0 < d := qOk_64 h.ok.2
theorem GV.sz {a b c d : Int} (h : GV a b c d) : qsz (Rat.divInt a b) + qsz (Rat.divInt c d) ≤ 4 := by
  have := QI_qsz h.w1
  have := QI_qsz h.w2
  omega
def footP (a b c d p q : Rat) : Rat × Rat := (a + (c - a) * footQ a b c d p q, b + (d - b) * footQ a b c d p q)
def noV : (Int × Int) × (Int × Int) × Bool := ((0, 0), (0, 0), false)

/-! i.OnSeg -/
noncomputable def iOnSegC := ct2 EV ESeg (fun p0 p1 => ((I64 p0.1.1 ∧ I64 p0.1.2) ∧ I64 p0.2.1 ∧ I64 p0.2.2) ∧ (((I64 p1.1.1.1 ∧ I64 p1.1.1.2) ∧ I64 p1.1.2.1 ∧ I64 p1.1.2.2) ∧ ((I64 p1.2.1.1 ∧ I64 p1.2.1.2) ∧ I64 p1.2.2.1 ∧ I64 p1.2.2.2))) (fun p0 p1 => [.lit (.bool (if (qOk p0.1.1 p0.1.2 ∧ qOk p0.2.1 p0.2.2) ∧ segOk p1.1.1.1 p1.1.1.2 p1.1.2.1 p1.1.2.2 p1.2.1.1 p1.2.1.2 p1.2.2.1 p1.2.2.2 then hasB (Rat.divInt p1.1.1.1 p1.1.1.2) (Rat.divInt p1.1.2.1 p1.1.2.2) (Rat.divInt p1.2.1.1 p1.2.1.2) (Rat.divInt p1.2.2.1 p1.2.2.2) (Rat.divInt p0.1.1 p0.1.2) (Rat.divInt p0.2.1 p0.2.2) else false))])
@[simp] theorem iOnSegC_at (a b c d : Int) (e f g h i j k l : Int) : iOnSegC [.agg [eQ a b, eQ c d], .agg [.agg [eQ e f, eQ g h], .agg [eQ i j, eQ k l]]] = (((I64 a ∧ I64 b) ∧ I64 c ∧ I64 d) ∧ (((I64 e ∧ I64 f) ∧ I64 g ∧ I64 h) ∧ ((I64 i ∧ I64 j) ∧ I64 k ∧ I64 l)), [.lit (.bool (if (qOk a b ∧ qOk c d) ∧ segOk e f g h i j k l then hasB (Rat.divInt e f) (Rat.divInt g h) (Rat.divInt i j) (Rat.divInt k l) (Rat.divInt a b) (Rat.divInt c d) else false))]) := ct2_at ((a, b), c, d) (((e, f), g, h), (i, j), k, l)
noncomputable def iOnSegTb : List (FuncId × Ct) := [(48, .data iVOkC), (49, .data iSegOkC), (50, .data psgC), (52, .data pvC), (51, .data sghasC)]
theorem iOnSegTb_ok {N : NR} : TbOK N Tryz.prog (tbl iOnSegTb) := tbl_cons (c := .data iVOkC) iVOk_spec iVOk_ok (tbl_cons (c := .data iSegOkC) iSegOk_spec iSegOk_ok (tbl_cons (c := .data psgC) psg_spec psg_ok (tbl_cons (c := .data pvC) pv_spec pv_ok (tbl_cons (c := .data sghasC) sghas_spec sghas_ok tbl_nil))))

@[simp] theorem iOnSegTb1 : tbl iOnSegTb 48 = some (.data iVOkC) := rfl
@[simp] theorem iOnSegTb2 : tbl iOnSegTb 49 = some (.data iSegOkC) := rfl
@[simp] theorem iOnSegTb3 : tbl iOnSegTb 50 = some (.data psgC) := rfl
@[simp] theorem iOnSegTb4 : tbl iOnSegTb 52 = some (.data pvC) := rfl
@[simp] theorem iOnSegTb5 : tbl iOnSegTb 51 = some (.data sghasC) := rfl
theorem iOnSeg_spec {N : NR} : SpecD N Tryz.prog 15 iOnSegC := by
  refine rd2 (mf := fun f => false) iOnSegTb_ok (fn := Tryz.f15) (by kernel_rfl) rfl (by kernel_rfl) (by kernel_rfl) ?_
  rintro ⟨⟨a, b⟩, c, d⟩ ⟨⟨⟨e, f⟩, g, h⟩, ⟨i, j⟩, k, l⟩ hp
  have hp : ((I64 a ∧ I64 b) ∧ I64 c ∧ I64 d) ∧ (((I64 e ∧ I64 f) ∧ I64 g ∧ I64 h) ∧ ((I64 i ∧ I64 j) ∧ I64 k ∧ I64 l)) := hp
  show awp _ _ _ _ (start _ ([.agg [eQ a b, eQ c d], .agg [.agg [eQ e f, eQ g h], .agg [eQ i j, eQ k l]]].map .dat) []) (endK _ _ _ (([.lit (.bool (if (qOk a b ∧ qOk c d) ∧ segOk e f g h i j k l then hasB (Rat.divInt e f) (Rat.divInt g h) (Rat.divInt i j) (Rat.divInt k l) (Rat.divInt a b) (Rat.divInt c d) else false))]).map .dat) [])
  obtain ⟨⟨⟨i1, i2⟩, i3, i4⟩, ⟨⟨i5, i6⟩, i7, i8⟩, ⟨i9, i10⟩, i11, i12⟩ := hp
  by_cases h1 : qOk a b ∧ qOk c d
  · by_cases h2 : segOk e f g h i j k l
    · have g1 : GV a b c d := ⟨⟨i1, i2⟩, ⟨i3, i4⟩, h1⟩
      have g2 : GV e f g h := ⟨⟨i5, i6⟩, ⟨i7, i8⟩, h2.1.1⟩
      have g3 : GV i j k l := ⟨⟨i9, i10⟩, ⟨i11, i12⟩, h2.1.2⟩
      have hn := seg_ne h2
      have z1 := g1.sz
      have z2 := g2.sz
      have z3 := g3.sz
      have y1 := g1.y1.2.2
      have y2 := g1.y2.2.2
      have y3 := g2.y1.2.2
      have y4 := g2.y2.2.2
      have y5 := g3.y1.2.2
      have y6 := g3.y2.2.2
      have w1 := g1.w1
      have w2 := g1.w2
      have w3 := g2.w1
      have w4 := g2.w2
      have w5 := g3.w1
      have w6 := g3.w2
      rw [if_pos ⟨h1, h2⟩]
      simp [-D.isLit, Tryz.f15, i1, i2, i3, i4, i5, i6, i7, i8, i9, i10, i11, i12, h1.1, h1.2, h2, y1, y2, y3, y4, y5, y6, w1, w2, w3, w4, w5, w6, vD]
      all_goals grind [qsz_add, qsz_sub, qsz_mul, qsz_neg, MX_val, LM_val]
    · rw [if_neg (fun x => h2 x.2)]
      simp [-D.isLit, Tryz.f15, i1, i2, i3, i4, i5, i6, i7, i8, i9, i10, i11, i12, h1.1, h1.2, h2, vD, noV, d3, no3, boolD] <;> exact Sub.refl _
  · rw [if_neg (fun x => h1 x.1)]
    have h1' : (decide (qOk a b) && decide (qOk c d)) = false := by rw [← Bool.decide_and]; exact decide_eq_false h1
    simp [-D.isLit, Tryz.f15, i1, i2, i3, i4, i5, i6, i7, i8, i9, i10, i11, i12, h1, h1', vD, noV, d3, no3, boolD] <;> exact Sub.refl _
theorem iOnSeg_ok : callable Tryz.prog 15 = true := by kernel_rfl

/-! i.Foot -/
noncomputable def iFootC := ct2 EV ESeg (fun p0 p1 => ((I64 p0.1.1 ∧ I64 p0.1.2) ∧ I64 p0.2.1 ∧ I64 p0.2.2) ∧ (((I64 p1.1.1.1 ∧ I64 p1.1.1.2) ∧ I64 p1.1.2.1 ∧ I64 p1.1.2.2) ∧ ((I64 p1.2.1.1 ∧ I64 p1.2.1.2) ∧ I64 p1.2.2.1 ∧ I64 p1.2.2.2))) (fun p0 p1 => vD (if (qOk p0.1.1 p0.1.2 ∧ qOk p0.2.1 p0.2.2) ∧ segOk p1.1.1.1 p1.1.1.2 p1.1.2.1 p1.1.2.2 p1.2.1.1 p1.2.1.2 p1.2.2.1 p1.2.2.2 then oV (footP (Rat.divInt p1.1.1.1 p1.1.1.2) (Rat.divInt p1.1.2.1 p1.1.2.2) (Rat.divInt p1.2.1.1 p1.2.1.2) (Rat.divInt p1.2.2.1 p1.2.2.2) (Rat.divInt p0.1.1 p0.1.2) (Rat.divInt p0.2.1 p0.2.2)).1 (footP (Rat.divInt p1.1.1.1 p1.1.1.2) (Rat.divInt p1.1.2.1 p1.1.2.2) (Rat.divInt p1.2.1.1 p1.2.1.2) (Rat.divInt p1.2.2.1 p1.2.2.2) (Rat.divInt p0.1.1 p0.1.2) (Rat.divInt p0.2.1 p0.2.2)).2 else noV))
@[simp] theorem iFootC_at (a b c d : Int) (e f g h i j k l : Int) : iFootC [.agg [eQ a b, eQ c d], .agg [.agg [eQ e f, eQ g h], .agg [eQ i j, eQ k l]]] = (((I64 a ∧ I64 b) ∧ I64 c ∧ I64 d) ∧ (((I64 e ∧ I64 f) ∧ I64 g ∧ I64 h) ∧ ((I64 i ∧ I64 j) ∧ I64 k ∧ I64 l)), vD (if (qOk a b ∧ qOk c d) ∧ segOk e f g h i j k l then oV (footP (Rat.divInt e f) (Rat.divInt g h) (Rat.divInt i j) (Rat.divInt k l) (Rat.divInt a b) (Rat.divInt c d)).1 (footP (Rat.divInt e f) (Rat.divInt g h) (Rat.divInt i j) (Rat.divInt k l) (Rat.divInt a b) (Rat.divInt c d)).2 else noV)) := ct2_at ((a, b), c, d) (((e, f), g, h), (i, j), k, l)
noncomputable def iFootTb : List (FuncId × Ct) := [(48, .data iVOkC), (49, .data iSegOkC), (50, .data psgC), (52, .data pvC), (59, .data sgfootC), (57, .data sgdirC), (58, .data pttimesC), (56, .data ptaddC), (60, .data ptvC)]
theorem iFootTb_ok {N : NR} : TbOK N Tryz.prog (tbl iFootTb) := tbl_cons (c := .data iVOkC) iVOk_spec iVOk_ok (tbl_cons (c := .data iSegOkC) iSegOk_spec iSegOk_ok (tbl_cons (c := .data psgC) psg_spec psg_ok (tbl_cons (c := .data pvC) pv_spec pv_ok (tbl_cons (c := .data sgfootC) sgfoot_spec sgfoot_ok (tbl_cons (c := .data sgdirC) sgdir_spec sgdir_ok (tbl_cons (c := .data pttimesC) pttimes_spec pttimes_ok (tbl_cons (c := .data ptaddC) ptadd_spec ptadd_ok (tbl_cons (c := .data ptvC) ptv_spec ptv_ok tbl_nil))))))))

@[simp] theorem iFootTb1 : tbl iFootTb 48 = some (.data iVOkC) := rfl
@[simp] theorem iFootTb2 : tbl iFootTb 49 = some (.data iSegOkC) := rfl
@[simp] theorem iFootTb3 : tbl iFootTb 50 = some (.data psgC) := rfl
@[simp] theorem iFootTb4 : tbl iFootTb 52 = some (.data pvC) := rfl
@[simp] theorem iFootTb5 : tbl iFootTb 59 = some (.data sgfootC) := rfl
@[simp] theorem iFootTb6 : tbl iFootTb 57 = some (.data sgdirC) := rfl
@[simp] theorem iFootTb7 : tbl iFootTb 58 = some (.data pttimesC) := rfl
@[simp] theorem iFootTb8 : tbl iFootTb 56 = some (.data ptaddC) := rfl
@[simp] theorem iFootTb9 : tbl iFootTb 60 = some (.data ptvC) := rfl
theorem iFoot_spec {N : NR} : SpecD N Tryz.prog 17 iFootC := by
  refine rd2 (mf := fun f => false) iFootTb_ok (fn := Tryz.f17) (by kernel_rfl) rfl (by kernel_rfl) (by kernel_rfl) ?_
  rintro ⟨⟨a, b⟩, c, d⟩ ⟨⟨⟨e, f⟩, g, h⟩, ⟨i, j⟩, k, l⟩ hp
  have hp : ((I64 a ∧ I64 b) ∧ I64 c ∧ I64 d) ∧ (((I64 e ∧ I64 f) ∧ I64 g ∧ I64 h) ∧ ((I64 i ∧ I64 j) ∧ I64 k ∧ I64 l)) := hp
  show awp _ _ _ _ (start _ ([.agg [eQ a b, eQ c d], .agg [.agg [eQ e f, eQ g h], .agg [eQ i j, eQ k l]]].map .dat) []) (endK _ _ _ ((vD (if (qOk a b ∧ qOk c d) ∧ segOk e f g h i j k l then oV (footP (Rat.divInt e f) (Rat.divInt g h) (Rat.divInt i j) (Rat.divInt k l) (Rat.divInt a b) (Rat.divInt c d)).1 (footP (Rat.divInt e f) (Rat.divInt g h) (Rat.divInt i j) (Rat.divInt k l) (Rat.divInt a b) (Rat.divInt c d)).2 else noV)).map .dat) [])
  obtain ⟨⟨⟨i1, i2⟩, i3, i4⟩, ⟨⟨i5, i6⟩, i7, i8⟩, ⟨i9, i10⟩, i11, i12⟩ := hp
  by_cases h1 : qOk a b ∧ qOk c d
  · by_cases h2 : segOk e f g h i j k l
    · have g1 : GV a b c d := ⟨⟨i1, i2⟩, ⟨i3, i4⟩, h1⟩
      have g2 : GV e f g h := ⟨⟨i5, i6⟩, ⟨i7, i8⟩, h2.1.1⟩
      have g3 : GV i j k l := ⟨⟨i9, i10⟩, ⟨i11, i12⟩, h2.1.2⟩
      have hn := seg_ne h2
      have z1 := g1.sz
      have z2 := g2.sz
      have z3 := g3.sz
      have y1 := g1.y1.2.2
      have y2 := g1.y2.2.2
      have y3 := g2.y1.2.2
      have y4 := g2.y2.2.2
      have y5 := g3.y1.2.2
      have y6 := g3.y2.2.2
      have w1 := g1.w1
      have w2 := g1.w2
      have w3 := g2.w1
      have w4 := g2.w2
      have w5 := g3.w1
      have w6 := g3.w2
      rw [if_pos ⟨h1, h2⟩]
      have fz := footQ_sz (p := Rat.divInt a b) (q := Rat.divInt c d) hn
      simp [-D.isLit, Tryz.f17, i1, i2, i3, i4, i5, i6, i7, i8, i9, i10, i11, i12, h1.1, h1.2, h2, y1, y2, y3, y4, y5, y6, w1, w2, w3, w4, w5, w6, vD, footP]
      all_goals grind [qsz_add, qsz_sub, qsz_mul, qsz_neg, MX_val, LM_val]
    · rw [if_neg (fun x => h2 x.2)]
      simp [-D.isLit, Tryz.f17, i1, i2, i3, i4, i5, i6, i7, i8, i9, i10, i11, i12, h1.1, h1.2, h2, vD, noV, d3, no3, boolD] <;> exact Sub.refl _
  · rw [if_neg (fun x => h1 x.1)]
    have h1' : (decide (qOk a b) && decide (qOk c d)) = false := by rw [← Bool.decide_and]; exact decide_eq_false h1
    simp [-D.isLit, Tryz.f17, i1, i2, i3, i4, i5, i6, i7, i8, i9, i10, i11, i12, h1, h1', vD, noV, d3, no3, boolD] <;> exact Sub.refl _
theorem iFoot_ok : callable Tryz.prog 17 = true := by kernel_rfl

/-! i.Near -/
noncomputable def iNearC := ct2 EV ESeg (fun p0 p1 => ((I64 p0.1.1 ∧ I64 p0.1.2) ∧ I64 p0.2.1 ∧ I64 p0.2.2) ∧ (((I64 p1.1.1.1 ∧ I64 p1.1.1.2) ∧ I64 p1.1.2.1 ∧ I64 p1.1.2.2) ∧ ((I64 p1.2.1.1 ∧ I64 p1.2.1.2) ∧ I64 p1.2.2.1 ∧ I64 p1.2.2.2))) (fun p0 p1 => vD (if (qOk p0.1.1 p0.1.2 ∧ qOk p0.2.1 p0.2.2) ∧ segOk p1.1.1.1 p1.1.1.2 p1.1.2.1 p1.1.2.2 p1.2.1.1 p1.2.1.2 p1.2.2.1 p1.2.2.2 then oV (nearQ (Rat.divInt p1.1.1.1 p1.1.1.2) (Rat.divInt p1.1.2.1 p1.1.2.2) (Rat.divInt p1.2.1.1 p1.2.1.2) (Rat.divInt p1.2.2.1 p1.2.2.2) (Rat.divInt p0.1.1 p0.1.2) (Rat.divInt p0.2.1 p0.2.2)).1 (nearQ (Rat.divInt p1.1.1.1 p1.1.1.2) (Rat.divInt p1.1.2.1 p1.1.2.2) (Rat.divInt p1.2.1.1 p1.2.1.2) (Rat.divInt p1.2.2.1 p1.2.2.2) (Rat.divInt p0.1.1 p0.1.2) (Rat.divInt p0.2.1 p0.2.2)).2 else noV))
@[simp] theorem iNearC_at (a b c d : Int) (e f g h i j k l : Int) : iNearC [.agg [eQ a b, eQ c d], .agg [.agg [eQ e f, eQ g h], .agg [eQ i j, eQ k l]]] = (((I64 a ∧ I64 b) ∧ I64 c ∧ I64 d) ∧ (((I64 e ∧ I64 f) ∧ I64 g ∧ I64 h) ∧ ((I64 i ∧ I64 j) ∧ I64 k ∧ I64 l)), vD (if (qOk a b ∧ qOk c d) ∧ segOk e f g h i j k l then oV (nearQ (Rat.divInt e f) (Rat.divInt g h) (Rat.divInt i j) (Rat.divInt k l) (Rat.divInt a b) (Rat.divInt c d)).1 (nearQ (Rat.divInt e f) (Rat.divInt g h) (Rat.divInt i j) (Rat.divInt k l) (Rat.divInt a b) (Rat.divInt c d)).2 else noV)) := ct2_at ((a, b), c, d) (((e, f), g, h), (i, j), k, l)
noncomputable def iNearTb : List (FuncId × Ct) := [(48, .data iVOkC), (49, .data iSegOkC), (50, .data psgC), (52, .data pvC), (62, .data sgnearC), (60, .data ptvC)]
theorem iNearTb_ok {N : NR} : TbOK N Tryz.prog (tbl iNearTb) := tbl_cons (c := .data iVOkC) iVOk_spec iVOk_ok (tbl_cons (c := .data iSegOkC) iSegOk_spec iSegOk_ok (tbl_cons (c := .data psgC) psg_spec psg_ok (tbl_cons (c := .data pvC) pv_spec pv_ok (tbl_cons (c := .data sgnearC) sgnear_spec sgnear_ok (tbl_cons (c := .data ptvC) ptv_spec ptv_ok tbl_nil)))))

@[simp] theorem iNearTb1 : tbl iNearTb 48 = some (.data iVOkC) := rfl
@[simp] theorem iNearTb2 : tbl iNearTb 49 = some (.data iSegOkC) := rfl
@[simp] theorem iNearTb3 : tbl iNearTb 50 = some (.data psgC) := rfl
@[simp] theorem iNearTb4 : tbl iNearTb 52 = some (.data pvC) := rfl
@[simp] theorem iNearTb5 : tbl iNearTb 62 = some (.data sgnearC) := rfl
@[simp] theorem iNearTb6 : tbl iNearTb 60 = some (.data ptvC) := rfl
theorem iNear_spec {N : NR} : SpecD N Tryz.prog 20 iNearC := by
  refine rd2 (mf := fun f => false) iNearTb_ok (fn := Tryz.f20) (by kernel_rfl) rfl (by kernel_rfl) (by kernel_rfl) ?_
  rintro ⟨⟨a, b⟩, c, d⟩ ⟨⟨⟨e, f⟩, g, h⟩, ⟨i, j⟩, k, l⟩ hp
  have hp : ((I64 a ∧ I64 b) ∧ I64 c ∧ I64 d) ∧ (((I64 e ∧ I64 f) ∧ I64 g ∧ I64 h) ∧ ((I64 i ∧ I64 j) ∧ I64 k ∧ I64 l)) := hp
  show awp _ _ _ _ (start _ ([.agg [eQ a b, eQ c d], .agg [.agg [eQ e f, eQ g h], .agg [eQ i j, eQ k l]]].map .dat) []) (endK _ _ _ ((vD (if (qOk a b ∧ qOk c d) ∧ segOk e f g h i j k l then oV (nearQ (Rat.divInt e f) (Rat.divInt g h) (Rat.divInt i j) (Rat.divInt k l) (Rat.divInt a b) (Rat.divInt c d)).1 (nearQ (Rat.divInt e f) (Rat.divInt g h) (Rat.divInt i j) (Rat.divInt k l) (Rat.divInt a b) (Rat.divInt c d)).2 else noV)).map .dat) [])
  obtain ⟨⟨⟨i1, i2⟩, i3, i4⟩, ⟨⟨i5, i6⟩, i7, i8⟩, ⟨i9, i10⟩, i11, i12⟩ := hp
  by_cases h1 : qOk a b ∧ qOk c d
  · by_cases h2 : segOk e f g h i j k l
    · have g1 : GV a b c d := ⟨⟨i1, i2⟩, ⟨i3, i4⟩, h1⟩
      have g2 : GV e f g h := ⟨⟨i5, i6⟩, ⟨i7, i8⟩, h2.1.1⟩
      have g3 : GV i j k l := ⟨⟨i9, i10⟩, ⟨i11, i12⟩, h2.1.2⟩
      have hn := seg_ne h2
      have z1 := g1.sz
      have z2 := g2.sz
      have z3 := g3.sz
      have y1 := g1.y1.2.2
      have y2 := g1.y2.2.2
      have y3 := g2.y1.2.2
      have y4 := g2.y2.2.2
      have y5 := g3.y1.2.2
      have y6 := g3.y2.2.2
      have w1 := g1.w1
      have w2 := g1.w2
      have w3 := g2.w1
      have w4 := g2.w2
      have w5 := g3.w1
      have w6 := g3.w2
      rw [if_pos ⟨h1, h2⟩]
      simp [-D.isLit, Tryz.f20, i1, i2, i3, i4, i5, i6, i7, i8, i9, i10, i11, i12, h1.1, h1.2, h2, y1, y2, y3, y4, y5, y6, w1, w2, w3, w4, w5, w6, vD]
      all_goals grind [qsz_add, qsz_sub, qsz_mul, qsz_neg, MX_val, LM_val]
    · rw [if_neg (fun x => h2 x.2)]
      simp [-D.isLit, Tryz.f20, i1, i2, i3, i4, i5, i6, i7, i8, i9, i10, i11, i12, h1.1, h1.2, h2, vD, noV, d3, no3, boolD] <;> exact Sub.refl _
  · rw [if_neg (fun x => h1 x.1)]
    have h1' : (decide (qOk a b) && decide (qOk c d)) = false := by rw [← Bool.decide_and]; exact decide_eq_false h1
    simp [-D.isLit, Tryz.f20, i1, i2, i3, i4, i5, i6, i7, i8, i9, i10, i11, i12, h1, h1', vD, noV, d3, no3, boolD] <;> exact Sub.refl _
theorem iNear_ok : callable Tryz.prog 20 = true := by kernel_rfl

/-! i.Dist2 -/
noncomputable def iDist2C := ct2 EV ESeg (fun p0 p1 => ((I64 p0.1.1 ∧ I64 p0.1.2) ∧ I64 p0.2.1 ∧ I64 p0.2.2) ∧ (((I64 p1.1.1.1 ∧ I64 p1.1.1.2) ∧ I64 p1.1.2.1 ∧ I64 p1.1.2.2) ∧ ((I64 p1.2.1.1 ∧ I64 p1.2.1.2) ∧ I64 p1.2.2.1 ∧ I64 p1.2.2.2))) (fun p0 p1 => d3 (if (qOk p0.1.1 p0.1.2 ∧ qOk p0.2.1 p0.2.2) ∧ segOk p1.1.1.1 p1.1.1.2 p1.1.2.1 p1.1.2.2 p1.2.1.1 p1.2.1.2 p1.2.2.1 p1.2.2.2 then oq (dist2Q (Rat.divInt p0.1.1 p0.1.2) (Rat.divInt p0.2.1 p0.2.2) (nearQ (Rat.divInt p1.1.1.1 p1.1.1.2) (Rat.divInt p1.1.2.1 p1.1.2.2) (Rat.divInt p1.2.1.1 p1.2.1.2) (Rat.divInt p1.2.2.1 p1.2.2.2) (Rat.divInt p0.1.1 p0.1.2) (Rat.divInt p0.2.1 p0.2.2)).1 (nearQ (Rat.divInt p1.1.1.1 p1.1.1.2) (Rat.divInt p1.1.2.1 p1.1.2.2) (Rat.divInt p1.2.1.1 p1.2.1.2) (Rat.divInt p1.2.2.1 p1.2.2.2) (Rat.divInt p0.1.1 p0.1.2) (Rat.divInt p0.2.1 p0.2.2)).2) else no3))
@[simp] theorem iDist2C_at (a b c d : Int) (e f g h i j k l : Int) : iDist2C [.agg [eQ a b, eQ c d], .agg [.agg [eQ e f, eQ g h], .agg [eQ i j, eQ k l]]] = (((I64 a ∧ I64 b) ∧ I64 c ∧ I64 d) ∧ (((I64 e ∧ I64 f) ∧ I64 g ∧ I64 h) ∧ ((I64 i ∧ I64 j) ∧ I64 k ∧ I64 l)), d3 (if (qOk a b ∧ qOk c d) ∧ segOk e f g h i j k l then oq (dist2Q (Rat.divInt a b) (Rat.divInt c d) (nearQ (Rat.divInt e f) (Rat.divInt g h) (Rat.divInt i j) (Rat.divInt k l) (Rat.divInt a b) (Rat.divInt c d)).1 (nearQ (Rat.divInt e f) (Rat.divInt g h) (Rat.divInt i j) (Rat.divInt k l) (Rat.divInt a b) (Rat.divInt c d)).2) else no3)) := ct2_at ((a, b), c, d) (((e, f), g, h), (i, j), k, l)
noncomputable def iDist2Tb : List (FuncId × Ct) := [(48, .data iVOkC), (49, .data iSegOkC), (50, .data psgC), (52, .data pvC), (62, .data sgnearC), (66, .data dst2C), (67, .data rqqC)]
theorem iDist2Tb_ok {N : NR} : TbOK N Tryz.prog (tbl iDist2Tb) := tbl_cons (c := .data iVOkC) iVOk_spec iVOk_ok (tbl_cons (c := .data iSegOkC) iSegOk_spec iSegOk_ok (tbl_cons (c := .data psgC) psg_spec psg_ok (tbl_cons (c := .data pvC) pv_spec pv_ok (tbl_cons (c := .data sgnearC) sgnear_spec sgnear_ok (tbl_cons (c := .data dst2C) dst2_spec dst2_ok (tbl_cons (c := .data rqqC) rqq_spec rqq_ok tbl_nil))))))

@[simp] theorem iDist2Tb1 : tbl iDist2Tb 48 = some (.data iVOkC) := rfl
@[simp] theorem iDist2Tb2 : tbl iDist2Tb 49 = some (.data iSegOkC) := rfl
@[simp] theorem iDist2Tb3 : tbl iDist2Tb 50 = some (.data psgC) := rfl
@[simp] theorem iDist2Tb4 : tbl iDist2Tb 52 = some (.data pvC) := rfl
@[simp] theorem iDist2Tb5 : tbl iDist2Tb 62 = some (.data sgnearC) := rfl
@[simp] theorem iDist2Tb6 : tbl iDist2Tb 66 = some (.data dst2C) := rfl
@[simp] theorem iDist2Tb7 : tbl iDist2Tb 67 = some (.data rqqC) := rfl
theorem iDist2_spec {N : NR} : SpecD N Tryz.prog 22 iDist2C := by
  refine rd2 (mf := fun f => false) iDist2Tb_ok (fn := Tryz.f22) (by kernel_rfl) rfl (by kernel_rfl) (by kernel_rfl) ?_
  rintro ⟨⟨a, b⟩, c, d⟩ ⟨⟨⟨e, f⟩, g, h⟩, ⟨i, j⟩, k, l⟩ hp
  have hp : ((I64 a ∧ I64 b) ∧ I64 c ∧ I64 d) ∧ (((I64 e ∧ I64 f) ∧ I64 g ∧ I64 h) ∧ ((I64 i ∧ I64 j) ∧ I64 k ∧ I64 l)) := hp
  show awp _ _ _ _ (start _ ([.agg [eQ a b, eQ c d], .agg [.agg [eQ e f, eQ g h], .agg [eQ i j, eQ k l]]].map .dat) []) (endK _ _ _ ((d3 (if (qOk a b ∧ qOk c d) ∧ segOk e f g h i j k l then oq (dist2Q (Rat.divInt a b) (Rat.divInt c d) (nearQ (Rat.divInt e f) (Rat.divInt g h) (Rat.divInt i j) (Rat.divInt k l) (Rat.divInt a b) (Rat.divInt c d)).1 (nearQ (Rat.divInt e f) (Rat.divInt g h) (Rat.divInt i j) (Rat.divInt k l) (Rat.divInt a b) (Rat.divInt c d)).2) else no3)).map .dat) [])
  obtain ⟨⟨⟨i1, i2⟩, i3, i4⟩, ⟨⟨i5, i6⟩, i7, i8⟩, ⟨i9, i10⟩, i11, i12⟩ := hp
  by_cases h1 : qOk a b ∧ qOk c d
  · by_cases h2 : segOk e f g h i j k l
    · have g1 : GV a b c d := ⟨⟨i1, i2⟩, ⟨i3, i4⟩, h1⟩
      have g2 : GV e f g h := ⟨⟨i5, i6⟩, ⟨i7, i8⟩, h2.1.1⟩
      have g3 : GV i j k l := ⟨⟨i9, i10⟩, ⟨i11, i12⟩, h2.1.2⟩
      have hn := seg_ne h2
      have z1 := g1.sz
      have z2 := g2.sz
      have z3 := g3.sz
      have y1 := g1.y1.2.2
      have y2 := g1.y2.2.2
      have y3 := g2.y1.2.2
      have y4 := g2.y2.2.2
      have y5 := g3.y1.2.2
      have y6 := g3.y2.2.2
      have w1 := g1.w1
      have w2 := g1.w2
      have w3 := g2.w1
      have w4 := g2.w2
      have w5 := g3.w1
      have w6 := g3.w2
      rw [if_pos ⟨h1, h2⟩]
      have nz := nearQ_sz (p := Rat.divInt a b) (q := Rat.divInt c d) hn
      simp [-D.isLit, Tryz.f22, i1, i2, i3, i4, i5, i6, i7, i8, i9, i10, i11, i12, h1.1, h1.2, h2, y1, y2, y3, y4, y5, y6, w1, w2, w3, w4, w5, w6, vD, d3, no3, boolD]
      all_goals grind [qsz_add, qsz_sub, qsz_mul, qsz_neg, MX_val, LM_val]
    · rw [if_neg (fun x => h2 x.2)]
      simp [-D.isLit, Tryz.f22, i1, i2, i3, i4, i5, i6, i7, i8, i9, i10, i11, i12, h1.1, h1.2, h2, vD, noV, d3, no3, boolD] <;> exact Sub.refl _
  · rw [if_neg (fun x => h1 x.1)]
    have h1' : (decide (qOk a b) && decide (qOk c d)) = false := by rw [← Bool.decide_and]; exact decide_eq_false h1
    simp [-D.isLit, Tryz.f22, i1, i2, i3, i4, i5, i6, i7, i8, i9, i10, i11, i12, h1, h1', vD, noV, d3, no3, boolD] <;> exact Sub.refl _
theorem iDist2_ok : callable Tryz.prog 22 = true := by kernel_rfl
end Go.Proofs.YtlniifhdimaliaaGreat.Ae

/-! The plain laws of pieces of the plane: on a piece, what two pieces have in common. No condition. -/
namespace Go.Proofs.YtlniifhdimaliaaGreat.Ae
open Go Go.RowKit Go.Proofs.YtlniifhdimaliaaGreat.Dig
theorem isg_pos (z : Int) : 0 < z.sign ↔ 0 < z := by
  rcases Int.lt_trichotomy z 0 with h | h | h
  · rw [Int.sign_eq_neg_one_of_neg h]; omega
  · subst h; simp
  · rw [Int.sign_eq_one_of_pos h]; omega
theorem isg_neg (z : Int) : z.sign < 0 ↔ z < 0 := by
  rcases Int.lt_trichotomy z 0 with h | h | h
  · rw [Int.sign_eq_neg_one_of_neg h]; omega
  · subst h; simp
  · rw [Int.sign_eq_one_of_pos h]; omega
theorem isg_zero (z : Int) : z.sign = 0 ↔ z = 0 := by
  rcases Int.lt_trichotomy z 0 with h | h | h
  · rw [Int.sign_eq_neg_one_of_neg h]; omega
  · subst h; simp
  · rw [Int.sign_eq_one_of_pos h]; omega
theorem qcmp_lt (a b : Rat) : qcmp a b < 0 ↔ a < b := by unfold qcmp; rw [isg_neg, Rat.lt_iff]; omega
theorem qcmp_gt (a b : Rat) : 0 < qcmp a b ↔ b < a := by unfold qcmp; rw [isg_pos, Rat.lt_iff]; omega
theorem qcmp_eq (a b : Rat) : qcmp a b = 0 ↔ a = b := by
  constructor
  · intro h
    have h1 := (fun x => by have := (qcmp_lt a b).mpr x; omega : ¬ a < b)
    have h2 := (fun x => by have := (qcmp_gt a b).mpr x; omega : ¬ b < a)
    grind
  · rintro rfl; unfold qcmp; simp
theorem qs_neg (a : Rat) : a.num.sign < 0 ↔ a < 0 := by rw [isg_neg]; have := Rat.num_nonneg (q := a); grind
theorem qs_pos (a : Rat) : 0 < a.num.sign ↔ 0 < a := by rw [isg_pos]; have := Rat.num_nonneg (q := a); have := Rat.num_eq_zero (q := a); grind
theorem qs_zero (a : Rat) : a.num.sign = 0 ↔ a = 0 := by rw [isg_zero]; exact Rat.num_eq_zero
theorem lohi (a b : Rat) : (loQ a b = a ∧ hiQ a b = b ∧ a ≤ b) ∨ (loQ a b = b ∧ hiQ a b = a ∧ b < a) := by
  unfold loQ hiQ
  by_cases h : 0 < qcmp a b
  · exact .inr ⟨if_pos h, if_pos h, (qcmp_gt _ _).mp h⟩
  · have h' : ¬ b < a := fun x => h ((qcmp_gt a b).mpr x)
    exact .inl ⟨if_neg h, if_neg h, by grind⟩
theorem lohi_same (a : Rat) : loQ a a = a ∧ hiQ a a = a := by unfold loQ hiQ; split <;> exact ⟨rfl, rfl⟩
/-- Between two numbers, as a product tells it. -/
theorem btw (a b p : Rat) : bapart a b p p = false ↔ (p - a) * (p - b) ≤ 0 := by
  unfold bapart
  rw [(lohi_same p).1, (lohi_same p).2, Bool.or_eq_false_iff, decide_eq_false_iff_not, decide_eq_false_iff_not, qcmp_lt, qcmp_lt]
  rcases lohi a b with ⟨e1, e2, h⟩ | ⟨e1, e2, h⟩ <;> rw [e1, e2]
  · constructor
    · rintro ⟨h1, h2⟩
      have : 0 ≤ (p - a) * (b - p) := Rat.mul_nonneg (by grind) (by grind)
      grind
    · intro h0
      constructor
      · intro h1
        have : 0 < (p - a) * (p - b) := Rat.mul_pos (by grind) (by grind)
        grind
      · intro h1
        have : 0 < (a - p) * (b - p) := Rat.mul_pos (by grind) (by grind)
        grind
  · constructor
    · rintro ⟨h1, h2⟩
      have : 0 ≤ (a - p) * (p - b) := Rat.mul_nonneg (by grind) (by grind)
      grind
    · intro h0
      constructor
      · intro h1
        have : 0 < (p - a) * (p - b) := Rat.mul_pos (by grind) (by grind)
        grind
      · intro h1
        have : 0 < (a - p) * (b - p) := Rat.mul_pos (by grind) (by grind)
        grind
theorem sq_zero {a : Rat} (h : a * a ≤ 0) : a = 0 := by
  have h1 := sq_nn a
  have h2 : a * a = 0 := by grind
  rcases Rat.mul_eq_zero.mp h2 with x | x <;> exact x
theorem sq_p {a : Rat} (h : a ≠ 0) : 0 < a * a := by
  have h1 := sq_nn a
  have : a * a ≠ 0 := fun e => h (sq_zero (by grind))
  grind
/-- On a straight piece: by its box, or by the angle at the place. -/
theorem on_has {a b c d p q : Rat} (hn : ¬ (c - a = 0 ∧ d - b = 0)) :
    hasB a b c d p q = (decide ((turnQ a b c d p q).num.sign = 0) && decide ((dotQ (a - p) (b - q) (c - p) (d - q)).num.sign ≤ 0)) := by
  by_cases ht : (turnQ a b c d p q).num.sign = 0
  · have t0 : turnQ a b c d p q = 0 := (qs_zero _).mp ht
    have hd : (dotQ (a - p) (b - q) (c - p) (d - q)).num.sign ≤ 0 ↔ dotQ (a - p) (b - q) (c - p) (d - q) ≤ 0 := by
      have := qs_pos (dotQ (a - p) (b - q) (c - p) (d - q))
      constructor
      · intro h
        have : ¬ 0 < dotQ (a - p) (b - q) (c - p) (d - q) := fun x => by have := (qs_pos _).mpr x; omega
        grind
      · intro h
        have : ¬ 0 < (dotQ (a - p) (b - q) (c - p) (d - q)).num.sign := fun x => by have := (qs_pos _).mp x; grind
        omega
    have key : (bapart a c p p = false ∧ bapart b d q q = false) ↔ dotQ (a - p) (b - q) (c - p) (d - q) ≤ 0 := by
      rw [btw, btw]
      unfold turnQ crossQ at t0
      unfold dotQ
      generalize hX : p - a = X at *
      generalize hY : q - b = Y at *
      generalize hU : c - a = U at *
      generalize hW : d - b = W at *
      have e1 : p - c = X - U := by grind
      have e2 : q - d = Y - W := by grind
      have e3 : a - p = -X := by grind
      have e4 : b - q = -Y := by grind
      have e5 : c - p = U - X := by grind
      have e6 : d - q = W - Y := by grind
      rw [e1, e2, e3, e4, e5, e6]
      constructor
      · rintro ⟨h1, h2⟩; grind
      · intro h
        have id1 : X * (X - U) * (W * W) = Y * (Y - W) * (U * U) := by grind
        have nnU := sq_nn U
        have nnW := sq_nn W
        constructor
        · refine Decidable.byContradiction fun h1 => ?_
          have h1 : 0 < X * (X - U) := by grind
          have h2 : Y * (Y - W) < 0 := by grind
          have p1 : 0 ≤ X * (X - U) * (W * W) := Rat.mul_nonneg (by grind) nnW
          have p2 : 0 ≤ -(Y * (Y - W)) * (U * U) := Rat.mul_nonneg (by grind) nnU
          have hU0 : U = 0 := Decidable.byContradiction fun hU => by
            have : 0 < -(Y * (Y - W)) * (U * U) := Rat.mul_pos (by grind) (sq_p hU)
            grind
          have hW0 : W = 0 := Decidable.byContradiction fun hW => by
            have : 0 < X * (X - U) * (W * W) := Rat.mul_pos h1 (sq_p hW)
            grind
          exact hn ⟨hU0, hW0⟩
        · refine Decidable.byContradiction fun h1 => ?_
          have h1 : 0 < Y * (Y - W) := by grind
          have h2 : X * (X - U) < 0 := by grind
          have p1 : 0 ≤ Y * (Y - W) * (U * U) := Rat.mul_nonneg (by grind) nnU
          have p2 : 0 ≤ -(X * (X - U)) * (W * W) := Rat.mul_nonneg (by grind) nnW
          have hW0 : W = 0 := Decidable.byContradiction fun hW => by
            have : 0 < -(X * (X - U)) * (W * W) := Rat.mul_pos (by grind) (sq_p hW)
            grind
          have hU0 : U = 0 := Decidable.byContradiction fun hU => by
            have : 0 < Y * (Y - W) * (U * U) := Rat.mul_pos h1 (sq_p hU)
            grind
          exact hn ⟨hU0, hW0⟩
    unfold hasB
    rw [decide_eq_true ht, Bool.and_true, Bool.true_and]
    by_cases hD : dotQ (a - p) (b - q) (c - p) (d - q) ≤ 0
    · obtain ⟨k1, k2⟩ := key.mpr hD
      rw [k1, k2, decide_eq_true (hd.mpr hD)]; rfl
    · have : ¬ (bapart a c p p = false ∧ bapart b d q q = false) := fun x => hD (key.mp x)
      rw [decide_eq_false (fun x => hD (hd.mp x))]
      cases h1 : bapart a c p p <;> cases h2 : bapart b d q q <;> simp_all
  · unfold hasB
    rw [decide_eq_false ht, Bool.and_false, Bool.false_and]
theorem ap_pt {a c e g x : Rat} (h1 : (x - a) * (x - c) ≤ 0) (h2 : (x - e) * (x - g) ≤ 0) : bapart a c e g = false := by
  have k1 := (btw a c x).mpr h1
  have k2 := (btw e g x).mpr h2
  unfold bapart at k1 k2 ⊢
  rw [(lohi_same x).1, (lohi_same x).2, Bool.or_eq_false_iff, decide_eq_false_iff_not, decide_eq_false_iff_not, qcmp_lt, qcmp_lt] at k1 k2
  rw [Bool.or_eq_false_iff, decide_eq_false_iff_not, decide_eq_false_iff_not, qcmp_lt, qcmp_lt]
  grind
theorem pcmp_le (a b c d : Rat) : pcmp a b c d ≤ 0 ↔ (a < c ∨ a = c ∧ b ≤ d) := by
  unfold pcmp
  by_cases h : qcmp a c = 0
  · rw [if_pos h]
    have e := (qcmp_eq a c).mp h
    have := qcmp_gt b d
    constructor
    · intro h1
      have : ¬ d < b := fun x => by have := this.mpr x; omega
      exact .inr ⟨e, by grind⟩
    · rintro (h1 | ⟨_, h1⟩)
      · grind
      · have : ¬ 0 < qcmp b d := fun x => by have := this.mp x; grind
        omega
  · rw [if_neg h]
    have hne : a ≠ c := fun e => h ((qcmp_eq a c).mpr e)
    have h2 := qcmp_lt a c
    constructor
    · intro h1; exact .inl (h2.mp (by omega))
    · rintro (h1 | ⟨h1, _⟩)
      · have := h2.mpr h1; omega
      · exact absurd h1 hne
theorem pcmp_swap (a b c d : Rat) : 0 < pcmp a b c d → pcmp c d a b ≤ 0 := by
  intro h
  have h1 : ¬ pcmp a b c d ≤ 0 := by omega
  rw [pcmp_le] at h1 ⊢
  grind
theorem pcmp_trans {a b c d e f : Rat} (h1 : pcmp a b c d ≤ 0) (h2 : pcmp c d e f ≤ 0) : pcmp a b e f ≤ 0 := by
  rw [pcmp_le] at *
  grind
theorem lexbox {a b c d p q : Rat} (h1 : pcmp a b p q ≤ 0) (h2 : pcmp p q c d ≤ 0) (hc : crossQ (p - a) (q - b) (c - a) (d - b) = 0) :
    (p - a) * (p - c) ≤ 0 ∧ (q - b) * (q - d) ≤ 0 := by
  rw [pcmp_le] at h1 h2
  unfold crossQ at hc
  have x1 : 0 ≤ p - a := by grind
  have x2 : 0 ≤ c - p := by grind
  have hx := Rat.mul_nonneg x1 x2
  refine ⟨by grind, ?_⟩
  by_cases hD : c = a
  · have y1 : 0 ≤ q - b := by grind
    have y2 : 0 ≤ d - q := by grind
    have := Rat.mul_nonneg y1 y2
    grind
  · have hD' : c - a ≠ 0 := by grind
    have hpos := sq_p hD'
    refine Decidable.byContradiction fun hn => ?_
    have hZ : 0 < (q - b) * (q - d) := by grind
    have p1 := Rat.mul_pos hZ hpos
    have e1 : (q - b) * (q - d) * ((c - a) * (c - a)) = ((p - a) * (p - c)) * ((d - b) * (d - b)) := by grind
    have p2 : 0 ≤ ((p - a) * (c - p)) * ((d - b) * (d - b)) := Rat.mul_nonneg hx (sq_nn _)
    grind
def upQ (a b c d : Rat) : (Rat × Rat) × Rat × Rat := if 0 < pcmp a b c d then ((c, d), a, b) else ((a, b), c, d)
def pc2 (p q : Rat × Rat) : Int := pcmp p.1 p.2 q.1 q.2
def gtP (x p : Rat × Rat) : Rat × Rat := if 0 < pc2 x p then x else p
def ltP (x p : Rat × Rat) : Rat × Rat := if pc2 x p < 0 then x else p
def endQ (lo hi : Rat × Rat) : Option (Int × (Rat × Rat) × Rat × Rat) := if pc2 lo hi < 0 then some (2, lo, hi) else if pc2 lo hi = 0 then some (1, lo, lo) else none
def lineQ (a b c d e f g h : Rat) : Option (Int × (Rat × Rat) × Rat × Rat) := endQ (gtP (upQ e f g h).1 (upQ a b c d).1) (ltP (upQ e f g h).2 (upQ a b c d).2)
def parQ (a b c d e f g h : Rat) : Rat := crossQ (c - a) (d - b) (g - e) (h - f)
def tQ (a b c d e f g h : Rat) : Rat := crossQ (e - a) (f - b) (g - e) (h - f) / parQ a b c d e f g h
def sQ (a b c d e f g h : Rat) : Rat := crossQ (e - a) (f - b) (c - a) (d - b) / parQ a b c d e f g h
def inU (t : Rat) : Bool := !(decide (t.num.sign < 0)) && !(decide (0 < qcmp t 1))
def smeetQ (a b c d e f g h : Rat) : Option (Int × (Rat × Rat) × Rat × Rat) :=
  if (parQ a b c d e f g h).num.sign = 0 then
    if (crossQ (c - a) (d - b) (e - a) (f - b)).num.sign = 0 then lineQ a b c d e f g h else none
  else if inU (tQ a b c d e f g h) && inU (sQ a b c d e f g h) then some (1, (a + (c - a) * tQ a b c d e f g h, b + (d - b) * tQ a b c d e f g h), a + (c - a) * tQ a b c d e f g h, b + (d - b) * tQ a b c d e f g h)
  else none
def meetQ (a b c d e f g h : Rat) : Option (Int × (Rat × Rat) × Rat × Rat) := if bapart a c e g || bapart b d f h then none else smeetQ a b c d e f g h
theorem up_spec (a b c d : Rat) : pc2 (upQ a b c d).1 (upQ a b c d).2 ≤ 0 ∧ ((upQ a b c d).1 = (a, b) ∧ (upQ a b c d).2 = (c, d) ∨ (upQ a b c d).1 = (c, d) ∧ (upQ a b c d).2 = (a, b)) := by
  unfold upQ pc2
  by_cases h : 0 < pcmp a b c d
  · rw [if_pos h]; exact ⟨pcmp_swap _ _ _ _ h, .inr ⟨rfl, rfl⟩⟩
  · rw [if_neg h]; exact ⟨by show pcmp a b c d ≤ 0; omega, .inl ⟨rfl, rfl⟩⟩
theorem inU_spec {t : Rat} (h : inU t = true) : 0 ≤ t ∧ t ≤ 1 := by
  unfold inU at h
  rw [Bool.and_eq_true, Bool.not_eq_true', Bool.not_eq_true', decide_eq_false_iff_not, decide_eq_false_iff_not, qs_neg, qcmp_gt] at h
  grind
theorem par_tri {U W V X Y Z : Rat} (hn : ¬ (U = 0 ∧ W = 0)) (h1 : U * X - W * V = 0) (h2 : U * Z - W * Y = 0) : Y * X - Z * V = 0 := by
  by_cases hU : U = 0
  · have hW : W ≠ 0 := fun e => hn ⟨hU, e⟩
    have e1 : W * V = 0 := by grind
    have e2 : W * Y = 0 := by grind
    have e3 : V = 0 := (Rat.mul_eq_zero.mp e1).resolve_left hW
    have e4 : Y = 0 := (Rat.mul_eq_zero.mp e2).resolve_left hW
    grind
  · have : U * (Y * X - Z * V) = 0 := by grind
    exact (Rat.mul_eq_zero.mp this).resolve_left hU
theorem smeet_box {a b c d e f g h : Rat} (hn : ¬ (c - a = 0 ∧ d - b = 0)) (hm : ¬ (g - e = 0 ∧ h - f = 0)) {r : Int × (Rat × Rat) × Rat × Rat} (hs : smeetQ a b c d e f g h = some r) : bapart a c e g = false ∧ bapart b d f h = false := by
  unfold smeetQ at hs
  by_cases hk : (parQ a b c d e f g h).num.sign = 0
  · rw [if_pos hk] at hs
    by_cases hw : (crossQ (c - a) (d - b) (e - a) (f - b)).num.sign = 0
    · rw [if_pos hw] at hs
      have k0 : parQ a b c d e f g h = 0 := (qs_zero _).mp hk
      have w0 : crossQ (c - a) (d - b) (e - a) (f - b) = 0 := (qs_zero _).mp hw
      unfold parQ crossQ at k0
      unfold crossQ at w0
      have w1 : (e - a) * (h - f) - (f - b) * (g - e) = 0 := by
        have := par_tri hn k0 w0
        grind
      obtain ⟨o1, u1⟩ := up_spec a b c d
      obtain ⟨o2, u2⟩ := up_spec e f g h
      unfold lineQ at hs
      generalize hP : gtP (upQ e f g h).1 (upQ a b c d).1 = P at hs
      generalize hR : ltP (upQ e f g h).2 (upQ a b c d).2 = R at hs
      generalize upQ a b c d = u at *
      generalize upQ e f g h = v at *
      have pr : pc2 P R ≤ 0 := by unfold endQ at hs; grind
      have p1 : pc2 u.1 P ≤ 0 ∧ pc2 v.1 P ≤ 0 ∧ (P = u.1 ∨ P = v.1) := by
        rw [← hP]; unfold gtP
        by_cases hc : 0 < pc2 v.1 u.1
        · rw [if_pos hc]; exact ⟨pcmp_swap _ _ _ _ hc, by unfold pc2; rw [pcmp_le]; grind, .inr rfl⟩
        · rw [if_neg hc]; exact ⟨by unfold pc2; rw [pcmp_le]; grind, by omega, .inl rfl⟩
      have p2 : pc2 R u.2 ≤ 0 ∧ pc2 R v.2 ≤ 0 := by
        rw [← hR]; unfold ltP
        by_cases hc : pc2 v.2 u.2 < 0
        · rw [if_pos hc]; exact ⟨by omega, by unfold pc2; rw [pcmp_le]; grind⟩
        · rw [if_neg hc]
          refine ⟨by unfold pc2; rw [pcmp_le]; grind, ?_⟩
          by_cases h0 : 0 < pc2 v.2 u.2
          · exact pcmp_swap _ _ _ _ h0
          · have : pcmp v.2.1 v.2.2 u.2.1 u.2.2 = 0 := by unfold pc2 at hc h0; omega
            have hh : ¬ (qcmp v.2.1 u.2.1 ≠ 0) := by
              intro hq; unfold pcmp at this; rw [if_neg hq] at this; exact hq this
            have hq : qcmp v.2.1 u.2.1 = 0 := by omega
            unfold pcmp at this
            rw [if_pos hq] at this
            have e1 := (qcmp_eq _ _).mp hq
            have e2 := (qcmp_eq _ _).mp this
            unfold pc2; rw [pcmp_le]; grind
      have q1 : pc2 P u.2 ≤ 0 := pcmp_trans pr p2.1
      have q2 : pc2 P v.2 ≤ 0 := pcmp_trans pr p2.2
      have c1 : crossQ (P.1 - u.1.1) (P.2 - u.1.2) (u.2.1 - u.1.1) (u.2.2 - u.1.2) = 0 := by
        unfold crossQ
        rcases p1.2.2 with e0 | e0 <;> rcases u1 with ⟨e1, e2⟩ | ⟨e1, e2⟩ <;> rcases u2 with ⟨e3, e4⟩ | ⟨e3, e4⟩ <;> simp only [e0, e1, e2, e3, e4] <;> grind
      have c2 : crossQ (P.1 - v.1.1) (P.2 - v.1.2) (v.2.1 - v.1.1) (v.2.2 - v.1.2) = 0 := by
        unfold crossQ
        rcases p1.2.2 with e0 | e0 <;> rcases u1 with ⟨e1, e2⟩ | ⟨e1, e2⟩ <;> rcases u2 with ⟨e3, e4⟩ | ⟨e3, e4⟩ <;> simp only [e0, e1, e2, e3, e4] <;> grind
      have b1 := lexbox p1.1 q1 c1
      have b2 := lexbox p1.2.1 q2 c2
      have b3 : (P.1 - a) * (P.1 - c) ≤ 0 ∧ (P.2 - b) * (P.2 - d) ≤ 0 := by
        rcases u1 with ⟨e1, e2⟩ | ⟨e1, e2⟩ <;> rw [e1, e2] at b1 <;> refine ⟨?_, ?_⟩ <;> grind
      have b4 : (P.1 - e) * (P.1 - g) ≤ 0 ∧ (P.2 - f) * (P.2 - h) ≤ 0 := by
        rcases u2 with ⟨e1, e2⟩ | ⟨e1, e2⟩ <;> rw [e1, e2] at b2 <;> refine ⟨?_, ?_⟩ <;> grind
      exact ⟨ap_pt b3.1 b4.1, ap_pt b3.2 b4.2⟩
    · rw [if_neg hw] at hs; simp at hs
  · rw [if_neg hk] at hs
    by_cases hi : (inU (tQ a b c d e f g h) && inU (sQ a b c d e f g h)) = true
    · rw [Bool.and_eq_true] at hi
      have ht := inU_spec hi.1
      have hs' := inU_spec hi.2
      have k0 : parQ a b c d e f g h ≠ 0 := fun x => hk ((qs_zero _).mpr x)
      have et : parQ a b c d e f g h * tQ a b c d e f g h = crossQ (e - a) (f - b) (g - e) (h - f) := by unfold tQ; rw [Rat.mul_comm]; exact Rat.div_mul_cancel k0
      have es : parQ a b c d e f g h * sQ a b c d e f g h = crossQ (e - a) (f - b) (c - a) (d - b) := by unfold sQ; rw [Rat.mul_comm]; exact Rat.div_mul_cancel k0
      generalize tQ a b c d e f g h = t at *
      generalize sQ a b c d e f g h = s at *
      have i1 : parQ a b c d e f g h * (a + (c - a) * t - (e + (g - e) * s)) = 0 := by
        have : parQ a b c d e f g h * (a + (c - a) * t - (e + (g - e) * s)) = parQ a b c d e f g h * (a - e) + (c - a) * (parQ a b c d e f g h * t) - (g - e) * (parQ a b c d e f g h * s) := by grind
        rw [this, et, es]; unfold parQ crossQ; grind
      have i2 : parQ a b c d e f g h * (b + (d - b) * t - (f + (h - f) * s)) = 0 := by
        have : parQ a b c d e f g h * (b + (d - b) * t - (f + (h - f) * s)) = parQ a b c d e f g h * (b - f) + (d - b) * (parQ a b c d e f g h * t) - (h - f) * (parQ a b c d e f g h * s) := by grind
        rw [this, et, es]; unfold parQ crossQ; grind
      have j1 := (Rat.mul_eq_zero.mp i1).resolve_left k0
      have j2 := (Rat.mul_eq_zero.mp i2).resolve_left k0
      have r1 : 0 ≤ t * (1 - t) := Rat.mul_nonneg ht.1 (by grind)
      have r2 : 0 ≤ s * (1 - s) := Rat.mul_nonneg hs'.1 (by grind)
      have m1 := Rat.mul_nonneg r1 (sq_nn (c - a))
      have m2 := Rat.mul_nonneg r1 (sq_nn (d - b))
      have m3 := Rat.mul_nonneg r2 (sq_nn (g - e))
      have m4 := Rat.mul_nonneg r2 (sq_nn (h - f))
      have x1 : a + (c - a) * t = e + (g - e) * s := by grind
      have x2 : b + (d - b) * t = f + (h - f) * s := by grind
      refine ⟨ap_pt (x := a + (c - a) * t) ?_ ?_, ap_pt (x := b + (d - b) * t) ?_ ?_⟩
      · grind
      · rw [x1]; grind
      · grind
      · rw [x2]; grind
    · rw [if_neg hi] at hs; simp at hs
/-- The quick test changes nothing. -/
theorem meet_smeet {a b c d e f g h : Rat} (hn : ¬ (c - a = 0 ∧ d - b = 0)) (hm : ¬ (g - e = 0 ∧ h - f = 0)) : meetQ a b c d e f g h = smeetQ a b c d e f g h := by
  unfold meetQ
  cases hs : smeetQ a b c d e f g h with
  | none => simp
  | some r => obtain ⟨h1, h2⟩ := smeet_box hn hm hs; rw [h1, h2]; simp
end Go.Proofs.YtlniifhdimaliaaGreat.Ae

/-! OnSeg, Foot, Near, Dist2: the reference, and the laws.  No condition. -/
namespace Go.Proofs.YtlniifhdimaliaaGreat.Ae
open Go Go.RowKit Go.Proofs.YtlniifhdimaliaaGreat.Dig
@[simp] theorem eqQ_b (a b c d : Int) : eqQC [eQ a b, eQ c d] = (True, [.lit (.bool (decide (a = c) && decide (b = d)))]) := eqQC_at a b c d
theorem rat_one (a : Int) : Rat.divInt a 1 = (a : Rat) := by rw [Rat.divInt_eq_div]; simp; grind

/-! s.SegOk -/
noncomputable def sSegOkC := ct1 ESeg (fun p0 => (((I64 p0.1.1.1 ∧ I64 p0.1.1.2) ∧ I64 p0.1.2.1 ∧ I64 p0.1.2.2) ∧ ((I64 p0.2.1.1 ∧ I64 p0.2.1.2) ∧ I64 p0.2.2.1 ∧ I64 p0.2.2.2))) (fun p0 => [.lit (.bool (decide (segOk p0.1.1.1 p0.1.1.2 p0.1.2.1 p0.1.2.2 p0.2.1.1 p0.2.1.2 p0.2.2.1 p0.2.2.2)))])
@[simp] theorem sSegOkC_at (a b c d e f g h : Int) : sSegOkC [.agg [.agg [eQ a b, eQ c d], .agg [eQ e f, eQ g h]]] = ((((I64 a ∧ I64 b) ∧ I64 c ∧ I64 d) ∧ ((I64 e ∧ I64 f) ∧ I64 g ∧ I64 h)), [.lit (.bool (decide (segOk a b c d e f g h)))]) := ct1_at (((a, b), c, d), (e, f), g, h)
noncomputable def sSegOkTb : List (FuncId × Ct) := [(43, .data sVOkC)]
theorem sSegOkTb_ok : TbOK NF Tryz.prog (tbl sSegOkTb) := tbl_cons (c := .data sVOkC) sVOk_spec sVOk_ok tbl_nil

@[simp] theorem sSegOkTb1 : tbl sSegOkTb 43 = some (.data sVOkC) := rfl
theorem sSegOk_spec : SpecD NF Tryz.prog 44 sSegOkC := by
  refine rd1 (mf := fun f => false) sSegOkTb_ok (fn := Tryz.f44) (by kernel_rfl) rfl (by kernel_rfl) (by kernel_rfl) ?_
  rintro ⟨⟨⟨a, b⟩, c, d⟩, ⟨e, f⟩, g, h⟩ hp
  have hp : (((I64 a ∧ I64 b) ∧ I64 c ∧ I64 d) ∧ ((I64 e ∧ I64 f) ∧ I64 g ∧ I64 h)) := hp
  show awp _ _ _ _ (start _ ([.agg [.agg [eQ a b, eQ c d], .agg [eQ e f, eQ g h]]].map .dat) []) (endK _ _ _ (([.lit (.bool (decide (segOk a b c d e f g h)))]).map .dat) [])
  obtain ⟨⟨⟨i1, i2⟩, i3, i4⟩, ⟨i5, i6⟩, i7, i8⟩ := hp
  by_cases h1 : qOk a b ∧ qOk c d
  · by_cases h2 : qOk e f ∧ qOk g h
    · have ep := eqPre_V a b c d e f g h ⟨⟨i1, i2⟩, i3, i4⟩ ⟨⟨i5, i6⟩, i7, i8⟩
      by_cases h3 : a = e ∧ b = f ∧ c = g ∧ d = h
      · obtain ⟨rfl, rfl, rfl, rfl⟩ := h3
        simp [-D.isLit, Tryz.f44, segOk, ep, i1, i2, i3, i4, h1.1, h1.2]
      · simp [-D.isLit, Tryz.f44, segOk, ep, i1, i2, i3, i4, i5, i6, i7, i8, h1.1, h1.2, h2.1, h2.2, h3]
        rw [show (!a == e || (!b == f || (!c == g || !d == h))) = true from by simp only [Bool.or_eq_true, Bool.not_eq_true', beq_eq_false_iff_ne, ne_eq]; grind]
        exact Sub.refl _
    · have h2' : (decide (qOk e f) && decide (qOk g h)) = false := by rw [← Bool.decide_and]; exact decide_eq_false h2
      simp [-D.isLit, Tryz.f44, segOk, i1, i2, i3, i4, i5, i6, i7, i8, h1.1, h1.2, h2, h2']
  · have h1' : (decide (qOk a b) && decide (qOk c d)) = false := by rw [← Bool.decide_and]; exact decide_eq_false h1
    simp [-D.isLit, Tryz.f44, segOk, i1, i2, i3, i4, i5, i6, i7, i8, h1, h1']
theorem sSegOk_ok : callable Tryz.prog 44 = true := by kernel_rfl

/-! s.l3V -/
noncomputable def l3VC := ct1 EPn (fun p0 => True) (fun p0 => vD (oV p0.1 p0.2))
@[simp] theorem l3VC_at (a b : Rat) : l3VC [.agg [nD a, nD b]] = (True, vD (oV a b)) := ct1_at (a, b)
noncomputable def l3VTb : List (FuncId × Ct) := [(64, .data nQC)]
theorem l3VTb_ok : TbOK NF Tryz.prog (tbl l3VTb) := tbl_cons (c := .data nQC) nQ_spec l1rQ_ok tbl_nil

@[simp] theorem l3VTb1 : tbl l3VTb 64 = some (.data nQC) := rfl
theorem l3V_spec : SpecD NF Tryz.prog 53 l3VC := by
  refine rd1 (mf := fun f => false) l3VTb_ok (fn := Tryz.f53) (by kernel_rfl) rfl (by kernel_rfl) (by kernel_rfl) ?_
  rintro ⟨a, b⟩ hp
  have hp : True := hp
  show awp _ _ _ _ (start _ ([.agg [nD a, nD b]].map .dat) []) (endK _ _ _ ((vD (oV a b)).map .dat) [])
  cases e1 : (oq a).2.2 <;> cases e2 : (oq b).2.2 <;> simp [-D.isLit, Tryz.f53, oV, vD, e1, e2, eQ, i64D]
theorem l3V_ok : callable Tryz.prog 53 = true := by kernel_rfl

/-! s.l1rInt -/
noncomputable def l1rIntC := ct1 EInt (fun p0 => I64 p0) (fun p0 => [nD (p0 : Rat)])
@[simp] theorem l1rIntC_at (a : Int) : l1rIntC [.lit (.int .i64 a)] = (I64 a, [nD (a : Rat)]) := ct1_at a
noncomputable def l1rIntTb : List (FuncId × Ct) := [(128, .data nOfC)]
theorem l1rIntTb_ok : TbOK NF Tryz.prog (tbl l1rIntTb) := tbl_cons (c := .data nOfC) nOf_spec l1rOf_ok tbl_nil

@[simp] theorem l1rIntTb1 : tbl l1rIntTb 128 = some (.data nOfC) := rfl
theorem l1rInt_spec : SpecD NF Tryz.prog 76 l1rIntC := by
  refine rd1 (mf := fun f => false) l1rIntTb_ok (fn := Tryz.f76) (by kernel_rfl) rfl (by kernel_rfl) (by kernel_rfl) ?_
  rintro a hp
  have hp : I64 a := hp
  show awp _ _ _ _ (start _ ([.lit (.int .i64 a)].map .dat) []) (endK _ _ _ (([nD (a : Rat)]).map .dat) [])
  have e : Rat.divInt a 1 = (a : Rat) := rat_one a
  have h1 : I64 1 := by unfold I64; omega
  simp [-D.isLit, Tryz.f76, hp, h1, e]
theorem l1rInt_ok : callable Tryz.prog 76 = true := by kernel_rfl

/-! s.l3Add -/
noncomputable def l3AddC := ct2 EPn EPn (fun p0 p1 => qsz p0.1 + qsz p0.2 + qsz p1.1 + qsz p1.2 < LM) (fun p0 p1 => [.agg [nD (p0.1 + p1.1), nD (p0.2 + p1.2)]])
@[simp] theorem l3AddC_at (a b : Rat) (c d : Rat) : l3AddC [.agg [nD a, nD b], .agg [nD c, nD d]] = (qsz a + qsz b + qsz c + qsz d < LM, [.agg [nD (a + c), nD (b + d)]]) := ct2_at (a, b) (c, d)
noncomputable def l3AddTb : List (FuncId × Ct) := [(77, .data nAddC)]
theorem l3AddTb_ok : TbOK NF Tryz.prog (tbl l3AddTb) := tbl_cons (c := .data nAddC) nAdd_spec l1rAdd_ok tbl_nil

@[simp] theorem l3AddTb1 : tbl l3AddTb 77 = some (.data nAddC) := rfl
theorem l3Add_spec : SpecD NF Tryz.prog 102 l3AddC := by
  refine rd2 (mf := fun f => false) l3AddTb_ok (fn := Tryz.f102) (by kernel_rfl) rfl (by kernel_rfl) (by kernel_rfl) ?_
  rintro ⟨a, b⟩ ⟨c, d⟩ hp
  have hp : qsz a + qsz b + qsz c + qsz d < LM := hp
  show awp _ _ _ _ (start _ ([.agg [nD a, nD b], .agg [nD c, nD d]].map .dat) []) (endK _ _ _ (([.agg [nD (a + c), nD (b + d)]]).map .dat) [])
  simp [-D.isLit, Tryz.f102]
  grind [qsz_add, qsz_sub, qsz_mul, qsz_neg, MX_val, LM_val]
theorem l3Add_ok : callable Tryz.prog 102 = true := by kernel_rfl

/-! s.l3Times -/
noncomputable def l3TimesC := ct2 EPn ENum (fun p0 p1 => qsz p0.1 + qsz p0.2 + qsz p1 < LM) (fun p0 p1 => [.agg [nD (p0.1 * p1), nD (p0.2 * p1)]])
@[simp] theorem l3TimesC_at (a b : Rat) (c : Rat) : l3TimesC [.agg [nD a, nD b], nD c] = (qsz a + qsz b + qsz c < LM, [.agg [nD (a * c), nD (b * c)]]) := ct2_at (a, b) c
noncomputable def l3TimesTb : List (FuncId × Ct) := [(115, .data nMulC)]
theorem l3TimesTb_ok : TbOK NF Tryz.prog (tbl l3TimesTb) := tbl_cons (c := .data nMulC) nMul_spec l1rMul_ok tbl_nil

@[simp] theorem l3TimesTb1 : tbl l3TimesTb 115 = some (.data nMulC) := rfl
theorem l3Times_spec : SpecD NF Tryz.prog 103 l3TimesC := by
  refine rd2 (mf := fun f => false) l3TimesTb_ok (fn := Tryz.f103) (by kernel_rfl) rfl (by kernel_rfl) (by kernel_rfl) ?_
  rintro ⟨a, b⟩ c hp
  have hp : qsz a + qsz b + qsz c < LM := hp
  show awp _ _ _ _ (start _ ([.agg [nD a, nD b], nD c].map .dat) []) (endK _ _ _ (([.agg [nD (a * c), nD (b * c)]]).map .dat) [])
  simp [-D.isLit, Tryz.f103]
  grind [qsz_add, qsz_sub, qsz_mul, qsz_neg, MX_val, LM_val]
theorem l3Times_ok : callable Tryz.prog 103 = true := by kernel_rfl

/-! s.l3Dot -/
noncomputable def l3DotC := ct2 EPn EPn (fun p0 p1 => qsz p0.1 + qsz p0.2 + qsz p1.1 + qsz p1.2 < LM) (fun p0 p1 => [nD (dotQ p0.1 p0.2 p1.1 p1.2)])
@[simp] theorem l3DotC_at (a b : Rat) (c d : Rat) : l3DotC [.agg [nD a, nD b], .agg [nD c, nD d]] = (qsz a + qsz b + qsz c + qsz d < LM, [nD (dotQ a b c d)]) := ct2_at (a, b) (c, d)
noncomputable def l3DotTb : List (FuncId × Ct) := [(115, .data nMulC), (77, .data nAddC)]
theorem l3DotTb_ok : TbOK NF Tryz.prog (tbl l3DotTb) := tbl_cons (c := .data nMulC) nMul_spec l1rMul_ok (tbl_cons (c := .data nAddC) nAdd_spec l1rAdd_ok tbl_nil)

@[simp] theorem l3DotTb1 : tbl l3DotTb 115 = some (.data nMulC) := rfl
@[simp] theorem l3DotTb2 : tbl l3DotTb 77 = some (.data nAddC) := rfl
theorem l3Dot_spec : SpecD NF Tryz.prog 65 l3DotC := by
  refine rd2 (mf := fun f => false) l3DotTb_ok (fn := Tryz.f65) (by kernel_rfl) rfl (by kernel_rfl) (by kernel_rfl) ?_
  rintro ⟨a, b⟩ ⟨c, d⟩ hp
  have hp : qsz a + qsz b + qsz c + qsz d < LM := hp
  show awp _ _ _ _ (start _ ([.agg [nD a, nD b], .agg [nD c, nD d]].map .dat) []) (endK _ _ _ (([nD (dotQ a b c d)]).map .dat) [])
  simp [-D.isLit, Tryz.f65, dotQ]
  grind [qsz_add, qsz_sub, qsz_mul, qsz_neg, MX_val, LM_val]
theorem l3Dot_ok : callable Tryz.prog 65 = true := by kernel_rfl

/-! s.l3On -/
noncomputable def l3OnC := ct3 EPn EPn EPn (fun p0 p1 p2 => qsz p1.1 + qsz p1.2 + qsz p2.1 + qsz p2.2 + qsz p0.1 + qsz p0.2 < 10000000 ∧ ¬ (p2.1 - p1.1 = 0 ∧ p2.2 - p1.2 = 0)) (fun p0 p1 p2 => [.lit (.bool (hasB p1.1 p1.2 p2.1 p2.2 p0.1 p0.2))])
@[simp] theorem l3OnC_at (p q : Rat) (a b : Rat) (c d : Rat) : l3OnC [.agg [nD p, nD q], .agg [nD a, nD b], .agg [nD c, nD d]] = (qsz a + qsz b + qsz c + qsz d + qsz p + qsz q < 10000000 ∧ ¬ (c - a = 0 ∧ d - b = 0), [.lit (.bool (hasB a b c d p q))]) := ct3_at (p, q) (a, b) (c, d)
noncomputable def l3OnTb : List (FuncId × Ct) := [(95, .data l3TurnC), (63, .data l3SubC), (65, .data l3DotC), (96, .data nSignC)]
theorem l3OnTb_ok : TbOK NF Tryz.prog (tbl l3OnTb) := tbl_cons (c := .data l3TurnC) l3Turn_spec l3Turn_ok (tbl_cons (c := .data l3SubC) l3Sub_spec l3Sub_ok (tbl_cons (c := .data l3DotC) l3Dot_spec l3Dot_ok (tbl_cons (c := .data nSignC) nSign_spec l1rSign_ok tbl_nil)))

@[simp] theorem l3OnTb1 : tbl l3OnTb 95 = some (.data l3TurnC) := rfl
@[simp] theorem l3OnTb2 : tbl l3OnTb 63 = some (.data l3SubC) := rfl
@[simp] theorem l3OnTb3 : tbl l3OnTb 65 = some (.data l3DotC) := rfl
@[simp] theorem l3OnTb4 : tbl l3OnTb 96 = some (.data nSignC) := rfl
theorem l3On_spec : SpecD NF Tryz.prog 45 l3OnC := by
  refine rd3 (mf := fun f => false) l3OnTb_ok (fn := Tryz.f45) (by kernel_rfl) rfl (by kernel_rfl) (by kernel_rfl) ?_
  rintro ⟨p, q⟩ ⟨a, b⟩ ⟨c, d⟩ hp
  have hp : qsz a + qsz b + qsz c + qsz d + qsz p + qsz q < 10000000 ∧ ¬ (c - a = 0 ∧ d - b = 0) := hp
  show awp _ _ _ _ (start _ ([.agg [nD p, nD q], .agg [nD a, nD b], .agg [nD c, nD d]].map .dat) []) (endK _ _ _ (([.lit (.bool (hasB a b c d p q))]).map .dat) [])
  rw [on_has hp.2]
  have h0 := hp.1
  have h1 : qsz a + qsz b + qsz c + qsz d + qsz p + qsz q < 100000000 := by omega
  by_cases e1 : (turnQ a b c d p q).num.sign = 0 <;> simp [-D.isLit, Tryz.f45, h1, e1]
  grind [qsz_add, qsz_sub, qsz_mul, qsz_neg, MX_val, LM_val]
theorem l3On_ok : callable Tryz.prog 45 = true := by kernel_rfl

/-! s.l3Foot -/
noncomputable def l3FootC := ct3 EPn EPn EPn (fun p0 p1 p2 => qsz p1.1 + qsz p1.2 + qsz p2.1 + qsz p2.2 + qsz p0.1 + qsz p0.2 < 10000000 ∧ ¬ (p2.1 - p1.1 = 0 ∧ p2.2 - p1.2 = 0)) (fun p0 p1 p2 => [nD (footQ p1.1 p1.2 p2.1 p2.2 p0.1 p0.2)])
@[simp] theorem l3FootC_at (p q : Rat) (a b : Rat) (c d : Rat) : l3FootC [.agg [nD p, nD q], .agg [nD a, nD b], .agg [nD c, nD d]] = (qsz a + qsz b + qsz c + qsz d + qsz p + qsz q < 10000000 ∧ ¬ (c - a = 0 ∧ d - b = 0), [nD (footQ a b c d p q)]) := ct3_at (p, q) (a, b) (c, d)
noncomputable def l3FootTb : List (FuncId × Ct) := [(63, .data l3SubC), (65, .data l3DotC), (104, .data nDivC)]
theorem l3FootTb_ok : TbOK NF Tryz.prog (tbl l3FootTb) := tbl_cons (c := .data l3SubC) l3Sub_spec l3Sub_ok (tbl_cons (c := .data l3DotC) l3Dot_spec l3Dot_ok (tbl_cons (c := .data nDivC) nDiv_spec l1rDiv_ok tbl_nil))

@[simp] theorem l3FootTb1 : tbl l3FootTb 63 = some (.data l3SubC) := rfl
@[simp] theorem l3FootTb2 : tbl l3FootTb 65 = some (.data l3DotC) := rfl
@[simp] theorem l3FootTb3 : tbl l3FootTb 104 = some (.data nDivC) := rfl
theorem l3Foot_spec : SpecD NF Tryz.prog 55 l3FootC := by
  refine rd3 (mf := fun f => false) l3FootTb_ok (fn := Tryz.f55) (by kernel_rfl) rfl (by kernel_rfl) (by kernel_rfl) ?_
  rintro ⟨p, q⟩ ⟨a, b⟩ ⟨c, d⟩ hp
  have hp : qsz a + qsz b + qsz c + qsz d + qsz p + qsz q < 10000000 ∧ ¬ (c - a = 0 ∧ d - b = 0) := hp
  show awp _ _ _ _ (start _ ([.agg [nD p, nD q], .agg [nD a, nD b], .agg [nD c, nD d]].map .dat) []) (endK _ _ _ (([nD (footQ a b c d p q)]).map .dat) [])
  simp [-D.isLit, Tryz.f55, footQ]
  grind [qsz_add, qsz_sub, qsz_mul, qsz_neg, MX_val, LM_val, dotQ_sz, sq_pos]
theorem l3Foot_ok : callable Tryz.prog 55 = true := by kernel_rfl

/-! s.l3At -/
noncomputable def l3AtC := ct3 EPn EPn ENum (fun p0 p1 p2 => qsz p0.1 + qsz p0.2 + qsz p1.1 + qsz p1.2 + qsz p2 < 100000000) (fun p0 p1 p2 => [.agg [nD (p0.1 + (p1.1 - p0.1) * p2), nD (p0.2 + (p1.2 - p0.2) * p2)]])
@[simp] theorem l3AtC_at (a b : Rat) (c d : Rat) (e : Rat) : l3AtC [.agg [nD a, nD b], .agg [nD c, nD d], nD e] = (qsz a + qsz b + qsz c + qsz d + qsz e < 100000000, [.agg [nD (a + (c - a) * e), nD (b + (d - b) * e)]]) := ct3_at (a, b) (c, d) e
noncomputable def l3AtTb : List (FuncId × Ct) := [(63, .data l3SubC), (103, .data l3TimesC), (102, .data l3AddC)]
theorem l3AtTb_ok : TbOK NF Tryz.prog (tbl l3AtTb) := tbl_cons (c := .data l3SubC) l3Sub_spec l3Sub_ok (tbl_cons (c := .data l3TimesC) l3Times_spec l3Times_ok (tbl_cons (c := .data l3AddC) l3Add_spec l3Add_ok tbl_nil))

@[simp] theorem l3AtTb1 : tbl l3AtTb 63 = some (.data l3SubC) := rfl
@[simp] theorem l3AtTb2 : tbl l3AtTb 103 = some (.data l3TimesC) := rfl
@[simp] theorem l3AtTb3 : tbl l3AtTb 102 = some (.data l3AddC) := rfl
theorem l3At_spec : SpecD NF Tryz.prog 54 l3AtC := by
  refine rd3 (mf := fun f => false) l3AtTb_ok (fn := Tryz.f54) (by kernel_rfl) rfl (by kernel_rfl) (by kernel_rfl) ?_
  rintro ⟨a, b⟩ ⟨c, d⟩ e hp
  have hp : qsz a + qsz b + qsz c + qsz d + qsz e < 100000000 := hp
  show awp _ _ _ _ (start _ ([.agg [nD a, nD b], .agg [nD c, nD d], nD e].map .dat) []) (endK _ _ _ (([.agg [nD (a + (c - a) * e), nD (b + (d - b) * e)]]).map .dat) [])
  simp [-D.isLit, Tryz.f54]
  grind [qsz_add, qsz_sub, qsz_mul, qsz_neg, MX_val, LM_val]
theorem l3At_ok : callable Tryz.prog 54 = true := by kernel_rfl
theorem snear {a b c d p q : Rat} (hn : ¬ (c - a = 0 ∧ d - b = 0)) : nearQ a b c d p q = if (footQ a b c d p q).num.sign < 0 then (a, b) else if 0 < qcmp (footQ a b c d p q) 1 then (c, d) else (a + (c - a) * footQ a b c d p q, b + (d - b) * footQ a b c d p q) := by
  unfold nearQ
  generalize footQ a b c d p q = k
  by_cases h1 : k.num.sign < 0
  · rw [if_pos h1, if_pos (by omega)]
  · rw [if_neg h1]
    by_cases h2 : k.num.sign ≤ 0
    · have k0 : k = 0 := (qs_zero k).mp (by omega)
      subst k0
      rw [if_pos h2, if_neg (by rw [qcmp_gt]; decide)]
      congr 1 <;> grind
    · rw [if_neg h2]
      by_cases h3 : 0 < qcmp k 1
      · rw [if_pos h3, if_pos (by omega)]
      · rw [if_neg h3]
        by_cases h4 : 0 ≤ qcmp k 1
        · have k1 : k = 1 := (qcmp_eq k 1).mp (by omega)
          subst k1
          rw [if_pos h4]
          congr 1 <;> grind
        · rw [if_neg h4]

/-! s.l3Near -/
noncomputable def l3NearC := ct3 EPn EPn EPn (fun p0 p1 p2 => qsz p1.1 + qsz p1.2 + qsz p2.1 + qsz p2.2 + qsz p0.1 + qsz p0.2 < 1000000 ∧ ¬ (p2.1 - p1.1 = 0 ∧ p2.2 - p1.2 = 0)) (fun p0 p1 p2 => [.agg [nD (nearQ p1.1 p1.2 p2.1 p2.2 p0.1 p0.2).1, nD (nearQ p1.1 p1.2 p2.1 p2.2 p0.1 p0.2).2]])
@[simp] theorem l3NearC_at (p q : Rat) (a b : Rat) (c d : Rat) : l3NearC [.agg [nD p, nD q], .agg [nD a, nD b], .agg [nD c, nD d]] = (qsz a + qsz b + qsz c + qsz d + qsz p + qsz q < 1000000 ∧ ¬ (c - a = 0 ∧ d - b = 0), [.agg [nD (nearQ a b c d p q).1, nD (nearQ a b c d p q).2]]) := ct3_at (p, q) (a, b) (c, d)
noncomputable def l3NearTb : List (FuncId × Ct) := [(55, .data l3FootC), (96, .data nSignC), (76, .data l1rIntC), (71, .data nCmpC), (54, .data l3AtC)]
theorem l3NearTb_ok : TbOK NF Tryz.prog (tbl l3NearTb) := tbl_cons (c := .data l3FootC) l3Foot_spec l3Foot_ok (tbl_cons (c := .data nSignC) nSign_spec l1rSign_ok (tbl_cons (c := .data l1rIntC) l1rInt_spec l1rInt_ok (tbl_cons (c := .data nCmpC) nCmp_spec l1rCmp_ok (tbl_cons (c := .data l3AtC) l3At_spec l3At_ok tbl_nil))))

@[simp] theorem l3NearTb1 : tbl l3NearTb 55 = some (.data l3FootC) := rfl
@[simp] theorem l3NearTb2 : tbl l3NearTb 96 = some (.data nSignC) := rfl
@[simp] theorem l3NearTb3 : tbl l3NearTb 76 = some (.data l1rIntC) := rfl
@[simp] theorem l3NearTb4 : tbl l3NearTb 71 = some (.data nCmpC) := rfl
@[simp] theorem l3NearTb5 : tbl l3NearTb 54 = some (.data l3AtC) := rfl
theorem l3Near_spec : SpecD NF Tryz.prog 61 l3NearC := by
  refine rd3 (mf := fun f => false) l3NearTb_ok (fn := Tryz.f61) (by kernel_rfl) rfl (by kernel_rfl) (by kernel_rfl) ?_
  rintro ⟨p, q⟩ ⟨a, b⟩ ⟨c, d⟩ hp
  have hp : qsz a + qsz b + qsz c + qsz d + qsz p + qsz q < 1000000 ∧ ¬ (c - a = 0 ∧ d - b = 0) := hp
  show awp _ _ _ _ (start _ ([.agg [nD p, nD q], .agg [nD a, nD b], .agg [nD c, nD d]].map .dat) []) (endK _ _ _ (([.agg [nD (nearQ a b c d p q).1, nD (nearQ a b c d p q).2]]).map .dat) [])
  have hz := footQ_sz (p := p) (q := q) hp.2
  have h0 : qsz a + qsz b + qsz c + qsz d + qsz p + qsz q < 10000000 := by omega
  have h1 : qsz (footQ a b c d p q) + qsz (1 : Rat) < MX := by rw [qsz_one, MX_val]; omega
  have h2 := hp.2
  have h3 : I64 1 := by unfold I64; omega
  rw [snear hp.2]
  by_cases e1 : (footQ a b c d p q).num.sign < 0
  · simp [-D.isLit, Tryz.f61, h0, h2, e1]
  · by_cases e2 : 0 < qcmp (footQ a b c d p q) 1
    · simp [-D.isLit, Tryz.f61, h0, h1, h2, h3, e1, e2]
    · simp [-D.isLit, Tryz.f61, h0, h1, h2, h3, e1, e2]
      grind [qsz_add, qsz_sub, qsz_mul, qsz_neg, MX_val, LM_val]
theorem l3Near_ok : callable Tryz.prog 61 = true := by kernel_rfl

/-! s.OnSeg -/
noncomputable def sOnSegC := ct2 EV ESeg (fun p0 p1 => ((I64 p0.1.1 ∧ I64 p0.1.2) ∧ I64 p0.2.1 ∧ I64 p0.2.2) ∧ (((I64 p1.1.1.1 ∧ I64 p1.1.1.2) ∧ I64 p1.1.2.1 ∧ I64 p1.1.2.2) ∧ ((I64 p1.2.1.1 ∧ I64 p1.2.1.2) ∧ I64 p1.2.2.1 ∧ I64 p1.2.2.2))) (fun p0 p1 => [.lit (.bool (if (qOk p0.1.1 p0.1.2 ∧ qOk p0.2.1 p0.2.2) ∧ segOk p1.1.1.1 p1.1.1.2 p1.1.2.1 p1.1.2.2 p1.2.1.1 p1.2.1.2 p1.2.2.1 p1.2.2.2 then hasB (Rat.divInt p1.1.1.1 p1.1.1.2) (Rat.divInt p1.1.2.1 p1.1.2.2) (Rat.divInt p1.2.1.1 p1.2.1.2) (Rat.divInt p1.2.2.1 p1.2.2.2) (Rat.divInt p0.1.1 p0.1.2) (Rat.divInt p0.2.1 p0.2.2) else false))])
@[simp] theorem sOnSegC_at (a b c d : Int) (e f g h i j k l : Int) : sOnSegC [.agg [eQ a b, eQ c d], .agg [.agg [eQ e f, eQ g h], .agg [eQ i j, eQ k l]]] = (((I64 a ∧ I64 b) ∧ I64 c ∧ I64 d) ∧ (((I64 e ∧ I64 f) ∧ I64 g ∧ I64 h) ∧ ((I64 i ∧ I64 j) ∧ I64 k ∧ I64 l)), [.lit (.bool (if (qOk a b ∧ qOk c d) ∧ segOk e f g h i j k l then hasB (Rat.divInt e f) (Rat.divInt g h) (Rat.divInt i j) (Rat.divInt k l) (Rat.divInt a b) (Rat.divInt c d) else false))]) := ct2_at ((a, b), c, d) (((e, f), g, h), (i, j), k, l)
noncomputable def sOnSegTb : List (FuncId × Ct) := [(43, .data sVOkC), (44, .data sSegOkC), (46, .data l3pC), (45, .data l3OnC)]
theorem sOnSegTb_ok : TbOK NF Tryz.prog (tbl sOnSegTb) := tbl_cons (c := .data sVOkC) sVOk_spec sVOk_ok (tbl_cons (c := .data sSegOkC) sSegOk_spec sSegOk_ok (tbl_cons (c := .data l3pC) l3p_spec l3p_ok (tbl_cons (c := .data l3OnC) l3On_spec l3On_ok tbl_nil)))

@[simp] theorem sOnSegTb1 : tbl sOnSegTb 43 = some (.data sVOkC) := rfl
@[simp] theorem sOnSegTb2 : tbl sOnSegTb 44 = some (.data sSegOkC) := rfl
@[simp] theorem sOnSegTb3 : tbl sOnSegTb 46 = some (.data l3pC) := rfl
@[simp] theorem sOnSegTb4 : tbl sOnSegTb 45 = some (.data l3OnC) := rfl
theorem sOnSeg_spec : SpecD NF Tryz.prog 12 sOnSegC := by
  refine rd2 (mf := fun f => false) sOnSegTb_ok (fn := Tryz.f12) (by kernel_rfl) rfl (by kernel_rfl) (by kernel_rfl) ?_
  rintro ⟨⟨a, b⟩, c, d⟩ ⟨⟨⟨e, f⟩, g, h⟩, ⟨i, j⟩, k, l⟩ hp
  have hp : ((I64 a ∧ I64 b) ∧ I64 c ∧ I64 d) ∧ (((I64 e ∧ I64 f) ∧ I64 g ∧ I64 h) ∧ ((I64 i ∧ I64 j) ∧ I64 k ∧ I64 l)) := hp
  show awp _ _ _ _ (start _ ([.agg [eQ a b, eQ c d], .agg [.agg [eQ e f, eQ g h], .agg [eQ i j, eQ k l]]].map .dat) []) (endK _ _ _ (([.lit (.bool (if (qOk a b ∧ qOk c d) ∧ segOk e f g h i j k l then hasB (Rat.divInt e f) (Rat.divInt g h) (Rat.divInt i j) (Rat.divInt k l) (Rat.divInt a b) (Rat.divInt c d) else false))]).map .dat) [])
  obtain ⟨⟨⟨i1, i2⟩, i3, i4⟩, ⟨⟨i5, i6⟩, i7, i8⟩, ⟨i9, i10⟩, i11, i12⟩ := hp
  by_cases h1 : qOk a b ∧ qOk c d
  · by_cases h2 : segOk e f g h i j k l
    · have g1 : GV a b c d := ⟨⟨i1, i2⟩, ⟨i3, i4⟩, h1⟩
      have g2 : GV e f g h := ⟨⟨i5, i6⟩, ⟨i7, i8⟩, h2.1.1⟩
      have g3 : GV i j k l := ⟨⟨i9, i10⟩, ⟨i11, i12⟩, h2.1.2⟩
      have hn := seg_ne h2
      have z1 := g1.sz
      have z2 := g2.sz
      have z3 := g3.sz
      have y1 := g1.y1.2.2
      have y2 := g1.y2.2.2
      have y3 := g2.y1.2.2
      have y4 := g2.y2.2.2
      have y5 := g3.y1.2.2
      have y6 := g3.y2.2.2
      have w1 := g1.w1
      have w2 := g1.w2
      have w3 := g2.w1
      have w4 := g2.w2
      have w5 := g3.w1
      have w6 := g3.w2
      rw [if_pos ⟨h1, h2⟩]
      simp [-D.isLit, Tryz.f12, i1, i2, i3, i4, i5, i6, i7, i8, i9, i10, i11, i12, h1.1, h1.2, h2, y1, y2, y3, y4, y5, y6, w1, w2, w3, w4, w5, w6, vD]
      all_goals grind [qsz_add, qsz_sub, qsz_mul, qsz_neg, MX_val, LM_val]
    · rw [if_neg (fun x => h2 x.2)]
      simp [-D.isLit, Tryz.f12, i1, i2, i3, i4, i5, i6, i7, i8, i9, i10, i11, i12, h1.1, h1.2, h2, vD, noV, d3, no3, boolD] <;> exact Sub.refl _
  · rw [if_neg (fun x => h1 x.1)]
    have h1' : (decide (qOk a b) && decide (qOk c d)) = false := by rw [← Bool.decide_and]; exact decide_eq_false h1
    simp [-D.isLit, Tryz.f12, i1, i2, i3, i4, i5, i6, i7, i8, i9, i10, i11, i12, h1, h1', vD, noV, d3, no3, boolD] <;> exact Sub.refl _
theorem sOnSeg_ok : callable Tryz.prog 12 = true := by kernel_rfl

/-! s.Foot -/
noncomputable def sFootC := ct2 EV ESeg (fun p0 p1 => ((I64 p0.1.1 ∧ I64 p0.1.2) ∧ I64 p0.2.1 ∧ I64 p0.2.2) ∧ (((I64 p1.1.1.1 ∧ I64 p1.1.1.2) ∧ I64 p1.1.2.1 ∧ I64 p1.1.2.2) ∧ ((I64 p1.2.1.1 ∧ I64 p1.2.1.2) ∧ I64 p1.2.2.1 ∧ I64 p1.2.2.2))) (fun p0 p1 => vD (if (qOk p0.1.1 p0.1.2 ∧ qOk p0.2.1 p0.2.2) ∧ segOk p1.1.1.1 p1.1.1.2 p1.1.2.1 p1.1.2.2 p1.2.1.1 p1.2.1.2 p1.2.2.1 p1.2.2.2 then oV (footP (Rat.divInt p1.1.1.1 p1.1.1.2) (Rat.divInt p1.1.2.1 p1.1.2.2) (Rat.divInt p1.2.1.1 p1.2.1.2) (Rat.divInt p1.2.2.1 p1.2.2.2) (Rat.divInt p0.1.1 p0.1.2) (Rat.divInt p0.2.1 p0.2.2)).1 (footP (Rat.divInt p1.1.1.1 p1.1.1.2) (Rat.divInt p1.1.2.1 p1.1.2.2) (Rat.divInt p1.2.1.1 p1.2.1.2) (Rat.divInt p1.2.2.1 p1.2.2.2) (Rat.divInt p0.1.1 p0.1.2) (Rat.divInt p0.2.1 p0.2.2)).2 else noV))
@[simp] theorem sFootC_at (a b c d : Int) (e f g h i j k l : Int) : sFootC [.agg [eQ a b, eQ c d], .agg [.agg [eQ e f, eQ g h], .agg [eQ i j, eQ k l]]] = (((I64 a ∧ I64 b) ∧ I64 c ∧ I64 d) ∧ (((I64 e ∧ I64 f) ∧ I64 g ∧ I64 h) ∧ ((I64 i ∧ I64 j) ∧ I64 k ∧ I64 l)), vD (if (qOk a b ∧ qOk c d) ∧ segOk e f g h i j k l then oV (footP (Rat.divInt e f) (Rat.divInt g h) (Rat.divInt i j) (Rat.divInt k l) (Rat.divInt a b) (Rat.divInt c d)).1 (footP (Rat.divInt e f) (Rat.divInt g h) (Rat.divInt i j) (Rat.divInt k l) (Rat.divInt a b) (Rat.divInt c d)).2 else noV)) := ct2_at ((a, b), c, d) (((e, f), g, h), (i, j), k, l)
noncomputable def sFootTb : List (FuncId × Ct) := [(43, .data sVOkC), (44, .data sSegOkC), (46, .data l3pC), (55, .data l3FootC), (54, .data l3AtC), (53, .data l3VC)]
theorem sFootTb_ok : TbOK NF Tryz.prog (tbl sFootTb) := tbl_cons (c := .data sVOkC) sVOk_spec sVOk_ok (tbl_cons (c := .data sSegOkC) sSegOk_spec sSegOk_ok (tbl_cons (c := .data l3pC) l3p_spec l3p_ok (tbl_cons (c := .data l3FootC) l3Foot_spec l3Foot_ok (tbl_cons (c := .data l3AtC) l3At_spec l3At_ok (tbl_cons (c := .data l3VC) l3V_spec l3V_ok tbl_nil)))))

@[simp] theorem sFootTb1 : tbl sFootTb 43 = some (.data sVOkC) := rfl
@[simp] theorem sFootTb2 : tbl sFootTb 44 = some (.data sSegOkC) := rfl
@[simp] theorem sFootTb3 : tbl sFootTb 46 = some (.data l3pC) := rfl
@[simp] theorem sFootTb4 : tbl sFootTb 55 = some (.data l3FootC) := rfl
@[simp] theorem sFootTb5 : tbl sFootTb 54 = some (.data l3AtC) := rfl
@[simp] theorem sFootTb6 : tbl sFootTb 53 = some (.data l3VC) := rfl
theorem sFoot_spec : SpecD NF Tryz.prog 16 sFootC := by
  refine rd2 (mf := fun f => false) sFootTb_ok (fn := Tryz.f16) (by kernel_rfl) rfl (by kernel_rfl) (by kernel_rfl) ?_
  rintro ⟨⟨a, b⟩, c, d⟩ ⟨⟨⟨e, f⟩, g, h⟩, ⟨i, j⟩, k, l⟩ hp
  have hp : ((I64 a ∧ I64 b) ∧ I64 c ∧ I64 d) ∧ (((I64 e ∧ I64 f) ∧ I64 g ∧ I64 h) ∧ ((I64 i ∧ I64 j) ∧ I64 k ∧ I64 l)) := hp
  show awp _ _ _ _ (start _ ([.agg [eQ a b, eQ c d], .agg [.agg [eQ e f, eQ g h], .agg [eQ i j, eQ k l]]].map .dat) []) (endK _ _ _ ((vD (if (qOk a b ∧ qOk c d) ∧ segOk e f g h i j k l then oV (footP (Rat.divInt e f) (Rat.divInt g h) (Rat.divInt i j) (Rat.divInt k l) (Rat.divInt a b) (Rat.divInt c d)).1 (footP (Rat.divInt e f) (Rat.divInt g h) (Rat.divInt i j) (Rat.divInt k l) (Rat.divInt a b) (Rat.divInt c d)).2 else noV)).map .dat) [])
  obtain ⟨⟨⟨i1, i2⟩, i3, i4⟩, ⟨⟨i5, i6⟩, i7, i8⟩, ⟨i9, i10⟩, i11, i12⟩ := hp
  by_cases h1 : qOk a b ∧ qOk c d
  · by_cases h2 : segOk e f g h i j k l
    · have g1 : GV a b c d := ⟨⟨i1, i2⟩, ⟨i3, i4⟩, h1⟩
      have g2 : GV e f g h := ⟨⟨i5, i6⟩, ⟨i7, i8⟩, h2.1.1⟩
      have g3 : GV i j k l := ⟨⟨i9, i10⟩, ⟨i11, i12⟩, h2.1.2⟩
      have hn := seg_ne h2
      have z1 := g1.sz
      have z2 := g2.sz
      have z3 := g3.sz
      have y1 := g1.y1.2.2
      have y2 := g1.y2.2.2
      have y3 := g2.y1.2.2
      have y4 := g2.y2.2.2
      have y5 := g3.y1.2.2
      have y6 := g3.y2.2.2
      have w1 := g1.w1
      have w2 := g1.w2
      have w3 := g2.w1
      have w4 := g2.w2
      have w5 := g3.w1
      have w6 := g3.w2
      rw [if_pos ⟨h1, h2⟩]
      have fz := footQ_sz (p := Rat.divInt a b) (q := Rat.divInt c d) hn
      simp [-D.isLit, Tryz.f16, i1, i2, i3, i4, i5, i6, i7, i8, i9, i10, i11, i12, h1.1, h1.2, h2, y1, y2, y3, y4, y5, y6, w1, w2, w3, w4, w5, w6, vD, footP]
      all_goals grind [qsz_add, qsz_sub, qsz_mul, qsz_neg, MX_val, LM_val]
    · rw [if_neg (fun x => h2 x.2)]
      simp [-D.isLit, Tryz.f16, i1, i2, i3, i4, i5, i6, i7, i8, i9, i10, i11, i12, h1.1, h1.2, h2, vD, noV, d3, no3, boolD] <;> exact Sub.refl _
  · rw [if_neg (fun x => h1 x.1)]
    have h1' : (decide (qOk a b) && decide (qOk c d)) = false := by rw [← Bool.decide_and]; exact decide_eq_false h1
    simp [-D.isLit, Tryz.f16, i1, i2, i3, i4, i5, i6, i7, i8, i9, i10, i11, i12, h1, h1', vD, noV, d3, no3, boolD] <;> exact Sub.refl _
theorem sFoot_ok : callable Tryz.prog 16 = true := by kernel_rfl

/-! s.Near -/
noncomputable def sNearC := ct2 EV ESeg (fun p0 p1 => ((I64 p0.1.1 ∧ I64 p0.1.2) ∧ I64 p0.2.1 ∧ I64 p0.2.2) ∧ (((I64 p1.1.1.1 ∧ I64 p1.1.1.2) ∧ I64 p1.1.2.1 ∧ I64 p1.1.2.2) ∧ ((I64 p1.2.1.1 ∧ I64 p1.2.1.2) ∧ I64 p1.2.2.1 ∧ I64 p1.2.2.2))) (fun p0 p1 => vD (if (qOk p0.1.1 p0.1.2 ∧ qOk p0.2.1 p0.2.2) ∧ segOk p1.1.1.1 p1.1.1.2 p1.1.2.1 p1.1.2.2 p1.2.1.1 p1.2.1.2 p1.2.2.1 p1.2.2.2 then oV (nearQ (Rat.divInt p1.1.1.1 p1.1.1.2) (Rat.divInt p1.1.2.1 p1.1.2.2) (Rat.divInt p1.2.1.1 p1.2.1.2) (Rat.divInt p1.2.2.1 p1.2.2.2) (Rat.divInt p0.1.1 p0.1.2) (Rat.divInt p0.2.1 p0.2.2)).1 (nearQ (Rat.divInt p1.1.1.1 p1.1.1.2) (Rat.divInt p1.1.2.1 p1.1.2.2) (Rat.divInt p1.2.1.1 p1.2.1.2) (Rat.divInt p1.2.2.1 p1.2.2.2) (Rat.divInt p0.1.1 p0.1.2) (Rat.divInt p0.2.1 p0.2.2)).2 else noV))
@[simp] theorem sNearC_at (a b c d : Int) (e f g h i j k l : Int) : sNearC [.agg [eQ a b, eQ c d], .agg [.agg [eQ e f, eQ g h], .agg [eQ i j, eQ k l]]] = (((I64 a ∧ I64 b) ∧ I64 c ∧ I64 d) ∧ (((I64 e ∧ I64 f) ∧ I64 g ∧ I64 h) ∧ ((I64 i ∧ I64 j) ∧ I64 k ∧ I64 l)), vD (if (qOk a b ∧ qOk c d) ∧ segOk e f g h i j k l then oV (nearQ (Rat.divInt e f) (Rat.divInt g h) (Rat.divInt i j) (Rat.divInt k l) (Rat.divInt a b) (Rat.divInt c d)).1 (nearQ (Rat.divInt e f) (Rat.divInt g h) (Rat.divInt i j) (Rat.divInt k l) (Rat.divInt a b) (Rat.divInt c d)).2 else noV)) := ct2_at ((a, b), c, d) (((e, f), g, h), (i, j), k, l)
noncomputable def sNearTb : List (FuncId × Ct) := [(43, .data sVOkC), (44, .data sSegOkC), (46, .data l3pC), (61, .data l3NearC), (53, .data l3VC)]
theorem sNearTb_ok : TbOK NF Tryz.prog (tbl sNearTb) := tbl_cons (c := .data sVOkC) sVOk_spec sVOk_ok (tbl_cons (c := .data sSegOkC) sSegOk_spec sSegOk_ok (tbl_cons (c := .data l3pC) l3p_spec l3p_ok (tbl_cons (c := .data l3NearC) l3Near_spec l3Near_ok (tbl_cons (c := .data l3VC) l3V_spec l3V_ok tbl_nil))))

@[simp] theorem sNearTb1 : tbl sNearTb 43 = some (.data sVOkC) := rfl
@[simp] theorem sNearTb2 : tbl sNearTb 44 = some (.data sSegOkC) := rfl
@[simp] theorem sNearTb3 : tbl sNearTb 46 = some (.data l3pC) := rfl
@[simp] theorem sNearTb4 : tbl sNearTb 61 = some (.data l3NearC) := rfl
@[simp] theorem sNearTb5 : tbl sNearTb 53 = some (.data l3VC) := rfl
theorem sNear_spec : SpecD NF Tryz.prog 19 sNearC := by
  refine rd2 (mf := fun f => false) sNearTb_ok (fn := Tryz.f19) (by kernel_rfl) rfl (by kernel_rfl) (by kernel_rfl) ?_
  rintro ⟨⟨a, b⟩, c, d⟩ ⟨⟨⟨e, f⟩, g, h⟩, ⟨i, j⟩, k, l⟩ hp
  have hp : ((I64 a ∧ I64 b) ∧ I64 c ∧ I64 d) ∧ (((I64 e ∧ I64 f) ∧ I64 g ∧ I64 h) ∧ ((I64 i ∧ I64 j) ∧ I64 k ∧ I64 l)) := hp
  show awp _ _ _ _ (start _ ([.agg [eQ a b, eQ c d], .agg [.agg [eQ e f, eQ g h], .agg [eQ i j, eQ k l]]].map .dat) []) (endK _ _ _ ((vD (if (qOk a b ∧ qOk c d) ∧ segOk e f g h i j k l then oV (nearQ (Rat.divInt e f) (Rat.divInt g h) (Rat.divInt i j) (Rat.divInt k l) (Rat.divInt a b) (Rat.divInt c d)).1 (nearQ (Rat.divInt e f) (Rat.divInt g h) (Rat.divInt i j) (Rat.divInt k l) (Rat.divInt a b) (Rat.divInt c d)).2 else noV)).map .dat) [])
  obtain ⟨⟨⟨i1, i2⟩, i3, i4⟩, ⟨⟨i5, i6⟩, i7, i8⟩, ⟨i9, i10⟩, i11, i12⟩ := hp
  by_cases h1 : qOk a b ∧ qOk c d
  · by_cases h2 : segOk e f g h i j k l
    · have g1 : GV a b c d := ⟨⟨i1, i2⟩, ⟨i3, i4⟩, h1⟩
      have g2 : GV e f g h := ⟨⟨i5, i6⟩, ⟨i7, i8⟩, h2.1.1⟩
      have g3 : GV i j k l := ⟨⟨i9, i10⟩, ⟨i11, i12⟩, h2.1.2⟩
      have hn := seg_ne h2
      have z1 := g1.sz
      have z2 := g2.sz
      have z3 := g3.sz
      have y1 := g1.y1.2.2
      have y2 := g1.y2.2.2
      have y3 := g2.y1.2.2
      have y4 := g2.y2.2.2
      have y5 := g3.y1.2.2
      have y6 := g3.y2.2.2
      have w1 := g1.w1
      have w2 := g1.w2
      have w3 := g2.w1
      have w4 := g2.w2
      have w5 := g3.w1
      have w6 := g3.w2
      rw [if_pos ⟨h1, h2⟩]
      simp [-D.isLit, Tryz.f19, i1, i2, i3, i4, i5, i6, i7, i8, i9, i10, i11, i12, h1.1, h1.2, h2, y1, y2, y3, y4, y5, y6, w1, w2, w3, w4, w5, w6, vD]
      all_goals grind [qsz_add, qsz_sub, qsz_mul, qsz_neg, MX_val, LM_val]
    · rw [if_neg (fun x => h2 x.2)]
      simp [-D.isLit, Tryz.f19, i1, i2, i3, i4, i5, i6, i7, i8, i9, i10, i11, i12, h1.1, h1.2, h2, vD, noV, d3, no3, boolD] <;> exact Sub.refl _
  · rw [if_neg (fun x => h1 x.1)]
    have h1' : (decide (qOk a b) && decide (qOk c d)) = false := by rw [← Bool.decide_and]; exact decide_eq_false h1
    simp [-D.isLit, Tryz.f19, i1, i2, i3, i4, i5, i6, i7, i8, i9, i10, i11, i12, h1, h1', vD, noV, d3, no3, boolD] <;> exact Sub.refl _
theorem sNear_ok : callable Tryz.prog 19 = true := by kernel_rfl

/-! s.Dist2 -/
noncomputable def sDist2C := ct2 EV ESeg (fun p0 p1 => ((I64 p0.1.1 ∧ I64 p0.1.2) ∧ I64 p0.2.1 ∧ I64 p0.2.2) ∧ (((I64 p1.1.1.1 ∧ I64 p1.1.1.2) ∧ I64 p1.1.2.1 ∧ I64 p1.1.2.2) ∧ ((I64 p1.2.1.1 ∧ I64 p1.2.1.2) ∧ I64 p1.2.2.1 ∧ I64 p1.2.2.2))) (fun p0 p1 => d3 (if (qOk p0.1.1 p0.1.2 ∧ qOk p0.2.1 p0.2.2) ∧ segOk p1.1.1.1 p1.1.1.2 p1.1.2.1 p1.1.2.2 p1.2.1.1 p1.2.1.2 p1.2.2.1 p1.2.2.2 then oq (dist2Q (Rat.divInt p0.1.1 p0.1.2) (Rat.divInt p0.2.1 p0.2.2) (nearQ (Rat.divInt p1.1.1.1 p1.1.1.2) (Rat.divInt p1.1.2.1 p1.1.2.2) (Rat.divInt p1.2.1.1 p1.2.1.2) (Rat.divInt p1.2.2.1 p1.2.2.2) (Rat.divInt p0.1.1 p0.1.2) (Rat.divInt p0.2.1 p0.2.2)).1 (nearQ (Rat.divInt p1.1.1.1 p1.1.1.2) (Rat.divInt p1.1.2.1 p1.1.2.2) (Rat.divInt p1.2.1.1 p1.2.1.2) (Rat.divInt p1.2.2.1 p1.2.2.2) (Rat.divInt p0.1.1 p0.1.2) (Rat.divInt p0.2.1 p0.2.2)).2) else no3))
@[simp] theorem sDist2C_at (a b c d : Int) (e f g h i j k l : Int) : sDist2C [.agg [eQ a b, eQ c d], .agg [.agg [eQ e f, eQ g h], .agg [eQ i j, eQ k l]]] = (((I64 a ∧ I64 b) ∧ I64 c ∧ I64 d) ∧ (((I64 e ∧ I64 f) ∧ I64 g ∧ I64 h) ∧ ((I64 i ∧ I64 j) ∧ I64 k ∧ I64 l)), d3 (if (qOk a b ∧ qOk c d) ∧ segOk e f g h i j k l then oq (dist2Q (Rat.divInt a b) (Rat.divInt c d) (nearQ (Rat.divInt e f) (Rat.divInt g h) (Rat.divInt i j) (Rat.divInt k l) (Rat.divInt a b) (Rat.divInt c d)).1 (nearQ (Rat.divInt e f) (Rat.divInt g h) (Rat.divInt i j) (Rat.divInt k l) (Rat.divInt a b) (Rat.divInt c d)).2) else no3)) := ct2_at ((a, b), c, d) (((e, f), g, h), (i, j), k, l)
noncomputable def sDist2Tb : List (FuncId × Ct) := [(43, .data sVOkC), (44, .data sSegOkC), (46, .data l3pC), (61, .data l3NearC), (63, .data l3SubC), (65, .data l3DotC), (64, .data nQC)]
theorem sDist2Tb_ok : TbOK NF Tryz.prog (tbl sDist2Tb) := tbl_cons (c := .data sVOkC) sVOk_spec sVOk_ok (tbl_cons (c := .data sSegOkC) sSegOk_spec sSegOk_ok (tbl_cons (c := .data l3pC) l3p_spec l3p_ok (tbl_cons (c := .data l3NearC) l3Near_spec l3Near_ok (tbl_cons (c := .data l3SubC) l3Sub_spec l3Sub_ok (tbl_cons (c := .data l3DotC) l3Dot_spec l3Dot_ok (tbl_cons (c := .data nQC) nQ_spec l1rQ_ok tbl_nil))))))

@[simp] theorem sDist2Tb1 : tbl sDist2Tb 43 = some (.data sVOkC) := rfl
@[simp] theorem sDist2Tb2 : tbl sDist2Tb 44 = some (.data sSegOkC) := rfl
@[simp] theorem sDist2Tb3 : tbl sDist2Tb 46 = some (.data l3pC) := rfl
@[simp] theorem sDist2Tb4 : tbl sDist2Tb 61 = some (.data l3NearC) := rfl
@[simp] theorem sDist2Tb5 : tbl sDist2Tb 63 = some (.data l3SubC) := rfl
@[simp] theorem sDist2Tb6 : tbl sDist2Tb 65 = some (.data l3DotC) := rfl
@[simp] theorem sDist2Tb7 : tbl sDist2Tb 64 = some (.data nQC) := rfl
theorem sDist2_spec : SpecD NF Tryz.prog 21 sDist2C := by
  refine rd2 (mf := fun f => false) sDist2Tb_ok (fn := Tryz.f21) (by kernel_rfl) rfl (by kernel_rfl) (by kernel_rfl) ?_
  rintro ⟨⟨a, b⟩, c, d⟩ ⟨⟨⟨e, f⟩, g, h⟩, ⟨i, j⟩, k, l⟩ hp
  have hp : ((I64 a ∧ I64 b) ∧ I64 c ∧ I64 d) ∧ (((I64 e ∧ I64 f) ∧ I64 g ∧ I64 h) ∧ ((I64 i ∧ I64 j) ∧ I64 k ∧ I64 l)) := hp
  show awp _ _ _ _ (start _ ([.agg [eQ a b, eQ c d], .agg [.agg [eQ e f, eQ g h], .agg [eQ i j, eQ k l]]].map .dat) []) (endK _ _ _ ((d3 (if (qOk a b ∧ qOk c d) ∧ segOk e f g h i j k l then oq (dist2Q (Rat.divInt a b) (Rat.divInt c d) (nearQ (Rat.divInt e f) (Rat.divInt g h) (Rat.divInt i j) (Rat.divInt k l) (Rat.divInt a b) (Rat.divInt c d)).1 (nearQ (Rat.divInt e f) (Rat.divInt g h) (Rat.divInt i j) (Rat.divInt k l) (Rat.divInt a b) (Rat.divInt c d)).2) else no3)).map .dat) [])
  obtain ⟨⟨⟨i1, i2⟩, i3, i4⟩, ⟨⟨i5, i6⟩, i7, i8⟩, ⟨i9, i10⟩, i11, i12⟩ := hp
  by_cases h1 : qOk a b ∧ qOk c d
  · by_cases h2 : segOk e f g h i j k l
    · have g1 : GV a b c d := ⟨⟨i1, i2⟩, ⟨i3, i4⟩, h1⟩
      have g2 : GV e f g h := ⟨⟨i5, i6⟩, ⟨i7, i8⟩, h2.1.1⟩
      have g3 : GV i j k l := ⟨⟨i9, i10⟩, ⟨i11, i12⟩, h2.1.2⟩
      have hn := seg_ne h2
      have z1 := g1.sz
      have z2 := g2.sz
      have z3 := g3.sz
      have y1 := g1.y1.2.2
      have y2 := g1.y2.2.2
      have y3 := g2.y1.2.2
      have y4 := g2.y2.2.2
      have y5 := g3.y1.2.2
      have y6 := g3.y2.2.2
      have w1 := g1.w1
      have w2 := g1.w2
      have w3 := g2.w1
      have w4 := g2.w2
      have w5 := g3.w1
      have w6 := g3.w2
      rw [if_pos ⟨h1, h2⟩]
      have nz := nearQ_sz (p := Rat.divInt a b) (q := Rat.divInt c d) hn
      have ed : ∀ a b c d : Rat, dist2Q a b c d = dotQ (c - a) (d - b) (c - a) (d - b) := fun a b c d => by unfold dist2Q dotQ; grind
      rw [ed]
      simp [-D.isLit, Tryz.f21, i1, i2, i3, i4, i5, i6, i7, i8, i9, i10, i11, i12, h1.1, h1.2, h2, y1, y2, y3, y4, y5, y6, w1, w2, w3, w4, w5, w6, vD, d3, no3, boolD]
      all_goals grind [qsz_add, qsz_sub, qsz_mul, qsz_neg, MX_val, LM_val]
    · rw [if_neg (fun x => h2 x.2)]
      simp [-D.isLit, Tryz.f21, i1, i2, i3, i4, i5, i6, i7, i8, i9, i10, i11, i12, h1.1, h1.2, h2, vD, noV, d3, no3, boolD] <;> exact Sub.refl _
  · rw [if_neg (fun x => h1 x.1)]
    have h1' : (decide (qOk a b) && decide (qOk c d)) = false := by rw [← Bool.decide_and]; exact decide_eq_false h1
    simp [-D.isLit, Tryz.f21, i1, i2, i3, i4, i5, i6, i7, i8, i9, i10, i11, i12, h1, h1', vD, noV, d3, no3, boolD] <;> exact Sub.refl _
theorem sDist2_ok : callable Tryz.prog 21 = true := by kernel_rfl

/-! l.toSeg -/
noncomputable def toSegC := ct1 ESeg (fun p0 => True) (fun p0 => [.agg [.agg [eQ p0.1.1.1 p0.1.1.2, eQ p0.1.2.1 p0.1.2.2], .agg [eQ p0.2.1.1 p0.2.1.2, eQ p0.2.2.1 p0.2.2.2]]])
@[simp] theorem toSegC_at (a b c d e f g h : Int) : toSegC [.agg [.agg [eQ a b, eQ c d], .agg [eQ e f, eQ g h]]] = (True, [.agg [.agg [eQ a b, eQ c d], .agg [eQ e f, eQ g h]]]) := ct1_at (((a, b), c, d), (e, f), g, h)
noncomputable def toSegTb : List (FuncId × Ct) := [(13, .data toVC)]
theorem toSegTb_ok {N : NR} : TbOK N Tryz.prog (tbl toSegTb) := tbl_cons (c := .data toVC) toV_spec toV_ok tbl_nil

@[simp] theorem toSegTb1 : tbl toSegTb 13 = some (.data toVC) := rfl
theorem toSeg_spec {N : NR} : SpecD N Tryz.prog 14 toSegC := by
  refine rd1 (mf := fun f => false) toSegTb_ok (fn := Tryz.f14) (by kernel_rfl) rfl (by kernel_rfl) (by kernel_rfl) ?_
  rintro ⟨⟨⟨a, b⟩, c, d⟩, ⟨e, f⟩, g, h⟩ hp
  have hp : True := hp
  show awp _ _ _ _ (start _ ([.agg [.agg [eQ a b, eQ c d], .agg [eQ e f, eQ g h]]].map .dat) []) (endK _ _ _ (([.agg [.agg [eQ a b, eQ c d], .agg [eQ e f, eQ g h]]]).map .dat) [])
  simp [-D.isLit, Tryz.f14]
theorem toSeg_ok : callable Tryz.prog 14 = true := by kernel_rfl

/-! l.eqV -/
noncomputable def eqVC := ct2 EV EV (fun p0 p1 => True) (fun p0 p1 => [.lit (.bool (decide (p0.1.1 = p1.1.1 ∧ p0.1.2 = p1.1.2 ∧ p0.2.1 = p1.2.1 ∧ p0.2.2 = p1.2.2)))])
@[simp] theorem eqVC_at (a b c d : Int) (e f g h : Int) : eqVC [.agg [eQ a b, eQ c d], .agg [eQ e f, eQ g h]] = (True, [.lit (.bool (decide (a = e ∧ b = f ∧ c = g ∧ d = h)))]) := ct2_at ((a, b), c, d) ((e, f), g, h)
noncomputable def eqVTb : List (FuncId × Ct) := [(23, .data eqQC)]
theorem eqVTb_ok {N : NR} : TbOK N Tryz.prog (tbl eqVTb) := tbl_cons (c := .data eqQC) eqQ_spec eqQ_ok tbl_nil

@[simp] theorem eqVTb1 : tbl eqVTb 23 = some (.data eqQC) := rfl
theorem eqV_spec {N : NR} : SpecD N Tryz.prog 18 eqVC := by
  refine rd2 (mf := fun f => false) eqVTb_ok (fn := Tryz.f18) (by kernel_rfl) rfl (by kernel_rfl) (by kernel_rfl) ?_
  rintro ⟨⟨a, b⟩, c, d⟩ ⟨⟨e, f⟩, g, h⟩ hp
  have hp : True := hp
  show awp _ _ _ _ (start _ ([.agg [eQ a b, eQ c d], .agg [eQ e f, eQ g h]].map .dat) []) (endK _ _ _ (([.lit (.bool (decide (a = e ∧ b = f ∧ c = g ∧ d = h)))]).map .dat) [])
  by_cases h1 : a = e ∧ b = f <;> by_cases h2 : c = g ∧ d = h <;> simp [-D.isLit, Tryz.f18, h1, h2]
theorem eqV_ok : callable Tryz.prog 18 = true := by kernel_rfl

/-! l.FnExactOnSeg -/
noncomputable def lwOnSegC := ct2 EV ESeg (fun p0 p1 => ((I64 p0.1.1 ∧ I64 p0.1.2) ∧ I64 p0.2.1 ∧ I64 p0.2.2) ∧ (((I64 p1.1.1.1 ∧ I64 p1.1.1.2) ∧ I64 p1.1.2.1 ∧ I64 p1.1.2.2) ∧ ((I64 p1.2.1.1 ∧ I64 p1.2.1.2) ∧ I64 p1.2.2.1 ∧ I64 p1.2.2.2))) (fun p0 p1 => [.lit (.bool true)])
@[simp] theorem lwOnSegC_at (a b c d : Int) (e f g h i j k l : Int) : lwOnSegC [.agg [eQ a b, eQ c d], .agg [.agg [eQ e f, eQ g h], .agg [eQ i j, eQ k l]]] = (((I64 a ∧ I64 b) ∧ I64 c ∧ I64 d) ∧ (((I64 e ∧ I64 f) ∧ I64 g ∧ I64 h) ∧ ((I64 i ∧ I64 j) ∧ I64 k ∧ I64 l)), [.lit (.bool true)]) := ct2_at ((a, b), c, d) (((e, f), g, h), (i, j), k, l)
noncomputable def lwOnSegTb : List (FuncId × Ct) := [(13, .data toVC), (14, .data toSegC), (15, .data iOnSegC), (12, .data sOnSegC)]
theorem lwOnSegTb_ok : TbOK NF Tryz.prog (tbl lwOnSegTb) := tbl_cons (c := .data toVC) toV_spec toV_ok (tbl_cons (c := .data toSegC) toSeg_spec toSeg_ok (tbl_cons (c := .data iOnSegC) iOnSeg_spec iOnSeg_ok (tbl_cons (c := .data sOnSegC) sOnSeg_spec sOnSeg_ok tbl_nil)))

@[simp] theorem lwOnSegTb1 : tbl lwOnSegTb 13 = some (.data toVC) := rfl
@[simp] theorem lwOnSegTb2 : tbl lwOnSegTb 14 = some (.data toSegC) := rfl
@[simp] theorem lwOnSegTb3 : tbl lwOnSegTb 15 = some (.data iOnSegC) := rfl
@[simp] theorem lwOnSegTb4 : tbl lwOnSegTb 12 = some (.data sOnSegC) := rfl
theorem lwOnSeg_spec : SpecD NF Tryz.prog 3 lwOnSegC := by
  refine rd2 (mf := fun f => false) lwOnSegTb_ok (fn := Tryz.f3) (by kernel_rfl) rfl (by kernel_rfl) (by kernel_rfl) ?_
  rintro ⟨⟨a, b⟩, c, d⟩ ⟨⟨⟨e, f⟩, g, h⟩, ⟨i, j⟩, k, l⟩ hp
  have hp : ((I64 a ∧ I64 b) ∧ I64 c ∧ I64 d) ∧ (((I64 e ∧ I64 f) ∧ I64 g ∧ I64 h) ∧ ((I64 i ∧ I64 j) ∧ I64 k ∧ I64 l)) := hp
  show awp _ _ _ _ (start _ ([.agg [eQ a b, eQ c d], .agg [.agg [eQ e f, eQ g h], .agg [eQ i j, eQ k l]]].map .dat) []) (endK _ _ _ (([.lit (.bool true)]).map .dat) [])
  generalize hX : (if (qOk a b ∧ qOk c d) ∧ segOk e f g h i j k l then hasB (Rat.divInt e f) (Rat.divInt g h) (Rat.divInt i j) (Rat.divInt k l) (Rat.divInt a b) (Rat.divInt c d) else false) = X
  simp [-D.isLit, Tryz.f3, hp, hX]
theorem lwOnSeg_ok : callable Tryz.prog 3 = true := by kernel_rfl
theorem lwOnSeg_calls (a b c d e f g h i j k l : Int) (ha : (Lit.int .i64 a).wf = true) (hb : (Lit.int .i64 b).wf = true) (hc : (Lit.int .i64 c).wf = true) (hd : (Lit.int .i64 d).wf = true) (he : (Lit.int .i64 e).wf = true) (hf : (Lit.int .i64 f).wf = true) (hg : (Lit.int .i64 g).wf = true) (hh : (Lit.int .i64 h).wf = true) (hi : (Lit.int .i64 i).wf = true) (hj : (Lit.int .i64 j).wf = true) (hk : (Lit.int .i64 k).wf = true) (hl : (Lit.int .i64 l).wf = true) (w : World) :
    Calls Tryz.prog 3 #[.agg #[.int .i64 a, .int .i64 b, .int .i64 c, .int .i64 d], .agg #[.int .i64 e, .int .i64 f, .int .i64 g, .int .i64 h, .int .i64 i, .int .i64 j, .int .i64 k, .int .i64 l]] w fun e w' => e = .returned (.bool true) ∧ Below w.heap.size w w' :=
  law_calls lwOnSeg_spec (ds := [.agg [eQ a b, eQ c d], .agg [.agg [eQ e f, eQ g h], .agg [eQ i j, eQ k l]]]) (by rw [lwOnSegC_at]; exact ⟨⟨⟨wf64 ha, wf64 hb⟩, wf64 hc, wf64 hd⟩, ⟨⟨⟨wf64 he, wf64 hf⟩, wf64 hg, wf64 hh⟩, ⟨wf64 hi, wf64 hj⟩, wf64 hk, wf64 hl⟩⟩) (by rw [lwOnSegC_at]; rfl) (vs := [.agg #[.int .i64 a, .int .i64 b, .int .i64 c, .int .i64 d], .agg #[.int .i64 e, .int .i64 f, .int .i64 g, .int .i64 h, .int .i64 i, .int .i64 j, .int .i64 k, .int .i64 l]]) (repVs_cons (repV_flat (cs := [.int .i64 a, .int .i64 b, .int .i64 c, .int .i64 d]) rfl (fun v hv => by simp at hv; rcases hv with rfl | rfl | rfl | rfl <;> rfl) rfl) (repVs_cons (repV_flat (cs := [.int .i64 e, .int .i64 f, .int .i64 g, .int .i64 h, .int .i64 i, .int .i64 j, .int .i64 k, .int .i64 l]) rfl (fun v hv => by simp at hv; rcases hv with rfl | rfl | rfl | rfl | rfl | rfl | rfl | rfl <;> rfl) rfl) repVs_nil))

/-! l.FnExactFoot -/
noncomputable def lwFootC := ct2 EV ESeg (fun p0 p1 => ((I64 p0.1.1 ∧ I64 p0.1.2) ∧ I64 p0.2.1 ∧ I64 p0.2.2) ∧ (((I64 p1.1.1.1 ∧ I64 p1.1.1.2) ∧ I64 p1.1.2.1 ∧ I64 p1.1.2.2) ∧ ((I64 p1.2.1.1 ∧ I64 p1.2.1.2) ∧ I64 p1.2.2.1 ∧ I64 p1.2.2.2))) (fun p0 p1 => [.lit (.bool true)])
@[simp] theorem lwFootC_at (a b c d : Int) (e f g h i j k l : Int) : lwFootC [.agg [eQ a b, eQ c d], .agg [.agg [eQ e f, eQ g h], .agg [eQ i j, eQ k l]]] = (((I64 a ∧ I64 b) ∧ I64 c ∧ I64 d) ∧ (((I64 e ∧ I64 f) ∧ I64 g ∧ I64 h) ∧ ((I64 i ∧ I64 j) ∧ I64 k ∧ I64 l)), [.lit (.bool true)]) := ct2_at ((a, b), c, d) (((e, f), g, h), (i, j), k, l)
noncomputable def lwFootTb : List (FuncId × Ct) := [(13, .data toVC), (14, .data toSegC), (17, .data iFootC), (16, .data sFootC), (18, .data eqVC)]
theorem lwFootTb_ok : TbOK NF Tryz.prog (tbl lwFootTb) := tbl_cons (c := .data toVC) toV_spec toV_ok (tbl_cons (c := .data toSegC) toSeg_spec toSeg_ok (tbl_cons (c := .data iFootC) iFoot_spec iFoot_ok (tbl_cons (c := .data sFootC) sFoot_spec sFoot_ok (tbl_cons (c := .data eqVC) eqV_spec eqV_ok tbl_nil))))

@[simp] theorem lwFootTb1 : tbl lwFootTb 13 = some (.data toVC) := rfl
@[simp] theorem lwFootTb2 : tbl lwFootTb 14 = some (.data toSegC) := rfl
@[simp] theorem lwFootTb3 : tbl lwFootTb 17 = some (.data iFootC) := rfl
@[simp] theorem lwFootTb4 : tbl lwFootTb 16 = some (.data sFootC) := rfl
@[simp] theorem lwFootTb5 : tbl lwFootTb 18 = some (.data eqVC) := rfl
theorem lwFoot_spec : SpecD NF Tryz.prog 4 lwFootC := by
  refine rd2 (mf := fun f => false) lwFootTb_ok (fn := Tryz.f4) (by kernel_rfl) rfl (by kernel_rfl) (by kernel_rfl) ?_
  rintro ⟨⟨a, b⟩, c, d⟩ ⟨⟨⟨e, f⟩, g, h⟩, ⟨i, j⟩, k, l⟩ hp
  have hp : ((I64 a ∧ I64 b) ∧ I64 c ∧ I64 d) ∧ (((I64 e ∧ I64 f) ∧ I64 g ∧ I64 h) ∧ ((I64 i ∧ I64 j) ∧ I64 k ∧ I64 l)) := hp
  show awp _ _ _ _ (start _ ([.agg [eQ a b, eQ c d], .agg [.agg [eQ e f, eQ g h], .agg [eQ i j, eQ k l]]].map .dat) []) (endK _ _ _ (([.lit (.bool true)]).map .dat) [])
  have hi := iFootC_at a b c d e f g h i j k l
  have hs := sFootC_at a b c d e f g h i j k l
  generalize hX : (if (qOk a b ∧ qOk c d) ∧ segOk e f g h i j k l then oV (footP (Rat.divInt e f) (Rat.divInt g h) (Rat.divInt i j) (Rat.divInt k l) (Rat.divInt a b) (Rat.divInt c d)).1 (footP (Rat.divInt e f) (Rat.divInt g h) (Rat.divInt i j) (Rat.divInt k l) (Rat.divInt a b) (Rat.divInt c d)).2 else noV) = X at hi hs
  simp [-D.isLit, -iFootC_at, -sFootC_at, Tryz.f4, hp, hi, hs, vD, d3, boolD]
theorem lwFoot_ok : callable Tryz.prog 4 = true := by kernel_rfl
theorem lwFoot_calls (a b c d e f g h i j k l : Int) (ha : (Lit.int .i64 a).wf = true) (hb : (Lit.int .i64 b).wf = true) (hc : (Lit.int .i64 c).wf = true) (hd : (Lit.int .i64 d).wf = true) (he : (Lit.int .i64 e).wf = true) (hf : (Lit.int .i64 f).wf = true) (hg : (Lit.int .i64 g).wf = true) (hh : (Lit.int .i64 h).wf = true) (hi : (Lit.int .i64 i).wf = true) (hj : (Lit.int .i64 j).wf = true) (hk : (Lit.int .i64 k).wf = true) (hl : (Lit.int .i64 l).wf = true) (w : World) :
    Calls Tryz.prog 4 #[.agg #[.int .i64 a, .int .i64 b, .int .i64 c, .int .i64 d], .agg #[.int .i64 e, .int .i64 f, .int .i64 g, .int .i64 h, .int .i64 i, .int .i64 j, .int .i64 k, .int .i64 l]] w fun e w' => e = .returned (.bool true) ∧ Below w.heap.size w w' :=
  law_calls lwFoot_spec (ds := [.agg [eQ a b, eQ c d], .agg [.agg [eQ e f, eQ g h], .agg [eQ i j, eQ k l]]]) (by rw [lwFootC_at]; exact ⟨⟨⟨wf64 ha, wf64 hb⟩, wf64 hc, wf64 hd⟩, ⟨⟨⟨wf64 he, wf64 hf⟩, wf64 hg, wf64 hh⟩, ⟨wf64 hi, wf64 hj⟩, wf64 hk, wf64 hl⟩⟩) (by rw [lwFootC_at]; rfl) (vs := [.agg #[.int .i64 a, .int .i64 b, .int .i64 c, .int .i64 d], .agg #[.int .i64 e, .int .i64 f, .int .i64 g, .int .i64 h, .int .i64 i, .int .i64 j, .int .i64 k, .int .i64 l]]) (repVs_cons (repV_flat (cs := [.int .i64 a, .int .i64 b, .int .i64 c, .int .i64 d]) rfl (fun v hv => by simp at hv; rcases hv with rfl | rfl | rfl | rfl <;> rfl) rfl) (repVs_cons (repV_flat (cs := [.int .i64 e, .int .i64 f, .int .i64 g, .int .i64 h, .int .i64 i, .int .i64 j, .int .i64 k, .int .i64 l]) rfl (fun v hv => by simp at hv; rcases hv with rfl | rfl | rfl | rfl | rfl | rfl | rfl | rfl <;> rfl) rfl) repVs_nil))

/-! l.FnExactNear -/
noncomputable def lwNearC := ct2 EV ESeg (fun p0 p1 => ((I64 p0.1.1 ∧ I64 p0.1.2) ∧ I64 p0.2.1 ∧ I64 p0.2.2) ∧ (((I64 p1.1.1.1 ∧ I64 p1.1.1.2) ∧ I64 p1.1.2.1 ∧ I64 p1.1.2.2) ∧ ((I64 p1.2.1.1 ∧ I64 p1.2.1.2) ∧ I64 p1.2.2.1 ∧ I64 p1.2.2.2))) (fun p0 p1 => [.lit (.bool true)])
@[simp] theorem lwNearC_at (a b c d : Int) (e f g h i j k l : Int) : lwNearC [.agg [eQ a b, eQ c d], .agg [.agg [eQ e f, eQ g h], .agg [eQ i j, eQ k l]]] = (((I64 a ∧ I64 b) ∧ I64 c ∧ I64 d) ∧ (((I64 e ∧ I64 f) ∧ I64 g ∧ I64 h) ∧ ((I64 i ∧ I64 j) ∧ I64 k ∧ I64 l)), [.lit (.bool true)]) := ct2_at ((a, b), c, d) (((e, f), g, h), (i, j), k, l)
noncomputable def lwNearTb : List (FuncId × Ct) := [(13, .data toVC), (14, .data toSegC), (20, .data iNearC), (19, .data sNearC), (18, .data eqVC)]
theorem lwNearTb_ok : TbOK NF Tryz.prog (tbl lwNearTb) := tbl_cons (c := .data toVC) toV_spec toV_ok (tbl_cons (c := .data toSegC) toSeg_spec toSeg_ok (tbl_cons (c := .data iNearC) iNear_spec iNear_ok (tbl_cons (c := .data sNearC) sNear_spec sNear_ok (tbl_cons (c := .data eqVC) eqV_spec eqV_ok tbl_nil))))

@[simp] theorem lwNearTb1 : tbl lwNearTb 13 = some (.data toVC) := rfl
@[simp] theorem lwNearTb2 : tbl lwNearTb 14 = some (.data toSegC) := rfl
@[simp] theorem lwNearTb3 : tbl lwNearTb 20 = some (.data iNearC) := rfl
@[simp] theorem lwNearTb4 : tbl lwNearTb 19 = some (.data sNearC) := rfl
@[simp] theorem lwNearTb5 : tbl lwNearTb 18 = some (.data eqVC) := rfl
theorem lwNear_spec : SpecD NF Tryz.prog 5 lwNearC := by
  refine rd2 (mf := fun f => false) lwNearTb_ok (fn := Tryz.f5) (by kernel_rfl) rfl (by kernel_rfl) (by kernel_rfl) ?_
  rintro ⟨⟨a, b⟩, c, d⟩ ⟨⟨⟨e, f⟩, g, h⟩, ⟨i, j⟩, k, l⟩ hp
  have hp : ((I64 a ∧ I64 b) ∧ I64 c ∧ I64 d) ∧ (((I64 e ∧ I64 f) ∧ I64 g ∧ I64 h) ∧ ((I64 i ∧ I64 j) ∧ I64 k ∧ I64 l)) := hp
  show awp _ _ _ _ (start _ ([.agg [eQ a b, eQ c d], .agg [.agg [eQ e f, eQ g h], .agg [eQ i j, eQ k l]]].map .dat) []) (endK _ _ _ (([.lit (.bool true)]).map .dat) [])
  have hi := iNearC_at a b c d e f g h i j k l
  have hs := sNearC_at a b c d e f g h i j k l
  generalize hX : (if (qOk a b ∧ qOk c d) ∧ segOk e f g h i j k l then oV (nearQ (Rat.divInt e f) (Rat.divInt g h) (Rat.divInt i j) (Rat.divInt k l) (Rat.divInt a b) (Rat.divInt c d)).1 (nearQ (Rat.divInt e f) (Rat.divInt g h) (Rat.divInt i j) (Rat.divInt k l) (Rat.divInt a b) (Rat.divInt c d)).2 else noV) = X at hi hs
  simp [-D.isLit, -iNearC_at, -sNearC_at, Tryz.f5, hp, hi, hs, vD, d3, boolD]
theorem lwNear_ok : callable Tryz.prog 5 = true := by kernel_rfl
theorem lwNear_calls (a b c d e f g h i j k l : Int) (ha : (Lit.int .i64 a).wf = true) (hb : (Lit.int .i64 b).wf = true) (hc : (Lit.int .i64 c).wf = true) (hd : (Lit.int .i64 d).wf = true) (he : (Lit.int .i64 e).wf = true) (hf : (Lit.int .i64 f).wf = true) (hg : (Lit.int .i64 g).wf = true) (hh : (Lit.int .i64 h).wf = true) (hi : (Lit.int .i64 i).wf = true) (hj : (Lit.int .i64 j).wf = true) (hk : (Lit.int .i64 k).wf = true) (hl : (Lit.int .i64 l).wf = true) (w : World) :
    Calls Tryz.prog 5 #[.agg #[.int .i64 a, .int .i64 b, .int .i64 c, .int .i64 d], .agg #[.int .i64 e, .int .i64 f, .int .i64 g, .int .i64 h, .int .i64 i, .int .i64 j, .int .i64 k, .int .i64 l]] w fun e w' => e = .returned (.bool true) ∧ Below w.heap.size w w' :=
  law_calls lwNear_spec (ds := [.agg [eQ a b, eQ c d], .agg [.agg [eQ e f, eQ g h], .agg [eQ i j, eQ k l]]]) (by rw [lwNearC_at]; exact ⟨⟨⟨wf64 ha, wf64 hb⟩, wf64 hc, wf64 hd⟩, ⟨⟨⟨wf64 he, wf64 hf⟩, wf64 hg, wf64 hh⟩, ⟨wf64 hi, wf64 hj⟩, wf64 hk, wf64 hl⟩⟩) (by rw [lwNearC_at]; rfl) (vs := [.agg #[.int .i64 a, .int .i64 b, .int .i64 c, .int .i64 d], .agg #[.int .i64 e, .int .i64 f, .int .i64 g, .int .i64 h, .int .i64 i, .int .i64 j, .int .i64 k, .int .i64 l]]) (repVs_cons (repV_flat (cs := [.int .i64 a, .int .i64 b, .int .i64 c, .int .i64 d]) rfl (fun v hv => by simp at hv; rcases hv with rfl | rfl | rfl | rfl <;> rfl) rfl) (repVs_cons (repV_flat (cs := [.int .i64 e, .int .i64 f, .int .i64 g, .int .i64 h, .int .i64 i, .int .i64 j, .int .i64 k, .int .i64 l]) rfl (fun v hv => by simp at hv; rcases hv with rfl | rfl | rfl | rfl | rfl | rfl | rfl | rfl <;> rfl) rfl) repVs_nil))

/-! l.FnExactDist2 -/
noncomputable def lwDist2C := ct2 EV ESeg (fun p0 p1 => ((I64 p0.1.1 ∧ I64 p0.1.2) ∧ I64 p0.2.1 ∧ I64 p0.2.2) ∧ (((I64 p1.1.1.1 ∧ I64 p1.1.1.2) ∧ I64 p1.1.2.1 ∧ I64 p1.1.2.2) ∧ ((I64 p1.2.1.1 ∧ I64 p1.2.1.2) ∧ I64 p1.2.2.1 ∧ I64 p1.2.2.2))) (fun p0 p1 => [.lit (.bool true)])
@[simp] theorem lwDist2C_at (a b c d : Int) (e f g h i j k l : Int) : lwDist2C [.agg [eQ a b, eQ c d], .agg [.agg [eQ e f, eQ g h], .agg [eQ i j, eQ k l]]] = (((I64 a ∧ I64 b) ∧ I64 c ∧ I64 d) ∧ (((I64 e ∧ I64 f) ∧ I64 g ∧ I64 h) ∧ ((I64 i ∧ I64 j) ∧ I64 k ∧ I64 l)), [.lit (.bool true)]) := ct2_at ((a, b), c, d) (((e, f), g, h), (i, j), k, l)
noncomputable def lwDist2Tb : List (FuncId × Ct) := [(13, .data toVC), (14, .data toSegC), (22, .data iDist2C), (21, .data sDist2C), (23, .data eqQC)]
theorem lwDist2Tb_ok : TbOK NF Tryz.prog (tbl lwDist2Tb) := tbl_cons (c := .data toVC) toV_spec toV_ok (tbl_cons (c := .data toSegC) toSeg_spec toSeg_ok (tbl_cons (c := .data iDist2C) iDist2_spec iDist2_ok (tbl_cons (c := .data sDist2C) sDist2_spec sDist2_ok (tbl_cons (c := .data eqQC) eqQ_spec eqQ_ok tbl_nil))))

@[simp] theorem lwDist2Tb1 : tbl lwDist2Tb 13 = some (.data toVC) := rfl
@[simp] theorem lwDist2Tb2 : tbl lwDist2Tb 14 = some (.data toSegC) := rfl
@[simp] theorem lwDist2Tb3 : tbl lwDist2Tb 22 = some (.data iDist2C) := rfl
@[simp] theorem lwDist2Tb4 : tbl lwDist2Tb 21 = some (.data sDist2C) := rfl
@[simp] theorem lwDist2Tb5 : tbl lwDist2Tb 23 = some (.data eqQC) := rfl
theorem lwDist2_spec : SpecD NF Tryz.prog 6 lwDist2C := by
  refine rd2 (mf := fun f => false) lwDist2Tb_ok (fn := Tryz.f6) (by kernel_rfl) rfl (by kernel_rfl) (by kernel_rfl) ?_
  rintro ⟨⟨a, b⟩, c, d⟩ ⟨⟨⟨e, f⟩, g, h⟩, ⟨i, j⟩, k, l⟩ hp
  have hp : ((I64 a ∧ I64 b) ∧ I64 c ∧ I64 d) ∧ (((I64 e ∧ I64 f) ∧ I64 g ∧ I64 h) ∧ ((I64 i ∧ I64 j) ∧ I64 k ∧ I64 l)) := hp
  show awp _ _ _ _ (start _ ([.agg [eQ a b, eQ c d], .agg [.agg [eQ e f, eQ g h], .agg [eQ i j, eQ k l]]].map .dat) []) (endK _ _ _ (([.lit (.bool true)]).map .dat) [])
  have hi := iDist2C_at a b c d e f g h i j k l
  have hs := sDist2C_at a b c d e f g h i j k l
  generalize hX : (if (qOk a b ∧ qOk c d) ∧ segOk e f g h i j k l then oq (dist2Q (Rat.divInt a b) (Rat.divInt c d) (nearQ (Rat.divInt e f) (Rat.divInt g h) (Rat.divInt i j) (Rat.divInt k l) (Rat.divInt a b) (Rat.divInt c d)).1 (nearQ (Rat.divInt e f) (Rat.divInt g h) (Rat.divInt i j) (Rat.divInt k l) (Rat.divInt a b) (Rat.divInt c d)).2) else no3) = X at hi hs
  simp [-D.isLit, -iDist2C_at, -sDist2C_at, Tryz.f6, hp, hi, hs, vD, d3, boolD]
theorem lwDist2_ok : callable Tryz.prog 6 = true := by kernel_rfl
theorem lwDist2_calls (a b c d e f g h i j k l : Int) (ha : (Lit.int .i64 a).wf = true) (hb : (Lit.int .i64 b).wf = true) (hc : (Lit.int .i64 c).wf = true) (hd : (Lit.int .i64 d).wf = true) (he : (Lit.int .i64 e).wf = true) (hf : (Lit.int .i64 f).wf = true) (hg : (Lit.int .i64 g).wf = true) (hh : (Lit.int .i64 h).wf = true) (hi : (Lit.int .i64 i).wf = true) (hj : (Lit.int .i64 j).wf = true) (hk : (Lit.int .i64 k).wf = true) (hl : (Lit.int .i64 l).wf = true) (w : World) :
    Calls Tryz.prog 6 #[.agg #[.int .i64 a, .int .i64 b, .int .i64 c, .int .i64 d], .agg #[.int .i64 e, .int .i64 f, .int .i64 g, .int .i64 h, .int .i64 i, .int .i64 j, .int .i64 k, .int .i64 l]] w fun e w' => e = .returned (.bool true) ∧ Below w.heap.size w w' :=
  law_calls lwDist2_spec (ds := [.agg [eQ a b, eQ c d], .agg [.agg [eQ e f, eQ g h], .agg [eQ i j, eQ k l]]]) (by rw [lwDist2C_at]; exact ⟨⟨⟨wf64 ha, wf64 hb⟩, wf64 hc, wf64 hd⟩, ⟨⟨⟨wf64 he, wf64 hf⟩, wf64 hg, wf64 hh⟩, ⟨wf64 hi, wf64 hj⟩, wf64 hk, wf64 hl⟩⟩) (by rw [lwDist2C_at]; rfl) (vs := [.agg #[.int .i64 a, .int .i64 b, .int .i64 c, .int .i64 d], .agg #[.int .i64 e, .int .i64 f, .int .i64 g, .int .i64 h, .int .i64 i, .int .i64 j, .int .i64 k, .int .i64 l]]) (repVs_cons (repV_flat (cs := [.int .i64 a, .int .i64 b, .int .i64 c, .int .i64 d]) rfl (fun v hv => by simp at hv; rcases hv with rfl | rfl | rfl | rfl <;> rfl) rfl) (repVs_cons (repV_flat (cs := [.int .i64 e, .int .i64 f, .int .i64 g, .int .i64 h, .int .i64 i, .int .i64 j, .int .i64 k, .int .i64 l]) rfl (fun v hv => by simp at hv; rcases hv with rfl | rfl | rfl | rfl | rfl | rfl | rfl | rfl <;> rfl) rfl) repVs_nil))
end Go.Proofs.YtlniifhdimaliaaGreat.Ae
