/- Texts put together, in the order in which they build: S1, S2, L65, L66, L67, L68, L69, S3, L70, S4, S5, T1, T2, T4, T20, T3, T5, Q2, T6, T21, T22, T23, R1, R2, R3, T50, T51. No condition. -/
import Derived.Test.YtdkgkcnllhcamaaZ3
import Derived.Below
import Derived.OpenShut
import Derived.ChangeArms
import Derived.WideShapes
set_option linter.unusedVariables false
set_option linter.unusedSimpArgs false
/-! The reference's fractions: what they are worth. No condition. -/
namespace Go.Proofs.Ytdkgkcnllhcamaa.Ae
open Go Go.RowKit Go.Proofs.Ytdkgkcnllhcamaa.Dig

def SR.val (r : SR) : Rat := Rat.divInt r.num r.den
/-- A fraction of the reference: of moderate size, great ones in lowest terms. -/
def WV (r : SR) : Prop := WR r ∧ ∀ p q, r = .big p q → Int.gcd p q = 1
theorem WR_den {r : SR} (h : WR r) : 0 < r.den := (WR_SZ h).2.2
/-- In lowest terms. -/
theorem low_div {n d : Int} (h : 0 < d) : n / (Int.gcd n d : Int) = (Rat.divInt n d).num ∧ d / (Int.gcd n d : Int) = (Rat.divInt n d).den := by
  obtain ⟨e1, e2⟩ := low_pos (a := n) h
  have h1 : (Int.gcd n d : Int) ∣ n := Int.gcd_dvd_left ..
  have h2 : (Int.gcd n d : Int) ∣ d := Int.gcd_dvd_right ..
  rw [Int.tdiv_eq_ediv_of_dvd h1] at e1
  rw [Int.tdiv_eq_ediv_of_dvd h2] at e2
  exact ⟨e1, e2⟩
theorem low_k {n d : Int} (h : 0 < d) : ∃ k : Int, 0 < k ∧ n = k * (Rat.divInt n d).num ∧ d = k * (Rat.divInt n d).den := by
  obtain ⟨e1, e2⟩ := low_div (n := n) h
  refine ⟨Int.gcd n d, ?_, ?_, ?_⟩
  · have : Int.gcd n d ≠ 0 := fun h0 => by have := (Int.gcd_eq_zero_iff.1 h0).2; omega
    omega
  · rw [← e1, Int.mul_ediv_cancel' (Int.gcd_dvd_left ..)]
  · rw [← e2, Int.mul_ediv_cancel' (Int.gcd_dvd_right ..)]
theorem val_k {r : SR} (h : WR r) : ∃ k : Int, 0 < k ∧ r.num = k * r.val.num ∧ r.den = k * r.val.den := low_k (WR_den h)
theorem gcd_red (q : Rat) : Int.gcd q.num q.den = 1 := q.reduced
theorem packR_ok {p q : Int} (h0 : 0 < q) (hp : SZ p) (hq : SZ q) (hg : Int.gcd p q = 1) : WV (packR p q) ∧ (packR p q).val = Rat.divInt p q := by
  unfold packR
  split
  · rename_i h
    exact ⟨⟨⟨by omega, h0, by omega⟩, fun _ _ e => by cases e⟩, rfl⟩
  · exact ⟨⟨⟨hp, hq, h0⟩, fun _ _ e => by cases e; exact hg⟩, rfl⟩
theorem packR_low {n d : Int} (h : 0 < d) (hn : SZ n) (hd : SZ d) : WV (packR (n / (Int.gcd n d : Int)) (d / (Int.gcd n d : Int))) ∧ (packR (n / (Int.gcd n d : Int)) (d / (Int.gcd n d : Int))).val = Rat.divInt n d := by
  obtain ⟨e1, e2⟩ := low_div (n := n) h
  rw [e1, e2]
  have h1 := packR_ok (p := (Rat.divInt n d).num) (q := (Rat.divInt n d).den) (by have := (Rat.divInt n d).den_pos; omega) (SZ_le (num_le n d) hn) (SZ_le (by rw [Int.natAbs_natCast]; exact den_le (by omega)) hd) (gcd_red _)
  rw [Rat.num_divInt_den] at h1
  exact h1
theorem ofR_ok {n d : Int} (h0 : 0 < d) (hn : I64 n) (hd : I64 d) : WV (ofR n d) ∧ (ofR n d).val = Rat.divInt n d := by
  unfold ofR
  split
  · rename_i h
    exact ⟨⟨⟨by omega, h0, by omega⟩, fun _ _ e => by cases e⟩, rfl⟩
  · exact packR_low h0 (SZ_I64 hn) (SZ_I64 hd)
theorem bigR_ok {n d : Int} (h0 : d ≠ 0) (hn : SZ n) (hd : SZ d) : WV (bigR n d) ∧ (bigR n d).val = Rat.divInt n d := by
  unfold bigR
  split
  · rename_i h
    subst h
    refine ⟨⟨⟨by decide, by decide, by decide⟩, fun _ _ e => by cases e⟩, ?_⟩
    show Rat.divInt 0 1 = _
    rw [Rat.zero_divInt, Rat.zero_divInt]
  · split
    · rename_i h
      have e : Int.gcd n d = Int.gcd (-n) (-d) := by rw [Int.neg_gcd, Int.gcd_neg]
      rw [e]
      have := packR_low (n := -n) (d := -d) (by omega) (SZ_neg.2 hn) (SZ_neg.2 hd)
      rw [Rat.neg_divInt_neg] at this
      exact this
    · exact packR_low (by omega) hn hd
/-- How many digits it takes. -/
theorem rep_sz {r : SR} (h : WV r) : ln r.num.natAbs ≤ qsz r.val ∧ ln r.den.natAbs ≤ qsz r.val := by
  have h1 := qsz_pos r.val
  have one : ∀ x : Nat, x < 2147483648 → ln x ≤ 1 := fun x hx => ln_iff.2 (by simp only [B]; omega)
  cases r with
  | small n d =>
    obtain ⟨⟨x1, x2, x3⟩, _⟩ := h
    have a1 : ln (SR.small n d).num.natAbs ≤ 1 := one _ x1
    have a2 : ln (SR.small n d).den.natAbs ≤ 1 := one _ (by show d.natAbs < _; omega)
    omega
  | lit n d =>
    obtain ⟨⟨x1, x2, x3⟩, _⟩ := h
    have a1 : ln (SR.lit n d).num.natAbs ≤ 1 := one _ x1
    have a2 : ln (SR.lit n d).den.natAbs ≤ 1 := one _ (by show d.natAbs < _; omega)
    omega
  | big p q =>
    obtain ⟨⟨x1, x2, x3⟩, hg⟩ := h
    have hg := hg p q rfl
    obtain ⟨e1, e2⟩ := low_div (n := p) x3
    rw [hg] at e1 e2
    simp at e1 e2
    have v1 : (SR.big p q).val = Rat.divInt p q := rfl
    have v2 : (SR.big p q).num = p := rfl
    have v3 : (SR.big p q).den = q := rfl
    rw [v1, v2, v3]
    have p1 := qsz_num (Rat.divInt p q)
    have p2 := qsz_den (Rat.divInt p q)
    rw [← e1] at p1
    refine ⟨p1, ?_⟩
    rw [show q.natAbs = (Rat.divInt p q).den by omega]
    exact p2
theorem neg_val (r : SR) : (negR r).val = -r.val := by
  unfold SR.val
  rw [negR_num, negR_den, Rat.neg_divInt]
theorem neg_WV {r : SR} (h : WV r) : WV (negR r) := by
  refine ⟨negR_WR h.1, fun p q e => ?_⟩
  cases r with
  | small n d => cases e
  | lit n d => cases e
  | big p' q' =>
    simp only [negR, SR.big.injEq] at e
    obtain ⟨rfl, rfl⟩ := e
    have := h.2 _ _ rfl
    rw [Int.neg_gcd]
    exact this
theorem SZ_of {a : Int} {k : Nat} (h : ln a.natAbs ≤ k) (hk : k < 1099511627776) : SZ a := by rw [SZ_ln]; omega
/-- The products and sums that a sum asks for. -/
theorem cross_sz {a b : SR} (ha : WV a) (hb : WV b) (h : qsz a.val + qsz b.val < MX) :
    SZ (a.num * b.den) ∧ SZ (b.num * a.den) ∧ SZ (a.num * b.den + b.num * a.den) ∧ SZ (a.num * b.den - b.num * a.den) ∧ SZ (a.den * b.den) ∧ SZ (a.num * b.num) ∧ SZ (a.den * b.num) := by
  unfold MX at h
  obtain ⟨a1, a2⟩ := rep_sz ha
  obtain ⟨b1, b2⟩ := rep_sz hb
  have m1 := ln_na_mul a.num b.den
  have m2 := ln_na_mul b.num a.den
  have m3 := ln_na_add (a.num * b.den) (b.num * a.den)
  have m4 := ln_na_add (a.num * b.den) (-(b.num * a.den))
  rw [Int.natAbs_neg, ← Int.sub_eq_add_neg] at m4
  have m5 := ln_na_mul a.den b.den
  have m6 := ln_na_mul a.num b.num
  have m7 := ln_na_mul a.den b.num
  refine ⟨SZ_of m1 ?_, SZ_of m2 ?_, SZ_of m3 ?_, SZ_of m4 ?_, SZ_of m5 ?_, SZ_of m6 ?_, SZ_of m7 ?_⟩ <;> omega
theorem I64_prod {n d : Int} (hn : n.natAbs < 2147483648) (hd : d.natAbs < 2147483648) : (n * d).natAbs ≤ 4611686014132420609 := by
  rw [Int.natAbs_mul]
  have := Nat.mul_le_mul (show n.natAbs ≤ 2147483647 by omega) (show d.natAbs ≤ 2147483647 by omega)
  omega
theorem not_big {r : SR} (h : WR r) (hb : r.isBig = false) : r.num.natAbs < 2147483648 ∧ 0 < r.den ∧ r.den.natAbs < 2147483648 := by
  cases r with
  | small n d => obtain ⟨x1, x2, x3⟩ := h; exact ⟨x1, x2, by show d.natAbs < _; omega⟩
  | lit n d => obtain ⟨x1, x2, x3⟩ := h; exact ⟨x1, x2, by show d.natAbs < _; omega⟩
  | big p q => cases hb
theorem den_val_ne {r : SR} (h : WR r) : r.den ≠ 0 := by have := WR_den h; omega
theorem add_ok {a b : SR} (ha : WV a) (hb : WV b) (h : qsz a.val + qsz b.val < MX) : WV (addR a b) ∧ (addR a b).val = a.val + b.val := by
  obtain ⟨s1, s2, s3, s4, s5, s6, s7⟩ := cross_sz ha hb h
  have hv : a.val + b.val = Rat.divInt (a.num * b.den + b.num * a.den) (a.den * b.den) := Rat.divInt_add_divInt _ _ (den_val_ne ha.1) (den_val_ne hb.1)
  have hd := Int.mul_pos (WR_den ha.1) (WR_den hb.1)
  rw [hv]
  unfold addR
  split
  · exact bigR_ok (by omega) s3 s5
  · rename_i hbig
    simp only [Bool.or_eq_true, not_or, Bool.not_eq_true] at hbig
    obtain ⟨x1, x2, x3⟩ := not_big ha.1 hbig.1
    obtain ⟨y1, y2, y3⟩ := not_big hb.1 hbig.2
    have p1 := I64_prod x1 y3
    have p2 := I64_prod y1 x3
    have p3 := I64_prod x3 y3
    exact ofR_ok hd (by unfold I64; omega) (by unfold I64; omega)
theorem mul_ok {a b : SR} (ha : WV a) (hb : WV b) (h : qsz a.val + qsz b.val < MX) : WV (mulR a b) ∧ (mulR a b).val = a.val * b.val := by
  obtain ⟨s1, s2, s3, s4, s5, s6, s7⟩ := cross_sz ha hb h
  have hv : a.val * b.val = Rat.divInt (a.num * b.num) (a.den * b.den) := Rat.divInt_mul_divInt _ _
  have hd := Int.mul_pos (WR_den ha.1) (WR_den hb.1)
  rw [hv]
  unfold mulR
  split
  · exact bigR_ok (by omega) s6 s5
  · rename_i hbig
    simp only [Bool.or_eq_true, not_or, Bool.not_eq_true] at hbig
    obtain ⟨x1, x2, x3⟩ := not_big ha.1 hbig.1
    obtain ⟨y1, y2, y3⟩ := not_big hb.1 hbig.2
    have p1 := I64_prod x1 y1
    have p3 := I64_prod x3 y3
    exact ofR_ok hd (by unfold I64; omega) (by unfold I64; omega)
theorem sub_ok {a b : SR} (ha : WV a) (hb : WV b) (h : qsz a.val + qsz b.val < MX) : WV (subR a b) ∧ (subR a b).val = a.val - b.val := by
  have := add_ok ha (neg_WV hb) (by rw [neg_val, qsz_neg]; exact h)
  rw [neg_val, ← Rat.sub_eq_add_neg] at this
  exact this
theorem val_zero {r : SR} (h : WR r) : r.val = 0 ↔ r.num = 0 := by
  obtain ⟨k, h1, h2, h3⟩ := val_k h
  constructor
  · intro h0; rw [h2, h0]; simp
  · intro h0
    unfold SR.val
    rw [h0, Rat.zero_divInt]
theorem div_ok {a b : SR} (ha : WV a) (hb : WV b) (h0 : b.val ≠ 0) (h : qsz a.val + qsz b.val < MX) : WV (divR a b) ∧ (divR a b).val = a.val / b.val := by
  have hn : b.num ≠ 0 := fun h' => h0 ((val_zero hb.1).2 h')
  have inv : b.val⁻¹ = Rat.divInt b.den b.num := by unfold SR.val; exact Rat.inv_divInt _ _
  have small : ∀ n d : Int, b.num = n → b.den = d → n.natAbs < 2147483648 → 0 < d → d < 2147483648 → WV (invR n d) ∧ (invR n d).val = b.val⁻¹ := by
    intro n d e1 e2 x1 x2 x3
    rw [inv, e1, e2]
    rw [e1] at hn
    unfold invR
    split
    · refine ⟨⟨⟨by omega, by omega, by omega⟩, fun _ _ e => by cases e⟩, ?_⟩
      show Rat.divInt (-d) (-n) = _
      rw [Rat.neg_divInt_neg]
    · exact ⟨⟨⟨by omega, by omega, by omega⟩, fun _ _ e => by cases e⟩, rfl⟩
  have hq := qsz_inv h0
  have way : ∀ c : SR, WV c → c.val = b.val⁻¹ → WV (mulR a c) ∧ (mulR a c).val = a.val / b.val := by
    intro c hc he
    have := mul_ok ha hc (by rw [he]; omega)
    rw [he, ← Rat.div_def] at this
    exact this
  cases b with
  | small n d =>
    obtain ⟨x1, x2, x3⟩ := hb.1
    obtain ⟨w1, w2⟩ := small n d rfl rfl x1 x2 x3
    exact way _ w1 w2
  | lit n d =>
    obtain ⟨x1, x2, x3⟩ := hb.1
    obtain ⟨w1, w2⟩ := small n d rfl rfl x1 x2 x3
    exact way _ w1 w2
  | big p q =>
    obtain ⟨s1, s2, s3, s4, s5, s6, s7⟩ := cross_sz ha hb h
    have hv : a.val / (SR.big p q).val = Rat.divInt (a.num * q) (a.den * p) := by
      rw [Rat.div_def, inv]
      exact Rat.divInt_mul_divInt _ _
    rw [hv]
    exact bigR_ok (Int.mul_ne_zero (den_val_ne ha.1) hn) s1 s7
theorem sign_val {r : SR} (h : WR r) : r.num.sign = r.val.num.sign := by
  obtain ⟨k, h1, h2, h3⟩ := val_k h
  rw [h2, Int.sign_mul, Int.sign_eq_one_of_pos h1, Int.one_mul]
theorem cmp_val {a b : SR} (ha : WR a) (hb : WR b) : (a.num * b.den - b.num * a.den).sign = qcmp a.val b.val := by
  obtain ⟨k, h1, h2, h3⟩ := val_k ha
  obtain ⟨l, l1, l2, l3⟩ := val_k hb
  unfold qcmp
  have e : a.num * b.den - b.num * a.den = (k * l) * (a.val.num * b.val.den - b.val.num * a.val.den) := by
    rw [h2, h3, l2, l3]
    grind
  rw [e, Int.sign_mul, Int.sign_eq_one_of_pos (Int.mul_pos h1 l1), Int.one_mul]
theorem floor_val {r : SR} (h : WR r) : r.num / r.den = r.val.floor := by
  obtain ⟨k, h1, h2, h3⟩ := val_k h
  rw [Rat.floor_def]
  conv => lhs; rw [h2, h3]
  exact Int.mul_ediv_mul_of_pos _ _ h1
/-- A Q out of a fraction. -/
def oq (q : Rat) : Int × Int × Bool := if q.num.natAbs ≤ 1000000000000000000 ∧ q.den ≤ 1000000000000000000 then (q.num, q.den, true) else (0, 0, false)
theorem qOf_val {r : SR} (h : WV r) : qOfR r = oq r.val := by
  have small : ∀ n d : Int, r.num = n → r.den = d → n.natAbs < 2147483648 → 0 < d → d < 2147483648 → (n / (Int.gcd n d : Int), d / (Int.gcd n d : Int), true) = oq r.val := by
    intro n d e1 e2 x1 x2 x3
    obtain ⟨k1, k2⟩ := low_div (n := n) x2
    have v : r.val = Rat.divInt n d := by unfold SR.val; rw [e1, e2]
    rw [v, k1, k2]
    unfold oq
    have n1 := num_le n d
    have n2 := den_le (n := n) (d := d) (by omega)
    rw [if_pos ⟨by omega, by omega⟩]
  cases r with
  | small n d =>
    obtain ⟨x1, x2, x3⟩ := h.1
    exact small n d rfl rfl x1 x2 x3
  | lit n d =>
    obtain ⟨x1, x2, x3⟩ := h.1
    exact small n d rfl rfl x1 x2 x3
  | big p q =>
    obtain ⟨⟨x1, x2, x3⟩, hg⟩ := h
    have hg := hg p q rfl
    obtain ⟨e1, e2⟩ := low_div (n := p) x3
    rw [hg] at e1 e2
    simp at e1 e2
    have v1 : (SR.big p q).val = Rat.divInt p q := rfl
    rw [v1]
    unfold qOfR oq
    simp only
    rw [← e1, ← e2]
    have : (q.natAbs ≤ 1000000000000000000) ↔ (Rat.divInt p q).den ≤ 1000000000000000000 := by omega
    simp only [this]
end Go.Proofs.Ytdkgkcnllhcamaa.Ae

/-! The reference's fractions as opaque numbers. No condition. -/
namespace Go.Proofs.Ytdkgkcnllhcamaa.Ae
open Go Go.RowKit Go.Proofs.Ytdkgkcnllhcamaa.Dig

mutual
/-- No opaque number is in it. -/
def D.pl : D → Bool
  | .lit _ => true
  | .num _ _ => false
  | .agg ds => D.pls ds
  | .sl _ xs => D.pls xs
  | .ptr d => D.pl d
def D.pls : List D → Bool
  | [] => true
  | d :: ds => D.pl d && D.pls ds
end
theorem pls_at : ∀ (ds : List D) (i : Nat) (d : D), D.pls ds = true → ds[i]? = some d → d.pl = true
  | [], i, d, _, h => by simp at h
  | x :: ds, 0, d, hp, h => by
    simp at h
    subst h
    simp only [D.pls, Bool.and_eq_true] at hp
    exact hp.1
  | x :: ds, i + 1, d, hp, h => by
    simp only [D.pls, Bool.and_eq_true] at hp
    exact pls_at ds i d hp.2 (by simpa using h)
theorem Rep.plain {N N' : NR} {F : Nat → Prop} {w : World} {d : D} {cs : List Value} (h : Rep N F w d cs) (hp : d.pl = true) : Rep N' F w d cs := by
  induction h with
  | lit h => exact .lit h
  | num h => simp [D.pl] at hp
  | agg hl h ih =>
    simp only [D.pl] at hp
    exact .agg hl (fun i d cs h1 h2 => ih i d cs h1 h2 (pls_at _ i d hp h1))
  | sl A c es hc hm ha h ih =>
    simp only [D.pl] at hp
    exact .sl A c es hc hm ha (fun i d h1 => ih i d h1 (pls_at _ i d hp h1))
  | ptr b off es hb hc h ih =>
    simp only [D.pl] at hp
    exact .ptr b off es hb hc (ih hp)
def NN : NR := ⟨fun _ _ _ _ _ => False, fun h => h.elim, fun h => h.elim, fun _ h => h.elim⟩
/-- A number of the kind 1 is a fraction of the reference with that worth. -/
def NF : NR where
  R k F w q cs := k = 1 ∧ ∃ r, WV r ∧ r.val = q ∧ Rep NN F w (eR r) cs
  len := by
    rintro k F w q cs ⟨rfl, r, _, _, h⟩
    rw [h.len, eR_size]; rfl
  one := by
    rintro k F w q cs ⟨rfl, r, _, _, h⟩
    exact h.one
  mono := by
    rintro k F F' w w' q cs hF ⟨rfl, r, h1, h2, h⟩
    exact ⟨rfl, r, h1, h2, h.mono hF⟩
theorem pls_dg : ∀ l : List Nat, D.pls (l.map dg) = true
  | [] => rfl
  | x :: l => by simp only [List.map_cons, D.pls, pls_dg l, dg, D.pl, Bool.and_self]
theorem pl_eZ (z : Int) : (eZ z).pl = true := by
  simp only [eZ, eM, eW, D.pl, D.pls, pls_dg, Bool.and_self]
theorem pl_eR (r : SR) : (eR r).pl = true := by
  cases r <;> simp [eR, D.pl, D.pls, i64D, pl_eZ]

inductive Cv : D → D → Prop
  | same (d : D) (h : ∀ k q, d ≠ .num k q) : Cv d d
  | num (r : SR) (h : WV r) : Cv (.num 1 r.val) (eR r)
def CvL : List D → List D → Prop
  | [], [] => True
  | x :: a, y :: b => Cv x y ∧ CvL a b
  | _, _ => False
theorem cv_in {F : Nat → Prop} {w : World} {d : D} {v : Value} (h : RepV NF F w d v) : ∃ d', Cv d d' ∧ RepV NF F w d' v := by
  cases d with
  | num k q =>
    obtain ⟨cs, hr, hv⟩ := h
    cases hr with
    | num hr =>
      obtain ⟨rfl, r, h1, rfl, h3⟩ := hr
      refine ⟨eR r, .num r h1, cs, h3.plain (pl_eR r), ?_⟩
      rw [hv]
      unfold mkV
      rw [eR_isAgg]
      rfl
  | _ => exact ⟨_, .same _ (fun k q e => by cases e), h⟩
theorem cv_out {F : Nat → Prop} {w : World} {d d' : D} {v : Value} (hc : Cv d d') (h : RepV NF F w d' v) : RepV NF F w d v := by
  cases hc with
  | same _ _ => exact h
  | num r hw =>
    obtain ⟨cs, hr, hv⟩ := h
    refine ⟨cs, .num ⟨rfl, r, hw, rfl, hr.plain (pl_eR r)⟩, ?_⟩
    rw [hv]
    unfold mkV
    rw [eR_isAgg]
    rfl
theorem cvL_in {F : Nat → Prop} {w : World} : ∀ (ds : List D) (vs : List Value), RepVs NF F w ds vs → ∃ ds', CvL ds ds' ∧ RepVs NF F w ds' vs
  | [], vs, h => ⟨[], trivial, h⟩
  | d :: ds, [], h => by have := h.1; simp at this
  | d :: ds, v :: vs, h => by
    obtain ⟨d', c1, r1⟩ := cv_in (h.2 0 d v rfl rfl)
    obtain ⟨ds', c2, r2⟩ := cvL_in ds vs ⟨by simpa using h.1, fun i d v h1 h2 => h.2 (i + 1) d v (by simpa using h1) (by simpa using h2)⟩
    refine ⟨d' :: ds', ⟨c1, c2⟩, by simp only [List.length_cons]; rw [r2.1], fun i e u h1 h2 => ?_⟩
    cases i with
    | zero =>
      simp only [List.getElem?_cons_zero, Option.some.injEq] at h1 h2
      subst h1 h2
      exact r1
    | succ i => exact r2.2 i e u (by simpa using h1) (by simpa using h2)
theorem cvL_out {F : Nat → Prop} {w : World} : ∀ (ds ds' : List D) (vs : List Value), CvL ds ds' → RepVs NF F w ds' vs → RepVs NF F w ds vs
  | [], [], vs, _, h => h
  | d :: ds, d' :: ds', [], _, h => by have := h.1; simp at this
  | d :: ds, d' :: ds', v :: vs, hc, h => by
    have r1 := cv_out hc.1 (h.2 0 d' v rfl rfl)
    have r2 := cvL_out ds ds' vs hc.2 ⟨by simpa using h.1, fun i d v h1 h2 => h.2 (i + 1) d v (by simpa using h1) (by simpa using h2)⟩
    refine ⟨by simp only [List.length_cons]; rw [r2.1], fun i e u h1 h2 => ?_⟩
    cases i with
    | zero =>
      simp only [List.getElem?_cons_zero, Option.some.injEq] at h1 h2
      subst h1 h2
      exact r1
    | succ i => exact r2.2 i e u (by simpa using h1) (by simpa using h2)
  | [], _ :: _, _, hc, _ => hc.elim
  | _ :: _, [], _, hc, _ => hc.elim
theorem cvR_out {F : Nat → Prop} {w : World} {ds ds' : List D} {v : Value} (hc : CvL ds ds') (h : RepRes NF F w ds' v) : RepRes NF F w ds v := by
  cases ds with
  | nil =>
    cases ds' with
    | nil => exact h
    | cons => exact hc.elim
  | cons d t =>
    cases ds' with
    | nil => exact hc.elim
    | cons d' t' =>
      cases t with
      | nil =>
        cases t' with
        | nil => exact cv_out hc.1 h
        | cons => exact hc.2.elim
      | cons e t =>
        cases t' with
        | nil => exact hc.2.elim
        | cons e' t' =>
          obtain ⟨vs, h1, h2⟩ := h
          exact ⟨vs, h1, cvL_out _ _ _ hc h2⟩
/-- A contract over the reference's fractions is one over opaque numbers. -/
theorem specD_num {P : Program} {f : FuncId} {g g' : List D → Prop × List D} (h : SpecD NF P f g) (hg : ∀ ds', (g' ds').1 → ∀ ds, CvL ds' ds → (g ds).1 ∧ CvL (g' ds').2 (g ds).2) : SpecD NF P f g' := by
  intro ds' hp F w vs hF hr
  obtain ⟨ds, c, hr'⟩ := cvL_in ds' vs hr
  obtain ⟨h1, h2⟩ := hg ds' hp ds c
  exact (h ds h1 F w vs hF hr').mono fun e w' ⟨v, he, hv, hfr⟩ => ⟨v, he, cvR_out h2 hv, hfr⟩
/-- The same for contracts over inputs of a kind. -/
theorem specD_num' {P : Program} {f : FuncId} {g : List D → Prop × List D} {β : Type} {e' : β → List D} {pre' : β → Prop} {post' : β → List D} (h : SpecD NF P f g) (hg : ∀ b, pre' b → ∀ ds, CvL (e' b) ds → (g ds).1 ∧ CvL (post' b) (g ds).2) : SpecD NF P f (ctD e' pre' post') := by
  refine specD_num h (fun ds' hp ds hc => ?_)
  obtain ⟨b, rfl, h1, h2⟩ := ctD_pre hp
  rw [h2]
  exact hg b h1 ds hc
theorem cv_num {q : Rat} {d : D} (h : Cv (.num 1 q) d) : ∃ r, WV r ∧ r.val = q ∧ d = eR r := by
  generalize hx : D.num 1 q = x at h
  cases h with
  | same _ hh => exact absurd hx.symm (hh 1 q)
  | num r hw =>
    injection hx with _ hx
    exact ⟨r, hw, hx.symm, rfl⟩
theorem cv_same {d d' : D} (hd : ∀ k q, d ≠ .num k q) (h : Cv d d') : d' = d := by
  cases h with
  | same _ _ => rfl
  | num r _ => exact absurd rfl (hd 1 r.val)
theorem cv_to {r : SR} {q : Rat} (h : WV r ∧ r.val = q) : Cv (.num 1 q) (eR r) := by
  obtain ⟨h1, rfl⟩ := h
  exact .num r h1
theorem cv1 {q : Rat} {ds : List D} (h : CvL [.num 1 q] ds) : ∃ r, WV r ∧ r.val = q ∧ ds = [eR r] := by
  cases ds with
  | nil => exact h.elim
  | cons d t =>
    cases t with
    | cons e t => exact h.2.elim
    | nil =>
      obtain ⟨r, h1, h2, rfl⟩ := cv_num h.1
      exact ⟨r, h1, h2, rfl⟩
theorem cv2 {q p : Rat} {ds : List D} (h : CvL [.num 1 q, .num 1 p] ds) : ∃ r s, WV r ∧ r.val = q ∧ WV s ∧ s.val = p ∧ ds = [eR r, eR s] := by
  cases ds with
  | nil => exact h.elim
  | cons d t =>
    obtain ⟨r, h1, h2, rfl⟩ := cv_num h.1
    obtain ⟨s, h3, h4, rfl⟩ := cv1 h.2
    exact ⟨r, s, h1, h2, h3, h4, rfl⟩
theorem cvs1 {d : D} {ds : List D} (hd : ∀ k q, d ≠ .num k q) (h : CvL [d] ds) : ds = [d] := by
  cases ds with
  | nil => exact h.elim
  | cons e t =>
    cases t with
    | cons e t => exact h.2.elim
    | nil => rw [cv_same hd h.1]
theorem cvs2 {d e : D} {ds : List D} (hd : ∀ k q, d ≠ .num k q) (he : ∀ k q, e ≠ .num k q) (h : CvL [d, e] ds) : ds = [d, e] := by
  cases ds with
  | nil => exact h.elim
  | cons x t => rw [cv_same hd h.1, cvs1 he h.2]
theorem cvo1 {d : D} (hd : ∀ k q, d ≠ .num k q) : CvL [d] [d] := ⟨.same d hd, trivial⟩
theorem cvo2 {d e : D} (hd : ∀ k q, d ≠ .num k q) (he : ∀ k q, e ≠ .num k q) : CvL [d, e] [d, e] := ⟨.same d hd, .same e he, trivial⟩

def nD (q : Rat) : D := .num 1 q
@[simp] theorem nD_size (q : Rat) : (nD q).size = 3 := rfl
@[simp] theorem nD_agg (q : Rat) : (nD q).isAgg = true := rfl
@[simp] theorem nD_lit (q : Rat) : (nD q).isLit = false := rfl
theorem nD_inj {a b : Rat} (h : nD a = nD b) : a = b := by unfold nD at h; injection h
def f1E (p : Q1) : List D := [nD p.a]
theorem f1E_inj (p q : Q1) (h : f1E p = f1E q) : p = q := by
  obtain ⟨a⟩ := p; obtain ⟨b⟩ := q
  simp only [f1E, List.cons.injEq, and_true] at h
  rw [nD_inj h]
def f2E (p : Q2) : List D := [nD p.a, nD p.b]
theorem f2E_inj (p q : Q2) (h : f2E p = f2E q) : p = q := by
  obtain ⟨a, b⟩ := p; obtain ⟨c, d⟩ := q
  simp only [f2E, List.cons.injEq, and_true] at h
  rw [nD_inj h.1, nD_inj h.2]
end Go.Proofs.Ytdkgkcnllhcamaa.Ae

/-! impl.rat: what it holds; little, big, fit, ri, rq, low, neg. No condition. -/
namespace Go.Proofs.Ytdkgkcnllhcamaa.Ae
open Go Go.RowKit Go.Proofs.Ytdkgkcnllhcamaa.Dig
variable {N : NR}

def smallQ (q : Rat) : Prop := q.num.natAbs < 9223372036854775808 ∧ q.den < 9223372036854775808
instance (q : Rat) : Decidable (smallQ q) := by unfold smallQ; infer_instance
/-- A fraction as the program holds it. -/
def eRat (q : Rat) : D := if smallQ q then .agg [i64D q.num, i64D q.den, .lit (.pointer none)] else .agg [i64D 0, i64D 0, .ptr (eBR q)]
theorem eRat_s {q : Rat} (h : smallQ q) : eRat q = .agg [i64D q.num, i64D q.den, .lit (.pointer none)] := by unfold eRat; rw [if_pos h]
theorem eRat_b {q : Rat} (h : ¬ smallQ q) : eRat q = .agg [i64D 0, i64D 0, .ptr (eBR q)] := by unfold eRat; rw [if_neg h]
@[simp] theorem eRat_size (q : Rat) : (eRat q).size = 3 := by unfold eRat; split <;> rfl
@[simp] theorem eRat_agg (q : Rat) : (eRat q).isAgg = true := by unfold eRat; split <;> rfl
@[simp] theorem eRat_lit (q : Rat) : (eRat q).isLit = false := by unfold eRat; split <;> rfl
theorem eRat_inj {a b : Rat} (h : eRat a = eRat b) : a = b := by
  by_cases ha : smallQ a <;> by_cases hb : smallQ b
  · rw [eRat_s ha, eRat_s hb] at h
    simp only [D.agg.injEq, List.cons.injEq, and_true, i64D, D.lit.injEq, Value.int.injEq, true_and] at h
    exact Rat.ext h.1 (by omega)
  · rw [eRat_s ha, eRat_b hb] at h; simp at h
  · rw [eRat_b ha, eRat_s hb] at h; simp at h
  · rw [eRat_b ha, eRat_b hb] at h
    simp only [D.agg.injEq, List.cons.injEq, and_true, true_and, D.ptr.injEq] at h
    exact eBR_inj h
def r1E (p : Q1) : List D := [eRat p.a]
theorem r1E_inj (p q : Q1) (h : r1E p = r1E q) : p = q := by
  obtain ⟨a⟩ := p; obtain ⟨b⟩ := q
  simp only [r1E, List.cons.injEq, and_true] at h
  rw [eRat_inj h]
def r2E (p : Q2) : List D := [eRat p.a, eRat p.b]
theorem r2E_inj (p q : Q2) (h : r2E p = r2E q) : p = q := by
  obtain ⟨a, b⟩ := p; obtain ⟨c, d⟩ := q
  simp only [r2E, List.cons.injEq, and_true] at h
  rw [eRat_inj h.1, eRat_inj h.2]
def boolD (b : Bool) : D := .lit (.bool b)
theorem smallQ_qsz {q : Rat} (h : smallQ q) : qsz q ≤ 2 := by
  unfold smallQ at h
  exact Nat.max_le.2 ⟨ln_i64 (by omega), ln_i64 (by omega)⟩

/-! little -/
def lit31 (q : Rat) : Prop := q.num.natAbs < 2147483648 ∧ q.den < 2147483648
instance (q : Rat) : Decidable (lit31 q) := by unfold lit31; infer_instance
theorem lit31_small {q : Rat} (h : lit31 q) : smallQ q := ⟨by unfold lit31 at h; omega, by unfold lit31 at h; omega⟩
noncomputable def littleC := ctD r1E (fun p => True) (fun p => [boolD (decide (lit31 p.a))])
theorem littleC_at (a : Rat) : littleC [eRat a] = (True, [boolD (decide (lit31 a))]) := ctD_at r1E_inj ⟨a⟩
/-! big -/
noncomputable def bigIC := ctD r1E (fun p => True) (fun p => [.ptr (eBR p.a)])
theorem bigIC_at (a : Rat) : bigIC [eRat a] = (True, [.ptr (eBR a)]) := ctD_at r1E_inj ⟨a⟩
/-! fit -/
noncomputable def fitC := ctD pbE (fun p => qsz p.a < 1099511627776) (fun p => [eRat p.a])
theorem fitC_at (a : Rat) : fitC [.ptr (eBR a)] = (qsz a < 1099511627776, [eRat a]) := ctD_at pbE_inj ⟨a⟩
/-! ri, rq, low, neg -/
theorem smallQ_int {n : Int} (h : n.natAbs < 9223372036854775808) : smallQ (n : Rat) := ⟨by rw [Rat.num_intCast]; exact h, by rw [Rat.den_intCast]; decide⟩
noncomputable def riC := ctD z1E (fun p => p.a.natAbs < 9223372036854775808) (fun p => [eRat (p.a : Rat)])
theorem riC_at (a : Int) : riC [i64D a] = (a.natAbs < 9223372036854775808, [eRat (a : Rat)]) := ctD_at z1E_inj ⟨a⟩
/-- A fraction in lowest terms. -/
def QI (n d : Int) : Prop := 0 < d ∧ Int.gcd n d = 1 ∧ n.natAbs < 9223372036854775808 ∧ d < 9223372036854775808
theorem QI_num {n d : Int} (h : QI n d) : (Rat.divInt n d).num = n ∧ ((Rat.divInt n d).den : Int) = d := by
  obtain ⟨h1, h2, _⟩ := h
  obtain ⟨e1, e2⟩ := low_pos (a := n) h1
  rw [h2] at e1 e2
  rw [← e1, ← e2]
  simp
theorem QI_small {n d : Int} (h : QI n d) : smallQ (Rat.divInt n d) := by
  obtain ⟨e1, e2⟩ := QI_num h
  obtain ⟨h1, h2, h3, h4⟩ := h
  refine ⟨by rw [e1]; exact h3, by omega⟩
theorem eRat_QI {n d : Int} (h : QI n d) : eRat (Rat.divInt n d) = .agg [i64D n, i64D d, .lit (.pointer none)] := by
  obtain ⟨e1, e2⟩ := QI_num h
  rw [eRat_s (QI_small h), e1, e2]
noncomputable def rqC := ctD qE (fun p => QI p.a p.b) (fun p => [eRat (Rat.divInt p.a p.b)])
theorem rqC_at (a b : Int) : rqC [eQ a b] = (QI a b, [eRat (Rat.divInt a b)]) := ctD_at qE_inj ⟨a, b⟩
theorem rq_spec : SpecD N Try.prog 31 rqC := by
  refine rdD (mf := fun f => false) tbl_nil (fn := Try.f31) (by kernel_rfl) rfl (by kernel_rfl) ?_
  rintro ⟨a, b⟩ h
  have h : QI a b := h
  refine ⟨by show 1 ≤ 8; decide, ?_⟩
  simp only [qE, Try.f31, eRat_QI h, i64D, eQ]
  simp
theorem rq_ok : callable Try.prog 31 = true := by kernel_rfl

/-! low -/
noncomputable def lowC := ctD iiE (fun p => p.a.natAbs < 9223372036854775808 ∧ 0 < p.b ∧ p.b < 9223372036854775808) (fun p => [eRat (Rat.divInt p.a p.b)])
theorem lowC_at (a b : Int) : lowC [i64D a, i64D b] = ((a.natAbs < 9223372036854775808 ∧ 0 < b ∧ b < 9223372036854775808), [eRat (Rat.divInt a b)]) := ctD_at iiE_inj ⟨a, b⟩
noncomputable def lowTb : List (FuncId × Ct) := [(36, .data absC), (35, .data gcdC)]
theorem lowTb_ok : TbOK N Try.prog (tbl lowTb) := tbl_cons (c := .data absC) abs64_spec abs64_ok (tbl_cons (c := .data gcdC) gcd64_spec gcd64_ok tbl_nil)

@[simp] theorem lowTb1 : tbl lowTb 36 = some (.data absC) := rfl
@[simp] theorem lowTb2 : tbl lowTb 35 = some (.data gcdC) := rfl
theorem small_divInt {n d : Int} (hn : n.natAbs < 9223372036854775808) (h0 : 0 < d) (hd : d < 9223372036854775808) : smallQ (Rat.divInt n d) :=
  ⟨Nat.lt_of_le_of_lt (num_le n d) hn, Nat.lt_of_le_of_lt (den_le (by omega)) (by omega)⟩
/-! neg -/
noncomputable def rngC := ctD r1E (fun p => qsz p.a < MX) (fun p => [eRat (-p.a)])
theorem rngC_at (a : Rat) : rngC [eRat a] = (qsz a < MX, [eRat (-a)]) := ctD_at r1E_inj ⟨a⟩
theorem smallQ_neg {a : Rat} : smallQ (-a) ↔ smallQ a := by unfold smallQ; rw [Rat.neg_num, Rat.neg_den, Int.natAbs_neg]
end Go.Proofs.Ytdkgkcnllhcamaa.Ae

/-! impl.rat: add, sub. No condition. -/
namespace Go.Proofs.Ytdkgkcnllhcamaa.Ae
open Go Go.RowKit Go.Proofs.Ytdkgkcnllhcamaa.Dig
variable {N : NR}

theorem rat_eq (a : Rat) : a = (a.num : Rat) / ((a.den : Int) : Rat) := by
  rw [← Rat.divInt_eq_div, Rat.num_divInt_den]
theorem den_rz (a : Rat) : ((a.den : Int) : Rat) ≠ 0 := by
  intro h
  exact dz a (by exact_mod_cast h)
theorem add_same {a b : Rat} (h : a.den = b.den) : a + b = Rat.divInt (a.num + b.num) a.den := by
  have h1 := rat_eq a
  have h2 := rat_eq b
  rw [← h] at h2
  rw [Rat.divInt_eq_div, Rat.intCast_add]
  have h3 := den_rz a
  grind
theorem sub_same {a b : Rat} (h : a.den = b.den) : a - b = Rat.divInt (a.num - b.num) a.den := by
  have h1 := rat_eq a
  have h2 := rat_eq b
  rw [← h] at h2
  rw [Rat.divInt_eq_div, Rat.intCast_sub]
  have h3 := den_rz a
  grind
theorem sub_divInt (a b : Rat) : a - b = Rat.divInt (a.num * b.den - b.num * a.den) (a.den * b.den) := by
  have := add_divInt a (-b)
  rw [Rat.neg_num, Rat.neg_den, Int.neg_mul, ← Int.sub_eq_add_neg, ← Rat.sub_eq_add_neg] at this
  exact this
def raMf : FuncId → Bool := fun f => f == 99999999 || f == 99999999 || f == 99999999
attribute [simp] raMf
theorem prod31 {n d : Int} (hn : n.natAbs < 2147483648) (hd : 0 < d ∧ d < 2147483648) : -4611686018427387904 < n * d ∧ n * d < 4611686018427387904 := prod_bd hn hd

noncomputable def raddC := ctD r2E (fun p => qsz p.a + qsz p.b < MX) (fun p => [eRat (p.a + p.b)])
theorem raddC_at (a b : Rat) : raddC [eRat a, eRat b] = (qsz a + qsz b < MX, [eRat (a + b)]) := ctD_at r2E_inj ⟨a, b⟩
noncomputable def rsubC := ctD r2E (fun p => qsz p.a + qsz p.b < MX) (fun p => [eRat (p.a - p.b)])
theorem rsubC_at (a b : Rat) : rsubC [eRat a, eRat b] = (qsz a + qsz b < MX, [eRat (a - b)]) := ctD_at r2E_inj ⟨a, b⟩
end Go.Proofs.Ytdkgkcnllhcamaa.Ae

/-! impl.rat: inv, sign, q, floor, fromInt; math/bits.Mul64. No condition. -/
namespace Go.Proofs.Ytdkgkcnllhcamaa.Ae
open Go Go.RowKit Go.Proofs.Ytdkgkcnllhcamaa.Dig
variable {N : NR}

/-! sign -/
noncomputable def rsgC := ctD r1E (fun p => True) (fun p => [i64D p.a.num.sign])
theorem rsgC_at (a : Rat) : rsgC [eRat a] = (True, [i64D a.num.sign]) := ctD_at r1E_inj ⟨a⟩
/-! inv -/
noncomputable def rinvC := ctD r1E (fun p => qsz p.a < MX ∧ p.a ≠ 0) (fun p => [eRat p.a⁻¹])
theorem rinvC_at (a : Rat) : rinvC [eRat a] = ((qsz a < MX ∧ a ≠ 0), [eRat a⁻¹]) := ctD_at r1E_inj ⟨a⟩
theorem inv_pos {a : Rat} (h : 0 < a.num) : a⁻¹.num = a.den ∧ (a⁻¹.den : Int) = a.num := by
  have hr : Int.gcd a.den a.num = 1 := by rw [Int.gcd_comm]; exact a.reduced
  rw [inv_divInt]
  obtain ⟨e1, e2⟩ := low_pos (a := a.den) h
  rw [hr] at e1 e2
  rw [← e1, ← e2]
  simp
theorem inv_neg {a : Rat} (h : a.num < 0) : a⁻¹.num = -(a.den : Int) ∧ (a⁻¹.den : Int) = -a.num := by
  have hr : Int.gcd a.den a.num = 1 := by rw [Int.gcd_comm]; exact a.reduced
  rw [inv_divInt]
  obtain ⟨e1, e2⟩ := low_neg (a := a.den) h
  rw [hr] at e1 e2
  rw [← e1, ← e2]
  simp [Int.tdiv_neg]
/-! q -/
def MN : Int := 1000000000000000000
def isQ (q : Rat) : Prop := q.num.natAbs ≤ 1000000000000000000 ∧ q.den ≤ 1000000000000000000
instance (q : Rat) : Decidable (isQ q) := by unfold isQ; infer_instance
def oQ (q : Rat) : List D := if isQ q then [eQ q.num q.den, boolD true] else [eQ 0 0, boolD false]
noncomputable def rqqC := ctD r1E (fun p => True) (fun p => oQ p.a)
theorem rqqC_at (a : Rat) : rqqC [eRat a] = (True, oQ a) := ctD_at r1E_inj ⟨a⟩
/-! floor, fromInt -/
noncomputable def rflC := ctD r1E (fun p => qsz p.a < MX) (fun p => [.ptr (eZ p.a.floor)])
theorem rflC_at (a : Rat) : rflC [eRat a] = (qsz a < MX, [.ptr (eZ a.floor)]) := ctD_at r1E_inj ⟨a⟩
noncomputable def fiC := ctD pE (fun p => ln p.a.natAbs < MX) (fun p => [eRat (p.a : Rat)])
theorem fiC_at (a : Int) : fiC [.ptr (eZ a)] = (ln a.natAbs < MX, [eRat (a : Rat)]) := ctD_at pE_inj ⟨a⟩
theorem qsz_int (a : Int) : qsz (a : Rat) = max (ln a.natAbs) 1 := by unfold qsz; rw [Rat.num_intCast, Rat.den_intCast, ln_one]
/-! Mul64 -/
noncomputable def m64C := ctD uuE (fun p => p.a < 18446744073709551616 ∧ p.b < 18446744073709551616) (fun p => [u64D (p.a * p.b / 18446744073709551616), u64D (p.a * p.b % 18446744073709551616)])
theorem m64C_at (a b : Nat) : m64C [u64D a, u64D b] = ((a < 18446744073709551616 ∧ b < 18446744073709551616), [u64D (a * b / 18446744073709551616), u64D (a * b % 18446744073709551616)]) := ctD_at uuE_inj ⟨a, b⟩
theorem and32 (x : Nat) (h : x < 18446744073709551616) : bAnd .u64 x 4294967295 = ((x % 4294967296 : Nat) : Int) := by
  have := bAnd64 x 4294967295 h (by decide)
  rw [show (x &&& 4294967295) = x % 4294967296 from Nat.and_two_pow_sub_one_eq_mod x 32] at this
  exact this
theorem mul_split (x1 x0 y1 y0 : Nat) : (x1 * 4294967296 + x0) * (y1 * 4294967296 + y0) = x1 * y1 * 18446744073709551616 + (x1 * y0 + x0 * y1) * 4294967296 + x0 * y0 := by
  grind
theorem bd32 {x y : Nat} (hx : x < 4294967296) (hy : y < 4294967296) : x * y ≤ 18446744065119617025 := by
  have := Nat.mul_le_mul (show x ≤ 4294967295 by omega) (show y ≤ 4294967295 by omega)
  omega
end Go.Proofs.Ytdkgkcnllhcamaa.Ae

/-! impl.rat: mul, div. No condition. -/
namespace Go.Proofs.Ytdkgkcnllhcamaa.Ae
open Go Go.RowKit Go.Proofs.Ytdkgkcnllhcamaa.Dig
variable {N : NR}

theorem mul_low (a b : Rat) : (a * b).num = (a.num.tdiv (Nat.gcd a.num.natAbs b.den)) * (b.num.tdiv (Nat.gcd b.num.natAbs a.den)) ∧ (a * b).den = (a.den / Nat.gcd b.num.natAbs a.den) * (b.den / Nat.gcd a.num.natAbs b.den) := by
  have h1 : (Nat.gcd a.num.natAbs b.den : Int) ∣ a.num := Int.ofNat_dvd_left.2 (Nat.gcd_dvd_left _ _)
  have h2 : (Nat.gcd b.num.natAbs a.den : Int) ∣ b.num := Int.ofNat_dvd_left.2 (Nat.gcd_dvd_left _ _)
  rw [Int.tdiv_eq_ediv_of_dvd h1, Int.tdiv_eq_ediv_of_dvd h2]
  show (Rat.mul a b).num = _ ∧ (Rat.mul a b).den = _
  unfold Rat.mul
  simp
noncomputable def rmC := ctD r2E (fun p => qsz p.a + qsz p.b < MX) (fun p => [eRat (p.a * p.b)])
theorem rmC_at (a b : Rat) : rmC [eRat a, eRat b] = (qsz a + qsz b < MX, [eRat (a * b)]) := ctD_at r2E_inj ⟨a, b⟩
noncomputable def rmTb : List (FuncId × Ct) := [(36, .data absC), (35, .data gcdC)]
theorem rmTb_ok : TbOK N Try.prog (tbl rmTb) := tbl_cons (c := .data absC) abs64_spec abs64_ok (tbl_cons (c := .data gcdC) gcd64_spec gcd64_ok tbl_nil)

@[simp] theorem rmTb7 : tbl rmTb 36 = some (.data absC) := rfl
@[simp] theorem rmTb8 : tbl rmTb 35 = some (.data gcdC) := rfl
/-- What the third way of mul reckons with: the parts without what divides both. -/
theorem mul_way {n n' : Int} {d d' g h : Nat} (hg : g = Nat.gcd n.natAbs d') (hh : h = Nat.gcd n'.natAbs d) (hd : 0 < d) (hd' : 0 < d') (hn : n.natAbs < 9223372036854775808) (hn' : n'.natAbs < 9223372036854775808) (hdl : d < 9223372036854775808) (hdl' : d' < 9223372036854775808) :
    0 < g ∧ 0 < h ∧ g < 9223372036854775808 ∧ h < 9223372036854775808 ∧ (n.tdiv g).natAbs < 9223372036854775808 ∧ (n'.tdiv h).natAbs < 9223372036854775808 ∧ Int.tdiv d h = ((d / h : Nat) : Int) ∧ Int.tdiv d' g = ((d' / g : Nat) : Int) ∧ d / h < 9223372036854775808 ∧ d' / g < 9223372036854775808 := by
  have g1 : 0 < g := by rw [hg]; exact Nat.gcd_pos_of_pos_right _ hd'
  have h1 : 0 < h := by rw [hh]; exact Nat.gcd_pos_of_pos_right _ hd
  have g2 : g ≤ d' := by rw [hg]; exact Nat.le_of_dvd hd' (Nat.gcd_dvd_right _ _)
  have h2 : h ≤ d := by rw [hh]; exact Nat.le_of_dvd hd (Nat.gcd_dvd_right _ _)
  have b1 : (n.tdiv g).natAbs ≤ n.natAbs := by rw [Int.natAbs_tdiv]; exact Nat.div_le_self _ _
  have b2 : (n'.tdiv h).natAbs ≤ n'.natAbs := by rw [Int.natAbs_tdiv]; exact Nat.div_le_self _ _
  have b3 := Nat.div_le_self d h
  have b4 := Nat.div_le_self d' g
  exact ⟨g1, h1, by omega, by omega, by omega, by omega, tdiv_nat d h, tdiv_nat d' g, by omega, by omega⟩
theorem sign_prod (x y : Int) (h : (x * y).natAbs < 9223372036854775808) : (if (decide (x < 0) != decide (y < 0)) = true then IntKind.i64.wrap (-((x.natAbs * y.natAbs : Nat) : Int)) else ((x.natAbs * y.natAbs : Nat) : Int)) = x * y := by
  rw [← Int.natAbs_mul]
  by_cases hx : x < 0 <;> by_cases hy : y < 0
  · have := Int.mul_pos_of_neg_of_neg hx hy
    simp [hx, hy]; omega
  · have : x * y ≤ 0 := Int.mul_nonpos_of_nonpos_of_nonneg (by omega) (by omega)
    simp [hx, hy]
    rw [i64_id _ (by omega) (by omega)]; omega
  · have : x * y ≤ 0 := Int.mul_nonpos_of_nonneg_of_nonpos (by omega) (by omega)
    simp [hx, hy]
    rw [i64_id _ (by omega) (by omega)]; omega
  · have : 0 ≤ x * y := Int.mul_nonneg (by omega) (by omega)
    simp [hx, hy]; omega
def rmMf : FuncId → Bool := fun f => f == 99999999 || f == 99999999
attribute [simp] rmMf
/-! div -/
noncomputable def rdvC := ctD r2E (fun p => qsz p.a + qsz p.b < MX ∧ p.b ≠ 0) (fun p => [eRat (p.a / p.b)])
theorem rdvC_at (a b : Rat) : rdvC [eRat a, eRat b] = ((qsz a + qsz b < MX ∧ b ≠ 0), [eRat (a / b)]) := ctD_at r2E_inj ⟨a, b⟩
end Go.Proofs.Ytdkgkcnllhcamaa.Ae

/-! impl.rat: cmp; impl.QOk, allQ. No condition. -/
namespace Go.Proofs.Ytdkgkcnllhcamaa.Ae
open Go Go.RowKit Go.Proofs.Ytdkgkcnllhcamaa.Dig
variable {N : NR}

noncomputable def rcC := ctD r2E (fun p => qsz p.a + qsz p.b < MX) (fun p => [i64D (qcmp p.a p.b)])
theorem rcC_at (a b : Rat) : rcC [eRat a, eRat b] = (qsz a + qsz b < MX, [i64D (qcmp a b)]) := ctD_at r2E_inj ⟨a, b⟩
noncomputable def rcTb : List (FuncId × Ct) := [(36, .data absC)]
theorem rcTb_ok : TbOK N Try.prog (tbl rcTb) := tbl_cons (c := .data absC) abs64_spec abs64_ok tbl_nil

@[simp] theorem rcTb4 : tbl rcTb 36 = some (.data absC) := rfl
theorem qcmp_same {a b : Rat} (h : a.den = b.den) : qcmp a b = (a.num - b.num).sign := by
  unfold qcmp
  rw [h, ← Int.sub_mul, Int.sign_mul, Int.sign_eq_one_of_pos (show 0 < (b.den : Int) by have := b.den_pos; omega), Int.mul_one]
theorem sgn_cases (x : Int) : (x < 0 ∧ x.sign = -1) ∨ (x = 0 ∧ x.sign = 0) ∨ (0 < x ∧ x.sign = 1) := by
  rcases Int.lt_trichotomy x 0 with h | h | h
  · exact .inl ⟨h, Int.sign_eq_neg_one_of_neg h⟩
  · exact .inr (.inl ⟨h, by rw [h]; rfl⟩)
  · exact .inr (.inr ⟨h, Int.sign_eq_one_of_pos h⟩)
/-- By the signs, and by the products' sizes. -/
theorem qcmp_way (a b : Rat) : (a.num.sign < b.num.sign → qcmp a b = -1) ∧ (b.num.sign < a.num.sign → qcmp a b = 1) ∧
    (a.num.sign = b.num.sign → (a.num.natAbs * b.den < b.num.natAbs * a.den → qcmp a b = -a.num.sign) ∧ (b.num.natAbs * a.den < a.num.natAbs * b.den → qcmp a b = a.num.sign) ∧ (a.num.natAbs * b.den = b.num.natAbs * a.den → qcmp a b = 0)) := by
  have da := a.den_pos
  have db := b.den_pos
  have e1 : a.num = a.num.sign * a.num.natAbs := (Int.sign_mul_natAbs a.num).symm
  have e2 : b.num = b.num.sign * b.num.natAbs := (Int.sign_mul_natAbs b.num).symm
  have m1 : a.num * b.den = a.num.sign * ((a.num.natAbs * b.den : Nat) : Int) := by rw [Int.natCast_mul, ← Int.mul_assoc, ← e1]
  have m2 : b.num * a.den = b.num.sign * ((b.num.natAbs * a.den : Nat) : Int) := by rw [Int.natCast_mul, ← Int.mul_assoc, ← e2]
  have p1 : a.num.sign ≠ 0 → 0 < a.num.natAbs * b.den := fun h => Nat.mul_pos (by rcases sgn_cases a.num with ⟨h1, h2⟩ | ⟨h1, h2⟩ | ⟨h1, h2⟩ <;> omega) db
  have p2 : b.num.sign ≠ 0 → 0 < b.num.natAbs * a.den := fun h => Nat.mul_pos (by rcases sgn_cases b.num with ⟨h1, h2⟩ | ⟨h1, h2⟩ | ⟨h1, h2⟩ <;> omega) da
  have z1 : a.num.sign = 0 → a.num.natAbs * b.den = 0 := fun h => by
    have : a.num.natAbs = 0 := by rcases sgn_cases a.num with ⟨h1, h2⟩ | ⟨h1, h2⟩ | ⟨h1, h2⟩ <;> omega
    rw [this, Nat.zero_mul]
  have z2 : b.num.sign = 0 → b.num.natAbs * a.den = 0 := fun h => by
    have : b.num.natAbs = 0 := by rcases sgn_cases b.num with ⟨h1, h2⟩ | ⟨h1, h2⟩ | ⟨h1, h2⟩ <;> omega
    rw [this, Nat.zero_mul]
  unfold qcmp
  rw [m1, m2]
  have h1 := sgn_cases a.num
  have h2 := sgn_cases b.num
  generalize a.num.natAbs * b.den = A at *
  generalize b.num.natAbs * a.den = C at *
  generalize a.num.sign = s at *
  generalize b.num.sign = t at *
  have hs : s = -1 ∨ s = 0 ∨ s = 1 := by rcases h1 with ⟨_, h⟩ | ⟨_, h⟩ | ⟨_, h⟩ <;> simp [h]
  have ht : t = -1 ∨ t = 0 ∨ t = 1 := by rcases h2 with ⟨_, h⟩ | ⟨_, h⟩ | ⟨_, h⟩ <;> simp [h]
  have neg : ∀ x : Int, x < 0 → x.sign = -1 := fun x h => Int.sign_eq_neg_one_of_neg h
  have pos : ∀ x : Int, 0 < x → x.sign = 1 := fun x h => Int.sign_eq_one_of_pos h
  clear h1 h2 m1 m2 e1 e2
  rcases hs with rfl | rfl | rfl <;> rcases ht with rfl | rfl | rfl <;> simp at p1 p2 z1 z2
  all_goals refine ⟨fun h => ?_, fun h => ?_, fun h => ⟨fun h' => ?_, fun h' => ?_, fun h' => ?_⟩⟩
  all_goals first
    | omega
    | (apply neg; omega)
    | (apply pos; omega)
    | (rw [neg _ (by omega)]; omega)
    | (rw [pos _ (by omega)]; omega)
    | (subst h'; simp; done)
    | (simp [*]; done)
/-! QOk, allQ -/
def qOk (n d : Int) : Prop := (1 ≤ d ∧ d ≤ 1000000000000000000) ∧ (-1000000000000000000 ≤ n ∧ n ≤ 1000000000000000000) ∧ Int.gcd n d = 1
instance (n d : Int) : Decidable (qOk n d) := by unfold qOk; infer_instance
theorem qOk_QI {n d : Int} (h : qOk n d) : QI n d := ⟨by unfold qOk at h; omega, h.2.2, by unfold qOk at h; omega, by unfold qOk at h; omega⟩
noncomputable def qokC := ctD qE (fun p => I64 p.a ∧ I64 p.b) (fun p => [boolD (decide (qOk p.a p.b))])
theorem qokC_at (a b : Int) : qokC [eQ a b] = ((I64 a ∧ I64 b), [boolD (decide (qOk a b))]) := ctD_at qE_inj ⟨a, b⟩
theorem iQOk_spec : SpecD N Try.prog 34 qokC := by
  refine rdD (mf := fun f => false) lowTb_ok (fn := Try.f34) (by kernel_rfl) rfl (by kernel_rfl) ?_
  rintro ⟨n, d⟩ ⟨hn, hd⟩
  have hn : I64 n := hn
  have hd : I64 d := hd
  refine ⟨by show 1 ≤ 31; decide, ?_⟩
  have c1 := absC_at n
  have c2 := gcdC_at n.natAbs d.natAbs
  unfold I64 at hd
  have h2 : n.natAbs < 18446744073709551616 := by unfold I64 at hn; omega
  have h3 : d.natAbs < 18446744073709551616 := by omega
  have e3 : Nat.gcd n.natAbs d.natAbs = Int.gcd n d := rfl
  simp only [hn, h2, h3, e3, and_self, u64D, i64D] at c1 c2
  simp only [qE, eQ, i64D, Try.f34, boolD]
  have hw : 1 ≤ d → IntKind.u64.wrap d = (d.natAbs : Int) := fun h => by rw [wrap_u64]; omega
  have e : decide (qOk n d) = (decide (1 ≤ d) && (decide (d ≤ 1000000000000000000) && (decide (-1000000000000000000 ≤ n) && (decide (n ≤ 1000000000000000000) && decide (Int.gcd n d = 1))))) := by
    rw [← Bool.decide_and, ← Bool.decide_and, ← Bool.decide_and, ← Bool.decide_and]
    congr 1
    apply propext
    unfold qOk
    constructor
    · rintro ⟨⟨a, b⟩, ⟨c, e⟩, f⟩; exact ⟨a, b, c, e, f⟩
    · rintro ⟨a, b, c, e, f⟩; exact ⟨⟨a, b⟩, ⟨c, e⟩, f⟩
  rw [e]
  clear e e3
  generalize Int.gcd n d = g at *
  by_cases h1 : 1 ≤ d
  · have w1 := hw h1
    by_cases h4 : d ≤ 1000000000000000000 <;> by_cases h5 : -1000000000000000000 ≤ n <;> by_cases h6 : n ≤ 1000000000000000000 <;> simp [h1, h4, h5, h6, w1, c1, c2]
    by_cases h7 : g = 1
    · subst h7; simp
    · have h7' : ¬ (g : Int) = 1 := by omega
      simp [h7, h7']
  · simp [h1]
theorem iQOk_ok : callable Try.prog 34 = true := by kernel_rfl

/-- A list of fractions as the program gets it. -/
structure QL where
  l : List (Int × Int)
def eQL (l : List (Int × Int)) : D := .sl 2 (l.map fun p => eQ p.1 p.2)
def qlE (p : QL) : List D := [eQL p.l]
theorem eQ_inj {a b c d : Int} (h : eQ a b = eQ c d) : a = c ∧ b = d := by
  simp only [eQ, D.agg.injEq, List.cons.injEq, and_true] at h
  exact ⟨i64D_inj h.1, i64D_inj h.2⟩
theorem eQL_inj : ∀ {a b : List (Int × Int)}, eQL a = eQL b → a = b
  | [], [], _ => rfl
  | x :: a, y :: b, h => by
    simp only [eQL, D.sl.injEq, List.map_cons, List.cons.injEq, true_and] at h
    obtain ⟨h1, h2⟩ := eQ_inj h.1
    have h3 : eQL a = eQL b := by unfold eQL; rw [h.2]
    rw [eQL_inj h3]
    congr 1
    exact Prod.ext h1 h2
  | [], _ :: _, h => by simp [eQL] at h
  | _ :: _, [], h => by simp [eQL] at h
theorem qlE_inj (p q : QL) (h : qlE p = qlE q) : p = q := by
  obtain ⟨a⟩ := p; obtain ⟨b⟩ := q
  simp only [qlE, List.cons.injEq, and_true] at h
  rw [eQL_inj h]
def I64p (p : Int × Int) : Prop := I64 p.1 ∧ I64 p.2
noncomputable def allQC := ctD qlE (fun p => p.l.length < 4611686018427387904 ∧ ∀ q ∈ p.l, I64p q) (fun p => [boolD (p.l.all fun q => decide (qOk q.1 q.2))])
theorem allQC_at (l : List (Int × Int)) : allQC [eQL l] = ((l.length < 4611686018427387904 ∧ ∀ q ∈ l, I64p q), [boolD (l.all fun q => decide (qOk q.1 q.2))]) := ctD_at qlE_inj ⟨l⟩
noncomputable def allQTb : List (FuncId × Ct) := [(34, .data qokC)]
theorem allQTb_ok : TbOK N Try.prog (tbl allQTb) := tbl_cons (c := .data qokC) iQOk_spec iQOk_ok tbl_nil

@[simp] theorem allQTb1 : tbl allQTb 34 = some (.data qokC) := rfl
@[simp] theorem eQ_size (n d : Int) : (eQ n d).size = 2 := rfl
@[simp] theorem eQ_agg (n d : Int) : (eQ n d).isAgg = true := rfl
@[simp] theorem eQ_lit (n d : Int) : (eQ n d).isLit = false := rfl
def allQS (l : List (Int × Int)) (k : Nat) : St := ⟨[.any, .any, .any, .any, .any, .dat (eQL l), .dat (.lit (.int .i64 l.length)), .dat (.lit (.int .i64 k)), .any, .any, .any, .any, .any, .any, .any], [none, none, none, none, none, none, none, none, none, none, none, none, none, none, none]⟩
theorem all_drop {α : Type} (f : α → Bool) (l : List α) (k : Nat) (x : α) (h : l[k]? = some x) (hb : ∀ y ∈ l.take k, f y = true) : (f x = false → l.all f = false) ∧ (f x = true → ∀ y ∈ l.take (k + 1), f y = true) := by
  constructor
  · intro hx
    rw [List.all_eq_false]
    exact ⟨x, List.mem_of_getElem? h, by rw [hx]; simp⟩
  · intro hx y hy
    rw [take_succ l k x h] at hy
    rcases List.mem_append.1 hy with hy | hy
    · exact hb y hy
    · simp at hy; rw [hy]; exact hx
theorem allQ_spec : SpecD N Try.prog 32 allQC := by
  refine rdD (mf := fun f => false) allQTb_ok (fn := Try.f32) (by kernel_rfl) rfl (by kernel_rfl) ?_
  rintro ⟨l⟩ ⟨hl, hb⟩
  have hl : l.length < 4611686018427387904 := hl
  have hb : ∀ q ∈ l, I64p q := hb
  refine ⟨by show 1 ≤ 15; decide, ?_⟩
  simp only [qlE, boolD, Try.f32]
  generalize hr : (l.all fun q => decide (qOk q.1 q.2)) = r
  simp [eQL]
  refine loop_go (fun n st => ∃ k, n = l.length - k ∧ k ≤ l.length ∧ (∀ y ∈ l.take k, decide (qOk y.1 y.2) = true) ∧ st = allQS l k) (s0 := allQS l 0) (n := l.length) (snd_of (by simp [LeT, allQS, eQL]) (by simp [allQS])) ⟨0, rfl, Nat.zero_le _, by simp, rfl⟩ ?_
  rintro n st ⟨k, hn, hk, hall, rfl⟩ KN hN
  by_cases h : k < l.length
  · have hx := List.getElem?_eq_getElem h
    obtain ⟨⟨n0, d0⟩, hq⟩ : ∃ q, q = l[k] := ⟨_, rfl⟩
    rw [← hq] at hx
    have e1 : ix (l.map fun p => eQ p.1 p.2) k = some (eQ n0 d0) := by
      unfold ix
      rw [List.getElem?_map, hx]; rfl
    obtain ⟨i1, i2⟩ := hb (n0, d0) (List.mem_of_getElem? hx)
    have c1 := qokC_at n0 d0
    have i1 : I64 n0 := i1
    have i2 : I64 d0 := i2
    simp only [i1, i2, and_self, boolD] at c1
    obtain ⟨a1, a2⟩ := all_drop (fun q => decide (qOk q.1 q.2)) l k (n0, d0) hx hall
    have w1 : IntKind.i64.wrap ((k : Int) + 1) = (k : Int) + 1 := i64_id _ (by omega) (by omega)
    by_cases hok : qOk n0 d0
    · have a2 := a2 (by simp [hok])
      simp only [hok, decide_true] at c1
      simp [allQS, eQL, h, e1, c1, w1]
      exact hN _ (nx (m := l.length - (k + 1)) (s'' := allQS l (k + 1)) (snd_obs (n := 15) [] rfl (by simp) (by simp [allQS, eQL])) ⟨k + 1, rfl, h, a2, rfl⟩ (by omega))
    · have a1 := a1 (by simp [hok])
      rw [hr] at a1
      subst a1
      simp only [hok, decide_false] at c1
      simp [allQS, eQL, h, e1, c1, w1]
  · have hkl : k = l.length := by omega
    subst hkl
    rw [List.take_length] at hall
    have hrt : r = true := by rw [← hr, List.all_eq_true]; exact hall
    subst hrt
    simp [allQS, eQL]
theorem allQ_ok : callable Try.prog 32 = true := by kernel_rfl
end Go.Proofs.Ytdkgkcnllhcamaa.Ae

/-! The reference's fractions as opaque numbers: the contracts. No condition. -/
namespace Go.Proofs.Ytdkgkcnllhcamaa.Ae
open Go Go.RowKit Go.Proofs.Ytdkgkcnllhcamaa.Dig

theorem nn_z (z : Int) : ∀ k q, eZ z ≠ .num k q := fun k q h => by unfold eZ at h; cases h
theorem nn_i (z : Int) : ∀ k q, i64D z ≠ .num k q := fun k q h => by unfold i64D at h; cases h
theorem nn_q (a b : Int) : ∀ k q, eQ a b ≠ .num k q := fun k q h => by unfold eQ at h; cases h
theorem nn_b (b : Bool) : ∀ k q, boolD b ≠ .num k q := fun k q h => by unfold boolD at h; cases h

noncomputable def nAddC := ctD f2E (fun p => qsz p.a + qsz p.b < MX) (fun p => [nD (p.a + p.b)])
theorem nAddC_at (a b : Rat) : nAddC [nD a, nD b] = (qsz a + qsz b < MX, [nD (a + b)]) := ctD_at f2E_inj ⟨a, b⟩
noncomputable def nMulC := ctD f2E (fun p => qsz p.a + qsz p.b < MX) (fun p => [nD (p.a * p.b)])
theorem nMulC_at (a b : Rat) : nMulC [nD a, nD b] = (qsz a + qsz b < MX, [nD (a * b)]) := ctD_at f2E_inj ⟨a, b⟩
noncomputable def nSubC := ctD f2E (fun p => qsz p.a + qsz p.b < MX) (fun p => [nD (p.a - p.b)])
theorem nSubC_at (a b : Rat) : nSubC [nD a, nD b] = (qsz a + qsz b < MX, [nD (a - b)]) := ctD_at f2E_inj ⟨a, b⟩
noncomputable def nDivC := ctD f2E (fun p => qsz p.a + qsz p.b < MX ∧ p.b ≠ 0) (fun p => [nD (p.a / p.b)])
theorem nDivC_at (a b : Rat) : nDivC [nD a, nD b] = ((qsz a + qsz b < MX ∧ b ≠ 0), [nD (a / b)]) := ctD_at f2E_inj ⟨a, b⟩
noncomputable def nNegC := ctD f1E (fun p => True) (fun p => [nD (-p.a)])
theorem nNegC_at (a : Rat) : nNegC [nD a] = (True, [nD (-a)]) := ctD_at f1E_inj ⟨a⟩
noncomputable def nSignC := ctD f1E (fun p => True) (fun p => [i64D p.a.num.sign])
theorem nSignC_at (a : Rat) : nSignC [nD a] = (True, [i64D a.num.sign]) := ctD_at f1E_inj ⟨a⟩
noncomputable def nCmpC := ctD f2E (fun p => qsz p.a + qsz p.b < MX) (fun p => [i64D (qcmp p.a p.b)])
theorem nCmpC_at (a b : Rat) : nCmpC [nD a, nD b] = (qsz a + qsz b < MX, [i64D (qcmp a b)]) := ctD_at f2E_inj ⟨a, b⟩
noncomputable def nFloorC := ctD f1E (fun p => True) (fun p => [eZ p.a.floor])
theorem nFloorC_at (a : Rat) : nFloorC [nD a] = (True, [eZ a.floor]) := ctD_at f1E_inj ⟨a⟩
def d3 (r : Int × Int × Bool) : List D := [eQ r.1 r.2.1, boolD r.2.2]
noncomputable def nQC := ctD f1E (fun p => True) (fun p => d3 (oq p.a))
theorem nQC_at (a : Rat) : nQC [nD a] = (True, d3 (oq a)) := ctD_at f1E_inj ⟨a⟩
noncomputable def nWholeC := ctD zE (fun p => SZ p.a) (fun p => [nD (p.a : Rat)])
theorem nWholeC_at (a : Int) : nWholeC [eZ a] = (SZ a, [nD (a : Rat)]) := ctD_at zE_inj ⟨a⟩
theorem divInt_one (a : Int) : Rat.divInt a 1 = (a : Rat) := by rw [Rat.divInt_eq_div]; grind
noncomputable def nqC := ctD qE (fun p => I64 p.a ∧ I64 p.b ∧ 0 < p.b) (fun p => [nD (Rat.divInt p.a p.b)])
theorem nqC_at (a b : Int) : nqC [eQ a b] = ((I64 a ∧ I64 b ∧ 0 < b), [nD (Rat.divInt a b)]) := ctD_at qE_inj ⟨a, b⟩
noncomputable def nOfC := ctD iiE (fun p => I64 p.a ∧ I64 p.b ∧ 0 < p.b) (fun p => [nD (Rat.divInt p.a p.b)])
theorem nOfC_at (a b : Int) : nOfC [i64D a, i64D b] = ((I64 a ∧ I64 b ∧ 0 < b), [nD (Rat.divInt a b)]) := ctD_at iiE_inj ⟨a, b⟩
noncomputable def nBigC := ctD zzE (fun p => SZ p.a ∧ SZ p.b ∧ p.b ≠ 0) (fun p => [nD (Rat.divInt p.a p.b)])
theorem nBigC_at (a b : Int) : nBigC [eZ a, eZ b] = ((SZ a ∧ SZ b ∧ b ≠ 0), [nD (Rat.divInt a b)]) := ctD_at zzE_inj ⟨a, b⟩
theorem oQ_d3 (q : Rat) : oQ q = d3 (oq q) := by
  unfold oQ oq d3
  by_cases h : isQ q
  · rw [if_pos h, if_pos (show q.num.natAbs ≤ 1000000000000000000 ∧ q.den ≤ 1000000000000000000 from h)]
  · rw [if_neg h, if_neg (show ¬ (q.num.natAbs ≤ 1000000000000000000 ∧ q.den ≤ 1000000000000000000) from h)]
end Go.Proofs.Ytdkgkcnllhcamaa.Ae

/-! impl: QAdd, QSub, QMul, QDiv, QCmp, QFloor, QOf. No condition. -/
namespace Go.Proofs.Ytdkgkcnllhcamaa.Ae
open Go Go.RowKit Go.Proofs.Ytdkgkcnllhcamaa.Dig

structure Q4 where
  a : Int
  b : Int
  c : Int
  d : Int
def q4E (p : Q4) : List D := [eQ p.a p.b, eQ p.c p.d]
theorem q4E_inj (p q : Q4) (h : q4E p = q4E q) : p = q := by
  obtain ⟨a, b, c, d⟩ := p; obtain ⟨a', b', c', d'⟩ := q
  simp only [q4E, List.cons.injEq, and_true] at h
  obtain ⟨h1, h2⟩ := eQ_inj h.1
  obtain ⟨h3, h4⟩ := eQ_inj h.2
  simp only [h1, h2, h3, h4]
def I4 (p : Q4) : Prop := (I64 p.a ∧ I64 p.b) ∧ I64 p.c ∧ I64 p.d
def no3 : Int × Int × Bool := (0, 0, false)
def opR (ok : Prop) [Decidable ok] (F : Rat → Rat → Rat) (p : Q4) : Int × Int × Bool := if ok then oq (F (Rat.divInt p.a p.b) (Rat.divInt p.c p.d)) else no3
theorem opR_y {ok : Prop} [Decidable ok] {F : Rat → Rat → Rat} {p : Q4} (h : ok) : opR ok F p = oq (F (Rat.divInt p.a p.b) (Rat.divInt p.c p.d)) := if_pos h
theorem opR_n {ok : Prop} [Decidable ok] {F : Rat → Rat → Rat} {p : Q4} (h : ¬ ok) : opR ok F p = no3 := if_neg h
def ok2 (p : Q4) : Prop := qOk p.a p.b ∧ qOk p.c p.d
instance (p : Q4) : Decidable (ok2 p) := by unfold ok2; infer_instance
def okD (p : Q4) : Prop := ok2 p ∧ p.c ≠ 0
instance (p : Q4) : Decidable (okD p) := by unfold okD; infer_instance
def okF (p : Q4) : Prop := ok2 p ∧ 0 < p.c
instance (p : Q4) : Decidable (okF p) := by unfold okF; infer_instance
def flr (a b : Rat) : Rat := ((a / b).floor : Rat) * b
noncomputable def qaddC := ctD q4E I4 (fun p => d3 (opR (ok2 p) (· + ·) p))
noncomputable def qsubC := ctD q4E I4 (fun p => d3 (opR (ok2 p) (· - ·) p))
noncomputable def qmulC := ctD q4E I4 (fun p => d3 (opR (ok2 p) (· * ·) p))
noncomputable def qdivC := ctD q4E I4 (fun p => d3 (opR (okD p) (· / ·) p))
noncomputable def qflrC := ctD q4E I4 (fun p => d3 (opR (okF p) flr p))
noncomputable def qcmpC := ctD q4E I4 (fun p => [i64D (if ok2 p then qcmp (Rat.divInt p.a p.b) (Rat.divInt p.c p.d) else 2)])
noncomputable def qofC := ctD iiE (fun p => I64 p.a ∧ I64 p.b) (fun p => d3 (if p.b = 0 then no3 else oq (Rat.divInt p.a p.b)))
theorem qaddC_at (a b c d : Int) : qaddC [eQ a b, eQ c d] = (I4 ⟨a, b, c, d⟩, d3 (opR (ok2 ⟨a, b, c, d⟩) (· + ·) ⟨a, b, c, d⟩)) := ctD_at q4E_inj ⟨a, b, c, d⟩
theorem qsubC_at (a b c d : Int) : qsubC [eQ a b, eQ c d] = (I4 ⟨a, b, c, d⟩, d3 (opR (ok2 ⟨a, b, c, d⟩) (· - ·) ⟨a, b, c, d⟩)) := ctD_at q4E_inj ⟨a, b, c, d⟩
theorem qmulC_at (a b c d : Int) : qmulC [eQ a b, eQ c d] = (I4 ⟨a, b, c, d⟩, d3 (opR (ok2 ⟨a, b, c, d⟩) (· * ·) ⟨a, b, c, d⟩)) := ctD_at q4E_inj ⟨a, b, c, d⟩
theorem qdivC_at (a b c d : Int) : qdivC [eQ a b, eQ c d] = (I4 ⟨a, b, c, d⟩, d3 (opR (okD ⟨a, b, c, d⟩) (· / ·) ⟨a, b, c, d⟩)) := ctD_at q4E_inj ⟨a, b, c, d⟩
theorem qflrC_at (a b c d : Int) : qflrC [eQ a b, eQ c d] = (I4 ⟨a, b, c, d⟩, d3 (opR (okF ⟨a, b, c, d⟩) flr ⟨a, b, c, d⟩)) := ctD_at q4E_inj ⟨a, b, c, d⟩
theorem qcmpC_at (a b c d : Int) : qcmpC [eQ a b, eQ c d] = (I4 ⟨a, b, c, d⟩, [i64D (if ok2 ⟨a, b, c, d⟩ then qcmp (Rat.divInt a b) (Rat.divInt c d) else 2)]) := ctD_at q4E_inj ⟨a, b, c, d⟩
theorem qofC_at (a b : Int) : qofC [i64D a, i64D b] = ((I64 a ∧ I64 b), d3 (if b = 0 then no3 else oq (Rat.divInt a b))) := ctD_at iiE_inj ⟨a, b⟩
theorem d3_no : d3 no3 = [eQ 0 0, boolD false] := rfl
theorem QI_qsz {n d : Int} (h : QI n d) : qsz (Rat.divInt n d) ≤ 2 := smallQ_qsz (QI_small h)
theorem QI_ne {n d : Int} (h : QI n d) (h0 : n ≠ 0) : Rat.divInt n d ≠ 0 := fun e => by
  have := (QI_num h).1
  rw [e] at this
  exact h0 this.symm
theorem ln_floor (q : Rat) : ln q.floor.natAbs ≤ qsz q := by
  rw [Rat.floor_def]
  exact Nat.le_trans (ln_mono (natAbs_ediv_le _ _)) (qsz_num q)
theorem qsz_floor (q : Rat) : qsz (q.floor : Rat) ≤ qsz q := by
  rw [qsz_int]
  have h1 := ln_floor q
  have h2 := qsz_pos q
  omega
theorem allQ2 (a b c d : Int) (h : I4 ⟨a, b, c, d⟩) : allQC [.sl 2 [eQ a b, eQ c d]] = (True, [boolD (decide (ok2 ⟨a, b, c, d⟩))]) := by
  have h1 := allQC_at [(a, b), (c, d)]
  have h2 : ([(a, b), (c, d)] : List (Int × Int)).length < 4611686018427387904 ∧ ∀ q ∈ [(a, b), (c, d)], I64p q := by
    refine ⟨by simp, ?_⟩
    intro q hq
    simp at hq
    rcases hq with rfl | rfl
    · exact h.1
    · exact h.2
  have h3 : (([(a, b), (c, d)] : List (Int × Int)).all fun q => decide (qOk q.1 q.2)) = decide (ok2 ⟨a, b, c, d⟩) := by
    by_cases h1 : qOk a b <;> by_cases h2 : qOk c d <;> simp [ok2, h1, h2]
  rw [h3, eq_true h2] at h1
  exact h1
@[simp] theorem nav_eQ0 (n d : Int) : nav (eQ n d) [0] = some (.lit (.int .i64 n), 0) := rfl
@[simp] theorem nav_eQ1 (n d : Int) : nav (eQ n d) [1] = some (.lit (.int .i64 d), 1) := rfl
theorem eQ00 : eQ 0 0 = .agg [.lit (.int .i64 0), .lit (.int .i64 0)] := rfl

noncomputable def pqTb : List (FuncId × Ct) := [(32, .data allQC), (31, .data rqC)]
theorem pqTb_ok {N : NR} : TbOK N Try.prog (tbl pqTb) := tbl_cons (c := .data allQC) allQ_spec allQ_ok (tbl_cons (c := .data rqC) rq_spec rq_ok tbl_nil)

@[simp] theorem pqTb1 : tbl pqTb 32 = some (.data allQC) := rfl
@[simp] theorem pqTb2 : tbl pqTb 31 = some (.data rqC) := rfl
def pqMf : FuncId → Bool := fun f => f == 99999999 || f == 99999999
attribute [simp] pqMf

end Go.Proofs.Ytdkgkcnllhcamaa.Ae

/-! spec: QOk, QAdd, QSub, QMul, QDiv, QCmp, QFloor, QOf. No condition. -/
namespace Go.Proofs.Ytdkgkcnllhcamaa.Ae
open Go Go.RowKit Go.Proofs.Ytdkgkcnllhcamaa.Dig

noncomputable def sokTb : List (FuncId × Ct) := [(29, .data absC), (28, .data gcdC)]
theorem sokTb_ok : TbOK NF Try.prog (tbl sokTb) := tbl_cons (c := .data absC) l1Abs_spec l1Abs_ok (tbl_cons (c := .data gcdC) l1Gcd_spec l1Gcd_ok tbl_nil)

@[simp] theorem sokTb1 : tbl sokTb 29 = some (.data absC) := rfl
@[simp] theorem sokTb2 : tbl sokTb 28 = some (.data gcdC) := rfl
theorem sQOk_spec : SpecD NF Try.prog 19 qokC := by
  refine rdD (mf := fun f => false) sokTb_ok (fn := Try.f19) (by kernel_rfl) rfl (by kernel_rfl) ?_
  rintro ⟨n, d⟩ ⟨hn, hd⟩
  have hn : I64 n := hn
  have hd : I64 d := hd
  refine ⟨of_decide_eq_true (by kernel_rfl), ?_⟩
  have c1 := absC_at n
  have c2 := gcdC_at n.natAbs d.natAbs
  unfold I64 at hd
  have h2 : n.natAbs < 18446744073709551616 := by unfold I64 at hn; omega
  have h3 : d.natAbs < 18446744073709551616 := by omega
  have e3 : Nat.gcd n.natAbs d.natAbs = Int.gcd n d := rfl
  simp only [hn, h2, h3, e3, and_self, u64D, i64D] at c1 c2
  simp only [qE, i64D, Try.f19, boolD]
  have hw : ¬ d < 1 → IntKind.u64.wrap d = (d.natAbs : Int) := fun h => by rw [wrap_u64]; omega
  have e : decide (qOk n d) = (!(decide (d < 1)) && (!(decide (1000000000000000000 < d)) && (!(decide (n < -1000000000000000000)) && (!(decide (1000000000000000000 < n)) && decide (Int.gcd n d = 1))))) := by
    rw [← decide_not, ← decide_not, ← decide_not, ← decide_not, ← Bool.decide_and, ← Bool.decide_and, ← Bool.decide_and, ← Bool.decide_and]
    congr 1
    apply propext
    unfold qOk
    constructor
    · rintro ⟨⟨a, b⟩, ⟨c, e⟩, f⟩; exact ⟨by omega, by omega, by omega, by omega, f⟩
    · rintro ⟨a, b, c, e, f⟩; exact ⟨⟨by omega, by omega⟩, ⟨by omega, by omega⟩, f⟩
  rw [e]
  clear e e3
  generalize Int.gcd n d = g at *
  by_cases h1 : d < 1
  · simp [h1]
  · have w1 := hw h1
    by_cases h4 : 1000000000000000000 < d <;> by_cases h5 : n < -1000000000000000000 <;> by_cases h6 : 1000000000000000000 < n <;> simp [h1, h4, h5, h6, w1, c1, c2]
    by_cases h7 : g = 1
    · subst h7; simp
    · have h7' : ¬ (g : Int) = 1 := by omega
      simp [h7, h7']
theorem sQOk_ok : callable Try.prog 19 = true := by kernel_rfl

noncomputable def sqTbl : List (FuncId × Ct) := [(19, .data qokC)]
theorem sqTbl_ok : TbOK NF Try.prog (tbl sqTbl) := tbl_cons (c := .data qokC) sQOk_spec sQOk_ok tbl_nil

@[simp] theorem sqTbl1 : tbl sqTbl 19 = some (.data qokC) := rfl
theorem okC1 {a b c d : Int} (h : I4 ⟨a, b, c, d⟩) : (qokC [eQ a b] = (True, [.lit (.bool (decide (qOk a b)))])) ∧ qokC [eQ c d] = (True, [.lit (.bool (decide (qOk c d)))]) := by
  have c1 := qokC_at a b
  have c2 := qokC_at c d
  obtain ⟨⟨h1, h2⟩, h3, h4⟩ := h
  have h1 : I64 a := h1
  have h2 : I64 b := h2
  have h3 : I64 c := h3
  have h4 : I64 d := h4
  simp only [h1, h2, h3, h4, and_self, boolD] at c1 c2
  exact ⟨c1, c2⟩
theorem qOk_64 {n d : Int} (h : qOk n d) : I64 n ∧ I64 d ∧ 0 < d := by unfold qOk at h; unfold I64; omega

end Go.Proofs.Ytdkgkcnllhcamaa.Ae

/-! The laws on fractions: each law's function returns true. No condition. -/
namespace Go.Proofs.Ytdkgkcnllhcamaa.Ae
open Go Go.RowKit Go.Proofs.Ytdkgkcnllhcamaa.Dig

/-- A law's call, out of its contract. -/
theorem law_calls {f : FuncId} {g : List D → Prop × List D} (h : SpecD NF Try.prog f g) {ds : List D} (hp : (g ds).1) (hr : (g ds).2 = [boolD true]) {vs : List Value} {w : World} (hrep : RepVs NF (fun _ => False) w ds vs) :
    Calls Try.prog f vs.toArray w fun e w' => e = .returned (.bool true) ∧ Below w.heap.size w w' := by
  refine (h ds hp (fun _ => False) w vs (fun k hk => hk.elim) hrep).mono fun e w' ⟨v, he, hv, hfr⟩ => ?_
  rw [hr] at hv
  have hv : RepV NF _ w' (.lit (.bool true)) v := hv
  obtain ⟨rfl, _⟩ := RepV.lit hv
  exact ⟨he, ⟨hfr.os, hfr.tape, hfr.output, hfr.size, fun k hk => hfr.block k hk (fun h => h)⟩⟩
theorem repV_flat {N : NR} {F : Nat → Prop} {w : World} {d : D} {cs : List Value} (h : flatD d = some cs) (h1 : ∀ v ∈ cs, v.oneCell' = true) (ha : d.isAgg = true) : RepV N F w d (.agg cs.toArray) :=
  ⟨cs, flatD_rep d cs h h1, by unfold mkV; rw [ha]; rfl⟩
theorem repVs_nil {N : NR} {F : Nat → Prop} {w : World} : RepVs N F w [] [] := ⟨rfl, fun i d v h => by simp at h⟩
theorem repVs_cons {N : NR} {F : Nat → Prop} {w : World} {d : D} {v : Value} {ds : List D} {vs : List Value} (h : RepV N F w d v) (hs : RepVs N F w ds vs) : RepVs N F w (d :: ds) (v :: vs) :=
  ⟨by simp only [List.length_cons]; rw [hs.1], fun i e u h1 h2 => by
    cases i with
    | zero =>
      simp only [List.getElem?_cons_zero, Option.some.injEq] at h1 h2
      subst h1 h2
      exact h
    | succ i => exact hs.2 i e u (by simpa using h1) (by simpa using h2)⟩
theorem rep_q {N : NR} {F : Nat → Prop} {w : World} (a b : Int) : RepV N F w (eQ a b) (.agg #[.int .i64 a, .int .i64 b]) := repV_flat (cs := [.int .i64 a, .int .i64 b]) rfl (fun v hv => by simp at hv; rcases hv with rfl | rfl <;> rfl) rfl
theorem rep_i {N : NR} {F : Nat → Prop} {w : World} (a : Int) : RepV N F w (i64D a) (.int .i64 a) := RepV.of_lit rfl
theorem wf64 {a : Int} (h : (Lit.int .i64 a).wf = true) : I64 a := bounds_i64 h

noncomputable def toQC := ctD qE (fun _ => True) (fun p => [eQ p.a p.b])
theorem toQC_at (a b : Int) : toQC [eQ a b] = (True, [eQ a b]) := ctD_at qE_inj ⟨a, b⟩
theorem toQ_spec {N : NR} : SpecD N Try.prog 30 toQC := by
  refine rdD (mf := fun f => false) tbl_nil (fn := Try.f30) (by kernel_rfl) rfl (by kernel_rfl) ?_
  rintro ⟨a, b⟩ _
  refine ⟨of_decide_eq_true (by kernel_rfl), ?_⟩
  simp only [qE, Try.f30]
  simp [eQ, i64D]
theorem toQ_ok : callable Try.prog 30 = true := by kernel_rfl
noncomputable def eqQC := ctD q4E (fun _ => True) (fun p => [boolD (decide (p.a = p.c) && decide (p.b = p.d))])
theorem eqQC_at (a b c d : Int) : eqQC [eQ a b, eQ c d] = (True, [boolD (decide (a = c) && decide (b = d))]) := ctD_at q4E_inj ⟨a, b, c, d⟩
theorem eqQ_spec {N : NR} : SpecD N Try.prog 33 eqQC := by
  refine rdD (mf := fun f => false) tbl_nil (fn := Try.f33) (by kernel_rfl) rfl (by kernel_rfl) ?_
  rintro ⟨a, b, c, d⟩ _
  refine ⟨of_decide_eq_true (by kernel_rfl), ?_⟩
  simp only [q4E, Try.f33, boolD]
  by_cases h1 : a = c <;> by_cases h2 : b = d <;> simp [h1, h2]
theorem eqQ_ok : callable Try.prog 33 = true := by kernel_rfl
theorem eqQ_self (r : Int × Int × Bool) : eqQC [eQ r.1 r.2.1, eQ r.1 r.2.1] = (True, [.lit (.bool true)]) := by
  rw [eqQC_at]; simp [boolD]

noncomputable def lwQAddTb : List (FuncId × Ct) := [(30, .data toQC), (33, .data eqQC)]
theorem lwQAddTb_ok : TbOK NF Try.prog (tbl lwQAddTb) := tbl_cons (c := .data toQC) toQ_spec toQ_ok (tbl_cons (c := .data eqQC) eqQ_spec eqQ_ok tbl_nil)

@[simp] theorem lwQAddTb1 : tbl lwQAddTb 30 = some (.data toQC) := rfl
@[simp] theorem lwQAddTb2 : tbl lwQAddTb 33 = some (.data eqQC) := rfl
noncomputable def lwQAddC := ctD q4E I4 (fun _ => [boolD true])
noncomputable def lwQSubTb : List (FuncId × Ct) := [(30, .data toQC), (33, .data eqQC)]
theorem lwQSubTb_ok : TbOK NF Try.prog (tbl lwQSubTb) := tbl_cons (c := .data toQC) toQ_spec toQ_ok (tbl_cons (c := .data eqQC) eqQ_spec eqQ_ok tbl_nil)

@[simp] theorem lwQSubTb1 : tbl lwQSubTb 30 = some (.data toQC) := rfl
@[simp] theorem lwQSubTb2 : tbl lwQSubTb 33 = some (.data eqQC) := rfl
noncomputable def lwQSubC := ctD q4E I4 (fun _ => [boolD true])
noncomputable def lwQMulTb : List (FuncId × Ct) := [(30, .data toQC), (33, .data eqQC)]
theorem lwQMulTb_ok : TbOK NF Try.prog (tbl lwQMulTb) := tbl_cons (c := .data toQC) toQ_spec toQ_ok (tbl_cons (c := .data eqQC) eqQ_spec eqQ_ok tbl_nil)

@[simp] theorem lwQMulTb1 : tbl lwQMulTb 30 = some (.data toQC) := rfl
@[simp] theorem lwQMulTb2 : tbl lwQMulTb 33 = some (.data eqQC) := rfl
noncomputable def lwQMulC := ctD q4E I4 (fun _ => [boolD true])
noncomputable def lwQDivTb : List (FuncId × Ct) := [(30, .data toQC), (33, .data eqQC)]
theorem lwQDivTb_ok : TbOK NF Try.prog (tbl lwQDivTb) := tbl_cons (c := .data toQC) toQ_spec toQ_ok (tbl_cons (c := .data eqQC) eqQ_spec eqQ_ok tbl_nil)

@[simp] theorem lwQDivTb1 : tbl lwQDivTb 30 = some (.data toQC) := rfl
@[simp] theorem lwQDivTb2 : tbl lwQDivTb 33 = some (.data eqQC) := rfl
noncomputable def lwQDivC := ctD q4E I4 (fun _ => [boolD true])
noncomputable def lwQFloorTb : List (FuncId × Ct) := [(30, .data toQC), (33, .data eqQC)]
theorem lwQFloorTb_ok : TbOK NF Try.prog (tbl lwQFloorTb) := tbl_cons (c := .data toQC) toQ_spec toQ_ok (tbl_cons (c := .data eqQC) eqQ_spec eqQ_ok tbl_nil)

@[simp] theorem lwQFloorTb1 : tbl lwQFloorTb 30 = some (.data toQC) := rfl
@[simp] theorem lwQFloorTb2 : tbl lwQFloorTb 33 = some (.data eqQC) := rfl
noncomputable def lwQFloorC := ctD q4E I4 (fun _ => [boolD true])
noncomputable def lwQCmpTb : List (FuncId × Ct) := [(30, .data toQC), (33, .data eqQC)]
theorem lwQCmpTb_ok : TbOK NF Try.prog (tbl lwQCmpTb) := tbl_cons (c := .data toQC) toQ_spec toQ_ok (tbl_cons (c := .data eqQC) eqQ_spec eqQ_ok tbl_nil)

@[simp] theorem lwQCmpTb1 : tbl lwQCmpTb 30 = some (.data toQC) := rfl
@[simp] theorem lwQCmpTb2 : tbl lwQCmpTb 33 = some (.data eqQC) := rfl
noncomputable def lwQCmpC := ctD q4E I4 (fun _ => [boolD true])
noncomputable def lwQOfTb : List (FuncId × Ct) := [(30, .data toQC), (33, .data eqQC)]
theorem lwQOfTb_ok : TbOK NF Try.prog (tbl lwQOfTb) := tbl_cons (c := .data toQC) toQ_spec toQ_ok (tbl_cons (c := .data eqQC) eqQ_spec eqQ_ok tbl_nil)

@[simp] theorem lwQOfTb1 : tbl lwQOfTb 30 = some (.data toQC) := rfl
@[simp] theorem lwQOfTb2 : tbl lwQOfTb 33 = some (.data eqQC) := rfl
noncomputable def lwQOfC := ctD iiE (fun p => I64 p.a ∧ I64 p.b) (fun _ => [boolD true])
end Go.Proofs.Ytdkgkcnllhcamaa.Ae

/-! Contracts over several inputs; what a call of the fractions' functions asks and gives, as steps for simp. No condition. -/
namespace Go.Proofs.Ytdkgkcnllhcamaa.Ae
open Go Go.RowKit Go.Proofs.Ytdkgkcnllhcamaa.Dig

/-- A kind of input, as data. -/
structure Enc (α : Type) where
  e : α → D
  inj : ∀ a b, e a = e b → a = b
def ERat : Enc Rat := ⟨eRat, fun _ _ => eRat_inj⟩
def ENum : Enc Rat := ⟨nD, fun _ _ => nD_inj⟩
def EInt : Enc Int := ⟨i64D, fun _ _ => i64D_inj⟩
def EZ : Enc Int := ⟨eZ, fun _ _ => eZ_inj⟩
theorem boolD_inj {a b : Bool} (h : boolD a = boolD b) : a = b := by unfold boolD at h; injection h with h; injection h
def EBool : Enc Bool := ⟨boolD, fun _ _ => boolD_inj⟩
def EQ : Enc (Int × Int) := ⟨fun p => eQ p.1 p.2, fun _ _ h => Prod.ext (eQ_inj h).1 (eQ_inj h).2⟩
/-- A struct of two parts. -/
def Enc.pair {α β : Type} (A : Enc α) (B : Enc β) : Enc (α × β) := ⟨fun p => .agg [A.e p.1, B.e p.2], fun p q h => by
  simp only [D.agg.injEq, List.cons.injEq, and_true] at h
  exact Prod.ext (A.inj _ _ h.1) (B.inj _ _ h.2)⟩
def Enc.trip {α β γ : Type} (A : Enc α) (B : Enc β) (C : Enc γ) : Enc (α × β × γ) := ⟨fun p => .agg [A.e p.1, B.e p.2.1, C.e p.2.2], fun p q h => by
  simp only [D.agg.injEq, List.cons.injEq, and_true] at h
  exact Prod.ext (A.inj _ _ h.1) (Prod.ext (B.inj _ _ h.2.1) (C.inj _ _ h.2.2))⟩
theorem map_inj {α : Type} (E : Enc α) : ∀ {a b : List α}, a.map E.e = b.map E.e → a = b
  | [], [], _ => rfl
  | x :: a, y :: b, h => by
    simp only [List.map_cons, List.cons.injEq] at h
    rw [E.inj _ _ h.1, map_inj E h.2]
  | [], _ :: _, h => by simp at h
  | _ :: _, [], h => by simp at h
/-- A slice. -/
def Enc.list {α : Type} (sz : Nat) (E : Enc α) : Enc (List α) := ⟨fun l => .sl sz (l.map E.e), fun a b h => by
  injection h with _ h; exact map_inj E h⟩
noncomputable def ct1 {α : Type} (A : Enc α) (pre : α → Prop) (post : α → List D) := ctD (fun a => [A.e a]) pre post
theorem ct1_at {α : Type} {A : Enc α} {pre : α → Prop} {post : α → List D} (a : α) : ct1 A pre post [A.e a] = (pre a, post a) :=
  ctD_at (e := fun a => [A.e a]) (fun a b h => by simp only [List.cons.injEq, and_true] at h; exact A.inj _ _ h) a
noncomputable def ct2 {α β : Type} (A : Enc α) (B : Enc β) (pre : α → β → Prop) (post : α → β → List D) := ctD (fun p : α × β => [A.e p.1, B.e p.2]) (fun p => pre p.1 p.2) (fun p => post p.1 p.2)
theorem ct2_at {α β : Type} {A : Enc α} {B : Enc β} {pre : α → β → Prop} {post : α → β → List D} (a : α) (b : β) : ct2 A B pre post [A.e a, B.e b] = (pre a b, post a b) :=
  ctD_at (e := fun p : α × β => [A.e p.1, B.e p.2]) (fun p q h => by simp only [List.cons.injEq, and_true] at h; exact Prod.ext (A.inj _ _ h.1) (B.inj _ _ h.2)) (a, b)
noncomputable def ct3 {α β γ : Type} (A : Enc α) (B : Enc β) (C : Enc γ) (pre : α → β → γ → Prop) (post : α → β → γ → List D) := ctD (fun p : α × β × γ => [A.e p.1, B.e p.2.1, C.e p.2.2]) (fun p => pre p.1 p.2.1 p.2.2) (fun p => post p.1 p.2.1 p.2.2)
theorem ct3_at {α β γ : Type} {A : Enc α} {B : Enc β} {C : Enc γ} {pre : α → β → γ → Prop} {post : α → β → γ → List D} (a : α) (b : β) (c : γ) : ct3 A B C pre post [A.e a, B.e b, C.e c] = (pre a b c, post a b c) :=
  ctD_at (e := fun p : α × β × γ => [A.e p.1, B.e p.2.1, C.e p.2.2]) (fun p q h => by simp only [List.cons.injEq, and_true] at h; exact Prod.ext (A.inj _ _ h.1) (Prod.ext (B.inj _ _ h.2.1) (C.inj _ _ h.2.2))) (a, b, c)
noncomputable def ct4 {α β γ δ : Type} (A : Enc α) (B : Enc β) (C : Enc γ) (E : Enc δ) (pre : α → β → γ → δ → Prop) (post : α → β → γ → δ → List D) := ctD (fun p : α × β × γ × δ => [A.e p.1, B.e p.2.1, C.e p.2.2.1, E.e p.2.2.2]) (fun p => pre p.1 p.2.1 p.2.2.1 p.2.2.2) (fun p => post p.1 p.2.1 p.2.2.1 p.2.2.2)
theorem ct4_at {α β γ δ : Type} {A : Enc α} {B : Enc β} {C : Enc γ} {E : Enc δ} {pre : α → β → γ → δ → Prop} {post : α → β → γ → δ → List D} (a : α) (b : β) (c : γ) (d : δ) : ct4 A B C E pre post [A.e a, B.e b, C.e c, E.e d] = (pre a b c d, post a b c d) :=
  ctD_at (e := fun p : α × β × γ × δ => [A.e p.1, B.e p.2.1, C.e p.2.2.1, E.e p.2.2.2]) (fun p q h => by simp only [List.cons.injEq, and_true] at h; exact Prod.ext (A.inj _ _ h.1) (Prod.ext (B.inj _ _ h.2.1) (Prod.ext (C.inj _ _ h.2.2.1) (E.inj _ _ h.2.2.2)))) (a, b, c, d)
/-- A function's contract, out of its reading. -/
theorem rd1 {N : NR} {α : Type} {A : Enc α} {pre : α → Prop} {post : α → List D} {f : FuncId} {fn : Func} {c : Code} {mf : FuncId → Bool} {tb : FuncId → Option Ct} (htb : TbOK N Try.prog tb) (hf : Try.prog.funcs[f]? = some fn) (hb : fn.body = some c) (hd : drawAll mf c = true) (hl : Nat.ble 1 fn.ntmps = true)
    (h : ∀ a, pre a → awp Try.prog mf tb c (start fn.ntmps ([A.e a].map .dat) []) (endK Try.prog fn.ntmps fn.results.toList ((post a).map .dat) [])) : SpecD N Try.prog f (ct1 A pre post) :=
  rdD htb hf hb hd (fun a ha => ⟨Nat.le_of_ble_eq_true hl, h a ha⟩)
theorem rd2 {N : NR} {α β : Type} {A : Enc α} {B : Enc β} {pre : α → β → Prop} {post : α → β → List D} {f : FuncId} {fn : Func} {c : Code} {mf : FuncId → Bool} {tb : FuncId → Option Ct} (htb : TbOK N Try.prog tb) (hf : Try.prog.funcs[f]? = some fn) (hb : fn.body = some c) (hd : drawAll mf c = true) (hl : Nat.ble 2 fn.ntmps = true)
    (h : ∀ a b, pre a b → awp Try.prog mf tb c (start fn.ntmps ([A.e a, B.e b].map .dat) []) (endK Try.prog fn.ntmps fn.results.toList ((post a b).map .dat) [])) : SpecD N Try.prog f (ct2 A B pre post) :=
  rdD htb hf hb hd (fun p ha => ⟨Nat.le_of_ble_eq_true hl, h p.1 p.2 ha⟩)
theorem rd3 {N : NR} {α β γ : Type} {A : Enc α} {B : Enc β} {C : Enc γ} {pre : α → β → γ → Prop} {post : α → β → γ → List D} {f : FuncId} {fn : Func} {c : Code} {mf : FuncId → Bool} {tb : FuncId → Option Ct} (htb : TbOK N Try.prog tb) (hf : Try.prog.funcs[f]? = some fn) (hb : fn.body = some c) (hd : drawAll mf c = true) (hl : Nat.ble 3 fn.ntmps = true)
    (h : ∀ a b d, pre a b d → awp Try.prog mf tb c (start fn.ntmps ([A.e a, B.e b, C.e d].map .dat) []) (endK Try.prog fn.ntmps fn.results.toList ((post a b d).map .dat) [])) : SpecD N Try.prog f (ct3 A B C pre post) :=
  rdD htb hf hb hd (fun p ha => ⟨Nat.le_of_ble_eq_true hl, h p.1 p.2.1 p.2.2 ha⟩)
theorem rd4 {N : NR} {α β γ δ : Type} {A : Enc α} {B : Enc β} {C : Enc γ} {E : Enc δ} {pre : α → β → γ → δ → Prop} {post : α → β → γ → δ → List D} {f : FuncId} {fn : Func} {c : Code} {mf : FuncId → Bool} {tb : FuncId → Option Ct} (htb : TbOK N Try.prog tb) (hf : Try.prog.funcs[f]? = some fn) (hb : fn.body = some c) (hd : drawAll mf c = true) (hl : Nat.ble 4 fn.ntmps = true)
    (h : ∀ a b d g, pre a b d g → awp Try.prog mf tb c (start fn.ntmps ([A.e a, B.e b, C.e d, E.e g].map .dat) []) (endK Try.prog fn.ntmps fn.results.toList ((post a b d g).map .dat) [])) : SpecD N Try.prog f (ct4 A B C E pre post) :=
  rdD htb hf hb hd (fun p ha => ⟨Nat.le_of_ble_eq_true hl, h p.1 p.2.1 p.2.2.1 p.2.2.2 ha⟩)
/-- A table in which every entry is right. -/
structure Ok (N : NR) (p : FuncId × Ct) : Prop where
  ok : CtOK N Try.prog p.1 p.2
  ca : callable Try.prog p.1 = true
theorem tblAll {N : NR} : ∀ (l : List (FuncId × Ct)), (∀ p ∈ l, Ok N p) → TbOK N Try.prog (tbl l)
  | [], _ => tbl_nil
  | p :: l, h => tbl_cons (h p (by simp)).ok (h p (by simp)).ca (tblAll l (fun q hq => h q (by simp [hq])))
/-- Of moderate length, all together. -/
def LM : Nat := 1000000000
theorem MX_val : MX = 549755813888 := rfl
theorem LM_val : LM = 1000000000 := rfl
def EP : Enc (Rat × Rat) := ERat.pair ERat
def EPn : Enc (Rat × Rat) := ENum.pair ENum
def EV : Enc ((Int × Int) × Int × Int) := EQ.pair EQ
def vOk (v : (Int × Int) × Int × Int) : Prop := qOk v.1.1 v.1.2 ∧ qOk v.2.1 v.2.2
instance (v : (Int × Int) × Int × Int) : Decidable (vOk v) := by unfold vOk; infer_instance
/-- A place as fractions. -/
def vq (v : (Int × Int) × Int × Int) : Rat × Rat := (Rat.divInt v.1.1 v.1.2, Rat.divInt v.2.1 v.2.2)
def V64 (v : (Int × Int) × Int × Int) : Prop := (I64 v.1.1 ∧ I64 v.1.2) ∧ I64 v.2.1 ∧ I64 v.2.2
def psz (p : Rat × Rat) : Nat := qsz p.1 + qsz p.2
theorem vOk_sz {v : (Int × Int) × Int × Int} (h : vOk v) : qsz (Rat.divInt v.1.1 v.1.2) ≤ 2 ∧ qsz (Rat.divInt v.2.1 v.2.2) ≤ 2 := ⟨QI_qsz (qOk_QI h.1), QI_qsz (qOk_QI h.2)⟩
@[simp] theorem EP_e (x y : Rat) : EP.e (x, y) = .agg [eRat x, eRat y] := rfl
@[simp] theorem EPn_e (x y : Rat) : EPn.e (x, y) = .agg [nD x, nD y] := rfl
@[simp] theorem EV_e (a b c d : Int) : EV.e ((a, b), c, d) = .agg [eQ a b, eQ c d] := rfl
@[simp] theorem ERat_e (x : Rat) : ERat.e x = eRat x := rfl
@[simp] theorem ENum_e (x : Rat) : ENum.e x = nD x := rfl
@[simp] theorem EInt_e (x : Int) : EInt.e x = i64D x := rfl
@[simp] theorem EBool_e (x : Bool) : EBool.e x = boolD x := rfl
@[simp] theorem EQ_e (a b : Int) : EQ.e (a, b) = eQ a b := rfl
section
variable (a b : Rat) (n d : Int)
@[simp] theorem z_add : raddC [eRat a, eRat b] = (qsz a + qsz b < MX, [eRat (a + b)]) := raddC_at a b
@[simp] theorem z_sub : rsubC [eRat a, eRat b] = (qsz a + qsz b < MX, [eRat (a - b)]) := rsubC_at a b
@[simp] theorem z_mul : rmC [eRat a, eRat b] = (qsz a + qsz b < MX, [eRat (a * b)]) := rmC_at a b
@[simp] theorem z_div : rdvC [eRat a, eRat b] = ((qsz a + qsz b < MX ∧ b ≠ 0), [eRat (a / b)]) := rdvC_at a b
@[simp] theorem z_neg : rngC [eRat a] = (qsz a < MX, [eRat (-a)]) := rngC_at a
@[simp] theorem z_inv : rinvC [eRat a] = ((qsz a < MX ∧ a ≠ 0), [eRat a⁻¹]) := rinvC_at a
@[simp] theorem z_cmp : rcC [eRat a, eRat b] = (qsz a + qsz b < MX, [.lit (.int .i64 (qcmp a b))]) := rcC_at a b
@[simp] theorem z_sign : rsgC [eRat a] = (True, [.lit (.int .i64 a.num.sign)]) := rsgC_at a
@[simp] theorem z_q : rqqC [eRat a] = (True, [eQ (oq a).1 (oq a).2.1, .lit (.bool (oq a).2.2)]) := by rw [rqqC_at, oQ_d3]; rfl
@[simp] theorem z_rq : rqC [eQ n d] = (QI n d, [eRat (Rat.divInt n d)]) := rqC_at n d
@[simp] theorem z_ri : riC [.lit (.int .i64 n)] = (n.natAbs < 9223372036854775808, [eRat (n : Rat)]) := riC_at n
@[simp] theorem z_floor : rflC [eRat a] = (qsz a < MX, [.ptr (eZ a.floor)]) := rflC_at a
@[simp] theorem z_fromInt : fiC [.ptr (eZ n)] = (ln n.natAbs < MX, [eRat (n : Rat)]) := fiC_at n
@[simp] theorem n_add : nAddC [nD a, nD b] = (qsz a + qsz b < MX, [nD (a + b)]) := nAddC_at a b
@[simp] theorem n_sub : nSubC [nD a, nD b] = (qsz a + qsz b < MX, [nD (a - b)]) := nSubC_at a b
@[simp] theorem n_mul : nMulC [nD a, nD b] = (qsz a + qsz b < MX, [nD (a * b)]) := nMulC_at a b
@[simp] theorem n_div : nDivC [nD a, nD b] = ((qsz a + qsz b < MX ∧ b ≠ 0), [nD (a / b)]) := nDivC_at a b
@[simp] theorem n_neg : nNegC [nD a] = (True, [nD (-a)]) := nNegC_at a
@[simp] theorem n_cmp : nCmpC [nD a, nD b] = (qsz a + qsz b < MX, [.lit (.int .i64 (qcmp a b))]) := nCmpC_at a b
@[simp] theorem n_sign : nSignC [nD a] = (True, [.lit (.int .i64 a.num.sign)]) := nSignC_at a
@[simp] theorem n_q : nQC [nD a] = (True, [eQ (oq a).1 (oq a).2.1, .lit (.bool (oq a).2.2)]) := nQC_at a
@[simp] theorem n_lq : nqC [eQ n d] = ((I64 n ∧ I64 d ∧ 0 < d), [nD (Rat.divInt n d)]) := nqC_at n d
@[simp] theorem n_of : nOfC [.lit (.int .i64 n), .lit (.int .i64 d)] = ((I64 n ∧ I64 d ∧ 0 < d), [nD (Rat.divInt n d)]) := nOfC_at n d
@[simp] theorem n_floor : nFloorC [nD a] = (True, [eZ a.floor]) := nFloorC_at a
@[simp] theorem n_whole : nWholeC [eZ n] = (SZ n, [nD (n : Rat)]) := nWholeC_at n
@[simp] theorem n_big : nBigC [eZ n, eZ d] = ((SZ n ∧ SZ d ∧ d ≠ 0), [nD (Rat.divInt n d)]) := nBigC_at n d
@[simp] theorem n_zof : zOfC [.lit (.int .i64 n)] = (I64 n, [eZ n]) := zOfC_at n
@[simp] theorem n_zadd : zAddC [eZ n, eZ d] = ((SZ n ∧ SZ d), [eZ (n + d)]) := zAddC_at n d
@[simp] theorem z_ok : qokC [eQ n d] = ((I64 n ∧ I64 d), [.lit (.bool (decide (qOk n d)))]) := qokC_at n d
@[simp] theorem z_toQ : toQC [eQ n d] = (True, [eQ n d]) := toQC_at n d
end
theorem z_all2 (a b c d : Int) : allQC [.sl 2 [eQ a b, eQ c d]] = (((I64 a ∧ I64 b) ∧ I64 c ∧ I64 d), [.lit (.bool (decide (qOk a b) && decide (qOk c d)))]) := by
  have h1 := allQC_at [(a, b), (c, d)]
  have h2 : (([(a, b), (c, d)] : List (Int × Int)).length < 4611686018427387904 ∧ ∀ q ∈ [(a, b), (c, d)], I64p q) ↔ ((I64 a ∧ I64 b) ∧ I64 c ∧ I64 d) := by
    constructor
    · rintro ⟨_, h⟩
      exact ⟨h (a, b) (by simp), h (c, d) (by simp)⟩
    · rintro ⟨h1, h2⟩
      refine ⟨by simp, ?_⟩
      intro q hq
      simp at hq
      rcases hq with rfl | rfl
      · exact h1
      · exact h2
  rw [propext h2] at h1
  have h3 : (([(a, b), (c, d)] : List (Int × Int)).all fun q => decide (qOk q.1 q.2)) = (decide (qOk a b) && decide (qOk c d)) := by simp
  rw [h3] at h1
  exact h1
attribute [simp] z_all2
end Go.Proofs.Ytdkgkcnllhcamaa.Ae

/-! impl: places of the plane; VOk, pv, cmp, sub, cross, turn. No condition. -/
namespace Go.Proofs.Ytdkgkcnllhcamaa.Ae
open Go Go.RowKit Go.Proofs.Ytdkgkcnllhcamaa.Dig
def crossQ (a b c d : Rat) : Rat := a * d - b * c
def turnQ (a b c d e f : Rat) : Rat := crossQ (c - a) (d - b) (e - a) (f - b)
/-- How two places compare. -/
def pcmp (a b c d : Rat) : Int := if qcmp a c = 0 then qcmp b d else qcmp a c
theorem qcmp_bd (a b : Rat) : -1 ≤ qcmp a b ∧ qcmp a b ≤ 1 := sign_bd _
theorem pcmp_bd (a b c d : Rat) : -1 ≤ pcmp a b c d ∧ pcmp a b c d ≤ 1 := by unfold pcmp; split <;> exact qcmp_bd _ _
theorem sub_lit {x y : Int} (h : x = y) : Sub (.lit (.int .i64 x)) (.lit (.int .i64 y)) := by rw [h]; exact Sub.refl _

/-! i.VOk -/
noncomputable def iVOkC := ct1 EV (fun p0 => ((I64 p0.1.1 ∧ I64 p0.1.2) ∧ I64 p0.2.1 ∧ I64 p0.2.2)) (fun p0 => [.lit (.bool (decide (qOk p0.1.1 p0.1.2) && decide (qOk p0.2.1 p0.2.2)))])
@[simp] theorem iVOkC_at (a b c d : Int) : iVOkC [.agg [eQ a b, eQ c d]] = (((I64 a ∧ I64 b) ∧ I64 c ∧ I64 d), [.lit (.bool (decide (qOk a b) && decide (qOk c d)))]) := ct1_at ((a, b), c, d)
noncomputable def iVOkTb : List (FuncId × Ct) := [(32, .data allQC)]
theorem iVOkTb_ok {N : NR} : TbOK N Try.prog (tbl iVOkTb) := tbl_cons (c := .data allQC) allQ_spec allQ_ok tbl_nil

@[simp] theorem iVOkTb1 : tbl iVOkTb 32 = some (.data allQC) := rfl
/-! i.pv -/
noncomputable def pvC := ct1 EV (fun p0 => QI p0.1.1 p0.1.2 ∧ QI p0.2.1 p0.2.2) (fun p0 => [.agg [eRat (Rat.divInt p0.1.1 p0.1.2), eRat (Rat.divInt p0.2.1 p0.2.2)]])
@[simp] theorem pvC_at (a b c d : Int) : pvC [.agg [eQ a b, eQ c d]] = (QI a b ∧ QI c d, [.agg [eRat (Rat.divInt a b), eRat (Rat.divInt c d)]]) := ct1_at ((a, b), c, d)
noncomputable def pvTb : List (FuncId × Ct) := [(31, .data rqC)]
theorem pvTb_ok {N : NR} : TbOK N Try.prog (tbl pvTb) := tbl_cons (c := .data rqC) rq_spec rq_ok tbl_nil

@[simp] theorem pvTb1 : tbl pvTb 31 = some (.data rqC) := rfl
/-! (i.pt).cmp -/
noncomputable def ptcmpC := ct2 EP EP (fun p0 p1 => qsz p0.1 + qsz p0.2 + qsz p1.1 + qsz p1.2 < LM) (fun p0 p1 => [.lit (.int .i64 (pcmp p0.1 p0.2 p1.1 p1.2))])
@[simp] theorem ptcmpC_at (a b : Rat) (c d : Rat) : ptcmpC [.agg [eRat a, eRat b], .agg [eRat c, eRat d]] = (qsz a + qsz b + qsz c + qsz d < LM, [.lit (.int .i64 (pcmp a b c d))]) := ct2_at (a, b) (c, d)
/-! (i.pt).sub -/
noncomputable def ptsubC := ct2 EP EP (fun p0 p1 => qsz p0.1 + qsz p0.2 + qsz p1.1 + qsz p1.2 < LM) (fun p0 p1 => [.agg [eRat (p0.1 - p1.1), eRat (p0.2 - p1.2)]])
@[simp] theorem ptsubC_at (a b : Rat) (c d : Rat) : ptsubC [.agg [eRat a, eRat b], .agg [eRat c, eRat d]] = (qsz a + qsz b + qsz c + qsz d < LM, [.agg [eRat (a - c), eRat (b - d)]]) := ct2_at (a, b) (c, d)
/-! i.cross -/
noncomputable def crsC := ct2 EP EP (fun p0 p1 => qsz p0.1 + qsz p0.2 + qsz p1.1 + qsz p1.2 < LM) (fun p0 p1 => [eRat (crossQ p0.1 p0.2 p1.1 p1.2)])
@[simp] theorem crsC_at (a b : Rat) (c d : Rat) : crsC [.agg [eRat a, eRat b], .agg [eRat c, eRat d]] = (qsz a + qsz b + qsz c + qsz d < LM, [eRat (crossQ a b c d)]) := ct2_at (a, b) (c, d)
/-! i.turn -/
noncomputable def trnC := ct3 EP EP EP (fun p0 p1 p2 => qsz p0.1 + qsz p0.2 + qsz p1.1 + qsz p1.2 + qsz p2.1 + qsz p2.2 < 100000000) (fun p0 p1 p2 => [.lit (.int .i64 (turnQ p0.1 p0.2 p1.1 p1.2 p2.1 p2.2).num.sign)])
@[simp] theorem trnC_at (a b : Rat) (c d : Rat) (e f : Rat) : trnC [.agg [eRat a, eRat b], .agg [eRat c, eRat d], .agg [eRat e, eRat f]] = (qsz a + qsz b + qsz c + qsz d + qsz e + qsz f < 100000000, [.lit (.int .i64 (turnQ a b c d e f).num.sign)]) := ct3_at (a, b) (c, d) (e, f)
end Go.Proofs.Ytdkgkcnllhcamaa.Ae

/-! impl: straight pieces: SegOk, psg, add, times, dot, dir, up, minmax, apart, has, foot, near, dist2, v. No condition. -/
namespace Go.Proofs.Ytdkgkcnllhcamaa.Ae
open Go Go.RowKit Go.Proofs.Ytdkgkcnllhcamaa.Dig
@[simp] theorem flatD_eQ (a b : Int) : flatD (eQ a b) = some [.int .i64 a, .int .i64 b] := rfl
attribute [simp] eqV eqVs
theorem keyLits_struct {P : Program} {d : Nat} {t : TypeId} {fs : Array Field} {cs : List Value} (hu : P.underlying t = some (.struct fs)) (hl : cs.length = P.cellsOf t) (hn : fs.all (·.name != "_") = true) :
    P.keyLits (d + 1) t cs = (fs.toList.mapM fun f => P.keyLits d f.type ((cs.drop f.offset).take (P.cellsOf f.type))).map List.flatten := by
  conv => lhs; unfold Program.keyLits
  rw [hu]
  show (if cs.length = P.cellsOf t ∧ fs.all (·.name != "_") = true then (fs.toList.mapM fun f => P.keyLits d f.type ((cs.drop f.offset).take (P.cellsOf f.type))).map List.flatten else none) = _
  rw [if_pos ⟨hl, hn⟩]
theorem keyLits_i64 {P : Program} {d : Nat} {t : TypeId} {a : Int} (hu : P.underlying t = some (.int .i64)) (h : I64 a) : P.keyLits (d + 1) t [.int .i64 a] = some [.int .i64 a] := by
  have hw : (Lit.int .i64 a).wf = true := by
    unfold I64 at h
    have e1 : IntKind.i64.min = -9223372036854775808 := by decide
    have e2 : IntKind.i64.max = 9223372036854775807 := by decide
    simp only [Lit.wf, e1, e2, Bool.and_eq_true, decide_eq_true_eq]; omega
  unfold Program.keyLits
  rw [hu]
  exact if_pos ⟨rfl, hw⟩
theorem klQ {d : Nat} (a b : Int) (h : I64 a ∧ I64 b) : Try.prog.keyLits (d + 2) 39 [.int .i64 a, .int .i64 b] = some [.int .i64 a, .int .i64 b] := by
  rw [keyLits_struct Try.underlying39 (by simp) (by kernel_rfl)]
  simp [keyLits_i64 Try.underlying2 h.1, keyLits_i64 Try.underlying2 h.2]
def ESg : Enc ((Rat × Rat) × Rat × Rat) := EP.pair EP
def ESeg : Enc (((Int × Int) × Int × Int) × (Int × Int) × Int × Int) := EV.pair EV
@[simp] theorem ESg_e (a b c d : Rat) : ESg.e ((a, b), c, d) = .agg [.agg [eRat a, eRat b], .agg [eRat c, eRat d]] := rfl
@[simp] theorem ESeg_e (a b c d e f g h : Int) : ESeg.e (((a, b), c, d), (e, f), g, h) = .agg [.agg [eQ a b, eQ c d], .agg [eQ e f, eQ g h]] := rfl
theorem sq_nn (a : Rat) : 0 ≤ a * a := by
  by_cases h : 0 ≤ a
  · exact Rat.mul_nonneg h h
  · have : 0 ≤ (-a) * (-a) := Rat.mul_nonneg (by grind) (by grind)
    grind
def segOk (a b c d e f g h : Int) : Prop := ((qOk a b ∧ qOk c d) ∧ qOk e f ∧ qOk g h) ∧ ¬ (a = e ∧ b = f ∧ c = g ∧ d = h)
instance (a b c d e f g h : Int) : Decidable (segOk a b c d e f g h) := by unfold segOk; infer_instance
def dotQ (a b c d : Rat) : Rat := a * c + b * d
def loQ (a b : Rat) : Rat := if 0 < qcmp a b then b else a
def hiQ (a b : Rat) : Rat := if 0 < qcmp a b then a else b
def bapart (a b c d : Rat) : Bool := decide (qcmp (hiQ a b) (loQ c d) < 0) || decide (qcmp (hiQ c d) (loQ a b) < 0)
def hasB (a b c d p q : Rat) : Bool := !bapart a c p p && !bapart b d q q && decide ((turnQ a b c d p q).num.sign = 0)
def footQ (a b c d p q : Rat) : Rat := dotQ (p - a) (q - b) (c - a) (d - b) / dotQ (c - a) (d - b) (c - a) (d - b)
def nearQ (a b c d p q : Rat) : Rat × Rat := if (footQ a b c d p q).num.sign ≤ 0 then (a, b) else if 0 ≤ qcmp (footQ a b c d p q) 1 then (c, d) else (a + (c - a) * footQ a b c d p q, b + (d - b) * footQ a b c d p q)
def dist2Q (a b c d : Rat) : Rat := dotQ (a - c) (b - d) (a - c) (b - d)
theorem loQ_sz (a b : Rat) : qsz (loQ a b) ≤ qsz a + qsz b := by unfold loQ; split <;> omega
theorem hiQ_sz (a b : Rat) : qsz (hiQ a b) ≤ qsz a + qsz b := by unfold hiQ; split <;> omega
theorem dotQ_sz (a b c d : Rat) : qsz (dotQ a b c d) ≤ qsz a + qsz b + qsz c + qsz d + 1 := by unfold dotQ; grind [qsz_add, qsz_mul]
/-- A place's coordinates, if they are moderate. -/
def oV (x y : Rat) : (Int × Int) × (Int × Int) × Bool := if (oq x).2.2 = true ∧ (oq y).2.2 = true then (((oq x).1, (oq x).2.1), ((oq y).1, (oq y).2.1), true) else ((0, 0), (0, 0), false)
def vD (o : (Int × Int) × (Int × Int) × Bool) : List D := [.agg [eQ o.1.1 o.1.2, eQ o.2.1.1 o.2.1.2], .lit (.bool o.2.2)]
theorem sq_pos {a b : Rat} (h : ¬ (a = 0 ∧ b = 0)) : dotQ a b a b ≠ 0 := by
  unfold dotQ
  have h1 : 0 ≤ a * a := sq_nn a
  have h2 : 0 ≤ b * b := sq_nn b
  intro e
  have e1 : a * a = 0 := by grind
  have e2 : b * b = 0 := by grind
  exact h ⟨by rcases Rat.mul_eq_zero.mp e1 with x | x <;> exact x, by rcases Rat.mul_eq_zero.mp e2 with x | x <;> exact x⟩

/-! i.SegOk -/
noncomputable def iSegOkC := ct1 ESeg (fun p0 => (((I64 p0.1.1.1 ∧ I64 p0.1.1.2) ∧ I64 p0.1.2.1 ∧ I64 p0.1.2.2) ∧ ((I64 p0.2.1.1 ∧ I64 p0.2.1.2) ∧ I64 p0.2.2.1 ∧ I64 p0.2.2.2))) (fun p0 => [.lit (.bool (decide (segOk p0.1.1.1 p0.1.1.2 p0.1.2.1 p0.1.2.2 p0.2.1.1 p0.2.1.2 p0.2.2.1 p0.2.2.2)))])
@[simp] theorem iSegOkC_at (a b c d e f g h : Int) : iSegOkC [.agg [.agg [eQ a b, eQ c d], .agg [eQ e f, eQ g h]]] = ((((I64 a ∧ I64 b) ∧ I64 c ∧ I64 d) ∧ ((I64 e ∧ I64 f) ∧ I64 g ∧ I64 h)), [.lit (.bool (decide (segOk a b c d e f g h)))]) := ct1_at (((a, b), c, d), (e, f), g, h)
/-! i.psg -/
noncomputable def psgC := ct1 ESeg (fun p0 => (QI p0.1.1.1 p0.1.1.2 ∧ QI p0.1.2.1 p0.1.2.2) ∧ QI p0.2.1.1 p0.2.1.2 ∧ QI p0.2.2.1 p0.2.2.2) (fun p0 => [.agg [.agg [eRat (Rat.divInt p0.1.1.1 p0.1.1.2), eRat (Rat.divInt p0.1.2.1 p0.1.2.2)], .agg [eRat (Rat.divInt p0.2.1.1 p0.2.1.2), eRat (Rat.divInt p0.2.2.1 p0.2.2.2)]]])
@[simp] theorem psgC_at (a b c d e f g h : Int) : psgC [.agg [.agg [eQ a b, eQ c d], .agg [eQ e f, eQ g h]]] = ((QI a b ∧ QI c d) ∧ QI e f ∧ QI g h, [.agg [.agg [eRat (Rat.divInt a b), eRat (Rat.divInt c d)], .agg [eRat (Rat.divInt e f), eRat (Rat.divInt g h)]]]) := ct1_at (((a, b), c, d), (e, f), g, h)
/-! (i.pt).add -/
noncomputable def ptaddC := ct2 EP EP (fun p0 p1 => qsz p0.1 + qsz p0.2 + qsz p1.1 + qsz p1.2 < LM) (fun p0 p1 => [.agg [eRat (p0.1 + p1.1), eRat (p0.2 + p1.2)]])
@[simp] theorem ptaddC_at (a b : Rat) (c d : Rat) : ptaddC [.agg [eRat a, eRat b], .agg [eRat c, eRat d]] = (qsz a + qsz b + qsz c + qsz d < LM, [.agg [eRat (a + c), eRat (b + d)]]) := ct2_at (a, b) (c, d)
/-! (i.pt).times -/
noncomputable def pttimesC := ct2 EP ERat (fun p0 p1 => qsz p0.1 + qsz p0.2 + qsz p1 < LM) (fun p0 p1 => [.agg [eRat (p0.1 * p1), eRat (p0.2 * p1)]])
@[simp] theorem pttimesC_at (a b : Rat) (c : Rat) : pttimesC [.agg [eRat a, eRat b], eRat c] = (qsz a + qsz b + qsz c < LM, [.agg [eRat (a * c), eRat (b * c)]]) := ct2_at (a, b) c
/-! i.dot -/
noncomputable def dotrC := ct2 EP EP (fun p0 p1 => qsz p0.1 + qsz p0.2 + qsz p1.1 + qsz p1.2 < LM) (fun p0 p1 => [eRat (dotQ p0.1 p0.2 p1.1 p1.2)])
@[simp] theorem dotrC_at (a b : Rat) (c d : Rat) : dotrC [.agg [eRat a, eRat b], .agg [eRat c, eRat d]] = (qsz a + qsz b + qsz c + qsz d < LM, [eRat (dotQ a b c d)]) := ct2_at (a, b) (c, d)
/-! (i.sg).dir -/
noncomputable def sgdirC := ct1 ESg (fun p0 => qsz p0.1.1 + qsz p0.1.2 + qsz p0.2.1 + qsz p0.2.2 < LM) (fun p0 => [.agg [eRat (p0.2.1 - p0.1.1), eRat (p0.2.2 - p0.1.2)]])
@[simp] theorem sgdirC_at (a b c d : Rat) : sgdirC [.agg [.agg [eRat a, eRat b], .agg [eRat c, eRat d]]] = (qsz a + qsz b + qsz c + qsz d < LM, [.agg [eRat (c - a), eRat (d - b)]]) := ct1_at ((a, b), c, d)
/-! i.minmax -/
noncomputable def mnmxC := ct2 ERat ERat (fun p0 p1 => qsz p0 + qsz p1 < LM) (fun p0 p1 => [eRat (loQ p0 p1), eRat (hiQ p0 p1)])
@[simp] theorem mnmxC_at (a : Rat) (b : Rat) : mnmxC [eRat a, eRat b] = (qsz a + qsz b < LM, [eRat (loQ a b), eRat (hiQ a b)]) := ct2_at a b
/-! i.apart -/
noncomputable def aprtC := ct4 ERat ERat ERat ERat (fun p0 p1 p2 p3 => qsz p0 + qsz p1 + qsz p2 + qsz p3 < LM) (fun p0 p1 p2 p3 => [.lit (.bool (bapart p0 p1 p2 p3))])
@[simp] theorem aprtC_at (a : Rat) (b : Rat) (c : Rat) (d : Rat) : aprtC [eRat a, eRat b, eRat c, eRat d] = (qsz a + qsz b + qsz c + qsz d < LM, [.lit (.bool (bapart a b c d))]) := ct4_at a b c d
/-! (i.sg).has -/
noncomputable def sghasC := ct2 ESg EP (fun p0 p1 => qsz p0.1.1 + qsz p0.1.2 + qsz p0.2.1 + qsz p0.2.2 + qsz p1.1 + qsz p1.2 < 10000000) (fun p0 p1 => [.lit (.bool (hasB p0.1.1 p0.1.2 p0.2.1 p0.2.2 p1.1 p1.2))])
@[simp] theorem sghasC_at (a b c d : Rat) (e f : Rat) : sghasC [.agg [.agg [eRat a, eRat b], .agg [eRat c, eRat d]], .agg [eRat e, eRat f]] = (qsz a + qsz b + qsz c + qsz d + qsz e + qsz f < 10000000, [.lit (.bool (hasB a b c d e f))]) := ct2_at ((a, b), c, d) (e, f)
/-! (i.sg).foot -/
noncomputable def sgfootC := ct2 ESg EP (fun p0 p1 => qsz p0.1.1 + qsz p0.1.2 + qsz p0.2.1 + qsz p0.2.2 + qsz p1.1 + qsz p1.2 < 10000000 ∧ ¬ (p0.2.1 - p0.1.1 = 0 ∧ p0.2.2 - p0.1.2 = 0)) (fun p0 p1 => [eRat (footQ p0.1.1 p0.1.2 p0.2.1 p0.2.2 p1.1 p1.2)])
@[simp] theorem sgfootC_at (a b c d : Rat) (e f : Rat) : sgfootC [.agg [.agg [eRat a, eRat b], .agg [eRat c, eRat d]], .agg [eRat e, eRat f]] = (qsz a + qsz b + qsz c + qsz d + qsz e + qsz f < 10000000 ∧ ¬ (c - a = 0 ∧ d - b = 0), [eRat (footQ a b c d e f)]) := ct2_at ((a, b), c, d) (e, f)
theorem footQ_sz {a b c d p q : Rat} (h : ¬ (c - a = 0 ∧ d - b = 0)) : qsz (footQ a b c d p q) ≤ 4 * (qsz a + qsz b + qsz c + qsz d + qsz p + qsz q) + 10 := by
  unfold footQ
  have := qsz_div (a := dotQ (p - a) (q - b) (c - a) (d - b)) (sq_pos h)
  grind [dotQ_sz, qsz_sub]
theorem nearQ_sz {a b c d p q : Rat} (h : ¬ (c - a = 0 ∧ d - b = 0)) : qsz (nearQ a b c d p q).1 + qsz (nearQ a b c d p q).2 ≤ 12 * (qsz a + qsz b + qsz c + qsz d + qsz p + qsz q) + 40 := by
  have := footQ_sz (p := p) (q := q) h
  unfold nearQ
  split
  · show qsz a + qsz b ≤ _; omega
  · split
    · show qsz c + qsz d ≤ _; omega
    · show qsz (a + (c - a) * footQ a b c d p q) + qsz (b + (d - b) * footQ a b c d p q) ≤ _
      grind [qsz_add, qsz_sub, qsz_mul]
theorem one_rat : ((1 : Int) : Rat) = 1 := rfl
theorem qsz_one : qsz 1 = 1 := by decide +kernel

/-! (i.sg).near -/
noncomputable def sgnearC := ct2 ESg EP (fun p0 p1 => qsz p0.1.1 + qsz p0.1.2 + qsz p0.2.1 + qsz p0.2.2 + qsz p1.1 + qsz p1.2 < 1000000 ∧ ¬ (p0.2.1 - p0.1.1 = 0 ∧ p0.2.2 - p0.1.2 = 0)) (fun p0 p1 => [.agg [eRat (nearQ p0.1.1 p0.1.2 p0.2.1 p0.2.2 p1.1 p1.2).1, eRat (nearQ p0.1.1 p0.1.2 p0.2.1 p0.2.2 p1.1 p1.2).2]])
@[simp] theorem sgnearC_at (a b c d : Rat) (e f : Rat) : sgnearC [.agg [.agg [eRat a, eRat b], .agg [eRat c, eRat d]], .agg [eRat e, eRat f]] = (qsz a + qsz b + qsz c + qsz d + qsz e + qsz f < 1000000 ∧ ¬ (c - a = 0 ∧ d - b = 0), [.agg [eRat (nearQ a b c d e f).1, eRat (nearQ a b c d e f).2]]) := ct2_at ((a, b), c, d) (e, f)
/-! i.dist2 -/
noncomputable def dst2C := ct2 EP EP (fun p0 p1 => qsz p0.1 + qsz p0.2 + qsz p1.1 + qsz p1.2 < 100000000) (fun p0 p1 => [eRat (dist2Q p0.1 p0.2 p1.1 p1.2)])
@[simp] theorem dst2C_at (a b : Rat) (c d : Rat) : dst2C [.agg [eRat a, eRat b], .agg [eRat c, eRat d]] = (qsz a + qsz b + qsz c + qsz d < 100000000, [eRat (dist2Q a b c d)]) := ct2_at (a, b) (c, d)
/-! (i.pt).v -/
noncomputable def ptvC := ct1 EP (fun p0 => True) (fun p0 => vD (oV p0.1 p0.2))
@[simp] theorem ptvC_at (a b : Rat) : ptvC [.agg [eRat a, eRat b]] = (True, vD (oV a b)) := ct1_at (a, b)
end Go.Proofs.Ytdkgkcnllhcamaa.Ae

/-! impl: places of space, planes. No condition. -/
namespace Go.Proofs.Ytdkgkcnllhcamaa.Ae
open Go Go.RowKit Go.Proofs.Ytdkgkcnllhcamaa.Dig
def Enc.quad {α β γ δ : Type} (A : Enc α) (B : Enc β) (C : Enc γ) (E : Enc δ) : Enc (α × β × γ × δ) := ⟨fun p => .agg [A.e p.1, B.e p.2.1, C.e p.2.2.1, E.e p.2.2.2], fun p q h => by
  simp only [D.agg.injEq, List.cons.injEq, and_true] at h
  exact Prod.ext (A.inj _ _ h.1) (Prod.ext (B.inj _ _ h.2.1) (Prod.ext (C.inj _ _ h.2.2.1) (E.inj _ _ h.2.2.2)))⟩
def EV3 : Enc ((Int × Int) × (Int × Int) × Int × Int) := EQ.trip EQ EQ
def EPl : Enc ((Int × Int) × (Int × Int) × (Int × Int) × Int × Int) := EQ.quad EQ EQ EQ
def EP3 : Enc (Rat × Rat × Rat) := ERat.trip ERat ERat
def EP3n : Enc (Rat × Rat × Rat) := ENum.trip ENum ENum
def EPq : Enc ((Rat × Rat × Rat) × Rat) := EP3.pair ERat
def EFn : Enc ((Rat × Rat × Rat) × Rat) := ⟨fun p => .agg [EP3n.e p.1, nD p.2, .lit (.slice none 0 0)], fun p q h => by
  simp only [D.agg.injEq, List.cons.injEq, and_true] at h
  exact Prod.ext (EP3n.inj _ _ h.1) (nD_inj h.2)⟩
@[simp] theorem EV3_e (a b c d e f : Int) : EV3.e ((a, b), (c, d), e, f) = .agg [eQ a b, eQ c d, eQ e f] := rfl
@[simp] theorem EPl_e (a b c d e f g h : Int) : EPl.e ((a, b), (c, d), (e, f), g, h) = .agg [eQ a b, eQ c d, eQ e f, eQ g h] := rfl
@[simp] theorem EP3_e (a b c : Rat) : EP3.e (a, b, c) = .agg [eRat a, eRat b, eRat c] := rfl
@[simp] theorem EP3n_e (a b c : Rat) : EP3n.e (a, b, c) = .agg [nD a, nD b, nD c] := rfl
@[simp] theorem EPq_e (a b c d : Rat) : EPq.e ((a, b, c), d) = .agg [.agg [eRat a, eRat b, eRat c], eRat d] := rfl
@[simp] theorem EFn_e (a b c d : Rat) : EFn.e ((a, b, c), d) = .agg [.agg [nD a, nD b, nD c], nD d, .lit (.slice none 0 0)] := rfl
def v3Ok (a b c d e f : Int) : Prop := qOk a b ∧ qOk c d ∧ qOk e f
instance (a b c d e f : Int) : Decidable (v3Ok a b c d e f) := by unfold v3Ok; infer_instance
def q4Ok (a b c d e f g h : Int) : Prop := qOk a b ∧ qOk c d ∧ qOk e f ∧ qOk g h
instance (a b c d e f g h : Int) : Decidable (q4Ok a b c d e f g h) := by unfold q4Ok; infer_instance
theorem z_all3 (a b c d e f : Int) : allQC [.sl 2 [eQ a b, eQ c d, eQ e f]] = (((I64 a ∧ I64 b) ∧ (I64 c ∧ I64 d) ∧ I64 e ∧ I64 f), [.lit (.bool (decide (v3Ok a b c d e f)))]) := by
  have h1 := allQC_at [(a, b), (c, d), (e, f)]
  have h2 : (([(a, b), (c, d), (e, f)] : List (Int × Int)).length < 4611686018427387904 ∧ ∀ q ∈ [(a, b), (c, d), (e, f)], I64p q) ↔ ((I64 a ∧ I64 b) ∧ (I64 c ∧ I64 d) ∧ I64 e ∧ I64 f) := by
    constructor
    · rintro ⟨_, h⟩
      exact ⟨h (a, b) (by simp), h (c, d) (by simp), h (e, f) (by simp)⟩
    · rintro ⟨h1, h2, h3⟩
      refine ⟨by simp, ?_⟩
      intro q hq
      simp at hq
      rcases hq with rfl | rfl | rfl
      · exact h1
      · exact h2
      · exact h3
  rw [propext h2] at h1
  have h3 : (([(a, b), (c, d), (e, f)] : List (Int × Int)).all fun q => decide (qOk q.1 q.2)) = decide (v3Ok a b c d e f) := by rw [Bool.eq_iff_iff, decide_eq_true_eq]; unfold v3Ok; simp
  rw [h3] at h1
  exact h1
theorem z_all4 (a b c d e f g h : Int) : allQC [.sl 2 [eQ a b, eQ c d, eQ e f, eQ g h]] = (((I64 a ∧ I64 b) ∧ (I64 c ∧ I64 d) ∧ (I64 e ∧ I64 f) ∧ I64 g ∧ I64 h), [.lit (.bool (decide (q4Ok a b c d e f g h)))]) := by
  have h1 := allQC_at [(a, b), (c, d), (e, f), (g, h)]
  have h2 : (([(a, b), (c, d), (e, f), (g, h)] : List (Int × Int)).length < 4611686018427387904 ∧ ∀ q ∈ [(a, b), (c, d), (e, f), (g, h)], I64p q) ↔ ((I64 a ∧ I64 b) ∧ (I64 c ∧ I64 d) ∧ (I64 e ∧ I64 f) ∧ I64 g ∧ I64 h) := by
    constructor
    · rintro ⟨_, h'⟩
      exact ⟨h' (a, b) (by simp), h' (c, d) (by simp), h' (e, f) (by simp), h' (g, h) (by simp)⟩
    · rintro ⟨h1, h2, h3, h4⟩
      refine ⟨by simp, ?_⟩
      intro q hq
      simp at hq
      rcases hq with rfl | rfl | rfl | rfl
      · exact h1
      · exact h2
      · exact h3
      · exact h4
  rw [propext h2] at h1
  have h3 : (([(a, b), (c, d), (e, f), (g, h)] : List (Int × Int)).all fun q => decide (qOk q.1 q.2)) = decide (q4Ok a b c d e f g h) := by rw [Bool.eq_iff_iff, decide_eq_true_eq]; unfold q4Ok; simp
  rw [h3] at h1
  exact h1
attribute [simp] z_all3 z_all4
def one1 (n d : Int) : Bool := decide (d = 1) && (decide (n = 1) || decide (n = -1))
def plOk (a b c d e f g h : Int) : Prop := q4Ok a b c d e f g h ∧ (if a = 0 then if c = 0 then one1 e f = true else one1 c d = true else one1 a b = true)
instance (a b c d e f g h : Int) : Decidable (plOk a b c d e f g h) := by unfold plOk; infer_instance
def dot3Q (a b c d e f : Rat) : Rat := a * d + b * e + c * f
def htQ (a b c d e f g : Rat) : Rat := dot3Q a b c e f g - d
def rabs (a : Rat) : Rat := if a.num.sign < 0 then -a else a
/-- The first number that is not 0. -/
def ledI (a b c : Rat) : Int := if a.num.sign = 0 then if b.num.sign = 0 then if c.num.sign = 0 then -1 else 2 else 1 else 0
def ledQ (a b c : Rat) : Rat := if a.num.sign = 0 then if b.num.sign = 0 then c else b else a
/-- The coordinate that is left out. -/
def offI (b c : Rat) : Int := if c.num.sign = 0 then if b.num.sign = 0 then 0 else 1 else 2
def drpQ (b c x y z : Rat) : Rat × Rat := if c.num.sign = 0 then if b.num.sign = 0 then (y, z) else (x, z) else (x, y)
def lftQ (a b c d x y : Rat) : Rat × Rat × Rat := if c.num.sign = 0 then if b.num.sign = 0 then ((d - (b * x + c * y)) / a, x, y) else (x, (d - (a * x + c * y)) / b, y) else (x, y, (d - (a * x + b * y)) / c)
/-- A place of space, if its coordinates are moderate. -/
def oV3 (x y z : Rat) : (Int × Int) × (Int × Int) × (Int × Int) × Bool := if (oq x).2.2 = true ∧ (oq y).2.2 = true ∧ (oq z).2.2 = true then (((oq x).1, (oq x).2.1), ((oq y).1, (oq y).2.1), ((oq z).1, (oq z).2.1), true) else ((0, 0), (0, 0), (0, 0), false)
def v3T (o : (Int × Int) × (Int × Int) × (Int × Int) × Bool) : List D := [.agg [eQ o.1.1 o.1.2, eQ o.2.1.1 o.2.1.2, eQ o.2.2.1.1 o.2.2.1.2], .lit (.bool o.2.2.2)]
def oPl (x y z w : Rat) : (Int × Int) × (Int × Int) × (Int × Int) × (Int × Int) × Bool := if (oq x).2.2 = true ∧ (oq y).2.2 = true ∧ (oq z).2.2 = true ∧ (oq w).2.2 = true then (((oq x).1, (oq x).2.1), ((oq y).1, (oq y).2.1), ((oq z).1, (oq z).2.1), ((oq w).1, (oq w).2.1), true) else ((0, 0), (0, 0), (0, 0), (0, 0), false)
def plT (o : (Int × Int) × (Int × Int) × (Int × Int) × (Int × Int) × Bool) : List D := [.agg [eQ o.1.1 o.1.2, eQ o.2.1.1 o.2.1.2, eQ o.2.2.1.1 o.2.2.1.2, eQ o.2.2.2.1.1 o.2.2.2.1.2], .lit (.bool o.2.2.2.2)]
theorem dot3Q_sz (a b c d e f : Rat) : qsz (dot3Q a b c d e f) ≤ qsz a + qsz b + qsz c + qsz d + qsz e + qsz f + 2 := by unfold dot3Q; grind [qsz_add, qsz_mul]
theorem rabs_sz (a : Rat) : qsz (rabs a) ≤ qsz a := by unfold rabs; split <;> grind [qsz_neg]
theorem rabs_ne {a : Rat} (h : a ≠ 0) : rabs a ≠ 0 := by unfold rabs; split <;> grind
theorem ledQ_sz (a b c : Rat) : qsz (ledQ a b c) ≤ qsz a + qsz b + qsz c := by unfold ledQ; split <;> (try split) <;> omega
theorem sgn_ne {a : Rat} (h : ¬ a.num.sign = 0) : a ≠ 0 := by rintro rfl; exact h rfl
theorem sgn_eq {a : Rat} (h : a.num.sign = 0) : a = 0 := by
  have := Int.sign_eq_zero_iff_zero.1 h
  exact Rat.num_eq_zero.1 this

/-! i.V3Ok -/
noncomputable def iV3OkC := ct1 EV3 (fun p0 => ((I64 p0.1.1 ∧ I64 p0.1.2) ∧ (I64 p0.2.1.1 ∧ I64 p0.2.1.2) ∧ I64 p0.2.2.1 ∧ I64 p0.2.2.2)) (fun p0 => [.lit (.bool (decide (v3Ok p0.1.1 p0.1.2 p0.2.1.1 p0.2.1.2 p0.2.2.1 p0.2.2.2)))])
@[simp] theorem iV3OkC_at (a b c d e f : Int) : iV3OkC [.agg [eQ a b, eQ c d, eQ e f]] = (((I64 a ∧ I64 b) ∧ (I64 c ∧ I64 d) ∧ I64 e ∧ I64 f), [.lit (.bool (decide (v3Ok a b c d e f)))]) := ct1_at ((a, b), (c, d), e, f)
noncomputable def iV3OkTb : List (FuncId × Ct) := [(32, .data allQC)]
theorem iV3OkTb_ok {N : NR} : TbOK N Try.prog (tbl iV3OkTb) := tbl_cons (c := .data allQC) allQ_spec allQ_ok tbl_nil

@[simp] theorem iV3OkTb1 : tbl iV3OkTb 32 = some (.data allQC) := rfl
theorem iV3Ok_spec {N : NR} : SpecD N Try.prog 25 iV3OkC := by
  refine rd1 (mf := fun f => false) iV3OkTb_ok (fn := Try.f25) (by kernel_rfl) rfl (by kernel_rfl) (by kernel_rfl) ?_
  rintro ⟨⟨a, b⟩, ⟨c, d⟩, e, f⟩ hp
  have hp : ((I64 a ∧ I64 b) ∧ (I64 c ∧ I64 d) ∧ I64 e ∧ I64 f) := hp
  show awp _ _ _ _ (start _ ([.agg [eQ a b, eQ c d, eQ e f]].map .dat) []) (endK _ _ _ (([.lit (.bool (decide (v3Ok a b c d e f)))]).map .dat) [])
  simp [-D.isLit, Try.f25]
  exact hp
theorem iV3Ok_ok : callable Try.prog 25 = true := by kernel_rfl

/-! i.pv3 -/
noncomputable def pv3C := ct1 EV3 (fun p0 => QI p0.1.1 p0.1.2 ∧ QI p0.2.1.1 p0.2.1.2 ∧ QI p0.2.2.1 p0.2.2.2) (fun p0 => [.agg [eRat (Rat.divInt p0.1.1 p0.1.2), eRat (Rat.divInt p0.2.1.1 p0.2.1.2), eRat (Rat.divInt p0.2.2.1 p0.2.2.2)]])
@[simp] theorem pv3C_at (a b c d e f : Int) : pv3C [.agg [eQ a b, eQ c d, eQ e f]] = (QI a b ∧ QI c d ∧ QI e f, [.agg [eRat (Rat.divInt a b), eRat (Rat.divInt c d), eRat (Rat.divInt e f)]]) := ct1_at ((a, b), (c, d), e, f)
noncomputable def pv3Tb : List (FuncId × Ct) := [(31, .data rqC)]
theorem pv3Tb_ok {N : NR} : TbOK N Try.prog (tbl pv3Tb) := tbl_cons (c := .data rqC) rq_spec rq_ok tbl_nil

@[simp] theorem pv3Tb1 : tbl pv3Tb 31 = some (.data rqC) := rfl
theorem pv3_spec {N : NR} : SpecD N Try.prog 24 pv3C := by
  refine rd1 (mf := fun f => false) pv3Tb_ok (fn := Try.f24) (by kernel_rfl) rfl (by kernel_rfl) (by kernel_rfl) ?_
  rintro ⟨⟨a, b⟩, ⟨c, d⟩, e, f⟩ hp
  have hp : QI a b ∧ QI c d ∧ QI e f := hp
  show awp _ _ _ _ (start _ ([.agg [eQ a b, eQ c d, eQ e f]].map .dat) []) (endK _ _ _ (([.agg [eRat (Rat.divInt a b), eRat (Rat.divInt c d), eRat (Rat.divInt e f)]]).map .dat) [])
  simp [-D.isLit, Try.f24, hp]
theorem pv3_ok : callable Try.prog 24 = true := by kernel_rfl

/-! i.ppl -/
noncomputable def pplC := ct1 EPl (fun p0 => QI p0.1.1 p0.1.2 ∧ QI p0.2.1.1 p0.2.1.2 ∧ QI p0.2.2.1.1 p0.2.2.1.2 ∧ QI p0.2.2.2.1 p0.2.2.2.2) (fun p0 => [.agg [.agg [eRat (Rat.divInt p0.1.1 p0.1.2), eRat (Rat.divInt p0.2.1.1 p0.2.1.2), eRat (Rat.divInt p0.2.2.1.1 p0.2.2.1.2)], eRat (Rat.divInt p0.2.2.2.1 p0.2.2.2.2)]])
@[simp] theorem pplC_at (a b c d e f g h : Int) : pplC [.agg [eQ a b, eQ c d, eQ e f, eQ g h]] = (QI a b ∧ QI c d ∧ QI e f ∧ QI g h, [.agg [.agg [eRat (Rat.divInt a b), eRat (Rat.divInt c d), eRat (Rat.divInt e f)], eRat (Rat.divInt g h)]]) := ct1_at ((a, b), (c, d), (e, f), g, h)
noncomputable def pplTb : List (FuncId × Ct) := [(31, .data rqC)]
theorem pplTb_ok {N : NR} : TbOK N Try.prog (tbl pplTb) := tbl_cons (c := .data rqC) rq_spec rq_ok tbl_nil

@[simp] theorem pplTb1 : tbl pplTb 31 = some (.data rqC) := rfl
/-! (i.p3).sub -/
noncomputable def p3subC := ct2 EP3 EP3 (fun p0 p1 => qsz p0.1 + qsz p0.2.1 + qsz p0.2.2 + qsz p1.1 + qsz p1.2.1 + qsz p1.2.2 < LM) (fun p0 p1 => [.agg [eRat (p0.1 - p1.1), eRat (p0.2.1 - p1.2.1), eRat (p0.2.2 - p1.2.2)]])
@[simp] theorem p3subC_at (a b c : Rat) (d e f : Rat) : p3subC [.agg [eRat a, eRat b, eRat c], .agg [eRat d, eRat e, eRat f]] = (qsz a + qsz b + qsz c + qsz d + qsz e + qsz f < LM, [.agg [eRat (a - d), eRat (b - e), eRat (c - f)]]) := ct2_at (a, b, c) (d, e, f)
/-! (i.p3).times -/
noncomputable def p3timesC := ct2 EP3 ERat (fun p0 p1 => qsz p0.1 + qsz p0.2.1 + qsz p0.2.2 + qsz p1 < LM) (fun p0 p1 => [.agg [eRat (p0.1 * p1), eRat (p0.2.1 * p1), eRat (p0.2.2 * p1)]])
@[simp] theorem p3timesC_at (a b c : Rat) (d : Rat) : p3timesC [.agg [eRat a, eRat b, eRat c], eRat d] = (qsz a + qsz b + qsz c + qsz d < LM, [.agg [eRat (a * d), eRat (b * d), eRat (c * d)]]) := ct2_at (a, b, c) d
/-! i.dot3 -/
noncomputable def dot3C := ct2 EP3 EP3 (fun p0 p1 => qsz p0.1 + qsz p0.2.1 + qsz p0.2.2 + qsz p1.1 + qsz p1.2.1 + qsz p1.2.2 < LM) (fun p0 p1 => [eRat (dot3Q p0.1 p0.2.1 p0.2.2 p1.1 p1.2.1 p1.2.2)])
@[simp] theorem dot3C_at (a b c : Rat) (d e f : Rat) : dot3C [.agg [eRat a, eRat b, eRat c], .agg [eRat d, eRat e, eRat f]] = (qsz a + qsz b + qsz c + qsz d + qsz e + qsz f < LM, [eRat (dot3Q a b c d e f)]) := ct2_at (a, b, c) (d, e, f)
/-! i.cross3 -/
noncomputable def crs3C := ct2 EP3 EP3 (fun p0 p1 => qsz p0.1 + qsz p0.2.1 + qsz p0.2.2 + qsz p1.1 + qsz p1.2.1 + qsz p1.2.2 < LM) (fun p0 p1 => [.agg [eRat (p0.2.1 * p1.2.2 - p0.2.2 * p1.2.1), eRat (p0.2.2 * p1.1 - p0.1 * p1.2.2), eRat (p0.1 * p1.2.1 - p0.2.1 * p1.1)]])
@[simp] theorem crs3C_at (a b c : Rat) (d e f : Rat) : crs3C [.agg [eRat a, eRat b, eRat c], .agg [eRat d, eRat e, eRat f]] = (qsz a + qsz b + qsz c + qsz d + qsz e + qsz f < LM, [.agg [eRat (b * f - c * e), eRat (c * d - a * f), eRat (a * e - b * d)]]) := ct2_at (a, b, c) (d, e, f)
/-! (i.p3).v -/
noncomputable def p3vC := ct1 EP3 (fun p0 => True) (fun p0 => v3T (oV3 p0.1 p0.2.1 p0.2.2))
@[simp] theorem p3vC_at (a b c : Rat) : p3vC [.agg [eRat a, eRat b, eRat c]] = (True, v3T (oV3 a b c)) := ct1_at (a, b, c)
/-! (i.rat).abs -/
noncomputable def rabsrC := ct1 ERat (fun p0 => qsz p0 < LM) (fun p0 => [eRat (rabs p0)])
@[simp] theorem rabsrC_at (a : Rat) : rabsrC [eRat a] = (qsz a < LM, [eRat (rabs a)]) := ct1_at a
/-! (i.pl).height -/
noncomputable def plhtC := ct2 EPq EP3 (fun p0 p1 => qsz p0.1.1 + qsz p0.1.2.1 + qsz p0.1.2.2 + qsz p0.2 + qsz p1.1 + qsz p1.2.1 + qsz p1.2.2 < 100000000) (fun p0 p1 => [eRat (htQ p0.1.1 p0.1.2.1 p0.1.2.2 p0.2 p1.1 p1.2.1 p1.2.2)])
@[simp] theorem plhtC_at (a b c d : Rat) (e f g : Rat) : plhtC [.agg [.agg [eRat a, eRat b, eRat c], eRat d], .agg [eRat e, eRat f, eRat g]] = (qsz a + qsz b + qsz c + qsz d + qsz e + qsz f + qsz g < 100000000, [eRat (htQ a b c d e f g)]) := ct2_at ((a, b, c), d) (e, f, g)
theorem one_rat' : ((1 : Int) : Rat) = 1 := rfl
theorem one_div_inv (a : Rat) : 1 / a = a⁻¹ := by rw [Rat.div_def, Rat.one_mul]
theorem qsz_inv' {a : Rat} (h : a ≠ 0) : qsz a⁻¹ ≤ qsz (1 : Rat) + qsz a + 1 := by
  rw [← one_div_inv]
  have := qsz_div (a := (1 : Rat)) h
  omega
/-- The plane through three places: its numbers, or none. -/
def thrQ (x y z d : Rat) : Option ((Rat × Rat × Rat) × Rat) :=
  if x.num.sign = 0 ∧ y.num.sign = 0 ∧ z.num.sign = 0 then none else some ((x * (rabs (ledQ x y z))⁻¹, y * (rabs (ledQ x y z))⁻¹, z * (rabs (ledQ x y z))⁻¹), d * (rabs (ledQ x y z))⁻¹)
def thrI (z : D) : Option ((Rat × Rat × Rat) × Rat) → List D
  | none => [z, .lit (.bool false)]
  | some ((x, y, z), d) => [.agg [.agg [eRat x, eRat y, eRat z], eRat d], .lit (.bool true)]
def thrN (z : D) : Option ((Rat × Rat × Rat) × Rat) → List D
  | none => [z, .lit (.bool false)]
  | some ((x, y, z), d) => [.agg [.agg [nD x, nD y, nD z], nD d, .lit (.slice none 0 0)], .lit (.bool true)]
def crX (a b c d e f g h i : Rat) : Rat := (e - b) * (i - c) - (f - c) * (h - b)
def crY (a b c d e f g h i : Rat) : Rat := (f - c) * (g - a) - (d - a) * (i - c)
def crZ (a b c d e f g h i : Rat) : Rat := (d - a) * (h - b) - (e - b) * (g - a)
def throQ (a b c d e f g h i : Rat) : Option ((Rat × Rat × Rat) × Rat) := thrQ (crX a b c d e f g h i) (crY a b c d e f g h i) (crZ a b c d e f g h i) (dot3Q (crX a b c d e f g h i) (crY a b c d e f g h i) (crZ a b c d e f g h i) a b c)
def zRat' : D := .agg [.lit (.int .i64 0), .lit (.int .i64 0), .lit (.pointer none)]
def zNum : D := .agg [.lit (.int .i64 0), .lit (.int .i64 0), .lit (.slice none 0 0)]
def zPl : D := .agg [.agg [zRat', zRat', zRat'], zRat']
def zFn : D := .agg [.agg [zNum, zNum, zNum], zNum, .lit (.slice none 0 0)]
theorem led_ne {x y z : Rat} (h : ¬ (x.num.sign = 0 ∧ y.num.sign = 0 ∧ z.num.sign = 0)) : ledQ x y z ≠ 0 := by
  unfold ledQ
  split
  · rename_i h1
    split
    · rename_i h2
      exact sgn_ne (fun h3 => h ⟨h1, h2, h3⟩)
    · rename_i h2; exact sgn_ne h2
  · rename_i h1; exact sgn_ne h1
/-- The plane's numbers, told. -/
def tldO : Option ((Rat × Rat × Rat) × Rat) → (Int × Int) × (Int × Int) × (Int × Int) × (Int × Int) × Bool
  | none => ((0, 0), (0, 0), (0, 0), (0, 0), false)
  | some ((x, y, z), d) => oPl x y z d
def plS (a b c d e f : Int) (k : Nat) : St := ⟨[.any, .any, .any, .any, .any, .any, .any, .any, .any, .any, .any, .any, .any, .any, .any, .any, .any, .any, .any, .any, .any, .any, .dat (.sl 2 [eQ a b, eQ c d, eQ e f]), .dat (.lit (.int .i64 3)), .dat (.lit (.int .i64 k)), .any, .any, .any, .any, .any, .any, .any, .any, .any, .any, .any, .any, .any, .any, .any, .any, .any, .any, .any, .any], [none, none, none, none, none, none, none, none, none, none, none, none, none, none, none, none, none, none, none, none, none, none, none, none, none, none, none, none, none, none, none, none, none, none, none, none, none, none, none, none, none, none, none, none, none]⟩

/-! i.PlaneOk -/
noncomputable def iPlaneOkC := ct1 EPl (fun p0 => ((I64 p0.1.1 ∧ I64 p0.1.2) ∧ (I64 p0.2.1.1 ∧ I64 p0.2.1.2) ∧ (I64 p0.2.2.1.1 ∧ I64 p0.2.2.1.2) ∧ I64 p0.2.2.2.1 ∧ I64 p0.2.2.2.2)) (fun p0 => [.lit (.bool (decide (plOk p0.1.1 p0.1.2 p0.2.1.1 p0.2.1.2 p0.2.2.1.1 p0.2.2.1.2 p0.2.2.2.1 p0.2.2.2.2)))])
@[simp] theorem iPlaneOkC_at (a b c d e f g h : Int) : iPlaneOkC [.agg [eQ a b, eQ c d, eQ e f, eQ g h]] = (((I64 a ∧ I64 b) ∧ (I64 c ∧ I64 d) ∧ (I64 e ∧ I64 f) ∧ I64 g ∧ I64 h), [.lit (.bool (decide (plOk a b c d e f g h)))]) := ct1_at ((a, b), (c, d), (e, f), g, h)
noncomputable def iPlaneOkTb : List (FuncId × Ct) := [(32, .data allQC)]
theorem iPlaneOkTb_ok {N : NR} : TbOK N Try.prog (tbl iPlaneOkTb) := tbl_cons (c := .data allQC) allQ_spec allQ_ok tbl_nil

@[simp] theorem iPlaneOkTb1 : tbl iPlaneOkTb 32 = some (.data allQC) := rfl
def plLd (a b c d : Rat) (k : Nat) : St := ⟨[.any, .obj 1 [] 0, .any, .any, .dat (.lit (.int .i64 k)), .any, .any, .any, .any, .any, .any, .any, .any, .any, .any], [none, some (.box (.agg [.agg [eRat a, eRat b, eRat c], eRat d])), none, none, none, none, none, none, none, none, none, none, none, none, none]⟩

/-! (i.pl).lead -/
noncomputable def plLeadC := ct1 EPq (fun p0 => True) (fun p0 => [.lit (.int .i64 (ledI p0.1.1 p0.1.2.1 p0.1.2.2))])
@[simp] theorem plLeadC_at (a b c d : Rat) : plLeadC [.agg [.agg [eRat a, eRat b, eRat c], eRat d]] = (True, [.lit (.int .i64 (ledI a b c))]) := ct1_at ((a, b, c), d)
def plOf (a b c d : Rat) (k : Nat) : St := ⟨[.any, .obj 1 [] 0, .any, .dat (.lit (.int .i64 k)), .any, .any, .any, .any, .any, .any, .any, .any, .any, .any, .any], [none, some (.box (.agg [.agg [eRat a, eRat b, eRat c], eRat d])), none, none, none, none, none, none, none, none, none, none, none, none, none]⟩

/-! (i.pl).off -/
noncomputable def plOffC := ct1 EPq (fun p0 => True) (fun p0 => [.lit (.int .i64 (offI p0.1.2.1 p0.1.2.2))])
@[simp] theorem plOffC_at (a b c d : Rat) : plOffC [.agg [.agg [eRat a, eRat b, eRat c], eRat d]] = (True, [.lit (.int .i64 (offI b c))]) := ct1_at ((a, b, c), d)
/-! (i.pl).scaled -/
noncomputable def plScaledC := ct1 EPq (fun p0 => qsz p0.1.1 + qsz p0.1.2.1 + qsz p0.1.2.2 + qsz p0.2 < 100000000) (fun p0 => thrI zPl (thrQ p0.1.1 p0.1.2.1 p0.1.2.2 p0.2))
@[simp] theorem plScaledC_at (a b c d : Rat) : plScaledC [.agg [.agg [eRat a, eRat b, eRat c], eRat d]] = (qsz a + qsz b + qsz c + qsz d < 100000000, thrI zPl (thrQ a b c d)) := ct1_at ((a, b, c), d)
/-! i.planeOf -/
noncomputable def planeOfC := ct3 EP3 EP3 EP3 (fun p0 p1 p2 => qsz p0.1 + qsz p0.2.1 + qsz p0.2.2 + qsz p1.1 + qsz p1.2.1 + qsz p1.2.2 + qsz p2.1 + qsz p2.2.1 + qsz p2.2.2 < 1000000) (fun p0 p1 p2 => thrI zPl (throQ p0.1 p0.2.1 p0.2.2 p1.1 p1.2.1 p1.2.2 p2.1 p2.2.1 p2.2.2))
@[simp] theorem planeOfC_at (a b c : Rat) (d e f : Rat) (g h i : Rat) : planeOfC [.agg [eRat a, eRat b, eRat c], .agg [eRat d, eRat e, eRat f], .agg [eRat g, eRat h, eRat i]] = (qsz a + qsz b + qsz c + qsz d + qsz e + qsz f + qsz g + qsz h + qsz i < 1000000, thrI zPl (throQ a b c d e f g h i)) := ct3_at (a, b, c) (d, e, f) (g, h, i)
/-! (i.pl).plane -/
noncomputable def plPlaneC := ct1 EPq (fun p0 => True) (fun p0 => plT (oPl p0.1.1 p0.1.2.1 p0.1.2.2 p0.2))
@[simp] theorem plPlaneC_at (a b c d : Rat) : plPlaneC [.agg [.agg [eRat a, eRat b, eRat c], eRat d]] = (True, plT (oPl a b c d)) := ct1_at ((a, b, c), d)
/-! (i.pl).drop -/
noncomputable def plDropC := ct2 EPq EP3 (fun p0 p1 => True) (fun p0 p1 => [.agg [eRat (drpQ p0.1.2.1 p0.1.2.2 p1.1 p1.2.1 p1.2.2).1, eRat (drpQ p0.1.2.1 p0.1.2.2 p1.1 p1.2.1 p1.2.2).2]])
@[simp] theorem plDropC_at (a b c d : Rat) (x y z : Rat) : plDropC [.agg [.agg [eRat a, eRat b, eRat c], eRat d], .agg [eRat x, eRat y, eRat z]] = (True, [.agg [eRat (drpQ b c x y z).1, eRat (drpQ b c x y z).2]]) := ct2_at ((a, b, c), d) (x, y, z)
theorem zero_rat : ((0 : Int) : Rat) = 0 := rfl
theorem qsz_zero : qsz 0 ≤ 1 := by decide +kernel

/-! (i.pl).lift -/
noncomputable def plLiftC := ct2 EPq EP (fun p0 p1 => qsz p0.1.1 + qsz p0.1.2.1 + qsz p0.1.2.2 + qsz p0.2 + qsz p1.1 + qsz p1.2 < 10000000 ∧ ¬ (p0.1.1 = 0 ∧ p0.1.2.1 = 0 ∧ p0.1.2.2 = 0)) (fun p0 p1 => [.agg [eRat (lftQ p0.1.1 p0.1.2.1 p0.1.2.2 p0.2 p1.1 p1.2).1, eRat (lftQ p0.1.1 p0.1.2.1 p0.1.2.2 p0.2 p1.1 p1.2).2.1, eRat (lftQ p0.1.1 p0.1.2.1 p0.1.2.2 p0.2 p1.1 p1.2).2.2]])
@[simp] theorem plLiftC_at (a b c d : Rat) (x y : Rat) : plLiftC [.agg [.agg [eRat a, eRat b, eRat c], eRat d], .agg [eRat x, eRat y]] = (qsz a + qsz b + qsz c + qsz d + qsz x + qsz y < 10000000 ∧ ¬ (a = 0 ∧ b = 0 ∧ c = 0), [.agg [eRat (lftQ a b c d x y).1, eRat (lftQ a b c d x y).2.1, eRat (lftQ a b c d x y).2.2]]) := ct2_at ((a, b, c), d) (x, y)
end Go.Proofs.Ytdkgkcnllhcamaa.Ae

/-! The laws CmpV and Turn: both sides.  No condition. -/
namespace Go.Proofs.Ytdkgkcnllhcamaa.Ae
open Go Go.RowKit Go.Proofs.Ytdkgkcnllhcamaa.Dig

/-! i.CmpV -/
noncomputable def iCmpVC := ct2 EV EV (fun p0 p1 => ((I64 p0.1.1 ∧ I64 p0.1.2) ∧ I64 p0.2.1 ∧ I64 p0.2.2) ∧ ((I64 p1.1.1 ∧ I64 p1.1.2) ∧ I64 p1.2.1 ∧ I64 p1.2.2)) (fun p0 p1 => [.lit (.int .i64 (if (qOk p0.1.1 p0.1.2 ∧ qOk p0.2.1 p0.2.2) ∧ (qOk p1.1.1 p1.1.2 ∧ qOk p1.2.1 p1.2.2) then pcmp (Rat.divInt p0.1.1 p0.1.2) (Rat.divInt p0.2.1 p0.2.2) (Rat.divInt p1.1.1 p1.1.2) (Rat.divInt p1.2.1 p1.2.2) else 2))])
@[simp] theorem iCmpVC_at (a b c d : Int) (e f g h : Int) : iCmpVC [.agg [eQ a b, eQ c d], .agg [eQ e f, eQ g h]] = (((I64 a ∧ I64 b) ∧ I64 c ∧ I64 d) ∧ ((I64 e ∧ I64 f) ∧ I64 g ∧ I64 h), [.lit (.int .i64 (if (qOk a b ∧ qOk c d) ∧ (qOk e f ∧ qOk g h) then pcmp (Rat.divInt a b) (Rat.divInt c d) (Rat.divInt e f) (Rat.divInt g h) else 2))]) := ct2_at ((a, b), c, d) ((e, f), g, h)
/-! i.Turn -/
noncomputable def iTurnC := ct3 EV EV EV (fun p0 p1 p2 => ((I64 p0.1.1 ∧ I64 p0.1.2) ∧ I64 p0.2.1 ∧ I64 p0.2.2) ∧ ((I64 p1.1.1 ∧ I64 p1.1.2) ∧ I64 p1.2.1 ∧ I64 p1.2.2) ∧ ((I64 p2.1.1 ∧ I64 p2.1.2) ∧ I64 p2.2.1 ∧ I64 p2.2.2)) (fun p0 p1 p2 => [.lit (.int .i64 (if (qOk p0.1.1 p0.1.2 ∧ qOk p0.2.1 p0.2.2) ∧ (qOk p1.1.1 p1.1.2 ∧ qOk p1.2.1 p1.2.2) ∧ (qOk p2.1.1 p2.1.2 ∧ qOk p2.2.1 p2.2.2) then (turnQ (Rat.divInt p0.1.1 p0.1.2) (Rat.divInt p0.2.1 p0.2.2) (Rat.divInt p1.1.1 p1.1.2) (Rat.divInt p1.2.1 p1.2.2) (Rat.divInt p2.1.1 p2.1.2) (Rat.divInt p2.2.1 p2.2.2)).num.sign else 2))])
@[simp] theorem iTurnC_at (a b c d : Int) (e f g h : Int) (i j k l : Int) : iTurnC [.agg [eQ a b, eQ c d], .agg [eQ e f, eQ g h], .agg [eQ i j, eQ k l]] = (((I64 a ∧ I64 b) ∧ I64 c ∧ I64 d) ∧ ((I64 e ∧ I64 f) ∧ I64 g ∧ I64 h) ∧ ((I64 i ∧ I64 j) ∧ I64 k ∧ I64 l), [.lit (.int .i64 (if (qOk a b ∧ qOk c d) ∧ (qOk e f ∧ qOk g h) ∧ (qOk i j ∧ qOk k l) then (turnQ (Rat.divInt a b) (Rat.divInt c d) (Rat.divInt e f) (Rat.divInt g h) (Rat.divInt i j) (Rat.divInt k l)).num.sign else 2))]) := ct3_at ((a, b), c, d) ((e, f), g, h) ((i, j), k, l)
/-! s.VOk -/
noncomputable def sVOkC := ct1 EV (fun p0 => ((I64 p0.1.1 ∧ I64 p0.1.2) ∧ I64 p0.2.1 ∧ I64 p0.2.2)) (fun p0 => [.lit (.bool (decide (qOk p0.1.1 p0.1.2) && decide (qOk p0.2.1 p0.2.2)))])
@[simp] theorem sVOkC_at (a b c d : Int) : sVOkC [.agg [eQ a b, eQ c d]] = (((I64 a ∧ I64 b) ∧ I64 c ∧ I64 d), [.lit (.bool (decide (qOk a b) && decide (qOk c d)))]) := ct1_at ((a, b), c, d)
noncomputable def sVOkTb : List (FuncId × Ct) := [(19, .data qokC)]
theorem sVOkTb_ok : TbOK NF Try.prog (tbl sVOkTb) := tbl_cons (c := .data qokC) sQOk_spec sQOk_ok tbl_nil

@[simp] theorem sVOkTb1 : tbl sVOkTb 19 = some (.data qokC) := rfl
/-! s.l3p -/
noncomputable def l3pC := ct1 EV (fun p0 => (I64 p0.1.1 ∧ I64 p0.1.2 ∧ 0 < p0.1.2) ∧ I64 p0.2.1 ∧ I64 p0.2.2 ∧ 0 < p0.2.2) (fun p0 => [.agg [nD (Rat.divInt p0.1.1 p0.1.2), nD (Rat.divInt p0.2.1 p0.2.2)]])
@[simp] theorem l3pC_at (a b c d : Int) : l3pC [.agg [eQ a b, eQ c d]] = ((I64 a ∧ I64 b ∧ 0 < b) ∧ I64 c ∧ I64 d ∧ 0 < d, [.agg [nD (Rat.divInt a b), nD (Rat.divInt c d)]]) := ct1_at ((a, b), c, d)
/-! s.l3Cmp -/
noncomputable def l3CmpC := ct2 EPn EPn (fun p0 p1 => qsz p0.1 + qsz p0.2 + qsz p1.1 + qsz p1.2 < LM) (fun p0 p1 => [.lit (.int .i64 (pcmp p0.1 p0.2 p1.1 p1.2))])
@[simp] theorem l3CmpC_at (a b : Rat) (c d : Rat) : l3CmpC [.agg [nD a, nD b], .agg [nD c, nD d]] = (qsz a + qsz b + qsz c + qsz d < LM, [.lit (.int .i64 (pcmp a b c d))]) := ct2_at (a, b) (c, d)
/-! s.l3Sub -/
noncomputable def l3SubC := ct2 EPn EPn (fun p0 p1 => qsz p0.1 + qsz p0.2 + qsz p1.1 + qsz p1.2 < LM) (fun p0 p1 => [.agg [nD (p0.1 - p1.1), nD (p0.2 - p1.2)]])
@[simp] theorem l3SubC_at (a b : Rat) (c d : Rat) : l3SubC [.agg [nD a, nD b], .agg [nD c, nD d]] = (qsz a + qsz b + qsz c + qsz d < LM, [.agg [nD (a - c), nD (b - d)]]) := ct2_at (a, b) (c, d)
/-! s.l3Cross -/
noncomputable def l3CrossC := ct2 EPn EPn (fun p0 p1 => qsz p0.1 + qsz p0.2 + qsz p1.1 + qsz p1.2 < LM) (fun p0 p1 => [nD (crossQ p0.1 p0.2 p1.1 p1.2)])
@[simp] theorem l3CrossC_at (a b : Rat) (c d : Rat) : l3CrossC [.agg [nD a, nD b], .agg [nD c, nD d]] = (qsz a + qsz b + qsz c + qsz d < LM, [nD (crossQ a b c d)]) := ct2_at (a, b) (c, d)
/-! s.l3Turn -/
noncomputable def l3TurnC := ct3 EPn EPn EPn (fun p0 p1 p2 => qsz p0.1 + qsz p0.2 + qsz p1.1 + qsz p1.2 + qsz p2.1 + qsz p2.2 < 100000000) (fun p0 p1 p2 => [.lit (.int .i64 (turnQ p0.1 p0.2 p1.1 p1.2 p2.1 p2.2).num.sign)])
@[simp] theorem l3TurnC_at (a b : Rat) (c d : Rat) (e f : Rat) : l3TurnC [.agg [nD a, nD b], .agg [nD c, nD d], .agg [nD e, nD f]] = (qsz a + qsz b + qsz c + qsz d + qsz e + qsz f < 100000000, [.lit (.int .i64 (turnQ a b c d e f).num.sign)]) := ct3_at (a, b) (c, d) (e, f)
/-! s.CmpV -/
noncomputable def sCmpVC := ct2 EV EV (fun p0 p1 => ((I64 p0.1.1 ∧ I64 p0.1.2) ∧ I64 p0.2.1 ∧ I64 p0.2.2) ∧ ((I64 p1.1.1 ∧ I64 p1.1.2) ∧ I64 p1.2.1 ∧ I64 p1.2.2)) (fun p0 p1 => [.lit (.int .i64 (if (qOk p0.1.1 p0.1.2 ∧ qOk p0.2.1 p0.2.2) ∧ (qOk p1.1.1 p1.1.2 ∧ qOk p1.2.1 p1.2.2) then pcmp (Rat.divInt p0.1.1 p0.1.2) (Rat.divInt p0.2.1 p0.2.2) (Rat.divInt p1.1.1 p1.1.2) (Rat.divInt p1.2.1 p1.2.2) else 2))])
@[simp] theorem sCmpVC_at (a b c d : Int) (e f g h : Int) : sCmpVC [.agg [eQ a b, eQ c d], .agg [eQ e f, eQ g h]] = (((I64 a ∧ I64 b) ∧ I64 c ∧ I64 d) ∧ ((I64 e ∧ I64 f) ∧ I64 g ∧ I64 h), [.lit (.int .i64 (if (qOk a b ∧ qOk c d) ∧ (qOk e f ∧ qOk g h) then pcmp (Rat.divInt a b) (Rat.divInt c d) (Rat.divInt e f) (Rat.divInt g h) else 2))]) := ct2_at ((a, b), c, d) ((e, f), g, h)
/-! s.Turn -/
noncomputable def sTurnC := ct3 EV EV EV (fun p0 p1 p2 => ((I64 p0.1.1 ∧ I64 p0.1.2) ∧ I64 p0.2.1 ∧ I64 p0.2.2) ∧ ((I64 p1.1.1 ∧ I64 p1.1.2) ∧ I64 p1.2.1 ∧ I64 p1.2.2) ∧ ((I64 p2.1.1 ∧ I64 p2.1.2) ∧ I64 p2.2.1 ∧ I64 p2.2.2)) (fun p0 p1 p2 => [.lit (.int .i64 (if (qOk p0.1.1 p0.1.2 ∧ qOk p0.2.1 p0.2.2) ∧ (qOk p1.1.1 p1.1.2 ∧ qOk p1.2.1 p1.2.2) ∧ (qOk p2.1.1 p2.1.2 ∧ qOk p2.2.1 p2.2.2) then (turnQ (Rat.divInt p0.1.1 p0.1.2) (Rat.divInt p0.2.1 p0.2.2) (Rat.divInt p1.1.1 p1.1.2) (Rat.divInt p1.2.1 p1.2.2) (Rat.divInt p2.1.1 p2.1.2) (Rat.divInt p2.2.1 p2.2.2)).num.sign else 2))])
@[simp] theorem sTurnC_at (a b c d : Int) (e f g h : Int) (i j k l : Int) : sTurnC [.agg [eQ a b, eQ c d], .agg [eQ e f, eQ g h], .agg [eQ i j, eQ k l]] = (((I64 a ∧ I64 b) ∧ I64 c ∧ I64 d) ∧ ((I64 e ∧ I64 f) ∧ I64 g ∧ I64 h) ∧ ((I64 i ∧ I64 j) ∧ I64 k ∧ I64 l), [.lit (.int .i64 (if (qOk a b ∧ qOk c d) ∧ (qOk e f ∧ qOk g h) ∧ (qOk i j ∧ qOk k l) then (turnQ (Rat.divInt a b) (Rat.divInt c d) (Rat.divInt e f) (Rat.divInt g h) (Rat.divInt i j) (Rat.divInt k l)).num.sign else 2))]) := ct3_at ((a, b), c, d) ((e, f), g, h) ((i, j), k, l)
/-! l.toV -/
noncomputable def toVC := ct1 EV (fun p0 => True) (fun p0 => [.agg [eQ p0.1.1 p0.1.2, eQ p0.2.1 p0.2.2]])
@[simp] theorem toVC_at (a b c d : Int) : toVC [.agg [eQ a b, eQ c d]] = (True, [.agg [eQ a b, eQ c d]]) := ct1_at ((a, b), c, d)
noncomputable def toVTb : List (FuncId × Ct) := [(30, .data toQC)]
theorem toVTb_ok {N : NR} : TbOK N Try.prog (tbl toVTb) := tbl_cons (c := .data toQC) toQ_spec toQ_ok tbl_nil

@[simp] theorem toVTb1 : tbl toVTb 30 = some (.data toQC) := rfl
/-! l.FnExactCmpV -/
noncomputable def lwCmpVC := ct2 EV EV (fun p0 p1 => ((I64 p0.1.1 ∧ I64 p0.1.2) ∧ I64 p0.2.1 ∧ I64 p0.2.2) ∧ ((I64 p1.1.1 ∧ I64 p1.1.2) ∧ I64 p1.2.1 ∧ I64 p1.2.2)) (fun p0 p1 => [.lit (.bool true)])
@[simp] theorem lwCmpVC_at (a b c d : Int) (e f g h : Int) : lwCmpVC [.agg [eQ a b, eQ c d], .agg [eQ e f, eQ g h]] = (((I64 a ∧ I64 b) ∧ I64 c ∧ I64 d) ∧ ((I64 e ∧ I64 f) ∧ I64 g ∧ I64 h), [.lit (.bool true)]) := ct2_at ((a, b), c, d) ((e, f), g, h)
/-! l.FnExactTurn -/
noncomputable def lwTurnC := ct3 EV EV EV (fun p0 p1 p2 => ((I64 p0.1.1 ∧ I64 p0.1.2) ∧ I64 p0.2.1 ∧ I64 p0.2.2) ∧ ((I64 p1.1.1 ∧ I64 p1.1.2) ∧ I64 p1.2.1 ∧ I64 p1.2.2) ∧ ((I64 p2.1.1 ∧ I64 p2.1.2) ∧ I64 p2.2.1 ∧ I64 p2.2.2)) (fun p0 p1 p2 => [.lit (.bool true)])
@[simp] theorem lwTurnC_at (a b c d : Int) (e f g h : Int) (i j k l : Int) : lwTurnC [.agg [eQ a b, eQ c d], .agg [eQ e f, eQ g h], .agg [eQ i j, eQ k l]] = (((I64 a ∧ I64 b) ∧ I64 c ∧ I64 d) ∧ ((I64 e ∧ I64 f) ∧ I64 g ∧ I64 h) ∧ ((I64 i ∧ I64 j) ∧ I64 k ∧ I64 l), [.lit (.bool true)]) := ct3_at ((a, b), c, d) ((e, f), g, h) ((i, j), k, l)
end Go.Proofs.Ytdkgkcnllhcamaa.Ae

/-! OnSeg, Foot, Near, Dist2: both sides and the laws. No condition. -/
namespace Go.Proofs.Ytdkgkcnllhcamaa.Ae
open Go Go.RowKit Go.Proofs.Ytdkgkcnllhcamaa.Dig
theorem seg_ne {a b c d e f g h : Int} (k : segOk a b c d e f g h) : ¬ (Rat.divInt e f - Rat.divInt a b = 0 ∧ Rat.divInt g h - Rat.divInt c d = 0) := by
  rintro ⟨h1, h2⟩
  obtain ⟨⟨⟨k1, k2⟩, k3, k4⟩, kn⟩ := k
  have e1 : Rat.divInt e f = Rat.divInt a b := by grind
  have e2 : Rat.divInt g h = Rat.divInt c d := by grind
  have x1 := QI_num (qOk_QI k1)
  have x2 := QI_num (qOk_QI k2)
  have x3 := QI_num (qOk_QI k3)
  have x4 := QI_num (qOk_QI k4)
  rw [e1] at x3
  rw [e2] at x4
  exact kn ⟨by rw [← x1.1, ← x3.1], by rw [← x1.2, ← x3.2], by rw [← x2.1, ← x4.1], by rw [← x2.2, ← x4.2]⟩
/-- What holds of a good place and a good piece. -/
structure GV (a b c d : Int) : Prop where
  i : I64 a ∧ I64 b
  j : I64 c ∧ I64 d
  ok : qOk a b ∧ qOk c d
theorem GV.w1 {a b c d : Int} (h : GV a b c d) : QI a b := qOk_QI h.ok.1
theorem GV.w2 {a b c d : Int} (h : GV a b c d) : QI c d := qOk_QI h.ok.2
theorem GV.y1 {a b c d : Int} (h : GV a b c d) : I64 a ∧ I64 b ∧ 0 < b := qOk_64 h.ok.1
theorem GV.y2 {a b c d : Int} (h : GV a b c d) : I64 c ∧ I64 d ∧ 0 < d := qOk_64 h.ok.2
theorem GV.sz {a b c d : Int} (h : GV a b c d) : qsz (Rat.divInt a b) + qsz (Rat.divInt c d) ≤ 4 := by
  have := QI_qsz h.w1
  have := QI_qsz h.w2
  omega
def footP (a b c d p q : Rat) : Rat × Rat := (a + (c - a) * footQ a b c d p q, b + (d - b) * footQ a b c d p q)
def noV : (Int × Int) × (Int × Int) × Bool := ((0, 0), (0, 0), false)

/-! i.OnSeg -/
noncomputable def iOnSegC := ct2 EV ESeg (fun p0 p1 => ((I64 p0.1.1 ∧ I64 p0.1.2) ∧ I64 p0.2.1 ∧ I64 p0.2.2) ∧ (((I64 p1.1.1.1 ∧ I64 p1.1.1.2) ∧ I64 p1.1.2.1 ∧ I64 p1.1.2.2) ∧ ((I64 p1.2.1.1 ∧ I64 p1.2.1.2) ∧ I64 p1.2.2.1 ∧ I64 p1.2.2.2))) (fun p0 p1 => [.lit (.bool (if (qOk p0.1.1 p0.1.2 ∧ qOk p0.2.1 p0.2.2) ∧ segOk p1.1.1.1 p1.1.1.2 p1.1.2.1 p1.1.2.2 p1.2.1.1 p1.2.1.2 p1.2.2.1 p1.2.2.2 then hasB (Rat.divInt p1.1.1.1 p1.1.1.2) (Rat.divInt p1.1.2.1 p1.1.2.2) (Rat.divInt p1.2.1.1 p1.2.1.2) (Rat.divInt p1.2.2.1 p1.2.2.2) (Rat.divInt p0.1.1 p0.1.2) (Rat.divInt p0.2.1 p0.2.2) else false))])
@[simp] theorem iOnSegC_at (a b c d : Int) (e f g h i j k l : Int) : iOnSegC [.agg [eQ a b, eQ c d], .agg [.agg [eQ e f, eQ g h], .agg [eQ i j, eQ k l]]] = (((I64 a ∧ I64 b) ∧ I64 c ∧ I64 d) ∧ (((I64 e ∧ I64 f) ∧ I64 g ∧ I64 h) ∧ ((I64 i ∧ I64 j) ∧ I64 k ∧ I64 l)), [.lit (.bool (if (qOk a b ∧ qOk c d) ∧ segOk e f g h i j k l then hasB (Rat.divInt e f) (Rat.divInt g h) (Rat.divInt i j) (Rat.divInt k l) (Rat.divInt a b) (Rat.divInt c d) else false))]) := ct2_at ((a, b), c, d) (((e, f), g, h), (i, j), k, l)
/-! i.Foot -/
noncomputable def iFootC := ct2 EV ESeg (fun p0 p1 => ((I64 p0.1.1 ∧ I64 p0.1.2) ∧ I64 p0.2.1 ∧ I64 p0.2.2) ∧ (((I64 p1.1.1.1 ∧ I64 p1.1.1.2) ∧ I64 p1.1.2.1 ∧ I64 p1.1.2.2) ∧ ((I64 p1.2.1.1 ∧ I64 p1.2.1.2) ∧ I64 p1.2.2.1 ∧ I64 p1.2.2.2))) (fun p0 p1 => vD (if (qOk p0.1.1 p0.1.2 ∧ qOk p0.2.1 p0.2.2) ∧ segOk p1.1.1.1 p1.1.1.2 p1.1.2.1 p1.1.2.2 p1.2.1.1 p1.2.1.2 p1.2.2.1 p1.2.2.2 then oV (footP (Rat.divInt p1.1.1.1 p1.1.1.2) (Rat.divInt p1.1.2.1 p1.1.2.2) (Rat.divInt p1.2.1.1 p1.2.1.2) (Rat.divInt p1.2.2.1 p1.2.2.2) (Rat.divInt p0.1.1 p0.1.2) (Rat.divInt p0.2.1 p0.2.2)).1 (footP (Rat.divInt p1.1.1.1 p1.1.1.2) (Rat.divInt p1.1.2.1 p1.1.2.2) (Rat.divInt p1.2.1.1 p1.2.1.2) (Rat.divInt p1.2.2.1 p1.2.2.2) (Rat.divInt p0.1.1 p0.1.2) (Rat.divInt p0.2.1 p0.2.2)).2 else noV))
@[simp] theorem iFootC_at (a b c d : Int) (e f g h i j k l : Int) : iFootC [.agg [eQ a b, eQ c d], .agg [.agg [eQ e f, eQ g h], .agg [eQ i j, eQ k l]]] = (((I64 a ∧ I64 b) ∧ I64 c ∧ I64 d) ∧ (((I64 e ∧ I64 f) ∧ I64 g ∧ I64 h) ∧ ((I64 i ∧ I64 j) ∧ I64 k ∧ I64 l)), vD (if (qOk a b ∧ qOk c d) ∧ segOk e f g h i j k l then oV (footP (Rat.divInt e f) (Rat.divInt g h) (Rat.divInt i j) (Rat.divInt k l) (Rat.divInt a b) (Rat.divInt c d)).1 (footP (Rat.divInt e f) (Rat.divInt g h) (Rat.divInt i j) (Rat.divInt k l) (Rat.divInt a b) (Rat.divInt c d)).2 else noV)) := ct2_at ((a, b), c, d) (((e, f), g, h), (i, j), k, l)
/-! i.Near -/
noncomputable def iNearC := ct2 EV ESeg (fun p0 p1 => ((I64 p0.1.1 ∧ I64 p0.1.2) ∧ I64 p0.2.1 ∧ I64 p0.2.2) ∧ (((I64 p1.1.1.1 ∧ I64 p1.1.1.2) ∧ I64 p1.1.2.1 ∧ I64 p1.1.2.2) ∧ ((I64 p1.2.1.1 ∧ I64 p1.2.1.2) ∧ I64 p1.2.2.1 ∧ I64 p1.2.2.2))) (fun p0 p1 => vD (if (qOk p0.1.1 p0.1.2 ∧ qOk p0.2.1 p0.2.2) ∧ segOk p1.1.1.1 p1.1.1.2 p1.1.2.1 p1.1.2.2 p1.2.1.1 p1.2.1.2 p1.2.2.1 p1.2.2.2 then oV (nearQ (Rat.divInt p1.1.1.1 p1.1.1.2) (Rat.divInt p1.1.2.1 p1.1.2.2) (Rat.divInt p1.2.1.1 p1.2.1.2) (Rat.divInt p1.2.2.1 p1.2.2.2) (Rat.divInt p0.1.1 p0.1.2) (Rat.divInt p0.2.1 p0.2.2)).1 (nearQ (Rat.divInt p1.1.1.1 p1.1.1.2) (Rat.divInt p1.1.2.1 p1.1.2.2) (Rat.divInt p1.2.1.1 p1.2.1.2) (Rat.divInt p1.2.2.1 p1.2.2.2) (Rat.divInt p0.1.1 p0.1.2) (Rat.divInt p0.2.1 p0.2.2)).2 else noV))
@[simp] theorem iNearC_at (a b c d : Int) (e f g h i j k l : Int) : iNearC [.agg [eQ a b, eQ c d], .agg [.agg [eQ e f, eQ g h], .agg [eQ i j, eQ k l]]] = (((I64 a ∧ I64 b) ∧ I64 c ∧ I64 d) ∧ (((I64 e ∧ I64 f) ∧ I64 g ∧ I64 h) ∧ ((I64 i ∧ I64 j) ∧ I64 k ∧ I64 l)), vD (if (qOk a b ∧ qOk c d) ∧ segOk e f g h i j k l then oV (nearQ (Rat.divInt e f) (Rat.divInt g h) (Rat.divInt i j) (Rat.divInt k l) (Rat.divInt a b) (Rat.divInt c d)).1 (nearQ (Rat.divInt e f) (Rat.divInt g h) (Rat.divInt i j) (Rat.divInt k l) (Rat.divInt a b) (Rat.divInt c d)).2 else noV)) := ct2_at ((a, b), c, d) (((e, f), g, h), (i, j), k, l)
/-! i.Dist2 -/
noncomputable def iDist2C := ct2 EV ESeg (fun p0 p1 => ((I64 p0.1.1 ∧ I64 p0.1.2) ∧ I64 p0.2.1 ∧ I64 p0.2.2) ∧ (((I64 p1.1.1.1 ∧ I64 p1.1.1.2) ∧ I64 p1.1.2.1 ∧ I64 p1.1.2.2) ∧ ((I64 p1.2.1.1 ∧ I64 p1.2.1.2) ∧ I64 p1.2.2.1 ∧ I64 p1.2.2.2))) (fun p0 p1 => d3 (if (qOk p0.1.1 p0.1.2 ∧ qOk p0.2.1 p0.2.2) ∧ segOk p1.1.1.1 p1.1.1.2 p1.1.2.1 p1.1.2.2 p1.2.1.1 p1.2.1.2 p1.2.2.1 p1.2.2.2 then oq (dist2Q (Rat.divInt p0.1.1 p0.1.2) (Rat.divInt p0.2.1 p0.2.2) (nearQ (Rat.divInt p1.1.1.1 p1.1.1.2) (Rat.divInt p1.1.2.1 p1.1.2.2) (Rat.divInt p1.2.1.1 p1.2.1.2) (Rat.divInt p1.2.2.1 p1.2.2.2) (Rat.divInt p0.1.1 p0.1.2) (Rat.divInt p0.2.1 p0.2.2)).1 (nearQ (Rat.divInt p1.1.1.1 p1.1.1.2) (Rat.divInt p1.1.2.1 p1.1.2.2) (Rat.divInt p1.2.1.1 p1.2.1.2) (Rat.divInt p1.2.2.1 p1.2.2.2) (Rat.divInt p0.1.1 p0.1.2) (Rat.divInt p0.2.1 p0.2.2)).2) else no3))
@[simp] theorem iDist2C_at (a b c d : Int) (e f g h i j k l : Int) : iDist2C [.agg [eQ a b, eQ c d], .agg [.agg [eQ e f, eQ g h], .agg [eQ i j, eQ k l]]] = (((I64 a ∧ I64 b) ∧ I64 c ∧ I64 d) ∧ (((I64 e ∧ I64 f) ∧ I64 g ∧ I64 h) ∧ ((I64 i ∧ I64 j) ∧ I64 k ∧ I64 l)), d3 (if (qOk a b ∧ qOk c d) ∧ segOk e f g h i j k l then oq (dist2Q (Rat.divInt a b) (Rat.divInt c d) (nearQ (Rat.divInt e f) (Rat.divInt g h) (Rat.divInt i j) (Rat.divInt k l) (Rat.divInt a b) (Rat.divInt c d)).1 (nearQ (Rat.divInt e f) (Rat.divInt g h) (Rat.divInt i j) (Rat.divInt k l) (Rat.divInt a b) (Rat.divInt c d)).2) else no3)) := ct2_at ((a, b), c, d) (((e, f), g, h), (i, j), k, l)
end Go.Proofs.Ytdkgkcnllhcamaa.Ae

/-! The plain laws of pieces of the plane: on a piece, what two pieces have in common. No condition. -/
namespace Go.Proofs.Ytdkgkcnllhcamaa.Ae
open Go Go.RowKit Go.Proofs.Ytdkgkcnllhcamaa.Dig
theorem isg_pos (z : Int) : 0 < z.sign ↔ 0 < z := by
  rcases Int.lt_trichotomy z 0 with h | h | h
  · rw [Int.sign_eq_neg_one_of_neg h]; omega
  · subst h; simp
  · rw [Int.sign_eq_one_of_pos h]; omega
theorem isg_neg (z : Int) : z.sign < 0 ↔ z < 0 := by
  rcases Int.lt_trichotomy z 0 with h | h | h
  · rw [Int.sign_eq_neg_one_of_neg h]; omega
  · subst h; simp
  · rw [Int.sign_eq_one_of_pos h]; omega
theorem isg_zero (z : Int) : z.sign = 0 ↔ z = 0 := by
  rcases Int.lt_trichotomy z 0 with h | h | h
  · rw [Int.sign_eq_neg_one_of_neg h]; omega
  · subst h; simp
  · rw [Int.sign_eq_one_of_pos h]; omega
theorem qcmp_lt (a b : Rat) : qcmp a b < 0 ↔ a < b := by unfold qcmp; rw [isg_neg, Rat.lt_iff]; omega
theorem qcmp_gt (a b : Rat) : 0 < qcmp a b ↔ b < a := by unfold qcmp; rw [isg_pos, Rat.lt_iff]; omega
theorem qcmp_eq (a b : Rat) : qcmp a b = 0 ↔ a = b := by
  constructor
  · intro h
    have h1 := (fun x => by have := (qcmp_lt a b).mpr x; omega : ¬ a < b)
    have h2 := (fun x => by have := (qcmp_gt a b).mpr x; omega : ¬ b < a)
    grind
  · rintro rfl; unfold qcmp; simp
theorem qs_neg (a : Rat) : a.num.sign < 0 ↔ a < 0 := by rw [isg_neg]; have := Rat.num_nonneg (q := a); grind
theorem qs_pos (a : Rat) : 0 < a.num.sign ↔ 0 < a := by rw [isg_pos]; have := Rat.num_nonneg (q := a); have := Rat.num_eq_zero (q := a); grind
theorem qs_zero (a : Rat) : a.num.sign = 0 ↔ a = 0 := by rw [isg_zero]; exact Rat.num_eq_zero
theorem lohi (a b : Rat) : (loQ a b = a ∧ hiQ a b = b ∧ a ≤ b) ∨ (loQ a b = b ∧ hiQ a b = a ∧ b < a) := by
  unfold loQ hiQ
  by_cases h : 0 < qcmp a b
  · exact .inr ⟨if_pos h, if_pos h, (qcmp_gt _ _).mp h⟩
  · have h' : ¬ b < a := fun x => h ((qcmp_gt a b).mpr x)
    exact .inl ⟨if_neg h, if_neg h, by grind⟩
theorem lohi_same (a : Rat) : loQ a a = a ∧ hiQ a a = a := by unfold loQ hiQ; split <;> exact ⟨rfl, rfl⟩
/-- Between two numbers, as a product tells it. -/
theorem btw (a b p : Rat) : bapart a b p p = false ↔ (p - a) * (p - b) ≤ 0 := by
  unfold bapart
  rw [(lohi_same p).1, (lohi_same p).2, Bool.or_eq_false_iff, decide_eq_false_iff_not, decide_eq_false_iff_not, qcmp_lt, qcmp_lt]
  rcases lohi a b with ⟨e1, e2, h⟩ | ⟨e1, e2, h⟩ <;> rw [e1, e2]
  · constructor
    · rintro ⟨h1, h2⟩
      have : 0 ≤ (p - a) * (b - p) := Rat.mul_nonneg (by grind) (by grind)
      grind
    · intro h0
      constructor
      · intro h1
        have : 0 < (p - a) * (p - b) := Rat.mul_pos (by grind) (by grind)
        grind
      · intro h1
        have : 0 < (a - p) * (b - p) := Rat.mul_pos (by grind) (by grind)
        grind
  · constructor
    · rintro ⟨h1, h2⟩
      have : 0 ≤ (a - p) * (p - b) := Rat.mul_nonneg (by grind) (by grind)
      grind
    · intro h0
      constructor
      · intro h1
        have : 0 < (p - a) * (p - b) := Rat.mul_pos (by grind) (by grind)
        grind
      · intro h1
        have : 0 < (a - p) * (b - p) := Rat.mul_pos (by grind) (by grind)
        grind
theorem sq_zero {a : Rat} (h : a * a ≤ 0) : a = 0 := by
  have h1 := sq_nn a
  have h2 : a * a = 0 := by grind
  rcases Rat.mul_eq_zero.mp h2 with x | x <;> exact x
theorem sq_p {a : Rat} (h : a ≠ 0) : 0 < a * a := by
  have h1 := sq_nn a
  have : a * a ≠ 0 := fun e => h (sq_zero (by grind))
  grind
/-- On a straight piece: by its box, or by the angle at the place. -/
theorem on_has {a b c d p q : Rat} (hn : ¬ (c - a = 0 ∧ d - b = 0)) :
    hasB a b c d p q = (decide ((turnQ a b c d p q).num.sign = 0) && decide ((dotQ (a - p) (b - q) (c - p) (d - q)).num.sign ≤ 0)) := by
  by_cases ht : (turnQ a b c d p q).num.sign = 0
  · have t0 : turnQ a b c d p q = 0 := (qs_zero _).mp ht
    have hd : (dotQ (a - p) (b - q) (c - p) (d - q)).num.sign ≤ 0 ↔ dotQ (a - p) (b - q) (c - p) (d - q) ≤ 0 := by
      have := qs_pos (dotQ (a - p) (b - q) (c - p) (d - q))
      constructor
      · intro h
        have : ¬ 0 < dotQ (a - p) (b - q) (c - p) (d - q) := fun x => by have := (qs_pos _).mpr x; omega
        grind
      · intro h
        have : ¬ 0 < (dotQ (a - p) (b - q) (c - p) (d - q)).num.sign := fun x => by have := (qs_pos _).mp x; grind
        omega
    have key : (bapart a c p p = false ∧ bapart b d q q = false) ↔ dotQ (a - p) (b - q) (c - p) (d - q) ≤ 0 := by
      rw [btw, btw]
      unfold turnQ crossQ at t0
      unfold dotQ
      generalize hX : p - a = X at *
      generalize hY : q - b = Y at *
      generalize hU : c - a = U at *
      generalize hW : d - b = W at *
      have e1 : p - c = X - U := by grind
      have e2 : q - d = Y - W := by grind
      have e3 : a - p = -X := by grind
      have e4 : b - q = -Y := by grind
      have e5 : c - p = U - X := by grind
      have e6 : d - q = W - Y := by grind
      rw [e1, e2, e3, e4, e5, e6]
      constructor
      · rintro ⟨h1, h2⟩; grind
      · intro h
        have id1 : X * (X - U) * (W * W) = Y * (Y - W) * (U * U) := by grind
        have nnU := sq_nn U
        have nnW := sq_nn W
        constructor
        · refine Decidable.byContradiction fun h1 => ?_
          have h1 : 0 < X * (X - U) := by grind
          have h2 : Y * (Y - W) < 0 := by grind
          have p1 : 0 ≤ X * (X - U) * (W * W) := Rat.mul_nonneg (by grind) nnW
          have p2 : 0 ≤ -(Y * (Y - W)) * (U * U) := Rat.mul_nonneg (by grind) nnU
          have hU0 : U = 0 := Decidable.byContradiction fun hU => by
            have : 0 < -(Y * (Y - W)) * (U * U) := Rat.mul_pos (by grind) (sq_p hU)
            grind
          have hW0 : W = 0 := Decidable.byContradiction fun hW => by
            have : 0 < X * (X - U) * (W * W) := Rat.mul_pos h1 (sq_p hW)
            grind
          exact hn ⟨hU0, hW0⟩
        · refine Decidable.byContradiction fun h1 => ?_
          have h1 : 0 < Y * (Y - W) := by grind
          have h2 : X * (X - U) < 0 := by grind
          have p1 : 0 ≤ Y * (Y - W) * (U * U) := Rat.mul_nonneg (by grind) nnU
          have p2 : 0 ≤ -(X * (X - U)) * (W * W) := Rat.mul_nonneg (by grind) nnW
          have hW0 : W = 0 := Decidable.byContradiction fun hW => by
            have : 0 < -(X * (X - U)) * (W * W) := Rat.mul_pos (by grind) (sq_p hW)
            grind
          have hU0 : U = 0 := Decidable.byContradiction fun hU => by
            have : 0 < Y * (Y - W) * (U * U) := Rat.mul_pos h1 (sq_p hU)
            grind
          exact hn ⟨hU0, hW0⟩
    unfold hasB
    rw [decide_eq_true ht, Bool.and_true, Bool.true_and]
    by_cases hD : dotQ (a - p) (b - q) (c - p) (d - q) ≤ 0
    · obtain ⟨k1, k2⟩ := key.mpr hD
      rw [k1, k2, decide_eq_true (hd.mpr hD)]; rfl
    · have : ¬ (bapart a c p p = false ∧ bapart b d q q = false) := fun x => hD (key.mp x)
      rw [decide_eq_false (fun x => hD (hd.mp x))]
      cases h1 : bapart a c p p <;> cases h2 : bapart b d q q <;> simp_all
  · unfold hasB
    rw [decide_eq_false ht, Bool.and_false, Bool.false_and]
theorem ap_pt {a c e g x : Rat} (h1 : (x - a) * (x - c) ≤ 0) (h2 : (x - e) * (x - g) ≤ 0) : bapart a c e g = false := by
  have k1 := (btw a c x).mpr h1
  have k2 := (btw e g x).mpr h2
  unfold bapart at k1 k2 ⊢
  rw [(lohi_same x).1, (lohi_same x).2, Bool.or_eq_false_iff, decide_eq_false_iff_not, decide_eq_false_iff_not, qcmp_lt, qcmp_lt] at k1 k2
  rw [Bool.or_eq_false_iff, decide_eq_false_iff_not, decide_eq_false_iff_not, qcmp_lt, qcmp_lt]
  grind
theorem pcmp_le (a b c d : Rat) : pcmp a b c d ≤ 0 ↔ (a < c ∨ a = c ∧ b ≤ d) := by
  unfold pcmp
  by_cases h : qcmp a c = 0
  · rw [if_pos h]
    have e := (qcmp_eq a c).mp h
    have := qcmp_gt b d
    constructor
    · intro h1
      have : ¬ d < b := fun x => by have := this.mpr x; omega
      exact .inr ⟨e, by grind⟩
    · rintro (h1 | ⟨_, h1⟩)
      · grind
      · have : ¬ 0 < qcmp b d := fun x => by have := this.mp x; grind
        omega
  · rw [if_neg h]
    have hne : a ≠ c := fun e => h ((qcmp_eq a c).mpr e)
    have h2 := qcmp_lt a c
    constructor
    · intro h1; exact .inl (h2.mp (by omega))
    · rintro (h1 | ⟨h1, _⟩)
      · have := h2.mpr h1; omega
      · exact absurd h1 hne
theorem pcmp_swap (a b c d : Rat) : 0 < pcmp a b c d → pcmp c d a b ≤ 0 := by
  intro h
  have h1 : ¬ pcmp a b c d ≤ 0 := by omega
  rw [pcmp_le] at h1 ⊢
  grind
theorem pcmp_trans {a b c d e f : Rat} (h1 : pcmp a b c d ≤ 0) (h2 : pcmp c d e f ≤ 0) : pcmp a b e f ≤ 0 := by
  rw [pcmp_le] at *
  grind
theorem lexbox {a b c d p q : Rat} (h1 : pcmp a b p q ≤ 0) (h2 : pcmp p q c d ≤ 0) (hc : crossQ (p - a) (q - b) (c - a) (d - b) = 0) :
    (p - a) * (p - c) ≤ 0 ∧ (q - b) * (q - d) ≤ 0 := by
  rw [pcmp_le] at h1 h2
  unfold crossQ at hc
  have x1 : 0 ≤ p - a := by grind
  have x2 : 0 ≤ c - p := by grind
  have hx := Rat.mul_nonneg x1 x2
  refine ⟨by grind, ?_⟩
  by_cases hD : c = a
  · have y1 : 0 ≤ q - b := by grind
    have y2 : 0 ≤ d - q := by grind
    have := Rat.mul_nonneg y1 y2
    grind
  · have hD' : c - a ≠ 0 := by grind
    have hpos := sq_p hD'
    refine Decidable.byContradiction fun hn => ?_
    have hZ : 0 < (q - b) * (q - d) := by grind
    have p1 := Rat.mul_pos hZ hpos
    have e1 : (q - b) * (q - d) * ((c - a) * (c - a)) = ((p - a) * (p - c)) * ((d - b) * (d - b)) := by grind
    have p2 : 0 ≤ ((p - a) * (c - p)) * ((d - b) * (d - b)) := Rat.mul_nonneg hx (sq_nn _)
    grind
def upQ (a b c d : Rat) : (Rat × Rat) × Rat × Rat := if 0 < pcmp a b c d then ((c, d), a, b) else ((a, b), c, d)
def pc2 (p q : Rat × Rat) : Int := pcmp p.1 p.2 q.1 q.2
def gtP (x p : Rat × Rat) : Rat × Rat := if 0 < pc2 x p then x else p
def ltP (x p : Rat × Rat) : Rat × Rat := if pc2 x p < 0 then x else p
def endQ (lo hi : Rat × Rat) : Option (Int × (Rat × Rat) × Rat × Rat) := if pc2 lo hi < 0 then some (2, lo, hi) else if pc2 lo hi = 0 then some (1, lo, lo) else none
def lineQ (a b c d e f g h : Rat) : Option (Int × (Rat × Rat) × Rat × Rat) := endQ (gtP (upQ e f g h).1 (upQ a b c d).1) (ltP (upQ e f g h).2 (upQ a b c d).2)
def parQ (a b c d e f g h : Rat) : Rat := crossQ (c - a) (d - b) (g - e) (h - f)
def tQ (a b c d e f g h : Rat) : Rat := crossQ (e - a) (f - b) (g - e) (h - f) / parQ a b c d e f g h
def sQ (a b c d e f g h : Rat) : Rat := crossQ (e - a) (f - b) (c - a) (d - b) / parQ a b c d e f g h
def inU (t : Rat) : Bool := !(decide (t.num.sign < 0)) && !(decide (0 < qcmp t 1))
def smeetQ (a b c d e f g h : Rat) : Option (Int × (Rat × Rat) × Rat × Rat) :=
  if (parQ a b c d e f g h).num.sign = 0 then
    if (crossQ (c - a) (d - b) (e - a) (f - b)).num.sign = 0 then lineQ a b c d e f g h else none
  else if inU (tQ a b c d e f g h) && inU (sQ a b c d e f g h) then some (1, (a + (c - a) * tQ a b c d e f g h, b + (d - b) * tQ a b c d e f g h), a + (c - a) * tQ a b c d e f g h, b + (d - b) * tQ a b c d e f g h)
  else none
def meetQ (a b c d e f g h : Rat) : Option (Int × (Rat × Rat) × Rat × Rat) := if bapart a c e g || bapart b d f h then none else smeetQ a b c d e f g h
theorem up_spec (a b c d : Rat) : pc2 (upQ a b c d).1 (upQ a b c d).2 ≤ 0 ∧ ((upQ a b c d).1 = (a, b) ∧ (upQ a b c d).2 = (c, d) ∨ (upQ a b c d).1 = (c, d) ∧ (upQ a b c d).2 = (a, b)) := by
  unfold upQ pc2
  by_cases h : 0 < pcmp a b c d
  · rw [if_pos h]; exact ⟨pcmp_swap _ _ _ _ h, .inr ⟨rfl, rfl⟩⟩
  · rw [if_neg h]; exact ⟨by show pcmp a b c d ≤ 0; omega, .inl ⟨rfl, rfl⟩⟩
theorem inU_spec {t : Rat} (h : inU t = true) : 0 ≤ t ∧ t ≤ 1 := by
  unfold inU at h
  rw [Bool.and_eq_true, Bool.not_eq_true', Bool.not_eq_true', decide_eq_false_iff_not, decide_eq_false_iff_not, qs_neg, qcmp_gt] at h
  grind
theorem par_tri {U W V X Y Z : Rat} (hn : ¬ (U = 0 ∧ W = 0)) (h1 : U * X - W * V = 0) (h2 : U * Z - W * Y = 0) : Y * X - Z * V = 0 := by
  by_cases hU : U = 0
  · have hW : W ≠ 0 := fun e => hn ⟨hU, e⟩
    have e1 : W * V = 0 := by grind
    have e2 : W * Y = 0 := by grind
    have e3 : V = 0 := (Rat.mul_eq_zero.mp e1).resolve_left hW
    have e4 : Y = 0 := (Rat.mul_eq_zero.mp e2).resolve_left hW
    grind
  · have : U * (Y * X - Z * V) = 0 := by grind
    exact (Rat.mul_eq_zero.mp this).resolve_left hU
theorem smeet_box {a b c d e f g h : Rat} (hn : ¬ (c - a = 0 ∧ d - b = 0)) (hm : ¬ (g - e = 0 ∧ h - f = 0)) {r : Int × (Rat × Rat) × Rat × Rat} (hs : smeetQ a b c d e f g h = some r) : bapart a c e g = false ∧ bapart b d f h = false := by
  unfold smeetQ at hs
  by_cases hk : (parQ a b c d e f g h).num.sign = 0
  · rw [if_pos hk] at hs
    by_cases hw : (crossQ (c - a) (d - b) (e - a) (f - b)).num.sign = 0
    · rw [if_pos hw] at hs
      have k0 : parQ a b c d e f g h = 0 := (qs_zero _).mp hk
      have w0 : crossQ (c - a) (d - b) (e - a) (f - b) = 0 := (qs_zero _).mp hw
      unfold parQ crossQ at k0
      unfold crossQ at w0
      have w1 : (e - a) * (h - f) - (f - b) * (g - e) = 0 := by
        have := par_tri hn k0 w0
        grind
      obtain ⟨o1, u1⟩ := up_spec a b c d
      obtain ⟨o2, u2⟩ := up_spec e f g h
      unfold lineQ at hs
      generalize hP : gtP (upQ e f g h).1 (upQ a b c d).1 = P at hs
      generalize hR : ltP (upQ e f g h).2 (upQ a b c d).2 = R at hs
      generalize upQ a b c d = u at *
      generalize upQ e f g h = v at *
      have pr : pc2 P R ≤ 0 := by unfold endQ at hs; grind
      have p1 : pc2 u.1 P ≤ 0 ∧ pc2 v.1 P ≤ 0 ∧ (P = u.1 ∨ P = v.1) := by
        rw [← hP]; unfold gtP
        by_cases hc : 0 < pc2 v.1 u.1
        · rw [if_pos hc]; exact ⟨pcmp_swap _ _ _ _ hc, by unfold pc2; rw [pcmp_le]; grind, .inr rfl⟩
        · rw [if_neg hc]; exact ⟨by unfold pc2; rw [pcmp_le]; grind, by omega, .inl rfl⟩
      have p2 : pc2 R u.2 ≤ 0 ∧ pc2 R v.2 ≤ 0 := by
        rw [← hR]; unfold ltP
        by_cases hc : pc2 v.2 u.2 < 0
        · rw [if_pos hc]; exact ⟨by omega, by unfold pc2; rw [pcmp_le]; grind⟩
        · rw [if_neg hc]
          refine ⟨by unfold pc2; rw [pcmp_le]; grind, ?_⟩
          by_cases h0 : 0 < pc2 v.2 u.2
          · exact pcmp_swap _ _ _ _ h0
          · have : pcmp v.2.1 v.2.2 u.2.1 u.2.2 = 0 := by unfold pc2 at hc h0; omega
            have hh : ¬ (qcmp v.2.1 u.2.1 ≠ 0) := by
              intro hq; unfold pcmp at this; rw [if_neg hq] at this; exact hq this
            have hq : qcmp v.2.1 u.2.1 = 0 := by omega
            unfold pcmp at this
            rw [if_pos hq] at this
            have e1 := (qcmp_eq _ _).mp hq
            have e2 := (qcmp_eq _ _).mp this
            unfold pc2; rw [pcmp_le]; grind
      have q1 : pc2 P u.2 ≤ 0 := pcmp_trans pr p2.1
      have q2 : pc2 P v.2 ≤ 0 := pcmp_trans pr p2.2
      have c1 : crossQ (P.1 - u.1.1) (P.2 - u.1.2) (u.2.1 - u.1.1) (u.2.2 - u.1.2) = 0 := by
        unfold crossQ
        rcases p1.2.2 with e0 | e0 <;> rcases u1 with ⟨e1, e2⟩ | ⟨e1, e2⟩ <;> rcases u2 with ⟨e3, e4⟩ | ⟨e3, e4⟩ <;> simp only [e0, e1, e2, e3, e4] <;> grind
      have c2 : crossQ (P.1 - v.1.1) (P.2 - v.1.2) (v.2.1 - v.1.1) (v.2.2 - v.1.2) = 0 := by
        unfold crossQ
        rcases p1.2.2 with e0 | e0 <;> rcases u1 with ⟨e1, e2⟩ | ⟨e1, e2⟩ <;> rcases u2 with ⟨e3, e4⟩ | ⟨e3, e4⟩ <;> simp only [e0, e1, e2, e3, e4] <;> grind
      have b1 := lexbox p1.1 q1 c1
      have b2 := lexbox p1.2.1 q2 c2
      have b3 : (P.1 - a) * (P.1 - c) ≤ 0 ∧ (P.2 - b) * (P.2 - d) ≤ 0 := by
        rcases u1 with ⟨e1, e2⟩ | ⟨e1, e2⟩ <;> rw [e1, e2] at b1 <;> refine ⟨?_, ?_⟩ <;> grind
      have b4 : (P.1 - e) * (P.1 - g) ≤ 0 ∧ (P.2 - f) * (P.2 - h) ≤ 0 := by
        rcases u2 with ⟨e1, e2⟩ | ⟨e1, e2⟩ <;> rw [e1, e2] at b2 <;> refine ⟨?_, ?_⟩ <;> grind
      exact ⟨ap_pt b3.1 b4.1, ap_pt b3.2 b4.2⟩
    · rw [if_neg hw] at hs; simp at hs
  · rw [if_neg hk] at hs
    by_cases hi : (inU (tQ a b c d e f g h) && inU (sQ a b c d e f g h)) = true
    · rw [Bool.and_eq_true] at hi
      have ht := inU_spec hi.1
      have hs' := inU_spec hi.2
      have k0 : parQ a b c d e f g h ≠ 0 := fun x => hk ((qs_zero _).mpr x)
      have et : parQ a b c d e f g h * tQ a b c d e f g h = crossQ (e - a) (f - b) (g - e) (h - f) := by unfold tQ; rw [Rat.mul_comm]; exact Rat.div_mul_cancel k0
      have es : parQ a b c d e f g h * sQ a b c d e f g h = crossQ (e - a) (f - b) (c - a) (d - b) := by unfold sQ; rw [Rat.mul_comm]; exact Rat.div_mul_cancel k0
      generalize tQ a b c d e f g h = t at *
      generalize sQ a b c d e f g h = s at *
      have i1 : parQ a b c d e f g h * (a + (c - a) * t - (e + (g - e) * s)) = 0 := by
        have : parQ a b c d e f g h * (a + (c - a) * t - (e + (g - e) * s)) = parQ a b c d e f g h * (a - e) + (c - a) * (parQ a b c d e f g h * t) - (g - e) * (parQ a b c d e f g h * s) := by grind
        rw [this, et, es]; unfold parQ crossQ; grind
      have i2 : parQ a b c d e f g h * (b + (d - b) * t - (f + (h - f) * s)) = 0 := by
        have : parQ a b c d e f g h * (b + (d - b) * t - (f + (h - f) * s)) = parQ a b c d e f g h * (b - f) + (d - b) * (parQ a b c d e f g h * t) - (h - f) * (parQ a b c d e f g h * s) := by grind
        rw [this, et, es]; unfold parQ crossQ; grind
      have j1 := (Rat.mul_eq_zero.mp i1).resolve_left k0
      have j2 := (Rat.mul_eq_zero.mp i2).resolve_left k0
      have r1 : 0 ≤ t * (1 - t) := Rat.mul_nonneg ht.1 (by grind)
      have r2 : 0 ≤ s * (1 - s) := Rat.mul_nonneg hs'.1 (by grind)
      have m1 := Rat.mul_nonneg r1 (sq_nn (c - a))
      have m2 := Rat.mul_nonneg r1 (sq_nn (d - b))
      have m3 := Rat.mul_nonneg r2 (sq_nn (g - e))
      have m4 := Rat.mul_nonneg r2 (sq_nn (h - f))
      have x1 : a + (c - a) * t = e + (g - e) * s := by grind
      have x2 : b + (d - b) * t = f + (h - f) * s := by grind
      refine ⟨ap_pt (x := a + (c - a) * t) ?_ ?_, ap_pt (x := b + (d - b) * t) ?_ ?_⟩
      · grind
      · rw [x1]; grind
      · grind
      · rw [x2]; grind
    · rw [if_neg hi] at hs; simp at hs
/-- The quick test changes nothing. -/
theorem meet_smeet {a b c d e f g h : Rat} (hn : ¬ (c - a = 0 ∧ d - b = 0)) (hm : ¬ (g - e = 0 ∧ h - f = 0)) : meetQ a b c d e f g h = smeetQ a b c d e f g h := by
  unfold meetQ
  cases hs : smeetQ a b c d e f g h with
  | none => simp
  | some r => obtain ⟨h1, h2⟩ := smeet_box hn hm hs; rw [h1, h2]; simp
end Go.Proofs.Ytdkgkcnllhcamaa.Ae

/-! OnSeg, Foot, Near, Dist2: the reference, and the laws.  No condition. -/
namespace Go.Proofs.Ytdkgkcnllhcamaa.Ae
open Go Go.RowKit Go.Proofs.Ytdkgkcnllhcamaa.Dig
@[simp] theorem eqQ_b (a b c d : Int) : eqQC [eQ a b, eQ c d] = (True, [.lit (.bool (decide (a = c) && decide (b = d)))]) := eqQC_at a b c d
theorem rat_one (a : Int) : Rat.divInt a 1 = (a : Rat) := by rw [Rat.divInt_eq_div]; simp; grind

/-! s.SegOk -/
noncomputable def sSegOkC := ct1 ESeg (fun p0 => (((I64 p0.1.1.1 ∧ I64 p0.1.1.2) ∧ I64 p0.1.2.1 ∧ I64 p0.1.2.2) ∧ ((I64 p0.2.1.1 ∧ I64 p0.2.1.2) ∧ I64 p0.2.2.1 ∧ I64 p0.2.2.2))) (fun p0 => [.lit (.bool (decide (segOk p0.1.1.1 p0.1.1.2 p0.1.2.1 p0.1.2.2 p0.2.1.1 p0.2.1.2 p0.2.2.1 p0.2.2.2)))])
@[simp] theorem sSegOkC_at (a b c d e f g h : Int) : sSegOkC [.agg [.agg [eQ a b, eQ c d], .agg [eQ e f, eQ g h]]] = ((((I64 a ∧ I64 b) ∧ I64 c ∧ I64 d) ∧ ((I64 e ∧ I64 f) ∧ I64 g ∧ I64 h)), [.lit (.bool (decide (segOk a b c d e f g h)))]) := ct1_at (((a, b), c, d), (e, f), g, h)
/-! s.l3V -/
noncomputable def l3VC := ct1 EPn (fun p0 => True) (fun p0 => vD (oV p0.1 p0.2))
@[simp] theorem l3VC_at (a b : Rat) : l3VC [.agg [nD a, nD b]] = (True, vD (oV a b)) := ct1_at (a, b)
/-! s.l1rInt -/
noncomputable def l1rIntC := ct1 EInt (fun p0 => I64 p0) (fun p0 => [nD (p0 : Rat)])
@[simp] theorem l1rIntC_at (a : Int) : l1rIntC [.lit (.int .i64 a)] = (I64 a, [nD (a : Rat)]) := ct1_at a
/-! s.l3Add -/
noncomputable def l3AddC := ct2 EPn EPn (fun p0 p1 => qsz p0.1 + qsz p0.2 + qsz p1.1 + qsz p1.2 < LM) (fun p0 p1 => [.agg [nD (p0.1 + p1.1), nD (p0.2 + p1.2)]])
@[simp] theorem l3AddC_at (a b : Rat) (c d : Rat) : l3AddC [.agg [nD a, nD b], .agg [nD c, nD d]] = (qsz a + qsz b + qsz c + qsz d < LM, [.agg [nD (a + c), nD (b + d)]]) := ct2_at (a, b) (c, d)
/-! s.l3Times -/
noncomputable def l3TimesC := ct2 EPn ENum (fun p0 p1 => qsz p0.1 + qsz p0.2 + qsz p1 < LM) (fun p0 p1 => [.agg [nD (p0.1 * p1), nD (p0.2 * p1)]])
@[simp] theorem l3TimesC_at (a b : Rat) (c : Rat) : l3TimesC [.agg [nD a, nD b], nD c] = (qsz a + qsz b + qsz c < LM, [.agg [nD (a * c), nD (b * c)]]) := ct2_at (a, b) c
/-! s.l3Dot -/
noncomputable def l3DotC := ct2 EPn EPn (fun p0 p1 => qsz p0.1 + qsz p0.2 + qsz p1.1 + qsz p1.2 < LM) (fun p0 p1 => [nD (dotQ p0.1 p0.2 p1.1 p1.2)])
@[simp] theorem l3DotC_at (a b : Rat) (c d : Rat) : l3DotC [.agg [nD a, nD b], .agg [nD c, nD d]] = (qsz a + qsz b + qsz c + qsz d < LM, [nD (dotQ a b c d)]) := ct2_at (a, b) (c, d)
/-! s.l3On -/
noncomputable def l3OnC := ct3 EPn EPn EPn (fun p0 p1 p2 => qsz p1.1 + qsz p1.2 + qsz p2.1 + qsz p2.2 + qsz p0.1 + qsz p0.2 < 10000000 ∧ ¬ (p2.1 - p1.1 = 0 ∧ p2.2 - p1.2 = 0)) (fun p0 p1 p2 => [.lit (.bool (hasB p1.1 p1.2 p2.1 p2.2 p0.1 p0.2))])
@[simp] theorem l3OnC_at (p q : Rat) (a b : Rat) (c d : Rat) : l3OnC [.agg [nD p, nD q], .agg [nD a, nD b], .agg [nD c, nD d]] = (qsz a + qsz b + qsz c + qsz d + qsz p + qsz q < 10000000 ∧ ¬ (c - a = 0 ∧ d - b = 0), [.lit (.bool (hasB a b c d p q))]) := ct3_at (p, q) (a, b) (c, d)
/-! s.l3Foot -/
noncomputable def l3FootC := ct3 EPn EPn EPn (fun p0 p1 p2 => qsz p1.1 + qsz p1.2 + qsz p2.1 + qsz p2.2 + qsz p0.1 + qsz p0.2 < 10000000 ∧ ¬ (p2.1 - p1.1 = 0 ∧ p2.2 - p1.2 = 0)) (fun p0 p1 p2 => [nD (footQ p1.1 p1.2 p2.1 p2.2 p0.1 p0.2)])
@[simp] theorem l3FootC_at (p q : Rat) (a b : Rat) (c d : Rat) : l3FootC [.agg [nD p, nD q], .agg [nD a, nD b], .agg [nD c, nD d]] = (qsz a + qsz b + qsz c + qsz d + qsz p + qsz q < 10000000 ∧ ¬ (c - a = 0 ∧ d - b = 0), [nD (footQ a b c d p q)]) := ct3_at (p, q) (a, b) (c, d)
/-! s.l3At -/
noncomputable def l3AtC := ct3 EPn EPn ENum (fun p0 p1 p2 => qsz p0.1 + qsz p0.2 + qsz p1.1 + qsz p1.2 + qsz p2 < 100000000) (fun p0 p1 p2 => [.agg [nD (p0.1 + (p1.1 - p0.1) * p2), nD (p0.2 + (p1.2 - p0.2) * p2)]])
@[simp] theorem l3AtC_at (a b : Rat) (c d : Rat) (e : Rat) : l3AtC [.agg [nD a, nD b], .agg [nD c, nD d], nD e] = (qsz a + qsz b + qsz c + qsz d + qsz e < 100000000, [.agg [nD (a + (c - a) * e), nD (b + (d - b) * e)]]) := ct3_at (a, b) (c, d) e
theorem snear {a b c d p q : Rat} (hn : ¬ (c - a = 0 ∧ d - b = 0)) : nearQ a b c d p q = if (footQ a b c d p q).num.sign < 0 then (a, b) else if 0 < qcmp (footQ a b c d p q) 1 then (c, d) else (a + (c - a) * footQ a b c d p q, b + (d - b) * footQ a b c d p q) := by
  unfold nearQ
  generalize footQ a b c d p q = k
  by_cases h1 : k.num.sign < 0
  · rw [if_pos h1, if_pos (by omega)]
  · rw [if_neg h1]
    by_cases h2 : k.num.sign ≤ 0
    · have k0 : k = 0 := (qs_zero k).mp (by omega)
      subst k0
      rw [if_pos h2, if_neg (by rw [qcmp_gt]; decide)]
      congr 1 <;> grind
    · rw [if_neg h2]
      by_cases h3 : 0 < qcmp k 1
      · rw [if_pos h3, if_pos (by omega)]
      · rw [if_neg h3]
        by_cases h4 : 0 ≤ qcmp k 1
        · have k1 : k = 1 := (qcmp_eq k 1).mp (by omega)
          subst k1
          rw [if_pos h4]
          congr 1 <;> grind
        · rw [if_neg h4]

/-! s.l3Near -/
noncomputable def l3NearC := ct3 EPn EPn EPn (fun p0 p1 p2 => qsz p1.1 + qsz p1.2 + qsz p2.1 + qsz p2.2 + qsz p0.1 + qsz p0.2 < 1000000 ∧ ¬ (p2.1 - p1.1 = 0 ∧ p2.2 - p1.2 = 0)) (fun p0 p1 p2 => [.agg [nD (nearQ p1.1 p1.2 p2.1 p2.2 p0.1 p0.2).1, nD (nearQ p1.1 p1.2 p2.1 p2.2 p0.1 p0.2).2]])
@[simp] theorem l3NearC_at (p q : Rat) (a b : Rat) (c d : Rat) : l3NearC [.agg [nD p, nD q], .agg [nD a, nD b], .agg [nD c, nD d]] = (qsz a + qsz b + qsz c + qsz d + qsz p + qsz q < 1000000 ∧ ¬ (c - a = 0 ∧ d - b = 0), [.agg [nD (nearQ a b c d p q).1, nD (nearQ a b c d p q).2]]) := ct3_at (p, q) (a, b) (c, d)
/-! s.OnSeg -/
noncomputable def sOnSegC := ct2 EV ESeg (fun p0 p1 => ((I64 p0.1.1 ∧ I64 p0.1.2) ∧ I64 p0.2.1 ∧ I64 p0.2.2) ∧ (((I64 p1.1.1.1 ∧ I64 p1.1.1.2) ∧ I64 p1.1.2.1 ∧ I64 p1.1.2.2) ∧ ((I64 p1.2.1.1 ∧ I64 p1.2.1.2) ∧ I64 p1.2.2.1 ∧ I64 p1.2.2.2))) (fun p0 p1 => [.lit (.bool (if (qOk p0.1.1 p0.1.2 ∧ qOk p0.2.1 p0.2.2) ∧ segOk p1.1.1.1 p1.1.1.2 p1.1.2.1 p1.1.2.2 p1.2.1.1 p1.2.1.2 p1.2.2.1 p1.2.2.2 then hasB (Rat.divInt p1.1.1.1 p1.1.1.2) (Rat.divInt p1.1.2.1 p1.1.2.2) (Rat.divInt p1.2.1.1 p1.2.1.2) (Rat.divInt p1.2.2.1 p1.2.2.2) (Rat.divInt p0.1.1 p0.1.2) (Rat.divInt p0.2.1 p0.2.2) else false))])
@[simp] theorem sOnSegC_at (a b c d : Int) (e f g h i j k l : Int) : sOnSegC [.agg [eQ a b, eQ c d], .agg [.agg [eQ e f, eQ g h], .agg [eQ i j, eQ k l]]] = (((I64 a ∧ I64 b) ∧ I64 c ∧ I64 d) ∧ (((I64 e ∧ I64 f) ∧ I64 g ∧ I64 h) ∧ ((I64 i ∧ I64 j) ∧ I64 k ∧ I64 l)), [.lit (.bool (if (qOk a b ∧ qOk c d) ∧ segOk e f g h i j k l then hasB (Rat.divInt e f) (Rat.divInt g h) (Rat.divInt i j) (Rat.divInt k l) (Rat.divInt a b) (Rat.divInt c d) else false))]) := ct2_at ((a, b), c, d) (((e, f), g, h), (i, j), k, l)
/-! s.Foot -/
noncomputable def sFootC := ct2 EV ESeg (fun p0 p1 => ((I64 p0.1.1 ∧ I64 p0.1.2) ∧ I64 p0.2.1 ∧ I64 p0.2.2) ∧ (((I64 p1.1.1.1 ∧ I64 p1.1.1.2) ∧ I64 p1.1.2.1 ∧ I64 p1.1.2.2) ∧ ((I64 p1.2.1.1 ∧ I64 p1.2.1.2) ∧ I64 p1.2.2.1 ∧ I64 p1.2.2.2))) (fun p0 p1 => vD (if (qOk p0.1.1 p0.1.2 ∧ qOk p0.2.1 p0.2.2) ∧ segOk p1.1.1.1 p1.1.1.2 p1.1.2.1 p1.1.2.2 p1.2.1.1 p1.2.1.2 p1.2.2.1 p1.2.2.2 then oV (footP (Rat.divInt p1.1.1.1 p1.1.1.2) (Rat.divInt p1.1.2.1 p1.1.2.2) (Rat.divInt p1.2.1.1 p1.2.1.2) (Rat.divInt p1.2.2.1 p1.2.2.2) (Rat.divInt p0.1.1 p0.1.2) (Rat.divInt p0.2.1 p0.2.2)).1 (footP (Rat.divInt p1.1.1.1 p1.1.1.2) (Rat.divInt p1.1.2.1 p1.1.2.2) (Rat.divInt p1.2.1.1 p1.2.1.2) (Rat.divInt p1.2.2.1 p1.2.2.2) (Rat.divInt p0.1.1 p0.1.2) (Rat.divInt p0.2.1 p0.2.2)).2 else noV))
@[simp] theorem sFootC_at (a b c d : Int) (e f g h i j k l : Int) : sFootC [.agg [eQ a b, eQ c d], .agg [.agg [eQ e f, eQ g h], .agg [eQ i j, eQ k l]]] = (((I64 a ∧ I64 b) ∧ I64 c ∧ I64 d) ∧ (((I64 e ∧ I64 f) ∧ I64 g ∧ I64 h) ∧ ((I64 i ∧ I64 j) ∧ I64 k ∧ I64 l)), vD (if (qOk a b ∧ qOk c d) ∧ segOk e f g h i j k l then oV (footP (Rat.divInt e f) (Rat.divInt g h) (Rat.divInt i j) (Rat.divInt k l) (Rat.divInt a b) (Rat.divInt c d)).1 (footP (Rat.divInt e f) (Rat.divInt g h) (Rat.divInt i j) (Rat.divInt k l) (Rat.divInt a b) (Rat.divInt c d)).2 else noV)) := ct2_at ((a, b), c, d) (((e, f), g, h), (i, j), k, l)
/-! s.Near -/
noncomputable def sNearC := ct2 EV ESeg (fun p0 p1 => ((I64 p0.1.1 ∧ I64 p0.1.2) ∧ I64 p0.2.1 ∧ I64 p0.2.2) ∧ (((I64 p1.1.1.1 ∧ I64 p1.1.1.2) ∧ I64 p1.1.2.1 ∧ I64 p1.1.2.2) ∧ ((I64 p1.2.1.1 ∧ I64 p1.2.1.2) ∧ I64 p1.2.2.1 ∧ I64 p1.2.2.2))) (fun p0 p1 => vD (if (qOk p0.1.1 p0.1.2 ∧ qOk p0.2.1 p0.2.2) ∧ segOk p1.1.1.1 p1.1.1.2 p1.1.2.1 p1.1.2.2 p1.2.1.1 p1.2.1.2 p1.2.2.1 p1.2.2.2 then oV (nearQ (Rat.divInt p1.1.1.1 p1.1.1.2) (Rat.divInt p1.1.2.1 p1.1.2.2) (Rat.divInt p1.2.1.1 p1.2.1.2) (Rat.divInt p1.2.2.1 p1.2.2.2) (Rat.divInt p0.1.1 p0.1.2) (Rat.divInt p0.2.1 p0.2.2)).1 (nearQ (Rat.divInt p1.1.1.1 p1.1.1.2) (Rat.divInt p1.1.2.1 p1.1.2.2) (Rat.divInt p1.2.1.1 p1.2.1.2) (Rat.divInt p1.2.2.1 p1.2.2.2) (Rat.divInt p0.1.1 p0.1.2) (Rat.divInt p0.2.1 p0.2.2)).2 else noV))
@[simp] theorem sNearC_at (a b c d : Int) (e f g h i j k l : Int) : sNearC [.agg [eQ a b, eQ c d], .agg [.agg [eQ e f, eQ g h], .agg [eQ i j, eQ k l]]] = (((I64 a ∧ I64 b) ∧ I64 c ∧ I64 d) ∧ (((I64 e ∧ I64 f) ∧ I64 g ∧ I64 h) ∧ ((I64 i ∧ I64 j) ∧ I64 k ∧ I64 l)), vD (if (qOk a b ∧ qOk c d) ∧ segOk e f g h i j k l then oV (nearQ (Rat.divInt e f) (Rat.divInt g h) (Rat.divInt i j) (Rat.divInt k l) (Rat.divInt a b) (Rat.divInt c d)).1 (nearQ (Rat.divInt e f) (Rat.divInt g h) (Rat.divInt i j) (Rat.divInt k l) (Rat.divInt a b) (Rat.divInt c d)).2 else noV)) := ct2_at ((a, b), c, d) (((e, f), g, h), (i, j), k, l)
/-! s.Dist2 -/
noncomputable def sDist2C := ct2 EV ESeg (fun p0 p1 => ((I64 p0.1.1 ∧ I64 p0.1.2) ∧ I64 p0.2.1 ∧ I64 p0.2.2) ∧ (((I64 p1.1.1.1 ∧ I64 p1.1.1.2) ∧ I64 p1.1.2.1 ∧ I64 p1.1.2.2) ∧ ((I64 p1.2.1.1 ∧ I64 p1.2.1.2) ∧ I64 p1.2.2.1 ∧ I64 p1.2.2.2))) (fun p0 p1 => d3 (if (qOk p0.1.1 p0.1.2 ∧ qOk p0.2.1 p0.2.2) ∧ segOk p1.1.1.1 p1.1.1.2 p1.1.2.1 p1.1.2.2 p1.2.1.1 p1.2.1.2 p1.2.2.1 p1.2.2.2 then oq (dist2Q (Rat.divInt p0.1.1 p0.1.2) (Rat.divInt p0.2.1 p0.2.2) (nearQ (Rat.divInt p1.1.1.1 p1.1.1.2) (Rat.divInt p1.1.2.1 p1.1.2.2) (Rat.divInt p1.2.1.1 p1.2.1.2) (Rat.divInt p1.2.2.1 p1.2.2.2) (Rat.divInt p0.1.1 p0.1.2) (Rat.divInt p0.2.1 p0.2.2)).1 (nearQ (Rat.divInt p1.1.1.1 p1.1.1.2) (Rat.divInt p1.1.2.1 p1.1.2.2) (Rat.divInt p1.2.1.1 p1.2.1.2) (Rat.divInt p1.2.2.1 p1.2.2.2) (Rat.divInt p0.1.1 p0.1.2) (Rat.divInt p0.2.1 p0.2.2)).2) else no3))
@[simp] theorem sDist2C_at (a b c d : Int) (e f g h i j k l : Int) : sDist2C [.agg [eQ a b, eQ c d], .agg [.agg [eQ e f, eQ g h], .agg [eQ i j, eQ k l]]] = (((I64 a ∧ I64 b) ∧ I64 c ∧ I64 d) ∧ (((I64 e ∧ I64 f) ∧ I64 g ∧ I64 h) ∧ ((I64 i ∧ I64 j) ∧ I64 k ∧ I64 l)), d3 (if (qOk a b ∧ qOk c d) ∧ segOk e f g h i j k l then oq (dist2Q (Rat.divInt a b) (Rat.divInt c d) (nearQ (Rat.divInt e f) (Rat.divInt g h) (Rat.divInt i j) (Rat.divInt k l) (Rat.divInt a b) (Rat.divInt c d)).1 (nearQ (Rat.divInt e f) (Rat.divInt g h) (Rat.divInt i j) (Rat.divInt k l) (Rat.divInt a b) (Rat.divInt c d)).2) else no3)) := ct2_at ((a, b), c, d) (((e, f), g, h), (i, j), k, l)
/-! l.toSeg -/
noncomputable def toSegC := ct1 ESeg (fun p0 => True) (fun p0 => [.agg [.agg [eQ p0.1.1.1 p0.1.1.2, eQ p0.1.2.1 p0.1.2.2], .agg [eQ p0.2.1.1 p0.2.1.2, eQ p0.2.2.1 p0.2.2.2]]])
@[simp] theorem toSegC_at (a b c d e f g h : Int) : toSegC [.agg [.agg [eQ a b, eQ c d], .agg [eQ e f, eQ g h]]] = (True, [.agg [.agg [eQ a b, eQ c d], .agg [eQ e f, eQ g h]]]) := ct1_at (((a, b), c, d), (e, f), g, h)
/-! l.eqV -/
noncomputable def eqVC := ct2 EV EV (fun p0 p1 => True) (fun p0 p1 => [.lit (.bool (decide (p0.1.1 = p1.1.1 ∧ p0.1.2 = p1.1.2 ∧ p0.2.1 = p1.2.1 ∧ p0.2.2 = p1.2.2)))])
@[simp] theorem eqVC_at (a b c d : Int) (e f g h : Int) : eqVC [.agg [eQ a b, eQ c d], .agg [eQ e f, eQ g h]] = (True, [.lit (.bool (decide (a = e ∧ b = f ∧ c = g ∧ d = h)))]) := ct2_at ((a, b), c, d) ((e, f), g, h)
noncomputable def eqVTb : List (FuncId × Ct) := [(33, .data eqQC)]
theorem eqVTb_ok {N : NR} : TbOK N Try.prog (tbl eqVTb) := tbl_cons (c := .data eqQC) eqQ_spec eqQ_ok tbl_nil

@[simp] theorem eqVTb1 : tbl eqVTb 33 = some (.data eqQC) := rfl
/-! l.FnExactOnSeg -/
noncomputable def lwOnSegC := ct2 EV ESeg (fun p0 p1 => ((I64 p0.1.1 ∧ I64 p0.1.2) ∧ I64 p0.2.1 ∧ I64 p0.2.2) ∧ (((I64 p1.1.1.1 ∧ I64 p1.1.1.2) ∧ I64 p1.1.2.1 ∧ I64 p1.1.2.2) ∧ ((I64 p1.2.1.1 ∧ I64 p1.2.1.2) ∧ I64 p1.2.2.1 ∧ I64 p1.2.2.2))) (fun p0 p1 => [.lit (.bool true)])
@[simp] theorem lwOnSegC_at (a b c d : Int) (e f g h i j k l : Int) : lwOnSegC [.agg [eQ a b, eQ c d], .agg [.agg [eQ e f, eQ g h], .agg [eQ i j, eQ k l]]] = (((I64 a ∧ I64 b) ∧ I64 c ∧ I64 d) ∧ (((I64 e ∧ I64 f) ∧ I64 g ∧ I64 h) ∧ ((I64 i ∧ I64 j) ∧ I64 k ∧ I64 l)), [.lit (.bool true)]) := ct2_at ((a, b), c, d) (((e, f), g, h), (i, j), k, l)
/-! l.FnExactFoot -/
noncomputable def lwFootC := ct2 EV ESeg (fun p0 p1 => ((I64 p0.1.1 ∧ I64 p0.1.2) ∧ I64 p0.2.1 ∧ I64 p0.2.2) ∧ (((I64 p1.1.1.1 ∧ I64 p1.1.1.2) ∧ I64 p1.1.2.1 ∧ I64 p1.1.2.2) ∧ ((I64 p1.2.1.1 ∧ I64 p1.2.1.2) ∧ I64 p1.2.2.1 ∧ I64 p1.2.2.2))) (fun p0 p1 => [.lit (.bool true)])
@[simp] theorem lwFootC_at (a b c d : Int) (e f g h i j k l : Int) : lwFootC [.agg [eQ a b, eQ c d], .agg [.agg [eQ e f, eQ g h], .agg [eQ i j, eQ k l]]] = (((I64 a ∧ I64 b) ∧ I64 c ∧ I64 d) ∧ (((I64 e ∧ I64 f) ∧ I64 g ∧ I64 h) ∧ ((I64 i ∧ I64 j) ∧ I64 k ∧ I64 l)), [.lit (.bool true)]) := ct2_at ((a, b), c, d) (((e, f), g, h), (i, j), k, l)
/-! l.FnExactNear -/
noncomputable def lwNearC := ct2 EV ESeg (fun p0 p1 => ((I64 p0.1.1 ∧ I64 p0.1.2) ∧ I64 p0.2.1 ∧ I64 p0.2.2) ∧ (((I64 p1.1.1.1 ∧ I64 p1.1.1.2) ∧ I64 p1.1.2.1 ∧ I64 p1.1.2.2) ∧ ((I64 p1.2.1.1 ∧ I64 p1.2.1.2) ∧ I64 p1.2.2.1 ∧ I64 p1.2.2.2))) (fun p0 p1 => [.lit (.bool true)])
@[simp] theorem lwNearC_at (a b c d : Int) (e f g h i j k l : Int) : lwNearC [.agg [eQ a b, eQ c d], .agg [.agg [eQ e f, eQ g h], .agg [eQ i j, eQ k l]]] = (((I64 a ∧ I64 b) ∧ I64 c ∧ I64 d) ∧ (((I64 e ∧ I64 f) ∧ I64 g ∧ I64 h) ∧ ((I64 i ∧ I64 j) ∧ I64 k ∧ I64 l)), [.lit (.bool true)]) := ct2_at ((a, b), c, d) (((e, f), g, h), (i, j), k, l)
/-! l.FnExactDist2 -/
noncomputable def lwDist2C := ct2 EV ESeg (fun p0 p1 => ((I64 p0.1.1 ∧ I64 p0.1.2) ∧ I64 p0.2.1 ∧ I64 p0.2.2) ∧ (((I64 p1.1.1.1 ∧ I64 p1.1.1.2) ∧ I64 p1.1.2.1 ∧ I64 p1.1.2.2) ∧ ((I64 p1.2.1.1 ∧ I64 p1.2.1.2) ∧ I64 p1.2.2.1 ∧ I64 p1.2.2.2))) (fun p0 p1 => [.lit (.bool true)])
@[simp] theorem lwDist2C_at (a b c d : Int) (e f g h i j k l : Int) : lwDist2C [.agg [eQ a b, eQ c d], .agg [.agg [eQ e f, eQ g h], .agg [eQ i j, eQ k l]]] = (((I64 a ∧ I64 b) ∧ I64 c ∧ I64 d) ∧ (((I64 e ∧ I64 f) ∧ I64 g ∧ I64 h) ∧ ((I64 i ∧ I64 j) ∧ I64 k ∧ I64 l)), [.lit (.bool true)]) := ct2_at ((a, b), c, d) (((e, f), g, h), (i, j), k, l)
noncomputable def lwDist2Tb : List (FuncId × Ct) := [(33, .data eqQC)]
theorem lwDist2Tb_ok : TbOK NF Try.prog (tbl lwDist2Tb) := tbl_cons (c := .data eqQC) eqQ_spec eqQ_ok tbl_nil

@[simp] theorem lwDist2Tb5 : tbl lwDist2Tb 33 = some (.data eqQC) := rfl
end Go.Proofs.Ytdkgkcnllhcamaa.Ae

/-! spec: places of space, planes. No condition. -/
namespace Go.Proofs.Ytdkgkcnllhcamaa.Ae
open Go Go.RowKit Go.Proofs.Ytdkgkcnllhcamaa.Dig

/-! s.V3Ok -/
noncomputable def sV3OkC := ct1 EV3 (fun p0 => ((I64 p0.1.1 ∧ I64 p0.1.2) ∧ (I64 p0.2.1.1 ∧ I64 p0.2.1.2) ∧ I64 p0.2.2.1 ∧ I64 p0.2.2.2)) (fun p0 => [.lit (.bool (decide (v3Ok p0.1.1 p0.1.2 p0.2.1.1 p0.2.1.2 p0.2.2.1 p0.2.2.2)))])
@[simp] theorem sV3OkC_at (a b c d e f : Int) : sV3OkC [.agg [eQ a b, eQ c d, eQ e f]] = (((I64 a ∧ I64 b) ∧ (I64 c ∧ I64 d) ∧ I64 e ∧ I64 f), [.lit (.bool (decide (v3Ok a b c d e f)))]) := ct1_at ((a, b), (c, d), e, f)
noncomputable def sV3OkTb : List (FuncId × Ct) := [(19, .data qokC)]
theorem sV3OkTb_ok : TbOK NF Try.prog (tbl sV3OkTb) := tbl_cons (c := .data qokC) sQOk_spec sQOk_ok tbl_nil

@[simp] theorem sV3OkTb1 : tbl sV3OkTb 19 = some (.data qokC) := rfl
theorem sV3Ok_spec : SpecD NF Try.prog 11 sV3OkC := by
  refine rd1 (mf := fun f => false) sV3OkTb_ok (fn := Try.f11) (by kernel_rfl) rfl (by kernel_rfl) (by kernel_rfl) ?_
  rintro ⟨⟨a, b⟩, ⟨c, d⟩, e, f⟩ hp
  have hp : ((I64 a ∧ I64 b) ∧ (I64 c ∧ I64 d) ∧ I64 e ∧ I64 f) := hp
  show awp _ _ _ _ (start _ ([.agg [eQ a b, eQ c d, eQ e f]].map .dat) []) (endK _ _ _ (([.lit (.bool (decide (v3Ok a b c d e f)))]).map .dat) [])
  obtain ⟨⟨i1, i2⟩, ⟨i3, i4⟩, i5, i6⟩ := hp
  by_cases h : qOk a b <;> by_cases h2 : qOk c d <;> simp [-D.isLit, Try.f11, v3Ok, i1, i2, i3, i4, i5, i6, h, h2]
theorem sV3Ok_ok : callable Try.prog 11 = true := by kernel_rfl

/-! s.l11One -/
noncomputable def l11OneC := ct1 EQ (fun p0 => I64 p0.1 ∧ I64 p0.2) (fun p0 => [.lit (.bool (one1 p0.1 p0.2))])
@[simp] theorem l11OneC_at (a b : Int) : l11OneC [eQ a b] = (I64 a ∧ I64 b, [.lit (.bool (one1 a b))]) := ct1_at (a, b)
/-! s.PlaneOk -/
noncomputable def sPlaneOkC := ct1 EPl (fun p0 => ((I64 p0.1.1 ∧ I64 p0.1.2) ∧ (I64 p0.2.1.1 ∧ I64 p0.2.1.2) ∧ (I64 p0.2.2.1.1 ∧ I64 p0.2.2.1.2) ∧ I64 p0.2.2.2.1 ∧ I64 p0.2.2.2.2)) (fun p0 => [.lit (.bool (decide (plOk p0.1.1 p0.1.2 p0.2.1.1 p0.2.1.2 p0.2.2.1.1 p0.2.2.1.2 p0.2.2.2.1 p0.2.2.2.2)))])
@[simp] theorem sPlaneOkC_at (a b c d e f g h : Int) : sPlaneOkC [.agg [eQ a b, eQ c d, eQ e f, eQ g h]] = (((I64 a ∧ I64 b) ∧ (I64 c ∧ I64 d) ∧ (I64 e ∧ I64 f) ∧ I64 g ∧ I64 h), [.lit (.bool (decide (plOk a b c d e f g h)))]) := ct1_at ((a, b), (c, d), (e, f), g, h)
noncomputable def sPlaneOkTb : List (FuncId × Ct) := [(19, .data qokC)]
theorem sPlaneOkTb_ok : TbOK NF Try.prog (tbl sPlaneOkTb) := tbl_cons (c := .data qokC) sQOk_spec sQOk_ok tbl_nil

@[simp] theorem sPlaneOkTb1 : tbl sPlaneOkTb 19 = some (.data qokC) := rfl
/-! s.l11p -/
noncomputable def l11pC := ct1 EV3 (fun p0 => (I64 p0.1.1 ∧ I64 p0.1.2 ∧ 0 < p0.1.2) ∧ (I64 p0.2.1.1 ∧ I64 p0.2.1.2 ∧ 0 < p0.2.1.2) ∧ I64 p0.2.2.1 ∧ I64 p0.2.2.2 ∧ 0 < p0.2.2.2) (fun p0 => [.agg [nD (Rat.divInt p0.1.1 p0.1.2), nD (Rat.divInt p0.2.1.1 p0.2.1.2), nD (Rat.divInt p0.2.2.1 p0.2.2.2)]])
@[simp] theorem l11pC_at (a b c d e f : Int) : l11pC [.agg [eQ a b, eQ c d, eQ e f]] = ((I64 a ∧ I64 b ∧ 0 < b) ∧ (I64 c ∧ I64 d ∧ 0 < d) ∧ I64 e ∧ I64 f ∧ 0 < f, [.agg [nD (Rat.divInt a b), nD (Rat.divInt c d), nD (Rat.divInt e f)]]) := ct1_at ((a, b), (c, d), e, f)
/-! s.l11Plane -/
noncomputable def l11PlaneC := ct1 EPl (fun p0 => (I64 p0.1.1 ∧ I64 p0.1.2 ∧ 0 < p0.1.2) ∧ (I64 p0.2.1.1 ∧ I64 p0.2.1.2 ∧ 0 < p0.2.1.2) ∧ (I64 p0.2.2.1.1 ∧ I64 p0.2.2.1.2 ∧ 0 < p0.2.2.1.2) ∧ I64 p0.2.2.2.1 ∧ I64 p0.2.2.2.2 ∧ 0 < p0.2.2.2.2) (fun p0 => [.agg [.agg [nD (Rat.divInt p0.1.1 p0.1.2), nD (Rat.divInt p0.2.1.1 p0.2.1.2), nD (Rat.divInt p0.2.2.1.1 p0.2.2.1.2)], nD (Rat.divInt p0.2.2.2.1 p0.2.2.2.2), .lit (.slice none 0 0)]])
@[simp] theorem l11PlaneC_at (a b c d e f g h : Int) : l11PlaneC [.agg [eQ a b, eQ c d, eQ e f, eQ g h]] = ((I64 a ∧ I64 b ∧ 0 < b) ∧ (I64 c ∧ I64 d ∧ 0 < d) ∧ (I64 e ∧ I64 f ∧ 0 < f) ∧ I64 g ∧ I64 h ∧ 0 < h, [.agg [.agg [nD (Rat.divInt a b), nD (Rat.divInt c d), nD (Rat.divInt e f)], nD (Rat.divInt g h), .lit (.slice none 0 0)]]) := ct1_at ((a, b), (c, d), (e, f), g, h)
/-! s.l11Sub -/
noncomputable def l11SubC := ct2 EP3n EP3n (fun p0 p1 => qsz p0.1 + qsz p0.2.1 + qsz p0.2.2 + qsz p1.1 + qsz p1.2.1 + qsz p1.2.2 < LM) (fun p0 p1 => [.agg [nD (p0.1 - p1.1), nD (p0.2.1 - p1.2.1), nD (p0.2.2 - p1.2.2)]])
@[simp] theorem l11SubC_at (a b c : Rat) (d e f : Rat) : l11SubC [.agg [nD a, nD b, nD c], .agg [nD d, nD e, nD f]] = (qsz a + qsz b + qsz c + qsz d + qsz e + qsz f < LM, [.agg [nD (a - d), nD (b - e), nD (c - f)]]) := ct2_at (a, b, c) (d, e, f)
/-! s.l11Times -/
noncomputable def l11TimesC := ct2 EP3n ENum (fun p0 p1 => qsz p0.1 + qsz p0.2.1 + qsz p0.2.2 + qsz p1 < LM) (fun p0 p1 => [.agg [nD (p0.1 * p1), nD (p0.2.1 * p1), nD (p0.2.2 * p1)]])
@[simp] theorem l11TimesC_at (a b c : Rat) (d : Rat) : l11TimesC [.agg [nD a, nD b, nD c], nD d] = (qsz a + qsz b + qsz c + qsz d < LM, [.agg [nD (a * d), nD (b * d), nD (c * d)]]) := ct2_at (a, b, c) d
/-! s.l11Dot -/
noncomputable def l11DotC := ct2 EP3n EP3n (fun p0 p1 => qsz p0.1 + qsz p0.2.1 + qsz p0.2.2 + qsz p1.1 + qsz p1.2.1 + qsz p1.2.2 < LM) (fun p0 p1 => [nD (dot3Q p0.1 p0.2.1 p0.2.2 p1.1 p1.2.1 p1.2.2)])
@[simp] theorem l11DotC_at (a b c : Rat) (d e f : Rat) : l11DotC [.agg [nD a, nD b, nD c], .agg [nD d, nD e, nD f]] = (qsz a + qsz b + qsz c + qsz d + qsz e + qsz f < LM, [nD (dot3Q a b c d e f)]) := ct2_at (a, b, c) (d, e, f)
/-! s.l11Cross -/
noncomputable def l11CrossC := ct2 EP3n EP3n (fun p0 p1 => qsz p0.1 + qsz p0.2.1 + qsz p0.2.2 + qsz p1.1 + qsz p1.2.1 + qsz p1.2.2 < LM) (fun p0 p1 => [.agg [nD (p0.2.1 * p1.2.2 - p0.2.2 * p1.2.1), nD (p0.2.2 * p1.1 - p0.1 * p1.2.2), nD (p0.1 * p1.2.1 - p0.2.1 * p1.1)]])
@[simp] theorem l11CrossC_at (a b c : Rat) (d e f : Rat) : l11CrossC [.agg [nD a, nD b, nD c], .agg [nD d, nD e, nD f]] = (qsz a + qsz b + qsz c + qsz d + qsz e + qsz f < LM, [.agg [nD (b * f - c * e), nD (c * d - a * f), nD (a * e - b * d)]]) := ct2_at (a, b, c) (d, e, f)
/-! s.l11V -/
noncomputable def l11VC := ct1 EP3n (fun p0 => True) (fun p0 => v3T (oV3 p0.1 p0.2.1 p0.2.2))
@[simp] theorem l11VC_at (a b c : Rat) : l11VC [.agg [nD a, nD b, nD c]] = (True, v3T (oV3 a b c)) := ct1_at (a, b, c)
/-! s.l11Height -/
noncomputable def l11HtC := ct2 EFn EP3n (fun p0 p1 => qsz p0.1.1 + qsz p0.1.2.1 + qsz p0.1.2.2 + qsz p0.2 + qsz p1.1 + qsz p1.2.1 + qsz p1.2.2 < 100000000) (fun p0 p1 => [nD (htQ p0.1.1 p0.1.2.1 p0.1.2.2 p0.2 p1.1 p1.2.1 p1.2.2)])
@[simp] theorem l11HtC_at (a b c d : Rat) (e f g : Rat) : l11HtC [.agg [.agg [nD a, nD b, nD c], nD d, .lit (.slice none 0 0)], .agg [nD e, nD f, nD g]] = (qsz a + qsz b + qsz c + qsz d + qsz e + qsz f + qsz g < 100000000, [nD (htQ a b c d e f g)]) := ct2_at ((a, b, c), d) (e, f, g)
/-! s.l1rAbs -/
noncomputable def nabsC := ct1 ENum (fun p0 => True) (fun p0 => [nD (rabs p0)])
@[simp] theorem nabsC_at (a : Rat) : nabsC [nD a] = (True, [nD (rabs a)]) := ct1_at a
/-! s.l11Zero -/
noncomputable def l11ZeroC := ct1 EP3n (fun p0 => True) (fun p0 => [.lit (.bool (decide (p0.1.num.sign = 0 ∧ p0.2.1.num.sign = 0 ∧ p0.2.2.num.sign = 0)))])
@[simp] theorem l11ZeroC_at (a b c : Rat) : l11ZeroC [.agg [nD a, nD b, nD c]] = (True, [.lit (.bool (decide (a.num.sign = 0 ∧ b.num.sign = 0 ∧ c.num.sign = 0)))]) := ct1_at (a, b, c)
theorem rabs_sgn (a : Rat) : (rabs a).num.sign = 0 ↔ a.num.sign = 0 := by
  have h1 : a.num.sign = 0 ↔ a = 0 := ⟨sgn_eq, fun h => by subst h; rfl⟩
  have h2 : (rabs a).num.sign = 0 ↔ rabs a = 0 := ⟨sgn_eq, fun h => by rw [h]; rfl⟩
  rw [h1, h2]
  constructor
  · intro h; exact Classical.byContradiction fun h' => rabs_ne h' h
  · rintro rfl; rfl

/-! s.l11Norm -/
noncomputable def l11NormC := ct1 EFn (fun p0 => qsz p0.1.1 + qsz p0.1.2.1 + qsz p0.1.2.2 + qsz p0.2 < 100000000 ∧ ledQ p0.1.1 p0.1.2.1 p0.1.2.2 ≠ 0) (fun p0 => [.agg [.agg [nD (p0.1.1 * (rabs (ledQ p0.1.1 p0.1.2.1 p0.1.2.2))⁻¹), nD (p0.1.2.1 * (rabs (ledQ p0.1.1 p0.1.2.1 p0.1.2.2))⁻¹), nD (p0.1.2.2 * (rabs (ledQ p0.1.1 p0.1.2.1 p0.1.2.2))⁻¹)], nD (p0.2 * (rabs (ledQ p0.1.1 p0.1.2.1 p0.1.2.2))⁻¹), .lit (.slice none 0 0)]])
@[simp] theorem l11NormC_at (a b c d : Rat) : l11NormC [.agg [.agg [nD a, nD b, nD c], nD d, .lit (.slice none 0 0)]] = (qsz a + qsz b + qsz c + qsz d < 100000000 ∧ ledQ a b c ≠ 0, [.agg [.agg [nD (a * (rabs (ledQ a b c))⁻¹), nD (b * (rabs (ledQ a b c))⁻¹), nD (c * (rabs (ledQ a b c))⁻¹)], nD (d * (rabs (ledQ a b c))⁻¹), .lit (.slice none 0 0)]]) := ct1_at ((a, b, c), d)
/-! s.l11Through -/
noncomputable def l11ThrC := ct3 EP3n EP3n EP3n (fun p0 p1 p2 => qsz p0.1 + qsz p0.2.1 + qsz p0.2.2 + qsz p1.1 + qsz p1.2.1 + qsz p1.2.2 + qsz p2.1 + qsz p2.2.1 + qsz p2.2.2 < 1000000) (fun p0 p1 p2 => thrN zFn (throQ p0.1 p0.2.1 p0.2.2 p1.1 p1.2.1 p1.2.2 p2.1 p2.2.1 p2.2.2))
@[simp] theorem l11ThrC_at (a b c : Rat) (d e f : Rat) (g h i : Rat) : l11ThrC [.agg [nD a, nD b, nD c], .agg [nD d, nD e, nD f], .agg [nD g, nD h, nD i]] = (qsz a + qsz b + qsz c + qsz d + qsz e + qsz f + qsz g + qsz h + qsz i < 1000000, thrN zFn (throQ a b c d e f g h i)) := ct3_at (a, b, c) (d, e, f) (g, h, i)
/-! s.l11Told -/
noncomputable def l11ToldC := ct1 EFn (fun p0 => True) (fun p0 => plT (oPl p0.1.1 p0.1.2.1 p0.1.2.2 p0.2))
@[simp] theorem l11ToldC_at (a b c d : Rat) : l11ToldC [.agg [.agg [nD a, nD b, nD c], nD d, .lit (.slice none 0 0)]] = (True, plT (oPl a b c d)) := ct1_at ((a, b, c), d)
/-! s.l11Axis -/
noncomputable def l11AxisC := ct1 EFn (fun p0 => True) (fun p0 => [.lit (.int .i64 (offI p0.1.2.1 p0.1.2.2))])
@[simp] theorem l11AxisC_at (a b c d : Rat) : l11AxisC [.agg [.agg [nD a, nD b, nD c], nD d, .lit (.slice none 0 0)]] = (True, [.lit (.int .i64 (offI b c))]) := ct1_at ((a, b, c), d)
theorem offI_3 (b c : Rat) : offI b c = 0 ∨ offI b c = 1 ∨ offI b c = 2 := by unfold offI; split <;> (try split) <;> simp

/-! s.l11Drop -/
noncomputable def l11DropC := ct2 EInt EP3n (fun p0 p1 => p0 = 0 ∨ p0 = 1 ∨ p0 = 2) (fun p0 p1 => [.agg (if p0 = 2 then [nD p1.1, nD p1.2.1] else if p0 = 1 then [nD p1.1, nD p1.2.2] else [nD p1.2.1, nD p1.2.2])])
@[simp] theorem l11DropC_at (n : Int) (x y z : Rat) : l11DropC [.lit (.int .i64 n), .agg [nD x, nD y, nD z]] = (n = 0 ∨ n = 1 ∨ n = 2, [.agg (if n = 2 then [nD x, nD y] else if n = 1 then [nD x, nD z] else [nD y, nD z])]) := ct2_at n (x, y, z)
/-! s.l11Lift -/
noncomputable def l11LiftC := ct2 EFn EPn (fun p0 p1 => qsz p0.1.1 + qsz p0.1.2.1 + qsz p0.1.2.2 + qsz p0.2 + qsz p1.1 + qsz p1.2 < 10000000 ∧ ¬ (p0.1.1 = 0 ∧ p0.1.2.1 = 0 ∧ p0.1.2.2 = 0)) (fun p0 p1 => [.agg [nD (lftQ p0.1.1 p0.1.2.1 p0.1.2.2 p0.2 p1.1 p1.2).1, nD (lftQ p0.1.1 p0.1.2.1 p0.1.2.2 p0.2 p1.1 p1.2).2.1, nD (lftQ p0.1.1 p0.1.2.1 p0.1.2.2 p0.2 p1.1 p1.2).2.2]])
@[simp] theorem l11LiftC_at (a b c d : Rat) (x y : Rat) : l11LiftC [.agg [.agg [nD a, nD b, nD c], nD d, .lit (.slice none 0 0)], .agg [nD x, nD y]] = (qsz a + qsz b + qsz c + qsz d + qsz x + qsz y < 10000000 ∧ ¬ (a = 0 ∧ b = 0 ∧ c = 0), [.agg [nD (lftQ a b c d x y).1, nD (lftQ a b c d x y).2.1, nD (lftQ a b c d x y).2.2]]) := ct2_at ((a, b, c), d) (x, y)
end Go.Proofs.Ytdkgkcnllhcamaa.Ae

/-! Drop, Side, Lift, PlaneOf: whole, and the laws. No condition. -/
namespace Go.Proofs.Ytdkgkcnllhcamaa.Ae
open Go Go.RowKit Go.Proofs.Ytdkgkcnllhcamaa.Dig
theorem div_ne {n d : Int} (hd : 0 < d) (h : Rat.divInt n d = 0) : n = 0 := by
  rw [Rat.divInt_eq_div] at h
  have hd' : (d : Rat) ≠ 0 := by
    intro e
    have : d = 0 := by exact_mod_cast e
    omega
  have h2 : (n : Rat) = 0 := by
    have := Rat.div_mul_cancel (a := (n : Rat)) hd'
    rw [h] at this
    grind
  exact_mod_cast h2
theorem plOk_ne {a b c d e f g h : Int} (hp : plOk a b c d e f g h) : ¬ (Rat.divInt a b = 0 ∧ Rat.divInt c d = 0 ∧ Rat.divInt e f = 0) := by
  rintro ⟨h1, h2, h3⟩
  obtain ⟨⟨q1, q2, q3, q4⟩, ho⟩ := hp
  have e1 := div_ne (qOk_64 q1).2.2 h1
  have e2 := div_ne (qOk_64 q2).2.2 h2
  have e3 := div_ne (qOk_64 q3).2.2 h3
  rw [if_pos e1, if_pos e2] at ho
  subst e3
  unfold one1 at ho
  simp at ho

/-! i.Side -/
noncomputable def iSideC := ct2 EPl EV3 (fun p0 p1 => ((I64 p0.1.1 ∧ I64 p0.1.2) ∧ (I64 p0.2.1.1 ∧ I64 p0.2.1.2) ∧ (I64 p0.2.2.1.1 ∧ I64 p0.2.2.1.2) ∧ I64 p0.2.2.2.1 ∧ I64 p0.2.2.2.2) ∧ ((I64 p1.1.1 ∧ I64 p1.1.2) ∧ (I64 p1.2.1.1 ∧ I64 p1.2.1.2) ∧ I64 p1.2.2.1 ∧ I64 p1.2.2.2)) (fun p0 p1 => [.lit (.int .i64 (if plOk p0.1.1 p0.1.2 p0.2.1.1 p0.2.1.2 p0.2.2.1.1 p0.2.2.1.2 p0.2.2.2.1 p0.2.2.2.2 ∧ v3Ok p1.1.1 p1.1.2 p1.2.1.1 p1.2.1.2 p1.2.2.1 p1.2.2.2 then (htQ (Rat.divInt p0.1.1 p0.1.2) (Rat.divInt p0.2.1.1 p0.2.1.2) (Rat.divInt p0.2.2.1.1 p0.2.2.1.2) (Rat.divInt p0.2.2.2.1 p0.2.2.2.2) (Rat.divInt p1.1.1 p1.1.2) (Rat.divInt p1.2.1.1 p1.2.1.2) (Rat.divInt p1.2.2.1 p1.2.2.2)).num.sign else 2))])
@[simp] theorem iSideC_at (a b c d e f g h : Int) (i j k l m n : Int) : iSideC [.agg [eQ a b, eQ c d, eQ e f, eQ g h], .agg [eQ i j, eQ k l, eQ m n]] = (((I64 a ∧ I64 b) ∧ (I64 c ∧ I64 d) ∧ (I64 e ∧ I64 f) ∧ I64 g ∧ I64 h) ∧ ((I64 i ∧ I64 j) ∧ (I64 k ∧ I64 l) ∧ I64 m ∧ I64 n), [.lit (.int .i64 (if plOk a b c d e f g h ∧ v3Ok i j k l m n then (htQ (Rat.divInt a b) (Rat.divInt c d) (Rat.divInt e f) (Rat.divInt g h) (Rat.divInt i j) (Rat.divInt k l) (Rat.divInt m n)).num.sign else 2))]) := ct2_at ((a, b), (c, d), (e, f), g, h) ((i, j), (k, l), m, n)
noncomputable def iSideTb : List (FuncId × Ct) := [(25, .data iV3OkC), (24, .data pv3C)]
theorem iSideTb_ok {N : NR} : TbOK N Try.prog (tbl iSideTb) := tbl_cons (c := .data iV3OkC) iV3Ok_spec iV3Ok_ok (tbl_cons (c := .data pv3C) pv3_spec pv3_ok tbl_nil)

@[simp] theorem iSideTb2 : tbl iSideTb 25 = some (.data iV3OkC) := rfl
@[simp] theorem iSideTb4 : tbl iSideTb 24 = some (.data pv3C) := rfl
/-! s.Side -/
noncomputable def sSideC := ct2 EPl EV3 (fun p0 p1 => ((I64 p0.1.1 ∧ I64 p0.1.2) ∧ (I64 p0.2.1.1 ∧ I64 p0.2.1.2) ∧ (I64 p0.2.2.1.1 ∧ I64 p0.2.2.1.2) ∧ I64 p0.2.2.2.1 ∧ I64 p0.2.2.2.2) ∧ ((I64 p1.1.1 ∧ I64 p1.1.2) ∧ (I64 p1.2.1.1 ∧ I64 p1.2.1.2) ∧ I64 p1.2.2.1 ∧ I64 p1.2.2.2)) (fun p0 p1 => [.lit (.int .i64 (if plOk p0.1.1 p0.1.2 p0.2.1.1 p0.2.1.2 p0.2.2.1.1 p0.2.2.1.2 p0.2.2.2.1 p0.2.2.2.2 ∧ v3Ok p1.1.1 p1.1.2 p1.2.1.1 p1.2.1.2 p1.2.2.1 p1.2.2.2 then (htQ (Rat.divInt p0.1.1 p0.1.2) (Rat.divInt p0.2.1.1 p0.2.1.2) (Rat.divInt p0.2.2.1.1 p0.2.2.1.2) (Rat.divInt p0.2.2.2.1 p0.2.2.2.2) (Rat.divInt p1.1.1 p1.1.2) (Rat.divInt p1.2.1.1 p1.2.1.2) (Rat.divInt p1.2.2.1 p1.2.2.2)).num.sign else 2))])
@[simp] theorem sSideC_at (a b c d e f g h : Int) (i j k l m n : Int) : sSideC [.agg [eQ a b, eQ c d, eQ e f, eQ g h], .agg [eQ i j, eQ k l, eQ m n]] = (((I64 a ∧ I64 b) ∧ (I64 c ∧ I64 d) ∧ (I64 e ∧ I64 f) ∧ I64 g ∧ I64 h) ∧ ((I64 i ∧ I64 j) ∧ (I64 k ∧ I64 l) ∧ I64 m ∧ I64 n), [.lit (.int .i64 (if plOk a b c d e f g h ∧ v3Ok i j k l m n then (htQ (Rat.divInt a b) (Rat.divInt c d) (Rat.divInt e f) (Rat.divInt g h) (Rat.divInt i j) (Rat.divInt k l) (Rat.divInt m n)).num.sign else 2))]) := ct2_at ((a, b), (c, d), (e, f), g, h) ((i, j), (k, l), m, n)
noncomputable def sSideTb : List (FuncId × Ct) := [(11, .data sV3OkC)]
theorem sSideTb_ok : TbOK NF Try.prog (tbl sSideTb) := tbl_cons (c := .data sV3OkC) sV3Ok_spec sV3Ok_ok tbl_nil

@[simp] theorem sSideTb2 : tbl sSideTb 11 = some (.data sV3OkC) := rfl
/-! i.Drop -/
noncomputable def iDropC := ct2 EPl EV3 (fun p0 p1 => ((I64 p0.1.1 ∧ I64 p0.1.2) ∧ (I64 p0.2.1.1 ∧ I64 p0.2.1.2) ∧ (I64 p0.2.2.1.1 ∧ I64 p0.2.2.1.2) ∧ I64 p0.2.2.2.1 ∧ I64 p0.2.2.2.2) ∧ ((I64 p1.1.1 ∧ I64 p1.1.2) ∧ (I64 p1.2.1.1 ∧ I64 p1.2.1.2) ∧ I64 p1.2.2.1 ∧ I64 p1.2.2.2)) (fun p0 p1 => vD (if plOk p0.1.1 p0.1.2 p0.2.1.1 p0.2.1.2 p0.2.2.1.1 p0.2.2.1.2 p0.2.2.2.1 p0.2.2.2.2 ∧ v3Ok p1.1.1 p1.1.2 p1.2.1.1 p1.2.1.2 p1.2.2.1 p1.2.2.2 then oV (drpQ (Rat.divInt p0.2.1.1 p0.2.1.2) (Rat.divInt p0.2.2.1.1 p0.2.2.1.2) (Rat.divInt p1.1.1 p1.1.2) (Rat.divInt p1.2.1.1 p1.2.1.2) (Rat.divInt p1.2.2.1 p1.2.2.2)).1 (drpQ (Rat.divInt p0.2.1.1 p0.2.1.2) (Rat.divInt p0.2.2.1.1 p0.2.2.1.2) (Rat.divInt p1.1.1 p1.1.2) (Rat.divInt p1.2.1.1 p1.2.1.2) (Rat.divInt p1.2.2.1 p1.2.2.2)).2 else ((0, 0), (0, 0), false)))
@[simp] theorem iDropC_at (a b c d e f g h : Int) (i j k l m n : Int) : iDropC [.agg [eQ a b, eQ c d, eQ e f, eQ g h], .agg [eQ i j, eQ k l, eQ m n]] = (((I64 a ∧ I64 b) ∧ (I64 c ∧ I64 d) ∧ (I64 e ∧ I64 f) ∧ I64 g ∧ I64 h) ∧ ((I64 i ∧ I64 j) ∧ (I64 k ∧ I64 l) ∧ I64 m ∧ I64 n), vD (if plOk a b c d e f g h ∧ v3Ok i j k l m n then oV (drpQ (Rat.divInt c d) (Rat.divInt e f) (Rat.divInt i j) (Rat.divInt k l) (Rat.divInt m n)).1 (drpQ (Rat.divInt c d) (Rat.divInt e f) (Rat.divInt i j) (Rat.divInt k l) (Rat.divInt m n)).2 else ((0, 0), (0, 0), false))) := ct2_at ((a, b), (c, d), (e, f), g, h) ((i, j), (k, l), m, n)
noncomputable def iDropTb : List (FuncId × Ct) := [(25, .data iV3OkC), (24, .data pv3C)]
theorem iDropTb_ok {N : NR} : TbOK N Try.prog (tbl iDropTb) := tbl_cons (c := .data iV3OkC) iV3Ok_spec iV3Ok_ok (tbl_cons (c := .data pv3C) pv3_spec pv3_ok tbl_nil)

@[simp] theorem iDropTb2 : tbl iDropTb 25 = some (.data iV3OkC) := rfl
@[simp] theorem iDropTb4 : tbl iDropTb 24 = some (.data pv3C) := rfl
/-! s.Drop -/
noncomputable def sDropC := ct2 EPl EV3 (fun p0 p1 => ((I64 p0.1.1 ∧ I64 p0.1.2) ∧ (I64 p0.2.1.1 ∧ I64 p0.2.1.2) ∧ (I64 p0.2.2.1.1 ∧ I64 p0.2.2.1.2) ∧ I64 p0.2.2.2.1 ∧ I64 p0.2.2.2.2) ∧ ((I64 p1.1.1 ∧ I64 p1.1.2) ∧ (I64 p1.2.1.1 ∧ I64 p1.2.1.2) ∧ I64 p1.2.2.1 ∧ I64 p1.2.2.2)) (fun p0 p1 => vD (if plOk p0.1.1 p0.1.2 p0.2.1.1 p0.2.1.2 p0.2.2.1.1 p0.2.2.1.2 p0.2.2.2.1 p0.2.2.2.2 ∧ v3Ok p1.1.1 p1.1.2 p1.2.1.1 p1.2.1.2 p1.2.2.1 p1.2.2.2 then oV (drpQ (Rat.divInt p0.2.1.1 p0.2.1.2) (Rat.divInt p0.2.2.1.1 p0.2.2.1.2) (Rat.divInt p1.1.1 p1.1.2) (Rat.divInt p1.2.1.1 p1.2.1.2) (Rat.divInt p1.2.2.1 p1.2.2.2)).1 (drpQ (Rat.divInt p0.2.1.1 p0.2.1.2) (Rat.divInt p0.2.2.1.1 p0.2.2.1.2) (Rat.divInt p1.1.1 p1.1.2) (Rat.divInt p1.2.1.1 p1.2.1.2) (Rat.divInt p1.2.2.1 p1.2.2.2)).2 else ((0, 0), (0, 0), false)))
@[simp] theorem sDropC_at (a b c d e f g h : Int) (i j k l m n : Int) : sDropC [.agg [eQ a b, eQ c d, eQ e f, eQ g h], .agg [eQ i j, eQ k l, eQ m n]] = (((I64 a ∧ I64 b) ∧ (I64 c ∧ I64 d) ∧ (I64 e ∧ I64 f) ∧ I64 g ∧ I64 h) ∧ ((I64 i ∧ I64 j) ∧ (I64 k ∧ I64 l) ∧ I64 m ∧ I64 n), vD (if plOk a b c d e f g h ∧ v3Ok i j k l m n then oV (drpQ (Rat.divInt c d) (Rat.divInt e f) (Rat.divInt i j) (Rat.divInt k l) (Rat.divInt m n)).1 (drpQ (Rat.divInt c d) (Rat.divInt e f) (Rat.divInt i j) (Rat.divInt k l) (Rat.divInt m n)).2 else ((0, 0), (0, 0), false))) := ct2_at ((a, b), (c, d), (e, f), g, h) ((i, j), (k, l), m, n)
noncomputable def sDropTb : List (FuncId × Ct) := [(11, .data sV3OkC)]
theorem sDropTb_ok : TbOK NF Try.prog (tbl sDropTb) := tbl_cons (c := .data sV3OkC) sV3Ok_spec sV3Ok_ok tbl_nil

@[simp] theorem sDropTb2 : tbl sDropTb 11 = some (.data sV3OkC) := rfl
/-! i.Lift -/
noncomputable def iLiftC := ct2 EPl EV (fun p0 p1 => ((I64 p0.1.1 ∧ I64 p0.1.2) ∧ (I64 p0.2.1.1 ∧ I64 p0.2.1.2) ∧ (I64 p0.2.2.1.1 ∧ I64 p0.2.2.1.2) ∧ I64 p0.2.2.2.1 ∧ I64 p0.2.2.2.2) ∧ ((I64 p1.1.1 ∧ I64 p1.1.2) ∧ I64 p1.2.1 ∧ I64 p1.2.2)) (fun p0 p1 => v3T (if plOk p0.1.1 p0.1.2 p0.2.1.1 p0.2.1.2 p0.2.2.1.1 p0.2.2.1.2 p0.2.2.2.1 p0.2.2.2.2 ∧ (qOk p1.1.1 p1.1.2 ∧ qOk p1.2.1 p1.2.2) then oV3 (lftQ (Rat.divInt p0.1.1 p0.1.2) (Rat.divInt p0.2.1.1 p0.2.1.2) (Rat.divInt p0.2.2.1.1 p0.2.2.1.2) (Rat.divInt p0.2.2.2.1 p0.2.2.2.2) (Rat.divInt p1.1.1 p1.1.2) (Rat.divInt p1.2.1 p1.2.2)).1 (lftQ (Rat.divInt p0.1.1 p0.1.2) (Rat.divInt p0.2.1.1 p0.2.1.2) (Rat.divInt p0.2.2.1.1 p0.2.2.1.2) (Rat.divInt p0.2.2.2.1 p0.2.2.2.2) (Rat.divInt p1.1.1 p1.1.2) (Rat.divInt p1.2.1 p1.2.2)).2.1 (lftQ (Rat.divInt p0.1.1 p0.1.2) (Rat.divInt p0.2.1.1 p0.2.1.2) (Rat.divInt p0.2.2.1.1 p0.2.2.1.2) (Rat.divInt p0.2.2.2.1 p0.2.2.2.2) (Rat.divInt p1.1.1 p1.1.2) (Rat.divInt p1.2.1 p1.2.2)).2.2 else ((0, 0), (0, 0), (0, 0), false)))
@[simp] theorem iLiftC_at (a b c d e f g h : Int) (i j k l : Int) : iLiftC [.agg [eQ a b, eQ c d, eQ e f, eQ g h], .agg [eQ i j, eQ k l]] = (((I64 a ∧ I64 b) ∧ (I64 c ∧ I64 d) ∧ (I64 e ∧ I64 f) ∧ I64 g ∧ I64 h) ∧ ((I64 i ∧ I64 j) ∧ I64 k ∧ I64 l), v3T (if plOk a b c d e f g h ∧ (qOk i j ∧ qOk k l) then oV3 (lftQ (Rat.divInt a b) (Rat.divInt c d) (Rat.divInt e f) (Rat.divInt g h) (Rat.divInt i j) (Rat.divInt k l)).1 (lftQ (Rat.divInt a b) (Rat.divInt c d) (Rat.divInt e f) (Rat.divInt g h) (Rat.divInt i j) (Rat.divInt k l)).2.1 (lftQ (Rat.divInt a b) (Rat.divInt c d) (Rat.divInt e f) (Rat.divInt g h) (Rat.divInt i j) (Rat.divInt k l)).2.2 else ((0, 0), (0, 0), (0, 0), false))) := ct2_at ((a, b), (c, d), (e, f), g, h) ((i, j), k, l)
/-! s.Lift -/
noncomputable def sLiftC := ct2 EPl EV (fun p0 p1 => ((I64 p0.1.1 ∧ I64 p0.1.2) ∧ (I64 p0.2.1.1 ∧ I64 p0.2.1.2) ∧ (I64 p0.2.2.1.1 ∧ I64 p0.2.2.1.2) ∧ I64 p0.2.2.2.1 ∧ I64 p0.2.2.2.2) ∧ ((I64 p1.1.1 ∧ I64 p1.1.2) ∧ I64 p1.2.1 ∧ I64 p1.2.2)) (fun p0 p1 => v3T (if plOk p0.1.1 p0.1.2 p0.2.1.1 p0.2.1.2 p0.2.2.1.1 p0.2.2.1.2 p0.2.2.2.1 p0.2.2.2.2 ∧ (qOk p1.1.1 p1.1.2 ∧ qOk p1.2.1 p1.2.2) then oV3 (lftQ (Rat.divInt p0.1.1 p0.1.2) (Rat.divInt p0.2.1.1 p0.2.1.2) (Rat.divInt p0.2.2.1.1 p0.2.2.1.2) (Rat.divInt p0.2.2.2.1 p0.2.2.2.2) (Rat.divInt p1.1.1 p1.1.2) (Rat.divInt p1.2.1 p1.2.2)).1 (lftQ (Rat.divInt p0.1.1 p0.1.2) (Rat.divInt p0.2.1.1 p0.2.1.2) (Rat.divInt p0.2.2.1.1 p0.2.2.1.2) (Rat.divInt p0.2.2.2.1 p0.2.2.2.2) (Rat.divInt p1.1.1 p1.1.2) (Rat.divInt p1.2.1 p1.2.2)).2.1 (lftQ (Rat.divInt p0.1.1 p0.1.2) (Rat.divInt p0.2.1.1 p0.2.1.2) (Rat.divInt p0.2.2.1.1 p0.2.2.1.2) (Rat.divInt p0.2.2.2.1 p0.2.2.2.2) (Rat.divInt p1.1.1 p1.1.2) (Rat.divInt p1.2.1 p1.2.2)).2.2 else ((0, 0), (0, 0), (0, 0), false)))
@[simp] theorem sLiftC_at (a b c d e f g h : Int) (i j k l : Int) : sLiftC [.agg [eQ a b, eQ c d, eQ e f, eQ g h], .agg [eQ i j, eQ k l]] = (((I64 a ∧ I64 b) ∧ (I64 c ∧ I64 d) ∧ (I64 e ∧ I64 f) ∧ I64 g ∧ I64 h) ∧ ((I64 i ∧ I64 j) ∧ I64 k ∧ I64 l), v3T (if plOk a b c d e f g h ∧ (qOk i j ∧ qOk k l) then oV3 (lftQ (Rat.divInt a b) (Rat.divInt c d) (Rat.divInt e f) (Rat.divInt g h) (Rat.divInt i j) (Rat.divInt k l)).1 (lftQ (Rat.divInt a b) (Rat.divInt c d) (Rat.divInt e f) (Rat.divInt g h) (Rat.divInt i j) (Rat.divInt k l)).2.1 (lftQ (Rat.divInt a b) (Rat.divInt c d) (Rat.divInt e f) (Rat.divInt g h) (Rat.divInt i j) (Rat.divInt k l)).2.2 else ((0, 0), (0, 0), (0, 0), false))) := ct2_at ((a, b), (c, d), (e, f), g, h) ((i, j), k, l)
/-! i.PlaneOf -/
noncomputable def iPlaneOfC := ct3 EV3 EV3 EV3 (fun p0 p1 p2 => ((I64 p0.1.1 ∧ I64 p0.1.2) ∧ (I64 p0.2.1.1 ∧ I64 p0.2.1.2) ∧ I64 p0.2.2.1 ∧ I64 p0.2.2.2) ∧ ((I64 p1.1.1 ∧ I64 p1.1.2) ∧ (I64 p1.2.1.1 ∧ I64 p1.2.1.2) ∧ I64 p1.2.2.1 ∧ I64 p1.2.2.2) ∧ ((I64 p2.1.1 ∧ I64 p2.1.2) ∧ (I64 p2.2.1.1 ∧ I64 p2.2.1.2) ∧ I64 p2.2.2.1 ∧ I64 p2.2.2.2)) (fun p0 p1 p2 => plT (tldO (if v3Ok p0.1.1 p0.1.2 p0.2.1.1 p0.2.1.2 p0.2.2.1 p0.2.2.2 ∧ v3Ok p1.1.1 p1.1.2 p1.2.1.1 p1.2.1.2 p1.2.2.1 p1.2.2.2 ∧ v3Ok p2.1.1 p2.1.2 p2.2.1.1 p2.2.1.2 p2.2.2.1 p2.2.2.2 then throQ (Rat.divInt p0.1.1 p0.1.2) (Rat.divInt p0.2.1.1 p0.2.1.2) (Rat.divInt p0.2.2.1 p0.2.2.2) (Rat.divInt p1.1.1 p1.1.2) (Rat.divInt p1.2.1.1 p1.2.1.2) (Rat.divInt p1.2.2.1 p1.2.2.2) (Rat.divInt p2.1.1 p2.1.2) (Rat.divInt p2.2.1.1 p2.2.1.2) (Rat.divInt p2.2.2.1 p2.2.2.2) else none)))
@[simp] theorem iPlaneOfC_at (a b c d e f : Int) (g h i j k l : Int) (m n o p q r : Int) : iPlaneOfC [.agg [eQ a b, eQ c d, eQ e f], .agg [eQ g h, eQ i j, eQ k l], .agg [eQ m n, eQ o p, eQ q r]] = (((I64 a ∧ I64 b) ∧ (I64 c ∧ I64 d) ∧ I64 e ∧ I64 f) ∧ ((I64 g ∧ I64 h) ∧ (I64 i ∧ I64 j) ∧ I64 k ∧ I64 l) ∧ ((I64 m ∧ I64 n) ∧ (I64 o ∧ I64 p) ∧ I64 q ∧ I64 r), plT (tldO (if v3Ok a b c d e f ∧ v3Ok g h i j k l ∧ v3Ok m n o p q r then throQ (Rat.divInt a b) (Rat.divInt c d) (Rat.divInt e f) (Rat.divInt g h) (Rat.divInt i j) (Rat.divInt k l) (Rat.divInt m n) (Rat.divInt o p) (Rat.divInt q r) else none))) := ct3_at ((a, b), (c, d), e, f) ((g, h), (i, j), k, l) ((m, n), (o, p), q, r)
noncomputable def iPlaneOfTb : List (FuncId × Ct) := [(25, .data iV3OkC), (24, .data pv3C)]
theorem iPlaneOfTb_ok {N : NR} : TbOK N Try.prog (tbl iPlaneOfTb) := tbl_cons (c := .data iV3OkC) iV3Ok_spec iV3Ok_ok (tbl_cons (c := .data pv3C) pv3_spec pv3_ok tbl_nil)

@[simp] theorem iPlaneOfTb1 : tbl iPlaneOfTb 25 = some (.data iV3OkC) := rfl
@[simp] theorem iPlaneOfTb2 : tbl iPlaneOfTb 24 = some (.data pv3C) := rfl
/-! s.PlaneOf -/
noncomputable def sPlaneOfC := ct3 EV3 EV3 EV3 (fun p0 p1 p2 => ((I64 p0.1.1 ∧ I64 p0.1.2) ∧ (I64 p0.2.1.1 ∧ I64 p0.2.1.2) ∧ I64 p0.2.2.1 ∧ I64 p0.2.2.2) ∧ ((I64 p1.1.1 ∧ I64 p1.1.2) ∧ (I64 p1.2.1.1 ∧ I64 p1.2.1.2) ∧ I64 p1.2.2.1 ∧ I64 p1.2.2.2) ∧ ((I64 p2.1.1 ∧ I64 p2.1.2) ∧ (I64 p2.2.1.1 ∧ I64 p2.2.1.2) ∧ I64 p2.2.2.1 ∧ I64 p2.2.2.2)) (fun p0 p1 p2 => plT (tldO (if v3Ok p0.1.1 p0.1.2 p0.2.1.1 p0.2.1.2 p0.2.2.1 p0.2.2.2 ∧ v3Ok p1.1.1 p1.1.2 p1.2.1.1 p1.2.1.2 p1.2.2.1 p1.2.2.2 ∧ v3Ok p2.1.1 p2.1.2 p2.2.1.1 p2.2.1.2 p2.2.2.1 p2.2.2.2 then throQ (Rat.divInt p0.1.1 p0.1.2) (Rat.divInt p0.2.1.1 p0.2.1.2) (Rat.divInt p0.2.2.1 p0.2.2.2) (Rat.divInt p1.1.1 p1.1.2) (Rat.divInt p1.2.1.1 p1.2.1.2) (Rat.divInt p1.2.2.1 p1.2.2.2) (Rat.divInt p2.1.1 p2.1.2) (Rat.divInt p2.2.1.1 p2.2.1.2) (Rat.divInt p2.2.2.1 p2.2.2.2) else none)))
@[simp] theorem sPlaneOfC_at (a b c d e f : Int) (g h i j k l : Int) (m n o p q r : Int) : sPlaneOfC [.agg [eQ a b, eQ c d, eQ e f], .agg [eQ g h, eQ i j, eQ k l], .agg [eQ m n, eQ o p, eQ q r]] = (((I64 a ∧ I64 b) ∧ (I64 c ∧ I64 d) ∧ I64 e ∧ I64 f) ∧ ((I64 g ∧ I64 h) ∧ (I64 i ∧ I64 j) ∧ I64 k ∧ I64 l) ∧ ((I64 m ∧ I64 n) ∧ (I64 o ∧ I64 p) ∧ I64 q ∧ I64 r), plT (tldO (if v3Ok a b c d e f ∧ v3Ok g h i j k l ∧ v3Ok m n o p q r then throQ (Rat.divInt a b) (Rat.divInt c d) (Rat.divInt e f) (Rat.divInt g h) (Rat.divInt i j) (Rat.divInt k l) (Rat.divInt m n) (Rat.divInt o p) (Rat.divInt q r) else none))) := ct3_at ((a, b), (c, d), e, f) ((g, h), (i, j), k, l) ((m, n), (o, p), q, r)
noncomputable def sPlaneOfTb : List (FuncId × Ct) := [(11, .data sV3OkC)]
theorem sPlaneOfTb_ok : TbOK NF Try.prog (tbl sPlaneOfTb) := tbl_cons (c := .data sV3OkC) sV3Ok_spec sV3Ok_ok tbl_nil

@[simp] theorem sPlaneOfTb1 : tbl sPlaneOfTb 11 = some (.data sV3OkC) := rfl
end Go.Proofs.Ytdkgkcnllhcamaa.Ae

/-! The laws Drop, Side, Lift, PlaneOf. No condition. -/
namespace Go.Proofs.Ytdkgkcnllhcamaa.Ae
open Go Go.RowKit Go.Proofs.Ytdkgkcnllhcamaa.Dig

/-! l.toV3 -/
noncomputable def toV3C := ct1 EV3 (fun p0 => True) (fun p0 => [.agg [eQ p0.1.1 p0.1.2, eQ p0.2.1.1 p0.2.1.2, eQ p0.2.2.1 p0.2.2.2]])
@[simp] theorem toV3C_at (a b c d e f : Int) : toV3C [.agg [eQ a b, eQ c d, eQ e f]] = (True, [.agg [eQ a b, eQ c d, eQ e f]]) := ct1_at ((a, b), (c, d), e, f)
noncomputable def toV3Tb : List (FuncId × Ct) := [(30, .data toQC)]
theorem toV3Tb_ok {N : NR} : TbOK N Try.prog (tbl toV3Tb) := tbl_cons (c := .data toQC) toQ_spec toQ_ok tbl_nil

@[simp] theorem toV3Tb1 : tbl toV3Tb 30 = some (.data toQC) := rfl
theorem toV3_spec {N : NR} : SpecD N Try.prog 20 toV3C := by
  refine rd1 (mf := fun f => false) toV3Tb_ok (fn := Try.f20) (by kernel_rfl) rfl (by kernel_rfl) (by kernel_rfl) ?_
  rintro ⟨⟨a, b⟩, ⟨c, d⟩, e, f⟩ hp
  have hp : True := hp
  show awp _ _ _ _ (start _ ([.agg [eQ a b, eQ c d, eQ e f]].map .dat) []) (endK _ _ _ (([.agg [eQ a b, eQ c d, eQ e f]]).map .dat) [])
  simp [-D.isLit, Try.f20]
theorem toV3_ok : callable Try.prog 20 = true := by kernel_rfl

/-! l.toPlane -/
noncomputable def toPlaneC := ct1 EPl (fun p0 => True) (fun p0 => [.agg [eQ p0.1.1 p0.1.2, eQ p0.2.1.1 p0.2.1.2, eQ p0.2.2.1.1 p0.2.2.1.2, eQ p0.2.2.2.1 p0.2.2.2.2]])
@[simp] theorem toPlaneC_at (a b c d e f g h : Int) : toPlaneC [.agg [eQ a b, eQ c d, eQ e f, eQ g h]] = (True, [.agg [eQ a b, eQ c d, eQ e f, eQ g h]]) := ct1_at ((a, b), (c, d), (e, f), g, h)
noncomputable def toPlaneTb : List (FuncId × Ct) := [(30, .data toQC)]
theorem toPlaneTb_ok {N : NR} : TbOK N Try.prog (tbl toPlaneTb) := tbl_cons (c := .data toQC) toQ_spec toQ_ok tbl_nil

@[simp] theorem toPlaneTb1 : tbl toPlaneTb 30 = some (.data toQC) := rfl
/-! l.eqV3 -/
noncomputable def eqV3C := ct2 EV3 EV3 (fun p0 p1 => p0.1.1 = p1.1.1 ∧ p0.1.2 = p1.1.2 ∧ p0.2.1.1 = p1.2.1.1 ∧ p0.2.1.2 = p1.2.1.2 ∧ p0.2.2.1 = p1.2.2.1 ∧ p0.2.2.2 = p1.2.2.2) (fun p0 p1 => [.lit (.bool true)])
@[simp] theorem eqV3C_at (a b c d e f : Int) (g h i j k l : Int) : eqV3C [.agg [eQ a b, eQ c d, eQ e f], .agg [eQ g h, eQ i j, eQ k l]] = (a = g ∧ b = h ∧ c = i ∧ d = j ∧ e = k ∧ f = l, [.lit (.bool true)]) := ct2_at ((a, b), (c, d), e, f) ((g, h), (i, j), k, l)
noncomputable def eqV3Tb : List (FuncId × Ct) := [(33, .data eqQC)]
theorem eqV3Tb_ok {N : NR} : TbOK N Try.prog (tbl eqV3Tb) := tbl_cons (c := .data eqQC) eqQ_spec eqQ_ok tbl_nil

@[simp] theorem eqV3Tb1 : tbl eqV3Tb 33 = some (.data eqQC) := rfl
theorem eqV3_spec {N : NR} : SpecD N Try.prog 26 eqV3C := by
  refine rd2 (mf := fun f => false) eqV3Tb_ok (fn := Try.f26) (by kernel_rfl) rfl (by kernel_rfl) (by kernel_rfl) ?_
  rintro ⟨⟨a, b⟩, ⟨c, d⟩, e, f⟩ ⟨⟨g, h⟩, ⟨i, j⟩, k, l⟩ hp
  have hp : a = g ∧ b = h ∧ c = i ∧ d = j ∧ e = k ∧ f = l := hp
  show awp _ _ _ _ (start _ ([.agg [eQ a b, eQ c d, eQ e f], .agg [eQ g h, eQ i j, eQ k l]].map .dat) []) (endK _ _ _ (([.lit (.bool true)]).map .dat) [])
  simp [-D.isLit, Try.f26, hp]
theorem eqV3_ok : callable Try.prog 26 = true := by kernel_rfl

/-! l.eqPlane -/
noncomputable def eqPlC := ct2 EPl EPl (fun p0 p1 => p0.1.1 = p1.1.1 ∧ p0.1.2 = p1.1.2 ∧ p0.2.1.1 = p1.2.1.1 ∧ p0.2.1.2 = p1.2.1.2 ∧ p0.2.2.1.1 = p1.2.2.1.1 ∧ p0.2.2.1.2 = p1.2.2.1.2 ∧ p0.2.2.2.1 = p1.2.2.2.1 ∧ p0.2.2.2.2 = p1.2.2.2.2) (fun p0 p1 => [.lit (.bool true)])
@[simp] theorem eqPlC_at (a b c d e f g h : Int) (i j k l m n o p : Int) : eqPlC [.agg [eQ a b, eQ c d, eQ e f, eQ g h], .agg [eQ i j, eQ k l, eQ m n, eQ o p]] = (a = i ∧ b = j ∧ c = k ∧ d = l ∧ e = m ∧ f = n ∧ g = o ∧ h = p, [.lit (.bool true)]) := ct2_at ((a, b), (c, d), (e, f), g, h) ((i, j), (k, l), (m, n), o, p)
noncomputable def eqPlTb : List (FuncId × Ct) := [(33, .data eqQC)]
theorem eqPlTb_ok {N : NR} : TbOK N Try.prog (tbl eqPlTb) := tbl_cons (c := .data eqQC) eqQ_spec eqQ_ok tbl_nil

@[simp] theorem eqPlTb1 : tbl eqPlTb 33 = some (.data eqQC) := rfl
/-! l.FnExactSide -/
noncomputable def lwSideC := ct2 EPl EV3 (fun p0 p1 => ((I64 p0.1.1 ∧ I64 p0.1.2) ∧ (I64 p0.2.1.1 ∧ I64 p0.2.1.2) ∧ (I64 p0.2.2.1.1 ∧ I64 p0.2.2.1.2) ∧ I64 p0.2.2.2.1 ∧ I64 p0.2.2.2.2) ∧ ((I64 p1.1.1 ∧ I64 p1.1.2) ∧ (I64 p1.2.1.1 ∧ I64 p1.2.1.2) ∧ I64 p1.2.2.1 ∧ I64 p1.2.2.2)) (fun p0 p1 => [.lit (.bool true)])
@[simp] theorem lwSideC_at (a b c d e f g h : Int) (i j k l m n : Int) : lwSideC [.agg [eQ a b, eQ c d, eQ e f, eQ g h], .agg [eQ i j, eQ k l, eQ m n]] = (((I64 a ∧ I64 b) ∧ (I64 c ∧ I64 d) ∧ (I64 e ∧ I64 f) ∧ I64 g ∧ I64 h) ∧ ((I64 i ∧ I64 j) ∧ (I64 k ∧ I64 l) ∧ I64 m ∧ I64 n), [.lit (.bool true)]) := ct2_at ((a, b), (c, d), (e, f), g, h) ((i, j), (k, l), m, n)
noncomputable def lwSideTb : List (FuncId × Ct) := [(20, .data toV3C)]
theorem lwSideTb_ok : TbOK NF Try.prog (tbl lwSideTb) := tbl_cons (c := .data toV3C) toV3_spec toV3_ok tbl_nil

@[simp] theorem lwSideTb2 : tbl lwSideTb 20 = some (.data toV3C) := rfl
/-! l.FnExactDrop -/
noncomputable def lwDropC := ct2 EPl EV3 (fun p0 p1 => ((I64 p0.1.1 ∧ I64 p0.1.2) ∧ (I64 p0.2.1.1 ∧ I64 p0.2.1.2) ∧ (I64 p0.2.2.1.1 ∧ I64 p0.2.2.1.2) ∧ I64 p0.2.2.2.1 ∧ I64 p0.2.2.2.2) ∧ ((I64 p1.1.1 ∧ I64 p1.1.2) ∧ (I64 p1.2.1.1 ∧ I64 p1.2.1.2) ∧ I64 p1.2.2.1 ∧ I64 p1.2.2.2)) (fun p0 p1 => [.lit (.bool true)])
@[simp] theorem lwDropC_at (a b c d e f g h : Int) (i j k l m n : Int) : lwDropC [.agg [eQ a b, eQ c d, eQ e f, eQ g h], .agg [eQ i j, eQ k l, eQ m n]] = (((I64 a ∧ I64 b) ∧ (I64 c ∧ I64 d) ∧ (I64 e ∧ I64 f) ∧ I64 g ∧ I64 h) ∧ ((I64 i ∧ I64 j) ∧ (I64 k ∧ I64 l) ∧ I64 m ∧ I64 n), [.lit (.bool true)]) := ct2_at ((a, b), (c, d), (e, f), g, h) ((i, j), (k, l), m, n)
noncomputable def lwDropTb : List (FuncId × Ct) := [(20, .data toV3C)]
theorem lwDropTb_ok : TbOK NF Try.prog (tbl lwDropTb) := tbl_cons (c := .data toV3C) toV3_spec toV3_ok tbl_nil

@[simp] theorem lwDropTb2 : tbl lwDropTb 20 = some (.data toV3C) := rfl
/-! l.FnExactLift -/
noncomputable def lwLiftC := ct2 EPl EV (fun p0 p1 => ((I64 p0.1.1 ∧ I64 p0.1.2) ∧ (I64 p0.2.1.1 ∧ I64 p0.2.1.2) ∧ (I64 p0.2.2.1.1 ∧ I64 p0.2.2.1.2) ∧ I64 p0.2.2.2.1 ∧ I64 p0.2.2.2.2) ∧ ((I64 p1.1.1 ∧ I64 p1.1.2) ∧ I64 p1.2.1 ∧ I64 p1.2.2)) (fun p0 p1 => [.lit (.bool true)])
@[simp] theorem lwLiftC_at (a b c d e f g h : Int) (i j k l : Int) : lwLiftC [.agg [eQ a b, eQ c d, eQ e f, eQ g h], .agg [eQ i j, eQ k l]] = (((I64 a ∧ I64 b) ∧ (I64 c ∧ I64 d) ∧ (I64 e ∧ I64 f) ∧ I64 g ∧ I64 h) ∧ ((I64 i ∧ I64 j) ∧ I64 k ∧ I64 l), [.lit (.bool true)]) := ct2_at ((a, b), (c, d), (e, f), g, h) ((i, j), k, l)
noncomputable def lwLiftTb : List (FuncId × Ct) := [(26, .data eqV3C)]
theorem lwLiftTb_ok : TbOK NF Try.prog (tbl lwLiftTb) := tbl_cons (c := .data eqV3C) eqV3_spec eqV3_ok tbl_nil

@[simp] theorem lwLiftTb3 : tbl lwLiftTb 26 = some (.data eqV3C) := rfl
/-! l.FnExactPlaneOf -/
noncomputable def lwPlaneOfC := ct3 EV3 EV3 EV3 (fun p0 p1 p2 => ((I64 p0.1.1 ∧ I64 p0.1.2) ∧ (I64 p0.2.1.1 ∧ I64 p0.2.1.2) ∧ I64 p0.2.2.1 ∧ I64 p0.2.2.2) ∧ ((I64 p1.1.1 ∧ I64 p1.1.2) ∧ (I64 p1.2.1.1 ∧ I64 p1.2.1.2) ∧ I64 p1.2.2.1 ∧ I64 p1.2.2.2) ∧ ((I64 p2.1.1 ∧ I64 p2.1.2) ∧ (I64 p2.2.1.1 ∧ I64 p2.2.1.2) ∧ I64 p2.2.2.1 ∧ I64 p2.2.2.2)) (fun p0 p1 p2 => [.lit (.bool true)])
@[simp] theorem lwPlaneOfC_at (a b c d e f : Int) (g h i j k l : Int) (m n o p q r : Int) : lwPlaneOfC [.agg [eQ a b, eQ c d, eQ e f], .agg [eQ g h, eQ i j, eQ k l], .agg [eQ m n, eQ o p, eQ q r]] = (((I64 a ∧ I64 b) ∧ (I64 c ∧ I64 d) ∧ I64 e ∧ I64 f) ∧ ((I64 g ∧ I64 h) ∧ (I64 i ∧ I64 j) ∧ I64 k ∧ I64 l) ∧ ((I64 m ∧ I64 n) ∧ (I64 o ∧ I64 p) ∧ I64 q ∧ I64 r), [.lit (.bool true)]) := ct3_at ((a, b), (c, d), e, f) ((g, h), (i, j), k, l) ((m, n), (o, p), q, r)
noncomputable def lwPlaneOfTb : List (FuncId × Ct) := [(20, .data toV3C)]
theorem lwPlaneOfTb_ok : TbOK NF Try.prog (tbl lwPlaneOfTb) := tbl_cons (c := .data toV3C) toV3_spec toV3_ok tbl_nil

@[simp] theorem lwPlaneOfTb1 : tbl lwPlaneOfTb 20 = some (.data toV3C) := rfl
end Go.Proofs.Ytdkgkcnllhcamaa.Ae

/-! What is handed to a law, read as data: from the walk over a value in memory. No condition. -/
namespace Go.Proofs.Ytdkgkcnllhcamaa.Ae
open Go

/-- Data of a type. -/
def shp (P : Program) : Nat → TypeId → D → Prop
  | 0, _, _ => False
  | n + 1, t, d => match P.underlying t with
    | some .bool => ∃ b, d = .lit (.bool b)
    | some (.int k) => ∃ x, d = .lit (.int k x) ∧ (Lit.int k x).wf = true
    | some .string => ∃ s : ByteArray, d = .lit (.string s) ∧ s.size ≤ maxLen
    | some (.struct fs) => ∃ ds, d = .agg ds ∧ ds.length = fs.toList.length ∧ ∀ (i : Nat) (f : Field) (x : D), fs.toList[i]? = some f → ds[i]? = some x → shp P n f.type x
    | some (.slice e) => ∃ xs, d = .sl (P.cellsOf e) xs ∧ xs.length ≤ maxLen ∧ ∀ x ∈ xs, shp P n e x
    | _ => False
/-- A struct's fields lie one behind another. -/
def layF (P : Program) : List Field → Nat → Nat → Bool
  | [], o, c => o == c
  | f :: fs, o, c => f.offset == o && layF P fs (o + P.cellsOf f.type) c
def layT (P : Program) : Nat → TypeId → Bool
  | 0, _ => false
  | n + 1, t => match P.underlying t with
    | some .bool | some (.int _) | some .string => true
    | some (.struct fs) => layF P fs.toList 0 (P.cellsOf t) && fs.toList.all fun f => layT P n f.type
    | some (.slice e) => Nat.blt 0 (P.cellsOf e) && layT P n e
    | _ => false

theorem list_of {α : Type} {p : Nat → α → Prop} : ∀ n : Nat, (∀ i, i < n → ∃ d, p i d) → ∃ l : List α, l.length = n ∧ ∀ (i : Nat) (d : α), l[i]? = some d → p i d
  | 0, _ => ⟨[], rfl, fun i d h => by simp at h⟩
  | n + 1, h => by
    obtain ⟨d0, h0⟩ := h 0 (by omega)
    obtain ⟨l, hl, hp⟩ := list_of (p := fun i => p (i + 1)) n (fun i hi => h (i + 1) (by omega))
    refine ⟨d0 :: l, by simp [hl], fun i d hd => ?_⟩
    cases i with
    | zero => simp at hd; subst hd; exact h0
    | succ i => exact hp i d (by simpa using hd)
theorem fields_rep {N : NR} {F : Nat → Prop} {w : World} {P : Program} {n : Nat} : ∀ (l : List Field) (o c : Nat) (cs : List Value), layF P l o c = true → cs.length = c - o → o ≤ c →
    (∀ (i : Nat) (f : Field), l[i]? = some f → ∃ d, Rep N F w d ((cs.drop (f.offset - o)).take (P.cellsOf f.type)) ∧ shp P n f.type d ∧ ((cs.drop (f.offset - o)).take (P.cellsOf f.type)).length = P.cellsOf f.type) →
    ∃ (ds : List D) (css : List (List Value)), css.flatten = cs ∧ css.length = ds.length ∧ ds.length = l.length ∧ (∀ (i : Nat) (d : D) (x : List Value), ds[i]? = some d → css[i]? = some x → Rep N F w d x) ∧ ∀ (i : Nat) (f : Field) (x : D), l[i]? = some f → ds[i]? = some x → shp P n f.type x
  | [], o, c, cs, hl, hc, ho, h => by
    simp only [layF, beq_iff_eq] at hl
    subst hl
    rw [Nat.sub_self] at hc
    exact ⟨[], [], (List.eq_nil_of_length_eq_zero hc).symm, rfl, rfl, fun i d x h => by simp at h, fun i f x h => by simp at h⟩
  | f :: l, o, c, cs, hl, hc, ho, h => by
    simp only [layF, Bool.and_eq_true, beq_iff_eq] at hl
    obtain ⟨rfl, hl⟩ := hl
    obtain ⟨d0, r0, s0, e0⟩ := h 0 f rfl
    rw [Nat.sub_self, List.drop_zero] at r0 e0
    have hle : P.cellsOf f.type ≤ cs.length := by
      have := List.length_take_le (P.cellsOf f.type) cs
      rw [List.length_take] at e0
      omega
    have mono : ∀ (l : List Field) (o : Nat), layF P l o c = true → o ≤ c ∧ ∀ g ∈ l, o ≤ g.offset := by
      intro l
      induction l with
      | nil => intro o h; simp only [layF, beq_iff_eq] at h; exact ⟨by omega, fun g hg => by simp at hg⟩
      | cons g l ih =>
        intro o h
        simp only [layF, Bool.and_eq_true, beq_iff_eq] at h
        obtain ⟨i1, i2⟩ := ih _ h.2
        refine ⟨by omega, fun g' hg => ?_⟩
        rcases List.mem_cons.1 hg with rfl | hg
        · omega
        · have := i2 g' hg; omega
    have mo := mono l _ hl
    obtain ⟨ds, css, h1, h2, h3, h4, h5⟩ := fields_rep l (f.offset + P.cellsOf f.type) c (cs.drop (P.cellsOf f.type)) hl (by rw [List.length_drop, hc]; omega) mo.1 (fun i g hg => by
      obtain ⟨d, r, s, e⟩ := h (i + 1) g (by simpa using hg)
      have hgo := mo.2 g (List.mem_of_getElem? hg)
      rw [List.drop_drop]
      have e1 : P.cellsOf f.type + (g.offset - (f.offset + P.cellsOf f.type)) = g.offset - f.offset := by omega
      rw [e1]
      exact ⟨d, r, s, e⟩)
    refine ⟨d0 :: ds, cs.take (P.cellsOf f.type) :: css, by rw [List.flatten_cons, h1, List.take_append_drop], by simp [h2], by simp [h3], fun i d x hd hx => ?_, fun i g x hg hx => ?_⟩
    · cases i with
      | zero => simp at hd hx; subst hd hx; exact r0
      | succ i => exact h4 i d x (by simpa using hd) (by simpa using hx)
    · cases i with
      | zero => simp at hg hx; subst hg hx; exact s0
      | succ i => exact h5 i g x (by simpa using hg) (by simpa using hx)

theorem layF_in {P : Program} {c : Nat} : ∀ (l : List Field) (o : Nat), layF P l o c = true → o ≤ c ∧ ∀ f ∈ l, f.offset + P.cellsOf f.type ≤ c
  | [], o, h => by simp only [layF, beq_iff_eq] at h; exact ⟨by omega, fun f hf => by simp at hf⟩
  | g :: l, o, h => by
    simp only [layF, Bool.and_eq_true, beq_iff_eq] at h
    obtain ⟨i1, i2⟩ := layF_in l _ h.2
    refine ⟨by omega, fun f hf => ?_⟩
    rcases List.mem_cons.1 hf with rfl | hf
    · omega
    · exact i2 f hf
theorem trod_cells {P : Program} {l : List Field} {c i : Nat} {f : Field} {cs : List Value} (hl : layF P l 0 c = true) (hlen : cs.length = c) (hi : l[i]? = some f) : ((cs.drop f.offset).take (P.cellsOf f.type)).length = P.cellsOf f.type := by
  have := (layF_in l 0 hl).2 f (List.mem_of_getElem? hi)
  rw [List.length_take, List.length_drop]
  omega
/-- What is walked over can be read as data. -/
theorem rep_of_trod {N : NR} {F : Nat → Prop} {H : Type} {enc : TypeId × Value → H} {P : Program} {w : World} {base : Nat} {sp : Nat → Bool} {held : Bool} (hF : ∀ b, base ≤ b → b < w.heap.size → F b) :
    ∀ (n : Nat) {m : Nat} {t : TypeId} {cs : List Value} {x : DataW H × List MemPlace}, layT P n t = true → DataW.trod enc P w base sp held m t cs = some x → ∃ d, Rep N F w d cs ∧ shp P n t d
  | 0, m, t, cs, x, hl, h => by simp [layT] at hl
  | n + 1, m, t, cs, x, hl, h => by
    simp only [layT] at hl
    simp only [shp]
    split at hl
    · rename_i hu
      obtain ⟨b, rfl, _⟩ := DataW.trod_bool hu h
      exact ⟨_, .lit rfl, by exact ⟨b, rfl⟩⟩
    · rename_i k hu
      obtain ⟨b, rfl, _, hw⟩ := DataW.trod_int hu h
      exact ⟨_, .lit rfl, by exact ⟨b, rfl, hw⟩⟩
    · rename_i hu
      obtain ⟨b, rfl, _, hw⟩ := DataW.trod_string hu h
      exact ⟨_, .lit rfl, by exact ⟨b, rfl, hw⟩⟩
    · rename_i fs hu
      obtain ⟨xs, m', _, _, hlen, hxs, hf⟩ := DataW.trod_struct hu h
      rw [Bool.and_eq_true] at hl
      obtain ⟨ds, css, h1, h2, h3, h4, h5⟩ := fields_rep (N := N) (F := F) (w := w) (n := n) fs.toList 0 (P.cellsOf t) cs hl.1 (by omega) (by omega) (fun i f hfi => by
        have hi : fs[i]? = some f := by simpa using hfi
        have hlt : i < xs.length := by rw [hxs]; exact (Array.getElem?_eq_some_iff.1 hi).1
        have hx := hf i f hi
        rw [List.getElem?_eq_getElem hlt] at hx
        obtain ⟨d, r, s⟩ := rep_of_trod hF n (List.all_eq_true.1 hl.2 f (List.mem_of_getElem? hfi)) hx
        exact ⟨d, by simpa using r, s, by
          rw [Nat.sub_zero]
          exact trod_cells hl.1 hlen hfi⟩)
      subst h1
      exact ⟨.agg ds, .agg h2 h4, by exact ⟨ds, rfl, h3, h5⟩⟩
    · rename_i e hu
      rw [Bool.and_eq_true, Nat.blt_eq] at hl
      rcases DataW.trod_slice hu h with ⟨rfl, _⟩ | ⟨a, len, cap, elems, rest, m', _, rfl, _, hb, hlc, hcm, hel, hget, _, _⟩
      · exact ⟨.sl (P.cellsOf e) [], .sl none 0 (fun _ => []) (by simp) (by simp) (fun h => by simp at h) (fun i d h => by simp at h), by exact ⟨[], rfl, by simp, fun x hx => by simp at hx⟩⟩
      · have key : ∀ i, i < len → ∃ es, w.cells? base (a.add (i * P.cellsOf e)) (P.cellsOf e) = some es ∧ ∃ d, Rep N F w d es ∧ shp P n e d := by
          intro i hi
          have := hget i hi
          rw [List.getElem?_eq_getElem (by omega)] at this
          obtain ⟨es, h1, h2⟩ := Option.bind_eq_some_iff.1 this
          exact ⟨es, h1, rep_of_trod hF n hl.2 h2⟩
        obtain ⟨xs, hx1, hx2⟩ := list_of (p := fun i d => Rep N F w d ((w.cells? base (a.add (i * P.cellsOf e)) (P.cellsOf e)).getD []) ∧ shp P n e d) len (fun i hi => by
          obtain ⟨es, h1, d, h2, h3⟩ := key i hi
          exact ⟨d, by rw [h1]; exact h2, h3⟩)
        have hsl : Rep N F w (.sl (P.cellsOf e) xs) [.slice (some a) xs.length cap] := by
          refine .sl (some a) cap (fun i => (w.cells? base (a.add (i * P.cellsOf e)) (P.cellsOf e)).getD []) (by omega) hcm (fun hp => ?_) (fun i d hd => (hx2 i d hd).1)
          obtain ⟨es0, h0, _⟩ := key 0 (by omega)
          obtain ⟨_, l0, c0⟩ := World.cells?_some h0
          have c00 := c0 0 hl.1
          have ha0 : ∀ k, (a.add k).block = a.block := by intro k; unfold Addr.add; split <;> rfl
          have hv : ∃ v, w.cell? a = some v := by
            have : (a.add (0 * P.cellsOf e)).add 0 = a := by simp [Addr.add]
            rw [this] at c00
            rw [c00]
            exact ⟨_, List.getElem?_eq_getElem (by omega)⟩
          obtain ⟨v, hv⟩ := hv
          have hspot : a.spot = none ∧ a.block < w.heap.size := by
            unfold World.cell? at hv
            cases hh : w.heap[a.block]? with
            | none => rw [hh] at hv; simp at hv
            | some ob =>
              refine ⟨?_, (Array.getElem?_eq_some_iff.1 hh).1⟩
              rw [hh] at hv
              cases ob <;> simp at hv
              exact hv.1
          have hae : a = ⟨a.block, a.off, none⟩ := by rw [← hspot.1]
          refine ⟨a.block, a.off, by rw [← hae], hF _ hb hspot.2, fun i hi => ?_⟩
          obtain ⟨es, h1, _⟩ := key i (by omega)
          obtain ⟨_, l1, c1⟩ := World.cells?_some h1
          rw [h1, Option.getD_some]
          refine ⟨l1, fun j v hj => ?_⟩
          have hj' : j < P.cellsOf e := by have := (List.getElem?_eq_some_iff.1 hj).1; omega
          have := c1 j hj'
          rw [hj] at this
          rw [← this]
          congr 1
          rw [hae]
          unfold Addr.add
          by_cases z1 : i * P.cellsOf e = 0 <;> by_cases z2 : j = 0 <;> simp [z1, z2] <;> omega
        rw [hx1] at hsl
        exact ⟨.sl (P.cellsOf e) xs, hsl, by exact ⟨xs, rfl, by omega, fun x hx => by
          obtain ⟨i, hi⟩ := List.getElem?_of_mem hx
          exact (hx2 i x hi).2⟩⟩
    · simp at hl
end Go.Proofs.Ytdkgkcnllhcamaa.Ae

/-! A law's call with whatever is handed to it, from its contract; values handed to a law, read as data. No condition. -/
namespace Go.Proofs.Ytdkgkcnllhcamaa.Ae
open Go Go.RowKit Go.WideShapes

/-- A law's call, its arguments lying in memory. -/
theorem law_callsM {f : FuncId} {g : List D → Prop × List D} (h : SpecD NF Try.prog f g) {ds : List D} (hp : (g ds).1) (hr : (g ds).2 = [boolD true]) {vs : List Value} {w : World} (hrep : RepVs NF (fun b => b < w.heap.size) w ds vs) :
    Calls Try.prog f vs.toArray w fun e w' => e = .returned (.bool true) ∧ Below w.heap.size w w' := by
  refine (h ds hp (fun b => b < w.heap.size) w vs (fun k hk => hk) hrep).mono fun e w' ⟨v, he, hv, hfr⟩ => ?_
  rw [hr] at hv
  have hv : RepV NF _ w' (.lit (.bool true)) v := hv
  obtain ⟨rfl, _⟩ := RepV.lit hv
  exact ⟨he, ⟨hfr.os, hfr.tape, hfr.output, hfr.size, fun k hk => hfr.block k hk (fun h => h)⟩⟩
theorem repV_ok {F : Nat → Prop} {H : Type} {enc : TypeId × Value → H} {P : Program} {w : World} {base : Nat} {sp : Nat → Bool} {held : Bool} (hF : ∀ b, base ≤ b → b < w.heap.size → F b)
    {n : Nat} {t : TypeId} {v : Value} {r : Reach} {b0 : Nat} {x : DataW H × List MemPlace} (hl : layT P n t = true) (hv : Value.okWide P w r b0 t v) {m : Nat} (h : DataW.trod enc P w base sp held m t v.cells.toList = some x) :
    ∃ d, RepV NF F w d v ∧ shp P n t d := by
  obtain ⟨d, hr, hs⟩ := rep_of_trod (N := NF) (F := F) hF n hl h
  refine ⟨d, ?_, hs⟩
  cases n with
  | zero => simp [layT] at hl
  | succ n =>
    simp only [layT] at hl
    simp only [shp] at hs
    have one : d.isAgg = false → v.cells = #[v] → RepV NF F w d v := fun h1 h2 => ⟨[v], by rw [h2] at hr; exact hr, by unfold mkV; rw [h1]; rfl⟩
    split at hl
    · rename_i hu
      rw [hu] at hs
      obtain ⟨b, rfl⟩ := okWide_bool hu hv
      obtain ⟨c, rfl⟩ := hs
      exact one rfl rfl
    · rename_i k hu
      rw [hu] at hs
      obtain ⟨b, rfl⟩ := okWide_int hu hv
      obtain ⟨c, rfl, _⟩ := hs
      exact one rfl rfl
    · rename_i hu
      rw [hu] at hs
      obtain ⟨b, rfl⟩ := okWide_string hu hv
      obtain ⟨c, rfl, _⟩ := hs
      exact one rfl rfl
    · rename_i fs hu
      rw [hu] at hs
      obtain ⟨cs, rfl, _⟩ := okWide_struct hu hv
      obtain ⟨ds, rfl, _⟩ := hs
      exact ⟨cs.toList, by simpa [Value.cells] using hr, by unfold mkV; simp [D.isAgg]⟩
    · rename_i e hu
      rw [hu] at hs
      obtain ⟨a, len, cap, rfl⟩ := okWide_slice hu hv
      obtain ⟨ds, rfl, _⟩ := hs
      exact one rfl rfl
    · simp at hl
end Go.Proofs.Ytdkgkcnllhcamaa.Ae

/-! Lists of places, handed to a law. No condition. -/
namespace Go.Proofs.Ytdkgkcnllhcamaa.Ae
open Go Go.RowKit Go.Proofs.Ytdkgkcnllhcamaa.Dig

theorem shp_i64 {P : Program} {n : Nat} {t : TypeId} {d : D} (hu : P.underlying t = some (.int .i64)) (h : shp P (n + 1) t d) : ∃ x, d = .lit (.int .i64 x) ∧ I64 x := by
  simp only [shp, hu] at h
  obtain ⟨x, rfl, hw⟩ := h
  exact ⟨x, rfl, bounds_i64 hw⟩
theorem shp_two {P : Program} {n : Nat} {t : TypeId} {f g : Field} {d : D} (hu : P.underlying t = some (.struct #[f, g])) (h : shp P (n + 1) t d) : ∃ x y, d = .agg [x, y] ∧ shp P n f.type x ∧ shp P n g.type y := by
  simp only [shp, hu] at h
  obtain ⟨ds, rfl, hl, hf⟩ := h
  match ds, hl with
  | [x, y], _ => exact ⟨x, y, rfl, hf 0 f x rfl rfl, hf 1 g y rfl rfl⟩
theorem shp_sl {P : Program} {n : Nat} {t e : TypeId} {d : D} (hu : P.underlying t = some (.slice e)) (h : shp P (n + 1) t d) : ∃ xs, d = .sl (P.cellsOf e) xs ∧ xs.length ≤ maxLen ∧ ∀ x ∈ xs, shp P n e x := by
  simp only [shp, hu] at h
  exact h
theorem list_map {α : Type} {E : α → D} {p : α → Prop} : ∀ {xs : List D}, (∀ x ∈ xs, ∃ v, x = E v ∧ p v) → ∃ l : List α, xs = l.map E ∧ ∀ v ∈ l, p v
  | [], _ => ⟨[], rfl, fun v h => by simp at h⟩
  | x :: xs, h => by
    obtain ⟨v, e, hv⟩ := h x List.mem_cons_self
    obtain ⟨l, el, hl⟩ := list_map (xs := xs) (fun y hy => h y (List.mem_cons_of_mem _ hy))
    exact ⟨v :: l, by rw [e, el]; rfl, fun u hu => by
      rcases List.mem_cons.1 hu with rfl | hu
      · exact hv
      · exact hl u hu⟩
set_option maxRecDepth 100000 in
theorem shp_lQ {n : Nat} {d : D} (h : shp Try.prog (n + 2) 55 d) : ∃ p : Int × Int, d = eQ p.1 p.2 ∧ I64 p.1 ∧ I64 p.2 := by
  obtain ⟨x, y, rfl, hx, hy⟩ := shp_two (P := Try.prog) (n := n + 1) (t := 55) (d := d) Try.underlying55 h
  obtain ⟨a, rfl, ha⟩ := shp_i64 Try.underlying2 hx
  obtain ⟨b, rfl, hb⟩ := shp_i64 Try.underlying2 hy
  exact ⟨(a, b), rfl, ha, hb⟩
/-- A list of places. -/
def EVL : Enc (List ((Int × Int) × Int × Int)) := EV.list 4
@[simp] theorem EVL_e (l : List ((Int × Int) × Int × Int)) : EVL.e l = .sl 4 (l.map EV.e) := rfl
theorem ix_mem {A B : List D} {x : D} {k : Nat} (h : A.length = k) : ix (A ++ x :: B) k = some x := by
  unfold ix; rw [← h, List.getElem?_append_right (Nat.le_refl _), Nat.sub_self]; rfl
theorem lset_mem {A B : List D} {x y : D} {k : Nat} (h : A.length = k) : lset (A ++ x :: B) k y = A ++ y :: B := by
  unfold lset; rw [← h, List.set_append_right _ _ (Nat.le_refl _), Nat.sub_self]; rfl
end Go.Proofs.Ytdkgkcnllhcamaa.Ae

/-! Meshes: what the law counts, copies and compares. No condition. -/
namespace Go.Proofs.Ytdkgkcnllhcamaa.Ae
open Go Go.RowKit Go.Proofs.Ytdkgkcnllhcamaa.Dig

abbrev V3T := (Int × Int) × (Int × Int) × Int × Int
abbrev TriT := Int × Int × Int
def ETri : Enc TriT := EInt.trip EInt EInt
def EV3L : Enc (List V3T) := EV3.list 6
def ETriL : Enc (List TriT) := ETri.list 3
def EMesh : Enc (List V3T × List TriT) := EV3L.pair ETriL
@[simp] theorem ETri_e (a b c : Int) : ETri.e (a, b, c) = .agg [.lit (.int .i64 a), .lit (.int .i64 b), .lit (.int .i64 c)] := rfl
@[simp] theorem EV3L_e (l : List V3T) : EV3L.e l = .sl 6 (l.map EV3.e) := rfl
@[simp] theorem ETriL_e (l : List TriT) : ETriL.e l = .sl 3 (l.map ETri.e) := rfl
@[simp] theorem EMesh_e (v : List V3T) (e : List TriT) : EMesh.e (v, e) = .agg [.sl 6 (v.map EV3.e), .sl 3 (e.map ETri.e)] := rfl
theorem ix_mem5 {A B : List D} {x : D} {k : Nat} (h : A.length = k) : ix (A ++ x :: B) k = some x := by
  unfold ix; rw [← h, List.getElem?_append_right (Nat.le_refl _), Nat.sub_self]; rfl
theorem lset_mem5 {A B : List D} {x y : D} {k : Nat} (h : A.length = k) : lset (A ++ x :: B) k y = A ++ y :: B := by
  unfold lset; rw [← h, List.set_append_right _ _ (Nat.le_refl _), Nat.sub_self]; rfl
theorem v3_at {l : List V3T} {k : Nat} (h : k < l.length) : ∃ a b c d e f, l[k]? = some ((a, b), (c, d), e, f) ∧ ix (l.map EV3.e) k = some (.agg [eQ a b, eQ c d, eQ e f]) ∧ ((a, b), (c, d), e, f) ∈ l := by
  have hx := List.getElem?_eq_getElem h
  obtain ⟨⟨⟨a, b⟩, ⟨c, d⟩, e, f⟩, hq⟩ : ∃ q, q = l[k] := ⟨_, rfl⟩
  rw [← hq] at hx
  exact ⟨a, b, c, d, e, f, hx, by unfold ix; rw [List.getElem?_map, hx]; rfl, List.mem_of_getElem? hx⟩
theorem tri_at {l : List TriT} {k : Nat} (h : k < l.length) : ∃ a b c, l[k]? = some (a, b, c) ∧ ix (l.map ETri.e) k = some (.agg [.lit (.int .i64 a), .lit (.int .i64 b), .lit (.int .i64 c)]) ∧ (a, b, c) ∈ l := by
  have hx := List.getElem?_eq_getElem h
  obtain ⟨⟨a, b, c⟩, hq⟩ : ∃ q, q = l[k] := ⟨_, rfl⟩
  rw [← hq] at hx
  exact ⟨a, b, c, hx, by unfold ix; rw [List.getElem?_map, hx]; rfl, List.mem_of_getElem? hx⟩
def szL5 (c : Nat) (n : Int) : Int := if n < c then -1 else n - c

/-! l.szV3S -/
noncomputable def szV3SC := ct2 EV3L EInt (fun l n => l.length ≤ 9223372036854775807 ∧ 0 ≤ n ∧ n < 4611686018427387904) (fun l n => [.lit (.int .i64 (szL5 l.length n))])
@[simp] theorem szV3SC_at (l : List ((Int × Int) × (Int × Int) × Int × Int)) (n : Int) : szV3SC [.sl 6 (l.map EV3.e), .lit (.int .i64 n)] = ((l.length ≤ 9223372036854775807 ∧ 0 ≤ n ∧ n < 4611686018427387904), [.lit (.int .i64 (szL5 l.length n))]) := ct2_at (A := EV3L) (B := EInt) l n
theorem szV3S_spec {N : NR} : SpecD N Try.prog 9 szV3SC := by
  refine rd2 (mf := fun f => false) (tb := tbl []) tbl_nil (fn := Try.f9) (by kernel_rfl) rfl (by kernel_rfl) (by kernel_rfl) ?_
  rintro l n ⟨hl, h0, hn⟩
  show awp _ _ _ _ (start _ ([.sl 6 (l.map EV3.e), .lit (.int .i64 n)].map .dat) []) (endK _ _ _ ([D.lit (.int .i64 (szL5 l.length n))].map .dat) [])
  have w1 : IntKind.i64.wrap (n - l.length) = n - l.length := i64_id _ (by omega) (by omega)
  by_cases h : n < l.length
  · have h' : n - l.length < 0 := by omega
    simp [Try.f9, szL5, w1, h, h']
  · have h' : ¬ n - l.length < 0 := by omega
    simp [Try.f9, szL5, w1, h, h']
theorem szV3S_ok : callable Try.prog 9 = true := by kernel_rfl

/-! l.szTriS -/
noncomputable def szTriSC := ct2 ETriL EInt (fun l n => l.length ≤ 9223372036854775807 ∧ 0 ≤ n ∧ n < 4611686018427387904) (fun l n => [.lit (.int .i64 (szL5 l.length n))])
@[simp] theorem szTriSC_at (l : List (Int × Int × Int)) (n : Int) : szTriSC [.sl 3 (l.map ETri.e), .lit (.int .i64 n)] = ((l.length ≤ 9223372036854775807 ∧ 0 ≤ n ∧ n < 4611686018427387904), [.lit (.int .i64 (szL5 l.length n))]) := ct2_at (A := ETriL) (B := EInt) l n
theorem szTriS_spec {N : NR} : SpecD N Try.prog 10 szTriSC := by
  refine rd2 (mf := fun f => false) (tb := tbl []) tbl_nil (fn := Try.f10) (by kernel_rfl) rfl (by kernel_rfl) (by kernel_rfl) ?_
  rintro l n ⟨hl, h0, hn⟩
  show awp _ _ _ _ (start _ ([.sl 3 (l.map ETri.e), .lit (.int .i64 n)].map .dat) []) (endK _ _ _ ([D.lit (.int .i64 (szL5 l.length n))].map .dat) [])
  have w1 : IntKind.i64.wrap (n - l.length) = n - l.length := i64_id _ (by omega) (by omega)
  by_cases h : n < l.length
  · have h' : n - l.length < 0 := by omega
    simp [Try.f10, szL5, w1, h, h']
  · have h' : ¬ n - l.length < 0 := by omega
    simp [Try.f10, szL5, w1, h, h']
theorem szTriS_ok : callable Try.prog 10 = true := by kernel_rfl

/-! l.szMesh -/
noncomputable def szMC := ct2 EMesh EInt (fun p n => (p.1.length ≤ 9223372036854775807 ∧ p.2.length ≤ 9223372036854775807) ∧ 0 ≤ n ∧ n < 4611686018427387904) (fun p n => [.lit (.int .i64 (if szL5 p.1.length n < 0 then -1 else szL5 p.2.length (szL5 p.1.length n)))])
@[simp] theorem szMC_at (v : List V3T) (e : List TriT) (n : Int) : szMC [.agg [.sl 6 (v.map EV3.e), .sl 3 (e.map ETri.e)], .lit (.int .i64 n)] = (((v.length ≤ 9223372036854775807 ∧ e.length ≤ 9223372036854775807) ∧ 0 ≤ n ∧ n < 4611686018427387904), [.lit (.int .i64 (if szL5 v.length n < 0 then -1 else szL5 e.length (szL5 v.length n)))]) := ct2_at (A := EMesh) (B := EInt) (v, e) n
noncomputable def szMTb : List (FuncId × Ct) := [(9, .data szV3SC), (10, .data szTriSC)]
theorem szMTb_ok {N : NR} : TbOK N Try.prog (tbl szMTb) := tbl_cons (c := .data szV3SC) szV3S_spec szV3S_ok (tbl_cons (c := .data szTriSC) szTriS_spec szTriS_ok tbl_nil)

@[simp] theorem szMTb1 : tbl szMTb 9 = some (.data szV3SC) := rfl
@[simp] theorem szMTb2 : tbl szMTb 10 = some (.data szTriSC) := rfl
theorem szM_spec {N : NR} : SpecD N Try.prog 4 szMC := by
  refine rd2 (mf := fun f => false) szMTb_ok (fn := Try.f4) (by kernel_rfl) rfl (by kernel_rfl) (by kernel_rfl) ?_
  rintro ⟨v, e⟩ n ⟨⟨h1, h2⟩, h0, hn⟩
  have h1 : v.length ≤ 9223372036854775807 := h1
  have h2 : e.length ≤ 9223372036854775807 := h2
  show awp _ _ _ _ (start _ ([.agg [.sl 6 (v.map EV3.e), .sl 3 (e.map ETri.e)], .lit (.int .i64 n)].map .dat) []) (endK _ _ _ ([D.lit (.int .i64 (if szL5 v.length n < 0 then -1 else szL5 e.length (szL5 v.length n)))].map .dat) [])
  by_cases k1 : n < v.length
  · have e1 : szL5 v.length n = -1 := by unfold szL5; rw [if_pos k1]
    simp [-D.isLit, Try.f4, h1, h0, hn, e1]
  have e1 : szL5 v.length n = n - v.length := by unfold szL5; rw [if_neg k1]
  have k1' : ¬ n - v.length < 0 := by omega
  have k2 : 0 ≤ n - v.length := by omega
  have k3 : n - v.length < 4611686018427387904 := by omega
  by_cases k4 : n - v.length < e.length
  · have e2 : szL5 e.length (n - v.length) = -1 := by unfold szL5; rw [if_pos k4]
    simp [-D.isLit, -Int.sub_nonneg, Try.f4, h1, h2, h0, hn, e1, e2, k1', k2, k3]
  have e2 : szL5 e.length (n - v.length) = n - v.length - e.length := by unfold szL5; rw [if_neg k4]
  have k5 : ¬ n - v.length - e.length < 0 := by omega
  simp [-D.isLit, -Int.sub_nonneg, Try.f4, h1, h2, h0, hn, e1, e2, k1', k2, k3, k5]
theorem szM_ok : callable Try.prog 4 = true := by kernel_rfl

/-! l.toV3S -/
noncomputable def toV3SC := ct1 EV3L (fun l => l.length < 1048577) (fun l => [.sl 6 (l.map EV3.e)])
@[simp] theorem toV3SC_at (l : List ((Int × Int) × (Int × Int) × Int × Int)) : toV3SC [.sl 6 (l.map EV3.e)] = ((l.length < 1048577), [.sl 6 (l.map EV3.e)]) := ct1_at (A := EV3L) l
noncomputable def toV3STb : List (FuncId × Ct) := [(20, .data toV3C)]
theorem toV3STb_ok {N : NR} : TbOK N Try.prog (tbl toV3STb) := tbl_cons (c := .data toV3C) toV3_spec toV3_ok tbl_nil

@[simp] theorem toV3STb1 : tbl toV3STb 20 = some (.data toV3C) := rfl
def toV3SS (l p q : List ((Int × Int) × (Int × Int) × Int × Int)) : St := ⟨[.dat (.sl 6 (l.map EV3.e)), .any, .any, .row 7, .dat (.lit (.int .i64 p.length)), .any, .any, .any, .any, .any, .any, .any, .any, .any, .any, .any, .any, .any, .any, .any, .any, .any, .any], [none, none, none, none, none, none, none, some (.row 6 41 (p.map EV3.e ++ List.replicate q.length (.agg [.agg [.lit (.int .i64 0), .lit (.int .i64 0)], .agg [.lit (.int .i64 0), .lit (.int .i64 0)], .agg [.lit (.int .i64 0), .lit (.int .i64 0)]]))), none, none, none, none, none, none, none, none, none, none, none, none, none, none, none]⟩
theorem toV3S_spec {N : NR} : SpecD N Try.prog 13 toV3SC := by
  refine rd1 (mf := fun f => false) toV3STb_ok (fn := Try.f13) (by kernel_rfl) rfl (by kernel_rfl) (by kernel_rfl) ?_
  rintro l hpre
  have hl : l.length < 1048577 := hpre
  show awp _ _ _ _ (start _ ([.sl 6 (l.map EV3.e)].map .dat) []) (endK _ _ _ ([D.sl 6 (l.map EV3.e)].map .dat) [])
  simp only [Try.f13]
  simp
  refine ⟨by omega, ?_⟩
  refine loop_go (fun n st => ∃ p q, l = p ++ q ∧ n = q.length ∧ st = toV3SS l p q) (s0 := toV3SS l [] l) (n := l.length) (snd_of (by simp [LeT, toV3SS]) (by simp [toV3SS])) ⟨[], l, rfl, rfl, rfl⟩ ?_
  rintro n st ⟨p, q, rfl, rfl, rfl⟩ KN hN
  cases q with
  | nil => simp [toV3SS]
  | cons v q =>
    obtain ⟨⟨a, b⟩, ⟨c, d⟩, e, f⟩ := v
    have e1 : ix (p.map EV3.e ++ .agg [eQ a b, eQ c d, eQ e f] :: q.map EV3.e) p.length = some (.agg [eQ a b, eQ c d, eQ e f]) := ix_mem5 (by simp)
    have e2 : lset (p.map EV3.e ++ List.replicate (q.length + 1) (.agg [.agg [.lit (.int .i64 0), .lit (.int .i64 0)], .agg [.lit (.int .i64 0), .lit (.int .i64 0)], .agg [.lit (.int .i64 0), .lit (.int .i64 0)]])) p.length (.agg [eQ a b, eQ c d, eQ e f]) = p.map EV3.e ++ .agg [eQ a b, eQ c d, eQ e f] :: List.replicate q.length (.agg [.agg [.lit (.int .i64 0), .lit (.int .i64 0)], .agg [.lit (.int .i64 0), .lit (.int .i64 0)], .agg [.lit (.int .i64 0), .lit (.int .i64 0)]]) := by
      rw [List.replicate_succ]; exact lset_mem5 (by simp)
    have e3 : ix (p.map EV3.e ++ List.replicate (q.length + 1) (.agg [.agg [.lit (.int .i64 0), .lit (.int .i64 0)], .agg [.lit (.int .i64 0), .lit (.int .i64 0)], .agg [.lit (.int .i64 0), .lit (.int .i64 0)]])) p.length = some (.agg [.agg [.lit (.int .i64 0), .lit (.int .i64 0)], .agg [.lit (.int .i64 0), .lit (.int .i64 0)], .agg [.lit (.int .i64 0), .lit (.int .i64 0)]]) := by
      rw [List.replicate_succ]; exact ix_mem5 (by simp)
    have w1 : IntKind.i64.wrap ((p.length : Int) + 1) = (p.length : Int) + 1 := i64_id _ (by omega) (by simp at hl; omega)
    have e4 : (p.length : Int) < p.length + (q.length + 1) := by omega
    simp [-D.isLit, toV3SS, e1, e2, e3, e4, w1]
    refine hN _ (nx (m := q.length) (s'' := toV3SS (p ++ ((a, b), (c, d), e, f) :: q) (p ++ [((a, b), (c, d), e, f)]) q) (snd_of (by simp [LeT, toV3SS]) (by simp [toV3SS])) ⟨p ++ [((a, b), (c, d), e, f)], q, by simp, rfl, rfl⟩ (by simp))
theorem toV3S_ok : callable Try.prog 13 = true := by kernel_rfl

/-! l.toTri -/
noncomputable def toTriC := ct1 ETri (fun p0 => True) (fun p0 => [.agg [.lit (.int .i64 p0.1), .lit (.int .i64 p0.2.1), .lit (.int .i64 p0.2.2)]])
@[simp] theorem toTriC_at (a b c : Int) : toTriC [.agg [.lit (.int .i64 a), .lit (.int .i64 b), .lit (.int .i64 c)]] = (True, [.agg [.lit (.int .i64 a), .lit (.int .i64 b), .lit (.int .i64 c)]]) := ct1_at (a, b, c)
theorem toTri_spec {N : NR} : SpecD N Try.prog 21 toTriC := by
  refine rd1 (mf := fun f => false) (tb := tbl []) tbl_nil (fn := Try.f21) (by kernel_rfl) rfl (by kernel_rfl) (by kernel_rfl) ?_
  rintro ⟨a, b, c⟩ hp
  have hp : True := hp
  show awp _ _ _ _ (start _ ([.agg [.lit (.int .i64 a), .lit (.int .i64 b), .lit (.int .i64 c)]].map .dat) []) (endK _ _ _ (([.agg [.lit (.int .i64 a), .lit (.int .i64 b), .lit (.int .i64 c)]]).map .dat) [])
  simp [-D.isLit, Try.f21]
theorem toTri_ok : callable Try.prog 21 = true := by kernel_rfl

/-! l.toTriS -/
noncomputable def toTriSC := ct1 ETriL (fun l => l.length < 1048577) (fun l => [.sl 3 (l.map ETri.e)])
@[simp] theorem toTriSC_at (l : List (Int × Int × Int)) : toTriSC [.sl 3 (l.map ETri.e)] = ((l.length < 1048577), [.sl 3 (l.map ETri.e)]) := ct1_at (A := ETriL) l
noncomputable def toTriSTb : List (FuncId × Ct) := [(21, .data toTriC)]
theorem toTriSTb_ok {N : NR} : TbOK N Try.prog (tbl toTriSTb) := tbl_cons (c := .data toTriC) toTri_spec toTri_ok tbl_nil

@[simp] theorem toTriSTb1 : tbl toTriSTb 21 = some (.data toTriC) := rfl
def toTriSS (l p q : List (Int × Int × Int)) : St := ⟨[.dat (.sl 3 (l.map ETri.e)), .any, .any, .row 7, .dat (.lit (.int .i64 p.length)), .any, .any, .any, .any, .any, .any, .any, .any, .any, .any, .any, .any, .any, .any, .any, .any, .any, .any], [none, none, none, none, none, none, none, some (.row 3 43 (p.map ETri.e ++ List.replicate q.length (.agg [.lit (.int .i64 0), .lit (.int .i64 0), .lit (.int .i64 0)]))), none, none, none, none, none, none, none, none, none, none, none, none, none, none, none]⟩
theorem toTriS_spec {N : NR} : SpecD N Try.prog 14 toTriSC := by
  refine rd1 (mf := fun f => false) toTriSTb_ok (fn := Try.f14) (by kernel_rfl) rfl (by kernel_rfl) (by kernel_rfl) ?_
  rintro l hpre
  have hl : l.length < 1048577 := hpre
  show awp _ _ _ _ (start _ ([.sl 3 (l.map ETri.e)].map .dat) []) (endK _ _ _ ([D.sl 3 (l.map ETri.e)].map .dat) [])
  simp only [Try.f14]
  simp
  refine ⟨by omega, ?_⟩
  refine loop_go (fun n st => ∃ p q, l = p ++ q ∧ n = q.length ∧ st = toTriSS l p q) (s0 := toTriSS l [] l) (n := l.length) (snd_of (by simp [LeT, toTriSS]) (by simp [toTriSS])) ⟨[], l, rfl, rfl, rfl⟩ ?_
  rintro n st ⟨p, q, rfl, rfl, rfl⟩ KN hN
  cases q with
  | nil => simp [toTriSS]
  | cons v q =>
    obtain ⟨a, b, c⟩ := v
    have e1 : ix (p.map ETri.e ++ .agg [.lit (.int .i64 a), .lit (.int .i64 b), .lit (.int .i64 c)] :: q.map ETri.e) p.length = some (.agg [.lit (.int .i64 a), .lit (.int .i64 b), .lit (.int .i64 c)]) := ix_mem5 (by simp)
    have e2 : lset (p.map ETri.e ++ List.replicate (q.length + 1) (.agg [.lit (.int .i64 0), .lit (.int .i64 0), .lit (.int .i64 0)])) p.length (.agg [.lit (.int .i64 a), .lit (.int .i64 b), .lit (.int .i64 c)]) = p.map ETri.e ++ .agg [.lit (.int .i64 a), .lit (.int .i64 b), .lit (.int .i64 c)] :: List.replicate q.length (.agg [.lit (.int .i64 0), .lit (.int .i64 0), .lit (.int .i64 0)]) := by
      rw [List.replicate_succ]; exact lset_mem5 (by simp)
    have e3 : ix (p.map ETri.e ++ List.replicate (q.length + 1) (.agg [.lit (.int .i64 0), .lit (.int .i64 0), .lit (.int .i64 0)])) p.length = some (.agg [.lit (.int .i64 0), .lit (.int .i64 0), .lit (.int .i64 0)]) := by
      rw [List.replicate_succ]; exact ix_mem5 (by simp)
    have w1 : IntKind.i64.wrap ((p.length : Int) + 1) = (p.length : Int) + 1 := i64_id _ (by omega) (by simp at hl; omega)
    have e4 : (p.length : Int) < p.length + (q.length + 1) := by omega
    simp [-D.isLit, toTriSS, e1, e2, e3, e4, w1]
    refine hN _ (nx (m := q.length) (s'' := toTriSS (p ++ (a, b, c) :: q) (p ++ [(a, b, c)]) q) (snd_of (by simp [LeT, toTriSS]) (by simp [toTriSS])) ⟨p ++ [(a, b, c)], q, by simp, rfl, rfl⟩ (by simp))
theorem toTriS_ok : callable Try.prog 14 = true := by kernel_rfl

/-! l.toMesh -/
def meshS (p : List V3T × List TriT) : Prop := p.1.length < 1048577 ∧ p.2.length < 1048577
noncomputable def toMC := ct1 EMesh meshS (fun p => [EMesh.e p])
@[simp] theorem toMC_at (v : List V3T) (e : List TriT) : toMC [.agg [.sl 6 (v.map EV3.e), .sl 3 (e.map ETri.e)]] = (meshS (v, e), [.agg [.sl 6 (v.map EV3.e), .sl 3 (e.map ETri.e)]]) := ct1_at (A := EMesh) (v, e)
noncomputable def toMTb : List (FuncId × Ct) := [(13, .data toV3SC), (14, .data toTriSC)]
theorem toMTb_ok {N : NR} : TbOK N Try.prog (tbl toMTb) := tbl_cons (c := .data toV3SC) toV3S_spec toV3S_ok (tbl_cons (c := .data toTriSC) toTriS_spec toTriS_ok tbl_nil)

@[simp] theorem toMTb1 : tbl toMTb 13 = some (.data toV3SC) := rfl
@[simp] theorem toMTb2 : tbl toMTb 14 = some (.data toTriSC) := rfl
theorem toM_spec {N : NR} : SpecD N Try.prog 6 toMC := by
  refine rd1 (mf := fun f => false) toMTb_ok (fn := Try.f6) (by kernel_rfl) rfl (by kernel_rfl) (by kernel_rfl) ?_
  rintro ⟨v, e⟩ ⟨h1, h2⟩
  have h1 : v.length < 1048577 := h1
  have h2 : e.length < 1048577 := h2
  show awp _ _ _ _ (start _ ([.agg [.sl 6 (v.map EV3.e), .sl 3 (e.map ETri.e)]].map .dat) []) (endK _ _ _ ([.agg [.sl 6 (v.map EV3.e), .sl 3 (e.map ETri.e)]].map .dat) [])
  simp [-D.isLit, Try.f6, h1, h2]
theorem toM_ok : callable Try.prog 6 = true := by kernel_rfl

/-! l.eqV3S -/
noncomputable def eqV3SC := ct2 EV3L EV3L (fun l m => l.length < 1048577 ∧ l = m) (fun l m => [.lit (.bool true)])
@[simp] theorem eqV3SC_at (l m : List ((Int × Int) × (Int × Int) × Int × Int)) : eqV3SC [.sl 6 (l.map EV3.e), .sl 6 (m.map EV3.e)] = ((l.length < 1048577 ∧ l = m), [.lit (.bool true)]) := ct2_at (A := EV3L) (B := EV3L) l m
noncomputable def eqV3STb : List (FuncId × Ct) := [(26, .data eqV3C)]
theorem eqV3STb_ok {N : NR} : TbOK N Try.prog (tbl eqV3STb) := tbl_cons (c := .data eqV3C) eqV3_spec eqV3_ok tbl_nil

@[simp] theorem eqV3STb1 : tbl eqV3STb 26 = some (.data eqV3C) := rfl
def eqV3SS (l : List ((Int × Int) × (Int × Int) × Int × Int)) (k : Nat) : St := ⟨[.dat (.sl 6 (l.map EV3.e)), .dat (.sl 6 (l.map EV3.e)), .any, .any, .any, .dat (.lit (.int .i64 k)), .any, .any, .any, .any, .any, .any, .any, .any, .any, .any, .any, .any, .any, .any, .any, .any, .any, .any, .any, .any, .any], [none, none, none, none, none, none, none, none, none, none, none, none, none, none, none, none, none, none, none, none, none, none, none, none, none, none, none]⟩
theorem eqV3S_spec {N : NR} : SpecD N Try.prog 17 eqV3SC := by
  refine rd2 (mf := fun f => false) eqV3STb_ok (fn := Try.f17) (by kernel_rfl) rfl (by kernel_rfl) (by kernel_rfl) ?_
  rintro l m ⟨hl, hm⟩
  have hm : l = m := hm
  subst hm
  have hl : l.length < 1048577 := hl
  show awp _ _ _ _ (start _ ([.sl 6 (l.map EV3.e), .sl 6 (l.map EV3.e)].map .dat) []) (endK _ _ _ ([D.lit (.bool true)].map .dat) [])
  simp only [Try.f17]
  simp
  refine loop_go (fun n st => ∃ k, n = l.length - k ∧ k ≤ l.length ∧ st = eqV3SS l k) (s0 := eqV3SS l 0) (n := l.length) (snd_of (by simp [LeT, eqV3SS]) (by simp [eqV3SS])) ⟨0, rfl, Nat.zero_le _, rfl⟩ ?_
  rintro n st ⟨k, hn, hk, rfl⟩ KN hN
  by_cases h : k < l.length
  · obtain ⟨a, b, c, d, e, f, hx, e1, hmem⟩ := v3_at h
    have w1 : IntKind.i64.wrap ((k : Int) + 1) = (k : Int) + 1 := i64_id _ (by omega) (by omega)
    simp [-D.isLit, eqV3SS, h, e1, w1]
    exact hN _ (nx (m := l.length - (k + 1)) (s'' := eqV3SS l (k + 1)) (snd_of (by simp [LeT, eqV3SS]) (by simp [eqV3SS])) ⟨k + 1, rfl, h, rfl⟩ (by omega))
  · have hkl : k = l.length := by omega
    subst hkl
    simp [eqV3SS]
theorem eqV3S_ok : callable Try.prog 17 = true := by kernel_rfl

/-! l.eqTri -/
noncomputable def eqTriC := ct2 ETri ETri (fun p0 p1 => p0.1 = p1.1 ∧ p0.2.1 = p1.2.1 ∧ p0.2.2 = p1.2.2) (fun p0 p1 => [.lit (.bool true)])
@[simp] theorem eqTriC_at (a b c : Int) (d e f : Int) : eqTriC [.agg [.lit (.int .i64 a), .lit (.int .i64 b), .lit (.int .i64 c)], .agg [.lit (.int .i64 d), .lit (.int .i64 e), .lit (.int .i64 f)]] = (a = d ∧ b = e ∧ c = f, [.lit (.bool true)]) := ct2_at (a, b, c) (d, e, f)
theorem eqTri_spec {N : NR} : SpecD N Try.prog 27 eqTriC := by
  refine rd2 (mf := fun f => false) (tb := tbl []) tbl_nil (fn := Try.f27) (by kernel_rfl) rfl (by kernel_rfl) (by kernel_rfl) ?_
  rintro ⟨a, b, c⟩ ⟨d, e, f⟩ hp
  have hp : a = d ∧ b = e ∧ c = f := hp
  show awp _ _ _ _ (start _ ([.agg [.lit (.int .i64 a), .lit (.int .i64 b), .lit (.int .i64 c)], .agg [.lit (.int .i64 d), .lit (.int .i64 e), .lit (.int .i64 f)]].map .dat) []) (endK _ _ _ (([.lit (.bool true)]).map .dat) [])
  obtain ⟨rfl, rfl, rfl⟩ : a = d ∧ b = e ∧ c = f := hp
  simp [-D.isLit, Try.f27]
theorem eqTri_ok : callable Try.prog 27 = true := by kernel_rfl

/-! l.eqTriS -/
noncomputable def eqTriSC := ct2 ETriL ETriL (fun l m => l.length < 1048577 ∧ l = m) (fun l m => [.lit (.bool true)])
@[simp] theorem eqTriSC_at (l m : List (Int × Int × Int)) : eqTriSC [.sl 3 (l.map ETri.e), .sl 3 (m.map ETri.e)] = ((l.length < 1048577 ∧ l = m), [.lit (.bool true)]) := ct2_at (A := ETriL) (B := ETriL) l m
noncomputable def eqTriSTb : List (FuncId × Ct) := [(27, .data eqTriC)]
theorem eqTriSTb_ok {N : NR} : TbOK N Try.prog (tbl eqTriSTb) := tbl_cons (c := .data eqTriC) eqTri_spec eqTri_ok tbl_nil

@[simp] theorem eqTriSTb1 : tbl eqTriSTb 27 = some (.data eqTriC) := rfl
def eqTriSS (l : List (Int × Int × Int)) (k : Nat) : St := ⟨[.dat (.sl 3 (l.map ETri.e)), .dat (.sl 3 (l.map ETri.e)), .any, .any, .any, .dat (.lit (.int .i64 k)), .any, .any, .any, .any, .any, .any, .any, .any, .any, .any, .any, .any, .any, .any, .any, .any, .any, .any, .any, .any, .any], [none, none, none, none, none, none, none, none, none, none, none, none, none, none, none, none, none, none, none, none, none, none, none, none, none, none, none]⟩
theorem eqTriS_spec {N : NR} : SpecD N Try.prog 18 eqTriSC := by
  refine rd2 (mf := fun f => false) eqTriSTb_ok (fn := Try.f18) (by kernel_rfl) rfl (by kernel_rfl) (by kernel_rfl) ?_
  rintro l m ⟨hl, hm⟩
  have hm : l = m := hm
  subst hm
  have hl : l.length < 1048577 := hl
  show awp _ _ _ _ (start _ ([.sl 3 (l.map ETri.e), .sl 3 (l.map ETri.e)].map .dat) []) (endK _ _ _ ([D.lit (.bool true)].map .dat) [])
  simp only [Try.f18]
  simp
  refine loop_go (fun n st => ∃ k, n = l.length - k ∧ k ≤ l.length ∧ st = eqTriSS l k) (s0 := eqTriSS l 0) (n := l.length) (snd_of (by simp [LeT, eqTriSS]) (by simp [eqTriSS])) ⟨0, rfl, Nat.zero_le _, rfl⟩ ?_
  rintro n st ⟨k, hn, hk, rfl⟩ KN hN
  by_cases h : k < l.length
  · obtain ⟨a, b, c, hx, e1, hmem⟩ := tri_at h
    have w1 : IntKind.i64.wrap ((k : Int) + 1) = (k : Int) + 1 := i64_id _ (by omega) (by omega)
    simp [-D.isLit, eqTriSS, h, e1, w1]
    exact hN _ (nx (m := l.length - (k + 1)) (s'' := eqTriSS l (k + 1)) (snd_of (by simp [LeT, eqTriSS]) (by simp [eqTriSS])) ⟨k + 1, rfl, h, rfl⟩ (by omega))
  · have hkl : k = l.length := by omega
    subst hkl
    simp [eqTriSS]
theorem eqTriS_ok : callable Try.prog 18 = true := by kernel_rfl

/-! l.eqMesh -/
noncomputable def eqMC := ct2 EMesh EMesh (fun p q => meshS p ∧ p = q) (fun p q => [.lit (.bool true)])
@[simp] theorem eqMC_at (v : List V3T) (e : List TriT) (p : List V3T) (q : List TriT) : eqMC [.agg [.sl 6 (v.map EV3.e), .sl 3 (e.map ETri.e)], .agg [.sl 6 (p.map EV3.e), .sl 3 (q.map ETri.e)]] = ((meshS (v, e) ∧ (v, e) = (p, q)), [.lit (.bool true)]) := ct2_at (A := EMesh) (B := EMesh) (v, e) (p, q)
noncomputable def eqMTb : List (FuncId × Ct) := [(17, .data eqV3SC), (18, .data eqTriSC)]
theorem eqMTb_ok {N : NR} : TbOK N Try.prog (tbl eqMTb) := tbl_cons (c := .data eqV3SC) eqV3S_spec eqV3S_ok (tbl_cons (c := .data eqTriSC) eqTriS_spec eqTriS_ok tbl_nil)

@[simp] theorem eqMTb1 : tbl eqMTb 17 = some (.data eqV3SC) := rfl
@[simp] theorem eqMTb2 : tbl eqMTb 18 = some (.data eqTriSC) := rfl
theorem eqM_spec {N : NR} : SpecD N Try.prog 8 eqMC := by
  refine rd2 (mf := fun f => false) eqMTb_ok (fn := Try.f8) (by kernel_rfl) rfl (by kernel_rfl) (by kernel_rfl) ?_
  rintro ⟨v, e⟩ m ⟨⟨h1, h2⟩, hm⟩
  subst hm
  have h1 : v.length < 1048577 := h1
  have h2 : e.length < 1048577 := h2
  show awp _ _ _ _ (start _ ([.agg [.sl 6 (v.map EV3.e), .sl 3 (e.map ETri.e)], .agg [.sl 6 (v.map EV3.e), .sl 3 (e.map ETri.e)]].map .dat) []) (endK _ _ _ ([D.lit (.bool true)].map .dat) [])
  simp [-D.isLit, Try.f8, h1, h2]
theorem eqM_ok : callable Try.prog 8 = true := by kernel_rfl
def V3_64 (v : V3T) : Prop := (I64 v.1.1 ∧ I64 v.1.2) ∧ (I64 v.2.1.1 ∧ I64 v.2.1.2) ∧ I64 v.2.2.1 ∧ I64 v.2.2.2
def Tri64 (v : TriT) : Prop := I64 v.1 ∧ I64 v.2.1 ∧ I64 v.2.2
def mesh64 (p : List V3T × List TriT) : Prop := (p.1.length ≤ 9223372036854775807 ∧ ∀ v ∈ p.1, V3_64 v) ∧ p.2.length ≤ 9223372036854775807 ∧ ∀ v ∈ p.2, Tri64 v
theorem shp_three5 {P : Program} {n : Nat} {t : TypeId} {f g h : Field} {d : D} (hu : P.underlying t = some (.struct #[f, g, h])) (hs : shp P (n + 1) t d) : ∃ x y z, d = .agg [x, y, z] ∧ shp P n f.type x ∧ shp P n g.type y ∧ shp P n h.type z := by
  simp only [shp, hu] at hs
  obtain ⟨ds, rfl, hl, hf⟩ := hs
  match ds, hl with
  | [x, y, z], _ => exact ⟨x, y, z, rfl, hf 0 f x rfl rfl, hf 1 g y rfl rfl, hf 2 h z rfl rfl⟩
set_option maxRecDepth 100000 in
theorem shp_lV3 {n : Nat} {d : D} (h : shp Try.prog (n + 3) 57 d) : ∃ v, d = EV3.e v ∧ V3_64 v := by
  obtain ⟨x, y, z, rfl, hx, hy, hz⟩ := shp_three5 (P := Try.prog) (n := n + 2) (t := 57) (d := d) Try.underlying57 h
  obtain ⟨a, rfl, ha⟩ := shp_lQ hx
  obtain ⟨b, rfl, hb⟩ := shp_lQ hy
  obtain ⟨c, rfl, hc⟩ := shp_lQ hz
  exact ⟨(a, b, c), rfl, ha, hb, hc⟩
set_option maxRecDepth 100000 in
theorem shp_lTri {n : Nat} {d : D} (h : shp Try.prog (n + 2) 59 d) : ∃ v, d = ETri.e v ∧ Tri64 v := by
  obtain ⟨x, y, z, rfl, hx, hy, hz⟩ := shp_three5 (P := Try.prog) (n := n + 1) (t := 59) (d := d) Try.underlying59 h
  obtain ⟨a, rfl, ha⟩ := shp_i64 Try.underlying2 hx
  obtain ⟨b, rfl, hb⟩ := shp_i64 Try.underlying2 hy
  obtain ⟨c, rfl, hc⟩ := shp_i64 Try.underlying2 hz
  exact ⟨(a, b, c), rfl, ha, hb, hc⟩
set_option maxRecDepth 100000 in
theorem shp_Mesh {n : Nat} {d : D} (h : shp Try.prog (n + 5) 25 d) : ∃ p, d = EMesh.e p ∧ mesh64 p := by
  obtain ⟨x, y, rfl, hx, hy⟩ := shp_two (P := Try.prog) (n := n + 4) (t := 25) (d := d) Try.underlying25 h
  obtain ⟨xs, rfl, hl, hx⟩ := shp_sl (P := Try.prog) (n := n + 3) (t := 22) Try.underlying22 hx
  obtain ⟨v, rfl, hv⟩ := list_map (E := EV3.e) (p := V3_64) (fun x hx' => shp_lV3 (hx x hx'))
  obtain ⟨ys, rfl, hl2, hy⟩ := shp_sl (P := Try.prog) (n := n + 3) (t := 23) Try.underlying23 hy
  obtain ⟨e, rfl, he⟩ := list_map (E := ETri.e) (p := Tri64) (fun x hx' => shp_lTri (hy x hx'))
  refine ⟨(v, e), by simp, ⟨?_, hv⟩, ?_, he⟩
  · have := hl; rw [List.length_map] at this; exact this
  · have := hl2; rw [List.length_map] at this; exact this
end Go.Proofs.Ytdkgkcnllhcamaa.Ae

/-! MeshOk: both sides, and the law. No condition. -/
namespace Go.Proofs.Ytdkgkcnllhcamaa.Ae
open Go Go.RowKit Go.Proofs.Ytdkgkcnllhcamaa.Dig
def rawQ (a b : Int) : D := .agg [.lit (.int .i64 a), .lit (.int .i64 b), .lit (.pointer none)]
@[simp] theorem rawQ_size (a b : Int) : (rawQ a b).size = 3 := rfl
@[simp] theorem rawQ_agg (a b : Int) : (rawQ a b).isAgg = true := rfl
def rawV (v : V3T) : D := .agg [rawQ v.1.1 v.1.2, rawQ v.2.1.1 v.2.1.2, rawQ v.2.2.1 v.2.2.2]
def v3B (v : V3T) : Bool := decide (v3Ok v.1.1 v.1.2 v.2.1.1 v.2.1.2 v.2.2.1 v.2.2.2)
def triOk (a b c n : Int) : Prop := 0 ≤ a ∧ a < b ∧ a < c ∧ b ≠ c ∧ b < n ∧ c < n
instance (a b c n : Int) : Decidable (triOk a b c n) := by unfold triOk; infer_instance
def triB (n : Nat) (t : TriT) : Bool := decide (triOk t.1 t.2.1 t.2.2 n)
def meshB (p : List V3T × List TriT) : Bool := decide (p.1.length ≤ 200) && (decide (p.2.length ≤ 300) && (p.1.all v3B && p.2.all (triB p.1.length)))
def meshP (p : List V3T × List TriT) : Prop := meshS p ∧ mesh64 p
noncomputable def mOkC := ct1 EMesh meshP (fun p => [.lit (.bool (meshB p))])
@[simp] theorem mOkC_at (v : List V3T) (e : List TriT) : mOkC [.agg [.sl 6 (v.map EV3.e), .sl 3 (e.map ETri.e)]] = (meshP (v, e), [.lit (.bool (meshB (v, e)))]) := ct1_at (A := EMesh) (v, e)
theorem mx200 {n : Nat} (h : n ≤ 200) : n + 1 ≤ maxLen := by unfold maxLen; omega

/-! i.rq -/
noncomputable def rqRC := ct1 EQ (fun p0 => True) (fun p0 => [rawQ p0.1 p0.2])
@[simp] theorem rqRC_at (a b : Int) : rqRC [eQ a b] = (True, [rawQ a b]) := ct1_at (a, b)
theorem rqR_spec {N : NR} : SpecD N Try.prog 31 rqRC := by
  refine rd1 (mf := fun f => false) (tb := tbl []) tbl_nil (fn := Try.f31) (by kernel_rfl) rfl (by kernel_rfl) (by kernel_rfl) ?_
  rintro ⟨a, b⟩ hp
  have hp : True := hp
  show awp _ _ _ _ (start _ ([eQ a b].map .dat) []) (endK _ _ _ (([rawQ a b]).map .dat) [])
  simp [-D.isLit, Try.f31, rawQ, eQ, i64D]
theorem rqR_ok : callable Try.prog 31 = true := by kernel_rfl

/-! i.pv3 -/
noncomputable def pv3RC := ct1 EV3 (fun p0 => True) (fun p0 => [.agg [rawQ p0.1.1 p0.1.2, rawQ p0.2.1.1 p0.2.1.2, rawQ p0.2.2.1 p0.2.2.2]])
@[simp] theorem pv3RC_at (a b c d e f : Int) : pv3RC [.agg [eQ a b, eQ c d, eQ e f]] = (True, [.agg [rawQ a b, rawQ c d, rawQ e f]]) := ct1_at ((a, b), (c, d), e, f)
noncomputable def pv3RTb : List (FuncId × Ct) := [(31, .data rqRC)]
theorem pv3RTb_ok {N : NR} : TbOK N Try.prog (tbl pv3RTb) := tbl_cons (c := .data rqRC) rqR_spec rqR_ok tbl_nil

@[simp] theorem pv3RTb1 : tbl pv3RTb 31 = some (.data rqRC) := rfl
theorem pv3R_spec {N : NR} : SpecD N Try.prog 24 pv3RC := by
  refine rd1 (mf := fun f => false) pv3RTb_ok (fn := Try.f24) (by kernel_rfl) rfl (by kernel_rfl) (by kernel_rfl) ?_
  rintro ⟨⟨a, b⟩, ⟨c, d⟩, e, f⟩ hp
  have hp : True := hp
  show awp _ _ _ _ (start _ ([.agg [eQ a b, eQ c d, eQ e f]].map .dat) []) (endK _ _ _ (([.agg [rawQ a b, rawQ c d, rawQ e f]]).map .dat) [])
  simp [-D.isLit, Try.f24]
theorem pv3R_ok : callable Try.prog 24 = true := by kernel_rfl

/-! i.places3$1 -/
noncomputable def pl31C := ct1 EV3 (fun p0 => ((I64 p0.1.1 ∧ I64 p0.1.2) ∧ (I64 p0.2.1.1 ∧ I64 p0.2.1.2) ∧ I64 p0.2.2.1 ∧ I64 p0.2.2.2)) (fun p0 => [.agg [rawQ p0.1.1 p0.1.2, rawQ p0.2.1.1 p0.2.1.2, rawQ p0.2.2.1 p0.2.2.2], .lit (.bool (decide (v3Ok p0.1.1 p0.1.2 p0.2.1.1 p0.2.1.2 p0.2.2.1 p0.2.2.2)))])
@[simp] theorem pl31C_at (a b c d e f : Int) : pl31C [.agg [eQ a b, eQ c d, eQ e f]] = (((I64 a ∧ I64 b) ∧ (I64 c ∧ I64 d) ∧ I64 e ∧ I64 f), [.agg [rawQ a b, rawQ c d, rawQ e f], .lit (.bool (decide (v3Ok a b c d e f)))]) := ct1_at ((a, b), (c, d), e, f)
noncomputable def pl31Tb : List (FuncId × Ct) := [(24, .data pv3RC), (25, .data iV3OkC)]
theorem pl31Tb_ok {N : NR} : TbOK N Try.prog (tbl pl31Tb) := tbl_cons (c := .data pv3RC) pv3R_spec pv3R_ok (tbl_cons (c := .data iV3OkC) iV3Ok_spec iV3Ok_ok tbl_nil)

@[simp] theorem pl31Tb1 : tbl pl31Tb 24 = some (.data pv3RC) := rfl
@[simp] theorem pl31Tb2 : tbl pl31Tb 25 = some (.data iV3OkC) := rfl
theorem pl31_spec {N : NR} : SpecD N Try.prog 23 pl31C := by
  refine rd1 (mf := fun f => f == cel 2) pl31Tb_ok (fn := Try.f23) (by kernel_rfl) rfl (by kernel_rfl) (by kernel_rfl) ?_
  rintro ⟨⟨a, b⟩, ⟨c, d⟩, e, f⟩ hp
  have hp : ((I64 a ∧ I64 b) ∧ (I64 c ∧ I64 d) ∧ I64 e ∧ I64 f) := hp
  show awp _ _ _ _ (start _ ([.agg [eQ a b, eQ c d, eQ e f]].map .dat) []) (endK _ _ _ (([.agg [rawQ a b, rawQ c d, rawQ e f], .lit (.bool (decide (v3Ok a b c d e f)))]).map .dat) [])
  simp [-D.isLit, Try.f23, hp]
theorem pl31_ok : callable Try.prog 23 = true := by kernel_rfl

/-! each, with places3's function -/
def EF3 : Enc Unit := ⟨fun _ => .lit (.func (.func 23) #[] #[]), fun _ _ _ => rfl⟩
def plR (l : List V3T) : List D := if l.all v3B = true then [.sl 9 (l.map rawV), .lit (.bool true)] else [.lit (.slice none 0 0), .lit (.bool false)]
noncomputable def eachC := ct2 EV3L EF3 (fun l _ => l.length ≤ 200 ∧ ∀ v ∈ l, V3_64 v) (fun l _ => plR l)
@[simp] theorem eachC_at (l : List V3T) : eachC [.sl 6 (l.map EV3.e), .lit (.func (.func 23) #[] #[])] = ((l.length ≤ 200 ∧ ∀ v ∈ l, V3_64 v), plR l) := ct2_at (A := EV3L) (B := EF3) l ()
noncomputable def eachTb : List (FuncId × Ct) := [(23, .data pl31C)]
theorem eachTb_ok {N : NR} : TbOK N Try.prog (tbl eachTb) := tbl_cons (c := .data pl31C) pl31_spec pl31_ok tbl_nil

@[simp] theorem eachTb1 : tbl eachTb 23 = some (.data pl31C) := rfl
def eachS (l p : List V3T) : St := ⟨[.any, .dat (.lit (.func (.func 23) #[] #[])), .any, .any, .any, .any, .row 11, .any, .any, .any, .any, .any, .dat (.sl 6 (l.map EV3.e)), .dat (.lit (.int .i64 l.length)), .dat (.lit (.int .i64 p.length)), .any, .any, .any, .any, .any, .any, .any, .any, .any, .any, .any, .any, .any, .any, .any, .any, .any], [none, none, none, none, none, none, none, none, none, none, none, some (.row 9 65 (p.map rawV)), none, none, none, none, none, none, none, none, none, none, none, none, none, none, none, none, none, none, none, none]⟩
theorem each_spec {N : NR} : SpecD N Try.prog 22 eachC := by
  refine rd2 (mf := fun f => false) eachTb_ok (fn := Try.f22) (by kernel_rfl) rfl (by kernel_rfl) (by kernel_rfl) ?_
  rintro l ⟨⟩ ⟨hl, hb⟩
  generalize hr : plR l = r
  show awp _ _ _ _ (start _ ([.sl 6 (l.map EV3.e), .lit (.func (.func 23) #[] #[])].map .dat) []) (endK _ _ _ (r.map .dat) [])
  simp only [Try.f22]
  simp [-D.isLit]
  refine loop_go (fun n st => ∃ p q, l = p ++ q ∧ n = q.length ∧ (∀ y ∈ p, v3B y = true) ∧ st = eachS l p) (s0 := eachS l []) (n := l.length) (snd_of (by simp [LeT, eachS]) (by simp [eachS])) ⟨[], l, rfl, rfl, by simp, rfl⟩ ?_
  rintro n st ⟨p, q, rfl, rfl, hp, rfl⟩ KN hN
  cases q with
  | nil =>
    have er : r = [.sl 9 (p.map rawV), .lit (.bool true)] := by
      rw [← hr, List.append_nil]; unfold plR; rw [if_pos (List.all_eq_true.2 hp)]
    subst er
    simp [-D.isLit, eachS]
  | cons v q =>
    obtain ⟨⟨a, b⟩, ⟨c, d⟩, e, f⟩ := v
    obtain ⟨⟨i1, i2⟩, ⟨i3, i4⟩, i5, i6⟩ := hb ((a, b), (c, d), e, f) (by simp)
    have i1 : I64 a := i1
    have i2 : I64 b := i2
    have i3 : I64 c := i3
    have i4 : I64 d := i4
    have i5 : I64 e := i5
    have i6 : I64 f := i6
    have e1 : ix (p.map EV3.e ++ .agg [eQ a b, eQ c d, eQ e f] :: q.map EV3.e) p.length = some (.agg [eQ a b, eQ c d, eQ e f]) := ix_mem5 (by simp)
    have w1 : IntKind.i64.wrap ((p.length : Int) + 1) = (p.length : Int) + 1 := i64_id _ (by omega) (by simp at hl; omega)
    have e4 : (p.length : Int) < p.length + (q.length + 1) := by omega
    by_cases hok : v3Ok a b c d e f
    · simp [-D.isLit, eachS, e1, e4, w1, i1, i2, i3, i4, i5, i6, hok]
      have hp200 : p.length ≤ 200 := by simp at hl; omega
      refine ⟨⟨by omega, mx200 hp200⟩, hN _ (nx (m := q.length) (s'' := eachS (p ++ ((a, b), (c, d), e, f) :: q) (p ++ [((a, b), (c, d), e, f)])) (snd_obs (n := 32) [(11, 29, .row 9 65 ((p ++ [((a, b), (c, d), e, f)]).map rawV))] rfl (by simp [rawV]) (by simp [eachS])) ⟨p ++ [((a, b), (c, d), e, f)], q, by simp, rfl, fun y hy => ?_, rfl⟩ (by simp))⟩
      rcases List.mem_append.1 hy with hy | hy
      · exact hp y hy
      · rw [List.mem_singleton.1 hy]; exact decide_eq_true hok
    · have er : r = [.lit (.slice none 0 0), .lit (.bool false)] := by
        have hv : v3B ((a, b), (c, d), e, f) = false := decide_eq_false hok
        rw [← hr]; unfold plR
        rw [if_neg (by rw [List.all_append, List.all_cons, hv]; simp)]
      subst er
      simp [-D.isLit, eachS, e1, e4, w1, i1, i2, i3, i4, i5, i6, hok]
theorem each_ok : callable Try.prog 22 = true := by kernel_rfl

/-! i.places3 -/
noncomputable def pl3C := ct1 EV3L (fun l => l.length ≤ 200 ∧ ∀ v ∈ l, V3_64 v) plR
@[simp] theorem pl3C_at (l : List V3T) : pl3C [.sl 6 (l.map EV3.e)] = ((l.length ≤ 200 ∧ ∀ v ∈ l, V3_64 v), plR l) := ct1_at (A := EV3L) l
noncomputable def pl3Tb : List (FuncId × Ct) := [(22, .data eachC)]
theorem pl3Tb_ok {N : NR} : TbOK N Try.prog (tbl pl3Tb) := tbl_cons (c := .data eachC) each_spec each_ok tbl_nil

@[simp] theorem pl3Tb1 : tbl pl3Tb 22 = some (.data eachC) := rfl
theorem pl3_spec {N : NR} : SpecD N Try.prog 15 pl3C := by
  refine rd1 (mf := fun f => false) pl3Tb_ok (fn := Try.f15) (by kernel_rfl) rfl (by kernel_rfl) (by kernel_rfl) ?_
  rintro l ⟨hl, hb⟩
  have c1 := eachC_at l
  rw [eq_true (⟨hl, hb⟩ : l.length ≤ 200 ∧ ∀ v ∈ l, V3_64 v)] at c1
  show awp _ _ _ _ (start _ ([.sl 6 (l.map EV3.e)].map .dat) []) (endK _ _ _ ((plR l).map .dat) [])
  unfold plR at *
  by_cases h : l.all v3B = true
  · rw [if_pos h] at *
    simp [-D.isLit, -eachC_at, Try.f15, c1]
  · rw [if_neg h] at *
    simp [-D.isLit, -eachC_at, Try.f15, c1]
theorem pl3_ok : callable Try.prog 15 = true := by kernel_rfl

/-! i.triIn -/
noncomputable def triInC := ct2 ETri EInt (fun p0 p1 => True) (fun p0 p1 => [.lit (.bool (decide (triOk p0.1 p0.2.1 p0.2.2 p1)))])
@[simp] theorem triInC_at (a b c : Int) (n : Int) : triInC [.agg [.lit (.int .i64 a), .lit (.int .i64 b), .lit (.int .i64 c)], .lit (.int .i64 n)] = (True, [.lit (.bool (decide (triOk a b c n)))]) := ct2_at (a, b, c) n
theorem triIn_spec {N : NR} : SpecD N Try.prog 16 triInC := by
  refine rd2 (mf := fun f => false) (tb := tbl []) tbl_nil (fn := Try.f16) (by kernel_rfl) rfl (by kernel_rfl) (by kernel_rfl) ?_
  rintro ⟨a, b, c⟩ n hp
  have hp : True := hp
  show awp _ _ _ _ (start _ ([.agg [.lit (.int .i64 a), .lit (.int .i64 b), .lit (.int .i64 c)], .lit (.int .i64 n)].map .dat) []) (endK _ _ _ (([.lit (.bool (decide (triOk a b c n)))]).map .dat) [])
  unfold triOk
  by_cases h1 : 0 ≤ a
  · by_cases h2 : a < b
    · by_cases h3 : a < c
      · by_cases h4 : b = c
        · simp [-D.isLit, Try.f16, h1, h2, h3, h4]
        · by_cases h5 : b < n <;> simp [-D.isLit, Try.f16, h1, h2, h3, h4, h5]
      · simp [-D.isLit, Try.f16, h1, h2, h3]
    · simp [-D.isLit, Try.f16, h1, h2]
  · simp [-D.isLit, Try.f16, h1]
theorem triIn_ok : callable Try.prog 16 = true := by kernel_rfl

/-! s.l7At -/
noncomputable def l7AtC := ct2 EInt EInt (fun p0 p1 => True) (fun p0 p1 => [.lit (.bool (decide (0 ≤ p0 ∧ p0 < p1)))])
@[simp] theorem l7AtC_at (a : Int) (n : Int) : l7AtC [.lit (.int .i64 a), .lit (.int .i64 n)] = (True, [.lit (.bool (decide (0 ≤ a ∧ a < n)))]) := ct2_at a n
theorem l7At_spec : SpecD NF Try.prog 12 l7AtC := by
  refine rd2 (mf := fun f => false) (tb := tbl []) tbl_nil (fn := Try.f12) (by kernel_rfl) rfl (by kernel_rfl) (by kernel_rfl) ?_
  rintro a n hp
  have hp : True := hp
  show awp _ _ _ _ (start _ ([.lit (.int .i64 a), .lit (.int .i64 n)].map .dat) []) (endK _ _ _ (([.lit (.bool (decide (0 ≤ a ∧ a < n)))]).map .dat) [])
  by_cases h1 : 0 ≤ a <;> simp [-D.isLit, Try.f12, h1]
theorem l7At_ok : callable Try.prog 12 = true := by kernel_rfl

/-! i.MeshOk -/
noncomputable def iMoTb : List (FuncId × Ct) := [(15, .data pl3C), (16, .data triInC)]
theorem iMoTb_ok {N : NR} : TbOK N Try.prog (tbl iMoTb) := tbl_cons (c := .data pl3C) pl3_spec pl3_ok (tbl_cons (c := .data triInC) triIn_spec triIn_ok tbl_nil)

@[simp] theorem iMoTb1 : tbl iMoTb 15 = some (.data pl3C) := rfl
@[simp] theorem iMoTb2 : tbl iMoTb 16 = some (.data triInC) := rfl
def iMoS (v : List V3T) (e : List TriT) (k : Nat) : St := ⟨[.any, .obj 1 [] 0, .any, .any, .any, .any, .any, .any, .any, .any, .any, .any, .any, .any, .any, .any, .any, .any, .any, .any, .any, .any, .any, .any, .any, .any, .dat (.sl 3 (e.map ETri.e)), .dat (.lit (.int .i64 e.length)), .dat (.lit (.int .i64 k)), .any, .any, .any, .any, .any, .any, .any, .any, .any, .any], [none, some (.box (.agg [.sl 6 (v.map EV3.e), .sl 3 (e.map ETri.e)])), none, none, none, none, none, none, none, none, none, none, none, none, none, none, none, none, none, none, none, none, none, none, none, none, none, none, none, none, none, none, none, none, none, none, none, none, none]⟩
set_option maxRecDepth 100000 in
theorem iMo_spec {N : NR} : SpecD N Try.prog 7 mOkC := by
  refine rd1 (mf := fun f => false) iMoTb_ok (fn := Try.f7) (by kernel_rfl) rfl (by kernel_rfl) (by kernel_rfl) ?_
  rintro ⟨v, e⟩ ⟨⟨hv, he⟩, ⟨_, hv64⟩, _, _⟩
  have hv : v.length < 1048577 := hv
  have he : e.length < 1048577 := he
  generalize hr : meshB (v, e) = r
  show awp _ _ _ _ (start _ ([.agg [.sl 6 (v.map EV3.e), .sl 3 (e.map ETri.e)]].map .dat) []) (endK _ _ _ ([D.lit (.bool r)].map .dat) [])
  simp only [Try.f7]
  by_cases h1 : 200 < v.length
  · have er : r = false := by rw [← hr]; unfold meshB; rw [decide_eq_false (show ¬ v.length ≤ 200 by omega)]; rfl
    subst er
    have h1' : (200 : Int) < v.length := by omega
    simp [-D.isLit, h1, h1']
  have h1' : ¬ (200 : Int) < v.length := by omega
  have h1'' : (v.length : Int) ≤ 200 := by omega
  by_cases h2 : 300 < e.length
  · have er : r = false := by rw [← hr]; unfold meshB; rw [decide_eq_false (show ¬ e.length ≤ 300 by omega)]; simp
    subst er
    have h2' : (300 : Int) < e.length := by omega
    simp [-D.isLit, h1, h1', h1'', h2, h2']
  have h2' : ¬ (300 : Int) < e.length := by omega
  have h2'' : (e.length : Int) ≤ 300 := by omega
  have hr : (v.all v3B && e.all (triB v.length)) = r := by
    rw [← hr]; unfold meshB; rw [decide_eq_true (show v.length ≤ 200 by omega), decide_eq_true (show e.length ≤ 300 by omega), Bool.true_and, Bool.true_and]
  have c1 := pl3C_at v
  rw [eq_true (⟨by omega, hv64⟩ : v.length ≤ 200 ∧ ∀ x ∈ v, V3_64 x)] at c1
  unfold plR at c1
  cases h3 : v.all v3B
  · rw [h3] at hr c1
    have er : r = false := by rw [← hr]; rfl
    subst er
    rw [if_neg (by simp)] at c1
    simp [-D.isLit, -pl3C_at, h1, h1', h1'', h2, h2', h2'', c1]
  rw [h3, Bool.true_and] at hr
  rw [h3, if_pos rfl] at c1
  simp [-D.isLit, -pl3C_at, h1, h1', h1'', h2, h2', h2'', c1]
  refine loop_go (fun n st => ∃ k, n = e.length - k ∧ k ≤ e.length ∧ (∀ y ∈ e.take k, triB v.length y = true) ∧ st = iMoS v e k) (s0 := iMoS v e 0) (n := e.length) (snd_of (by simp [LeT, iMoS]) (by simp [iMoS])) ⟨0, rfl, Nat.zero_le _, by simp, rfl⟩ ?_
  rintro n st ⟨k, hn, hk, hall, rfl⟩ KN hN
  by_cases h : k < e.length
  · obtain ⟨a, b, c, hx, p1, hm⟩ := tri_at h
    obtain ⟨a1, a2⟩ := all_drop (triB v.length) e k _ hx hall
    have w1 : IntKind.i64.wrap ((k : Int) + 1) = (k : Int) + 1 := i64_id _ (by omega) (by omega)
    by_cases hok : triOk a b c v.length
    · have a2 := a2 (decide_eq_true hok)
      simp [-D.isLit, iMoS, h, p1, hok, w1]
      exact hN _ (nx (m := e.length - (k + 1)) (s'' := iMoS v e (k + 1)) (snd_obs (n := 39) [(1, 1, .box (.agg [.sl 6 (v.map EV3.e), .sl 3 (e.map ETri.e)]))] rfl (by simp) (by simp [iMoS])) ⟨k + 1, rfl, h, a2, rfl⟩ (by omega))
    · have a1 := a1 (decide_eq_false hok)
      rw [hr] at a1
      subst a1
      simp [-D.isLit, iMoS, h, p1, hok, w1]
  · have hkl : k = e.length := by omega
    subst hkl
    rw [List.take_length] at hall
    have hrt : r = true := by rw [← hr, List.all_eq_true]; exact hall
    subst hrt
    simp [iMoS]
theorem iMo_ok : callable Try.prog 7 = true := by kernel_rfl

/-! s.MeshOk -/
noncomputable def sMoTb : List (FuncId × Ct) := [(11, .data sV3OkC), (12, .data l7AtC)]
theorem sMoTb_ok : TbOK NF Try.prog (tbl sMoTb) := tbl_cons (c := .data sV3OkC) sV3Ok_spec sV3Ok_ok (tbl_cons (c := .data l7AtC) l7At_spec l7At_ok tbl_nil)

@[simp] theorem sMoTb1 : tbl sMoTb 11 = some (.data sV3OkC) := rfl
@[simp] theorem sMoTb2 : tbl sMoTb 12 = some (.data l7AtC) := rfl
def sMoS1 (v : List V3T) (e : List TriT) (k : Nat) : St := ⟨[.any, .obj 1 [] 0, .any, .dat (.lit (.int .i64 k)), .any, .any, .any, .any, .any, .any, .any, .any, .any, .any, .any, .any, .any, .any, .any, .any, .any, .any, .any, .any, .any, .any, .any, .any, .any, .any, .any, .any, .any, .any, .any, .any, .any, .any, .any, .any, .any, .any, .any, .any, .any, .any, .any, .any, .any, .any, .any, .any, .any, .any, .any, .any, .any, .any, .any, .any, .any, .any, .any, .any, .any, .any, .any, .any, .any, .any, .any, .any, .any, .any, .any, .any, .any, .any, .any, .any, .any, .any, .any, .any, .any, .any], [none, some (.box (.agg [.sl 6 (v.map EV3.e), .sl 3 (e.map ETri.e)])), none, none, none, none, none, none, none, none, none, none, none, none, none, none, none, none, none, none, none, none, none, none, none, none, none, none, none, none, none, none, none, none, none, none, none, none, none, none, none, none, none, none, none, none, none, none, none, none, none, none, none, none, none, none, none, none, none, none, none, none, none, none, none, none, none, none, none, none, none, none, none, none, none, none, none, none, none, none, none, none, none, none, none, none]⟩
def sMoS2 (v : List V3T) (e : List TriT) (k : Nat) : St := ⟨[.any, .obj 1 [] 0, .any, .any, .dat (.lit (.int .i64 v.length)), .dat (.lit (.int .i64 k)), .any, .any, .any, .any, .any, .any, .any, .any, .any, .any, .any, .any, .any, .any, .any, .any, .any, .any, .any, .any, .any, .any, .any, .any, .any, .any, .any, .any, .any, .any, .any, .any, .any, .any, .any, .any, .any, .any, .any, .any, .any, .any, .any, .any, .any, .any, .any, .any, .any, .any, .any, .any, .any, .any, .any, .any, .any, .any, .any, .any, .any, .any, .any, .any, .any, .any, .any, .any, .any, .any, .any, .any, .any, .any, .any, .any, .any, .any, .any, .any], [none, some (.box (.agg [.sl 6 (v.map EV3.e), .sl 3 (e.map ETri.e)])), none, none, none, none, none, none, none, none, none, none, none, none, none, none, none, none, none, none, none, none, none, none, none, none, none, none, none, none, none, none, none, none, none, none, none, none, none, none, none, none, none, none, none, none, none, none, none, none, none, none, none, none, none, none, none, none, none, none, none, none, none, none, none, none, none, none, none, none, none, none, none, none, none, none, none, none, none, none, none, none, none, none, none, none]⟩
set_option maxRecDepth 100000 in
set_option maxHeartbeats 4000000 in
theorem sMo_spec : SpecD NF Try.prog 5 mOkC := by
  refine rd1 (mf := fun f => false) sMoTb_ok (fn := Try.f5) (by kernel_rfl) rfl (by kernel_rfl) (by kernel_rfl) ?_
  rintro ⟨v, e⟩ ⟨⟨hv, he⟩, ⟨_, hv64⟩, _, _⟩
  have hv : v.length < 1048577 := hv
  have he : e.length < 1048577 := he
  generalize hr : meshB (v, e) = r
  show awp _ _ _ _ (start _ ([.agg [.sl 6 (v.map EV3.e), .sl 3 (e.map ETri.e)]].map .dat) []) (endK _ _ _ ([D.lit (.bool r)].map .dat) [])
  simp only [Try.f5]
  by_cases h1 : 200 < v.length
  · have er : r = false := by rw [← hr]; unfold meshB; rw [decide_eq_false (show ¬ v.length ≤ 200 by omega)]; rfl
    subst er
    have h1' : (200 : Int) < v.length := by omega
    simp [-D.isLit, h1, h1']
  have h1' : ¬ (200 : Int) < v.length := by omega
  have h1'' : (v.length : Int) ≤ 200 := by omega
  by_cases h2 : 300 < e.length
  · have er : r = false := by rw [← hr]; unfold meshB; rw [decide_eq_false (show ¬ e.length ≤ 300 by omega)]; simp
    subst er
    have h2' : (300 : Int) < e.length := by omega
    simp [-D.isLit, h1, h1', h1'', h2, h2']
  have h2' : ¬ (300 : Int) < e.length := by omega
  have h2'' : (e.length : Int) ≤ 300 := by omega
  have hr : (v.all v3B && e.all (triB v.length)) = r := by
    rw [← hr]; unfold meshB; rw [decide_eq_true (show v.length ≤ 200 by omega), decide_eq_true (show e.length ≤ 300 by omega), Bool.true_and, Bool.true_and]
  simp [-D.isLit, h1, h1', h1'', h2, h2', h2'']
  refine loop_go (fun n st => ∃ k, n = v.length - k ∧ k ≤ v.length ∧ (∀ y ∈ v.take k, v3B y = true) ∧ st = sMoS1 v e k) (s0 := sMoS1 v e 0) (n := v.length) (snd_of (by simp [LeT, sMoS1]) (by simp [sMoS1])) ⟨0, rfl, Nat.zero_le _, by simp, rfl⟩ ?_
  rintro n st ⟨k, hn, hk, hall, rfl⟩ KN hN
  by_cases h : k < v.length
  · obtain ⟨a, b, c, d, u, f, hx, p1, hm⟩ := v3_at h
    obtain ⟨a1, a2⟩ := all_drop v3B v k _ hx hall
    obtain ⟨⟨i1, i2⟩, ⟨i3, i4⟩, i5, i6⟩ := hv64 _ hm
    have i1 : I64 a := i1
    have i2 : I64 b := i2
    have i3 : I64 c := i3
    have i4 : I64 d := i4
    have i5 : I64 u := i5
    have i6 : I64 f := i6
    have w1 : IntKind.i64.wrap ((k : Int) + 1) = (k : Int) + 1 := i64_id _ (by omega) (by omega)
    by_cases hok : v3Ok a b c d u f
    · have a2 := a2 (decide_eq_true hok)
      simp [-D.isLit, sMoS1, h, p1, i1, i2, i3, i4, i5, i6, hok, w1]
      exact hN _ (nx (m := v.length - (k + 1)) (s'' := sMoS1 v e (k + 1)) (snd_of (by simp [LeT, sMoS1]) (by simp [sMoS1])) ⟨k + 1, rfl, h, a2, rfl⟩ (by omega))
    · have a1 := a1 (decide_eq_false hok)
      rw [a1] at hr
      have er : r = false := by rw [← hr]; rfl
      subst er
      simp [-D.isLit, sMoS1, h, p1, i1, i2, i3, i4, i5, i6, hok, w1]
  have hkl : k = v.length := by omega
  subst hkl
  rw [List.take_length] at hall
  rw [List.all_eq_true.2 hall, Bool.true_and] at hr
  simp [-D.isLit, sMoS1]
  clear hall hN hn hk
  refine loop_go (fun n st => ∃ k, n = e.length - k ∧ k ≤ e.length ∧ (∀ y ∈ e.take k, triB v.length y = true) ∧ st = sMoS2 v e k) (s0 := sMoS2 v e 0) (n := e.length) (snd_of (by simp [LeT, sMoS2]) (by simp [sMoS2])) ⟨0, rfl, Nat.zero_le _, by simp, rfl⟩ ?_
  rintro n st ⟨k, hn, hk, hall, rfl⟩ KN hN
  by_cases h : k < e.length
  · obtain ⟨a, b, c, hx, p1, hm⟩ := tri_at h
    obtain ⟨a1, a2⟩ := all_drop (triB v.length) e k _ hx hall
    have w1 : IntKind.i64.wrap ((k : Int) + 1) = (k : Int) + 1 := i64_id _ (by omega) (by omega)
    by_cases hok : triOk a b c v.length
    · have a2 := a2 (decide_eq_true hok)
      obtain ⟨q1, q2, q3, q4, q5, q6⟩ := hok
      have r1 : a < v.length := by omega
      have r2 : 0 ≤ b := by omega
      have r3 : 0 ≤ c := by omega
      have r4 : ¬ b ≤ a := by omega
      have r5 : ¬ c ≤ a := by omega
      simp [-D.isLit, sMoS2, h, p1, q1, q4, q5, q6, r1, r2, r3, r4, r5, w1]
      exact hN _ (nx (m := e.length - (k + 1)) (s'' := sMoS2 v e (k + 1)) (snd_obs (n := 86) [(1, 1, .box (.agg [.sl 6 (v.map EV3.e), .sl 3 (e.map ETri.e)]))] rfl (by simp) (by simp [sMoS2])) ⟨k + 1, rfl, h, a2, rfl⟩ (by omega))
    · have a1 := a1 (decide_eq_false hok)
      rw [hr] at a1
      subst a1
      by_cases q1 : 0 ≤ a ∧ a < v.length
      case neg =>
        have q1' : decide (0 ≤ a ∧ a < (v.length : Int)) = false := decide_eq_false q1
        simp [-D.isLit, -Bool.decide_and, sMoS2, h, p1, q1']
      by_cases q2 : 0 ≤ b ∧ b < v.length
      case neg =>
        have q2' : decide (0 ≤ b ∧ b < (v.length : Int)) = false := decide_eq_false q2
        have q1' : decide (0 ≤ a ∧ a < (v.length : Int)) = true := decide_eq_true q1
        simp [-D.isLit, -Bool.decide_and, sMoS2, h, p1, q1', q2']
      by_cases q3 : 0 ≤ c ∧ c < v.length
      case neg =>
        have q3' : decide (0 ≤ c ∧ c < (v.length : Int)) = false := decide_eq_false q3
        have q2' : decide (0 ≤ b ∧ b < (v.length : Int)) = true := decide_eq_true q2
        have q1' : decide (0 ≤ a ∧ a < (v.length : Int)) = true := decide_eq_true q1
        simp [-D.isLit, -Bool.decide_and, sMoS2, h, p1, q1', q2', q3']
      by_cases q4 : b ≤ a
      · simp [-D.isLit, sMoS2, h, p1, q1.1, q1.2, q2.1, q2.2, q3.1, q3.2, q4]
      by_cases q5 : c ≤ a
      · simp [-D.isLit, sMoS2, h, p1, q1.1, q1.2, q2.1, q2.2, q3.1, q3.2, q4, q5]
      have q6 : b = c := by
        apply Classical.byContradiction
        intro x
        exact hok ⟨q1.1, by omega, by omega, x, q2.2, q3.2⟩
      subst q6
      simp [-D.isLit, sMoS2, h, p1, q1.1, q1.2, q2.1, q2.2, q4]
  · have hkl : k = e.length := by omega
    subst hkl
    rw [List.take_length] at hall
    have hrt : r = true := by rw [← hr, List.all_eq_true]; exact hall
    subst hrt
    simp [sMoS2]
theorem sMo_ok : callable Try.prog 5 = true := by kernel_rfl

/-! l.FnExactMeshOk -/
theorem szM_small {p : List V3T × List TriT} (h : ¬ (if szL5 p.1.length 1048576 < 0 then (-1 : Int) else szL5 p.2.length (szL5 p.1.length 1048576)) < 0) : meshS p := by
  unfold szL5 at h
  by_cases h1 : (1048576 : Int) < p.1.length
  · rw [if_pos h1, if_pos (by omega)] at h; omega
  · rw [if_neg h1, if_neg (by omega)] at h
    by_cases h2 : (1048576 : Int) - p.1.length < p.2.length
    · rw [if_pos h2] at h; omega
    · exact ⟨by omega, by omega⟩
noncomputable def lwMoC := ct1 EMesh mesh64 (fun p => [.lit (.bool true)])
theorem lwMoC_at (v : List V3T) (e : List TriT) : lwMoC [.agg [.sl 6 (v.map EV3.e), .sl 3 (e.map ETri.e)]] = (mesh64 (v, e), [.lit (.bool true)]) := ct1_at (A := EMesh) (v, e)
noncomputable def lwMoTb : List (FuncId × Ct) := [(4, .data szMC), (6, .data toMC), (7, .data mOkC), (5, .data mOkC), (8, .data eqMC)]
theorem lwMoTb_ok : TbOK NF Try.prog (tbl lwMoTb) := tbl_cons (c := .data szMC) szM_spec szM_ok (tbl_cons (c := .data toMC) toM_spec toM_ok (tbl_cons (c := .data mOkC) iMo_spec iMo_ok (tbl_cons (c := .data mOkC) sMo_spec sMo_ok (tbl_cons (c := .data eqMC) eqM_spec eqM_ok tbl_nil))))

@[simp] theorem lwMoTb1 : tbl lwMoTb 4 = some (.data szMC) := rfl
@[simp] theorem lwMoTb2 : tbl lwMoTb 6 = some (.data toMC) := rfl
@[simp] theorem lwMoTb3 : tbl lwMoTb 7 = some (.data mOkC) := rfl
@[simp] theorem lwMoTb4 : tbl lwMoTb 5 = some (.data mOkC) := rfl
@[simp] theorem lwMoTb5 : tbl lwMoTb 8 = some (.data eqMC) := rfl
set_option maxRecDepth 100000 in
theorem lwMo_spec : SpecD NF Try.prog 3 lwMoC := by
  refine rd1 (mf := fun f => false) lwMoTb_ok (fn := Try.f3) (by kernel_rfl) rfl (by kernel_rfl) (by kernel_rfl) ?_
  rintro ⟨v, e⟩ h64
  have hl1 : v.length ≤ 9223372036854775807 := h64.1.1
  have hl2 : e.length ≤ 9223372036854775807 := h64.2.1
  have c0 := szMC_at v e 1048576
  show awp _ _ _ _ (start _ ([.agg [.sl 6 (v.map EV3.e), .sl 3 (e.map ETri.e)]].map .dat) []) (endK _ _ _ ([D.lit (.bool true)].map .dat) [])
  have hsm := szM_small (p := (v, e))
  have hsm : ¬ (if szL5 v.length 1048576 < 0 then (-1 : Int) else szL5 e.length (szL5 v.length 1048576)) < 0 → meshS (v, e) := hsm
  rw [eq_true (⟨⟨hl1, hl2⟩, by omega, by omega⟩ : (v.length ≤ 9223372036854775807 ∧ e.length ≤ 9223372036854775807) ∧ (0 : Int) ≤ 1048576 ∧ (1048576 : Int) < 4611686018427387904)] at c0
  generalize (if szL5 v.length 1048576 < 0 then (-1 : Int) else szL5 e.length (szL5 v.length 1048576)) = s at *
  by_cases h : s < 0
  · simp [-D.isLit, -szMC_at, Try.f3, c0, h]
  · have hs := hsm h
    have c1 := mOkC_at v e
    have hP : meshP (v, e) := ⟨hs, h64⟩
    rw [eq_true hP] at c1
    generalize meshB (v, e) = r at c1
    simp [-D.isLit, -szMC_at, -mOkC_at, Try.f3, c0, h, hs, c1]
theorem lwMo_ok : callable Try.prog 3 = true := by kernel_rfl
set_option maxRecDepth 100000 in
theorem lwMeshOk_calls {d0 : D} (s0 : shp Try.prog 8 25 d0) {v0 : Value} {w : World} (hrep : RepVs NF (fun b => b < w.heap.size) w [d0] [v0]) :
    Calls Try.prog 3 #[v0] w fun e w' => e = .returned (.bool true) ∧ Below w.heap.size w w' := by
  obtain ⟨⟨v, e⟩, rfl, hp⟩ := shp_Mesh (n := 3) s0
  exact law_callsM lwMo_spec (ds := [.agg [.sl 6 (v.map EV3.e), .sl 3 (e.map ETri.e)]]) (by rw [lwMoC_at]; exact hp) (by rw [lwMoC_at]; rfl) (vs := [v0]) hrep
end Go.Proofs.Ytdkgkcnllhcamaa.Ae
