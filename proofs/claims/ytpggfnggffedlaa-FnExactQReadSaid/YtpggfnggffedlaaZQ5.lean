/- Of our texts what the law leans on, in the order in which they build: L59, L60, L61, L62, Q1, L63, L64, S1, S2, L65, L66, L67, L68, L69, S3, L70, S4, S5, T101, T102, T1, T100, T103, T104, T105, T106, T107, T108, T109. No condition. -/
import Derived.Test.YtpggfnggffedlaaZQ4
import Derived.Below
import Derived.OpenShut
import Derived.Shelf.Strings.IndexAnyAll
import Derived.Laws.Runes
import Derived.Shelf.Small.Utf8
import Derived.WalkMore
import Derived.WalkSmall
import Derived.LoopN
import Derived.Shelf.RegionOpenPlain
import Derived.WalkKit
import Derived.Deep.Draws
import Derived.Deep.QuietTactic
set_option linter.unusedVariables false
set_option linter.unusedSimpArgs false
namespace Go.Proofs.Ytpggfnggffedlaa.Ae
open Go Go.RowKit Go.Proofs.Ytpggfnggffedlaa.Dig
variable {N : NR}
noncomputable def sgDC := ctD pE (fun _ => True) (fun p => [i64D p.a.sign])
theorem sgDC_at (a : Int) : sgDC [.ptr (eZ a)] = (True, [i64D a.sign]) := ctD_at pE_inj ⟨a⟩
theorem SignD_spec : SpecD N Try.prog 130 sgDC := by
  refine rdD (mf := fun f => false) tbl_nil (fn := Try.f130) (by kernel_rfl) rfl (by kernel_rfl) ?_
  rintro ⟨x⟩ _
  refine ⟨by show 1 ≤ 15; decide, ?_⟩
  simp only [Try.f130]
  rcases Int.lt_trichotomy x 0 with h | h | h
  · rw [Int.sign_eq_neg_one_of_neg h]
    simp [pE, eZ, eM, eW, h, i64D]
  · subst h
    simp [pE, eZ, eM, eW, i64D, mag_zero]
  · have h1 : ¬ x < 0 := by omega
    have h2 := mag_len_pos (n := x.natAbs) (by omega)
    rw [Int.sign_eq_one_of_pos h]
    simp [pE, eZ, eM, eW, h1, h2, i64D]
instance (a : Int) : Decidable (I64 a) := by unfold I64; infer_instance
@[simp] theorem eZ_lit (z : Int) : (eZ z).isLit = false := rfl
theorem SZ_I64 {a : Int} (h : I64 a) : SZ a := by
  unfold I64 at h
  exact Sm_small (by omega)
noncomputable def uTb : List (FuncId × Ct) := [(129, .data u64C)]
theorem uTb_ok : TbOK N Try.prog (tbl uTb) := tbl_cons (c := .data u64C) Uint64_spec Uint64_ok tbl_nil
@[simp] theorem uTb1 : tbl uTb 129 = some (.data u64C) := rfl
noncomputable def int64C := ctD pE (fun p => I64 p.a) (fun p => [i64D p.a])
theorem int64C_at (a : Int) : int64C [.ptr (eZ a)] = (I64 a, [i64D a]) := ctD_at pE_inj ⟨a⟩
theorem Int64_spec : SpecD N Try.prog 109 int64C := by
  refine rdD (mf := fun f => false) uTb_ok (fn := Try.f109) (by kernel_rfl) rfl (by kernel_rfl) ?_
  rintro ⟨a⟩ ha
  have ha : I64 a := ha
  refine ⟨by show 1 ≤ 14; decide, ?_⟩
  simp only [pE, i64D, Try.f109]
  have c1 := u64C_at a
  have h1 := SZ_I64 ha
  unfold I64 at ha
  have e1 : a.natAbs % 18446744073709551616 = a.natAbs := Nat.mod_eq_of_lt (by omega)
  simp only [h1, e1, u64D] at c1
  by_cases h : a < 0
  · have w1 : IntKind.i64.wrap (-IntKind.i64.wrap (a.natAbs : Int)) = a := by rw [wrap_i64, wrap_i64]; omega
    generalize a.natAbs = m at *
    simp only [eZ, eM, eW, h, decide_true] at c1 ⊢
    simp [c1, w1]
  · have w1 : IntKind.i64.wrap (a.natAbs : Int) = a := by rw [wrap_i64]; omega
    generalize a.natAbs = m at *
    simp only [eZ, eM, eW, h, decide_false] at c1 ⊢
    simp [c1, w1]
theorem Int64_ok : callable Try.prog 109 = true := by kernel_rfl
noncomputable def isI64C := ctD pE (fun p => SZ p.a) (fun p => [.lit (.bool (decide (I64 p.a)))])
theorem isI64C_at (a : Int) : isI64C [.ptr (eZ a)] = (SZ a, [.lit (.bool (decide (I64 a)))]) := ctD_at pE_inj ⟨a⟩
theorem IsInt64_spec : SpecD N Try.prog 107 isI64C := by
  refine rdD (mf := fun f => false) uTb_ok (fn := Try.f107) (by kernel_rfl) rfl (by kernel_rfl) ?_
  rintro ⟨a⟩ ha
  have ha : SZ a := ha
  refine ⟨by show 1 ≤ 25; decide, ?_⟩
  simp only [pE, Try.f107]
  have c1 := u64C_at a
  simp only [ha, u64D] at c1
  by_cases hl : (mag a.natAbs).length ≤ 2
  · have hB : a.natAbs < 18446744073709551616 := by
      have := mag_lt.1 hl
      simp only [B] at this; omega
    have e1 : a.natAbs % 18446744073709551616 = a.natAbs := Nat.mod_eq_of_lt hB
    have hl' : ((mag a.natAbs).length : Int) ≤ 2 := by omega
    have hl2 : ¬ (2 : Int) < (mag a.natAbs).length := by omega
    rw [e1] at c1
    by_cases h : a < 0
    · by_cases h2 : a.natAbs < 9223372036854775808
      · have h3 : I64 a := by unfold I64; omega
        have h2' : ((a.natAbs : Nat) : Int) < 9223372036854775808 := by omega
        simp only [h3, decide_true]
        simp only [eZ, eM, eW, h, decide_true] at c1 ⊢
        generalize a.natAbs = m at *
        simp [c1, hl', hl2, h2']
      · have h2' : ¬ ((a.natAbs : Nat) : Int) < 9223372036854775808 := by omega
        by_cases h4 : a.natAbs = 9223372036854775808
        · have h3 : I64 a := by unfold I64; omega
          simp only [h3, decide_true]
          simp only [eZ, eM, eW, h, decide_true] at c1 ⊢
          have h5 : ((a.natAbs : Nat) : Int) = 9223372036854775808 := by omega
          generalize a.natAbs = m at *
          simp [c1, hl', hl2, h5]
        · have h3 : ¬ I64 a := by unfold I64; omega
          have h4' : ¬ ((a.natAbs : Nat) : Int) = 9223372036854775808 := by omega
          simp only [h3, decide_false]
          simp only [eZ, eM, eW, h, decide_true] at c1 ⊢
          generalize a.natAbs = m at *
          simp [c1, hl', hl2, h2', h4']
    · have hI : I64 a ↔ a.natAbs < 9223372036854775808 := by unfold I64; omega
      simp only [hI]
      simp only [eZ, eM, eW, h, decide_false] at c1 ⊢
      generalize a.natAbs = m at *
      by_cases h2 : m < 9223372036854775808
      · have h2' : ((m : Nat) : Int) < 9223372036854775808 := by omega
        simp [c1, hl', hl2, h2, h2']
      · have h2' : ¬ ((m : Nat) : Int) < 9223372036854775808 := by omega
        simp [c1, hl', hl2, h2, h2']
  · have h3 : ¬ I64 a := by
      intro h
      unfold I64 at h
      have h1 : a.natAbs < B ^ 2 := by simp only [B]; omega
      exact hl (mag_lt.2 h1)
    have hl' : ¬ ((mag a.natAbs).length : Int) ≤ 2 := by omega
    simp only [h3, decide_false]
    simp [eZ, eM, eW, hl']
theorem IsInt64_ok : callable Try.prog 107 = true := by kernel_rfl
end Go.Proofs.Ytpggfnggffedlaa.Ae

namespace Go.Proofs.Ytpggfnggffedlaa.Ae
open Go Go.RowKit Go.Proofs.Ytpggfnggffedlaa.Dig
variable {N : NR}
theorem eB_new : eB .new = .agg [.lit (.bool false), .lit (.slice none 0 0)] := rfl
@[simp] theorem eB_size (c : BC) : (eB c).size = 2 := by cases c <;> rfl
@[simp] theorem eB_agg (c : BC) : (eB c).isAgg = true := by cases c <;> rfl
@[simp] theorem eB_islit (c : BC) : (eB c).isLit = false := by cases c <;> rfl
theorem iAddC_zd (x y : Int) : iAddC [.ref 0, .ref 0, .dat (.ptr (eZ y))] [eZ x] = ((SZ x ∧ SZ y), [.ref 0], [eZ (x + y)]) := ctM_at binE_inj (.zd x y)
theorem iMulC_dd (x y : Int) (c : BC) : iMulC [.ref 0, .dat (.ptr (eZ x)), .dat (.ptr (eZ y))] [eB c] = ((SZ x ∧ SZ y), [.ref 0], [eZ (x * y)]) := ctM_at binE_inj (.dd x y c)
inductive QuA where
  | dd (x y : Int) (c : BC)
def QuA.x : QuA → Int
  | dd x _ _ => x
def QuA.y : QuA → Int
  | dd _ y _ => y
def quE : QuA → List Ar × List D
  | .dd x y c => ([.ref 0, .dat (.ptr (eZ x)), .dat (.ptr (eZ y))], [eB c])
theorem quE_inj : ∀ (p q : QuA), quE p = quE q → p = q
  | .dd a b c, .dd a' b' c', h => by
    simp only [quE, Prod.mk.injEq, List.cons.injEq, and_true, true_and, Ar.dat.injEq, D.ptr.injEq] at h
    rw [eZ_inj h.1.1, eZ_inj h.1.2, eB_inj h.2]
noncomputable def quC := ctM quE (fun p => SZ p.x ∧ SZ p.y ∧ p.y ≠ 0) (fun p => ([.ref 0], [eZ (Int.tdiv p.x p.y)]))
theorem quC_at (x y : Int) (c : BC) : quC [.ref 0, .dat (.ptr (eZ x)), .dat (.ptr (eZ y))] [eB c] = ((SZ x ∧ SZ y ∧ y ≠ 0), [.ref 0], [eZ (Int.tdiv x y)]) := ctM_at quE_inj (.dd x y c)
noncomputable def qoTb : List (FuncId × Ct) := [(145, .mut [true, false, false, true] qrC)]
theorem qoTb_ok : TbOK N Try.prog (tbl qoTb) := tbl_cons (c := .mut [true, false, false, true] qrC) QuoRem_spec QuoRem_ok tbl_nil
@[simp] theorem qoTb1 : tbl qoTb 145 = some (.mut [true, false, false, true] qrC) := rfl
theorem Quo_spec : SpecM N Try.prog 135 quC := by
  refine rdM (mf := fun f => f == 145) qoTb_ok (fn := Try.f135) (by kernel_rfl) rfl (by kernel_rfl) ?_
  rintro ⟨x, y, c⟩ ⟨hx, hy, h0⟩
  have hx : SZ x := hx
  have hy : SZ y := hy
  have h0 : y ≠ 0 := h0
  refine ⟨by show 3 ≤ 18; decide, rfl, ?_⟩
  simp only [Try.f135]
  have c1 := qrC_at x y c .new
  simp only [hx, hy, h0, and_self, eB_new, ne_eq, not_false_eq_true] at c1
  simp [quE, QuA.x, QuA.y, List.idxOf_cons, c1]
theorem Quo_ok : callable Try.prog 135 = true := by kernel_rfl
theorem absIC_at (x : Int) (c : BC) : absIC [.ref 0, .dat (.ptr (eZ x))] [eB c] = (SZ x, [.ref 0], [eZ x.natAbs]) := ctM_at unE_inj ⟨x, c⟩
theorem SZ_abs {x : Int} (h : SZ x) : SZ (x.natAbs : Int) := by unfold SZ; rw [Int.natAbs_natCast]; exact h
end Go.Proofs.Ytpggfnggffedlaa.Ae

namespace Go.Proofs.Ytpggfnggffedlaa.Ae
open Go Go.RowKit Go.Proofs.Ytpggfnggffedlaa.Dig
variable {N : NR}
noncomputable def igC := ctM quE (fun p => SZ p.x ∧ SZ p.y) (fun p => ([.ref 0], [eZ (Int.gcd p.x p.y)]))
theorem igC_at (x y : Int) (c : BC) : igC [.ref 0, .dat (.ptr (eZ x)), .dat (.ptr (eZ y))] [eB c] = ((SZ x ∧ SZ y), [.ref 0], [eZ (Int.gcd x y)]) := ctM_at quE_inj (.dd x y c)
noncomputable def igTb : List (FuncId × Ct) := [(128, .mut [true, false] copyC), (145, .mut [true, false, false, true] qrC), (130, .data sgDC), (144, .mut [true, false] absIC)]
theorem igTb_ok : TbOK N Try.prog (tbl igTb) := tbl_cons (c := .mut [true, false] copyC) Set_spec Set_ok (tbl_cons (c := .mut [true, false, false, true] qrC) QuoRem_spec QuoRem_ok (tbl_cons (c := .data sgDC) SignD_spec Sign_ok (tbl_cons (c := .mut [true, false] absIC) Abs_spec Abs_ok tbl_nil)))
@[simp] theorem igTb1 : tbl igTb 128 = some (.mut [true, false] copyC) := rfl
@[simp] theorem igTb2 : tbl igTb 145 = some (.mut [true, false, false, true] qrC) := rfl
@[simp] theorem igTb3 : tbl igTb 130 = some (.data sgDC) := rfl
@[simp] theorem igTb4 : tbl igTb 144 = some (.mut [true, false] absIC) := rfl
def gcS (c : BC) (x y : Int) : St := ⟨[.obj 30 [] 0, .any, .any, .any, .any, .any, .any, .obj 7 [] 0, .obj 8 [] 0, .any, .any, .any, .any, .any, .any, .any, .any, .any, .any, .any, .any, .any, .any, .any, .any, .any, .any, .any, .any, .any], [none, none, none, none, none, none, none, some (.fbox (eZ x)), some (.fbox (eZ y)), none, none, none, none, none, none, none, none, none, none, none, none, none, none, none, none, none, none, none, none, none, some (.pbox (eB c))]⟩
set_option maxHeartbeats 4000000 in
theorem GCD_spec : SpecM N Try.prog 133 igC := by
  refine rdM (mf := fun f => f == 128 || f == 145 || f == 130 || f == 144) igTb_ok (fn := Try.f133) (by kernel_rfl) rfl (by kernel_rfl) ?_
  rintro ⟨a, b, c⟩ ⟨ha, hb⟩
  have ha : SZ a := ha
  have hb : SZ b := hb
  refine ⟨by show 3 ≤ 30; decide, rfl, ?_⟩
  simp only [quE, Try.f133, QuA.x, QuA.y]
  have c1 := absIC_at a .new
  have c2 := absIC_at b .new
  simp only [ha, hb, eB_new] at c1 c2
  generalize hg : Int.gcd a b = g
  simp [c1, c2]
  refine loop_go (fun n st => ∃ x y : Nat, SZ x ∧ SZ y ∧ Nat.gcd x y = g ∧ n = y ∧ st = gcS c x y) (s0 := gcS c a.natAbs b.natAbs) (n := b.natAbs) (Snd.trans (Snd.frz _ [10, 13]) (snd_obs (n := 31) [(7, 10, .fbox (eZ a.natAbs)), (8, 13, .fbox (eZ b.natAbs)), (30, 30, .pbox (eB c))] rfl (by simp [St.frz]) (by simp [gcS, St.frz]))) ⟨_, _, SZ_abs ha, SZ_abs hb, hg, rfl, rfl⟩ ?_
  rintro y st ⟨x, _, hx, hy, hxy, rfl, rfl⟩ KN hN
  rcases Nat.eq_zero_or_pos y with h0 | h0
  · subst h0
    rw [Nat.gcd_zero_right] at hxy
    subst hxy
    have d1 := sgDC_at ((0 : Nat) : Int)
    have d2 := copyC_at x c
    simp only [i64D, hx] at d1 d2
    simp at d1
    simp [gcS, d1, d2]
  · have h1 : ((y : Nat) : Int).sign = 1 := Int.sign_eq_one_of_pos (by omega)
    have d1 := sgDC_at y
    have d2 := qrC_at x y .new .new
    have hy0 : ((y : Nat) : Int) ≠ 0 := by omega
    simp only [i64D, hx, hy, hy0, h1, and_self, eB_new, ne_eq, not_false_eq_true, tdiv_nat, tmod_nat] at d1 d2
    obtain ⟨r, hr⟩ : ∃ r, r = x % y := ⟨_, rfl⟩
    obtain ⟨q, hq⟩ : ∃ q, q = x / y := ⟨_, rfl⟩
    have hry : r < y := by rw [hr]; exact Nat.mod_lt _ h0
    rw [← hr, ← hq] at d2
    simp [gcS, d1, d2, List.idxOf_cons]
    refine hN _ (nx (m := r) (s'' := gcS c y r) (Snd.trans (Snd.frz _ [19]) (snd_obs (n := 31) [(7, 8, .fbox (eZ y)), (8, 19, .fbox (eZ r)), (30, 30, .pbox (eB c))] rfl (by simp [St.frz]) (by simp [gcS, St.frz]))) ⟨y, r, hy, SZ_le (by simp; omega) hy, ?_, rfl, rfl⟩ hry)
    rw [hr, ← hxy, Nat.gcd_comm y, ← Nat.gcd_rec, Nat.gcd_comm]
theorem GCD_ok : callable Try.prog 133 = true := by kernel_rfl
end Go.Proofs.Ytpggfnggffedlaa.Ae

namespace Go.Proofs.Ytpggfnggffedlaa.Ae
open Go Go.RowKit Go.Proofs.Ytpggfnggffedlaa.Dig
variable {N : NR}
end Go.Proofs.Ytpggfnggffedlaa.Ae

namespace Go.Proofs.Ytpggfnggffedlaa.Dig
def ln (n : Nat) : Nat := (mag n).length
theorem ln_mono {a b : Nat} (h : a ≤ b) : ln a ≤ ln b := mag_len_le h
theorem ln_iff {n k : Nat} : ln n ≤ k ↔ n < B ^ k := mag_lt
theorem ln_mul (a b : Nat) : ln (a * b) ≤ ln a + ln b := by
  have h1 := ln_iff.1 (Nat.le_refl (ln a))
  have h2 := ln_iff.1 (Nat.le_refl (ln b))
  refine ln_iff.2 ?_
  rw [Nat.pow_add]
  exact Nat.mul_lt_mul'' h1 h2
theorem ln_add (a b : Nat) : ln (a + b) ≤ max (ln a) (ln b) + 1 := by
  refine ln_iff.2 ?_
  have h1 := ln_iff.1 (Nat.le_max_left (ln a) (ln b))
  have h2 := ln_iff.1 (Nat.le_max_right (ln a) (ln b))
  rw [Nat.pow_succ]
  have h3 : B ^ max (ln a) (ln b) * 2 ≤ B ^ max (ln a) (ln b) * B := Nat.mul_le_mul_left _ (by decide)
  generalize B ^ max (ln a) (ln b) * B = z1 at *
  generalize B ^ max (ln a) (ln b) = z at *
  omega
theorem ln_pos {n : Nat} (h : 0 < n) : 1 ≤ ln n := by
  rcases Nat.eq_zero_or_pos (ln n) with h0 | h0
  · unfold ln at h0; rw [mag_len_zero] at h0; omega
  · exact h0
theorem ln_i64 {n : Nat} (h : n < 18446744073709551616) : ln n ≤ 2 := ln_iff.2 (by simp only [B]; omega)
theorem natAbs_ediv_le (n g : Int) : (n / g).natAbs ≤ n.natAbs := by
  by_cases hg : g = 0
  · subst hg; simp
  · exact Int.natAbs_ediv_le_natAbs n g
theorem num_le (n d : Int) : (Rat.divInt n d).num.natAbs ≤ n.natAbs := by
  rw [Rat.num_divInt]
  refine Nat.le_trans (natAbs_ediv_le _ _) ?_
  rw [Int.natAbs_mul]
  have : d.sign.natAbs ≤ 1 := by
    rcases Int.lt_trichotomy d 0 with h | h | h
    · rw [Int.sign_eq_neg_one_of_neg h]; decide
    · subst h; decide
    · rw [Int.sign_eq_one_of_pos h]; decide
  calc d.sign.natAbs * n.natAbs ≤ 1 * n.natAbs := Nat.mul_le_mul_right _ this
    _ = n.natAbs := Nat.one_mul _
theorem den_le {n d : Int} (h : d ≠ 0) : (Rat.divInt n d).den ≤ d.natAbs := by
  rw [Rat.den_divInt, if_neg h]
  exact Nat.div_le_self _ _
def qsz (q : Rat) : Nat := max (ln q.num.natAbs) (ln q.den)
theorem qsz_num (q : Rat) : ln q.num.natAbs ≤ qsz q := Nat.le_max_left _ _
theorem qsz_den (q : Rat) : ln q.den ≤ qsz q := Nat.le_max_right _ _
theorem qsz_divInt {n d : Int} (h : d ≠ 0) : qsz (Rat.divInt n d) ≤ max (ln n.natAbs) (ln d.natAbs) :=
  Nat.max_le.2 ⟨Nat.le_trans (ln_mono (num_le n d)) (Nat.le_max_left _ _), Nat.le_trans (ln_mono (den_le h)) (Nat.le_max_right _ _)⟩
theorem dz (q : Rat) : (q.den : Int) ≠ 0 := by have := q.den_pos; omega
theorem add_divInt (a b : Rat) : a + b = Rat.divInt (a.num * b.den + b.num * a.den) (a.den * b.den) := by
  have := Rat.divInt_add_divInt a.num b.num (dz a) (dz b)
  rw [Rat.num_divInt_den, Rat.num_divInt_den] at this
  exact this
theorem neg_divInt (a : Rat) : -a = Rat.divInt (-a.num) a.den := by
  have h : Rat.divInt (-a).num (-a).den = -a := Rat.num_divInt_den _
  rw [Rat.neg_num, Rat.neg_den] at h
  exact h.symm
theorem dd_ne (a b : Rat) : ((a.den : Int) * b.den) ≠ 0 := Int.mul_ne_zero (dz a) (dz b)
theorem ln_na_mul (a b : Int) : ln (a * b).natAbs ≤ ln a.natAbs + ln b.natAbs := by rw [Int.natAbs_mul]; exact ln_mul _ _
theorem ln_na_add (a b : Int) : ln (a + b).natAbs ≤ max (ln a.natAbs) (ln b.natAbs) + 1 := Nat.le_trans (ln_mono (Int.natAbs_add_le a b)) (ln_add _ _)
theorem ln_na_nat (n : Nat) : ln ((n : Int)).natAbs = ln n := by rw [Int.natAbs_natCast]
theorem add_parts (a b : Rat) : ln (a.num * b.den).natAbs ≤ qsz a + qsz b ∧ ln (b.num * a.den).natAbs ≤ qsz a + qsz b ∧ ln (a.num * b.den + b.num * a.den).natAbs ≤ qsz a + qsz b + 1 ∧ ln ((a.den : Int) * b.den).natAbs ≤ qsz a + qsz b := by
  have h1 := ln_na_mul a.num b.den
  have h2 := ln_na_mul b.num a.den
  have h3 := ln_na_add (a.num * b.den) (b.num * a.den)
  have h4 := ln_na_mul (a.den : Int) b.den
  rw [ln_na_nat] at h1 h2 h4
  rw [ln_na_nat] at h4
  have p1 := qsz_num a
  have p2 := qsz_num b
  have p3 := qsz_den a
  have p4 := qsz_den b
  omega
theorem qsz_add (a b : Rat) : qsz (a + b) ≤ qsz a + qsz b + 1 := by
  obtain ⟨h1, h2, h3, h4⟩ := add_parts a b
  have := qsz_divInt (n := a.num * b.den + b.num * a.den) (dd_ne a b)
  rw [← add_divInt] at this
  omega
theorem low_pos {a b : Int} (h : 0 < b) : Int.tdiv a (Int.gcd a b) = (Rat.divInt a b).num ∧ Int.tdiv b (Int.gcd a b) = (Rat.divInt a b).den := by
  rw [Rat.num_divInt, Rat.den_divInt, if_neg (by omega), Int.sign_eq_one_of_pos h, Int.one_mul, Int.gcd_comm b a]
  have h1 : (Int.gcd a b : Int) ∣ a := Int.gcd_dvd_left ..
  have h2 : (Int.gcd a b : Int) ∣ b := Int.gcd_dvd_right ..
  refine ⟨Int.tdiv_eq_ediv_of_dvd h1, ?_⟩
  rw [Int.tdiv_eq_ediv_of_dvd h2]
  obtain ⟨m, rfl⟩ : ∃ m : Nat, b = m := ⟨b.natAbs, by omega⟩
  rw [Int.natAbs_natCast, Int.natCast_ediv]
theorem low_neg {a b : Int} (h : b < 0) : Int.tdiv a (-(Int.gcd a b : Int)) = (Rat.divInt a b).num ∧ Int.tdiv b (-(Int.gcd a b : Int)) = (Rat.divInt a b).den := by
  rw [Rat.num_divInt, Rat.den_divInt, if_neg (by omega), Int.sign_eq_neg_one_of_neg h, Int.gcd_comm b a, Int.tdiv_neg, Int.tdiv_neg]
  have h1 : (Int.gcd a b : Int) ∣ a := Int.gcd_dvd_left ..
  have h2 : (Int.gcd a b : Int) ∣ b := Int.gcd_dvd_right ..
  rw [Int.tdiv_eq_ediv_of_dvd h1, Int.tdiv_eq_ediv_of_dvd h2]
  constructor
  · rw [Int.neg_one_mul, Int.neg_ediv_of_dvd h1]
  · obtain ⟨m, rfl⟩ : ∃ m : Nat, b = -(m : Int) := ⟨b.natAbs, by omega⟩
    rw [Int.natAbs_neg, Int.natAbs_natCast, Int.natCast_ediv]
    have h3 : (Int.gcd a (-(m : Int)) : Int) ∣ (m : Int) := by rw [Int.gcd_neg]; exact Int.gcd_dvd_right ..
    rw [Int.neg_ediv_of_dvd h3, Int.neg_neg]
end Go.Proofs.Ytpggfnggffedlaa.Dig

namespace Go.Proofs.Ytpggfnggffedlaa.Ae
open Go Go.RowKit Go.Proofs.Ytpggfnggffedlaa.Dig
variable {N : NR}
def eBR (q : Rat) : D := .agg [eZ q.num, eZ q.den]
def eBN : D := .agg [eB .new, eB .new]
@[simp] theorem eBR_size (q : Rat) : (eBR q).size = 4 := rfl
@[simp] theorem eBR_agg (q : Rat) : (eBR q).isAgg = true := rfl
@[simp] theorem eBR_lit (q : Rat) : (eBR q).isLit = false := rfl
theorem eBR_inj {a b : Rat} (h : eBR a = eBR b) : a = b := by
  simp only [eBR, D.agg.injEq, List.cons.injEq, and_true] at h
  have h2 := eZ_inj h.2
  exact Rat.ext (eZ_inj h.1) (by omega)
def MX : Nat := 549755813888
theorem SZ_ln {a : Int} : SZ a ↔ ln a.natAbs < 1099511627776 := Iff.rfl
structure ZZ where
  a : Int
  b : Int
def sfE (p : ZZ) : List Ar × List D := ([.ref 0, .dat (.ptr (eZ p.a)), .dat (.ptr (eZ p.b))], [eBN])
theorem sfE_inj (p q : ZZ) (h : sfE p = sfE q) : p = q := by
  obtain ⟨a, b⟩ := p; obtain ⟨a', b'⟩ := q
  simp only [sfE, Prod.mk.injEq, List.cons.injEq, and_true, true_and, Ar.dat.injEq, D.ptr.injEq] at h
  rw [eZ_inj h.1, eZ_inj h.2]
noncomputable def sfC := ctM sfE (fun p => SZ p.a ∧ SZ p.b ∧ p.b ≠ 0) (fun p => ([.ref 0], [eBR (Rat.divInt p.a p.b)]))
theorem sfC_at (a b : Int) : sfC [.ref 0, .dat (.ptr (eZ a)), .dat (.ptr (eZ b))] [eBN] = ((SZ a ∧ SZ b ∧ b ≠ 0), [.ref 0], [eBR (Rat.divInt a b)]) := ctM_at sfE_inj ⟨a, b⟩
noncomputable def sfTb : List (FuncId × Ct) := [(133, .mut [true, false, false] igC), (130, .data sgDC), (134, .mut [true, false] ngC), (135, .mut [true, false, false] quC)]
theorem sfTb_ok : TbOK N Try.prog (tbl sfTb) := tbl_cons (c := .mut [true, false, false] igC) GCD_spec GCD_ok (tbl_cons (c := .data sgDC) SignD_spec Sign_ok (tbl_cons (c := .mut [true, false] ngC) Neg_spec Neg_ok (tbl_cons (c := .mut [true, false, false] quC) Quo_spec Quo_ok tbl_nil)))
@[simp] theorem sfTb1 : tbl sfTb 133 = some (.mut [true, false, false] igC) := rfl
@[simp] theorem sfTb2 : tbl sfTb 130 = some (.data sgDC) := rfl
@[simp] theorem sfTb3 : tbl sfTb 134 = some (.mut [true, false] ngC) := rfl
@[simp] theorem sfTb4 : tbl sfTb 135 = some (.mut [true, false, false] quC) := rfl
theorem SZ_gcd {a b : Int} (hb : SZ b) (h0 : b ≠ 0) : SZ (Int.gcd a b) := by
  refine SZ_le ?_ hb
  rw [Int.natAbs_natCast]
  exact Nat.le_of_dvd (by omega) (Nat.gcd_dvd_right _ _)
set_option maxHeartbeats 4000000 in
theorem SetFrac_spec : SpecM N Try.prog 111 sfC := by
  refine rdM (mf := fun f => f == 133 || f == 134 || f == 135) sfTb_ok (fn := Try.f111) (by kernel_rfl) rfl (by kernel_rfl) ?_
  rintro ⟨a, b⟩ ⟨ha, hb, h0⟩
  have ha : SZ a := ha
  have hb : SZ b := hb
  have h0 : b ≠ 0 := h0
  refine ⟨by show 3 ≤ 41; decide, rfl, ?_⟩
  simp only [sfE, Try.f111, eBN, eBR]
  have hg := SZ_gcd (a := a) hb h0
  have hg0 : Int.gcd a b ≠ 0 := fun h => h0 (Int.gcd_eq_zero_iff.1 h).2
  have c1 := igC_at a b .new
  have c2 := sgDC_at b
  have c3 := ngC_r (Int.gcd a b)
  simp only [ha, hb, hg, and_self, eB_new, i64D] at c1 c2 c3
  by_cases hn : b < 0
  · obtain ⟨e1, e2⟩ := low_neg (a := a) hn
    have c4 := quC_at a (-(Int.gcd a b : Int)) .new
    have c5 := quC_at b (-(Int.gcd a b : Int)) .new
    have hx : -(Int.gcd a b : Int) ≠ 0 := by omega
    rw [Int.sign_eq_neg_one_of_neg hn] at c2
    simp only [ha, hb, SZ_neg, hg, hx, ne_eq, not_false_eq_true, and_self, eB_new, e1, e2] at c4 c5
    generalize (Int.gcd a b : Int) = g at *
    simp [c1, c2, c3, c4, c5, List.idxOf_cons, eB_new]
  · obtain ⟨e1, e2⟩ := low_pos (a := a) (b := b) (by omega)
    have c4 := quC_at a (Int.gcd a b : Int) .new
    have c5 := quC_at b (Int.gcd a b : Int) .new
    have hx : (Int.gcd a b : Int) ≠ 0 := by omega
    rw [Int.sign_eq_one_of_pos (by omega)] at c2
    simp only [ha, hb, hg, hx, ne_eq, not_false_eq_true, and_self, eB_new, e1, e2] at c4 c5
    generalize (Int.gcd a b : Int) = g at *
    simp [c1, c2, c3, c4, c5, List.idxOf_cons, eB_new]
theorem SetFrac_ok : callable Try.prog 111 = true := by kernel_rfl
structure Q1 where
  a : Rat
def pbE (p : Q1) : List D := [.ptr (eBR p.a)]
theorem pbE_inj (p q : Q1) (h : pbE p = pbE q) : p = q := by
  obtain ⟨a⟩ := p; obtain ⟨b⟩ := q
  simp only [pbE, List.cons.injEq, and_true, D.ptr.injEq] at h
  rw [eBR_inj h]
noncomputable def numC := ctD pbE (fun p => qsz p.a < 1099511627776) (fun p => [.ptr (eZ p.a.num)])
theorem numC_at (a : Rat) : numC [.ptr (eBR a)] = (qsz a < 1099511627776, [.ptr (eZ a.num)]) := ctD_at pbE_inj ⟨a⟩
noncomputable def denC := ctD pbE (fun p => qsz p.a < 1099511627776) (fun p => [.ptr (eZ p.a.den)])
theorem denC_at (a : Rat) : denC [.ptr (eBR a)] = (qsz a < 1099511627776, [.ptr (eZ a.den)]) := ctD_at pbE_inj ⟨a⟩
theorem SZ_num {q : Rat} (h : qsz q < 1099511627776) : SZ q.num := Nat.lt_of_le_of_lt (qsz_num q) h
theorem SZ_den {q : Rat} (h : qsz q < 1099511627776) : SZ (q.den : Int) := by
  have := qsz_den q
  rw [SZ_ln, Int.natAbs_natCast]
  omega
noncomputable def ndTb : List (FuncId × Ct) := [(128, .mut [true, false] copyC), (130, .data sgDC), (113, .data newC)]
theorem ndTb_ok : TbOK N Try.prog (tbl ndTb) := tbl_cons (c := .mut [true, false] copyC) Set_spec Set_ok (tbl_cons (c := .data sgDC) SignD_spec Sign_ok (tbl_cons (c := .data newC) newBigInt_spec newBigInt_ok tbl_nil))
@[simp] theorem ndTb1 : tbl ndTb 128 = some (.mut [true, false] copyC) := rfl
@[simp] theorem ndTb2 : tbl ndTb 130 = some (.data sgDC) := rfl
@[simp] theorem ndTb3 : tbl ndTb 113 = some (.data newC) := rfl
theorem Num_spec : SpecD N Try.prog 106 numC := by
  refine rdD (mf := fun f => f == 128) ndTb_ok (fn := Try.f106) (by kernel_rfl) rfl (by kernel_rfl) ?_
  rintro ⟨a⟩ ha
  have ha : qsz a < 1099511627776 := ha
  refine ⟨by show 1 ≤ 8; decide, ?_⟩
  simp only [pbE, Try.f106, eBR]
  have c1 := copyC_n a.num
  simp only [SZ_num ha] at c1
  simp [c1]
theorem Num_ok : callable Try.prog 106 = true := by kernel_rfl
theorem Denom_spec : SpecD N Try.prog 108 denC := by
  refine rdD (mf := fun f => f == 128) ndTb_ok (fn := Try.f108) (by kernel_rfl) rfl (by kernel_rfl) ?_
  rintro ⟨a⟩ ha
  have ha : qsz a < 1099511627776 := ha
  refine ⟨by show 1 ≤ 14; decide, ?_⟩
  simp only [pbE, Try.f108, eBR]
  have c1 := copyC_n a.den
  have c2 := sgDC_at a.den
  have hd := a.den_pos
  rw [Int.sign_eq_one_of_pos (by omega)] at c2
  simp only [SZ_den ha, i64D] at c1 c2
  simp [c1, c2]
theorem Denom_ok : callable Try.prog 108 = true := by kernel_rfl
end Go.Proofs.Ytpggfnggffedlaa.Ae

namespace Go.Proofs.Ytpggfnggffedlaa.Ae
open Go Go.RowKit Go.Proofs.Ytpggfnggffedlaa.Dig
variable {N : NR}
def q1E (p : Q1) : List Ar × List D := ([.ref 0, .dat (.ptr (eBR p.a))], [eBN])
theorem q1E_inj (p q : Q1) (h : q1E p = q1E q) : p = q := by
  obtain ⟨a⟩ := p; obtain ⟨b⟩ := q
  simp only [q1E, Prod.mk.injEq, List.cons.injEq, and_true, true_and, Ar.dat.injEq, D.ptr.injEq] at h
  rw [eBR_inj h]
structure Q2 where
  a : Rat
  b : Rat
def q2E (p : Q2) : List Ar × List D := ([.ref 0, .dat (.ptr (eBR p.a)), .dat (.ptr (eBR p.b))], [eBN])
theorem q2E_inj (p q : Q2) (h : q2E p = q2E q) : p = q := by
  obtain ⟨a, b⟩ := p; obtain ⟨c, d⟩ := q
  simp only [q2E, Prod.mk.injEq, List.cons.injEq, and_true, true_and, Ar.dat.injEq, D.ptr.injEq] at h
  rw [eBR_inj h.1, eBR_inj h.2]
noncomputable def brTb : List (FuncId × Ct) := [(111, .mut [true, false, false] sfC), (106, .data numC), (108, .data denC), (134, .mut [true, false] ngC), (110, .mut [true, false, false] iMulC), (112, .mut [true, false, false] iAddC), (113, .data newC)]
theorem brTb_ok : TbOK N Try.prog (tbl brTb) := tbl_cons (c := .mut [true, false, false] sfC) SetFrac_spec SetFrac_ok (tbl_cons (c := .data numC) Num_spec Num_ok (tbl_cons (c := .data denC) Denom_spec Denom_ok (tbl_cons (c := .mut [true, false] ngC) Neg_spec Neg_ok (tbl_cons (c := .mut [true, false, false] iMulC) Mul_spec Mul_ok (tbl_cons (c := .mut [true, false, false] iAddC) Add_spec Add_ok (tbl_cons (c := .data newC) newBigInt_spec newBigInt_ok tbl_nil))))))
@[simp] theorem brTb1 : tbl brTb 111 = some (.mut [true, false, false] sfC) := rfl
@[simp] theorem brTb2 : tbl brTb 106 = some (.data numC) := rfl
@[simp] theorem brTb3 : tbl brTb 108 = some (.data denC) := rfl
@[simp] theorem brTb4 : tbl brTb 134 = some (.mut [true, false] ngC) := rfl
@[simp] theorem brTb5 : tbl brTb 110 = some (.mut [true, false, false] iMulC) := rfl
@[simp] theorem brTb6 : tbl brTb 112 = some (.mut [true, false, false] iAddC) := rfl
@[simp] theorem brTb7 : tbl brTb 113 = some (.data newC) := rfl
def brMf : FuncId → Bool := fun f => f == 111 || f == 134 || f == 110 || f == 112 || f == 99999999
attribute [simp] brMf
@[simp] theorem eBN_size : eBN.size = 4 := rfl
@[simp] theorem eBN_agg : eBN.isAgg = true := rfl
theorem eBN_eq : eBN = .agg [.agg [.lit (.bool false), .lit (.slice none 0 0)], .agg [.lit (.bool false), .lit (.slice none 0 0)]] := rfl
theorem sfC_n (a b : Int) : sfC [.ref 0, .dat (.ptr (eZ a)), .dat (.ptr (eZ b))] [.agg [.agg [.lit (.bool false), .lit (.slice none 0 0)], .agg [.lit (.bool false), .lit (.slice none 0 0)]]] = ((SZ a ∧ SZ b ∧ b ≠ 0), [.ref 0], [eBR (Rat.divInt a b)]) := sfC_at a b
theorem iMulC_n (x y : Int) : iMulC [.ref 0, .dat (.ptr (eZ x)), .dat (.ptr (eZ y))] [.agg [.lit (.bool false), .lit (.slice none 0 0)]] = ((SZ x ∧ SZ y), [.ref 0], [eZ (x * y)]) := iMulC_dd x y .new
noncomputable def bNegC := ctM q1E (fun p => qsz p.a < MX) (fun p => ([.ref 0], [eBR (-p.a)]))
theorem bNegC_at (a : Rat) : bNegC [.ref 0, .dat (.ptr (eBR a))] [eBN] = (qsz a < MX, [.ref 0], [eBR (-a)]) := ctM_at q1E_inj ⟨a⟩
theorem RNeg_spec : SpecM N Try.prog 114 bNegC := by
  refine rdM (mf := brMf) brTb_ok (fn := Try.f114) (by kernel_rfl) rfl (by kernel_rfl) ?_
  rintro ⟨a⟩ ha
  have ha : qsz a < MX := ha
  unfold MX at ha
  have ha' : qsz a < 1099511627776 := by omega
  refine ⟨by show 2 ≤ 14; decide, rfl, ?_⟩
  have c1 := ngC_n a.num
  have c2 := denC_at a
  have c3 := sfC_at (-a.num) a.den
  rw [← neg_divInt] at c3
  simp only [q1E, Try.f114]
  have hd := dz a
  simp only [SZ_num ha', SZ_den ha', SZ_neg, ha', hd, ne_eq, not_false_eq_true, and_self] at c1 c2 c3
  generalize eBR (-a) = r at *
  simp only [eBR] at c2 ⊢
  simp [c1, c2, c3]
theorem RNeg_ok : callable Try.prog 114 = true := by kernel_rfl
noncomputable def bAddC := ctM q2E (fun p => qsz p.a + qsz p.b < MX) (fun p => ([.ref 0], [eBR (p.a + p.b)]))
theorem bAddC_at (a b : Rat) : bAddC [.ref 0, .dat (.ptr (eBR a)), .dat (.ptr (eBR b))] [eBN] = (qsz a + qsz b < MX, [.ref 0], [eBR (a + b)]) := ctM_at q2E_inj ⟨a, b⟩
theorem RAdd_spec : SpecM N Try.prog 69 bAddC := by
  refine rdM (mf := brMf) brTb_ok (fn := Try.f69) (by kernel_rfl) rfl (by kernel_rfl) ?_
  rintro ⟨a, b⟩ ha
  have ha : qsz a + qsz b < MX := ha
  unfold MX at ha
  have ha' : qsz a < 1099511627776 := by omega
  have hb' : qsz b < 1099511627776 := by omega
  obtain ⟨m1, m2, m3, m4⟩ := add_parts a b
  have s1 : SZ (a.num * b.den) := by rw [SZ_ln]; omega
  have s2 : SZ (b.num * a.den) := by rw [SZ_ln]; omega
  have s3 : SZ (a.num * b.den + b.num * a.den) := by rw [SZ_ln]; omega
  have s4 : SZ ((a.den : Int) * b.den) := by rw [SZ_ln]; omega
  refine ⟨by show 3 ≤ 35; decide, rfl, ?_⟩
  have c1 := iMulC_n a.num b.den
  have c2 := denC_at a
  have c3 := denC_at b
  have c4 := iMulC_n b.num a.den
  have c6 := iAddC_zd (a.num * b.den) (b.num * a.den)
  have c7 := iMulC_n a.den b.den
  have c5 := sfC_at (a.num * b.den + b.num * a.den) ((a.den : Int) * b.den)
  rw [← add_divInt] at c5
  simp only [q2E, Try.f69]
  have hd := dd_ne a b
  simp only [SZ_num ha', SZ_num hb', SZ_den ha', SZ_den hb', s1, s2, s3, s4, ha', hb', hd, ne_eq, not_false_eq_true, and_self] at c1 c2 c3 c4 c5 c6 c7
  generalize eBR (a + b) = r at *
  generalize a.num * b.den + b.num * a.den = z at *
  generalize a.num * b.den = x at *
  generalize b.num * a.den = x2 at *
  generalize (a.den : Int) * b.den = y at *
  simp only [eBR] at c2 c3 ⊢
  simp [c1, c2, c3, c4, c5, c6, c7]
theorem RAdd_ok : callable Try.prog 69 = true := by kernel_rfl
noncomputable def nbrC := ctD iiE (fun p => I64 p.a ∧ I64 p.b ∧ p.b ≠ 0) (fun p => [.ptr (eBR (Rat.divInt p.a p.b))])
theorem nbrC_at (a b : Int) : nbrC [i64D a, i64D b] = ((I64 a ∧ I64 b ∧ b ≠ 0), [.ptr (eBR (Rat.divInt a b))]) := ctD_at iiE_inj ⟨a, b⟩
theorem newBigRat_spec : SpecD N Try.prog 70 nbrC := by
  refine rdD (mf := brMf) brTb_ok (fn := Try.f70) (by kernel_rfl) rfl (by kernel_rfl) ?_
  rintro ⟨a, b⟩ ⟨ha, hb, h0⟩
  have ha : I64 a := ha
  have hb : I64 b := hb
  have h0 : b ≠ 0 := h0
  refine ⟨by show 2 ≤ 11; decide, ?_⟩
  have c1 := newC_at a
  have c2 := newC_at b
  have c3 := sfC_n a b
  simp only [ha, hb, h0, SZ_I64 ha, SZ_I64 hb, i64D, and_self, ne_eq, not_false_eq_true] at c1 c2 c3
  simp only [iiE, i64D, Try.f70]
  simp [c1, c2, c3]
theorem newBigRat_ok : callable Try.prog 70 = true := by kernel_rfl
end Go.Proofs.Ytpggfnggffedlaa.Ae

namespace Go.Proofs.Ytpggfnggffedlaa.Ae
open Go Go.RowKit Go.Proofs.Ytpggfnggffedlaa.Dig
def SR.val (r : SR) : Rat := Rat.divInt r.num r.den
def WV (r : SR) : Prop := WR r ∧ ∀ p q, r = .big p q → Int.gcd p q = 1
theorem low_div {n d : Int} (h : 0 < d) : n / (Int.gcd n d : Int) = (Rat.divInt n d).num ∧ d / (Int.gcd n d : Int) = (Rat.divInt n d).den := by
  obtain ⟨e1, e2⟩ := low_pos (a := n) h
  have h1 : (Int.gcd n d : Int) ∣ n := Int.gcd_dvd_left ..
  have h2 : (Int.gcd n d : Int) ∣ d := Int.gcd_dvd_right ..
  rw [Int.tdiv_eq_ediv_of_dvd h1] at e1
  rw [Int.tdiv_eq_ediv_of_dvd h2] at e2
  exact ⟨e1, e2⟩
theorem gcd_red (q : Rat) : Int.gcd q.num q.den = 1 := q.reduced
theorem packR_ok {p q : Int} (h0 : 0 < q) (hp : SZ p) (hq : SZ q) (hg : Int.gcd p q = 1) : WV (packR p q) ∧ (packR p q).val = Rat.divInt p q := by
  unfold packR
  split
  · rename_i h
    exact ⟨⟨⟨by omega, h0, by omega⟩, fun _ _ e => by cases e⟩, rfl⟩
  · exact ⟨⟨⟨hp, hq, h0⟩, fun _ _ e => by cases e; exact hg⟩, rfl⟩
theorem packR_low {n d : Int} (h : 0 < d) (hn : SZ n) (hd : SZ d) : WV (packR (n / (Int.gcd n d : Int)) (d / (Int.gcd n d : Int))) ∧ (packR (n / (Int.gcd n d : Int)) (d / (Int.gcd n d : Int))).val = Rat.divInt n d := by
  obtain ⟨e1, e2⟩ := low_div (n := n) h
  rw [e1, e2]
  have h1 := packR_ok (p := (Rat.divInt n d).num) (q := (Rat.divInt n d).den) (by have := (Rat.divInt n d).den_pos; omega) (SZ_le (num_le n d) hn) (SZ_le (by rw [Int.natAbs_natCast]; exact den_le (by omega)) hd) (gcd_red _)
  rw [Rat.num_divInt_den] at h1
  exact h1
theorem bigR_ok {n d : Int} (h0 : d ≠ 0) (hn : SZ n) (hd : SZ d) : WV (bigR n d) ∧ (bigR n d).val = Rat.divInt n d := by
  unfold bigR
  split
  · rename_i h
    subst h
    refine ⟨⟨⟨by decide, by decide, by decide⟩, fun _ _ e => by cases e⟩, ?_⟩
    show Rat.divInt 0 1 = _
    rw [Rat.zero_divInt, Rat.zero_divInt]
  · split
    · rename_i h
      have e : Int.gcd n d = Int.gcd (-n) (-d) := by rw [Int.neg_gcd, Int.gcd_neg]
      rw [e]
      have := packR_low (n := -n) (d := -d) (by omega) (SZ_neg.2 hn) (SZ_neg.2 hd)
      rw [Rat.neg_divInt_neg] at this
      exact this
    · exact packR_low (by omega) hn hd
theorem SZ_of {a : Int} {k : Nat} (h : ln a.natAbs ≤ k) (hk : k < 1099511627776) : SZ a := by rw [SZ_ln]; omega
def oq (q : Rat) : Int × Int × Bool := if q.num.natAbs ≤ 1000000000000000000 ∧ q.den ≤ 1000000000000000000 then (q.num, q.den, true) else (0, 0, false)
theorem qOf_val {r : SR} (h : WV r) : qOfR r = oq r.val := by
  have small : ∀ n d : Int, r.num = n → r.den = d → n.natAbs < 2147483648 → 0 < d → d < 2147483648 → (n / (Int.gcd n d : Int), d / (Int.gcd n d : Int), true) = oq r.val := by
    intro n d e1 e2 x1 x2 x3
    obtain ⟨k1, k2⟩ := low_div (n := n) x2
    have v : r.val = Rat.divInt n d := by unfold SR.val; rw [e1, e2]
    rw [v, k1, k2]
    unfold oq
    have n1 := num_le n d
    have n2 := den_le (n := n) (d := d) (by omega)
    rw [if_pos ⟨by omega, by omega⟩]
  cases r with
  | small n d =>
    obtain ⟨x1, x2, x3⟩ := h.1
    exact small n d rfl rfl x1 x2 x3
  | lit n d =>
    obtain ⟨x1, x2, x3⟩ := h.1
    exact small n d rfl rfl x1 x2 x3
  | big p q =>
    obtain ⟨⟨x1, x2, x3⟩, hg⟩ := h
    have hg := hg p q rfl
    obtain ⟨e1, e2⟩ := low_div (n := p) x3
    rw [hg] at e1 e2
    simp at e1 e2
    have v1 : (SR.big p q).val = Rat.divInt p q := rfl
    rw [v1]
    unfold qOfR oq
    simp only
    rw [← e1, ← e2]
    have : (q.natAbs ≤ 1000000000000000000) ↔ (Rat.divInt p q).den ≤ 1000000000000000000 := by omega
    simp only [this]
end Go.Proofs.Ytpggfnggffedlaa.Ae

namespace Go.Proofs.Ytpggfnggffedlaa.Ae
open Go Go.RowKit Go.Proofs.Ytpggfnggffedlaa.Dig
mutual
def D.pl : D → Bool
  | .lit _ => true
  | .num _ _ => false
  | .agg ds => D.pls ds
  | .sl _ xs => D.pls xs
  | .ptr d => D.pl d
def D.pls : List D → Bool
  | [] => true
  | d :: ds => D.pl d && D.pls ds
end
theorem pls_at : ∀ (ds : List D) (i : Nat) (d : D), D.pls ds = true → ds[i]? = some d → d.pl = true
  | [], i, d, _, h => by simp at h
  | x :: ds, 0, d, hp, h => by
    simp at h
    subst h
    simp only [D.pls, Bool.and_eq_true] at hp
    exact hp.1
  | x :: ds, i + 1, d, hp, h => by
    simp only [D.pls, Bool.and_eq_true] at hp
    exact pls_at ds i d hp.2 (by simpa using h)
theorem Rep.plain {N N' : NR} {F : Nat → Prop} {w : World} {d : D} {cs : List Value} (h : Rep N F w d cs) (hp : d.pl = true) : Rep N' F w d cs := by
  induction h with
  | lit h => exact .lit h
  | num h => simp [D.pl] at hp
  | agg hl h ih =>
    simp only [D.pl] at hp
    exact .agg hl (fun i d cs h1 h2 => ih i d cs h1 h2 (pls_at _ i d hp h1))
  | sl A c es hc hm ha h ih =>
    simp only [D.pl] at hp
    exact .sl A c es hc hm ha (fun i d h1 => ih i d h1 (pls_at _ i d hp h1))
  | ptr b off es hb hc h ih =>
    simp only [D.pl] at hp
    exact .ptr b off es hb hc (ih hp)
def NN : NR := ⟨fun _ _ _ _ _ => False, fun h => h.elim, fun h => h.elim, fun _ h => h.elim, fun _ _ => True, fun _ _ => trivial⟩
def okW (F : Nat → Prop) (w : World) : Prop := True
theorem okW_mono {F F' : Nat → Prop} {w w' : World} (hF : ∀ b, F b → F' b ∧ w'.heap[b]? = w.heap[b]?) (h : okW F w) : okW F' w' := trivial
def NF : NR where
  ok := okW
  okm := okW_mono
  R k F w q cs := k = 1 ∧ ∃ r, WV r ∧ r.val = q ∧ Rep NN F w (eR r) cs
  len := by
    rintro k F w q cs ⟨rfl, r, _, _, h⟩
    rw [h.len, eR_size]; rfl
  one := by
    rintro k F w q cs ⟨rfl, r, _, _, h⟩
    exact h.one
  mono := by
    rintro k F F' w w' q cs hF ⟨rfl, r, h1, h2, h⟩
    exact ⟨rfl, r, h1, h2, h.mono hF⟩
theorem pls_dg : ∀ l : List Nat, D.pls (l.map dg) = true
  | [] => rfl
  | x :: l => by simp only [List.map_cons, D.pls, pls_dg l, dg, D.pl, Bool.and_self]
theorem pl_eZ (z : Int) : (eZ z).pl = true := by
  simp only [eZ, eM, eW, D.pl, D.pls, pls_dg, Bool.and_self]
theorem pl_eR (r : SR) : (eR r).pl = true := by
  cases r <;> simp [eR, D.pl, D.pls, i64D, pl_eZ]
inductive Cv : D → D → Prop
  | same (d : D) (h : ∀ k q, d ≠ .num k q) : Cv d d
  | num (r : SR) (h : WV r) : Cv (.num 1 r.val) (eR r)
def CvL : List D → List D → Prop
  | [], [] => True
  | x :: a, y :: b => Cv x y ∧ CvL a b
  | _, _ => False
theorem cv_in {F : Nat → Prop} {w : World} {d : D} {v : Value} (h : RepV NF F w d v) : ∃ d', Cv d d' ∧ RepV NF F w d' v := by
  cases d with
  | num k q =>
    obtain ⟨cs, hr, hv⟩ := h
    cases hr with
    | num hr =>
      obtain ⟨rfl, r, h1, rfl, h3⟩ := hr
      refine ⟨eR r, .num r h1, cs, h3.plain (pl_eR r), ?_⟩
      rw [hv]
      unfold mkV
      rw [eR_isAgg]
      rfl
  | _ => exact ⟨_, .same _ (fun k q e => by cases e), h⟩
theorem cv_out {F : Nat → Prop} {w : World} {d d' : D} {v : Value} (hc : Cv d d') (h : RepV NF F w d' v) : RepV NF F w d v := by
  cases hc with
  | same _ _ => exact h
  | num r hw =>
    obtain ⟨cs, hr, hv⟩ := h
    refine ⟨cs, .num ⟨rfl, r, hw, rfl, hr.plain (pl_eR r)⟩, ?_⟩
    rw [hv]
    unfold mkV
    rw [eR_isAgg]
    rfl
theorem cvL_in {F : Nat → Prop} {w : World} : ∀ (ds : List D) (vs : List Value), RepVs NF F w ds vs → ∃ ds', CvL ds ds' ∧ RepVs NF F w ds' vs
  | [], vs, h => ⟨[], trivial, h⟩
  | d :: ds, [], h => by have := h.1; simp at this
  | d :: ds, v :: vs, h => by
    obtain ⟨d', c1, r1⟩ := cv_in (h.2 0 d v rfl rfl)
    obtain ⟨ds', c2, r2⟩ := cvL_in ds vs ⟨by simpa using h.1, fun i d v h1 h2 => h.2 (i + 1) d v (by simpa using h1) (by simpa using h2)⟩
    refine ⟨d' :: ds', ⟨c1, c2⟩, by simp only [List.length_cons]; rw [r2.1], fun i e u h1 h2 => ?_⟩
    cases i with
    | zero =>
      simp only [List.getElem?_cons_zero, Option.some.injEq] at h1 h2
      subst h1 h2
      exact r1
    | succ i => exact r2.2 i e u (by simpa using h1) (by simpa using h2)
theorem cvL_out {F : Nat → Prop} {w : World} : ∀ (ds ds' : List D) (vs : List Value), CvL ds ds' → RepVs NF F w ds' vs → RepVs NF F w ds vs
  | [], [], vs, _, h => h
  | d :: ds, d' :: ds', [], _, h => by have := h.1; simp at this
  | d :: ds, d' :: ds', v :: vs, hc, h => by
    have r1 := cv_out hc.1 (h.2 0 d' v rfl rfl)
    have r2 := cvL_out ds ds' vs hc.2 ⟨by simpa using h.1, fun i d v h1 h2 => h.2 (i + 1) d v (by simpa using h1) (by simpa using h2)⟩
    refine ⟨by simp only [List.length_cons]; rw [r2.1], fun i e u h1 h2 => ?_⟩
    cases i with
    | zero =>
      simp only [List.getElem?_cons_zero, Option.some.injEq] at h1 h2
      subst h1 h2
      exact r1
    | succ i => exact r2.2 i e u (by simpa using h1) (by simpa using h2)
  | [], _ :: _, _, hc, _ => hc.elim
  | _ :: _, [], _, hc, _ => hc.elim
theorem cvR_out {F : Nat → Prop} {w : World} {ds ds' : List D} {v : Value} (hc : CvL ds ds') (h : RepRes NF F w ds' v) : RepRes NF F w ds v := by
  cases ds with
  | nil =>
    cases ds' with
    | nil => exact h
    | cons => exact hc.elim
  | cons d t =>
    cases ds' with
    | nil => exact hc.elim
    | cons d' t' =>
      cases t with
      | nil =>
        cases t' with
        | nil => exact cv_out hc.1 h
        | cons => exact hc.2.elim
      | cons e t =>
        cases t' with
        | nil => exact hc.2.elim
        | cons e' t' =>
          obtain ⟨vs, h1, h2⟩ := h
          exact ⟨vs, h1, cvL_out _ _ _ hc h2⟩
theorem specD_num {P : Program} {f : FuncId} {g g' : List D → Prop × List D} (h : SpecD NF P f g) (hg : ∀ ds', (g' ds').1 → ∀ ds, CvL ds' ds → (g ds).1 ∧ CvL (g' ds').2 (g ds).2) : SpecD NF P f g' := by
  intro ds' hp F w vs hF hok hr
  obtain ⟨ds, c, hr'⟩ := cvL_in ds' vs hr
  obtain ⟨h1, h2⟩ := hg ds' hp ds c
  exact (h ds h1 F w vs hF hok hr').mono fun e w' ⟨v, he, hv, hfr⟩ => ⟨v, he, cvR_out h2 hv, hfr⟩
theorem specD_num' {P : Program} {f : FuncId} {g : List D → Prop × List D} {β : Type} {e' : β → List D} {pre' : β → Prop} {post' : β → List D} (h : SpecD NF P f g) (hg : ∀ b, pre' b → ∀ ds, CvL (e' b) ds → (g ds).1 ∧ CvL (post' b) (g ds).2) : SpecD NF P f (ctD e' pre' post') := by
  refine specD_num h (fun ds' hp ds hc => ?_)
  obtain ⟨b, rfl, h1, h2⟩ := ctD_pre hp
  rw [h2]
  exact hg b h1 ds hc
theorem cv_num {q : Rat} {d : D} (h : Cv (.num 1 q) d) : ∃ r, WV r ∧ r.val = q ∧ d = eR r := by
  generalize hx : D.num 1 q = x at h
  cases h with
  | same _ hh => exact absurd hx.symm (hh 1 q)
  | num r hw =>
    injection hx with _ hx
    exact ⟨r, hw, hx.symm, rfl⟩
theorem cv_same {d d' : D} (hd : ∀ k q, d ≠ .num k q) (h : Cv d d') : d' = d := by
  cases h with
  | same _ _ => rfl
  | num r _ => exact absurd rfl (hd 1 r.val)
theorem cv_to {r : SR} {q : Rat} (h : WV r ∧ r.val = q) : Cv (.num 1 q) (eR r) := by
  obtain ⟨h1, rfl⟩ := h
  exact .num r h1
theorem cv1 {q : Rat} {ds : List D} (h : CvL [.num 1 q] ds) : ∃ r, WV r ∧ r.val = q ∧ ds = [eR r] := by
  cases ds with
  | nil => exact h.elim
  | cons d t =>
    cases t with
    | cons e t => exact h.2.elim
    | nil =>
      obtain ⟨r, h1, h2, rfl⟩ := cv_num h.1
      exact ⟨r, h1, h2, rfl⟩
theorem cvs1 {d : D} {ds : List D} (hd : ∀ k q, d ≠ .num k q) (h : CvL [d] ds) : ds = [d] := by
  cases ds with
  | nil => exact h.elim
  | cons e t =>
    cases t with
    | cons e t => exact h.2.elim
    | nil => rw [cv_same hd h.1]
theorem cvs2 {d e : D} {ds : List D} (hd : ∀ k q, d ≠ .num k q) (he : ∀ k q, e ≠ .num k q) (h : CvL [d, e] ds) : ds = [d, e] := by
  cases ds with
  | nil => exact h.elim
  | cons x t => rw [cv_same hd h.1, cvs1 he h.2]
theorem cvo2 {d e : D} (hd : ∀ k q, d ≠ .num k q) (he : ∀ k q, e ≠ .num k q) : CvL [d, e] [d, e] := ⟨.same d hd, .same e he, trivial⟩
def nD (q : Rat) : D := .num 1 q
@[simp] theorem nD_size (q : Rat) : (nD q).size = 3 := rfl
@[simp] theorem nD_agg (q : Rat) : (nD q).isAgg = true := rfl
@[simp] theorem nD_lit (q : Rat) : (nD q).isLit = false := rfl
theorem nD_inj {a b : Rat} (h : nD a = nD b) : a = b := by unfold nD at h; injection h
def f1E (p : Q1) : List D := [nD p.a]
theorem f1E_inj (p q : Q1) (h : f1E p = f1E q) : p = q := by
  obtain ⟨a⟩ := p; obtain ⟨b⟩ := q
  simp only [f1E, List.cons.injEq, and_true] at h
  rw [nD_inj h]
end Go.Proofs.Ytpggfnggffedlaa.Ae

namespace Go.Proofs.Ytpggfnggffedlaa.Ae
open Go Go.RowKit Go.Proofs.Ytpggfnggffedlaa.Dig
variable {N : NR}
def smallQ (q : Rat) : Prop := q.num.natAbs < 9223372036854775808 ∧ q.den < 9223372036854775808
instance (q : Rat) : Decidable (smallQ q) := by unfold smallQ; infer_instance
def eRat (q : Rat) : D := if smallQ q then .agg [i64D q.num, i64D q.den, .lit (.pointer none)] else .agg [i64D 0, i64D 0, .ptr (eBR q)]
theorem eRat_s {q : Rat} (h : smallQ q) : eRat q = .agg [i64D q.num, i64D q.den, .lit (.pointer none)] := by unfold eRat; rw [if_pos h]
theorem eRat_b {q : Rat} (h : ¬ smallQ q) : eRat q = .agg [i64D 0, i64D 0, .ptr (eBR q)] := by unfold eRat; rw [if_neg h]
@[simp] theorem eRat_size (q : Rat) : (eRat q).size = 3 := by unfold eRat; split <;> rfl
@[simp] theorem eRat_agg (q : Rat) : (eRat q).isAgg = true := by unfold eRat; split <;> rfl
@[simp] theorem eRat_lit (q : Rat) : (eRat q).isLit = false := by unfold eRat; split <;> rfl
theorem eRat_inj {a b : Rat} (h : eRat a = eRat b) : a = b := by
  by_cases ha : smallQ a <;> by_cases hb : smallQ b
  · rw [eRat_s ha, eRat_s hb] at h
    simp only [D.agg.injEq, List.cons.injEq, and_true, i64D, D.lit.injEq, Value.int.injEq, true_and] at h
    exact Rat.ext h.1 (by omega)
  · rw [eRat_s ha, eRat_b hb] at h; simp at h
  · rw [eRat_b ha, eRat_s hb] at h; simp at h
  · rw [eRat_b ha, eRat_b hb] at h
    simp only [D.agg.injEq, List.cons.injEq, and_true, true_and, D.ptr.injEq] at h
    exact eBR_inj h
def r1E (p : Q1) : List D := [eRat p.a]
theorem r1E_inj (p q : Q1) (h : r1E p = r1E q) : p = q := by
  obtain ⟨a⟩ := p; obtain ⟨b⟩ := q
  simp only [r1E, List.cons.injEq, and_true] at h
  rw [eRat_inj h]
def boolD (b : Bool) : D := .lit (.bool b)
def lit31 (q : Rat) : Prop := q.num.natAbs < 2147483648 ∧ q.den < 2147483648
instance (q : Rat) : Decidable (lit31 q) := by unfold lit31; infer_instance
noncomputable def fitC := ctD pbE (fun p => qsz p.a < 1099511627776) (fun p => [eRat p.a])
theorem fitC_at (a : Rat) : fitC [.ptr (eBR a)] = (qsz a < 1099511627776, [eRat a]) := ctD_at pbE_inj ⟨a⟩
noncomputable def fitTb : List (FuncId × Ct) := [(106, .data numC), (108, .data denC), (107, .data isI64C), (109, .data int64C)]
theorem fitTb_ok : TbOK N Try.prog (tbl fitTb) := tbl_cons (c := .data numC) Num_spec Num_ok (tbl_cons (c := .data denC) Denom_spec Denom_ok (tbl_cons (c := .data isI64C) IsInt64_spec IsInt64_ok (tbl_cons (c := .data int64C) Int64_spec Int64_ok tbl_nil)))
@[simp] theorem fitTb1 : tbl fitTb 106 = some (.data numC) := rfl
@[simp] theorem fitTb2 : tbl fitTb 108 = some (.data denC) := rfl
@[simp] theorem fitTb3 : tbl fitTb 107 = some (.data isI64C) := rfl
@[simp] theorem fitTb4 : tbl fitTb 109 = some (.data int64C) := rfl
theorem fit_spec : SpecD N Try.prog 68 fitC := by
  refine rdD (mf := fun f => false) fitTb_ok (fn := Try.f68) (by kernel_rfl) rfl (by kernel_rfl) ?_
  rintro ⟨a⟩ ha
  have ha : qsz a < 1099511627776 := ha
  refine ⟨by show 1 ≤ 24; decide, ?_⟩
  simp only [pbE, Try.f68]
  have c1 := numC_at a
  have c2 := denC_at a
  have c3 := isI64C_at a.num
  have c4 := isI64C_at a.den
  have c5 := int64C_at a.num
  have c6 := int64C_at a.den
  simp only [ha, SZ_num ha, SZ_den ha, i64D] at c1 c2 c3 c4 c5 c6
  by_cases hs : smallQ a
  · rw [eRat_s hs]
    unfold smallQ at hs
    have h1 : I64 a.num := by unfold I64; omega
    have h2 : I64 (a.den : Int) := by unfold I64; omega
    have h3 : -9223372036854775808 < a.num := by omega
    simp only [h1, h2, decide_true] at c3 c4 c5 c6
    simp [i64D, c1, c2, c3, c4, c5, c6, h3]
  · rw [eRat_b hs]
    by_cases h1 : I64 a.num
    · by_cases h2 : I64 (a.den : Int)
      · have h3 : ¬ -9223372036854775808 < a.num := by
          intro h
          refine hs ⟨?_, ?_⟩
          · unfold I64 at h1; omega
          · unfold I64 at h2; omega
        simp only [h1, h2, decide_true] at c3 c4 c5 c6
        simp [i64D, c1, c2, c3, c4, c5, c6, h3]
      · simp only [h1, h2, decide_true, decide_false] at c3 c4
        simp [i64D, c1, c2, c3, c4]
    · simp only [h1, decide_false] at c3
      simp [i64D, c1, c2, c3]
theorem fit_ok : callable Try.prog 68 = true := by kernel_rfl
theorem smallQ_int {n : Int} (h : n.natAbs < 9223372036854775808) : smallQ (n : Rat) := ⟨by rw [Rat.num_intCast]; exact h, by rw [Rat.den_intCast]; decide⟩
noncomputable def riC := ctD z1E (fun p => p.a.natAbs < 9223372036854775808) (fun p => [eRat (p.a : Rat)])
theorem riC_at (a : Int) : riC [i64D a] = (a.natAbs < 9223372036854775808, [eRat (a : Rat)]) := ctD_at z1E_inj ⟨a⟩
theorem ri_spec : SpecD N Try.prog 66 riC := by
  refine rdD (mf := fun f => false) tbl_nil (fn := Try.f66) (by kernel_rfl) rfl (by kernel_rfl) ?_
  rintro ⟨a⟩ ha
  have ha : a.natAbs < 9223372036854775808 := ha
  refine ⟨by show 1 ≤ 5; decide, ?_⟩
  simp only [z1E, Try.f66, eRat_s (smallQ_int ha), Rat.num_intCast, Rat.den_intCast, i64D]
  simp
noncomputable def lowC := ctD iiE (fun p => p.a.natAbs < 9223372036854775808 ∧ 0 < p.b ∧ p.b < 9223372036854775808) (fun p => [eRat (Rat.divInt p.a p.b)])
theorem lowC_at (a b : Int) : lowC [i64D a, i64D b] = ((a.natAbs < 9223372036854775808 ∧ 0 < b ∧ b < 9223372036854775808), [eRat (Rat.divInt a b)]) := ctD_at iiE_inj ⟨a, b⟩
noncomputable def lowTb : List (FuncId × Ct) := [(105, .data absC), (104, .data gcdC)]
theorem lowTb_ok : TbOK N Try.prog (tbl lowTb) := tbl_cons (c := .data absC) abs64_spec abs64_ok (tbl_cons (c := .data gcdC) gcd64_spec gcd64_ok tbl_nil)
@[simp] theorem lowTb1 : tbl lowTb 105 = some (.data absC) := rfl
@[simp] theorem lowTb2 : tbl lowTb 104 = some (.data gcdC) := rfl
theorem small_divInt {n d : Int} (hn : n.natAbs < 9223372036854775808) (h0 : 0 < d) (hd : d < 9223372036854775808) : smallQ (Rat.divInt n d) :=
  ⟨Nat.lt_of_le_of_lt (num_le n d) hn, Nat.lt_of_le_of_lt (den_le (by omega)) (by omega)⟩
theorem low_spec : SpecD N Try.prog 67 lowC := by
  refine rdD (mf := fun f => false) lowTb_ok (fn := Try.f67) (by kernel_rfl) rfl (by kernel_rfl) ?_
  rintro ⟨n, d⟩ ⟨hn, h0, hd⟩
  have hn : n.natAbs < 9223372036854775808 := hn
  have h0 : 0 < d := h0
  have hd : d < 9223372036854775808 := hd
  refine ⟨by show 2 ≤ 23; decide, ?_⟩
  have hs := small_divInt hn h0 hd
  obtain ⟨e1, e2⟩ := low_pos (a := n) h0
  rw [eRat_s hs, ← e1, ← e2]
  have c1 := absC_at n
  have c2 := gcdC_at n.natAbs d.natAbs
  have h1 : I64 n := by unfold I64; omega
  have h2 : n.natAbs < 18446744073709551616 := by omega
  have h3 : d.natAbs < 18446744073709551616 := by omega
  have e3 : Nat.gcd n.natAbs d.natAbs = Int.gcd n d := rfl
  have hg0 : 0 < Int.gcd n d := by
    rcases Nat.eq_zero_or_pos (Int.gcd n d) with h | h
    · have := (Int.gcd_eq_zero_iff.1 h).2; omega
    · exact h
  have hgl : Int.gcd n d ≤ d.natAbs := Nat.le_of_dvd (by omega) (Nat.gcd_dvd_right _ _)
  have w1 : IntKind.u64.wrap d = (d.natAbs : Int) := by rw [wrap_u64]; omega
  simp only [h1, h2, h3, e3, and_self, u64D, i64D] at c1 c2
  have b1 := Int.natAbs_tdiv n (Int.gcd n d)
  have b2 := Int.natAbs_tdiv d (Int.gcd n d)
  have b3 : (Int.tdiv n (Int.gcd n d)).natAbs ≤ n.natAbs := by rw [b1]; exact Nat.div_le_self _ _
  have b4 : (Int.tdiv d (Int.gcd n d)).natAbs ≤ d.natAbs := by rw [b2]; exact Nat.div_le_self _ _
  have w3 : IntKind.i64.wrap (Int.tdiv n (Int.gcd n d)) = Int.tdiv n (Int.gcd n d) := i64_id _ (by omega) (by omega)
  have w4 : IntKind.i64.wrap (Int.tdiv d (Int.gcd n d)) = Int.tdiv d (Int.gcd n d) := i64_id _ (by omega) (by omega)
  have w2 : IntKind.i64.wrap (Int.gcd n d : Int) = (Int.gcd n d : Int) := i64_id _ (by omega) (by omega)
  clear b1 b2 e1 e2 hs
  simp only [iiE, Try.f67, i64D]
  generalize Int.gcd n d = g at *
  generalize hx : Int.tdiv n (g : Int) = x at *
  generalize hy : Int.tdiv d (g : Int) = y at *
  have hgz : ¬ g = 0 := by omega
  by_cases h4 : 1 < g
  · have h4' : (1 : Int) < g := by omega
    simp [c1, c2, w1, w2, hx, hy, w3, w4, h4', h4, hgz]
  · have h5 : g = 1 := by omega
    subst h5
    simp at hx hy w2
    subst hx hy
    simp [c1, c2, w1, w2]
theorem low_ok : callable Try.prog 67 = true := by kernel_rfl
noncomputable def rngC := ctD r1E (fun p => qsz p.a < MX) (fun p => [eRat (-p.a)])
theorem rngC_at (a : Rat) : rngC [eRat a] = (qsz a < MX, [eRat (-a)]) := ctD_at r1E_inj ⟨a⟩
theorem smallQ_neg {a : Rat} : smallQ (-a) ↔ smallQ a := by unfold smallQ; rw [Rat.neg_num, Rat.neg_den, Int.natAbs_neg]
noncomputable def ngTb : List (FuncId × Ct) := [(114, .mut [true, false] bNegC)]
theorem ngTb_ok : TbOK N Try.prog (tbl ngTb) := tbl_cons (c := .mut [true, false] bNegC) RNeg_spec RNeg_ok tbl_nil
@[simp] theorem ngTb1 : tbl ngTb 114 = some (.mut [true, false] bNegC) := rfl
theorem rneg_spec : SpecD N Try.prog 71 rngC := by
  refine rdD (mf := fun f => f == 114 || f == bld 122) ngTb_ok (fn := Try.f71) (by kernel_rfl) rfl (by kernel_rfl) ?_
  rintro ⟨a⟩ ha
  have ha : qsz a < MX := ha
  refine ⟨by show 1 ≤ 17; decide, ?_⟩
  simp only [r1E, Try.f71]
  by_cases hs : smallQ a
  · rw [eRat_s hs, eRat_s (smallQ_neg.2 hs), Rat.neg_num, Rat.neg_den]
    unfold smallQ at hs
    have w : IntKind.i64.wrap (-a.num) = -a.num := i64_id _ (by omega) (by omega)
    simp [i64D, w]
  · rw [eRat_b hs, eRat_b (fun h => hs (smallQ_neg.1 h))]
    have c1 := bNegC_at a
    simp only [ha, eBN_eq] at c1
    simp [i64D, c1]
theorem rneg_ok : callable Try.prog 71 = true := by kernel_rfl
theorem ri_ok : callable Try.prog 66 = true := by kernel_rfl
end Go.Proofs.Ytpggfnggffedlaa.Ae

namespace Go.Proofs.Ytpggfnggffedlaa.Ae
open Go Go.RowKit Go.Proofs.Ytpggfnggffedlaa.Dig
variable {N : NR}
end Go.Proofs.Ytpggfnggffedlaa.Ae

namespace Go.Proofs.Ytpggfnggffedlaa.Ae
open Go Go.RowKit Go.Proofs.Ytpggfnggffedlaa.Dig
variable {N : NR}
def isQ (q : Rat) : Prop := q.num.natAbs ≤ 1000000000000000000 ∧ q.den ≤ 1000000000000000000
instance (q : Rat) : Decidable (isQ q) := by unfold isQ; infer_instance
def oQ (q : Rat) : List D := if isQ q then [eQ q.num q.den, boolD true] else [eQ 0 0, boolD false]
noncomputable def rqqC := ctD r1E (fun p => True) (fun p => oQ p.a)
theorem rqqC_at (a : Rat) : rqqC [eRat a] = (True, oQ a) := ctD_at r1E_inj ⟨a⟩
theorem rqq_spec : SpecD N Try.prog 72 rqqC := by
  refine rdD (mf := fun f => false) tbl_nil (fn := Try.f72) (by kernel_rfl) rfl (by kernel_rfl) ?_
  rintro ⟨a⟩ _
  refine ⟨by show 1 ≤ 28; decide, ?_⟩
  simp only [r1E, Try.f72, boolD]
  by_cases hs : smallQ a
  · rw [eRat_s hs]
    unfold oQ
    by_cases hq : isQ a
    · rw [if_pos hq]
      unfold isQ at hq
      have h1 : ¬ a.num < -1000000000000000000 := by omega
      have h2 : ¬ 1000000000000000000 < a.num := by omega
      have h3 : ¬ (1000000000000000000 : Int) < a.den := by omega
      simp [i64D, eQ, boolD, h1, h2, h3]
    · rw [if_neg hq]
      unfold isQ at hq
      by_cases h1 : a.num < -1000000000000000000
      · simp [i64D, eQ, boolD, h1]
      · by_cases h2 : 1000000000000000000 < a.num
        · simp [i64D, eQ, boolD, h1, h2]
        · have h3 : (1000000000000000000 : Int) < a.den := by omega
          simp [i64D, eQ, boolD, h1, h2, h3]
  · have hq : ¬ isQ a := by unfold smallQ at hs; unfold isQ; omega
    unfold oQ
    rw [eRat_b hs, if_neg hq]
    simp [i64D, eQ, boolD]
theorem rqq_ok : callable Try.prog 72 = true := by kernel_rfl
end Go.Proofs.Ytpggfnggffedlaa.Ae

namespace Go.Proofs.Ytpggfnggffedlaa.Ae
open Go Go.RowKit Go.Proofs.Ytpggfnggffedlaa.Dig
variable {N : NR}
end Go.Proofs.Ytpggfnggffedlaa.Ae

namespace Go.Proofs.Ytpggfnggffedlaa.Ae
open Go Go.RowKit Go.Proofs.Ytpggfnggffedlaa.Dig
variable {N : NR}
def qOk (n d : Int) : Prop := (1 ≤ d ∧ d ≤ 1000000000000000000) ∧ (-1000000000000000000 ≤ n ∧ n ≤ 1000000000000000000) ∧ Int.gcd n d = 1
instance (n d : Int) : Decidable (qOk n d) := by unfold qOk; infer_instance
theorem eQ_inj {a b c d : Int} (h : eQ a b = eQ c d) : a = c ∧ b = d := by
  simp only [eQ, D.agg.injEq, List.cons.injEq, and_true] at h
  exact ⟨i64D_inj h.1, i64D_inj h.2⟩
@[simp] theorem eQ_size (n d : Int) : (eQ n d).size = 2 := rfl
@[simp] theorem eQ_agg (n d : Int) : (eQ n d).isAgg = true := rfl
@[simp] theorem eQ_lit (n d : Int) : (eQ n d).isLit = false := rfl
end Go.Proofs.Ytpggfnggffedlaa.Ae

namespace Go.Proofs.Ytpggfnggffedlaa.Ae
open Go Go.RowKit Go.Proofs.Ytpggfnggffedlaa.Dig
theorem nn_z (z : Int) : ∀ k q, eZ z ≠ .num k q := fun k q h => by unfold eZ at h; cases h
theorem nn_q (a b : Int) : ∀ k q, eQ a b ≠ .num k q := fun k q h => by unfold eQ at h; cases h
theorem nn_b (b : Bool) : ∀ k q, boolD b ≠ .num k q := fun k q h => by unfold boolD at h; cases h
def d3 (r : Int × Int × Bool) : List D := [eQ r.1 r.2.1, boolD r.2.2]
noncomputable def nQC := ctD f1E (fun p => True) (fun p => d3 (oq p.a))
theorem nQC_at (a : Rat) : nQC [nD a] = (True, d3 (oq a)) := ctD_at f1E_inj ⟨a⟩
theorem nQ_spec : SpecD NF Try.prog 61 nQC := specD_num' l1rQ_spec (fun ⟨a⟩ h ds hc => by
  obtain ⟨r, h1, rfl, rfl⟩ := cv1 hc
  have c := rQC_at r
  rw [c]
  refine ⟨h1.1, ?_⟩
  rw [qOf_val h1]
  exact cvo2 (nn_q _ _) (nn_b _))
theorem divInt_one (a : Int) : Rat.divInt a 1 = (a : Rat) := by rw [Rat.divInt_eq_div]; grind
noncomputable def nBigC := ctD zzE (fun p => SZ p.a ∧ SZ p.b ∧ p.b ≠ 0) (fun p => [nD (Rat.divInt p.a p.b)])
theorem nBigC_at (a b : Int) : nBigC [eZ a, eZ b] = ((SZ a ∧ SZ b ∧ b ≠ 0), [nD (Rat.divInt a b)]) := ctD_at zzE_inj ⟨a, b⟩
theorem nBig_spec : SpecD NF Try.prog 62 nBigC := specD_num' l1rBig_spec (fun ⟨a, b⟩ h ds hc => by
  obtain rfl := cvs2 (nn_z a) (nn_z b) hc
  obtain ⟨h1, h2, h3⟩ := h
  have h1 : SZ a := h1
  have h2 : SZ b := h2
  have h3 : b ≠ 0 := h3
  have c := bigC_at a b
  rw [c]
  exact ⟨⟨h1, h2, h3⟩, cv_to (bigR_ok h3 h1 h2), trivial⟩)
theorem oQ_d3 (q : Rat) : oQ q = d3 (oq q) := by
  unfold oQ oq d3
  by_cases h : isQ q
  · rw [if_pos h, if_pos (show q.num.natAbs ≤ 1000000000000000000 ∧ q.den ≤ 1000000000000000000 from h)]
  · rw [if_neg h, if_neg (show ¬ (q.num.natAbs ≤ 1000000000000000000 ∧ q.den ≤ 1000000000000000000) from h)]
end Go.Proofs.Ytpggfnggffedlaa.Ae

namespace Go.Proofs.Ytpggfnggffedlaa.Ae
open Go Go.RowKit Go.Proofs.Ytpggfnggffedlaa.Dig
structure Q4 where
  a : Int
  b : Int
  c : Int
  d : Int
def q4E (p : Q4) : List D := [eQ p.a p.b, eQ p.c p.d]
theorem q4E_inj (p q : Q4) (h : q4E p = q4E q) : p = q := by
  obtain ⟨a, b, c, d⟩ := p; obtain ⟨a', b', c', d'⟩ := q
  simp only [q4E, List.cons.injEq, and_true] at h
  obtain ⟨h1, h2⟩ := eQ_inj h.1
  obtain ⟨h3, h4⟩ := eQ_inj h.2
  simp only [h1, h2, h3, h4]
def ok2 (p : Q4) : Prop := qOk p.a p.b ∧ qOk p.c p.d
instance (p : Q4) : Decidable (ok2 p) := by unfold ok2; infer_instance
def okD (p : Q4) : Prop := ok2 p ∧ p.c ≠ 0
instance (p : Q4) : Decidable (okD p) := by unfold okD; infer_instance
def okF (p : Q4) : Prop := ok2 p ∧ 0 < p.c
instance (p : Q4) : Decidable (okF p) := by unfold okF; infer_instance
@[simp] theorem nav_eQ0 (n d : Int) : nav (eQ n d) [0] = some (.lit (.int .i64 n), 0) := rfl
@[simp] theorem nav_eQ1 (n d : Int) : nav (eQ n d) [1] = some (.lit (.int .i64 d), 1) := rfl
end Go.Proofs.Ytpggfnggffedlaa.Ae

namespace Go.Proofs.Ytpggfnggffedlaa.Ae
open Go Go.RowKit Go.Proofs.Ytpggfnggffedlaa.Dig
end Go.Proofs.Ytpggfnggffedlaa.Ae

namespace Go.Proofs.Ytpggfnggffedlaa.Ae
open Go Go.RowKit Go.Proofs.Ytpggfnggffedlaa.Dig
theorem law_calls {f : FuncId} {g : List D → Prop × List D} (h : SpecD NF Try.prog f g) {ds : List D} (hp : (g ds).1) (hr : (g ds).2 = [boolD true]) {vs : List Value} {w : World} (hrep : RepVs NF (fun _ => False) w ds vs)
    : Calls Try.prog f vs.toArray w fun e w' => e = .returned (.bool true) ∧ Below w.heap.size w w' := by
  have hok : NF.ok (fun b => b < w.heap.size) w := trivial
  refine (h ds hp (fun b => b < w.heap.size) w vs (fun k hk => hk) hok ⟨hrep.1, fun i d v h1 h2 => (hrep.2 i d v h1 h2).mono (fun b hb => hb.elim)⟩).mono fun e w' ⟨v, he, hv, hfr⟩ => ?_
  rw [hr] at hv
  have hv : RepV NF _ w' (.lit (.bool true)) v := hv
  obtain ⟨rfl, _⟩ := RepV.lit hv
  exact ⟨he, ⟨hfr.os, hfr.tape, hfr.output, hfr.size, fun k hk => hfr.block k hk (fun h => h)⟩⟩
theorem repVs_nil {N : NR} {F : Nat → Prop} {w : World} : RepVs N F w [] [] := ⟨rfl, fun i d v h => by simp at h⟩
theorem repVs_cons {N : NR} {F : Nat → Prop} {w : World} {d : D} {v : Value} {ds : List D} {vs : List Value} (h : RepV N F w d v) (hs : RepVs N F w ds vs) : RepVs N F w (d :: ds) (v :: vs) :=
  ⟨by simp only [List.length_cons]; rw [hs.1], fun i e u h1 h2 => by
    cases i with
    | zero =>
      simp only [List.getElem?_cons_zero, Option.some.injEq] at h1 h2
      subst h1 h2
      exact h
    | succ i => exact hs.2 i e u (by simpa using h1) (by simpa using h2)⟩
noncomputable def eqQC := ctD q4E (fun _ => True) (fun p => [boolD (decide (p.a = p.c) && decide (p.b = p.d))])
theorem eqQC_at (a b c d : Int) : eqQC [eQ a b, eQ c d] = (True, [boolD (decide (a = c) && decide (b = d))]) := ctD_at q4E_inj ⟨a, b, c, d⟩
theorem eqQ_spec {N : NR} : SpecD N Try.prog 26 eqQC := by
  refine rdD (mf := fun f => false) tbl_nil (fn := Try.f26) (by kernel_rfl) rfl (by kernel_rfl) ?_
  rintro ⟨a, b, c, d⟩ _
  refine ⟨of_decide_eq_true (by kernel_rfl), ?_⟩
  simp only [q4E, Try.f26, boolD]
  by_cases h1 : a = c <;> by_cases h2 : b = d <;> simp [h1, h2]
theorem eqQ_ok : callable Try.prog 26 = true := by kernel_rfl
end Go.Proofs.Ytpggfnggffedlaa.Ae

namespace Go.Proofs.Ytpggfnggffedlaa.Ae
open Go Go.Shelf
def lays153_ren : Go.Shelf.Ren := ⟨fun | 153 => 64 | 152 => 100 | 226 => 101 | 227 => 102 | 228 => 103 | 137 => 124 | 119 => 125 | 224 => 126 | 225 => 127 | 217 => 142 | 266 => 147 | n => n, fun | 9 => 9 | 3 => 3 | 4 => 4 | 5 => 5 | 21 => 21 | 117 => 177 | 116 => 176 | 0 => 0 | 46 => 76 | 124 => 201 | n => n, fun | n => n⟩
theorem lays153 : Go.Proofs.Lays.n153 Try.prog lays153_ren := {
  mixed := by kernel_rfl
  f119 := Try.func125.trans (congrArg some (by kernel_rfl))
  f137 := Try.func124.trans (congrArg some (by kernel_rfl))
  f152 := Try.func100.trans (congrArg some (by kernel_rfl))
  f153 := Try.func64.trans (congrArg some (by kernel_rfl))
  f217 := Try.func142.trans (congrArg some (by kernel_rfl))
  f224 := Try.func126.trans (congrArg some (by kernel_rfl))
  f225 := Try.func127.trans (congrArg some (by kernel_rfl))
  f226 := Try.func101.trans (congrArg some (by kernel_rfl))
  f227 := Try.func102.trans (congrArg some (by kernel_rfl))
  f228 := Try.func103.trans (congrArg some (by kernel_rfl))
  f266 := Try.func147.trans (congrArg some (by kernel_rfl))
  t0 := Try.underlying0
  a0 := Try.isAgg0
  z0 := Try.sizeOf0
  v0 := Try.zeroValue0
  t3 := Try.underlying3
  a3 := Try.isAgg3
  z3 := Try.sizeOf3
  v3 := Try.zeroValue3
  t4 := Try.underlying4
  a4 := Try.isAgg4
  z4 := Try.sizeOf4
  v4 := Try.zeroValue4
  t5 := Try.underlying5
  a5 := Try.isAgg5
  z5 := Try.sizeOf5
  v5 := Try.zeroValue5
  t9 := Try.underlying9
  a9 := Try.isAgg9
  z9 := Try.sizeOf9
  v9 := Try.zeroValue9
  t21 := Try.underlying21
  a21 := Try.isAgg21
  z21 := Try.sizeOf21
  v21 := Try.zeroValue21
  t46 := Try.underlying76
  a46 := Try.isAgg76
  z46 := Try.sizeOf76
  v46 := Try.zeroValue76
  t116 := Try.underlying176
  a116 := Try.isAgg176
  z116 := Try.sizeOf176
  t117 := Try.underlying177
  a117 := Try.isAgg177
  z117 := Try.sizeOf177
  v117 := Try.zeroValue177
  t124 := Try.underlying201
  a124 := Try.isAgg201
  z124 := Try.sizeOf201
  v124 := Try.zeroValue201 }
end Go.Proofs.Ytpggfnggffedlaa.Ae

namespace Go.Proofs.Ytpggfnggffedlaa.Ae
open Go Go.Shelf Go.RowKit Go.Lib
section
variable {P : Program} {ρ : Ren}
def mk2 : ByteArray := ⟨#[47, 46]⟩
set_option maxHeartbeats 4000000 in
set_option maxRecDepth 1000000 in
theorem rune_bad (L : Lays.n152 P ρ) (r : Int) (w : World) (h0 : 128 ≤ r) (h1 : r ≠ 65533) (hv : Lib.validRune r = false) :
    Calls P (ρ.f 152) #[.string mk2, .int .i32 r] w fun e w' => e = .returned (.int .i64 (-1)) ∧ w' = w := by
  have t3 := L.t3; have a3 := L.a3; have z3 := L.z3; have v3 := L.v3
  have t4 := L.t4; have a4 := L.a4; have z4 := L.z4; have v4 := L.v4
  have t5 := L.t5; have a5 := L.a5; have z5 := L.z5; have v5 := L.v5
  have t9 := L.t9; have a9 := L.a9; have z9 := L.z9; have v9 := L.v9
  have t21 := L.t21; have a21 := L.a21; have z21 := L.z21; have v21 := L.v21
  have hlt : ¬ r < 128 := by omega
  have hb : (r == 65533) = false := beq_eq_false_iff_ne.2 h1
  have e137 : ∀ args w, (callFunc (ρ.f 137) args).run P w = .ok (.enter (ρ.f 137) args) w := enters_of L.f137 (by kernel_rfl) rfl
  have e119 : ∀ args w, (callFunc (ρ.f 119) args).run P w = .ok (.enter (ρ.f 119) args) w := enters_of L.f119 (by kernel_rfl) rfl
  go_enter L.f152, Body.n152_ntmps ρ
  go_wp2_with (go_at_fn (ρ.f 119); refine (Any.utf8_ValidRune { L with } _ _).mono ?_; rintro e w' ⟨rfl, hw⟩; rw [hw, hv])
  go_ret
  exact ⟨rfl, rfl⟩
set_option maxHeartbeats 4000000 in
set_option maxRecDepth 1000000 in
theorem rune_two (L : Lays.n152 P ρ) (r : Int) (w : World) (h0 : 128 ≤ r) (h1 : r ≠ 65533) (hv : Lib.validRune r = true) (hs : (Utf8.encode r).size = 2) (y : UInt8) (hy : ∀ h, (Utf8.encode r)[1]'h = y) (hyb : 128 ≤ y.toNat) :
    Calls P (ρ.f 152) #[.string mk2, .int .i32 r] w fun e w' => e = .returned (.int .i64 (-1)) ∧ ∃ n, w' = w.drewN n := by
  have mixed := L.mixed
  have t3 := L.t3; have a3 := L.a3; have z3 := L.z3; have v3 := L.v3
  have t4 := L.t4; have a4 := L.a4; have z4 := L.z4; have v4 := L.v4
  have t5 := L.t5; have a5 := L.a5; have z5 := L.z5; have v5 := L.v5
  have t9 := L.t9; have a9 := L.a9; have z9 := L.z9; have v9 := L.v9
  have t21 := L.t21; have a21 := L.a21; have z21 := L.z21; have v21 := L.v21
  have hlt : ¬ r < 128 := by omega
  have hb : (r == 65533) = false := beq_eq_false_iff_ne.2 h1
  have hm : mk2.size = 2 := rfl
  have hm1 : mk2[1] = 46 := rfl
  have hw2 : IntKind.i64.wrap 2 = 2 := by decide
  have hw3 : IntKind.i64.wrap (1 + 1) = 2 := by decide
  have hne : ((46 : Int) != (y.toNat : Int)) = true := bne_iff_ne.2 (by omega)
  have hn46 : ((mk2[1].toNat : Int) != (y.toNat : Int)) = true := hne
  have hib : ∀ c, Lib.indexByte (mk2.extract 2 2).data.toList c = -1 := fun _ => rfl
  have e137 : ∀ args w, (callFunc (ρ.f 137) args).run P w = .ok (.enter (ρ.f 137) args) w := enters_of L.f137 (by kernel_rfl) rfl
  have e119 : ∀ args w, (callFunc (ρ.f 119) args).run P w = .ok (.enter (ρ.f 119) args) w := enters_of L.f119 (by kernel_rfl) rfl
  go_enter L.f152, Body.n152_ntmps ρ
  go_wp2_with (first
    | (go_at_fn (ρ.f 119); refine (Any.utf8_ValidRune { L with } _ _).mono ?_; rintro e w' ⟨rfl, hw⟩; rw [hw, hv])
    | (go_at_fn (ρ.f 137); refine (Any.strings_IndexByte { L with } _ _ _).mono ?_; rintro e w' ⟨rfl, hw⟩; rw [hw]))
  go_step3
  go_wp2_with (go_at_fn (ρ.f 137); refine (Any.strings_IndexByte { L with } _ _ _).mono ?_; rintro e w' ⟨rfl, hw⟩; rw [hw])
  refine wp_loop_once ?_
  go_wp2
  go_step3
  go_wp2_with fail
  go_quiet_o (fail)
  go_wp2_with fail
  generalize hwq : w.drewN nq = wq
  go_quiet_o (first | (go_at_fn (ρ.f 137); refine Calls.quiet_of_same (Any.strings_IndexByte { L with } _ _ _)))
  go_wp2_with fail
  simp (config := {zetaDelta := true}) only [Exit.noGoto, Exit.inBlock, Exit.then]
  refine bodyPost_ret (results_tmp rfl _ _ _) rfl ?_
  exact ⟨rfl, _, by rw [← hwq, World.drewN_drewN]⟩
set_option maxHeartbeats 4000000 in
set_option maxRecDepth 1000000 in
theorem rune_more (L : Lays.n152 P ρ) (r : Int) (w : World) (h0 : 128 ≤ r) (h1 : r ≠ 65533) (hv : Lib.validRune r = true) (hs : 3 ≤ (Utf8.encode r).size) (hs4 : (Utf8.encode r).size ≤ 4) :
    Calls P (ρ.f 152) #[.string mk2, .int .i32 r] w fun e w' => e = .returned (.int .i64 (-1)) ∧ w' = w := by
  have mixed := L.mixed
  have t3 := L.t3; have a3 := L.a3; have z3 := L.z3; have v3 := L.v3
  have t4 := L.t4; have a4 := L.a4; have z4 := L.z4; have v4 := L.v4
  have t5 := L.t5; have a5 := L.a5; have z5 := L.z5; have v5 := L.v5
  have t9 := L.t9; have a9 := L.a9; have z9 := L.z9; have v9 := L.v9
  have t21 := L.t21; have a21 := L.a21; have z21 := L.z21; have v21 := L.v21
  have hlt : ¬ r < 128 := by omega
  have hb : (r == 65533) = false := beq_eq_false_iff_ne.2 h1
  have hm : mk2.size = 2 := rfl
  generalize hn : (Utf8.encode r).size = n at hs hs4
  have hw1 : IntKind.i64.wrap ((n : Int) - 1) = (n : Int) - 1 := by
    rcases (show n = 3 ∨ n = 4 by omega) with rfl | rfl <;> decide
  have hlt2 : ¬ (n : Int) - 1 < 2 := by omega
  have hd2 : decide ((n : Int) - 1 < 2) = false := decide_eq_false hlt2
  have e119 : ∀ args w, (callFunc (ρ.f 119) args).run P w = .ok (.enter (ρ.f 119) args) w := enters_of L.f119 (by kernel_rfl) rfl
  go_enter L.f152, Body.n152_ntmps ρ
  go_wp2_with (go_at_fn (ρ.f 119); refine (Any.utf8_ValidRune { L with } _ _).mono ?_; rintro e w' ⟨rfl, hw⟩; rw [hw, hv])
  go_step3
  go_wp2
  refine wp_loop_once ?_
  go_wp2
  simp (config := {zetaDelta := true}) only [Exit.noGoto, Exit.inBlock, Exit.then]
  refine bodyPost_ret (results_tmp rfl _ _ _) rfl ?_
  exact ⟨rfl, rfl⟩
set_option maxHeartbeats 4000000 in
set_option maxRecDepth 1000000 in
theorem rune_err (L : Lays.n152 P ρ) (w : World) :
    Calls P (ρ.f 152) #[.string mk2, .int .i32 65533] w fun e w' => e = .returned (.int .i64 (-1)) ∧ ∃ pos, w' = w.iter mk2 pos := by
  have mixed := L.mixed
  have t3 := L.t3; have a3 := L.a3; have z3 := L.z3; have v3 := L.v3
  have t4 := L.t4; have a4 := L.a4; have z4 := L.z4; have v4 := L.v4
  have t5 := L.t5; have a5 := L.a5; have z5 := L.z5; have v5 := L.v5
  have t9 := L.t9; have a9 := L.a9; have z9 := L.z9; have v9 := L.v9
  have t21 := L.t21; have a21 := L.a21; have z21 := L.z21; have v21 := L.v21
  have hm : mk2.size = 2 := rfl
  have hx0 : (mk2[0]'(by decide)) = 47 := rfl
  have hx1 : (mk2[1]'(by decide)) = 46 := rfl
  have hnx0 := fun ty => run_next_ascii (P := P) w mk2 0 ty (by decide) (by decide)
  have hnx1 := fun ty => run_next_ascii (P := P) w mk2 1 ty (by decide) (by decide)
  have hnx2 := fun ty => run_next_end (P := P) w mk2 2 ty (by decide)
  rw [hx0] at hnx0
  rw [hx1] at hnx1
  go_enter L.f152, Body.n152_ntmps ρ
  go_wp2
  refine wp_loop_rounds 3 ?_
  rw [rounds_succ]
  go_wp2
  rw [rounds_succ]
  go_wp2
  rw [rounds_succ]
  go_wp2
  go_ret
  exact ⟨rfl, _, rfl⟩
theorem rune_no (L : Lays.n152 P ρ) (r : Int) (w : World) (h0 : 128 ≤ r) :
    Calls P (ρ.f 152) #[.string mk2, .int .i32 r] w fun e w' => e = .returned (.int .i64 (-1)) ∧ Below w.heap.size w w' := by
  by_cases h1 : r = 65533
  · subst h1
    refine (rune_err L w).mono ?_
    rintro e w' ⟨h, pos, rfl⟩
    exact ⟨h, (Below.refl _ _).alloc (Nat.le_refl _) _⟩
  cases hv : Lib.validRune r with
  | false =>
    refine (rune_bad L r w h0 h1 hv).mono ?_
    rintro e w' ⟨h, rfl⟩
    exact ⟨h, Below.refl _ _⟩
  | true =>
    have hv2 : Utf8.valid r = true := by
      unfold Lib.validRune at hv
      unfold Utf8.valid
      simp at hv ⊢
      omega
    obtain ⟨a, b, c⟩ := encode_facts r hv2 h0
    by_cases h2 : (Utf8.encode r).size = 2
    · obtain ⟨y, hy⟩ : ∃ y : UInt8, (Utf8.encode r)[1]'(by omega) = y := ⟨_, rfl⟩
      have hc : 128 ≤ y.toNat := by
        have := c (by omega)
        rw [← hy]
        simpa [h2] using this
      refine (rune_two L r w h0 h1 hv h2 y (fun _ => hy) hc).mono ?_
      rintro e w' ⟨h, n, rfl⟩
      exact ⟨h, below_drewN (Below.refl _ _) n⟩
    · refine (rune_more L r w h0 h1 hv (by omega) (by omega)).mono ?_
      rintro e w' ⟨h, rfl⟩
      exact ⟨h, Below.refl _ _⟩
end
end Go.Proofs.Ytpggfnggffedlaa.Ae

namespace Go.Proofs.Ytpggfnggffedlaa.Ae
open Go Go.RowKit Go.Proofs.Ytpggfnggffedlaa.Dig
structure Enc (α : Type) where
  e : α → D
  inj : ∀ a b, e a = e b → a = b
def EInt : Enc Int := ⟨i64D, fun _ _ => i64D_inj⟩
noncomputable def ct1 {α : Type} (A : Enc α) (pre : α → Prop) (post : α → List D) := ctD (fun a => [A.e a]) pre post
theorem ct1_at {α : Type} {A : Enc α} {pre : α → Prop} {post : α → List D} (a : α) : ct1 A pre post [A.e a] = (pre a, post a) :=
  ctD_at (e := fun a => [A.e a]) (fun a b h => by simp only [List.cons.injEq, and_true] at h; exact A.inj _ _ h) a
noncomputable def ct2 {α β : Type} (A : Enc α) (B : Enc β) (pre : α → β → Prop) (post : α → β → List D) := ctD (fun p : α × β => [A.e p.1, B.e p.2]) (fun p => pre p.1 p.2) (fun p => post p.1 p.2)
theorem ct2_at {α β : Type} {A : Enc α} {B : Enc β} {pre : α → β → Prop} {post : α → β → List D} (a : α) (b : β) : ct2 A B pre post [A.e a, B.e b] = (pre a b, post a b) :=
  ctD_at (e := fun p : α × β => [A.e p.1, B.e p.2]) (fun p q h => by simp only [List.cons.injEq, and_true] at h; exact Prod.ext (A.inj _ _ h.1) (B.inj _ _ h.2)) (a, b)
theorem rd1 {N : NR} {α : Type} {A : Enc α} {pre : α → Prop} {post : α → List D} {f : FuncId} {fn : Func} {c : Code} {mf : FuncId → Bool} {tb : FuncId → Option Ct} (htb : TbOK N Try.prog tb) (hf : Try.prog.funcs[f]? = some fn) (hb : fn.body = some c) (hd : drawAll mf c = true) (hl : Nat.ble 1 fn.ntmps = true)
    (h : ∀ a, pre a → awp Try.prog mf tb c (start fn.ntmps ([A.e a].map .dat) []) (endK Try.prog fn.ntmps fn.results.toList ((post a).map .dat) [])) : SpecD N Try.prog f (ct1 A pre post) :=
  rdD htb hf hb hd (fun a ha => ⟨Nat.le_of_ble_eq_true hl, h a ha⟩)
theorem rd2 {N : NR} {α β : Type} {A : Enc α} {B : Enc β} {pre : α → β → Prop} {post : α → β → List D} {f : FuncId} {fn : Func} {c : Code} {mf : FuncId → Bool} {tb : FuncId → Option Ct} (htb : TbOK N Try.prog tb) (hf : Try.prog.funcs[f]? = some fn) (hb : fn.body = some c) (hd : drawAll mf c = true) (hl : Nat.ble 2 fn.ntmps = true)
    (h : ∀ a b, pre a b → awp Try.prog mf tb c (start fn.ntmps ([A.e a, B.e b].map .dat) []) (endK Try.prog fn.ntmps fn.results.toList ((post a b).map .dat) [])) : SpecD N Try.prog f (ct2 A B pre post) :=
  rdD htb hf hb hd (fun p ha => ⟨Nat.le_of_ble_eq_true hl, h p.1 p.2 ha⟩)
def vOk (v : (Int × Int) × Int × Int) : Prop := qOk v.1.1 v.1.2 ∧ qOk v.2.1 v.2.2
instance (v : (Int × Int) × Int × Int) : Decidable (vOk v) := by unfold vOk; infer_instance
@[simp] theorem EInt_e (x : Int) : EInt.e x = i64D x := rfl
section
variable (a b : Rat) (n d : Int)
@[simp] theorem z_neg : rngC [eRat a] = (qsz a < MX, [eRat (-a)]) := rngC_at a
@[simp] theorem z_q : rqqC [eRat a] = (True, [eQ (oq a).1 (oq a).2.1, .lit (.bool (oq a).2.2)]) := by rw [rqqC_at, oQ_d3]; rfl
@[simp] theorem z_ri : riC [.lit (.int .i64 n)] = (n.natAbs < 9223372036854775808, [eRat (n : Rat)]) := riC_at n
@[simp] theorem n_q : nQC [nD a] = (True, [eQ (oq a).1 (oq a).2.1, .lit (.bool (oq a).2.2)]) := nQC_at a
@[simp] theorem n_big : nBigC [eZ n, eZ d] = ((SZ n ∧ SZ d ∧ d ≠ 0), [nD (Rat.divInt n d)]) := nBigC_at n d
@[simp] theorem n_zof : zOfC [.lit (.int .i64 n)] = (I64 n, [eZ n]) := zOfC_at n
@[simp] theorem n_zadd : zAddC [eZ n, eZ d] = ((SZ n ∧ SZ d), [eZ (n + d)]) := zAddC_at n d
end
end Go.Proofs.Ytpggfnggffedlaa.Ae

namespace Go.Proofs.Ytpggfnggffedlaa.Ae
open Go Go.RowKit Go.Proofs.Ytpggfnggffedlaa.Dig
def bt (s : ByteArray) (i : Nat) : Int := byteAt s i
def isDg (x : Int) : Prop := 48 ≤ x ∧ x ≤ 57
def dv (s : ByteArray) (lo : Nat) : Nat → Int
  | 0 => 0
  | n + 1 => 10 * dv s lo n + (bt s (lo + n) - 48)
def dgs (s : ByteArray) (a b : Nat) : Prop := a ≤ b ∧ b ≤ s.size ∧ ∀ i, a ≤ i → i < b → isDg (bt s i)
theorem dv_rng {s : ByteArray} {lo : Nat} : ∀ {n : Nat}, (∀ i, lo ≤ i → i < lo + n → isDg (bt s i)) → 0 ≤ dv s lo n ∧ dv s lo n < 10 ^ n
  | 0, _ => by simp [dv]
  | n + 1, h => by
    obtain ⟨h1, h2⟩ := dv_rng (s := s) (lo := lo) (n := n) (fun i a b => h i a (by omega))
    have h3 := h (lo + n) (by omega) (by omega)
    unfold isDg at h3
    have e : (10 : Int) ^ (n + 1) = 10 * 10 ^ n := by rw [Int.pow_succ, Int.mul_comm]
    rw [dv, e]
    generalize (10 : Int) ^ n = P at *
    omega
theorem ten_le : ∀ {n : Nat}, n ≤ 18 → (10 : Int) ^ n ≤ 1000000000000000000 := by
  intro n h
  have h1 : 10 ^ n ≤ 10 ^ 18 := Nat.pow_le_pow_right (by omega) h
  have : (10 : Int) ^ n ≤ 10 ^ 18 := by exact_mod_cast h1
  have e : (10 : Int) ^ 18 = 1000000000000000000 := by decide
  omega
theorem ten_pos (n : Nat) : 0 < (10 : Int) ^ n := Int.pow_pos (by omega)
theorem dv_small {s : ByteArray} {lo n : Nat} (h : ∀ i, lo ≤ i → i < lo + n → isDg (bt s i)) (hn : n ≤ 18) : 0 ≤ dv s lo n ∧ dv s lo n < 1000000000000000000 := by
  obtain ⟨h1, h2⟩ := dv_rng h
  have := ten_le hn
  omega
open Classical in
noncomputable def cnt (s : ByteArray) : Nat → Nat → Nat
  | 0, _ => 0
  | k + 1, i => if i < s.size ∧ isDg (bt s i) then cnt s k (i + 1) + 1 else 0
theorem cnt_is {s : ByteArray} : ∀ {k i : Nat}, i ≤ s.size → cnt s k i ≤ k ∧ dgs s i (i + cnt s k i) ∧ (cnt s k i < k → ¬ (i + cnt s k i < s.size ∧ isDg (bt s (i + cnt s k i))))
  | 0, i, hi => ⟨Nat.le_refl _, ⟨by omega, by simpa [cnt] using hi, fun j h1 h2 => by simp [cnt] at h2; omega⟩, fun h => by simp [cnt] at h⟩
  | k + 1, i, hi => by
    by_cases h : i < s.size ∧ isDg (bt s i)
    · have e : cnt s (k + 1) i = cnt s k (i + 1) + 1 := by rw [cnt, if_pos h]
      obtain ⟨h1, ⟨h2, h3, h4⟩, h5⟩ := cnt_is (s := s) (k := k) (i := i + 1) h.1
      rw [e]
      refine ⟨by omega, ⟨by omega, by omega, fun j a b => ?_⟩, fun hk => ?_⟩
      · by_cases hj : j = i
        · subst hj; exact h.2
        · exact h4 j (by omega) (by omega)
      · have := h5 (by omega)
        rw [show i + (cnt s k (i + 1) + 1) = i + 1 + cnt s k (i + 1) by omega]
        exact this
    · have e : cnt s (k + 1) i = 0 := by rw [cnt, if_neg h]
      rw [e]
      exact ⟨by omega, ⟨by omega, by omega, fun j a b => by omega⟩, fun _ => h⟩
theorem cnt_eq {s : ByteArray} {k i n : Nat} (h1 : n ≤ k) (h2 : dgs s i (i + n)) (h3 : n < k → ¬ (i + n < s.size ∧ isDg (bt s (i + n)))) : cnt s k i = n := by
  obtain ⟨a1, a2, a3⟩ := h2
  obtain ⟨b1, ⟨b2, b3, b4⟩, b5⟩ := cnt_is (s := s) (k := k) (i := i) (by omega)
  by_cases hlt : cnt s k i < n
  · exact absurd ⟨by omega, a3 _ (by omega) (by omega)⟩ (b5 (by omega))
  · by_cases hgt : n < cnt s k i
    · exact absurd ⟨by omega, b4 _ (by omega) (by omega)⟩ (h3 (by omega))
    · omega
open Classical in
noncomputable def rdN (s : ByteArray) (lo : Nat) : Option Rat :=
  if 1 ≤ cnt s 19 lo ∧ cnt s 19 lo ≤ 18 then
    if lo + cnt s 19 lo < s.size then
      if (bt s (lo + cnt s 19 lo) = 47 ∨ bt s (lo + cnt s 19 lo) = 46) ∧ 1 ≤ cnt s 19 (lo + cnt s 19 lo + 1) ∧ cnt s 19 (lo + cnt s 19 lo + 1) ≤ 18 ∧ ¬ (lo + cnt s 19 lo + 1 + cnt s 19 (lo + cnt s 19 lo + 1) < s.size) then
        if bt s (lo + cnt s 19 lo) = 47 then
          if dv s (lo + cnt s 19 lo + 1) (cnt s 19 (lo + cnt s 19 lo + 1)) = 0 then none
          else some (Rat.divInt (dv s lo (cnt s 19 lo)) (dv s (lo + cnt s 19 lo + 1) (cnt s 19 (lo + cnt s 19 lo + 1))))
        else some (Rat.divInt (dv s lo (cnt s 19 lo) * 10 ^ cnt s 19 (lo + cnt s 19 lo + 1) + dv s (lo + cnt s 19 lo + 1) (cnt s 19 (lo + cnt s 19 lo + 1))) (10 ^ cnt s 19 (lo + cnt s 19 lo + 1)))
      else none
    else some (Rat.divInt (dv s lo (cnt s 19 lo)) 1)
  else none
def num18 (s : ByteArray) (a b : Nat) : Prop := a + 1 ≤ b ∧ b ≤ a + 18 ∧ dgs s a b
theorem no_dg {x : Int} (h : x = 47 ∨ x = 46) : ¬ isDg x := by unfold isDg; omega
theorem rd_none {s : ByteArray} {lo : Nat} (hlo : lo ≤ s.size) (hno : ∀ i, lo ≤ i → i < s.size → ¬ (bt s i = 47 ∨ bt s i = 46)) :
    (num18 s lo s.size → rdN s lo = some (Rat.divInt (dv s lo (s.size - lo)) 1)) ∧ (¬ num18 s lo s.size → rdN s lo = none) := by
  constructor
  · rintro ⟨h1, h2, h3⟩
    have hc : cnt s 19 lo = s.size - lo := cnt_eq (by omega) (by rw [show lo + (s.size - lo) = s.size by omega]; exact h3) (fun _ => by omega)
    unfold rdN
    rw [if_pos (by omega), if_neg (by omega), hc]
  · intro h
    obtain ⟨b1, b2, b5⟩ := cnt_is (s := s) (k := 19) (i := lo) hlo
    unfold rdN
    by_cases c1 : 1 ≤ cnt s 19 lo ∧ cnt s 19 lo ≤ 18
    · rw [if_pos c1]
      by_cases c2 : lo + cnt s 19 lo < s.size
      · rw [if_pos c2, if_neg (fun hc => hno _ (by omega) c2 hc.1)]
      · exfalso
        have e : lo + cnt s 19 lo = s.size := by have := b2.2.1; omega
        rw [e] at b2
        exact h ⟨by omega, by omega, b2⟩
    · rw [if_neg c1]
theorem rd_mark {s : ByteArray} {lo p : Nat} (hlo : lo ≤ p) (hp : p < s.size) (hmk : bt s p = 47 ∨ bt s p = 46) (hno : ∀ i, lo ≤ i → i < p → ¬ (bt s i = 47 ∨ bt s i = 46)) :
    (num18 s lo p ∧ num18 s (p + 1) s.size → (bt s p = 47 → dv s (p + 1) (s.size - (p + 1)) = 0 → rdN s lo = none) ∧ (bt s p = 47 → dv s (p + 1) (s.size - (p + 1)) ≠ 0 → rdN s lo = some (Rat.divInt (dv s lo (p - lo)) (dv s (p + 1) (s.size - (p + 1))))) ∧
      (bt s p ≠ 47 → rdN s lo = some (Rat.divInt (dv s lo (p - lo) * 10 ^ (s.size - (p + 1)) + dv s (p + 1) (s.size - (p + 1))) (10 ^ (s.size - (p + 1)))))) ∧ (¬ (num18 s lo p ∧ num18 s (p + 1) s.size) → rdN s lo = none) := by
  constructor
  · rintro ⟨⟨h1, h2, h3⟩, ⟨h4, h5, h6⟩⟩
    have hc : cnt s 19 lo = p - lo := cnt_eq (by omega) (by rw [show lo + (p - lo) = p by omega]; exact h3) (fun _ hh => by rw [show lo + (p - lo) = p by omega] at hh; exact no_dg hmk hh.2)
    have hc2 : cnt s 19 (p + 1) = s.size - (p + 1) := cnt_eq (by omega) (by rw [show p + 1 + (s.size - (p + 1)) = s.size by omega]; exact h6) (fun _ hh => by omega)
    have e : rdN s lo = if bt s p = 47 then (if dv s (p + 1) (s.size - (p + 1)) = 0 then none else some (Rat.divInt (dv s lo (p - lo)) (dv s (p + 1) (s.size - (p + 1))))) else some (Rat.divInt (dv s lo (p - lo) * 10 ^ (s.size - (p + 1)) + dv s (p + 1) (s.size - (p + 1))) (10 ^ (s.size - (p + 1)))) := by
      unfold rdN
      rw [hc, show lo + (p - lo) = p by omega, hc2, if_pos (by omega), if_pos hp, if_pos ⟨hmk, by omega, by omega, by omega⟩]
    rw [e]
    refine ⟨fun a b => ?_, fun a b => ?_, fun a => ?_⟩
    · rw [if_pos a, if_pos b]
    · rw [if_pos a, if_neg b]
    · rw [if_neg a]
  · intro h
    obtain ⟨b1, b2, b5⟩ := cnt_is (s := s) (k := 19) (i := lo) (by omega)
    unfold rdN
    by_cases c1 : 1 ≤ cnt s 19 lo ∧ cnt s 19 lo ≤ 18
    · rw [if_pos c1]
      have hpe : ¬ lo + cnt s 19 lo > p := fun hgt => no_dg hmk (b2.2.2 p hlo (by omega))
      by_cases c2 : lo + cnt s 19 lo < s.size
      · rw [if_pos c2]
        by_cases c3 : (bt s (lo + cnt s 19 lo) = 47 ∨ bt s (lo + cnt s 19 lo) = 46) ∧ 1 ≤ cnt s 19 (lo + cnt s 19 lo + 1) ∧ cnt s 19 (lo + cnt s 19 lo + 1) ≤ 18 ∧ ¬ (lo + cnt s 19 lo + 1 + cnt s 19 (lo + cnt s 19 lo + 1) < s.size)
        · exfalso
          have hpl : lo + cnt s 19 lo = p := by
            by_cases hl : lo + cnt s 19 lo < p
            · exact absurd c3.1 (hno _ (by omega) hl)
            · omega
          rw [hpl] at c3 b2
          obtain ⟨d1, d2, d5⟩ := cnt_is (s := s) (k := 19) (i := p + 1) (by omega)
          have e : p + 1 + cnt s 19 (p + 1) = s.size := by have := d2.2.1; omega
          rw [e] at d2
          exact h ⟨⟨by omega, by omega, b2⟩, ⟨by omega, by omega, d2⟩⟩
        · rw [if_neg c3]
      · exfalso
        omega
    · rw [if_neg c1]
theorem bt_extract (s : ByteArray) {a b i : Nat} (hb : b ≤ s.size) (hi : a + i < b) : bt (s.extract a b) i = bt s (a + i) := by
  unfold bt byteAt
  simp only [Int.toNat_natCast]
  have h1 : (s.extract a b).size = b - a := by rw [ByteArray.size_extract]; omega
  have e1 : (s.extract a b)[i]? = some (s[a + i]'(by omega)) := by
    rw [ByteArray.getElem?_lt' _ _ (by omega)]
    rw [ByteArray.getElem_extract]
  have e2 : s[a + i]? = some (s[a + i]'(by omega)) := ByteArray.getElem?_lt' _ _ (by omega)
  rw [e1, e2]
theorem dv_extract (s : ByteArray) {a b : Nat} (hb : b ≤ s.size) {lo : Nat} : ∀ {n : Nat}, a + lo + n ≤ b → dv (s.extract a b) lo n = dv s (a + lo) n
  | 0, _ => rfl
  | n + 1, h => by
    rw [dv, dv, dv_extract s hb (n := n) (by omega), bt_extract s hb (by omega)]
    rw [show a + (lo + n) = a + lo + n by omega]
theorem cnt_extract (s : ByteArray) {a : Nat} : ∀ (k i : Nat), a + i ≤ s.size → cnt (s.extract a s.size) k i = cnt s k (a + i) := by
  intro k i hi
  have hsz : (s.extract a s.size).size = s.size - a := by rw [ByteArray.size_extract]; omega
  obtain ⟨b1, ⟨b2, b3, b4⟩, b5⟩ := cnt_is (s := s) (k := k) (i := a + i) hi
  refine cnt_eq b1 ⟨by omega, by omega, fun j h1 h2 => ?_⟩ (fun hk hh => ?_)
  · rw [bt_extract s (Nat.le_refl _) (by omega)]; exact b4 _ (by omega) (by omega)
  · refine b5 hk ⟨by omega, ?_⟩
    have := hh.2
    rw [bt_extract s (Nat.le_refl _) (by omega)] at this
    rw [show a + i + cnt s k (a + i) = a + (i + cnt s k (a + i)) by omega]
    exact this
theorem rdN_cut (s : ByteArray) {a : Nat} (ha : a ≤ s.size) : rdN (s.extract a s.size) 0 = rdN s a := by
  have hsz : (s.extract a s.size).size = s.size - a := by rw [ByteArray.size_extract]; omega
  obtain ⟨b1, ⟨b2, b3, b4⟩, b5⟩ := cnt_is (s := s) (k := 19) (i := a) ha
  have h1 : cnt (s.extract a s.size) 19 0 = cnt s 19 a := cnt_extract s 19 0 (by omega)
  unfold rdN
  rw [h1, hsz]
  simp only [Nat.zero_add]
  generalize hn : cnt s 19 a = n at *
  by_cases c2 : a + n < s.size
  · have c2' : n < s.size - a := by omega
    have h2 : cnt (s.extract a s.size) 19 (n + 1) = cnt s 19 (a + n + 1) := by rw [cnt_extract s 19 (n + 1) (by omega)]; rfl
    obtain ⟨d1, ⟨d2, d3, d4⟩, d5⟩ := cnt_is (s := s) (k := 19) (i := a + n + 1) (by omega)
    rw [h2, if_pos c2, if_pos c2']
    generalize hm : cnt s 19 (a + n + 1) = m at *
    rw [dv_extract s (Nat.le_refl _) (by omega), dv_extract s (Nat.le_refl _) (by omega), bt_extract s (Nat.le_refl _) (by omega)]
    have e3 : (n + 1 + m < s.size - a) ↔ (a + n + 1 + m < s.size) := by omega
    simp only [Nat.add_zero, e3, show a + (n + 1) = a + n + 1 by omega]
  · have c2' : ¬ n < s.size - a := by omega
    rw [if_neg c2, if_neg c2', dv_extract s (Nat.le_refl _) (by omega)]
    simp only [Nat.add_zero]
def ngS (s : ByteArray) : Prop := 0 < s.size ∧ bt s 0 = 45
open Classical in
noncomputable def rdv (s : ByteArray) : Option Rat := if ngS s then (rdN s 1).map (fun q => -q) else rdN s 0
noncomputable def qr (s : ByteArray) : Int × Int × Bool := match rdv s with
  | some q => oq q
  | none => (0, 0, false)
end Go.Proofs.Ytpggfnggffedlaa.Ae

namespace Go.Proofs.Ytpggfnggffedlaa.Ae
open Go Go.Shelf Go.RowKit Go.Proofs.Ytpggfnggffedlaa.Dig
def EStr : Enc ByteArray := ⟨fun s => .lit (.string s), fun a b h => by injection h with h; injection h⟩
theorem bt_get {s : ByteArray} {i : Nat} (h : i < s.size) : bt s i = ((s.get! i).toNat : Int) := by
  unfold bt byteAt
  simp only [Int.toNat_natCast]
  rw [ByteArray.getElem?_lt' _ _ h]
  have : s.get! i = s[i] := by
    show s.data[i]! = s.data[i]
    exact getElem!_pos s.data i h
  rw [this]; rfl
def mkB (x : Int) : Prop := x = 47 ∨ x = 46
theorem dec_at {s : ByteArray} {i : Nat} (h : i < s.size) : (bt s i < 128 ∧ ((Utf8.decode s i).1 : Int) = bt s i ∧ (Utf8.decode s i).2 = 1) ∨ (128 ≤ (Utf8.decode s i).1 ∧ 1 ≤ (Utf8.decode s i).2 ∧ i + (Utf8.decode s i).2 ≤ s.size ∧ ∀ j, i ≤ j → j < i + (Utf8.decode s i).2 → 128 ≤ bt s j) := by
  have hb := bt_get h
  have hc : ∀ k, (decide (i + k < s.size) && (s.get! (i + k)).toNat / 64 == 2) = true → i + k < s.size ∧ 128 ≤ bt s (i + k) := by
    intro k hk
    simp at hk
    refine ⟨hk.1, ?_⟩
    rw [bt_get hk.1]
    omega
  unfold Utf8.decode
  dsimp only
  have hb : bt s i = ((s.get! (i + 0)).toNat : Int) := hb
  by_cases h1 : (s.get! (i + 0)).toNat < 128
  · left
    rw [if_pos h1]
    exact ⟨by omega, by simp; omega, rfl⟩
  right
  rw [if_neg h1]
  have one : 128 ≤ 65533 ∧ 1 ≤ 1 ∧ i + 1 ≤ s.size ∧ ∀ j, i ≤ j → j < i + 1 → 128 ≤ bt s j := ⟨by omega, by omega, by omega, fun j a b => by
    obtain rfl : j = i := by omega
    omega⟩
  split
  · rename_i g
    simp only [Bool.and_eq_true] at g
    obtain ⟨c1, d1⟩ := hc 1 (by simpa using g.2)
    split
    · rename_i g2
      refine ⟨by simpa using g2, by simp, by simp; omega, fun j a b => ?_⟩
      simp only at b
      rcases (show j = i ∨ j = i + 1 by omega) with rfl | rfl
      · omega
      · exact d1
    · exact one
  · split
    · rename_i g
      simp only [Bool.and_eq_true] at g
      obtain ⟨c1, d1⟩ := hc 1 (by simpa using g.1.2)
      obtain ⟨c2, d2⟩ := hc 2 (by simpa using g.2)
      split
      · rename_i g2
        simp only [Bool.and_eq_true, decide_eq_true_eq] at g2
        refine ⟨by simp only; omega, by simp, by simp; omega, fun j a b => ?_⟩
        simp only at b
        rcases (show j = i ∨ j = i + 1 ∨ j = i + 2 by omega) with rfl | rfl | rfl
        · omega
        · exact d1
        · exact d2
      · exact one
    · split
      · rename_i g
        simp only [Bool.and_eq_true] at g
        obtain ⟨c1, d1⟩ := hc 1 (by simpa using g.1.1.2)
        obtain ⟨c2, d2⟩ := hc 2 (by simpa using g.1.2)
        obtain ⟨c3, d3⟩ := hc 3 (by simpa using g.2)
        split
        · rename_i g2
          simp only [Bool.and_eq_true, decide_eq_true_eq] at g2
          refine ⟨by simp only; omega, by simp, by simp; omega, fun j a b => ?_⟩
          simp only at b
          rcases (show j = i ∨ j = i + 1 ∨ j = i + 2 ∨ j = i + 3 by omega) with rfl | rfl | rfl | rfl
          · omega
          · exact d1
          · exact d2
          · exact d3
        · exact one
      · exact one
def ixR (c : Int) : Int := if c = 47 then 0 else if c = 46 then 1 else -1
noncomputable def irC : List D → Prop × List D
  | [.lit (.string b), .lit (.int .i32 c)] => ((b = mk2 ∧ 0 ≤ c), [.lit (.int .i64 (ixR c))])
  | _ => (False, [])
theorem ixR_byte (c : Int) (h0 : 0 ≤ c) (h1 : c < 128) : Lib.indexByte mk2.data.toList c.toNat.toUInt8 = ixR c := by
  obtain ⟨n, rfl⟩ := Int.eq_ofNat_of_zero_le h0
  have hn : n < 128 := by omega
  have : ∀ m : Nat, m < 128 → Lib.indexByte mk2.data.toList ((m : Int)).toNat.toUInt8 = ixR m := by decide
  exact this n hn
theorem ir_spec {N : NR} : SpecD N Try.prog 100 irC := by
  intro ds hp F w vs hF hok hrep
  unfold irC at hp
  split at hp
  · rename_i b c
    obtain ⟨rfl, h0⟩ := hp
    obtain ⟨hlen, hr⟩ := hrep
    match vs, hlen with
    | [v1, v2], _ =>
      obtain ⟨rfl, _⟩ := RepV.lit (hr 0 _ v1 rfl rfl)
      obtain ⟨rfl, _⟩ := RepV.lit (hr 1 _ v2 rfl rfl)
      by_cases h1 : c < 128
      · refine (Any.strings_IndexRune_ascii (P := Try.prog) (ρ := lays153_ren) { lays153 with } mk2 c w h0 h1).mono ?_
        rintro e w' ⟨rfl, rfl⟩
        refine ⟨_, rfl, ?_, Frame0.refl _ _⟩
        rw [ixR_byte c h0 h1]
        exact RepV.of_lit rfl
      · refine (rune_no (P := Try.prog) (ρ := lays153_ren) { lays153 with } c w (by omega)).mono ?_
        rintro e w' ⟨rfl, hb⟩
        refine ⟨_, rfl, ?_, ⟨hb.os, hb.tape, hb.output, hb.size, fun k hk _ => hb.block k hk⟩⟩
        have e1 : ixR c = -1 := by unfold ixR; rw [if_neg (by omega), if_neg (by omega)]
        show RepV N _ w' (.lit (.int .i64 (ixR c))) _
        rw [e1]
        exact RepV.of_lit rfl
  · exact hp.elim
theorem ir_ok : callable Try.prog 100 = true := by kernel_rfl
noncomputable def suC := ct1 EInt (fun p0 => True) (fun p0 => [.lit (.bool (decide (8 < p0)))])
@[simp] theorem suC_at (n : Int) : suC [.lit (.int .i64 n)] = (True, [.lit (.bool (decide (8 < n)))]) := ct1_at n
theorem su_spec {N : NR} : SpecD N Try.prog 101 suC := by
  refine rd1 (mf := fun f => false) (tb := tbl []) tbl_nil (fn := Try.f101) (by kernel_rfl) rfl (by kernel_rfl) (by kernel_rfl) ?_
  rintro n hp
  have hp : True := hp
  show awp _ _ _ _ (start _ ([.lit (.int .i64 n)].map .dat) []) (endK _ _ _ (([.lit (.bool (decide (8 < n)))]).map .dat) [])
  simp [-D.isLit, Try.f101]
theorem su_ok : callable Try.prog 101 = true := by kernel_rfl
end Go.Proofs.Ytpggfnggffedlaa.Ae

namespace Go.Proofs.Ytpggfnggffedlaa.Ae
open Go Go.Shelf Go.RowKit Go.Proofs.Ytpggfnggffedlaa.Dig
noncomputable def ixA (s : ByteArray) : Int := Lib.indexAny s.data.toList mk2.data.toList
theorem bt_data {s : ByteArray} {j : Nat} {b : UInt8} (h : s.data.toList[j]? = some b) : j < s.size ∧ bt s j = (b.toNat : Int) := by
  have hj : j < s.data.toList.length := (List.getElem?_eq_some_iff.1 h).1
  have hs : j < s.size := by rw [Lib.size_eq]; exact hj
  refine ⟨hs, ?_⟩
  have := Lib.data_getElem? s j hs
  rw [h] at this
  injection this with this
  unfold bt byteAt
  simp only [Int.toNat_natCast]
  rw [ByteArray.getElem?_lt' _ _ hs, this]
  rfl
theorem mk_contains (b : UInt8) : mk2.data.toList.contains b = true ↔ mkB (b.toNat : Int) := by
  have h : mk2.data.toList = [47, 46] := rfl
  rw [h]
  unfold mkB
  simp only [List.contains_cons, List.contains_nil, Bool.or_false, Bool.or_eq_true, beq_iff_eq]
  constructor
  · rintro (rfl | rfl)
    · left; rfl
    · right; rfl
  · rintro (h | h)
    · left; apply UInt8.toNat_inj.1; show b.toNat = 47; omega
    · right; apply UInt8.toNat_inj.1; show b.toNat = 46; omega
theorem noAny_of {s : ByteArray} {p : Nat} (h : ∀ j, j < p → j < s.size → ¬ mkB (bt s j)) : Lib.NoAny s.data.toList mk2.data.toList p := by
  intro j b hj hb
  obtain ⟨h1, h2⟩ := bt_data hb
  cases hc : mk2.data.toList.contains b with
  | false => rfl
  | true => exact absurd (h2 ▸ (mk_contains b).1 hc) (h j hj h1)
theorem ixA_none {s : ByteArray} (h : ∀ j, j < s.size → ¬ mkB (bt s j)) : ixA s = -1 := by
  unfold ixA
  exact Lib.indexAny_none (noAny_of fun j _ hj => h j hj)
theorem ixA_hit {s : ByteArray} {p : Nat} (hp : p < s.size) (h : ∀ j, j < p → ¬ mkB (bt s j)) (hm : mkB (bt s p)) : ixA s = p := by
  unfold ixA
  have hx := Lib.data_getElem? s p hp
  refine Lib.indexAny_hit (noAny_of fun j hj _ => h j hj) hx ?_
  rw [mk_contains]
  rw [← (bt_data hx).2]
  exact hm
theorem ixA_is (s : ByteArray) : (ixA s = -1 ∧ ∀ j, j < s.size → ¬ mkB (bt s j)) ∨ ∃ p, p < s.size ∧ ixA s = (p : Int) ∧ mkB (bt s p) ∧ ∀ j, j < p → ¬ mkB (bt s j) := by
  by_cases h : ∃ p, p < s.size ∧ mkB (bt s p)
  · right
    have : ∀ n, (∃ p, p < n ∧ p < s.size ∧ mkB (bt s p)) → ∃ p, p < s.size ∧ mkB (bt s p) ∧ ∀ j, j < p → ¬ mkB (bt s j) := by
      intro n
      induction n with
      | zero => rintro ⟨p, hp, _⟩; omega
      | succ n ih =>
        rintro ⟨p, hp, h1, h2⟩
        by_cases hn : ∃ q, q < n ∧ q < s.size ∧ mkB (bt s q)
        · exact ih hn
        · refine ⟨p, h1, h2, fun j hj hm => hn ⟨j, by omega, by omega, hm⟩⟩
    obtain ⟨p, h1, h2⟩ := h
    obtain ⟨q, a, b, c⟩ := this (p + 1) ⟨p, by omega, h1, h2⟩
    exact ⟨q, a, ixA_hit a c b, b, c⟩
  · left
    have h' : ∀ j, j < s.size → ¬ mkB (bt s j) := fun j hj hm => h ⟨j, hj, hm⟩
    exact ⟨ixA_none h', h'⟩
noncomputable def iaSC := ct2 EStr EStr (fun s b => b = mk2 ∧ s.size ≤ 8) (fun s b => [.lit (.int .i64 (ixA s))])
noncomputable def iaSTb : List (FuncId × Ct) := [(100, .data irC), (101, .data suC)]
theorem iaSTb_ok {N : NR} : TbOK N Try.prog (tbl iaSTb) := tbl_cons (c := .data irC) ir_spec ir_ok (tbl_cons (c := .data suC) su_spec su_ok tbl_nil)
@[simp] theorem iaSTb1 : tbl iaSTb 100 = some (.data irC) := rfl
@[simp] theorem iaSTb2 : tbl iaSTb 101 = some (.data suC) := rfl
def iaS (s : ByteArray) (p : Nat) : St := ⟨[.dat (.lit (.string s)), .dat (.lit (.string mk2)), .any, .any, .any, .any, .any, .any, .any, .any, .any, .any, .any, .any, .any, .any, .any, .any, .any, .any, .any, .any, .any, .any, .any, .any, .any, .any, .any, .any, .any, .any, .any, .any, .any, .any, .any, .any, .any, .any, .any, .any, .any, .any, .any, .mpx 45, .any, .any, .any, .any, .any, .any, .any, .any, .any], [none, none, none, none, none, none, none, none, none, none, none, none, none, none, none, none, none, none, none, none, none, none, none, none, none, none, none, none, none, none, none, none, none, none, none, none, none, none, none, none, none, none, none, none, none, some (.mp itS [.string s, .int .i64 p]), none, none, none, none, none, none, none, none, none]⟩
set_option maxRecDepth 100000 in
set_option maxHeartbeats 4000000 in
theorem iaS_spec {N : NR} : SpecD N Try.prog 64 iaSC := by
  refine rd2 (mf := fun f => false) iaSTb_ok (fn := Try.f64) (by kernel_rfl) rfl (by kernel_rfl) (by kernel_rfl) ?_
  rintro s b ⟨hb, h8⟩
  have hb : b = mk2 := hb
  have h8 : s.size ≤ 8 := h8
  subst hb
  generalize hr : ixA s = r
  show awp _ _ _ _ (start _ ([D.lit (.string s), D.lit (.string mk2)].map .dat) []) (endK _ _ _ ([D.lit (.int .i64 r)].map .dat) [])
  have hne : mk2.toList ≠ [] := by rw [Lib.toList_data]; decide
  have hm2 : mk2.size = 2 := rfl
  have h8' : ¬ (8 : Int) < s.size := by omega
  have h8'' : ¬ 8 < s.size := by omega
  simp only [Try.f64]
  simp [-D.isLit, hne, hm2, h8', h8'']
  refine loop_go (fun n st => ∃ p, n = s.size - p ∧ p ≤ s.size ∧ (∀ j, j < p → ¬ mkB (bt s j)) ∧ st = iaS s p) (s0 := iaS s 0) (n := s.size) (snd_obs (n := 55) [(45, 45, .mp itS [.string s, .int .i64 0])] rfl (by simp) (by simp [iaS])) ⟨0, rfl, Nat.zero_le _, fun j hj => by omega, rfl⟩ ?_
  rintro n st ⟨p, hn, hp, hno, rfl⟩ KN hN
  by_cases hh : p < s.size
  · have hd := dec_at hh
    have hw : IntKind.i64.wrap ((p : Int) + (Utf8.decode s p).2) = (p : Int) + (Utf8.decode s p).2 := i64_id _ (by omega) (by rcases hd with h | h <;> omega)
    have ci : irC [.lit (.string mk2), .lit (.int .i32 (Utf8.decode s p).1)] = (True, [.lit (.int .i64 (ixR (Utf8.decode s p).1))]) := by
      show ((mk2 = mk2 ∧ 0 ≤ ((Utf8.decode s p).1 : Int)), _) = _
      rw [eq_true (⟨rfl, by omega⟩ : mk2 = mk2 ∧ 0 ≤ ((Utf8.decode s p).1 : Int))]
    by_cases hmk : mkB (bt s p)
    · have hix : ixA s = p := ixA_hit hh hno hmk
      have er : r = p := by rw [← hr]; exact hix
      subst er
      have hge : 0 ≤ ixR (Utf8.decode s p).1 := by
        rcases hd with ⟨_, h2, _⟩ | ⟨_, h2, h3, h4⟩
        · unfold mkB at hmk
          unfold ixR
          rw [h2]
          split
          · omega
          · split <;> omega
        · have := h4 p (by omega) (by omega)
          unfold mkB at hmk
          omega
      have hge' : ¬ ixR (Utf8.decode s p).1 < 0 := by omega
      simp [-D.isLit, iaS, hh, ci, hge, hge']
    · have hlt : ixR (Utf8.decode s p).1 = -1 := by
        rcases hd with ⟨_, h2, _⟩ | ⟨h1, h2, h3, h4⟩
        · unfold mkB at hmk
          unfold ixR
          rw [h2, if_neg (by omega), if_neg (by omega)]
        · unfold ixR
          rw [if_neg (by omega), if_neg (by omega)]
      rw [hlt] at ci
      have hno2 : ∀ j, j < p + (Utf8.decode s p).2 → ¬ mkB (bt s j) := by
        intro j hj
        by_cases hjp : j < p
        · exact hno j hjp
        · rcases hd with ⟨_, _, h2⟩ | ⟨_, h2, h3, h4⟩
          · obtain rfl : j = p := by omega
            exact hmk
          · have := h4 j (by omega) hj
            unfold mkB
            omega
      have hle : p + (Utf8.decode s p).2 ≤ s.size := by rcases hd with h | h <;> omega
      have hpos : 1 ≤ (Utf8.decode s p).2 := by rcases hd with h | h <;> omega
      simp [-D.isLit, iaS, hh, ci]
      exact hN _ (nx (m := s.size - (p + (Utf8.decode s p).2)) (s'' := iaS s (p + (Utf8.decode s p).2)) (snd_obs (n := 55) [(45, 45, .mp itS [.string s, .int .i64 (p + (Utf8.decode s p).2 : Nat)])] rfl (by simp) (by simp [iaS])) ⟨_, rfl, hle, hno2, rfl⟩ (by omega))
  · have hpl : p = s.size := by omega
    subst hpl
    have er : r = -1 := by rw [← hr]; exact ixA_none hno
    subst er
    simp [-D.isLit, iaS]
noncomputable def iaC : List D → Prop × List D
  | [.lit (.string s), .lit (.string b)] => ((b = mk2 ∧ s.size < 4294967281), [.lit (.int .i64 (ixA s))])
  | _ => (False, [])
theorem iaC_at (s : ByteArray) : iaC [.lit (.string s), .lit (.string mk2)] = ((mk2 = mk2 ∧ s.size < 4294967281), [.lit (.int .i64 (ixA s))]) := rfl
theorem iaSC_at (s : ByteArray) : iaSC [.lit (.string s), .lit (.string mk2)] = ((mk2 = mk2 ∧ s.size ≤ 8), [.lit (.int .i64 (ixA s))]) := ct2_at (A := EStr) (B := EStr) s mk2
theorem ia_zero : (Try.prog.info? (lays153_ren.t 116)).map (fun i => (i.zero, i.size)) = some (some (.agg (Array.replicate 256 (.bool false))), 256) := by kernel_rfl
end Go.Proofs.Ytpggfnggffedlaa.Ae

namespace Go.Proofs.Ytpggfnggffedlaa.Ae
open Go Go.Shelf Go.RowKit Go.Proofs.Ytpggfnggffedlaa.Dig
theorem mk2_ascii : ∀ (j : Nat) b, mk2.data.toList[j]? = some b → b.toNat < 128 := by
  intro j b h
  have e : mk2.data.toList = [47, 46] := rfl
  rw [e] at h
  rcases j with _ | _ | j
  · injection h with h; subst h; decide
  · injection h with h; subst h; decide
  · cases h
theorem ia_spec {N : NR} : SpecD N Try.prog 64 iaC := by
  intro ds hp F w vs hF hok hrep
  unfold iaC at hp
  split at hp
  · rename_i s b
    obtain ⟨rfl, hs⟩ := hp
    have hrep' := hrep
    obtain ⟨hlen, hr⟩ := hrep
    match vs, hlen with
    | [v1, v2], _ =>
      obtain ⟨rfl, _⟩ := RepV.lit (hr 0 _ v1 rfl rfl)
      obtain ⟨rfl, _⟩ := RepV.lit (hr 1 _ v2 rfl rfl)
      by_cases h8 : s.size ≤ 8
      · have h := iaS_spec (N := N) [.lit (.string s), .lit (.string mk2)] (by rw [iaSC_at]; exact ⟨rfl, h8⟩) F w _ hF hok hrep'
        rw [iaSC_at] at h
        exact h
      · refine (Any.strings_IndexAny_long (P := Try.prog) (ρ := lays153_ren) lays153 (zero_of_info ia_zero).1 (zero_of_info ia_zero).2 s mk2 w (by decide) (by omega) hs (by decide) mk2_ascii).mono ?_
        rintro e w' ⟨rfl, rfl⟩
        have hb : Below w.heap.size w ((w.alloc (.cells (Lib.setCells mk2.data.toList) (lays153_ren.t 116))).alloc (.cells (Lib.setCells mk2.data.toList) (lays153_ren.t 116))) := ((Below.refl _ _).alloc (Nat.le_refl _) _).alloc (by simp) _
        exact ⟨_, rfl, RepV.of_lit rfl, ⟨hb.os, hb.tape, hb.output, hb.size, fun k hk _ => hb.block k hk⟩⟩
  · exact hp.elim
theorem ia_ok : callable Try.prog 64 = true := by kernel_rfl
def dsh : ByteArray := ⟨#[45]⟩
instance (s : ByteArray) : Decidable (ngS s) := by unfold ngS; infer_instance
theorem dsh_list {s : ByteArray} (h : 0 < s.size) : ((s.extract 0 1).toList = dsh.toList) ↔ bt s 0 = 45 := by
  rw [Lib.toList_data, Lib.toList_data]
  have h1 : (s.extract 0 1).size = 1 := by rw [ByteArray.size_extract]; omega
  have hl : (s.extract 0 1).data.toList.length = 1 := by rw [← Lib.size_eq]; exact h1
  have hd : dsh.data.toList = [45] := rfl
  rw [hd]
  cases hx : (s.extract 0 1).data.toList with
  | nil => rw [hx] at hl; simp at hl
  | cons a r =>
    rw [hx] at hl
    have hr : r = [] := by simpa using hl
    subst hr
    have hb := bt_data (s := s.extract 0 1) (j := 0) (b := a) (by rw [hx]; rfl)
    have he := bt_extract s (a := 0) (b := 1) (i := 0) (by omega) (by omega)
    rw [hb.2] at he
    simp only [Nat.add_zero] at he
    rw [← he]
    constructor
    · intro h2
      injection h2 with h2
      subst h2
      rfl
    · intro h2
      have : a = 45 := by apply UInt8.toNat_inj.1; show a.toNat = 45; omega
      rw [this]
noncomputable def hpC := ct2 EStr EStr (fun s b => b = dsh) (fun s b => [.lit (.bool (decide (ngS s)))])
@[simp] theorem hpC_at (s : ByteArray) : hpC [.lit (.string s), .lit (.string dsh)] = ((dsh = dsh), [.lit (.bool (decide (ngS s)))]) := ct2_at (A := EStr) (B := EStr) s dsh
theorem hp_spec {N : NR} : SpecD N Try.prog 123 hpC := by
  refine rd2 (mf := fun f => false) (tb := tbl []) tbl_nil (fn := Try.f123) (by kernel_rfl) rfl (by kernel_rfl) (by kernel_rfl) ?_
  rintro s b hb
  have hb : b = dsh := hb
  subst hb
  have hz : dsh.size = 1 := rfl
  show awp _ _ _ _ (start _ ([D.lit (.string s), D.lit (.string dsh)].map .dat) []) (endK _ _ _ ([D.lit (.bool (decide (ngS s)))].map .dat) [])
  by_cases h : 0 < s.size
  · have h1 : (1 : Int) ≤ s.size := by omega
    have h1' : 1 ≤ s.size := h
    have hn : ¬ (s.size : Int) < 1 := by omega
    by_cases hg : bt s 0 = 45
    · have e : ngS s := ⟨h, hg⟩
      have hl : (s.extract 0 1).toList = dsh.toList := (dsh_list h).2 hg
      simp [-D.isLit, Try.f123, hz, h1, h1', e, hl, hn]
    · have e : ¬ ngS s := fun h => hg h.2
      have hl : ((s.extract 0 1).toList == dsh.toList) = false := beq_eq_false_iff_ne.2 fun h2 => hg ((dsh_list h).1 h2)
      simp [-D.isLit, Try.f123, hz, h1, h1', e, hl, hn]
  · have e : ¬ ngS s := fun h2 => h h2.1
    have h0 : s.size = 0 := by omega
    simp [-D.isLit, Try.f123, hz, h0, e]
theorem hp_ok : callable Try.prog 123 = true := by kernel_rfl
def cutD (s : ByteArray) : List D := if ngS s then [.lit (.string (s.extract 1 s.size)), .lit (.bool true)] else [.lit (.string s), .lit (.bool false)]
noncomputable def cpC := ct2 EStr EStr (fun s b => b = dsh) (fun s b => cutD s)
theorem cpC_at (s : ByteArray) : cpC [.lit (.string s), .lit (.string dsh)] = ((dsh = dsh), cutD s) := ct2_at (A := EStr) (B := EStr) s dsh
theorem cpC_yes {s : ByteArray} (h : ngS s) : cpC [.lit (.string s), .lit (.string dsh)] = (True, [.lit (.string (s.extract 1 s.size)), .lit (.bool true)]) := by rw [cpC_at, cutD, if_pos h, eq_true rfl]
theorem cpC_no {s : ByteArray} (h : ¬ ngS s) : cpC [.lit (.string s), .lit (.string dsh)] = (True, [.lit (.string s), .lit (.bool false)]) := by rw [cpC_at, cutD, if_neg h, eq_true rfl]
noncomputable def cp1Tb : List (FuncId × Ct) := [(123, .data hpC)]
theorem cp1Tb_ok {N : NR} : TbOK N Try.prog (tbl cp1Tb) := tbl_cons (c := .data hpC) hp_spec hp_ok tbl_nil
@[simp] theorem cp1Tb1 : tbl cp1Tb 123 = some (.data hpC) := rfl
theorem cp1_spec {N : NR} : SpecD N Try.prog 99 cpC := by
  refine rd2 (mf := fun f => false) cp1Tb_ok (fn := Try.f99) (by kernel_rfl) rfl (by kernel_rfl) (by kernel_rfl) ?_
  rintro s b hb
  have hb : b = dsh := hb
  subst hb
  have hz : dsh.size = 1 := rfl
  show awp _ _ _ _ (start _ ([D.lit (.string s), D.lit (.string dsh)].map .dat) []) (endK _ _ _ ((cutD s).map .dat) [])
  by_cases h : ngS s
  · have e : cutD s = [.lit (.string (s.extract 1 s.size)), .lit (.bool true)] := by rw [cutD, if_pos h]
    rw [e]
    have h1 : 1 ≤ s.size := h.1
    have h1z : (1 : Int) ≤ s.size := by omega
    simp [-D.isLit, Try.f99, hz, h, h1, h1z]
  · have e : cutD s = [.lit (.string s), .lit (.bool false)] := by rw [cutD, if_neg h]
    rw [e]
    simp [-D.isLit, Try.f99, hz, h]
theorem cp1_ok : callable Try.prog 99 = true := by kernel_rfl
noncomputable def cp2Tb : List (FuncId × Ct) := [(99, .data cpC)]
theorem cp2Tb_ok {N : NR} : TbOK N Try.prog (tbl cp2Tb) := tbl_cons (c := .data cpC) cp1_spec cp1_ok tbl_nil
@[simp] theorem cp2Tb1 : tbl cp2Tb 99 = some (.data cpC) := rfl
theorem cp2_spec {N : NR} : SpecD N Try.prog 63 cpC := by
  refine rd2 (mf := fun f => false) cp2Tb_ok (fn := Try.f63) (by kernel_rfl) rfl (by kernel_rfl) (by kernel_rfl) ?_
  rintro s b hb
  have hb : b = dsh := hb
  subst hb
  show awp _ _ _ _ (start _ ([D.lit (.string s), D.lit (.string dsh)].map .dat) []) (endK _ _ _ ((cutD s).map .dat) [])
  by_cases h : ngS s
  · have e : cutD s = [.lit (.string (s.extract 1 s.size)), .lit (.bool true)] := by rw [cutD, if_pos h]
    rw [e]
    simp [-D.isLit, Try.f63, cpC_yes h]
  · have e : cutD s = [.lit (.string s), .lit (.bool false)] := by rw [cutD, if_neg h]
    rw [e]
    simp [-D.isLit, Try.f63, cpC_no h]
theorem cp2_ok : callable Try.prog 63 = true := by kernel_rfl
end Go.Proofs.Ytpggfnggffedlaa.Ae

namespace Go.Proofs.Ytpggfnggffedlaa.Ae
open Go Go.RowKit Go.Proofs.Ytpggfnggffedlaa.Dig
open Classical in
noncomputable def dgD (s : ByteArray) : List D := if num18 s 0 s.size then [.lit (.int .i64 (dv s 0 s.size)), .lit (.bool true)] else [.lit (.int .i64 0), .lit (.bool false)]
theorem dgD_yes {s : ByteArray} (h : num18 s 0 s.size) : dgD s = [.lit (.int .i64 (dv s 0 s.size)), .lit (.bool true)] := by unfold dgD; rw [if_pos h]
theorem dgD_no {s : ByteArray} (h : ¬ num18 s 0 s.size) : dgD s = [.lit (.int .i64 0), .lit (.bool false)] := by unfold dgD; rw [if_neg h]
noncomputable def d18C := ct1 EStr (fun s => s.size < 4611686018427387904) (fun s => dgD s)
theorem d18C_at (s : ByteArray) : d18C [.lit (.string s)] = (s.size < 4611686018427387904, dgD s) := ct1_at (A := EStr) s
theorem u8_id (x : Int) (h0 : 0 ≤ x) (h1 : x < 256) : IntKind.u8.wrap x = x := by
  unfold IntKind.wrap; simp [IntKind.bits, IntKind.signed]; omega
def d18S (s : ByteArray) (i : Nat) : St := ⟨[.dat (.lit (.string s)), .any, .any, .any, .dat (.lit (.int .i64 (dv s 0 i))), .dat (.lit (.int .i64 i)), .any, .any, .any, .any, .any, .any, .any, .any, .any, .any, .any, .any, .any, .any, .any, .any, .any, .any, .any, .any, .any, .any, .any, .any, .any, .any, .any, .any, .any, .any, .any, .any, .any], [none, none, none, none, none, none, none, none, none, none, none, none, none, none, none, none, none, none, none, none, none, none, none, none, none, none, none, none, none, none, none, none, none, none, none, none, none, none, none]⟩
set_option maxRecDepth 100000 in
set_option maxHeartbeats 4000000 in
theorem d18_spec {N : NR} : SpecD N Try.prog 65 d18C := by
  refine rd1 (mf := fun f => false) (tb := tbl []) tbl_nil (fn := Try.f65) (by kernel_rfl) rfl (by kernel_rfl) (by kernel_rfl) ?_
  intro s hp
  have hp : s.size < 4611686018427387904 := hp
  generalize hr : dgD s = r
  show awp _ _ _ _ (start _ ([D.lit (.string s)].map .dat) []) (endK _ _ _ (r.map .dat) [])
  simp only [Try.f65]
  by_cases h1 : s.size < 1
  · have er : r = [.lit (.int .i64 0), .lit (.bool false)] := by rw [← hr]; exact dgD_no fun h => by have := h.1; omega
    subst er
    have h0 : s.size = 0 := by omega
    simp [-D.isLit, h0]
  by_cases h2 : 18 < s.size
  · have er : r = [.lit (.int .i64 0), .lit (.bool false)] := by rw [← hr]; exact dgD_no fun h => by have := h.2.1; omega
    subst er
    have h1z : ¬ (s.size : Int) < 1 := by omega
    have h2z : (18 : Int) < s.size := by omega
    have h0 : ¬ s.size = 0 := by omega
    simp [-D.isLit, h1, h1z, h2, h2z, h0]
  have h1z : ¬ (s.size : Int) < 1 := by omega
  have h2z : ¬ (18 : Int) < s.size := by omega
  have h0 : ¬ s.size = 0 := by omega
  simp [-D.isLit, h1, h1z, h2, h2z, h0]
  refine loop_go (fun n st => ∃ i, n = s.size - i ∧ i ≤ s.size ∧ (∀ j, 0 ≤ j → j < 0 + i → isDg (bt s j)) ∧ st = d18S s i) (s0 := d18S s 0) (n := s.size) (snd_of (by simp [LeT, d18S, dv]) (by simp [d18S])) ⟨0, rfl, Nat.zero_le _, fun j _ hj => by omega, rfl⟩ ?_
  rintro n st ⟨i, hn, hi, hall, rfl⟩ KN hN
  by_cases hh : i < s.size
  · obtain ⟨x, hx⟩ : ∃ x, bt s i = x := ⟨_, rfl⟩
    have hxb : byteAt s (i : Int) = x := hx
    have hrng := bt_get hh
    rw [hx] at hrng
    have hx0 : 0 ≤ x := by omega
    obtain ⟨v0, v1⟩ := dv_small hall (by omega)
    have w1 : IntKind.i64.wrap ((i : Int) + 1) = (i : Int) + 1 := i64_id _ (by omega) (by omega)
    by_cases c1 : x < 48
    · have er : r = [.lit (.int .i64 0), .lit (.bool false)] := by
        rw [← hr]
        exact dgD_no fun h => by have := h.2.2.2.2 i (by omega) hh; unfold isDg at this; omega
      subst er
      simp [-D.isLit, d18S, hh, hxb, c1]
    by_cases c2 : 57 < x
    · have er : r = [.lit (.int .i64 0), .lit (.bool false)] := by
        rw [← hr]
        exact dgD_no fun h => by have := h.2.2.2.2 i (by omega) hh; unfold isDg at this; omega
      subst er
      simp [-D.isLit, d18S, hh, hxb, c1, c2]
    have hall2 : ∀ j, 0 ≤ j → j < 0 + (i + 1) → isDg (bt s j) := by
      intro j a b
      by_cases hj : j < 0 + i
      · exact hall j a hj
      · obtain rfl : j = i := by omega
        unfold isDg; omega
    have hdv : dv s 0 (i + 1) = 10 * dv s 0 i + (x - 48) := by rw [dv, Nat.zero_add, hx]
    obtain ⟨u0, u1⟩ := dv_small hall2 (by omega)
    rw [hdv] at u0 u1
    generalize hv : dv s 0 i = v at *
    have w2 : IntKind.u8.wrap (x - 48) = x - 48 := u8_id _ (by omega) (by omega)
    have w3 : IntKind.i64.wrap (x - 48) = x - 48 := i64_id _ (by omega) (by omega)
    have w4 : IntKind.i64.wrap (v * 10) = v * 10 := i64_id _ (by omega) (by omega)
    have w5 : IntKind.i64.wrap (v * 10 + (x - 48)) = v * 10 + (x - 48) := i64_id _ (by omega) (by omega)
    have e5 : dv s 0 (i + 1) = v * 10 + (x - 48) := by rw [hdv]; omega
    simp [-D.isLit, d18S, hh, hxb, c1, c2, w1, w2, w3, w4, w5, hv]
    exact hN _ (nx (m := s.size - (i + 1)) (s'' := d18S s (i + 1)) (snd_of (by simp [LeT, d18S, e5]) (by simp [d18S])) ⟨i + 1, rfl, hh, hall2, rfl⟩ (by omega))
  · have hil : i = s.size := by omega
    subst hil
    have er : r = [.lit (.int .i64 (dv s 0 s.size)), .lit (.bool true)] := by
      rw [← hr]
      exact dgD_yes ⟨by omega, by omega, by omega, Nat.le_refl _, fun j a b => hall j a (by omega)⟩
    subst er
    simp [-D.isLit, d18S]
theorem d18_ok : callable Try.prog 65 = true := by kernel_rfl
noncomputable def l1DC := ct2 EStr EInt (fun s i => (0 ≤ i ∧ i ≤ s.size) ∧ s.size < 4611686018427387904) (fun s i => [.lit (.int .i64 (dv s i.toNat (min (cnt s 19 i.toNat) 18))), .lit (.int .i64 (cnt s 19 i.toNat))])
theorem l1DC_at (s : ByteArray) (i : Int) : l1DC [.lit (.string s), .lit (.int .i64 i)] = (((0 ≤ i ∧ i ≤ s.size) ∧ s.size < 4611686018427387904), [.lit (.int .i64 (dv s i.toNat (min (cnt s 19 i.toNat) 18))), .lit (.int .i64 (cnt s 19 i.toNat))]) := ct2_at (A := EStr) (B := EInt) s i
def l1DS (s : ByteArray) (i n : Nat) : St := ⟨[.dat (.lit (.string s)), .dat (.lit (.int .i64 i)), .any, .any, .any, .any, .dat (.lit (.int .i64 (dv s i (min n 18)))), .dat (.lit (.int .i64 n)), .any, .any, .any, .any, .any, .any, .any, .any, .any, .any, .any, .any, .any, .any, .any, .any, .any, .any, .any, .any, .any, .any, .any, .any, .any, .any, .any, .any, .any, .any, .any, .any, .any, .any, .any, .any, .any, .any, .any, .any, .any, .any], [none, none, none, none, none, none, none, none, none, none, none, none, none, none, none, none, none, none, none, none, none, none, none, none, none, none, none, none, none, none, none, none, none, none, none, none, none, none, none, none, none, none, none, none, none, none, none, none, none, none]⟩
set_option maxRecDepth 100000 in
set_option maxHeartbeats 4000000 in
theorem l1D_spec {N : NR} : SpecD N Try.prog 56 l1DC := by
  refine rd2 (mf := fun f => false) (tb := tbl []) tbl_nil (fn := Try.f56) (by kernel_rfl) rfl (by kernel_rfl) (by kernel_rfl) ?_
  rintro s i' ⟨⟨hi0, hi1⟩, hp⟩
  have hi0 : 0 ≤ i' := hi0
  have hi1 : i' ≤ s.size := hi1
  have hp : s.size < 4611686018427387904 := hp
  obtain ⟨i, rfl⟩ := Int.eq_ofNat_of_zero_le hi0
  have hi : i ≤ s.size := by omega
  have hc : ∀ n, n ≤ 19 → dgs s i (i + n) → (n < 19 → ¬ (i + n < s.size ∧ isDg (bt s (i + n)))) → cnt s 19 i = n := fun n a b c => cnt_eq a b c
  generalize hr : cnt s 19 i = r at hc
  show awp _ _ _ _ (start _ ([D.lit (.string s), D.lit (.int .i64 i)].map .dat) []) (endK _ _ _ (([.lit (.int .i64 (dv s (i : Int).toNat (min (cnt s 19 (i : Int).toNat) 18))), .lit (.int .i64 (cnt s 19 (i : Int).toNat))] : List D).map .dat) [])
  rw [Int.toNat_natCast, hr]
  simp only [Try.f56]
  simp [-D.isLit]
  refine loop_go (fun m st => ∃ n, m = 19 - n ∧ n ≤ 19 ∧ dgs s i (i + n) ∧ st = l1DS s i n) (s0 := l1DS s i 0) (n := 19) (snd_of (by simp [LeT, l1DS, dv]) (by simp [l1DS])) ⟨0, rfl, by omega, ⟨by omega, by omega, fun j a b => by omega⟩, rfl⟩ ?_
  rintro m st ⟨n, hm, hn, hd, rfl⟩ KN hN
  have hsz := hd.2.1
  have w0 : IntKind.i64.wrap ((i : Int) + n) = (i : Int) + n := i64_id _ (by omega) (by omega)
  have wn : IntKind.i64.wrap ((n : Int) + 1) = (n : Int) + 1 := i64_id _ (by omega) (by omega)
  by_cases c1 : i + n < s.size
  case neg =>
    have er := hc n hn hd (fun _ h => c1 h.1)
    subst er
    have c1z : ¬ (i : Int) + r < s.size := by omega
    simp [-D.isLit, l1DS, w0, c1, c1z]
  have c1z : (i : Int) + n < s.size := by omega
  by_cases c2 : n < 19
  case neg =>
    obtain rfl : n = 19 := by omega
    have er := hc 19 (Nat.le_refl _) hd (fun h => by omega)
    subst er
    have c1z' : (i : Int) + 19 < s.size := by omega
    have w0' : IntKind.i64.wrap ((i : Int) + 19) = (i : Int) + 19 := i64_id _ (by omega) (by omega)
    simp [-D.isLit, l1DS, w0', c1, c1z']
  have c2z : (n : Int) < 19 := by omega
  obtain ⟨x, hx⟩ : ∃ x, bt s (i + n) = x := ⟨_, rfl⟩
  have hxb : byteAt s ((i : Int) + n) = x := by rw [← hx]; unfold bt; rw [Int.natCast_add]
  have hrng := bt_get c1
  rw [hx] at hrng
  have hx0 : 0 ≤ x := by omega
  have g0 : 0 ≤ (i : Int) + n := by omega
  have g1 : ¬ (i : Int) + n < 0 := by omega
  by_cases c3 : x < 48
  · have er := hc n hn hd (fun _ h => by have := h.2; unfold isDg at this; omega)
    subst er
    have c3' : ¬ 48 ≤ x := by omega
    simp [-D.isLit, l1DS, w0, c1, c1z, c2, c2z, hxb, c3, c3', g0, g1]
  have c3' : 48 ≤ x := by omega
  by_cases c4 : 57 < x
  · have er := hc n hn hd (fun _ h => by have := h.2; unfold isDg at this; omega)
    subst er
    have c4' : ¬ x ≤ 57 := by omega
    simp [-D.isLit, l1DS, w0, c1, c1z, c2, c2z, hxb, c3, c3', c4, c4', g0, g1]
  have c4' : x ≤ 57 := by omega
  have hd2 : dgs s i (i + (n + 1)) := ⟨by omega, by omega, fun j a b => by
    by_cases hj : j < i + n
    · exact hd.2.2 j a hj
    · obtain rfl : j = i + n := by omega
      unfold isDg; omega⟩
  by_cases c5 : n < 18
  · have hmin : min n 18 = n := by omega
    have hmin2 : min (n + 1) 18 = n + 1 := by omega
    have hdv : dv s i (n + 1) = 10 * dv s i n + (x - 48) := by rw [dv, hx]
    obtain ⟨v0, v1⟩ := dv_small hd.2.2 (by omega)
    obtain ⟨u0, u1⟩ := dv_small hd2.2.2 (by omega)
    rw [hdv] at u0 u1
    generalize hv : dv s i n = v at *
    have c5z : (n : Int) < 18 := by omega
    have w2 : IntKind.u8.wrap (x - 48) = x - 48 := u8_id _ (by omega) (by omega)
    have w3 : IntKind.i64.wrap (x - 48) = x - 48 := i64_id _ (by omega) (by omega)
    have w4 : IntKind.i64.wrap (10 * v) = 10 * v := i64_id _ (by omega) (by omega)
    have w5 : IntKind.i64.wrap (10 * v + (x - 48)) = 10 * v + (x - 48) := i64_id _ (by omega) (by omega)
    simp [-D.isLit, l1DS, w0, wn, c1, c1z, c2, c2z, hxb, c3, c3', c4, c4', c5, c5z, w2, w3, w4, w5, hmin, hv, g0, g1]
    exact hN _ (nx (m := 19 - (n + 1)) (s'' := l1DS s i (n + 1)) (snd_of (by simp [LeT, l1DS, hmin2, hdv]) (by simp [l1DS])) ⟨n + 1, rfl, by omega, hd2, rfl⟩ (by omega))
  · obtain rfl : n = 18 := by omega
    have w0' : IntKind.i64.wrap ((i : Int) + 18) = (i : Int) + 18 := i64_id _ (by omega) (by omega)
    have hxb' : byteAt s ((i : Int) + 18) = x := hxb
    have c1z' : (i : Int) + 18 < s.size := c1z
    have g0' : 0 ≤ (i : Int) + 18 := g0
    have g1' : ¬ (i : Int) + 18 < 0 := g1
    have w19 : IntKind.i64.wrap 19 = 19 := by decide
    simp [-D.isLit, l1DS, w0', c1, c1z', hxb', c3, c3', c4, c4', g0', g1', w19]
    exact hN _ (nx (m := 19 - (18 + 1)) (s'' := l1DS s i (18 + 1)) (snd_of (by simp [LeT, l1DS]) (by simp [l1DS])) ⟨18 + 1, rfl, by omega, hd2, rfl⟩ (by omega))
theorem l1D_ok : callable Try.prog 56 = true := by kernel_rfl
end Go.Proofs.Ytpggfnggffedlaa.Ae

namespace Go.Proofs.Ytpggfnggffedlaa.Ae
open Go Go.RowKit Go.Proofs.Ytpggfnggffedlaa.Dig
def sgq (neg : Bool) : Option Rat → Int × Int × Bool
  | some q => oq (if neg then -q else q)
  | none => (0, 0, false)
noncomputable def qrdC := ct1 EStr (fun s => s.size < 4294967281) (fun s => [eQ (qr s).1 (qr s).2.1, .lit (.bool (qr s).2.2)])
theorem qrdC_at (s : ByteArray) : qrdC [.lit (.string s)] = (s.size < 4294967281, [eQ (qr s).1 (qr s).2.1, .lit (.bool (qr s).2.2)]) := ct1_at (A := EStr) s
theorem qr_cut (s : ByteArray) : ∃ t neg, cpC [.lit (.string s), .lit (.string ⟨#[45]⟩)] = (True, [.lit (.string t), .lit (.bool neg)]) ∧ t.size ≤ s.size ∧ qr s = sgq neg (rdN t 0) := by
  by_cases h : ngS s
  · refine ⟨_, _, cpC_yes h, by rw [ByteArray.size_extract]; omega, ?_⟩
    unfold qr rdv
    rw [if_pos h, rdN_cut s h.1]
    cases rdN s 1 <;> rfl
  · refine ⟨_, _, cpC_no h, Nat.le_refl _, ?_⟩
    unfold qr rdv
    rw [if_neg h]
    cases rdN s 0 <;> rfl
theorem num_ext {s : ByteArray} {a b : Nat} (hab : a ≤ b) (hb : b ≤ s.size) : num18 (s.extract a b) 0 (s.extract a b).size ↔ num18 s a b := by
  have hz : (s.extract a b).size = b - a := by rw [ByteArray.size_extract]; omega
  unfold num18 dgs
  rw [hz]
  constructor
  · rintro ⟨h1, h2, h3, h4, h5⟩
    refine ⟨by omega, by omega, hab, hb, fun i h6 h7 => ?_⟩
    have := h5 (i - a) (by omega) (by omega)
    rw [bt_extract s hb (by omega), show a + (i - a) = i by omega] at this
    exact this
  · rintro ⟨h1, h2, h3, h4, h5⟩
    refine ⟨by omega, by omega, by omega, Nat.le_refl _, fun i h6 h7 => ?_⟩
    rw [bt_extract s hb (by omega)]
    exact h5 _ (by omega) (by omega)
theorem d18_ext {s : ByteArray} {a b : Nat} (hab : a ≤ b) (hb : b ≤ s.size) (hs : s.size < 4294967281) :
    (num18 s a b → d18C [.lit (.string (s.extract a b))] = (True, [.lit (.int .i64 (dv s a (b - a))), .lit (.bool true)])) ∧ (¬ num18 s a b → d18C [.lit (.string (s.extract a b))] = (True, [.lit (.int .i64 0), .lit (.bool false)])) := by
  have hz : (s.extract a b).size = b - a := by rw [ByteArray.size_extract]; omega
  constructor
  · intro h
    have e : dv (s.extract a b) 0 (b - a) = dv s a (b - a) := dv_extract s hb (by omega)
    rw [d18C_at, dgD_yes ((num_ext hab hb).2 h), hz, e, eq_true (show b - a < 4611686018427387904 by omega)]
  · intro h
    rw [d18C_at, dgD_no (fun h2 => h ((num_ext hab hb).1 h2)), hz, eq_true (show b - a < 4611686018427387904 by omega)]
theorem div_join (n m P : Int) (h : P ≠ 0) : Rat.divInt n 1 + Rat.divInt m P = Rat.divInt (n * P + m) P := by
  rw [Rat.divInt_add_divInt _ _ (by decide) h]
  simp
theorem ln_18 {n : Int} (h0 : 0 ≤ n) (h1 : n ≤ 1000000000000000000) : ln n.natAbs ≤ 2 := ln_i64 (by omega)
theorem qsz_18 {n d : Int} (h0 : 0 ≤ n) (h1 : n ≤ 1000000000000000000) (h2 : 0 < d) (h3 : d ≤ 1000000000000000000) : qsz (Rat.divInt n d) ≤ 2 := by
  have := qsz_divInt (n := n) (d := d) (by omega)
  have a := ln_18 h0 h1
  have b := ln_18 (n := d) (by omega) h3
  omega
noncomputable def iqrTb : List (FuncId × Ct) := [(63, .data cpC), (64, .data iaC), (65, .data d18C), (66, .data riC), (67, .data lowC), (70, .data nbrC), (69, .mut [true, false, false] bAddC), (68, .data fitC), (71, .data rngC), (72, .data rqqC)]
theorem iqrTb_ok {N : NR} : TbOK N Try.prog (tbl iqrTb) := tbl_cons (c := .data cpC) cp2_spec cp2_ok (tbl_cons (c := .data iaC) ia_spec ia_ok (tbl_cons (c := .data d18C) d18_spec d18_ok (tbl_cons (c := .data riC) ri_spec ri_ok (tbl_cons (c := .data lowC) low_spec low_ok (tbl_cons (c := .data nbrC) newBigRat_spec newBigRat_ok (tbl_cons (c := .mut [true, false, false] bAddC) RAdd_spec RAdd_ok (tbl_cons (c := .data fitC) fit_spec fit_ok (tbl_cons (c := .data rngC) rneg_spec rneg_ok (tbl_cons (c := .data rqqC) rqq_spec rqq_ok tbl_nil)))))))))
@[simp] theorem iqrTb1 : tbl iqrTb 63 = some (.data cpC) := rfl
@[simp] theorem iqrTb2 : tbl iqrTb 64 = some (.data iaC) := rfl
@[simp] theorem iqrTb3 : tbl iqrTb 65 = some (.data d18C) := rfl
@[simp] theorem iqrTb4 : tbl iqrTb 66 = some (.data riC) := rfl
@[simp] theorem iqrTb5 : tbl iqrTb 67 = some (.data lowC) := rfl
@[simp] theorem iqrTb6 : tbl iqrTb 70 = some (.data nbrC) := rfl
@[simp] theorem iqrTb7 : tbl iqrTb 69 = some (.mut [true, false, false] bAddC) := rfl
@[simp] theorem iqrTb8 : tbl iqrTb 68 = some (.data fitC) := rfl
@[simp] theorem iqrTb9 : tbl iqrTb 71 = some (.data rngC) := rfl
@[simp] theorem iqrTb10 : tbl iqrTb 72 = some (.data rqqC) := rfl
def iqS (R : ByteArray) (neg : Bool) (n m : Int) (k : Nat) : St := ⟨[.any, .any, .obj 2 [] 0, .any, .any, .dat (.lit (.bool neg)), .any, .any, .any, .dat (.lit (.int .i64 n)), .any, .obj 11 [] 0, .dat (.lit (.int .i64 m)), .any, .dat (.lit (.int .i64 (10 ^ k))), .any, .any, .any, .any, .any, .any, .any, .any, .any, .any, .any, .any, .any, .any, .any, .any, .any, .any, .any, .any, .any, .any, .any, .any, .any, .any, .any, .any, .any, .any, .any, .any, .any, .any, .any, .any, .any, .any, .any, .any, .any, .any, .any, .any, .any, .any, .any, .any, .mpx 63, .any, .any, .any, .any, .any, .any, .any, .any, .any, .any, .any, .any, .any, .any, .any, .any, .any, .any, .any], [none, none, some (.box (.agg [.lit (.int .i64 0), .lit (.int .i64 0)])), none, none, none, none, none, none, none, none, some (.box (eRat (n : Rat))), none, none, none, none, none, none, none, none, none, none, none, none, none, none, none, none, none, none, none, none, none, none, none, none, none, none, none, none, none, none, none, none, none, none, none, none, none, none, none, none, none, none, none, none, none, none, none, none, none, none, none, some (.mp itS [.string R, .int .i64 k]), none, none, none, none, none, none, none, none, none, none, none, none, none, none, none, none, none, none, none]⟩
set_option maxRecDepth 100000 in
set_option maxHeartbeats 4000000 in
theorem iqr_spec {N : NR} : SpecD N Try.prog 25 qrdC := by
  refine rd1 (mf := fun f => f == 69 || f == 68) iqrTb_ok (fn := Try.f25) (by kernel_rfl) rfl (by kernel_rfl) (by kernel_rfl) ?_
  intro s hs
  have hs : s.size < 4294967281 := hs
  obtain ⟨t, neg, hcp, hts, hrt⟩ := qr_cut s
  generalize hr : qr s = r at hrt
  show awp _ _ _ _ (start _ ([D.lit (.string s)].map .dat) []) (endK _ _ _ ((([eQ r.1 r.2.1, .lit (.bool r.2.2)]) : List D).map .dat) [])
  clear hr
  have ht : t.size < 4294967281 := by omega
  have hiat := iaC_at t
  rw [eq_true (⟨rfl, ht⟩ : mk2 = mk2 ∧ t.size < 4294967281)] at hiat
  rcases ixA_is t with ⟨hix, hno⟩ | ⟨p, hp, hix, hmk, hno⟩
  · rw [hix] at hiat
    have hia : iaC [.lit (.string t), .lit (.string ⟨#[47, 46]⟩)] = (True, [.lit (.int .i64 (-1))]) := hiat
    have hd := d18C_at t
    rw [eq_true (show t.size < 4611686018427387904 by omega)] at hd
    obtain ⟨n1, n2⟩ := rd_none (s := t) (lo := 0) (Nat.zero_le _) (fun i _ h => hno i h)
    by_cases hn : num18 t 0 t.size
    · rw [n1 hn] at hrt
      rw [dgD_yes hn] at hd
      obtain ⟨v0, v1⟩ := dv_small (s := t) (lo := 0) (n := t.size) (fun i a b => hn.2.2.2.2 i (by omega) (by omega)) (by have := hn.2.1; omega)
      simp only [Nat.sub_zero] at hrt
      have hq := qsz_18 v0 (by omega) (show (0 : Int) < 1 by decide) (by decide)
      generalize dv t 0 t.size = v at *
      have e1 : Rat.divInt v 1 = (v : Rat) := divInt_one v
      rw [e1] at hrt hq
      have hq : qsz (v : Rat) < MX := by unfold MX; omega
      have hnat : v.natAbs < 9223372036854775808 := by omega
      cases neg
      · have hrt : r = oq (v : Rat) := hrt
        subst hrt
        simp [-D.isLit, Try.f25, hcp, hia, hd, hnat]
      · have hrt : r = oq (-(v : Rat)) := hrt
        subst hrt
        simp [-D.isLit, Try.f25, hcp, hia, hd, hnat, hq]
    · rw [n2 hn] at hrt
      rw [dgD_no hn] at hd
      have hrt : r = (0, 0, false) := hrt
      subst hrt
      simp [-D.isLit, Try.f25, hcp, hia, hd]
      exact Sub.refl _
  rw [hix] at hiat
  have hia : iaC [.lit (.string t), .lit (.string ⟨#[47, 46]⟩)] = (True, [.lit (.int .i64 (p : Int))]) := hiat
  have w1 : IntKind.i64.wrap ((p : Int) + 1) = (p : Int) + 1 := i64_id _ (by omega) (by omega)
  have g1 : ((p : Int) + 1).toNat = p + 1 := by omega
  have g2 : (p : Int) + 1 ≤ t.size := by omega
  have g3 : 0 ≤ (p : Int) + 1 := by omega
  have g4 : p ≤ t.size := by omega
  have g5 : (p : Int) ≤ t.size := by omega
  obtain ⟨y1, y2⟩ := d18_ext (s := t) (a := 0) (b := p) (Nat.zero_le _) g4 ht
  obtain ⟨z1, z2⟩ := d18_ext (s := t) (a := p + 1) (b := t.size) hp (Nat.le_refl _) ht
  obtain ⟨n1, n2⟩ := rd_mark (s := t) (lo := 0) (Nat.zero_le p) hp hmk (fun i _ h => hno i h)
  by_cases hn1 : num18 t 0 p
  case neg =>
    rw [n2 (fun h => hn1 h.1)] at hrt
    have hrt : r = (0, 0, false) := hrt
    subst hrt
    have hd := y2 hn1
    simp [-D.isLit, Try.f25, hcp, hia, hd, w1, g1, g2, g3, g4, g5]
    exact Sub.refl _
  have hd := y1 hn1
  obtain ⟨v0, v1⟩ := dv_small (s := t) (lo := 0) (n := p) (fun i a b => hn1.2.2.2.2 i (by omega) (by omega)) (by have := hn1.2.1; omega)
  have n1 := n1
  rw [Nat.sub_zero] at hd n1
  by_cases hn2 : num18 t (p + 1) t.size
  case neg =>
    rw [n2 (fun h => hn2 h.2)] at hrt
    have hrt : r = (0, 0, false) := hrt
    subst hrt
    have hd2 := z2 hn2
    have hnat : (dv t 0 p).natAbs < 9223372036854775808 := by omega
    simp [-D.isLit, Try.f25, hcp, hia, hd, hd2, hnat, w1, g1, g2, g3, g4, g5]
    exact Sub.refl _
  obtain ⟨k1, k2, k3⟩ := n1 ⟨hn1, hn2⟩
  have hd2 := z1 hn2
  obtain ⟨u0, u1⟩ := dv_small (s := t) (lo := p + 1) (n := t.size - (p + 1)) (fun i a b => hn2.2.2.2.2 i (by omega) (by omega)) (by have := hn2.2.1; omega)
  generalize hv : dv t 0 p = v at *
  generalize hu : dv t (p + 1) (t.size - (p + 1)) = u at *
  have hnat : v.natAbs < 9223372036854775808 := by omega
  by_cases hmk47 : bt t p = 47
  · have hxb : byteAt t (p : Int) = 47 := hmk47
    by_cases hu0 : u = 0
    · rw [k1 hmk47 hu0] at hrt
      have hrt : r = (0, 0, false) := hrt
      subst hrt
      subst hu0
      simp [-D.isLit, Try.f25, hcp, hia, hd, hd2, hnat, hxb, hp, w1, g1, g2, g3, g4, g5]
      exact Sub.refl _
    · rw [k2 hmk47 hu0] at hrt
      have hq := qsz_18 v0 (by omega) (show 0 < u by omega) (by omega)
      have cl : lowC [.lit (.int .i64 v), .lit (.int .i64 u)] = ((v.natAbs < 9223372036854775808 ∧ 0 < u ∧ u < 9223372036854775808), [eRat (Rat.divInt v u)]) := lowC_at v u
      rw [eq_true (⟨hnat, by omega, by omega⟩ : v.natAbs < 9223372036854775808 ∧ 0 < u ∧ u < 9223372036854775808)] at cl
      generalize Rat.divInt v u = q at *
      have hq : qsz q < MX := by unfold MX; omega
      cases neg
      · have hrt : r = oq q := hrt
        subst hrt
        simp [-D.isLit, Try.f25, hcp, hia, hd, hd2, hnat, hxb, hp, hu0, cl, w1, g1, g2, g3, g4, g5]
      · have hrt : r = oq (-q) := hrt
        subst hrt
        simp [-D.isLit, Try.f25, hcp, hia, hd, hd2, hnat, hxb, hp, hu0, cl, hq, w1, g1, g2, g3, g4, g5]
  rw [k3 hmk47] at hrt
  have hmk46 : bt t p = 46 := by
    rcases hmk with h | h
    · exact absurd h hmk47
    · exact h
  have hxb : byteAt t (p : Int) = 46 := hmk46
  obtain ⟨R, hR⟩ : ∃ R, t.extract (p + 1) t.size = R := ⟨_, rfl⟩
  have hRz : R.size = t.size - (p + 1) := by rw [← hR, ByteArray.size_extract]; omega
  have hRd : ∀ i, i < R.size → isDg (bt R i) := by
    intro i hi
    rw [← hR, bt_extract t (Nat.le_refl _) (by omega)]
    exact hn2.2.2.2.2 _ (by omega) (by omega)
  have hR18 : R.size ≤ 18 := by have := hn2.2.1; omega
  rw [← hRz] at hrt
  rw [hR] at hd2
  simp [-D.isLit, Try.f25, hcp, hia, hd, hd2, hnat, hxb, hp, w1, g1, g2, g3, g4, g5, hR]
  refine loop_go (fun j st => ∃ k, j = R.size - k ∧ k ≤ R.size ∧ st = iqS R neg v u k) (s0 := iqS R neg v u 0) (n := R.size) (snd_obs (n := 83) [(2, 2, .box (.agg [.lit (.int .i64 0), .lit (.int .i64 0)])), (11, 11, .box (eRat (v : Rat))), (63, 63, .mp itS [.string R, .int .i64 0])] rfl (by simp) (by simp [iqS])) ⟨0, rfl, Nat.zero_le _, rfl⟩ ?_
  rintro j st ⟨k, hj, hk, rfl⟩ KN hN
  have hp1 := ten_le (n := k) (by omega)
  have hp0 := ten_pos k
  by_cases hh : k < R.size
  · have hdg := hRd k hh
    unfold isDg at hdg
    obtain ⟨d1, d2⟩ : ((Utf8.decode R k).1 : Int) = bt R k ∧ (Utf8.decode R k).2 = 1 := by
      rcases dec_at hh with h | h
      · exact h.2
      · have := h.2.2.2 k (by omega) (by omega); omega
    have hp2 := ten_le (n := k + 1) (by omega)
    have e10 : (10 : Int) ^ (k + 1) = 10 ^ k * 10 := Int.pow_succ _ _
    rw [e10] at hp2
    have w2 : IntKind.i64.wrap ((10 : Int) ^ k * 10) = 10 ^ k * 10 := i64_id _ (by omega) (by omega)
    simp [-D.isLit, iqS, hh, d1, d2, w2]
    exact hN _ (nx (m := R.size - (k + 1)) (s'' := iqS R neg v u (k + 1)) (snd_obs (n := 83) [(2, 2, .box (.agg [.lit (.int .i64 0), .lit (.int .i64 0)])), (11, 11, .box (eRat (v : Rat))), (63, 63, .mp itS [.string R, .int .i64 (k + 1 : Nat)])] rfl (by simp) (by simp [iqS, e10])) ⟨k + 1, rfl, hh, rfl⟩ (by omega))
  · have hkl : k = R.size := by omega
    subst hkl
    rw [← div_join v u (10 ^ R.size) (by omega)] at hrt
    have hqa := qsz_18 v0 (by omega) (show (0 : Int) < 1 by decide) (by decide)
    have hqb := qsz_18 u0 (by omega) hp0 hp1
    have hqs := qsz_add (Rat.divInt v 1) (Rat.divInt u (10 ^ R.size))
    have c1 : nbrC [.lit (.int .i64 v), .lit (.int .i64 1)] = ((I64 v ∧ I64 1 ∧ (1 : Int) ≠ 0), [.ptr (eBR (Rat.divInt v 1))]) := nbrC_at v 1
    have c2 : nbrC [.lit (.int .i64 u), .lit (.int .i64 (10 ^ R.size))] = ((I64 u ∧ I64 (10 ^ R.size) ∧ (10 : Int) ^ R.size ≠ 0), [.ptr (eBR (Rat.divInt u (10 ^ R.size)))]) := nbrC_at u _
    rw [eq_true (⟨by unfold I64; omega, by unfold I64; omega, by decide⟩ : I64 v ∧ I64 1 ∧ (1 : Int) ≠ 0)] at c1
    rw [eq_true (⟨by unfold I64; omega, by unfold I64; omega, by omega⟩ : I64 u ∧ I64 (10 ^ R.size) ∧ (10 : Int) ^ R.size ≠ 0)] at c2
    generalize Rat.divInt v 1 = qa at *
    generalize Rat.divInt u (10 ^ R.size) = qb at *
    have hs1 : qsz qa + qsz qb < MX := by unfold MX; omega
    have hs2 : qsz (qa + qb) < 1099511627776 := by omega
    have hs3 : qsz (qa + qb) < MX := by unfold MX; omega
    have c3 := bAddC_at qa qb
    have c4 := fitC_at (qa + qb)
    simp only [hs1, hs2, eBN_eq] at c3 c4
    generalize qa + qb = q at *
    cases neg
    · have hrt : r = oq q := hrt
      subst hrt
      simp [-D.isLit, iqS, c1, c2, c3, c4, List.idxOf_cons]
    · have hrt : r = oq (-q) := hrt
      subst hrt
      simp [-D.isLit, iqS, c1, c2, c3, c4, hs3, List.idxOf_cons]
theorem iqr_ok : callable Try.prog 25 = true := by kernel_rfl
end Go.Proofs.Ytpggfnggffedlaa.Ae

namespace Go.Proofs.Ytpggfnggffedlaa.Ae
open Go Go.RowKit Go.Proofs.Ytpggfnggffedlaa.Dig
theorem nav_eZ1 (z : Int) : nav (eZ z) [1] = some (eM z.natAbs, 1) := rfl
theorem len_eM (st : St) (n : Nat) : lenA st (.dat (eM n)) = .lit (.int .i64 (mag n).length) := by
  unfold eM eW
  simp [lenA]
theorem SZ_36 {n : Int} (h0 : -1000000000000000000000000000000000001000000000000000000 ≤ n) (h1 : n ≤ 1000000000000000000000000000000000001000000000000000000) : SZ n := by
  refine SZ_of (k := 6) (ln_iff.2 ?_) (by decide)
  have : B ^ 6 = 6277101735386680763835789423207666416102355444464034512896 := by decide
  omega
theorem mul_36 {a b : Int} (ha : 0 ≤ a) (ha1 : a ≤ 1000000000000000000) (hb : 0 ≤ b) (hb1 : b ≤ 1000000000000000000) : 0 ≤ a * b ∧ a * b ≤ 1000000000000000000000000000000000000 := by
  refine ⟨Int.mul_nonneg ha hb, ?_⟩
  have := Int.mul_le_mul ha1 hb1 hb (by omega)
  omega
theorem neg_div (a b : Int) : Rat.divInt (-a) b = -(Rat.divInt a b) := by
  rw [Rat.divInt_eq_div, Rat.divInt_eq_div]
  grind
theorem mag_ne {d : Int} (h : d ≠ 0) : ¬ (mag d.natAbs).length = 0 := by
  have : 1 ≤ ln d.natAbs := ln_pos (by omega)
  unfold ln at this
  omega
theorem mag_zero' : (mag 0).length = 0 := by
  rw [mag_zero]; rfl
theorem qr_yes {s : ByteArray} (h : ngS s) {q : Rat} (hq : rdN s 1 = some q) : qr s = oq (-q) := by unfold qr rdv; rw [if_pos h, hq]; rfl
theorem qr_yes0 {s : ByteArray} (h : ¬ ngS s) {q : Rat} (hq : rdN s 0 = some q) : qr s = oq q := by unfold qr rdv; rw [if_neg h, hq]
theorem qr_none {s : ByteArray} (h : ngS s) (hq : rdN s 1 = none) : qr s = (0, 0, false) := by unfold qr rdv; rw [if_pos h, hq]; rfl
theorem qr_none0 {s : ByteArray} (h : ¬ ngS s) (hq : rdN s 0 = none) : qr s = (0, 0, false) := by unfold qr rdv; rw [if_neg h, hq]
noncomputable def sqrTb : List (FuncId × Ct) := [(56, .data l1DC), (57, .data zOfC), (58, .data zMulC), (59, .data zAddC), (60, .data zNegC), (62, .data nBigC), (61, .data nQC)]
theorem sqrTb_ok : TbOK NF Try.prog (tbl sqrTb) := tbl_cons (c := .data l1DC) l1D_spec l1D_ok (tbl_cons (c := .data zOfC) l1ZOf_spec l1ZOf_ok (tbl_cons (c := .data zMulC) l1ZMul_spec l1ZMul_ok (tbl_cons (c := .data zAddC) l1ZAdd_spec l1ZAdd_ok (tbl_cons (c := .data zNegC) l1ZNeg_spec l1ZNeg_ok (tbl_cons (c := .data nBigC) nBig_spec l1rBig_ok (tbl_cons (c := .data nQC) nQ_spec l1rQ_ok tbl_nil))))))
@[simp] theorem sqrTb1 : tbl sqrTb 56 = some (.data l1DC) := rfl
@[simp] theorem sqrTb2 : tbl sqrTb 57 = some (.data zOfC) := rfl
@[simp] theorem sqrTb3 : tbl sqrTb 58 = some (.data zMulC) := rfl
@[simp] theorem sqrTb4 : tbl sqrTb 59 = some (.data zAddC) := rfl
@[simp] theorem sqrTb5 : tbl sqrTb 60 = some (.data zNegC) := rfl
@[simp] theorem sqrTb6 : tbl sqrTb 62 = some (.data nBigC) := rfl
@[simp] theorem sqrTb7 : tbl sqrTb 61 = some (.data nQC) := rfl
def sqS (s : ByteArray) (neg : Bool) (v y : Int) (m k : Nat) : St := ⟨[.any, .any, .obj 2 [] 0, .any, .any, .dat (.lit (.bool neg)), .any, .any, .obj 8 [] 0, .obj 9 [] 0, .any, .dat (.lit (.int .i64 y)), .dat (.lit (.int .i64 m)), .dat (.lit (.int .i64 k)), .any, .any, .any, .any, .any, .any, .any, .any, .any, .any, .any, .any, .any, .any, .any, .any, .any, .any, .any, .any, .any, .any, .any, .any, .any, .any, .any, .any, .any, .any, .any, .any, .any, .any, .any, .any, .any, .any, .any, .any, .any, .any, .any, .any, .any, .any, .any, .any, .any, .any, .any, .any, .any, .any, .any, .any, .any, .any, .any, .any, .any, .any, .any, .any, .any, .any, .any, .any, .any, .any, .any, .any, .any, .any, .any, .any, .any, .any, .any, .any, .any, .any, .any, .any, .any, .any, .any, .any, .any, .any, .any, .any, .any, .any, .any, .any, .any, .any, .any], [none, none, some (.box (.agg [.lit (.int .i64 0), .lit (.int .i64 0)])), none, none, none, none, none, some (.box (eZ (v * 10 ^ k))), some (.box (eZ (10 ^ k))), none, none, none, none, none, none, none, none, none, none, none, none, none, none, none, none, none, none, none, none, none, none, none, none, none, none, none, none, none, none, none, none, none, none, none, none, none, none, none, none, none, none, none, none, none, none, none, none, none, none, none, none, none, none, none, none, none, none, none, none, none, none, none, none, none, none, none, none, none, none, none, none, none, none, none, none, none, none, none, none, none, none, none, none, none, none, none, none, none, none, none, none, none, none, none, none, none, none, none, none, none, none, none]⟩
set_option maxRecDepth 100000 in
set_option maxHeartbeats 8000000 in
theorem sqr_spec : SpecD NF Try.prog 24 qrdC := by
  refine rd1 (mf := fun f => false) sqrTb_ok (fn := Try.f24) (by kernel_rfl) rfl (by kernel_rfl) (by kernel_rfl) ?_
  intro s hs
  have hs : s.size < 4294967281 := hs
  have hz10 : SZ 10 := SZ_36 (by decide) (by decide)
  have i10 : I64 10 := by unfold I64; omega
  have i1' : I64 1 := by unfold I64; omega
  generalize hr : qr s = r
  show awp _ _ _ _ (start _ ([D.lit (.string s)].map .dat) []) (endK _ _ _ ((([eQ r.1 r.2.1, .lit (.bool r.2.2)]) : List D).map .dat) [])
  by_cases h0 : 0 < s.size
  case neg =>
    have h0' : s.size = 0 := by omega
    have hg : ¬ ngS s := fun h => h0 h.1
    have hn : cnt s 19 0 = 0 := cnt_eq (by omega) ⟨by omega, by omega, fun j a b => by omega⟩ (fun _ h => by omega)
    have hN : rdN s 0 = none := by unfold rdN; rw [hn, if_neg (by omega)]
    have hrr := qr_none0 hg hN
    rw [hr] at hrr
    subst hrr
    have hl1 := l1DC_at s 0
    rw [eq_true (⟨⟨by omega, by omega⟩, by omega⟩ : ((0 : Int) ≤ 0 ∧ (0 : Int) ≤ s.size) ∧ s.size < 4611686018427387904), show (0 : Int).toNat = 0 from rfl, hn] at hl1
    simp [-D.isLit, Try.f24, h0', hl1]
    exact Sub.refl _
  have h0z : (0 : Int) < s.size := by omega
  by_cases hg : ngS s
  · have hl1 := l1DC_at s 1
    rw [eq_true (⟨⟨by omega, by omega⟩, by omega⟩ : ((0 : Int) ≤ 1 ∧ (1 : Int) ≤ s.size) ∧ s.size < 4611686018427387904), show (1 : Int).toNat = 1 from rfl] at hl1
    obtain ⟨hn19, hdg, hstop⟩ := cnt_is (s := s) (k := 19) (i := 1) (by omega)
    have hunf : rdN s 1 = rdN s 1 := rfl
    unfold rdN at hunf
    generalize hn : cnt s 19 1 = n at *
    have hb : byteAt s 0 = 45 := hg.2
    by_cases c1 : 1 ≤ n ∧ n ≤ 18
    case neg =>
      have hN : rdN s 1 = none := by unfold rdN; rw [hn, if_neg c1]
      have hrr := qr_none hg hN
      rw [hr] at hrr
      subst hrr
      by_cases c1a : n < 1
      · have hn0 : n = 0 := by omega
        subst hn0
        simp [-D.isLit, Try.f24, h0, h0z, hb, hl1]
        exact Sub.refl _
      · have hn0 : n = 19 := by omega
        subst hn0
        have w1 : IntKind.i64.wrap (1 + 19) = (1 + 19) := by decide
        simp [-D.isLit, Try.f24, h0, h0z, hb, hl1, w1]
        exact Sub.refl _
    have hmin : min n 18 = n := by omega
    rw [hmin] at hl1
    have c1a : ¬ (n : Int) < 1 := by omega
    have c1b : ¬ (18 : Int) < n := by omega
    have c1c : ¬ n < 1 := by omega
    have c1d : ¬ 18 < n := by omega
    have c1e : ¬ n = 0 := by omega
    obtain ⟨v0, v1⟩ := dv_small hdg.2.2 (by omega)
    generalize hv : dv s 1 n = v at *
    have iv : I64 v := by unfold I64; omega
    obtain ⟨i1, hi1⟩ : ∃ i1, 1 + n = i1 := ⟨_, rfl⟩
    have w1 : IntKind.i64.wrap (1 + (n : Int)) = (i1 : Int) := by rw [i64_id _ (by omega) (by omega)]; omega
    have hile : i1 ≤ s.size := by have := hdg.2.1; omega
    by_cases c2 : i1 < s.size
    case neg =>
      have c2z : ¬ (i1 : Int) < s.size := by omega
      have hN : rdN s 1 = some (Rat.divInt v 1) := by unfold rdN; rw [hn, hi1, if_pos c1, if_neg c2, hv]
      have hrr := qr_yes hg (q := Rat.divInt v 1) hN
      rw [hr] at hrr
      have zn : SZ (v) := SZ_36 (by omega) (by omega)
      have zd : SZ (1) := SZ_36 (by omega) (by omega)
      rw [← neg_div] at hrr
      have znn : SZ (-(v)) := SZ_36 (by omega) (by omega)
      subst hrr
      have hmag1 : ¬ (mag 1).length = 0 := mag_ne (d := 1) (by decide)
      simp [-D.isLit, Try.f24, h0, h0z, hb, hl1, w1, c1a, c1b, c1c, c1d, c1e, iv, c2, c2z, i1', nav_eZ1, -lenA, len_eM, hmag1, zn, zd, znn, zNegC_at]
    have c2z : (i1 : Int) < s.size := by omega
    obtain ⟨x, hx⟩ : ∃ x, bt s i1 = x := ⟨_, rfl⟩
    have hxb : byteAt s (i1 : Int) = x := hx
    have w2 : IntKind.i64.wrap ((i1 : Int) + 1) = (i1 : Int) + 1 := i64_id _ (by omega) (by omega)
    have hl2 := l1DC_at s ((i1 : Int) + 1)
    rw [eq_true (⟨⟨by omega, by omega⟩, by omega⟩ : ((0 : Int) ≤ (i1 : Int) + 1 ∧ (i1 : Int) + 1 ≤ s.size) ∧ s.size < 4611686018427387904), show ((i1 : Int) + 1).toNat = i1 + 1 by omega] at hl2
    obtain ⟨hm19, hdg2, hstop2⟩ := cnt_is (s := s) (k := 19) (i := i1 + 1) (by omega)
    generalize hm : cnt s 19 (i1 + 1) = m at *
    have w3 : IntKind.i64.wrap ((i1 : Int) + 1 + m) = (i1 : Int) + 1 + m := i64_id _ (by omega) (by omega)
    by_cases c3 : (x = 47 ∨ x = 46) ∧ 1 ≤ m ∧ m ≤ 18 ∧ ¬ (i1 + 1 + m < s.size)
    case neg =>
      have hN : rdN s 1 = none := by unfold rdN; rw [hn, hi1, if_pos c1, if_pos c2, hm, hx, if_neg c3]
      have hrr := qr_none hg hN
      rw [hr] at hrr
      subst hrr
      by_cases d1 : x = 47 ∨ x = 46
      case neg =>
        have d1a : x ≠ 47 := fun h => d1 (.inl h)
        have d1b : x ≠ 46 := fun h => d1 (.inr h)
        simp [-D.isLit, Try.f24, h0, h0z, hb, hl1, hl2, w1, w2, w3, c1a, c1b, c1c, c1d, c1e, iv, c2, c2z, hxb, d1a, d1b, i1']
        exact Sub.refl _
      have d1' : (x != 47 && x != 46) = false := by rcases d1 with rfl | rfl <;> rfl
      by_cases d2 : m < 1
      · have hm0 : m = 0 := by omega
        subst hm0
        rcases d1 with rfl | rfl
        · simp [-D.isLit, Try.f24, h0, h0z, hb, hl1, hl2, w1, w2, w3, c1a, c1b, c1c, c1d, c1e, iv, c2, c2z, hxb, i1']
          exact Sub.refl _
        · simp [-D.isLit, Try.f24, h0, h0z, hb, hl1, hl2, w1, w2, w3, c1a, c1b, c1c, c1d, c1e, iv, c2, c2z, hxb, i1']
          exact Sub.refl _
      have d2a : ¬ (m : Int) < 1 := by omega
      have d2b : ¬ m = 0 := by omega
      by_cases d3 : 18 < m
      · have d3a : (18 : Int) < m := by omega
        rcases d1 with rfl | rfl
        · simp [-D.isLit, Try.f24, h0, h0z, hb, hl1, hl2, w1, w2, w3, c1a, c1b, c1c, c1d, c1e, iv, c2, c2z, hxb, d2, d2a, d2b, d3, d3a, i1']
          exact Sub.refl _
        · simp [-D.isLit, Try.f24, h0, h0z, hb, hl1, hl2, w1, w2, w3, c1a, c1b, c1c, c1d, c1e, iv, c2, c2z, hxb, d2, d2a, d2b, d3, d3a, i1']
          exact Sub.refl _
      have d3a : ¬ (18 : Int) < m := by omega
      have d4 : i1 + 1 + m < s.size := by
        apply Classical.byContradiction
        intro h
        exact c3 ⟨d1, by omega, by omega, h⟩
      have d4a : (i1 : Int) + 1 + m < s.size := by omega
      rcases d1 with rfl | rfl
      · simp [-D.isLit, Try.f24, h0, h0z, hb, hl1, hl2, w1, w2, w3, c1a, c1b, c1c, c1d, c1e, iv, c2, c2z, hxb, d2, d2a, d2b, d3, d3a, d4, d4a, i1']
        exact Sub.refl _
      · simp [-D.isLit, Try.f24, h0, h0z, hb, hl1, hl2, w1, w2, w3, c1a, c1b, c1c, c1d, c1e, iv, c2, c2z, hxb, d2, d2a, d2b, d3, d3a, d4, d4a, i1']
        exact Sub.refl _
    obtain ⟨d1, d2, d3, d4⟩ := c3
    have d2' : ¬ m < 1 := by omega
    have d2a : ¬ (m : Int) < 1 := by omega
    have d2b : ¬ m = 0 := by omega
    have d3' : ¬ 18 < m := by omega
    have d3a : ¬ (18 : Int) < m := by omega
    have d4a : ¬ (i1 : Int) + 1 + m < s.size := by omega
    have hmin2 : min m 18 = m := by omega
    rw [hmin2] at hl2
    obtain ⟨y0, y1⟩ := dv_small hdg2.2.2 (by omega)
    have hbase : rdN s 1 = if x = 47 then (if dv s (i1 + 1) m = 0 then none else some (Rat.divInt v (dv s (i1 + 1) m))) else some (Rat.divInt (v * 10 ^ m + dv s (i1 + 1) m) (10 ^ m)) := by
      unfold rdN
      rw [hn, hi1, if_pos c1, if_pos c2, hm, hx, if_pos ⟨d1, d2, d3, d4⟩, hv]
    generalize hy : dv s (i1 + 1) m = y at *
    have iy : I64 y := by unfold I64; omega
    by_cases e1 : x = 47
    · subst e1
      rw [if_pos rfl] at hbase
      by_cases e2 : y = 0
      · rw [if_pos e2] at hbase
        have hrr := qr_none hg hbase
        rw [hr] at hrr
        subst hrr
        subst e2
        simp [-D.isLit, Try.f24, h0, h0z, hb, hl1, hl2, w1, w2, w3, c1a, c1b, c1c, c1d, c1e, iv, c2, c2z, hxb, d2', d2a, d2b, d3', d3a, d4, d4a, i1', iy, nav_eZ1, -lenA, len_eM, mag_zero']
        exact Sub.refl _
      · rw [if_neg e2] at hbase
        have hml := mag_ne e2
        have hrr := qr_yes hg (q := Rat.divInt v y) hbase
        rw [hr] at hrr
        have zn : SZ (v) := SZ_36 (by omega) (by omega)
        have zd : SZ (y) := SZ_36 (by omega) (by omega)
        rw [← neg_div] at hrr
        have znn : SZ (-(v)) := SZ_36 (by omega) (by omega)
        subst hrr
        simp [-D.isLit, Try.f24, h0, h0z, hb, hl1, hl2, w1, w2, w3, c1a, c1b, c1c, c1d, c1e, iv, c2, c2z, hxb, d2', d2a, d2b, d3', d3a, d4, d4a, i1', iy, nav_eZ1, -lenA, len_eM, hml, e2, zn, zd, znn, zNegC_at]
    rw [if_neg e1] at hbase
    have e46 : x = 46 := by
      rcases d1 with h | h
      · exact absurd h e1
      · exact h
    subst e46
    have hfirst : v = v * 10 ^ 0 := by simp
    simp [-D.isLit, Try.f24, h0, h0z, hb, hl1, hl2, w1, w2, w3, c1a, c1b, c1c, c1d, c1e, iv, c2, c2z, hxb, d2', d2a, d2b, d3', d3a, d4, d4a, i1']
    refine loop_go (fun j st => ∃ k, j = m - k ∧ k ≤ m ∧ st = sqS s true v y m k) (s0 := sqS s true v y m 0) (n := m) (snd_obs (n := 113) [(2, 2, .box (.agg [.lit (.int .i64 0), .lit (.int .i64 0)])), (8, 8, .box (eZ (v * 10 ^ 0))), (9, 9, .box (eZ (10 ^ 0)))] rfl (by simp) (by simp [sqS])) ⟨0, rfl, Nat.zero_le _, rfl⟩ ?_
    rintro j st ⟨k, hj, hk, rfl⟩ KN hN
    have hp1 := ten_le (n := k) (by omega)
    have hp0 := ten_pos k
    obtain ⟨mm0, mm1⟩ := mul_36 v0 (by omega) (Int.le_of_lt hp0) hp1
    have zk : SZ (v * 10 ^ k) := SZ_36 (by omega) (by omega)
    have zk2 : SZ ((10 : Int) ^ k) := SZ_36 (by omega) (by omega)
    by_cases hh : k < m
    · have hhz : (k : Int) < m := by omega
      have wk : IntKind.i64.wrap ((k : Int) + 1) = (k : Int) + 1 := i64_id _ (by omega) (by omega)
      have ek : v * 10 ^ k * 10 = v * 10 ^ (k + 1) := by rw [Int.pow_succ, Int.mul_assoc]
      have ek2 : (10 : Int) ^ k * 10 = 10 ^ (k + 1) := (Int.pow_succ _ _).symm
      simp [-D.isLit, sqS, hh, hhz, zMulC_at, zk, zk2, hz10, i10, wk, ek, ek2]
      exact hN _ (nx (m := m - (k + 1)) (s'' := sqS s true v y m (k + 1)) (snd_obs (n := 113) [(2, 2, .box (.agg [.lit (.int .i64 0), .lit (.int .i64 0)])), (8, 8, .box (eZ (v * 10 ^ (k + 1)))), (9, 9, .box (eZ (10 ^ (k + 1))))] rfl (by simp) (by simp [sqS])) ⟨k + 1, rfl, hh, rfl⟩ (by omega))
    · have hkl : k = m := by omega
      subst hkl
      have zy : SZ y := SZ_36 (by omega) (by omega)
      have hml : ¬ (mag ((10 : Int) ^ k).natAbs).length = 0 := mag_ne (by omega)
      simp only [sqS]
      generalize (10 : Int) ^ k = P at *
      generalize hW : v * P = W at *
      have hP : P ≠ 0 := by omega
      have hrr := qr_yes hg (q := Rat.divInt (W + y) P) hbase
      rw [hr] at hrr
      have zn : SZ ((W + y)) := SZ_36 (by omega) (by omega)
      have zd : SZ (P) := SZ_36 (by omega) (by omega)
      rw [← neg_div] at hrr
      have znn : SZ (-((W + y))) := SZ_36 (by omega) (by omega)
      subst hrr
      simp [-D.isLit, sqS, zk, zk2, zy, iy, nav_eZ1, -lenA, len_eM, hml, hP, hW, zn, zd, znn, zNegC_at]
  · have hl1 := l1DC_at s 0
    rw [eq_true (⟨⟨by omega, by omega⟩, by omega⟩ : ((0 : Int) ≤ 0 ∧ (0 : Int) ≤ s.size) ∧ s.size < 4611686018427387904), show (0 : Int).toNat = 0 from rfl] at hl1
    obtain ⟨hn19, hdg, hstop⟩ := cnt_is (s := s) (k := 19) (i := 0) (by omega)
    have hunf : rdN s 0 = rdN s 0 := rfl
    unfold rdN at hunf
    generalize hn : cnt s 19 0 = n at *
    have hb : ¬ byteAt s 0 = 45 := fun h => hg ⟨h0, h⟩
    by_cases c1 : 1 ≤ n ∧ n ≤ 18
    case neg =>
      have hN : rdN s 0 = none := by unfold rdN; rw [hn, if_neg c1]
      have hrr := qr_none0 hg hN
      rw [hr] at hrr
      subst hrr
      by_cases c1a : n < 1
      · have hn0 : n = 0 := by omega
        subst hn0
        simp [-D.isLit, Try.f24, h0, h0z, hb, hl1]
        exact Sub.refl _
      · have hn0 : n = 19 := by omega
        subst hn0
        have w1 : IntKind.i64.wrap 19 = 19 := by decide
        simp [-D.isLit, Try.f24, h0, h0z, hb, hl1, w1]
        exact Sub.refl _
    have hmin : min n 18 = n := by omega
    rw [hmin] at hl1
    have c1a : ¬ (n : Int) < 1 := by omega
    have c1b : ¬ (18 : Int) < n := by omega
    have c1c : ¬ n < 1 := by omega
    have c1d : ¬ 18 < n := by omega
    have c1e : ¬ n = 0 := by omega
    obtain ⟨v0, v1⟩ := dv_small hdg.2.2 (by omega)
    generalize hv : dv s 0 n = v at *
    have iv : I64 v := by unfold I64; omega
    obtain ⟨i1, hi1⟩ : ∃ i1, 0 + n = i1 := ⟨_, rfl⟩
    have w1 : IntKind.i64.wrap ((n : Int)) = (i1 : Int) := by rw [i64_id _ (by omega) (by omega)]; omega
    have hile : i1 ≤ s.size := by have := hdg.2.1; omega
    by_cases c2 : i1 < s.size
    case neg =>
      have c2z : ¬ (i1 : Int) < s.size := by omega
      have hN : rdN s 0 = some (Rat.divInt v 1) := by unfold rdN; rw [hn, hi1, if_pos c1, if_neg c2, hv]
      have hrr := qr_yes0 hg (q := Rat.divInt v 1) hN
      rw [hr] at hrr
      have zn : SZ (v) := SZ_36 (by omega) (by omega)
      have zd : SZ (1) := SZ_36 (by omega) (by omega)
      subst hrr
      have hmag1 : ¬ (mag 1).length = 0 := mag_ne (d := 1) (by decide)
      simp [-D.isLit, Try.f24, h0, h0z, hb, hl1, w1, c1a, c1b, c1c, c1d, c1e, iv, c2, c2z, i1', nav_eZ1, -lenA, len_eM, hmag1, zn, zd]
    have c2z : (i1 : Int) < s.size := by omega
    obtain ⟨x, hx⟩ : ∃ x, bt s i1 = x := ⟨_, rfl⟩
    have hxb : byteAt s (i1 : Int) = x := hx
    have w2 : IntKind.i64.wrap ((i1 : Int) + 1) = (i1 : Int) + 1 := i64_id _ (by omega) (by omega)
    have hl2 := l1DC_at s ((i1 : Int) + 1)
    rw [eq_true (⟨⟨by omega, by omega⟩, by omega⟩ : ((0 : Int) ≤ (i1 : Int) + 1 ∧ (i1 : Int) + 1 ≤ s.size) ∧ s.size < 4611686018427387904), show ((i1 : Int) + 1).toNat = i1 + 1 by omega] at hl2
    obtain ⟨hm19, hdg2, hstop2⟩ := cnt_is (s := s) (k := 19) (i := i1 + 1) (by omega)
    generalize hm : cnt s 19 (i1 + 1) = m at *
    have w3 : IntKind.i64.wrap ((i1 : Int) + 1 + m) = (i1 : Int) + 1 + m := i64_id _ (by omega) (by omega)
    by_cases c3 : (x = 47 ∨ x = 46) ∧ 1 ≤ m ∧ m ≤ 18 ∧ ¬ (i1 + 1 + m < s.size)
    case neg =>
      have hN : rdN s 0 = none := by unfold rdN; rw [hn, hi1, if_pos c1, if_pos c2, hm, hx, if_neg c3]
      have hrr := qr_none0 hg hN
      rw [hr] at hrr
      subst hrr
      by_cases d1 : x = 47 ∨ x = 46
      case neg =>
        have d1a : x ≠ 47 := fun h => d1 (.inl h)
        have d1b : x ≠ 46 := fun h => d1 (.inr h)
        simp [-D.isLit, Try.f24, h0, h0z, hb, hl1, hl2, w1, w2, w3, c1a, c1b, c1c, c1d, c1e, iv, c2, c2z, hxb, d1a, d1b, i1']
        exact Sub.refl _
      have d1' : (x != 47 && x != 46) = false := by rcases d1 with rfl | rfl <;> rfl
      by_cases d2 : m < 1
      · have hm0 : m = 0 := by omega
        subst hm0
        rcases d1 with rfl | rfl
        · simp [-D.isLit, Try.f24, h0, h0z, hb, hl1, hl2, w1, w2, w3, c1a, c1b, c1c, c1d, c1e, iv, c2, c2z, hxb, i1']
          exact Sub.refl _
        · simp [-D.isLit, Try.f24, h0, h0z, hb, hl1, hl2, w1, w2, w3, c1a, c1b, c1c, c1d, c1e, iv, c2, c2z, hxb, i1']
          exact Sub.refl _
      have d2a : ¬ (m : Int) < 1 := by omega
      have d2b : ¬ m = 0 := by omega
      by_cases d3 : 18 < m
      · have d3a : (18 : Int) < m := by omega
        rcases d1 with rfl | rfl
        · simp [-D.isLit, Try.f24, h0, h0z, hb, hl1, hl2, w1, w2, w3, c1a, c1b, c1c, c1d, c1e, iv, c2, c2z, hxb, d2, d2a, d2b, d3, d3a, i1']
          exact Sub.refl _
        · simp [-D.isLit, Try.f24, h0, h0z, hb, hl1, hl2, w1, w2, w3, c1a, c1b, c1c, c1d, c1e, iv, c2, c2z, hxb, d2, d2a, d2b, d3, d3a, i1']
          exact Sub.refl _
      have d3a : ¬ (18 : Int) < m := by omega
      have d4 : i1 + 1 + m < s.size := by
        apply Classical.byContradiction
        intro h
        exact c3 ⟨d1, by omega, by omega, h⟩
      have d4a : (i1 : Int) + 1 + m < s.size := by omega
      rcases d1 with rfl | rfl
      · simp [-D.isLit, Try.f24, h0, h0z, hb, hl1, hl2, w1, w2, w3, c1a, c1b, c1c, c1d, c1e, iv, c2, c2z, hxb, d2, d2a, d2b, d3, d3a, d4, d4a, i1']
        exact Sub.refl _
      · simp [-D.isLit, Try.f24, h0, h0z, hb, hl1, hl2, w1, w2, w3, c1a, c1b, c1c, c1d, c1e, iv, c2, c2z, hxb, d2, d2a, d2b, d3, d3a, d4, d4a, i1']
        exact Sub.refl _
    obtain ⟨d1, d2, d3, d4⟩ := c3
    have d2' : ¬ m < 1 := by omega
    have d2a : ¬ (m : Int) < 1 := by omega
    have d2b : ¬ m = 0 := by omega
    have d3' : ¬ 18 < m := by omega
    have d3a : ¬ (18 : Int) < m := by omega
    have d4a : ¬ (i1 : Int) + 1 + m < s.size := by omega
    have hmin2 : min m 18 = m := by omega
    rw [hmin2] at hl2
    obtain ⟨y0, y1⟩ := dv_small hdg2.2.2 (by omega)
    have hbase : rdN s 0 = if x = 47 then (if dv s (i1 + 1) m = 0 then none else some (Rat.divInt v (dv s (i1 + 1) m))) else some (Rat.divInt (v * 10 ^ m + dv s (i1 + 1) m) (10 ^ m)) := by
      unfold rdN
      rw [hn, hi1, if_pos c1, if_pos c2, hm, hx, if_pos ⟨d1, d2, d3, d4⟩, hv]
    generalize hy : dv s (i1 + 1) m = y at *
    have iy : I64 y := by unfold I64; omega
    by_cases e1 : x = 47
    · subst e1
      rw [if_pos rfl] at hbase
      by_cases e2 : y = 0
      · rw [if_pos e2] at hbase
        have hrr := qr_none0 hg hbase
        rw [hr] at hrr
        subst hrr
        subst e2
        simp [-D.isLit, Try.f24, h0, h0z, hb, hl1, hl2, w1, w2, w3, c1a, c1b, c1c, c1d, c1e, iv, c2, c2z, hxb, d2', d2a, d2b, d3', d3a, d4, d4a, i1', iy, nav_eZ1, -lenA, len_eM, mag_zero']
        exact Sub.refl _
      · rw [if_neg e2] at hbase
        have hml := mag_ne e2
        have hrr := qr_yes0 hg (q := Rat.divInt v y) hbase
        rw [hr] at hrr
        have zn : SZ (v) := SZ_36 (by omega) (by omega)
        have zd : SZ (y) := SZ_36 (by omega) (by omega)
        subst hrr
        simp [-D.isLit, Try.f24, h0, h0z, hb, hl1, hl2, w1, w2, w3, c1a, c1b, c1c, c1d, c1e, iv, c2, c2z, hxb, d2', d2a, d2b, d3', d3a, d4, d4a, i1', iy, nav_eZ1, -lenA, len_eM, hml, e2, zn, zd]
    rw [if_neg e1] at hbase
    have e46 : x = 46 := by
      rcases d1 with h | h
      · exact absurd h e1
      · exact h
    subst e46
    have hfirst : v = v * 10 ^ 0 := by simp
    simp [-D.isLit, Try.f24, h0, h0z, hb, hl1, hl2, w1, w2, w3, c1a, c1b, c1c, c1d, c1e, iv, c2, c2z, hxb, d2', d2a, d2b, d3', d3a, d4, d4a, i1']
    refine loop_go (fun j st => ∃ k, j = m - k ∧ k ≤ m ∧ st = sqS s false v y m k) (s0 := sqS s false v y m 0) (n := m) (snd_obs (n := 113) [(2, 2, .box (.agg [.lit (.int .i64 0), .lit (.int .i64 0)])), (8, 8, .box (eZ (v * 10 ^ 0))), (9, 9, .box (eZ (10 ^ 0)))] rfl (by simp) (by simp [sqS])) ⟨0, rfl, Nat.zero_le _, rfl⟩ ?_
    rintro j st ⟨k, hj, hk, rfl⟩ KN hN
    have hp1 := ten_le (n := k) (by omega)
    have hp0 := ten_pos k
    obtain ⟨mm0, mm1⟩ := mul_36 v0 (by omega) (Int.le_of_lt hp0) hp1
    have zk : SZ (v * 10 ^ k) := SZ_36 (by omega) (by omega)
    have zk2 : SZ ((10 : Int) ^ k) := SZ_36 (by omega) (by omega)
    by_cases hh : k < m
    · have hhz : (k : Int) < m := by omega
      have wk : IntKind.i64.wrap ((k : Int) + 1) = (k : Int) + 1 := i64_id _ (by omega) (by omega)
      have ek : v * 10 ^ k * 10 = v * 10 ^ (k + 1) := by rw [Int.pow_succ, Int.mul_assoc]
      have ek2 : (10 : Int) ^ k * 10 = 10 ^ (k + 1) := (Int.pow_succ _ _).symm
      simp [-D.isLit, sqS, hh, hhz, zMulC_at, zk, zk2, hz10, i10, wk, ek, ek2]
      exact hN _ (nx (m := m - (k + 1)) (s'' := sqS s false v y m (k + 1)) (snd_obs (n := 113) [(2, 2, .box (.agg [.lit (.int .i64 0), .lit (.int .i64 0)])), (8, 8, .box (eZ (v * 10 ^ (k + 1)))), (9, 9, .box (eZ (10 ^ (k + 1))))] rfl (by simp) (by simp [sqS])) ⟨k + 1, rfl, hh, rfl⟩ (by omega))
    · have hkl : k = m := by omega
      subst hkl
      have zy : SZ y := SZ_36 (by omega) (by omega)
      have hml : ¬ (mag ((10 : Int) ^ k).natAbs).length = 0 := mag_ne (by omega)
      simp only [sqS]
      generalize (10 : Int) ^ k = P at *
      generalize hW : v * P = W at *
      have hP : P ≠ 0 := by omega
      have hrr := qr_yes0 hg (q := Rat.divInt (W + y) P) hbase
      rw [hr] at hrr
      have zn : SZ ((W + y)) := SZ_36 (by omega) (by omega)
      have zd : SZ (P) := SZ_36 (by omega) (by omega)
      subst hrr
      simp [-D.isLit, sqS, zk, zk2, zy, iy, nav_eZ1, -lenA, len_eM, hml, hP, hW, zn, zd]
theorem sqr_ok : callable Try.prog 24 = true := by kernel_rfl
end Go.Proofs.Ytpggfnggffedlaa.Ae

namespace Go.Proofs.Ytpggfnggffedlaa.Ae
open Go Go.RowKit Go.Proofs.Ytpggfnggffedlaa.Dig
noncomputable def lwQrC := ct1 EStr (fun s => True) (fun s => [.lit (.bool true)])
theorem lwQrC_at (s : ByteArray) : lwQrC [.lit (.string s)] = (True, [.lit (.bool true)]) := ct1_at (A := EStr) s
noncomputable def lwQrTb : List (FuncId × Ct) := [(25, .data qrdC), (24, .data qrdC), (26, .data eqQC)]
theorem lwQrTb_ok : TbOK NF Try.prog (tbl lwQrTb) := tbl_cons (c := .data qrdC) iqr_spec iqr_ok (tbl_cons (c := .data qrdC) sqr_spec sqr_ok (tbl_cons (c := .data eqQC) eqQ_spec eqQ_ok tbl_nil))
@[simp] theorem lwQrTb1 : tbl lwQrTb 25 = some (.data qrdC) := rfl
@[simp] theorem lwQrTb2 : tbl lwQrTb 24 = some (.data qrdC) := rfl
@[simp] theorem lwQrTb3 : tbl lwQrTb 26 = some (.data eqQC) := rfl
set_option maxRecDepth 100000 in
theorem lwQr_spec : SpecD NF Try.prog 5 lwQrC := by
  refine rd1 (mf := fun f => false) lwQrTb_ok (fn := Try.f5) (by kernel_rfl) rfl (by kernel_rfl) (by kernel_rfl) ?_
  intro s _
  show awp _ _ _ _ (start _ ([D.lit (.string s)].map .dat) []) (endK _ _ _ ([D.lit (.bool true)].map .dat) [])
  by_cases h : 1048576 < s.size
  · have hz : (1048576 : Int) < s.size := by omega
    simp [-D.isLit, Try.f5, h, hz]
  · have hz : ¬ (1048576 : Int) < s.size := by omega
    have c1 := qrdC_at s
    rw [eq_true (show s.size < 4294967281 by omega)] at c1
    generalize qr s = r at c1
    have ce : eqQC [eQ r.1 r.2.1, eQ r.1 r.2.1] = (True, [.lit (.bool true)]) := by
      rw [eqQC_at]; simp [boolD]
    simp [-D.isLit, Try.f5, h, hz, c1, ce]
theorem lwQRead_calls (s : ByteArray) (w : World) :
    Calls Try.prog 5 #[.string s] w fun e w' => e = .returned (.bool true) ∧ Below w.heap.size w w' :=
  law_calls lwQr_spec (ds := [.lit (.string s)]) (by rw [lwQrC_at]; trivial) (by rw [lwQrC_at]; rfl) (vs := [.string s]) (repVs_cons (RepV.of_lit rfl) repVs_nil)
end Go.Proofs.Ytpggfnggffedlaa.Ae
