/- The plain law behind FnExactQOk: the two tests of a fraction agree. Condition: the numbers are int64. -/
import Derived.Test.YtoldnclfoagjdaaPFnExactQOkx1
import Derived.OpenShut
set_option linter.unusedVariables false
set_option linter.unusedSimpArgs false
namespace Go.Proofs.Ytoldnclfoagjdaa.Pure
open Go Go.RowKit Go.Proofs.Ytoldnclfoagjdaa.PFnExactQOk Go.Proofs.YtoldnclfoagjdaaW.PrintWords Go.Proofs.YtoldnclfoagjdaaW.PrintLast

theorem gcd_eq : ∀ (k : Nat) (x y : Int), impl_gcd64.l0 k x y = spec_l1Gcd.l0 k x y
  | 0, _, _ => rfl
  | k + 1, x, y => by
    simp only [impl_gcd64.l0, spec_l1Gcd.l0]
    rw [gcd_eq k]
theorem gcd_ends : ∀ (k : Nat) (x y : Int), 0 ≤ x → 0 ≤ y → y < k → ∃ g, spec_l1Gcd.l0 k x y = some g
  | 0, _, _, _, h, h' => by omega
  | k + 1, x, y, hx, hy, h => by
    simp only [spec_l1Gcd.l0]
    by_cases e : y = 0
    · exact ⟨x, by rw [if_pos e]⟩
    · rw [if_neg e]
      have h1 : 0 ≤ Int.tmod x y := Int.tmod_nonneg _ hx
      have h2 : Int.tmod x y < y := Int.tmod_lt_of_pos _ (by omega)
      exact gcd_ends k y _ hy h1 (by omega)
theorem wu (n : Int) : IntKind.u64.wrap n = n % 18446744073709551616 := by
  unfold IntKind.wrap IntKind.signed IntKind.bits; simp
theorem abs_eq (a : Int) (h : -9223372036854775808 ≤ a) (h' : a ≤ 9223372036854775807) : impl_abs64.f a = spec_l1Abs.f a ∧ ∃ b, spec_l1Abs.f a = some b ∧ 0 ≤ b := by
  unfold impl_abs64.f spec_l1Abs.f
  by_cases e : a < 0
  · rw [if_pos e, if_pos e]
    refine ⟨?_, _, rfl, ?_⟩
    · congr 1
      rw [wu, wu, wu]
      unfold wrap64
      omega
    · rw [wu]
      omega
  · rw [if_neg e, if_neg e]
    refine ⟨rfl, _, rfl, ?_⟩
    rw [wu]
    omega
/-- The rounds that serve every number of an int64. -/
def KB : Nat := 18446744073709551617
theorem kb : KB = 18446744073709551617 := rfl
/-- What both tests of a fraction tell. -/
theorem q_eq (k : Nat) (hk : 18446744073709551617 ≤ k) (a b : Int) (ha : -9223372036854775808 ≤ a ∧ a ≤ 9223372036854775807) (hb : -9223372036854775808 ≤ b ∧ b ≤ 9223372036854775807) :
    ∃ r, spec_QOk.f (k + 1) a b = some r ∧ impl_QOk.f k a b = some r ∧ impl_QOk.f (k + 1) a b = some r := by
  obtain ⟨e1, c, e2, hc⟩ := abs_eq a ha.1 ha.2
  have w0 := wu b
  obtain ⟨g, hg⟩ := gcd_ends k c (IntKind.u64.wrap b) hc (by omega) (by omega)
  obtain ⟨g', hg'⟩ := gcd_ends (k + 1) c (IntKind.u64.wrap b) hc (by omega) (by omega)
  have hgg : g' = g := by
    have := spec_l1Gcd.mono c (IntKind.u64.wrap b) k g hg
    have z : spec_l1Gcd.l0 (k + 1) c (IntKind.u64.wrap b) = some g := this
    rw [hg'] at z
    exact Option.some.inj z
  subst hgg
  unfold spec_QOk.f impl_QOk.f
  rw [e1, e2]
  simp only [spec_QOk.j0, impl_gcd64.f, spec_l1Gcd.f, gcd_eq, Option.bind_some, hg, hg', e2]
  by_cases h1 : b < 1
  · rw [if_pos h1, if_neg (show ¬ b ≥ 1 by omega)]
    exact ⟨false, by simp, by simp, by simp⟩
  rw [if_neg h1, if_pos (show b ≥ 1 by omega)]
  by_cases h2 : b > 1000000000000000000
  · rw [if_pos h2, if_neg (show ¬ b ≤ 1000000000000000000 by omega)]
    exact ⟨false, by simp, by simp, by simp⟩
  rw [if_neg h2, if_pos (show b ≤ 1000000000000000000 by omega)]
  by_cases h3 : a < -1000000000000000000
  · rw [if_pos h3, if_neg (show ¬ a ≥ -1000000000000000000 by omega)]
    exact ⟨false, by simp, by simp, by simp⟩
  rw [if_neg h3, if_pos (show a ≥ -1000000000000000000 by omega)]
  by_cases h4 : a > 1000000000000000000
  · rw [if_neg (show ¬ a ≤ 1000000000000000000 by omega)]
    exact ⟨false, by simp [h4], by simp, by simp⟩
  · rw [if_pos (show a ≤ 1000000000000000000 by omega)]
    exact ⟨g' == 1, by simp [h4], rfl, rfl⟩
theorem bd {a : Int} (h : (Lit.int .i64 a).wf = true) : -9223372036854775808 ≤ a ∧ a ≤ 9223372036854775807 := bounds_i64 h

theorem FnExactQOk (a b : Int) (ha : (Lit.int .i64 a).wf = true) (hb : (Lit.int .i64 b).wf = true) : ∃ k, laws_FnExactQOk.f k a b = some true := by
  obtain ⟨r, h1, h2, h3⟩ := q_eq KB (Nat.le_of_eq kb.symm) a b (bd ha) (bd hb)
  refine ⟨KB + 1, ?_⟩
  simp only [laws_FnExactQOk.f, laws_toQ.f, Option.bind_some, h1, h3]
  simp

end Go.Proofs.Ytoldnclfoagjdaa.Pure
