/- The plain law behind FnExactPlaneOk: the two tests of a plane agree. Condition: the numbers are int64. -/
import Derived.Test.YtoldnclfoagjdaaPFnExactPlaneOkx2
import Derived.OpenShut
set_option linter.unusedVariables false
set_option linter.unusedSimpArgs false
namespace Go.Proofs.Ytoldnclfoagjdaa.Pure
open Go Go.RowKit Go.Proofs.Ytoldnclfoagjdaa.PFnExactPlaneOk Go.Proofs.YtoldnclfoagjdaaW.PrintWords Go.Proofs.YtoldnclfoagjdaaW.PrintLast

theorem gcd_eq : ∀ (k : Nat) (x y : Int), impl_gcd64.l0 k x y = spec_l1Gcd.l0 k x y
  | 0, _, _ => rfl
  | k + 1, x, y => by
    simp only [impl_gcd64.l0, spec_l1Gcd.l0]
    rw [gcd_eq k]
theorem gcd_ends : ∀ (k : Nat) (x y : Int), 0 ≤ x → 0 ≤ y → y < k → ∃ g, spec_l1Gcd.l0 k x y = some g
  | 0, _, _, _, h, h' => by omega
  | k + 1, x, y, hx, hy, h => by
    simp only [spec_l1Gcd.l0]
    by_cases e : y = 0
    · exact ⟨x, by rw [if_pos e]⟩
    · rw [if_neg e]
      have h1 : 0 ≤ Int.tmod x y := Int.tmod_nonneg _ hx
      have h2 : Int.tmod x y < y := Int.tmod_lt_of_pos _ (by omega)
      exact gcd_ends k y _ hy h1 (by omega)
theorem wu (n : Int) : IntKind.u64.wrap n = n % 18446744073709551616 := by
  unfold IntKind.wrap IntKind.signed IntKind.bits; simp
theorem abs_eq (a : Int) (h : -9223372036854775808 ≤ a) (h' : a ≤ 9223372036854775807) : impl_abs64.f a = spec_l1Abs.f a ∧ ∃ b, spec_l1Abs.f a = some b ∧ 0 ≤ b := by
  unfold impl_abs64.f spec_l1Abs.f
  by_cases e : a < 0
  · rw [if_pos e, if_pos e]
    refine ⟨?_, _, rfl, ?_⟩
    · congr 1
      rw [wu, wu, wu]
      unfold wrap64
      omega
    · rw [wu]
      omega
  · rw [if_neg e, if_neg e]
    refine ⟨rfl, _, rfl, ?_⟩
    rw [wu]
    omega
/-- The rounds that serve every number of an int64. -/
def KB : Nat := 18446744073709551617
theorem kb : KB = 18446744073709551617 := rfl
/-- What both tests of a fraction tell. -/
theorem q_eq (k : Nat) (hk : 18446744073709551617 ≤ k) (a b : Int) (ha : -9223372036854775808 ≤ a ∧ a ≤ 9223372036854775807) (hb : -9223372036854775808 ≤ b ∧ b ≤ 9223372036854775807) :
    ∃ r, spec_QOk.f (k + 1) a b = some r ∧ impl_QOk.f k a b = some r ∧ impl_QOk.f (k + 1) a b = some r := by
  obtain ⟨e1, c, e2, hc⟩ := abs_eq a ha.1 ha.2
  have w0 := wu b
  obtain ⟨g, hg⟩ := gcd_ends k c (IntKind.u64.wrap b) hc (by omega) (by omega)
  obtain ⟨g', hg'⟩ := gcd_ends (k + 1) c (IntKind.u64.wrap b) hc (by omega) (by omega)
  have hgg : g' = g := by
    have := spec_l1Gcd.mono c (IntKind.u64.wrap b) k g hg
    have z : spec_l1Gcd.l0 (k + 1) c (IntKind.u64.wrap b) = some g := this
    rw [hg'] at z
    exact Option.some.inj z
  subst hgg
  unfold spec_QOk.f impl_QOk.f
  rw [e1, e2]
  simp only [spec_QOk.j0, impl_gcd64.f, spec_l1Gcd.f, gcd_eq, Option.bind_some, hg, hg', e2]
  by_cases h1 : b < 1
  · rw [if_pos h1, if_neg (show ¬ b ≥ 1 by omega)]
    exact ⟨false, by simp, by simp, by simp⟩
  rw [if_neg h1, if_pos (show b ≥ 1 by omega)]
  by_cases h2 : b > 1000000000000000000
  · rw [if_pos h2, if_neg (show ¬ b ≤ 1000000000000000000 by omega)]
    exact ⟨false, by simp, by simp, by simp⟩
  rw [if_neg h2, if_pos (show b ≤ 1000000000000000000 by omega)]
  by_cases h3 : a < -1000000000000000000
  · rw [if_pos h3, if_neg (show ¬ a ≥ -1000000000000000000 by omega)]
    exact ⟨false, by simp, by simp, by simp⟩
  rw [if_neg h3, if_pos (show a ≥ -1000000000000000000 by omega)]
  by_cases h4 : a > 1000000000000000000
  · rw [if_neg (show ¬ a ≤ 1000000000000000000 by omega)]
    exact ⟨false, by simp [h4], by simp, by simp⟩
  · rw [if_pos (show a ≤ 1000000000000000000 by omega)]
    exact ⟨g' == 1, by simp [h4], rfl, rfl⟩
theorem bd {a : Int} (h : (Lit.int .i64 a).wf = true) : -9223372036854775808 ≤ a ∧ a ≤ 9223372036854775807 := bounds_i64 h

theorem i1 : wrap64 1 = 1 := by unfold wrap64; omega
theorem i2 : wrap64 2 = 2 := by unfold wrap64; omega
theorem i3 : wrap64 3 = 3 := by unfold wrap64; omega
theorem i4 : wrap64 4 = 4 := by unfold wrap64; omega

theorem up_le {α : Type} (f : Nat → Option α) (hm : ∀ k, LeO (f k) (f (k + 1))) {k : Nat} {r : α} (h : f k = some r) : ∀ d, f (k + d) = some r
  | 0 => h
  | d + 1 => hm _ r (up_le f hm h d)
theorem q_all (k : Nat) (hk : 18446744073709551617 ≤ k) (a b : Int) (ha : -9223372036854775808 ≤ a ∧ a ≤ 9223372036854775807) (hb : -9223372036854775808 ≤ b ∧ b ≤ 9223372036854775807) :
    ∃ r, (∀ j, k ≤ j → spec_QOk.f (j + 1) a b = some r) ∧ ∀ j, k ≤ j → impl_QOk.f j a b = some r := by
  obtain ⟨r, h1, h2, _⟩ := q_eq k hk a b ha hb
  refine ⟨r, fun j hj => ?_, fun j hj => ?_⟩
  · have := up_le (fun k => spec_QOk.f k a b) (fun k => spec_QOk.mono a b k) h1 (j - k)
    rwa [show k + 1 + (j - k) = j + 1 by omega] at this
  · have := up_le (fun k => impl_QOk.f k a b) (fun k => impl_QOk.mono a b k) h2 (j - k)
    rwa [show k + (j - k) = j by omega] at this
/-- allQ over 4 fractions: all of them, in rounds from KB on. -/
theorem all4 (k : Nat) (hk : 18446744073709551617 ≤ k) (a0 b0 a1 b1 a2 b2 a3 b3 : Int) (ha0 : (Lit.int .i64 a0).wf = true) (hb0 : (Lit.int .i64 b0).wf = true) (ha1 : (Lit.int .i64 a1).wf = true) (hb1 : (Lit.int .i64 b1).wf = true) (ha2 : (Lit.int .i64 a2).wf = true) (hb2 : (Lit.int .i64 b2).wf = true) (ha3 : (Lit.int .i64 a3).wf = true) (hb3 : (Lit.int .i64 b3).wf = true) :
    ∃ r0 r1 r2 r3 : Bool, (∀ j, k ≤ j → spec_QOk.f (j + 1) a0 b0 = some r0) ∧ (∀ j, k ≤ j → spec_QOk.f (j + 1) a1 b1 = some r1) ∧ (∀ j, k ≤ j → spec_QOk.f (j + 1) a2 b2 = some r2) ∧ (∀ j, k ≤ j → spec_QOk.f (j + 1) a3 b3 = some r3) ∧ impl_allQ.f (k + 5) ([(⟨a0, b0⟩ : S26), (⟨a1, b1⟩ : S26), (⟨a2, b2⟩ : S26), (⟨a3, b3⟩ : S26)] : List S26) = some (r0 && r1 && r2 && r3) := by
  obtain ⟨r0, s0, m0⟩ := q_all k hk a0 b0 (bd ha0) (bd hb0)
  obtain ⟨r1, s1, m1⟩ := q_all k hk a1 b1 (bd ha1) (bd hb1)
  obtain ⟨r2, s2, m2⟩ := q_all k hk a2 b2 (bd ha2) (bd hb2)
  obtain ⟨r3, s3, m3⟩ := q_all k hk a3 b3 (bd ha3) (bd hb3)
  refine ⟨r0, r1, r2, r3, s0, s1, s2, s3, ?_⟩
  simp only [impl_allQ.f, impl_allQ.l0, rd_T26, List.length_cons, List.length_nil]
  have q0 := m0 (k + 4) (by omega)
  have q1 := m1 (k + 3) (by omega)
  have q2 := m2 (k + 2) (by omega)
  have q3 := m3 (k + 1) (by omega)
  simp [i1, i2, i3, i4, q0, q1, q2, q3]
  cases r0 <;> cases r1 <;> cases r2 <;> cases r3 <;> simp [i1, i2, i3, i4, q0, q1, q2, q3]

theorem one_eq (k : Nat) (a0 b0 a1 b1 a2 b2 : Int) : impl_PlaneOk.l0 (k + 4) [(⟨a0, b0⟩ : S26), (⟨a1, b1⟩ : S26), (⟨a2, b2⟩ : S26)] 3 0 =
    (if a0 = 0 then (if a1 = 0 then spec_l11One.f a2 b2 else spec_l11One.f a1 b1) else spec_l11One.f a0 b0) := by
  simp only [impl_PlaneOk.l0, rd_T26, spec_l11One.f]
  by_cases h0 : a0 = 0
  · by_cases h1 : a1 = 0
    · by_cases h2 : a2 = 0
      · by_cases h3 : b2 = 1 <;> simp [i1, i2, i3, h0, h1, h2, h3]
      · by_cases h3 : b2 = 1 <;> simp [i1, i2, i3, h0, h1, h2, h3]
    · by_cases h3 : b1 = 1 <;> simp [i1, i2, i3, h0, h1, h3]
  · by_cases h3 : b0 = 1 <;> simp [i1, i2, i3, h0, h3]
theorem one_some (a b : Int) : ∃ r, spec_l11One.f a b = some r := by
  unfold spec_l11One.f
  by_cases h : b = 1
  · by_cases h' : a = 1 <;> simp [h, h']
  · simp [h]
theorem plane_core (KB : Nat) (hKB : 18446744073709551617 ≤ KB) (a0 b0 a1 b1 a2 b2 a3 b3 : Int) (ha0 : (Lit.int .i64 a0).wf = true) (hb0 : (Lit.int .i64 b0).wf = true) (ha1 : (Lit.int .i64 a1).wf = true) (hb1 : (Lit.int .i64 b1).wf = true) (ha2 : (Lit.int .i64 a2).wf = true) (hb2 : (Lit.int .i64 b2).wf = true) (ha3 : (Lit.int .i64 a3).wf = true) (hb3 : (Lit.int .i64 b3).wf = true) : laws_FnExactPlaneOk.f (KB + 5) a0 b0 a1 b1 a2 b2 a3 b3 = some true := by
  obtain ⟨r0, r1, r2, r3, s0, s1, s2, s3, h⟩ := all4 KB hKB a0 b0 a1 b1 a2 b2 a3 b3 ha0 hb0 ha1 hb1 ha2 hb2 ha3 hb3
  have e : ∀ x : Nat, KB ≤ KB + x := fun x => Nat.le_add_right _ _
  have t0 := s0 (KB + 4) (e _)
  have t1 := s1 (KB + 4) (e _)
  have t2 := s2 (KB + 4) (e _)
  have t3 := s3 (KB + 4) (e _)
  rw [show KB + 4 + 1 = KB + 5 from rfl] at t0 t1 t2 t3
  have o := one_eq (KB + 1) a0 b0 a1 b1 a2 b2
  rw [show KB + 1 + 4 = KB + 5 from rfl] at o
  obtain ⟨c0, e0⟩ := one_some a0 b0
  obtain ⟨c1, e1⟩ := one_some a1 b1
  obtain ⟨c2, e2⟩ := one_some a2 b2
  rw [e0, e1, e2] at o
  have j : ∀ x, spec_PlaneOk.j0 (KB + 5) x a0 b0 a1 b1 a2 b2 a3 b3 = if x = true then some false else (if a0 = 0 then (if a1 = 0 then some c2 else some c1) else some c0) := by
    intro x
    rw [show KB + 5 = (KB + 4) + 1 from rfl]
    simp only [spec_PlaneOk.j0, e0, e1, e2, Option.bind_some]
  simp only [laws_FnExactPlaneOk.f, laws_toPlane.f, laws_toQ.f, spec_PlaneOk.f, impl_PlaneOk.f, Option.bind_some, h, t0, t1, t2, t3, j, List.length_cons, List.length_nil]
  simp only [Nat.zero_add, Nat.reduceAdd, Int.cast_ofNat_Int, o]
  cases r0 <;> cases r1 <;> cases r2 <;> cases r3 <;> by_cases z0 : a0 = 0 <;> by_cases z1 : a1 = 0 <;> simp [t0, t1, t2, t3, j, z0, z1]
theorem FnExactPlaneOk (a0 b0 a1 b1 a2 b2 a3 b3 : Int) (ha0 : (Lit.int .i64 a0).wf = true) (hb0 : (Lit.int .i64 b0).wf = true) (ha1 : (Lit.int .i64 a1).wf = true) (hb1 : (Lit.int .i64 b1).wf = true) (ha2 : (Lit.int .i64 a2).wf = true) (hb2 : (Lit.int .i64 b2).wf = true) (ha3 : (Lit.int .i64 a3).wf = true) (hb3 : (Lit.int .i64 b3).wf = true) : ∃ k, laws_FnExactPlaneOk.f k a0 b0 a1 b1 a2 b2 a3 b3 = some true :=
  ⟨_, plane_core KB (Nat.le_of_eq kb.symm) a0 b0 a1 b1 a2 b2 a3 b3 ha0 hb0 ha1 hb1 ha2 hb2 ha3 hb3⟩

end Go.Proofs.Ytoldnclfoagjdaa.Pure
