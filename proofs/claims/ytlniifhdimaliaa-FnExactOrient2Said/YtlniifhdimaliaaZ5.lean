/- Texts put together, in the order in which they build: T30, T31. No condition. -/
import Derived.Test.YtlniifhdimaliaaZ4
set_option linter.unusedVariables false
set_option linter.unusedSimpArgs false
/-! CmpAlong, CmpDist: both sides, and the laws. No condition. -/
namespace Go.Proofs.Ytlniifhdimaliaa.Ae
open Go Go.RowKit Go.Proofs.Ytlniifhdimaliaa.Dig
def EI2 : Enc (Int × Int) := EInt.pair EInt
def EI3 : Enc (Int × Int × Int) := EInt.trip EInt EInt
def EL3 : Enc (Int × Int × Int) := ⟨fun p => .sl 1 [i64D p.1, i64D p.2.1, i64D p.2.2], fun p q h => by
  simp only [D.sl.injEq, List.cons.injEq, and_true, true_and] at h
  exact Prod.ext (i64D_inj h.1) (Prod.ext (i64D_inj h.2.1) (i64D_inj h.2.2))⟩
@[simp] theorem EI2_e (a b : Int) : EI2.e (a, b) = .agg [.lit (.int .i64 a), .lit (.int .i64 b)] := rfl
@[simp] theorem EI3_e (a b c : Int) : EI3.e (a, b, c) = .agg [.lit (.int .i64 a), .lit (.int .i64 b), .lit (.int .i64 c)] := rfl
@[simp] theorem EL3_e (a b c : Int) : EL3.e (a, b, c) = .sl 1 [.lit (.int .i64 a), .lit (.int .i64 b), .lit (.int .i64 c)] := rfl
def EI2L : Enc (List (Int × Int)) := EI2.list 2
def EI3L : Enc (List (Int × Int × Int)) := EI3.list 3
/-- A moderate coordinate. -/
def cm (x : Int) : Prop := -67108864 ≤ x ∧ x ≤ 67108864
instance (x : Int) : Decidable (cm x) := by unfold cm; infer_instance
def c2 (p : Int × Int) : Prop := cm p.1 ∧ cm p.2
instance (p : Int × Int) : Decidable (c2 p) := by unfold c2; infer_instance
def c3 (p : Int × Int × Int) : Prop := cm p.1 ∧ cm p.2.1 ∧ cm p.2.2
instance (p : Int × Int × Int) : Decidable (c3 p) := by unfold c3; infer_instance
theorem all_drop' {α : Type} (f : α → Bool) : ∀ (l : List α) (k : Nat) (v : α), l[k]? = some v → (∀ y ∈ l.take k, f y = true) → (f v = false → l.all f = false) ∧ (f v = true → ∀ y ∈ l.take (k + 1), f y = true) := by
  intro l k v hx h
  constructor
  · intro hv
    rw [List.all_eq_false]
    exact ⟨v, List.mem_of_getElem? hx, by rw [hv]; simp⟩
  · intro hv y hy
    rw [List.take_add_one, hx] at hy
    rcases List.mem_append.1 hy with hy | hy
    · exact h y hy
    · simp at hy; rw [hy]; exact hv
theorem pt2_at {l : List (Int × Int)} {k : Nat} (h : k < l.length) : ∃ a b, l[k]? = some (a, b) ∧ ix (l.map EI2.e) k = some (.agg [.lit (.int .i64 a), .lit (.int .i64 b)]) := by
  have hx := List.getElem?_eq_getElem h
  obtain ⟨⟨a, b⟩, hq⟩ : ∃ q, q = l[k] := ⟨_, rfl⟩
  rw [← hq] at hx
  exact ⟨a, b, hx, by unfold ix; rw [List.getElem?_map, hx]; rfl⟩
theorem pt3_at {l : List (Int × Int × Int)} {k : Nat} (h : k < l.length) : ∃ a b c, l[k]? = some (a, b, c) ∧ ix (l.map EI3.e) k = some (.agg [.lit (.int .i64 a), .lit (.int .i64 b), .lit (.int .i64 c)]) := by
  have hx := List.getElem?_eq_getElem h
  obtain ⟨⟨a, b, c⟩, hq⟩ : ∃ q, q = l[k] := ⟨_, rfl⟩
  rw [← hq] at hx
  exact ⟨a, b, c, hx, by unfold ix; rw [List.getElem?_map, hx]; rfl⟩

/-! i.tame2 -/
noncomputable def tame2C := ct1 EI2L (fun l => l.length < 4611686018427387904) (fun l => [.lit (.bool (l.all fun p => decide (c2 p)))])
@[simp] theorem tame2C_at (l : List (Int × Int)) : tame2C [.sl 2 (l.map EI2.e)] = (l.length < 4611686018427387904, [.lit (.bool (l.all fun p => decide (c2 p)))]) := ct1_at (A := EI2L) l
def tame2S (l : List (Int × Int)) (k : Nat) : St := ⟨[.any, .any, .any, .any, .any, .dat (.sl 2 (l.map EI2.e)), .dat (.lit (.int .i64 l.length)), .dat (.lit (.int .i64 k)), .any, .any, .any, .any, .any, .any, .any, .any, .any, .any, .any, .any, .any, .any, .any, .any, .any, .any, .any, .any, .any, .any], [none, none, none, none, none, none, none, none, none, none, none, none, none, none, none, none, none, none, none, none, none, none, none, none, none, none, none, none, none, none]⟩
theorem tame2_spec {N : NR} : SpecD N Try.prog 19 tame2C := by
  refine rd1 (mf := fun f => false) (tb := tbl []) tbl_nil (fn := Try.f19) (by kernel_rfl) rfl (by kernel_rfl) (by kernel_rfl) ?_
  rintro l hl
  have hl : l.length < 4611686018427387904 := hl
  generalize hr : (l.all fun p => decide (c2 p)) = r
  show awp _ _ _ _ (start _ ([.sl 2 (l.map EI2.e)].map .dat) []) (endK _ _ _ ([D.lit (.bool r)].map .dat) [])
  simp only [Try.f19]
  simp [-D.isLit]
  refine loop_go (fun n st => ∃ k, n = l.length - k ∧ k ≤ l.length ∧ (∀ y ∈ l.take k, decide (c2 y) = true) ∧ st = tame2S l k) (s0 := tame2S l 0) (n := l.length) (snd_of (by simp [LeT, tame2S]) (by simp [tame2S])) ⟨0, rfl, Nat.zero_le _, by simp, rfl⟩ ?_
  rintro n st ⟨k, hn, hk, hall, rfl⟩ KN hN
  by_cases h : k < l.length
  · obtain ⟨a, b, hx, e1⟩ := pt2_at h
    obtain ⟨a1, a2⟩ := all_drop' (fun v => decide (c2 v)) l k _ hx hall
    have w1 : IntKind.i64.wrap ((k : Int) + 1) = (k : Int) + 1 := i64_id _ (by omega) (by omega)
    by_cases hok : c2 (a, b)
    · have k1 : ¬ a < -67108864 := by have := hok.1.1; show ¬ a < _; omega
      have k2 : ¬ 67108864 < a := by have := hok.1.2; show ¬ _ < a; omega
      have k3 : ¬ b < -67108864 := by have := hok.2.1; show ¬ b < _; omega
      have k4 : ¬ 67108864 < b := by have := hok.2.2; show ¬ _ < b; omega
      simp [-D.isLit, tame2S, h, e1, k1, k2, k3, k4, w1]
      exact hN _ (nx (m := l.length - (k + 1)) (s'' := tame2S l (k + 1)) (snd_obs (n := 30) [] rfl (by simp) (by simp [tame2S])) ⟨k + 1, rfl, h, a2 (decide_eq_true hok), rfl⟩ (by omega))
    · have hb : a < -67108864 ∨ 67108864 < a ∨ b < -67108864 ∨ 67108864 < b := by
        apply Classical.byContradiction
        intro hh
        exact hok ⟨⟨by show _ ≤ a; omega, by show a ≤ _; omega⟩, ⟨by show _ ≤ b; omega, by show b ≤ _; omega⟩⟩
      have a1 := a1 (decide_eq_false hok)
      rw [hr] at a1
      subst a1
      by_cases k1 : a < -67108864
      · simp [-D.isLit, tame2S, h, e1, k1]
      · by_cases k2 : 67108864 < a
        · simp [-D.isLit, tame2S, h, e1, k1, k2]
        · by_cases k3 : b < -67108864
          · simp [-D.isLit, tame2S, h, e1, k1, k2, k3]
          · have k4 : 67108864 < b := by omega
            simp [-D.isLit, tame2S, h, e1, k1, k2, k3, k4]
  · have hkl : k = l.length := by omega
    subst hkl
    rw [List.take_length] at hall
    have hrt : r = true := by rw [← hr, List.all_eq_true]; exact hall
    subst hrt
    simp [tame2S]
theorem tame2_ok : callable Try.prog 19 = true := by kernel_rfl
theorem tame2_2 (a b c d : Int) : tame2C [.sl 2 [.agg [.lit (.int .i64 a), .lit (.int .i64 b)], .agg [.lit (.int .i64 c), .lit (.int .i64 d)]]] = (True, [.lit (.bool (decide (c2 (a, b)) && decide (c2 (c, d))))]) := by
  have h1 := tame2C_at [(a, b), (c, d)]
  have h2 : (([(a, b), (c, d)] : List (Int × Int)).length < 4611686018427387904) = True := eq_true (by simp)
  rw [h2] at h1
  have h3 : (([(a, b), (c, d)] : List (Int × Int)).all fun p => decide (c2 p)) = (decide (c2 (a, b)) && decide (c2 (c, d))) := by simp
  rw [h3] at h1
  exact h1
attribute [simp] tame2_2
theorem c3_c2 (a b c : Int) : c3 (a, b, c) ↔ c2 (a, b) ∧ c2 (c, 0) := by
  unfold c3 c2 cm
  simp only []
  omega

/-! i.tame3 -/
noncomputable def tame3C := ct1 EI3L (fun l => l.length < 4611686018427387904) (fun l => [.lit (.bool (l.all fun p => decide (c3 p)))])
@[simp] theorem tame3C_at (l : List (Int × Int × Int)) : tame3C [.sl 3 (l.map EI3.e)] = (l.length < 4611686018427387904, [.lit (.bool (l.all fun p => decide (c3 p)))]) := ct1_at (A := EI3L) l
noncomputable def tame3Tb : List (FuncId × Ct) := [(19, .data tame2C)]
theorem tame3Tb_ok {N : NR} : TbOK N Try.prog (tbl tame3Tb) := tbl_cons (c := .data tame2C) tame2_spec tame2_ok tbl_nil

@[simp] theorem tame3Tb1 : tbl tame3Tb 19 = some (.data tame2C) := rfl
def tame3S (l : List (Int × Int × Int)) (k : Nat) : St := ⟨[.any, .any, .any, .any, .any, .dat (.sl 3 (l.map EI3.e)), .dat (.lit (.int .i64 l.length)), .dat (.lit (.int .i64 k)), .any, .any, .any, .any, .any, .any, .any, .any, .any, .any, .any, .any, .any, .any, .any], [none, none, none, none, none, none, none, none, none, none, none, none, none, none, none, none, none, none, none, none, none, none, none]⟩
theorem tame3_spec {N : NR} : SpecD N Try.prog 24 tame3C := by
  refine rd1 (mf := fun f => false) tame3Tb_ok (fn := Try.f24) (by kernel_rfl) rfl (by kernel_rfl) (by kernel_rfl) ?_
  rintro l hl
  have hl : l.length < 4611686018427387904 := hl
  generalize hr : (l.all fun p => decide (c3 p)) = r
  show awp _ _ _ _ (start _ ([.sl 3 (l.map EI3.e)].map .dat) []) (endK _ _ _ ([D.lit (.bool r)].map .dat) [])
  simp only [Try.f24]
  simp [-D.isLit]
  refine loop_go (fun n st => ∃ k, n = l.length - k ∧ k ≤ l.length ∧ (∀ y ∈ l.take k, decide (c3 y) = true) ∧ st = tame3S l k) (s0 := tame3S l 0) (n := l.length) (snd_of (by simp [LeT, tame3S]) (by simp [tame3S])) ⟨0, rfl, Nat.zero_le _, by simp, rfl⟩ ?_
  rintro n st ⟨k, hn, hk, hall, rfl⟩ KN hN
  by_cases h : k < l.length
  · obtain ⟨a, b, c, hx, e1⟩ := pt3_at h
    obtain ⟨a1, a2⟩ := all_drop' (fun v => decide (c3 v)) l k _ hx hall
    have w1 : IntKind.i64.wrap ((k : Int) + 1) = (k : Int) + 1 := i64_id _ (by omega) (by omega)
    by_cases hok : c3 (a, b, c)
    · have k1 := (c3_c2 a b c).1 hok
      simp [-D.isLit, tame3S, h, e1, k1.1, k1.2, w1]
      exact hN _ (nx (m := l.length - (k + 1)) (s'' := tame3S l (k + 1)) (snd_obs (n := 23) [] rfl (by simp) (by simp [tame3S])) ⟨k + 1, rfl, h, a2 (decide_eq_true hok), rfl⟩ (by omega))
    · have hb : (decide (c2 (a, b)) && decide (c2 (c, 0))) = false := by rw [← Bool.decide_and]; exact decide_eq_false (fun x => hok ((c3_c2 a b c).2 x))
      have a1 := a1 (decide_eq_false hok)
      rw [hr] at a1
      subst a1
      simp [-D.isLit, tame3S, h, e1, hb]
  · have hkl : k = l.length := by omega
    subst hkl
    rw [List.take_length] at hall
    have hrt : r = true := by rw [← hr, List.all_eq_true]; exact hall
    subst hrt
    simp [tame3S]
theorem tame3_ok : callable Try.prog 24 = true := by kernel_rfl

/-! s.l2In -/
noncomputable def l2InC := ct1 EInt (fun p0 => True) (fun p0 => [.lit (.bool (decide (cm p0)))])
@[simp] theorem l2InC_at (a : Int) : l2InC [.lit (.int .i64 a)] = (True, [.lit (.bool (decide (cm a)))]) := ct1_at a
theorem l2In_spec : SpecD NF Try.prog 28 l2InC := by
  refine rd1 (mf := fun f => false) (tb := tbl []) tbl_nil (fn := Try.f28) (by kernel_rfl) rfl (by kernel_rfl) (by kernel_rfl) ?_
  rintro a hp
  have hp : True := hp
  show awp _ _ _ _ (start _ ([.lit (.int .i64 a)].map .dat) []) (endK _ _ _ (([.lit (.bool (decide (cm a)))]).map .dat) [])
  by_cases h1 : -67108864 ≤ a <;> by_cases h2 : a ≤ 67108864 <;> simp [-D.isLit, Try.f28, cm, h1, h2]
theorem l2In_ok : callable Try.prog 28 = true := by kernel_rfl

/-! s.l2Tame -/
noncomputable def l2TameC := ct1 EI3L (fun l => l.length < 4611686018427387904) (fun l => [.lit (.bool (l.all fun p => decide (c3 p)))])
@[simp] theorem l2TameC_at (l : List (Int × Int × Int)) : l2TameC [.sl 3 (l.map EI3.e)] = (l.length < 4611686018427387904, [.lit (.bool (l.all fun p => decide (c3 p)))]) := ct1_at (A := EI3L) l
noncomputable def l2TameTb : List (FuncId × Ct) := [(28, .data l2InC)]
theorem l2TameTb_ok : TbOK NF Try.prog (tbl l2TameTb) := tbl_cons (c := .data l2InC) l2In_spec l2In_ok tbl_nil

@[simp] theorem l2TameTb1 : tbl l2TameTb 28 = some (.data l2InC) := rfl
def l2TameS (l : List (Int × Int × Int)) (k : Nat) : St := ⟨[.dat (.sl 3 (l.map EI3.e)), .any, .any, .dat (.lit (.int .i64 k)), .any, .any, .any, .any, .any, .any, .any, .any, .any, .any, .any, .any, .any, .any, .any, .any, .any, .any, .any, .any, .any, .any, .any, .any, .any, .any, .any, .any, .any, .any, .any], [none, none, none, none, none, none, none, none, none, none, none, none, none, none, none, none, none, none, none, none, none, none, none, none, none, none, none, none, none, none, none, none, none, none, none]⟩
theorem l2Tame_spec : SpecD NF Try.prog 21 l2TameC := by
  refine rd1 (mf := fun f => false) l2TameTb_ok (fn := Try.f21) (by kernel_rfl) rfl (by kernel_rfl) (by kernel_rfl) ?_
  rintro l hl
  have hl : l.length < 4611686018427387904 := hl
  generalize hr : (l.all fun p => decide (c3 p)) = r
  show awp _ _ _ _ (start _ ([.sl 3 (l.map EI3.e)].map .dat) []) (endK _ _ _ ([D.lit (.bool r)].map .dat) [])
  simp only [Try.f21]
  simp [-D.isLit]
  refine loop_go (fun n st => ∃ k, n = l.length - k ∧ k ≤ l.length ∧ (∀ y ∈ l.take k, decide (c3 y) = true) ∧ st = l2TameS l k) (s0 := l2TameS l 0) (n := l.length) (snd_of (by simp [LeT, l2TameS]) (by simp [l2TameS])) ⟨0, rfl, Nat.zero_le _, by simp, rfl⟩ ?_
  rintro n st ⟨k, hn, hk, hall, rfl⟩ KN hN
  by_cases h : k < l.length
  · obtain ⟨a, b, c, hx, e1⟩ := pt3_at h
    obtain ⟨a1, a2⟩ := all_drop' (fun v => decide (c3 v)) l k _ hx hall
    have w1 : IntKind.i64.wrap ((k : Int) + 1) = (k : Int) + 1 := i64_id _ (by omega) (by omega)
    by_cases hok : c3 (a, b, c)
    · have k1 : cm a := hok.1
      have k2 : cm b := hok.2.1
      have k3 : cm c := hok.2.2
      simp [-D.isLit, l2TameS, h, e1, k1, k2, k3, w1]
      exact hN _ (nx (m := l.length - (k + 1)) (s'' := l2TameS l (k + 1)) (snd_obs (n := 35) [] rfl (by simp) (by simp [l2TameS])) ⟨k + 1, rfl, h, a2 (decide_eq_true hok), rfl⟩ (by omega))
    · have hb : cm a → cm b → ¬ cm c := fun x y z => hok ⟨x, y, z⟩
      have a1 := a1 (decide_eq_false hok)
      rw [hr] at a1
      subst a1
      by_cases k1 : cm a
      · by_cases k2 : cm b
        · have k3 := hb k1 k2
          simp [-D.isLit, l2TameS, h, e1, k1, k2, k3]
        · simp [-D.isLit, l2TameS, h, e1, k1, k2]
      · simp [-D.isLit, l2TameS, h, e1, k1]
  · have hkl : k = l.length := by omega
    subst hkl
    rw [List.take_length] at hall
    have hrt : r = true := by rw [← hr, List.all_eq_true]; exact hall
    subst hrt
    simp [l2TameS]
theorem l2Tame_ok : callable Try.prog 21 = true := by kernel_rfl
theorem tame3_3 (a b c d e f g h i : Int) : tame3C [.sl 3 [.agg [.lit (.int .i64 a), .lit (.int .i64 b), .lit (.int .i64 c)], .agg [.lit (.int .i64 d), .lit (.int .i64 e), .lit (.int .i64 f)], .agg [.lit (.int .i64 g), .lit (.int .i64 h), .lit (.int .i64 i)]]] = (True, [.lit (.bool (decide (c3 (a, b, c) ∧ c3 (d, e, f) ∧ c3 (g, h, i))))]) := by
  have h1 := tame3C_at [(a, b, c), (d, e, f), (g, h, i)]
  have h2 : (([(a, b, c), (d, e, f), (g, h, i)] : List (Int × Int × Int)).length < 4611686018427387904) = True := eq_true (by simp)
  rw [h2] at h1
  have h3 : (([(a, b, c), (d, e, f), (g, h, i)] : List (Int × Int × Int)).all fun p => decide (c3 p)) = decide (c3 (a, b, c) ∧ c3 (d, e, f) ∧ c3 (g, h, i)) := by rw [Bool.eq_iff_iff, decide_eq_true_eq]; simp
  rw [h3] at h1
  exact h1
attribute [simp] tame3_3
theorem tame3_4 (a b c d e f g h i j k l : Int) : tame3C [.sl 3 [.agg [.lit (.int .i64 a), .lit (.int .i64 b), .lit (.int .i64 c)], .agg [.lit (.int .i64 d), .lit (.int .i64 e), .lit (.int .i64 f)], .agg [.lit (.int .i64 g), .lit (.int .i64 h), .lit (.int .i64 i)], .agg [.lit (.int .i64 j), .lit (.int .i64 k), .lit (.int .i64 l)]]] = (True, [.lit (.bool (decide (c3 (a, b, c) ∧ c3 (d, e, f) ∧ c3 (g, h, i) ∧ c3 (j, k, l))))]) := by
  have h1 := tame3C_at [(a, b, c), (d, e, f), (g, h, i), (j, k, l)]
  have h2 : (([(a, b, c), (d, e, f), (g, h, i), (j, k, l)] : List (Int × Int × Int)).length < 4611686018427387904) = True := eq_true (by simp)
  rw [h2] at h1
  have h3 : (([(a, b, c), (d, e, f), (g, h, i), (j, k, l)] : List (Int × Int × Int)).all fun p => decide (c3 p)) = decide (c3 (a, b, c) ∧ c3 (d, e, f) ∧ c3 (g, h, i) ∧ c3 (j, k, l)) := by rw [Bool.eq_iff_iff, decide_eq_true_eq]; simp
  rw [h3] at h1
  exact h1
attribute [simp] tame3_4
theorem l2Tame_3 (a b c d e f g h i : Int) : l2TameC [.sl 3 [.agg [.lit (.int .i64 a), .lit (.int .i64 b), .lit (.int .i64 c)], .agg [.lit (.int .i64 d), .lit (.int .i64 e), .lit (.int .i64 f)], .agg [.lit (.int .i64 g), .lit (.int .i64 h), .lit (.int .i64 i)]]] = (True, [.lit (.bool (decide (c3 (a, b, c) ∧ c3 (d, e, f) ∧ c3 (g, h, i))))]) := by
  have h1 := l2TameC_at [(a, b, c), (d, e, f), (g, h, i)]
  have h2 : (([(a, b, c), (d, e, f), (g, h, i)] : List (Int × Int × Int)).length < 4611686018427387904) = True := eq_true (by simp)
  rw [h2] at h1
  have h3 : (([(a, b, c), (d, e, f), (g, h, i)] : List (Int × Int × Int)).all fun p => decide (c3 p)) = decide (c3 (a, b, c) ∧ c3 (d, e, f) ∧ c3 (g, h, i)) := by rw [Bool.eq_iff_iff, decide_eq_true_eq]; simp
  rw [h3] at h1
  exact h1
attribute [simp] l2Tame_3
theorem l2Tame_4 (a b c d e f g h i j k l : Int) : l2TameC [.sl 3 [.agg [.lit (.int .i64 a), .lit (.int .i64 b), .lit (.int .i64 c)], .agg [.lit (.int .i64 d), .lit (.int .i64 e), .lit (.int .i64 f)], .agg [.lit (.int .i64 g), .lit (.int .i64 h), .lit (.int .i64 i)], .agg [.lit (.int .i64 j), .lit (.int .i64 k), .lit (.int .i64 l)]]] = (True, [.lit (.bool (decide (c3 (a, b, c) ∧ c3 (d, e, f) ∧ c3 (g, h, i) ∧ c3 (j, k, l))))]) := by
  have h1 := l2TameC_at [(a, b, c), (d, e, f), (g, h, i), (j, k, l)]
  have h2 : (([(a, b, c), (d, e, f), (g, h, i), (j, k, l)] : List (Int × Int × Int)).length < 4611686018427387904) = True := eq_true (by simp)
  rw [h2] at h1
  have h3 : (([(a, b, c), (d, e, f), (g, h, i), (j, k, l)] : List (Int × Int × Int)).all fun p => decide (c3 p)) = decide (c3 (a, b, c) ∧ c3 (d, e, f) ∧ c3 (g, h, i) ∧ c3 (j, k, l)) := by rw [Bool.eq_iff_iff, decide_eq_true_eq]; simp
  rw [h3] at h1
  exact h1
attribute [simp] l2Tame_4

/-! i.less3 -/
noncomputable def less3C := ct2 EI3 EI3 (fun p0 p1 => c3 (p0.1, p0.2.1, p0.2.2) ∧ c3 (p1.1, p1.2.1, p1.2.2)) (fun p0 p1 => [.agg [.lit (.int .i64 (p0.1 - p1.1)), .lit (.int .i64 (p0.2.1 - p1.2.1)), .lit (.int .i64 (p0.2.2 - p1.2.2))]])
@[simp] theorem less3C_at (a b c : Int) (d e f : Int) : less3C [.agg [.lit (.int .i64 a), .lit (.int .i64 b), .lit (.int .i64 c)], .agg [.lit (.int .i64 d), .lit (.int .i64 e), .lit (.int .i64 f)]] = (c3 (a, b, c) ∧ c3 (d, e, f), [.agg [.lit (.int .i64 (a - d)), .lit (.int .i64 (b - e)), .lit (.int .i64 (c - f))]]) := ct2_at (a, b, c) (d, e, f)
theorem less3_spec {N : NR} : SpecD N Try.prog 26 less3C := by
  refine rd2 (mf := fun f => false) (tb := tbl []) tbl_nil (fn := Try.f26) (by kernel_rfl) rfl (by kernel_rfl) (by kernel_rfl) ?_
  rintro ⟨a, b, c⟩ ⟨d, e, f⟩ hp
  have hp : c3 (a, b, c) ∧ c3 (d, e, f) := hp
  show awp _ _ _ _ (start _ ([.agg [.lit (.int .i64 a), .lit (.int .i64 b), .lit (.int .i64 c)], .agg [.lit (.int .i64 d), .lit (.int .i64 e), .lit (.int .i64 f)]].map .dat) []) (endK _ _ _ (([.agg [.lit (.int .i64 (a - d)), .lit (.int .i64 (b - e)), .lit (.int .i64 (c - f))]]).map .dat) [])
  obtain ⟨⟨a1, a2, a3⟩, a4, a5, a6⟩ := hp
  have a1 : -67108864 ≤ a ∧ a ≤ 67108864 := a1
  have a2 : -67108864 ≤ b ∧ b ≤ 67108864 := a2
  have a3 : -67108864 ≤ c ∧ c ≤ 67108864 := a3
  have a4 : -67108864 ≤ d ∧ d ≤ 67108864 := a4
  have a5 : -67108864 ≤ e ∧ e ≤ 67108864 := a5
  have a6 : -67108864 ≤ f ∧ f ≤ 67108864 := a6
  have w1 : IntKind.i64.wrap (a - d) = a - d := i64_id _ (by omega) (by omega)
  have w2 : IntKind.i64.wrap (b - e) = b - e := i64_id _ (by omega) (by omega)
  have w3 : IntKind.i64.wrap (c - f) = c - f := i64_id _ (by omega) (by omega)
  simp [-D.isLit, Try.f26, w1, w2, w3]
theorem less3_ok : callable Try.prog 26 = true := by kernel_rfl

/-! s.l2Sub3 -/
noncomputable def l2Sub3C := ct2 EI3 EI3 (fun p0 p1 => c3 (p0.1, p0.2.1, p0.2.2) ∧ c3 (p1.1, p1.2.1, p1.2.2)) (fun p0 p1 => [.sl 1 [.lit (.int .i64 (p0.1 - p1.1)), .lit (.int .i64 (p0.2.1 - p1.2.1)), .lit (.int .i64 (p0.2.2 - p1.2.2))]])
@[simp] theorem l2Sub3C_at (a b c : Int) (d e f : Int) : l2Sub3C [.agg [.lit (.int .i64 a), .lit (.int .i64 b), .lit (.int .i64 c)], .agg [.lit (.int .i64 d), .lit (.int .i64 e), .lit (.int .i64 f)]] = (c3 (a, b, c) ∧ c3 (d, e, f), [.sl 1 [.lit (.int .i64 (a - d)), .lit (.int .i64 (b - e)), .lit (.int .i64 (c - f))]]) := ct2_at (a, b, c) (d, e, f)
theorem l2Sub3_spec : SpecD NF Try.prog 23 l2Sub3C := by
  refine rd2 (mf := fun f => false) (tb := tbl []) tbl_nil (fn := Try.f23) (by kernel_rfl) rfl (by kernel_rfl) (by kernel_rfl) ?_
  rintro ⟨a, b, c⟩ ⟨d, e, f⟩ hp
  have hp : c3 (a, b, c) ∧ c3 (d, e, f) := hp
  show awp _ _ _ _ (start _ ([.agg [.lit (.int .i64 a), .lit (.int .i64 b), .lit (.int .i64 c)], .agg [.lit (.int .i64 d), .lit (.int .i64 e), .lit (.int .i64 f)]].map .dat) []) (endK _ _ _ (([.sl 1 [.lit (.int .i64 (a - d)), .lit (.int .i64 (b - e)), .lit (.int .i64 (c - f))]]).map .dat) [])
  obtain ⟨⟨a1, a2, a3⟩, a4, a5, a6⟩ := hp
  have a1 : -67108864 ≤ a ∧ a ≤ 67108864 := a1
  have a2 : -67108864 ≤ b ∧ b ≤ 67108864 := a2
  have a3 : -67108864 ≤ c ∧ c ≤ 67108864 := a3
  have a4 : -67108864 ≤ d ∧ d ≤ 67108864 := a4
  have a5 : -67108864 ≤ e ∧ e ≤ 67108864 := a5
  have a6 : -67108864 ≤ f ∧ f ≤ 67108864 := a6
  have w1 : IntKind.i64.wrap (a - d) = a - d := i64_id _ (by omega) (by omega)
  have w2 : IntKind.i64.wrap (b - e) = b - e := i64_id _ (by omega) (by omega)
  have w3 : IntKind.i64.wrap (c - f) = c - f := i64_id _ (by omega) (by omega)
  simp [-D.isLit, Try.f23, w1, w2, w3]
theorem l2Sub3_ok : callable Try.prog 23 = true := by kernel_rfl
/-- A difference of moderate coordinates. -/
def dm (x : Int) : Prop := -134217728 ≤ x ∧ x ≤ 134217728
theorem dm_sub {a b : Int} (h1 : cm a) (h2 : cm b) : dm (a - b) := by unfold cm dm at *; omega
theorem dm_mul {a b : Int} (h1 : dm a) (h2 : dm b) : -18014398509481984 ≤ a * b ∧ a * b ≤ 18014398509481984 := by
  unfold dm at *
  have e : (a * b).natAbs ≤ 134217728 * 134217728 := by
    rw [Int.natAbs_mul]
    exact Nat.mul_le_mul (by omega) (by omega)
  omega
def dotI (a b c d e f : Int) : Int := a * d + b * e + c * f

/-! i.dot64 -/
noncomputable def dot64C := ct2 EI3 EI3 (fun p0 p1 => dm p0.1 ∧ dm p0.2.1 ∧ dm p0.2.2 ∧ dm p1.1 ∧ dm p1.2.1 ∧ dm p1.2.2) (fun p0 p1 => [.lit (.int .i64 (dotI p0.1 p0.2.1 p0.2.2 p1.1 p1.2.1 p1.2.2))])
@[simp] theorem dot64C_at (a b c : Int) (d e f : Int) : dot64C [.agg [.lit (.int .i64 a), .lit (.int .i64 b), .lit (.int .i64 c)], .agg [.lit (.int .i64 d), .lit (.int .i64 e), .lit (.int .i64 f)]] = (dm a ∧ dm b ∧ dm c ∧ dm d ∧ dm e ∧ dm f, [.lit (.int .i64 (dotI a b c d e f))]) := ct2_at (a, b, c) (d, e, f)
theorem dot64_spec {N : NR} : SpecD N Try.prog 25 dot64C := by
  refine rd2 (mf := fun f => false) (tb := tbl []) tbl_nil (fn := Try.f25) (by kernel_rfl) rfl (by kernel_rfl) (by kernel_rfl) ?_
  rintro ⟨a, b, c⟩ ⟨d, e, f⟩ hp
  have hp : dm a ∧ dm b ∧ dm c ∧ dm d ∧ dm e ∧ dm f := hp
  show awp _ _ _ _ (start _ ([.agg [.lit (.int .i64 a), .lit (.int .i64 b), .lit (.int .i64 c)], .agg [.lit (.int .i64 d), .lit (.int .i64 e), .lit (.int .i64 f)]].map .dat) []) (endK _ _ _ (([.lit (.int .i64 (dotI a b c d e f))]).map .dat) [])
  obtain ⟨a1, a2, a3, a4, a5, a6⟩ := hp
  have m1 := dm_mul a1 a4
  have m2 := dm_mul a2 a5
  have m3 := dm_mul a3 a6
  have w1 : IntKind.i64.wrap (a * d) = a * d := i64_id _ (by omega) (by omega)
  have w2 : IntKind.i64.wrap (b * e) = b * e := i64_id _ (by omega) (by omega)
  have w3 : IntKind.i64.wrap (c * f) = c * f := i64_id _ (by omega) (by omega)
  have w4 : IntKind.i64.wrap (a * d + b * e) = a * d + b * e := i64_id _ (by omega) (by omega)
  have w5 : IntKind.i64.wrap (a * d + b * e + c * f) = a * d + b * e + c * f := i64_id _ (by omega) (by omega)
  simp [-D.isLit, Try.f25, dotI, w1, w2, w3, w4, w5]
theorem dot64_ok : callable Try.prog 25 = true := by kernel_rfl

/-! i.sign64 -/
noncomputable def sign64C := ct1 EInt (fun p0 => True) (fun p0 => [.lit (.int .i64 p0.sign)])
@[simp] theorem sign64C_at (a : Int) : sign64C [.lit (.int .i64 a)] = (True, [.lit (.int .i64 a.sign)]) := ct1_at a
theorem sign64_spec {N : NR} : SpecD N Try.prog 20 sign64C := by
  refine rd1 (mf := fun f => false) (tb := tbl []) tbl_nil (fn := Try.f20) (by kernel_rfl) rfl (by kernel_rfl) (by kernel_rfl) ?_
  rintro a hp
  have hp : True := hp
  show awp _ _ _ _ (start _ ([.lit (.int .i64 a)].map .dat) []) (endK _ _ _ (([.lit (.int .i64 a.sign)]).map .dat) [])
  rcases Int.lt_trichotomy a 0 with h | h | h
  · have e := Int.sign_eq_neg_one_of_neg h
    have h2 : ¬ 0 < a := by omega
    simp [-D.isLit, Try.f20, e, h, h2]
  · subst h
    simp [-D.isLit, Try.f20]
  · have e := Int.sign_eq_one_of_pos h
    have h2 : ¬ a < 0 := by omega
    simp [-D.isLit, Try.f20, e, h, h2]
theorem sign64_ok : callable Try.prog 20 = true := by kernel_rfl
theorem dm_i64 {a : Int} (h : dm a) : I64 a := by unfold dm at h; unfold I64; omega
theorem dm_qsz {a : Int} (h : dm a) : qsz (a : Rat) ≤ 2 := by
  have h1 : QI a 1 := by unfold dm at h; exact ⟨by omega, by simp, by omega, by omega⟩
  have := QI_qsz h1
  rw [rat_one] at this
  exact this
def zNm : D := .agg [.lit (.int .i64 0), .lit (.int .i64 0), .lit (.slice none 0 0)]
@[simp] theorem zNm_size : zNm.size = 3 := rfl
def l2DS (a b c d e f : Int) (g : Rat) (k : Nat) : St := ⟨[.dat (.sl 1 [.lit (.int .i64 a), .lit (.int .i64 b), .lit (.int .i64 c)]), .dat (.sl 1 [.lit (.int .i64 d), .lit (.int .i64 e), .lit (.int .i64 f)]), .any, .any, .obj 4 [] 0, .obj 5 [] 0, .dat (.lit (.int .i64 k)), .any, .any, .any, .any, .any, .any, .any, .any, .any, .any, .any, .any, .any, .any, .any, .any, .any, .any, .any, .any, .any], [none, none, none, none, some (.box zNm), some (.box (nD g)), none, none, none, none, none, none, none, none, none, none, none, none, none, none, none, none, none, none, none, none, none, none]⟩

/-! s.l2Dot -/
noncomputable def l2DotC := ct2 EL3 EL3 (fun p0 p1 => dm p0.1 ∧ dm p0.2.1 ∧ dm p0.2.2 ∧ dm p1.1 ∧ dm p1.2.1 ∧ dm p1.2.2) (fun p0 p1 => [nD ((dotI p0.1 p0.2.1 p0.2.2 p1.1 p1.2.1 p1.2.2 : Int) : Rat)])
@[simp] theorem l2DotC_at (a b c : Int) (d e f : Int) : l2DotC [.sl 1 [.lit (.int .i64 a), .lit (.int .i64 b), .lit (.int .i64 c)], .sl 1 [.lit (.int .i64 d), .lit (.int .i64 e), .lit (.int .i64 f)]] = (dm a ∧ dm b ∧ dm c ∧ dm d ∧ dm e ∧ dm f, [nD ((dotI a b c d e f : Int) : Rat)]) := ct2_at (a, b, c) (d, e, f)
noncomputable def l2DotTb : List (FuncId × Ct) := [(30, .data l1rIntC), (31, .data nMulC), (33, .data nAddC)]
theorem l2DotTb_ok : TbOK NF Try.prog (tbl l2DotTb) := tbl_cons (c := .data l1rIntC) l1rInt_spec l1rInt_ok (tbl_cons (c := .data nMulC) nMul_spec l1rMul_ok (tbl_cons (c := .data nAddC) nAdd_spec l1rAdd_ok tbl_nil))

@[simp] theorem l2DotTb1 : tbl l2DotTb 30 = some (.data l1rIntC) := rfl
@[simp] theorem l2DotTb2 : tbl l2DotTb 31 = some (.data nMulC) := rfl
@[simp] theorem l2DotTb3 : tbl l2DotTb 33 = some (.data nAddC) := rfl
set_option maxRecDepth 100000 in
set_option maxHeartbeats 4000000 in
theorem l2Dot_spec : SpecD NF Try.prog 22 l2DotC := by
  refine rd2 (mf := fun f => false) l2DotTb_ok (fn := Try.f22) (by kernel_rfl) rfl (by kernel_rfl) (by kernel_rfl) ?_
  rintro ⟨a, b, c⟩ ⟨d, e, f⟩ hp
  have hp : dm a ∧ dm b ∧ dm c ∧ dm d ∧ dm e ∧ dm f := hp
  show awp _ _ _ _ (start _ ([.sl 1 [.lit (.int .i64 a), .lit (.int .i64 b), .lit (.int .i64 c)], .sl 1 [.lit (.int .i64 d), .lit (.int .i64 e), .lit (.int .i64 f)]].map .dat) []) (endK _ _ _ (([nD ((dotI a b c d e f : Int) : Rat)]).map .dat) [])
  obtain ⟨a1, a2, a3, a4, a5, a6⟩ := hp
  have ia := dm_i64 a1
  have ib := dm_i64 a2
  have ic := dm_i64 a3
  have id := dm_i64 a4
  have ie := dm_i64 a5
  have if' := dm_i64 a6
  have z1 := dm_qsz a1
  have z2 := dm_qsz a2
  have z3 := dm_qsz a3
  have z4 := dm_qsz a4
  have z5 := dm_qsz a5
  have z6 := dm_qsz a6
  have m1 := qsz_mul (a : Rat) d
  have m2 := qsz_mul (b : Rat) e
  have m3 := qsz_mul (c : Rat) f
  have hz0 : qsz (0 : Rat) ≤ 2 := by decide +kernel
  have p1 := qsz_add ((a : Rat) * d) (b * e)
  have i0 : I64 0 := by unfold I64; omega
  have w1 : IntKind.i64.wrap 1 = 1 := by decide
  have w2 : IntKind.i64.wrap 2 = 2 := by decide
  have w3 : IntKind.i64.wrap 3 = 3 := by decide
  have er : ((dotI a b c d e f : Int) : Rat) = (a : Rat) * d + b * e + c * f := by unfold dotI; simp [Rat.intCast_add, Rat.intCast_mul]
  rw [er]
  simp only [Try.f22]
  simp [-D.isLit, i0]
  refine loop_go (fun n st => ∃ k g, n = 3 - k ∧ ((k = 0 ∧ g = 0) ∨ (k = 1 ∧ g = (a : Rat) * d) ∨ (k = 2 ∧ g = (a : Rat) * d + b * e) ∨ (k = 3 ∧ g = (a : Rat) * d + b * e + c * f)) ∧ st = l2DS a b c d e f g k) (s0 := l2DS a b c d e f 0 0) (n := 3) (snd_of (by simp [LeT, l2DS]) (by simp [l2DS, zNm])) ⟨0, 0, rfl, .inl ⟨rfl, rfl⟩, rfl⟩ ?_
  rintro n st ⟨k, g, hn, hk, rfl⟩ KN hN
  rcases hk with ⟨rfl, rfl⟩ | ⟨rfl, rfl⟩ | ⟨rfl, rfl⟩ | ⟨rfl, rfl⟩
  · have s1 : qsz (0 : Rat) + qsz ((a : Rat) * d) < MX := by rw [MX_val]; omega
    have s2 : qsz (a : Rat) + qsz (d : Rat) < MX := by rw [MX_val]; omega
    simp [-D.isLit, l2DS, ix, w1, w2, w3, ia, id, s1, s2]
    exact hN _ (nx (m := 2) (s'' := l2DS a b c d e f ((a : Rat) * d) 1) (snd_obs (n := 28) [(4, 4, .box zNm), (5, 5, .box (nD ((a : Rat) * d)))] rfl (by simp [Rat.zero_add]) (by simp [l2DS])) ⟨1, (a : Rat) * d, rfl, .inr (.inl ⟨rfl, rfl⟩), rfl⟩ (by omega))
  · have s1 : qsz ((a : Rat) * d) + qsz ((b : Rat) * e) < MX := by rw [MX_val]; omega
    have s2 : qsz (b : Rat) + qsz (e : Rat) < MX := by rw [MX_val]; omega
    simp [-D.isLit, l2DS, ix, w1, w2, w3, ib, ie, s1, s2]
    exact hN _ (nx (m := 1) (s'' := l2DS a b c d e f ((a : Rat) * d + b * e) 2) (snd_obs (n := 28) [(4, 4, .box zNm), (5, 5, .box (nD ((a : Rat) * d + b * e)))] rfl (by simp [Rat.zero_add]) (by simp [l2DS])) ⟨2, (a : Rat) * d + b * e, rfl, .inr (.inr (.inl ⟨rfl, rfl⟩)), rfl⟩ (by omega))
  · have s1 : qsz ((a : Rat) * d + b * e) + qsz ((c : Rat) * f) < MX := by rw [MX_val]; omega
    have s2 : qsz (c : Rat) + qsz (f : Rat) < MX := by rw [MX_val]; omega
    simp [-D.isLit, l2DS, ix, w1, w2, w3, ic, if', s1, s2]
    exact hN _ (nx (m := 0) (s'' := l2DS a b c d e f ((a : Rat) * d + b * e + c * f) 3) (snd_obs (n := 28) [(4, 4, .box zNm), (5, 5, .box (nD ((a : Rat) * d + b * e + c * f)))] rfl (by simp [Rat.zero_add]) (by simp [l2DS])) ⟨3, (a : Rat) * d + b * e + c * f, rfl, .inr (.inr (.inr ⟨rfl, rfl⟩)), rfl⟩ (by omega))
  · simp [-D.isLit, l2DS, zNm]
theorem l2Dot_ok : callable Try.prog 22 = true := by kernel_rfl
theorem sgn_cast (n : Int) : ((n : Int) : Rat).num.sign = n.sign := by simp
theorem qcmp_cast (m n : Int) : qcmp (m : Rat) (n : Rat) = (m - n).sign := by unfold qcmp; simp

/-! i.CmpAlong -/
noncomputable def iAlC := ct4 EI3 EI3 EI3 EI3 (fun p0 p1 p2 p3 => True) (fun p0 p1 p2 p3 => [.lit (.int .i64 (if c3 (p0.1, p0.2.1, p0.2.2) ∧ c3 (p1.1, p1.2.1, p1.2.2) ∧ c3 (p2.1, p2.2.1, p2.2.2) ∧ c3 (p3.1, p3.2.1, p3.2.2) then (dotI (p1.1 - p0.1) (p1.2.1 - p0.2.1) (p1.2.2 - p0.2.2) (p3.1 - p2.1) (p3.2.1 - p2.2.1) (p3.2.2 - p2.2.2)).sign else 2))])
@[simp] theorem iAlC_at (a b c : Int) (d e f : Int) (g h i : Int) (j k l : Int) : iAlC [.agg [.lit (.int .i64 a), .lit (.int .i64 b), .lit (.int .i64 c)], .agg [.lit (.int .i64 d), .lit (.int .i64 e), .lit (.int .i64 f)], .agg [.lit (.int .i64 g), .lit (.int .i64 h), .lit (.int .i64 i)], .agg [.lit (.int .i64 j), .lit (.int .i64 k), .lit (.int .i64 l)]] = (True, [.lit (.int .i64 (if c3 (a, b, c) ∧ c3 (d, e, f) ∧ c3 (g, h, i) ∧ c3 (j, k, l) then (dotI (d - a) (e - b) (f - c) (j - g) (k - h) (l - i)).sign else 2))]) := ct4_at (a, b, c) (d, e, f) (g, h, i) (j, k, l)
noncomputable def iAlTb : List (FuncId × Ct) := [(24, .data tame3C), (26, .data less3C), (25, .data dot64C), (20, .data sign64C)]
theorem iAlTb_ok {N : NR} : TbOK N Try.prog (tbl iAlTb) := tbl_cons (c := .data tame3C) tame3_spec tame3_ok (tbl_cons (c := .data less3C) less3_spec less3_ok (tbl_cons (c := .data dot64C) dot64_spec dot64_ok (tbl_cons (c := .data sign64C) sign64_spec sign64_ok tbl_nil)))

@[simp] theorem iAlTb1 : tbl iAlTb 24 = some (.data tame3C) := rfl
@[simp] theorem iAlTb2 : tbl iAlTb 26 = some (.data less3C) := rfl
@[simp] theorem iAlTb3 : tbl iAlTb 25 = some (.data dot64C) := rfl
@[simp] theorem iAlTb4 : tbl iAlTb 20 = some (.data sign64C) := rfl
set_option maxRecDepth 100000 in
set_option maxHeartbeats 4000000 in
theorem iAl_spec {N : NR} : SpecD N Try.prog 11 iAlC := by
  refine rd4 (mf := fun f => false) iAlTb_ok (fn := Try.f11) (by kernel_rfl) rfl (by kernel_rfl) (by kernel_rfl) ?_
  rintro ⟨a, b, c⟩ ⟨d, e, f⟩ ⟨g, h, i⟩ ⟨j, k, l⟩ hp
  have hp : True := hp
  show awp _ _ _ _ (start _ ([.agg [.lit (.int .i64 a), .lit (.int .i64 b), .lit (.int .i64 c)], .agg [.lit (.int .i64 d), .lit (.int .i64 e), .lit (.int .i64 f)], .agg [.lit (.int .i64 g), .lit (.int .i64 h), .lit (.int .i64 i)], .agg [.lit (.int .i64 j), .lit (.int .i64 k), .lit (.int .i64 l)]].map .dat) []) (endK _ _ _ (([.lit (.int .i64 (if c3 (a, b, c) ∧ c3 (d, e, f) ∧ c3 (g, h, i) ∧ c3 (j, k, l) then (dotI (d - a) (e - b) (f - c) (j - g) (k - h) (l - i)).sign else 2))]).map .dat) [])
  by_cases hok : c3 (a, b, c) ∧ c3 (d, e, f) ∧ c3 (g, h, i) ∧ c3 (j, k, l)
  · obtain ⟨ok1, ok2, ok3, ok4⟩ := hok
    have d0 : dm (d - a) := dm_sub (ok2.1) (ok1.1)
    have d1 : dm (e - b) := dm_sub (ok2.2.1) (ok1.2.1)
    have d2 : dm (f - c) := dm_sub (ok2.2.2) (ok1.2.2)
    have d3 : dm (j - g) := dm_sub (ok4.1) (ok3.1)
    have d4 : dm (k - h) := dm_sub (ok4.2.1) (ok3.2.1)
    have d5 : dm (l - i) := dm_sub (ok4.2.2) (ok3.2.2)
    simp [-D.isLit, Try.f11, ok1, ok2, ok3, ok4, d0, d1, d2, d3, d4, d5]
  · have hb : decide (c3 (a, b, c) ∧ c3 (d, e, f) ∧ c3 (g, h, i) ∧ c3 (j, k, l)) = false := decide_eq_false hok
    rw [if_neg hok]
    simp [-D.isLit, -Bool.decide_and, Try.f11, hb]
theorem iAl_ok : callable Try.prog 11 = true := by kernel_rfl

/-! s.CmpAlong -/
noncomputable def sAlC := ct4 EI3 EI3 EI3 EI3 (fun p0 p1 p2 p3 => True) (fun p0 p1 p2 p3 => [.lit (.int .i64 (if c3 (p0.1, p0.2.1, p0.2.2) ∧ c3 (p1.1, p1.2.1, p1.2.2) ∧ c3 (p2.1, p2.2.1, p2.2.2) ∧ c3 (p3.1, p3.2.1, p3.2.2) then (dotI (p1.1 - p0.1) (p1.2.1 - p0.2.1) (p1.2.2 - p0.2.2) (p3.1 - p2.1) (p3.2.1 - p2.2.1) (p3.2.2 - p2.2.2)).sign else 2))])
@[simp] theorem sAlC_at (a b c : Int) (d e f : Int) (g h i : Int) (j k l : Int) : sAlC [.agg [.lit (.int .i64 a), .lit (.int .i64 b), .lit (.int .i64 c)], .agg [.lit (.int .i64 d), .lit (.int .i64 e), .lit (.int .i64 f)], .agg [.lit (.int .i64 g), .lit (.int .i64 h), .lit (.int .i64 i)], .agg [.lit (.int .i64 j), .lit (.int .i64 k), .lit (.int .i64 l)]] = (True, [.lit (.int .i64 (if c3 (a, b, c) ∧ c3 (d, e, f) ∧ c3 (g, h, i) ∧ c3 (j, k, l) then (dotI (d - a) (e - b) (f - c) (j - g) (k - h) (l - i)).sign else 2))]) := ct4_at (a, b, c) (d, e, f) (g, h, i) (j, k, l)
noncomputable def sAlTb : List (FuncId × Ct) := [(21, .data l2TameC), (23, .data l2Sub3C), (22, .data l2DotC), (15, .data nSignC)]
theorem sAlTb_ok : TbOK NF Try.prog (tbl sAlTb) := tbl_cons (c := .data l2TameC) l2Tame_spec l2Tame_ok (tbl_cons (c := .data l2Sub3C) l2Sub3_spec l2Sub3_ok (tbl_cons (c := .data l2DotC) l2Dot_spec l2Dot_ok (tbl_cons (c := .data nSignC) nSign_spec l1rSign_ok tbl_nil)))

@[simp] theorem sAlTb1 : tbl sAlTb 21 = some (.data l2TameC) := rfl
@[simp] theorem sAlTb2 : tbl sAlTb 23 = some (.data l2Sub3C) := rfl
@[simp] theorem sAlTb3 : tbl sAlTb 22 = some (.data l2DotC) := rfl
@[simp] theorem sAlTb4 : tbl sAlTb 15 = some (.data nSignC) := rfl
set_option maxRecDepth 100000 in
set_option maxHeartbeats 4000000 in
theorem sAl_spec : SpecD NF Try.prog 9 sAlC := by
  refine rd4 (mf := fun f => false) sAlTb_ok (fn := Try.f9) (by kernel_rfl) rfl (by kernel_rfl) (by kernel_rfl) ?_
  rintro ⟨a, b, c⟩ ⟨d, e, f⟩ ⟨g, h, i⟩ ⟨j, k, l⟩ hp
  have hp : True := hp
  show awp _ _ _ _ (start _ ([.agg [.lit (.int .i64 a), .lit (.int .i64 b), .lit (.int .i64 c)], .agg [.lit (.int .i64 d), .lit (.int .i64 e), .lit (.int .i64 f)], .agg [.lit (.int .i64 g), .lit (.int .i64 h), .lit (.int .i64 i)], .agg [.lit (.int .i64 j), .lit (.int .i64 k), .lit (.int .i64 l)]].map .dat) []) (endK _ _ _ (([.lit (.int .i64 (if c3 (a, b, c) ∧ c3 (d, e, f) ∧ c3 (g, h, i) ∧ c3 (j, k, l) then (dotI (d - a) (e - b) (f - c) (j - g) (k - h) (l - i)).sign else 2))]).map .dat) [])
  by_cases hok : c3 (a, b, c) ∧ c3 (d, e, f) ∧ c3 (g, h, i) ∧ c3 (j, k, l)
  · obtain ⟨ok1, ok2, ok3, ok4⟩ := hok
    have d0 : dm (d - a) := dm_sub (ok2.1) (ok1.1)
    have d1 : dm (e - b) := dm_sub (ok2.2.1) (ok1.2.1)
    have d2 : dm (f - c) := dm_sub (ok2.2.2) (ok1.2.2)
    have d3 : dm (j - g) := dm_sub (ok4.1) (ok3.1)
    have d4 : dm (k - h) := dm_sub (ok4.2.1) (ok3.2.1)
    have d5 : dm (l - i) := dm_sub (ok4.2.2) (ok3.2.2)
    simp [-D.isLit, Try.f9, ok1, ok2, ok3, ok4, d0, d1, d2, d3, d4, d5, sgn_cast]
  · have hb : decide (c3 (a, b, c) ∧ c3 (d, e, f) ∧ c3 (g, h, i) ∧ c3 (j, k, l)) = false := decide_eq_false hok
    rw [if_neg hok]
    simp [-D.isLit, -Bool.decide_and, Try.f9, hb]
theorem sAl_ok : callable Try.prog 9 = true := by kernel_rfl

/-! i.CmpDist -/
noncomputable def iDiC := ct3 EI3 EI3 EI3 (fun p0 p1 p2 => True) (fun p0 p1 p2 => [.lit (.int .i64 (if c3 (p0.1, p0.2.1, p0.2.2) ∧ c3 (p1.1, p1.2.1, p1.2.2) ∧ c3 (p2.1, p2.2.1, p2.2.2) then (dotI (p1.1 - p0.1) (p1.2.1 - p0.2.1) (p1.2.2 - p0.2.2) (p1.1 - p0.1) (p1.2.1 - p0.2.1) (p1.2.2 - p0.2.2) - dotI (p2.1 - p0.1) (p2.2.1 - p0.2.1) (p2.2.2 - p0.2.2) (p2.1 - p0.1) (p2.2.1 - p0.2.1) (p2.2.2 - p0.2.2)).sign else 2))])
@[simp] theorem iDiC_at (a b c : Int) (d e f : Int) (g h i : Int) : iDiC [.agg [.lit (.int .i64 a), .lit (.int .i64 b), .lit (.int .i64 c)], .agg [.lit (.int .i64 d), .lit (.int .i64 e), .lit (.int .i64 f)], .agg [.lit (.int .i64 g), .lit (.int .i64 h), .lit (.int .i64 i)]] = (True, [.lit (.int .i64 (if c3 (a, b, c) ∧ c3 (d, e, f) ∧ c3 (g, h, i) then (dotI (d - a) (e - b) (f - c) (d - a) (e - b) (f - c) - dotI (g - a) (h - b) (i - c) (g - a) (h - b) (i - c)).sign else 2))]) := ct3_at (a, b, c) (d, e, f) (g, h, i)
noncomputable def iDiTb : List (FuncId × Ct) := [(24, .data tame3C), (26, .data less3C), (25, .data dot64C), (20, .data sign64C)]
theorem iDiTb_ok {N : NR} : TbOK N Try.prog (tbl iDiTb) := tbl_cons (c := .data tame3C) tame3_spec tame3_ok (tbl_cons (c := .data less3C) less3_spec less3_ok (tbl_cons (c := .data dot64C) dot64_spec dot64_ok (tbl_cons (c := .data sign64C) sign64_spec sign64_ok tbl_nil)))

@[simp] theorem iDiTb1 : tbl iDiTb 24 = some (.data tame3C) := rfl
@[simp] theorem iDiTb2 : tbl iDiTb 26 = some (.data less3C) := rfl
@[simp] theorem iDiTb3 : tbl iDiTb 25 = some (.data dot64C) := rfl
@[simp] theorem iDiTb4 : tbl iDiTb 20 = some (.data sign64C) := rfl
set_option maxRecDepth 100000 in
set_option maxHeartbeats 4000000 in
theorem iDi_spec {N : NR} : SpecD N Try.prog 13 iDiC := by
  refine rd3 (mf := fun f => false) iDiTb_ok (fn := Try.f13) (by kernel_rfl) rfl (by kernel_rfl) (by kernel_rfl) ?_
  rintro ⟨a, b, c⟩ ⟨d, e, f⟩ ⟨g, h, i⟩ hp
  have hp : True := hp
  show awp _ _ _ _ (start _ ([.agg [.lit (.int .i64 a), .lit (.int .i64 b), .lit (.int .i64 c)], .agg [.lit (.int .i64 d), .lit (.int .i64 e), .lit (.int .i64 f)], .agg [.lit (.int .i64 g), .lit (.int .i64 h), .lit (.int .i64 i)]].map .dat) []) (endK _ _ _ (([.lit (.int .i64 (if c3 (a, b, c) ∧ c3 (d, e, f) ∧ c3 (g, h, i) then (dotI (d - a) (e - b) (f - c) (d - a) (e - b) (f - c) - dotI (g - a) (h - b) (i - c) (g - a) (h - b) (i - c)).sign else 2))]).map .dat) [])
  by_cases hok : c3 (a, b, c) ∧ c3 (d, e, f) ∧ c3 (g, h, i)
  · obtain ⟨ok1, ok2, ok3⟩ := hok
    have d0 : dm (d - a) := dm_sub (ok2.1) (ok1.1)
    have d1 : dm (e - b) := dm_sub (ok2.2.1) (ok1.2.1)
    have d2 : dm (f - c) := dm_sub (ok2.2.2) (ok1.2.2)
    have d3 : dm (g - a) := dm_sub (ok3.1) (ok1.1)
    have d4 : dm (h - b) := dm_sub (ok3.2.1) (ok1.2.1)
    have d5 : dm (i - c) := dm_sub (ok3.2.2) (ok1.2.2)
    have wd : IntKind.i64.wrap (dotI (d - a) (e - b) (f - c) (d - a) (e - b) (f - c) - dotI (g - a) (h - b) (i - c) (g - a) (h - b) (i - c)) = dotI (d - a) (e - b) (f - c) (d - a) (e - b) (f - c) - dotI (g - a) (h - b) (i - c) (g - a) (h - b) (i - c) := by
      have m1 := dm_mul d0 d0
      have m2 := dm_mul d1 d1
      have m3 := dm_mul d2 d2
      have m4 := dm_mul d3 d3
      have m5 := dm_mul d4 d4
      have m6 := dm_mul d5 d5
      unfold dotI
      exact i64_id _ (by omega) (by omega)
    simp [-D.isLit, Try.f13, ok1, ok2, ok3, d0, d1, d2, d3, d4, d5, wd]
  · have hb : decide (c3 (a, b, c) ∧ c3 (d, e, f) ∧ c3 (g, h, i)) = false := decide_eq_false hok
    rw [if_neg hok]
    simp [-D.isLit, -Bool.decide_and, Try.f13, hb]
theorem iDi_ok : callable Try.prog 13 = true := by kernel_rfl
theorem dot_sz {a b c : Int} (h1 : dm a) (h2 : dm b) (h3 : dm c) : qsz ((dotI a b c a b c : Int) : Rat) ≤ 2 := by
  have m1 := dm_mul h1 h1
  have m2 := dm_mul h2 h2
  have m3 := dm_mul h3 h3
  have h4 : QI (dotI a b c a b c) 1 := by unfold dotI; exact ⟨by omega, by simp, by omega, by omega⟩
  have := QI_qsz h4
  rw [rat_one] at this
  exact this

/-! s.CmpDist -/
noncomputable def sDiC := ct3 EI3 EI3 EI3 (fun p0 p1 p2 => True) (fun p0 p1 p2 => [.lit (.int .i64 (if c3 (p0.1, p0.2.1, p0.2.2) ∧ c3 (p1.1, p1.2.1, p1.2.2) ∧ c3 (p2.1, p2.2.1, p2.2.2) then (dotI (p1.1 - p0.1) (p1.2.1 - p0.2.1) (p1.2.2 - p0.2.2) (p1.1 - p0.1) (p1.2.1 - p0.2.1) (p1.2.2 - p0.2.2) - dotI (p2.1 - p0.1) (p2.2.1 - p0.2.1) (p2.2.2 - p0.2.2) (p2.1 - p0.1) (p2.2.1 - p0.2.1) (p2.2.2 - p0.2.2)).sign else 2))])
@[simp] theorem sDiC_at (a b c : Int) (d e f : Int) (g h i : Int) : sDiC [.agg [.lit (.int .i64 a), .lit (.int .i64 b), .lit (.int .i64 c)], .agg [.lit (.int .i64 d), .lit (.int .i64 e), .lit (.int .i64 f)], .agg [.lit (.int .i64 g), .lit (.int .i64 h), .lit (.int .i64 i)]] = (True, [.lit (.int .i64 (if c3 (a, b, c) ∧ c3 (d, e, f) ∧ c3 (g, h, i) then (dotI (d - a) (e - b) (f - c) (d - a) (e - b) (f - c) - dotI (g - a) (h - b) (i - c) (g - a) (h - b) (i - c)).sign else 2))]) := ct3_at (a, b, c) (d, e, f) (g, h, i)
noncomputable def sDiTb : List (FuncId × Ct) := [(21, .data l2TameC), (23, .data l2Sub3C), (22, .data l2DotC), (27, .data nCmpC)]
theorem sDiTb_ok : TbOK NF Try.prog (tbl sDiTb) := tbl_cons (c := .data l2TameC) l2Tame_spec l2Tame_ok (tbl_cons (c := .data l2Sub3C) l2Sub3_spec l2Sub3_ok (tbl_cons (c := .data l2DotC) l2Dot_spec l2Dot_ok (tbl_cons (c := .data nCmpC) nCmp_spec l1rCmp_ok tbl_nil)))

@[simp] theorem sDiTb1 : tbl sDiTb 21 = some (.data l2TameC) := rfl
@[simp] theorem sDiTb2 : tbl sDiTb 23 = some (.data l2Sub3C) := rfl
@[simp] theorem sDiTb3 : tbl sDiTb 22 = some (.data l2DotC) := rfl
@[simp] theorem sDiTb4 : tbl sDiTb 27 = some (.data nCmpC) := rfl
set_option maxRecDepth 100000 in
set_option maxHeartbeats 4000000 in
theorem sDi_spec : SpecD NF Try.prog 12 sDiC := by
  refine rd3 (mf := fun f => false) sDiTb_ok (fn := Try.f12) (by kernel_rfl) rfl (by kernel_rfl) (by kernel_rfl) ?_
  rintro ⟨a, b, c⟩ ⟨d, e, f⟩ ⟨g, h, i⟩ hp
  have hp : True := hp
  show awp _ _ _ _ (start _ ([.agg [.lit (.int .i64 a), .lit (.int .i64 b), .lit (.int .i64 c)], .agg [.lit (.int .i64 d), .lit (.int .i64 e), .lit (.int .i64 f)], .agg [.lit (.int .i64 g), .lit (.int .i64 h), .lit (.int .i64 i)]].map .dat) []) (endK _ _ _ (([.lit (.int .i64 (if c3 (a, b, c) ∧ c3 (d, e, f) ∧ c3 (g, h, i) then (dotI (d - a) (e - b) (f - c) (d - a) (e - b) (f - c) - dotI (g - a) (h - b) (i - c) (g - a) (h - b) (i - c)).sign else 2))]).map .dat) [])
  by_cases hok : c3 (a, b, c) ∧ c3 (d, e, f) ∧ c3 (g, h, i)
  · obtain ⟨ok1, ok2, ok3⟩ := hok
    have d0 : dm (d - a) := dm_sub (ok2.1) (ok1.1)
    have d1 : dm (e - b) := dm_sub (ok2.2.1) (ok1.2.1)
    have d2 : dm (f - c) := dm_sub (ok2.2.2) (ok1.2.2)
    have d3 : dm (g - a) := dm_sub (ok3.1) (ok1.1)
    have d4 : dm (h - b) := dm_sub (ok3.2.1) (ok1.2.1)
    have d5 : dm (i - c) := dm_sub (ok3.2.2) (ok1.2.2)
    have sz : qsz ((dotI (d - a) (e - b) (f - c) (d - a) (e - b) (f - c) : Int) : Rat) + qsz ((dotI (g - a) (h - b) (i - c) (g - a) (h - b) (i - c) : Int) : Rat) < MX := by
      have m1 := dot_sz d0 d1 d2
      have m2 := dot_sz d3 d4 d5
      rw [MX_val]; omega
    simp [-D.isLit, Try.f12, ok1, ok2, ok3, d0, d1, d2, d3, d4, d5, qcmp_cast, sz]
  · have hb : decide (c3 (a, b, c) ∧ c3 (d, e, f) ∧ c3 (g, h, i)) = false := decide_eq_false hok
    rw [if_neg hok]
    simp [-D.isLit, -Bool.decide_and, Try.f12, hb]
theorem sDi_ok : callable Try.prog 12 = true := by kernel_rfl

/-! l.toP3 -/
noncomputable def toP3C := ct1 EI3 (fun p0 => True) (fun p0 => [.agg [.lit (.int .i64 p0.1), .lit (.int .i64 p0.2.1), .lit (.int .i64 p0.2.2)]])
@[simp] theorem toP3C_at (a b c : Int) : toP3C [.agg [.lit (.int .i64 a), .lit (.int .i64 b), .lit (.int .i64 c)]] = (True, [.agg [.lit (.int .i64 a), .lit (.int .i64 b), .lit (.int .i64 c)]]) := ct1_at (a, b, c)
theorem toP3_spec {N : NR} : SpecD N Try.prog 10 toP3C := by
  refine rd1 (mf := fun f => false) (tb := tbl []) tbl_nil (fn := Try.f10) (by kernel_rfl) rfl (by kernel_rfl) (by kernel_rfl) ?_
  rintro ⟨a, b, c⟩ hp
  have hp : True := hp
  show awp _ _ _ _ (start _ ([.agg [.lit (.int .i64 a), .lit (.int .i64 b), .lit (.int .i64 c)]].map .dat) []) (endK _ _ _ (([.agg [.lit (.int .i64 a), .lit (.int .i64 b), .lit (.int .i64 c)]]).map .dat) [])
  simp [-D.isLit, Try.f10]
theorem toP3_ok : callable Try.prog 10 = true := by kernel_rfl

/-! l.FnExactCmpAlong -/
noncomputable def lwCmpAlongC := ct4 EI3 EI3 EI3 EI3 (fun p0 p1 p2 p3 => (I64 p0.1 ∧ I64 p0.2.1 ∧ I64 p0.2.2) ∧ (I64 p1.1 ∧ I64 p1.2.1 ∧ I64 p1.2.2) ∧ (I64 p2.1 ∧ I64 p2.2.1 ∧ I64 p2.2.2) ∧ (I64 p3.1 ∧ I64 p3.2.1 ∧ I64 p3.2.2)) (fun p0 p1 p2 p3 => [.lit (.bool true)])
@[simp] theorem lwCmpAlongC_at (a b c : Int) (d e f : Int) (g h i : Int) (j k l : Int) : lwCmpAlongC [.agg [.lit (.int .i64 a), .lit (.int .i64 b), .lit (.int .i64 c)], .agg [.lit (.int .i64 d), .lit (.int .i64 e), .lit (.int .i64 f)], .agg [.lit (.int .i64 g), .lit (.int .i64 h), .lit (.int .i64 i)], .agg [.lit (.int .i64 j), .lit (.int .i64 k), .lit (.int .i64 l)]] = ((I64 a ∧ I64 b ∧ I64 c) ∧ (I64 d ∧ I64 e ∧ I64 f) ∧ (I64 g ∧ I64 h ∧ I64 i) ∧ (I64 j ∧ I64 k ∧ I64 l), [.lit (.bool true)]) := ct4_at (a, b, c) (d, e, f) (g, h, i) (j, k, l)
noncomputable def lwCmpAlongTb : List (FuncId × Ct) := [(10, .data toP3C), (11, .data iAlC), (9, .data sAlC)]
theorem lwCmpAlongTb_ok : TbOK NF Try.prog (tbl lwCmpAlongTb) := tbl_cons (c := .data toP3C) toP3_spec toP3_ok (tbl_cons (c := .data iAlC) iAl_spec iAl_ok (tbl_cons (c := .data sAlC) sAl_spec sAl_ok tbl_nil))

@[simp] theorem lwCmpAlongTb1 : tbl lwCmpAlongTb 10 = some (.data toP3C) := rfl
@[simp] theorem lwCmpAlongTb2 : tbl lwCmpAlongTb 11 = some (.data iAlC) := rfl
@[simp] theorem lwCmpAlongTb3 : tbl lwCmpAlongTb 9 = some (.data sAlC) := rfl
theorem lwCmpAlong_spec : SpecD NF Try.prog 4 lwCmpAlongC := by
  refine rd4 (mf := fun f => false) lwCmpAlongTb_ok (fn := Try.f4) (by kernel_rfl) rfl (by kernel_rfl) (by kernel_rfl) ?_
  rintro ⟨a, b, c⟩ ⟨d, e, f⟩ ⟨g, h, i⟩ ⟨j, k, l⟩ hp
  have hp : (I64 a ∧ I64 b ∧ I64 c) ∧ (I64 d ∧ I64 e ∧ I64 f) ∧ (I64 g ∧ I64 h ∧ I64 i) ∧ (I64 j ∧ I64 k ∧ I64 l) := hp
  show awp _ _ _ _ (start _ ([.agg [.lit (.int .i64 a), .lit (.int .i64 b), .lit (.int .i64 c)], .agg [.lit (.int .i64 d), .lit (.int .i64 e), .lit (.int .i64 f)], .agg [.lit (.int .i64 g), .lit (.int .i64 h), .lit (.int .i64 i)], .agg [.lit (.int .i64 j), .lit (.int .i64 k), .lit (.int .i64 l)]].map .dat) []) (endK _ _ _ (([.lit (.bool true)]).map .dat) [])
  generalize hX : (if c3 (a, b, c) ∧ c3 (d, e, f) ∧ c3 (g, h, i) ∧ c3 (j, k, l) then (dotI (d - a) (e - b) (f - c) (j - g) (k - h) (l - i)).sign else 2) = X
  simp [-D.isLit, Try.f4, hX]
theorem lwCmpAlong_ok : callable Try.prog 4 = true := by kernel_rfl

/-! l.FnExactCmpDist -/
noncomputable def lwCmpDistC := ct3 EI3 EI3 EI3 (fun p0 p1 p2 => (I64 p0.1 ∧ I64 p0.2.1 ∧ I64 p0.2.2) ∧ (I64 p1.1 ∧ I64 p1.2.1 ∧ I64 p1.2.2) ∧ (I64 p2.1 ∧ I64 p2.2.1 ∧ I64 p2.2.2)) (fun p0 p1 p2 => [.lit (.bool true)])
@[simp] theorem lwCmpDistC_at (a b c : Int) (d e f : Int) (g h i : Int) : lwCmpDistC [.agg [.lit (.int .i64 a), .lit (.int .i64 b), .lit (.int .i64 c)], .agg [.lit (.int .i64 d), .lit (.int .i64 e), .lit (.int .i64 f)], .agg [.lit (.int .i64 g), .lit (.int .i64 h), .lit (.int .i64 i)]] = ((I64 a ∧ I64 b ∧ I64 c) ∧ (I64 d ∧ I64 e ∧ I64 f) ∧ (I64 g ∧ I64 h ∧ I64 i), [.lit (.bool true)]) := ct3_at (a, b, c) (d, e, f) (g, h, i)
noncomputable def lwCmpDistTb : List (FuncId × Ct) := [(10, .data toP3C), (13, .data iDiC), (12, .data sDiC)]
theorem lwCmpDistTb_ok : TbOK NF Try.prog (tbl lwCmpDistTb) := tbl_cons (c := .data toP3C) toP3_spec toP3_ok (tbl_cons (c := .data iDiC) iDi_spec iDi_ok (tbl_cons (c := .data sDiC) sDi_spec sDi_ok tbl_nil))

@[simp] theorem lwCmpDistTb1 : tbl lwCmpDistTb 10 = some (.data toP3C) := rfl
@[simp] theorem lwCmpDistTb2 : tbl lwCmpDistTb 13 = some (.data iDiC) := rfl
@[simp] theorem lwCmpDistTb3 : tbl lwCmpDistTb 12 = some (.data sDiC) := rfl
theorem lwCmpDist_spec : SpecD NF Try.prog 5 lwCmpDistC := by
  refine rd3 (mf := fun f => false) lwCmpDistTb_ok (fn := Try.f5) (by kernel_rfl) rfl (by kernel_rfl) (by kernel_rfl) ?_
  rintro ⟨a, b, c⟩ ⟨d, e, f⟩ ⟨g, h, i⟩ hp
  have hp : (I64 a ∧ I64 b ∧ I64 c) ∧ (I64 d ∧ I64 e ∧ I64 f) ∧ (I64 g ∧ I64 h ∧ I64 i) := hp
  show awp _ _ _ _ (start _ ([.agg [.lit (.int .i64 a), .lit (.int .i64 b), .lit (.int .i64 c)], .agg [.lit (.int .i64 d), .lit (.int .i64 e), .lit (.int .i64 f)], .agg [.lit (.int .i64 g), .lit (.int .i64 h), .lit (.int .i64 i)]].map .dat) []) (endK _ _ _ (([.lit (.bool true)]).map .dat) [])
  generalize hX : (if c3 (a, b, c) ∧ c3 (d, e, f) ∧ c3 (g, h, i) then (dotI (d - a) (e - b) (f - c) (d - a) (e - b) (f - c) - dotI (g - a) (h - b) (i - c) (g - a) (h - b) (i - c)).sign else 2) = X
  simp [-D.isLit, Try.f5, hX]
theorem lwCmpDist_ok : callable Try.prog 5 = true := by kernel_rfl
theorem lwCmpAlong_calls (a b c d e f g h i j k l : Int) (ha : (Lit.int .i64 a).wf = true) (hb : (Lit.int .i64 b).wf = true) (hc : (Lit.int .i64 c).wf = true) (hd : (Lit.int .i64 d).wf = true) (he : (Lit.int .i64 e).wf = true) (hf : (Lit.int .i64 f).wf = true) (hg : (Lit.int .i64 g).wf = true) (hh : (Lit.int .i64 h).wf = true) (hi : (Lit.int .i64 i).wf = true) (hj : (Lit.int .i64 j).wf = true) (hk : (Lit.int .i64 k).wf = true) (hl : (Lit.int .i64 l).wf = true) (w : World) :
    Calls Try.prog 4 #[.agg #[.int .i64 a, .int .i64 b, .int .i64 c], .agg #[.int .i64 d, .int .i64 e, .int .i64 f], .agg #[.int .i64 g, .int .i64 h, .int .i64 i], .agg #[.int .i64 j, .int .i64 k, .int .i64 l]] w fun e w' => e = .returned (.bool true) ∧ Below w.heap.size w w' :=
  law_calls lwCmpAlong_spec (ds := [.agg [.lit (.int .i64 a), .lit (.int .i64 b), .lit (.int .i64 c)], .agg [.lit (.int .i64 d), .lit (.int .i64 e), .lit (.int .i64 f)], .agg [.lit (.int .i64 g), .lit (.int .i64 h), .lit (.int .i64 i)], .agg [.lit (.int .i64 j), .lit (.int .i64 k), .lit (.int .i64 l)]]) (by rw [lwCmpAlongC_at]; exact ⟨⟨wf64 ha, wf64 hb, wf64 hc⟩, ⟨wf64 hd, wf64 he, wf64 hf⟩, ⟨wf64 hg, wf64 hh, wf64 hi⟩, ⟨wf64 hj, wf64 hk, wf64 hl⟩⟩) (by rw [lwCmpAlongC_at]; rfl) (vs := [.agg #[.int .i64 a, .int .i64 b, .int .i64 c], .agg #[.int .i64 d, .int .i64 e, .int .i64 f], .agg #[.int .i64 g, .int .i64 h, .int .i64 i], .agg #[.int .i64 j, .int .i64 k, .int .i64 l]]) (repVs_cons (repV_flat (cs := [.int .i64 a, .int .i64 b, .int .i64 c]) rfl (fun v hv => by simp at hv; rcases hv with rfl | rfl | rfl <;> rfl) rfl) (repVs_cons (repV_flat (cs := [.int .i64 d, .int .i64 e, .int .i64 f]) rfl (fun v hv => by simp at hv; rcases hv with rfl | rfl | rfl <;> rfl) rfl) (repVs_cons (repV_flat (cs := [.int .i64 g, .int .i64 h, .int .i64 i]) rfl (fun v hv => by simp at hv; rcases hv with rfl | rfl | rfl <;> rfl) rfl) (repVs_cons (repV_flat (cs := [.int .i64 j, .int .i64 k, .int .i64 l]) rfl (fun v hv => by simp at hv; rcases hv with rfl | rfl | rfl <;> rfl) rfl) repVs_nil))))
theorem lwCmpDist_calls (a b c d e f g h i : Int) (ha : (Lit.int .i64 a).wf = true) (hb : (Lit.int .i64 b).wf = true) (hc : (Lit.int .i64 c).wf = true) (hd : (Lit.int .i64 d).wf = true) (he : (Lit.int .i64 e).wf = true) (hf : (Lit.int .i64 f).wf = true) (hg : (Lit.int .i64 g).wf = true) (hh : (Lit.int .i64 h).wf = true) (hi : (Lit.int .i64 i).wf = true) (w : World) :
    Calls Try.prog 5 #[.agg #[.int .i64 a, .int .i64 b, .int .i64 c], .agg #[.int .i64 d, .int .i64 e, .int .i64 f], .agg #[.int .i64 g, .int .i64 h, .int .i64 i]] w fun e w' => e = .returned (.bool true) ∧ Below w.heap.size w w' :=
  law_calls lwCmpDist_spec (ds := [.agg [.lit (.int .i64 a), .lit (.int .i64 b), .lit (.int .i64 c)], .agg [.lit (.int .i64 d), .lit (.int .i64 e), .lit (.int .i64 f)], .agg [.lit (.int .i64 g), .lit (.int .i64 h), .lit (.int .i64 i)]]) (by rw [lwCmpDistC_at]; exact ⟨⟨wf64 ha, wf64 hb, wf64 hc⟩, ⟨wf64 hd, wf64 he, wf64 hf⟩, ⟨wf64 hg, wf64 hh, wf64 hi⟩⟩) (by rw [lwCmpDistC_at]; rfl) (vs := [.agg #[.int .i64 a, .int .i64 b, .int .i64 c], .agg #[.int .i64 d, .int .i64 e, .int .i64 f], .agg #[.int .i64 g, .int .i64 h, .int .i64 i]]) (repVs_cons (repV_flat (cs := [.int .i64 a, .int .i64 b, .int .i64 c]) rfl (fun v hv => by simp at hv; rcases hv with rfl | rfl | rfl <;> rfl) rfl) (repVs_cons (repV_flat (cs := [.int .i64 d, .int .i64 e, .int .i64 f]) rfl (fun v hv => by simp at hv; rcases hv with rfl | rfl | rfl <;> rfl) rfl) (repVs_cons (repV_flat (cs := [.int .i64 g, .int .i64 h, .int .i64 i]) rfl (fun v hv => by simp at hv; rcases hv with rfl | rfl | rfl <;> rfl) rfl) repVs_nil)))
end Go.Proofs.Ytlniifhdimaliaa.Ae

/-! Orient2: both sides, and the law. No condition. -/
namespace Go.Proofs.Ytlniifhdimaliaa.Ae
open Go Go.RowKit Go.Proofs.Ytlniifhdimaliaa.Dig
/-- What a slot holds, and is written no more, may be read as data. -/
theorem Snd.toData (s : St) (t o : Nat) (d : D) (h1 : asData s (s.get t) = some (d, some o)) (h2 : s.mayFreeze o) : Snd s { (s.frz [o]) with tm := (s.frz [o]).tm.set t (.dat d) } := by
  intro N F0 M0 w0 hv a w h
  have h' := h.frz [o]
  have hfr : allFreeze s [o] := ⟨h2, trivial⟩
  have e3 : asDatas s ([Operand.tmp t].map (ev s)) = some [(d, some o)] := by
    simp only [List.map_cons, List.map_nil, asDatas]
    rw [show ev s (.tmp t) = s.get t from rfl, h1]
  have hr := asDatas_rep h (frz_Fr s [o]) [.tmp t] _ e3 (fun o' ho' k hk => by
    obtain ⟨ob, hob⟩ := asDatas_owner _ _ e3 o' ho'
    exact Fr_frz h hfr ho' hob hk)
  have hd : RepV N (Fr F0 w0 hv (s.frz [o]) w) w d (a.eval (.tmp t)) := hr.2 0 _ _ rfl rfl
  refine ⟨hv, ⟨h'.lt0, h'.ltM, h'.bel, fun t' => ?_, by simpa using h'.sz, h'.ob, h'.own, h'.inj, h'.df⟩⟩
  have e : St.get { (s.frz [o]) with tm := (s.frz [o]).tm.set t (.dat d) } t' = if t' = t ∧ t < (s.frz [o]).tm.length then .dat d else (s.frz [o]).get t' := by
    unfold St.get
    simp only [List.getD_eq_getElem?_getD, List.getElem?_set]
    by_cases ht : t = t'
    · subst ht
      by_cases hl : t < (s.frz [o]).tm.length
      · simp [hl]
      · simp [hl]
    · have ht' : ¬ t' = t := fun x => ht x.symm
      simp [ht, ht']
  rw [e]
  by_cases hc : t' = t ∧ t < (s.frz [o]).tm.length
  · rw [if_pos hc, hc.1]
    exact hd
  · rw [if_neg hc]
    exact h'.tm t'
theorem mx1 : 1 ≤ maxLen := by decide
theorem mx2 : 2 ≤ maxLen := by decide
def EL2 : Enc (Int × Int) := ⟨fun p => .sl 1 [i64D p.1, i64D p.2], fun p q h => by
  simp only [D.sl.injEq, List.cons.injEq, and_true, true_and] at h
  exact Prod.ext (i64D_inj h.1) (i64D_inj h.2)⟩
def EM1 : Enc Rat := ⟨fun p => .sl 1 [.sl 3 [nD p]], fun p q h => by
  simp only [D.sl.injEq, List.cons.injEq, and_true, true_and] at h
  exact nD_inj h⟩
def EM2 : Enc (Rat × Rat × Rat × Rat) := ⟨fun p => .sl 1 [.sl 3 [nD p.1, nD p.2.1], .sl 3 [nD p.2.2.1, nD p.2.2.2]], fun p q h => by
  simp only [D.sl.injEq, List.cons.injEq, and_true, true_and] at h
  exact Prod.ext (nD_inj h.1.1) (Prod.ext (nD_inj h.1.2) (Prod.ext (nD_inj h.2.1) (nD_inj h.2.2)))⟩
@[simp] theorem EL2_e (a b : Int) : EL2.e (a, b) = .sl 1 [.lit (.int .i64 a), .lit (.int .i64 b)] := rfl
@[simp] theorem EM1_e (a : Rat) : EM1.e a = .sl 1 [.sl 3 [nD a]] := rfl
@[simp] theorem EM2_e (a b c d : Rat) : EM2.e (a, b, c, d) = .sl 1 [.sl 3 [nD a, nD b], .sl 3 [nD c, nD d]] := rfl

/-! s.l2Tame2 -/
noncomputable def l2Tame2C := ct1 EI2L (fun l => l.length < 4611686018427387904) (fun l => [.lit (.bool (l.all fun p => decide (c2 p)))])
@[simp] theorem l2Tame2C_at (l : List (Int × Int)) : l2Tame2C [.sl 2 (l.map EI2.e)] = (l.length < 4611686018427387904, [.lit (.bool (l.all fun p => decide (c2 p)))]) := ct1_at (A := EI2L) l
noncomputable def l2Tame2Tb : List (FuncId × Ct) := [(28, .data l2InC)]
theorem l2Tame2Tb_ok : TbOK NF Try.prog (tbl l2Tame2Tb) := tbl_cons (c := .data l2InC) l2In_spec l2In_ok tbl_nil

@[simp] theorem l2Tame2Tb1 : tbl l2Tame2Tb 28 = some (.data l2InC) := rfl
def l2Tame2S (l : List (Int × Int)) (k : Nat) : St := ⟨[.dat (.sl 2 (l.map EI2.e)), .any, .any, .dat (.lit (.int .i64 k)), .any, .any, .any, .any, .any, .any, .any, .any, .any, .any, .any, .any, .any, .any, .any, .any, .any, .any, .any, .any, .any, .any], [none, none, none, none, none, none, none, none, none, none, none, none, none, none, none, none, none, none, none, none, none, none, none, none, none, none]⟩
theorem l2Tame2_spec : SpecD NF Try.prog 14 l2Tame2C := by
  refine rd1 (mf := fun f => false) l2Tame2Tb_ok (fn := Try.f14) (by kernel_rfl) rfl (by kernel_rfl) (by kernel_rfl) ?_
  rintro l hl
  have hl : l.length < 4611686018427387904 := hl
  generalize hr : (l.all fun p => decide (c2 p)) = r
  show awp _ _ _ _ (start _ ([.sl 2 (l.map EI2.e)].map .dat) []) (endK _ _ _ ([D.lit (.bool r)].map .dat) [])
  simp only [Try.f14]
  simp [-D.isLit]
  refine loop_go (fun n st => ∃ k, n = l.length - k ∧ k ≤ l.length ∧ (∀ y ∈ l.take k, decide (c2 y) = true) ∧ st = l2Tame2S l k) (s0 := l2Tame2S l 0) (n := l.length) (snd_of (by simp [LeT, l2Tame2S]) (by simp [l2Tame2S])) ⟨0, rfl, Nat.zero_le _, by simp, rfl⟩ ?_
  rintro n st ⟨k, hn, hk, hall, rfl⟩ KN hN
  by_cases h : k < l.length
  · obtain ⟨a, b, hx, e1⟩ := pt2_at h
    obtain ⟨a1, a2⟩ := all_drop' (fun v => decide (c2 v)) l k _ hx hall
    have w1 : IntKind.i64.wrap ((k : Int) + 1) = (k : Int) + 1 := i64_id _ (by omega) (by omega)
    by_cases hok : c2 (a, b)
    · have k1 : cm a := hok.1
      have k2 : cm b := hok.2
      simp [-D.isLit, l2Tame2S, h, e1, k1, k2, w1]
      exact hN _ (nx (m := l.length - (k + 1)) (s'' := l2Tame2S l (k + 1)) (snd_obs (n := 26) [] rfl (by simp) (by simp [l2Tame2S])) ⟨k + 1, rfl, h, a2 (decide_eq_true hok), rfl⟩ (by omega))
    · have hb : cm a → ¬ cm b := fun x y => hok ⟨x, y⟩
      have a1 := a1 (decide_eq_false hok)
      rw [hr] at a1
      subst a1
      by_cases k1 : cm a
      · have k3 := hb k1
        simp [-D.isLit, l2Tame2S, h, e1, k1, k3]
      · simp [-D.isLit, l2Tame2S, h, e1, k1]
  · have hkl : k = l.length := by omega
    subst hkl
    rw [List.take_length] at hall
    have hrt : r = true := by rw [← hr, List.all_eq_true]; exact hall
    subst hrt
    simp [l2Tame2S]
theorem l2Tame2_ok : callable Try.prog 14 = true := by kernel_rfl
theorem tame2_3 (a b c d e f : Int) : tame2C [.sl 2 [.agg [.lit (.int .i64 a), .lit (.int .i64 b)], .agg [.lit (.int .i64 c), .lit (.int .i64 d)], .agg [.lit (.int .i64 e), .lit (.int .i64 f)]]] = (True, [.lit (.bool (decide (c2 (a, b) ∧ c2 (c, d) ∧ c2 (e, f))))]) := by
  have h1 := tame2C_at [(a, b), (c, d), (e, f)]
  have h2 : (([(a, b), (c, d), (e, f)] : List (Int × Int)).length < 4611686018427387904) = True := eq_true (by simp)
  rw [h2] at h1
  have h3 : (([(a, b), (c, d), (e, f)] : List (Int × Int)).all fun p => decide (c2 p)) = decide (c2 (a, b) ∧ c2 (c, d) ∧ c2 (e, f)) := by rw [Bool.eq_iff_iff, decide_eq_true_eq]; simp
  rw [h3] at h1
  exact h1
attribute [simp] tame2_3
theorem l2Tame2_3 (a b c d e f : Int) : l2Tame2C [.sl 2 [.agg [.lit (.int .i64 a), .lit (.int .i64 b)], .agg [.lit (.int .i64 c), .lit (.int .i64 d)], .agg [.lit (.int .i64 e), .lit (.int .i64 f)]]] = (True, [.lit (.bool (decide (c2 (a, b) ∧ c2 (c, d) ∧ c2 (e, f))))]) := by
  have h1 := l2Tame2C_at [(a, b), (c, d), (e, f)]
  have h2 : (([(a, b), (c, d), (e, f)] : List (Int × Int)).length < 4611686018427387904) = True := eq_true (by simp)
  rw [h2] at h1
  have h3 : (([(a, b), (c, d), (e, f)] : List (Int × Int)).all fun p => decide (c2 p)) = decide (c2 (a, b) ∧ c2 (c, d) ∧ c2 (e, f)) := by rw [Bool.eq_iff_iff, decide_eq_true_eq]; simp
  rw [h3] at h1
  exact h1
attribute [simp] l2Tame2_3

/-! s.l2Sub2 -/
noncomputable def l2Sub2C := ct2 EI2 EI2 (fun p0 p1 => c2 (p0.1, p0.2) ∧ c2 (p1.1, p1.2)) (fun p0 p1 => [.sl 1 [.lit (.int .i64 (p0.1 - p1.1)), .lit (.int .i64 (p0.2 - p1.2))]])
@[simp] theorem l2Sub2C_at (a b : Int) (c d : Int) : l2Sub2C [.agg [.lit (.int .i64 a), .lit (.int .i64 b)], .agg [.lit (.int .i64 c), .lit (.int .i64 d)]] = (c2 (a, b) ∧ c2 (c, d), [.sl 1 [.lit (.int .i64 (a - c)), .lit (.int .i64 (b - d))]]) := ct2_at (a, b) (c, d)
theorem l2Sub2_spec : SpecD NF Try.prog 18 l2Sub2C := by
  refine rd2 (mf := fun f => false) (tb := tbl []) tbl_nil (fn := Try.f18) (by kernel_rfl) rfl (by kernel_rfl) (by kernel_rfl) ?_
  rintro ⟨a, b⟩ ⟨c, d⟩ hp
  have hp : c2 (a, b) ∧ c2 (c, d) := hp
  show awp _ _ _ _ (start _ ([.agg [.lit (.int .i64 a), .lit (.int .i64 b)], .agg [.lit (.int .i64 c), .lit (.int .i64 d)]].map .dat) []) (endK _ _ _ (([.sl 1 [.lit (.int .i64 (a - c)), .lit (.int .i64 (b - d))]]).map .dat) [])
  obtain ⟨⟨a1, a2⟩, a3, a4⟩ := hp
  have a1 : -67108864 ≤ a ∧ a ≤ 67108864 := a1
  have a2 : -67108864 ≤ b ∧ b ≤ 67108864 := a2
  have a3 : -67108864 ≤ c ∧ c ≤ 67108864 := a3
  have a4 : -67108864 ≤ d ∧ d ≤ 67108864 := a4
  have w1 : IntKind.i64.wrap (a - c) = a - c := i64_id _ (by omega) (by omega)
  have w2 : IntKind.i64.wrap (b - d) = b - d := i64_id _ (by omega) (by omega)
  simp [-D.isLit, Try.f18, w1, w2]
theorem l2Sub2_ok : callable Try.prog 18 = true := by kernel_rfl
def l2RS (a b : Int) (l : List D) (g : Rat) (k : Nat) : St := ⟨[.dat (.sl 1 [.lit (.int .i64 a), .lit (.int .i64 b)]), .dat (.lit (.bool false)), .any, .any, .any, .row 9, .obj 6 [] 0, .dat (.lit (.int .i64 k)), .any, .any, .any, .any, .any, .any, .any, .any, .any, .any, .any, .any, .any, .any, .any, .any, .any, .any, .any, .any, .any, .any, .any, .any, .any, .any, .any, .any, .any], [none, none, none, none, none, none, some (.box (nD g)), none, none, some (.row 3 41 l), none, none, none, none, none, none, none, none, none, none, none, none, none, none, none, none, none, none, none, none, none, none, none, none, none, none, none]⟩

/-! s.l2Row -/
noncomputable def l2RowC := ct2 EL2 EBool (fun p0 p1 => dm p0.1 ∧ dm p0.2 ∧ p1 = false) (fun p0 p1 => [.sl 3 [nD (p0.1 : Rat), nD (p0.2 : Rat)]])
@[simp] theorem l2RowC_at (a b : Int) (q : Bool) : l2RowC [.sl 1 [.lit (.int .i64 a), .lit (.int .i64 b)], .lit (.bool q)] = (dm a ∧ dm b ∧ q = false, [.sl 3 [nD (a : Rat), nD (b : Rat)]]) := ct2_at (a, b) q
noncomputable def l2RowTb : List (FuncId × Ct) := [(30, .data l1rIntC), (31, .data nMulC), (33, .data nAddC)]
theorem l2RowTb_ok : TbOK NF Try.prog (tbl l2RowTb) := tbl_cons (c := .data l1rIntC) l1rInt_spec l1rInt_ok (tbl_cons (c := .data nMulC) nMul_spec l1rMul_ok (tbl_cons (c := .data nAddC) nAdd_spec l1rAdd_ok tbl_nil))

@[simp] theorem l2RowTb1 : tbl l2RowTb 30 = some (.data l1rIntC) := rfl
@[simp] theorem l2RowTb2 : tbl l2RowTb 31 = some (.data nMulC) := rfl
@[simp] theorem l2RowTb3 : tbl l2RowTb 33 = some (.data nAddC) := rfl
set_option maxRecDepth 100000 in
set_option maxHeartbeats 4000000 in
theorem l2Row_spec : SpecD NF Try.prog 17 l2RowC := by
  refine rd2 (mf := fun f => false) l2RowTb_ok (fn := Try.f17) (by kernel_rfl) rfl (by kernel_rfl) (by kernel_rfl) ?_
  rintro ⟨a, b⟩ q hp
  have hp : dm a ∧ dm b ∧ q = false := hp
  show awp _ _ _ _ (start _ ([.sl 1 [.lit (.int .i64 a), .lit (.int .i64 b)], .lit (.bool q)].map .dat) []) (endK _ _ _ (([.sl 3 [nD (a : Rat), nD (b : Rat)]]).map .dat) [])
  obtain ⟨a1, a2, rfl⟩ := hp
  have ia := dm_i64 a1
  have ib := dm_i64 a2
  have z1 := dm_qsz a1
  have z2 := dm_qsz a2
  have m1 := qsz_mul (a : Rat) a
  have m2 := qsz_mul (b : Rat) b
  have hz0 : qsz (0 : Rat) ≤ 2 := by decide +kernel
  have i0 : I64 0 := by unfold I64; omega
  have w1 : IntKind.i64.wrap 1 = 1 := by decide
  have w2 : IntKind.i64.wrap 2 = 2 := by decide
  simp only [Try.f17]
  simp [-D.isLit, i0]
  refine loop_go (fun n st => ∃ k l g, n = 2 - k ∧ ((k = 0 ∧ l = [] ∧ g = 0) ∨ (k = 1 ∧ l = [nD (a : Rat)] ∧ g = (a : Rat) * a) ∨ (k = 2 ∧ l = [nD (a : Rat), nD (b : Rat)] ∧ g = (a : Rat) * a + b * b)) ∧ st = l2RS a b l g k) (s0 := l2RS a b [] 0 0) (n := 2) (snd_of (by simp [LeT, l2RS]) (by simp [l2RS])) ⟨0, [], 0, rfl, .inl ⟨rfl, rfl, rfl⟩, rfl⟩ ?_
  rintro n st ⟨k, l, g, hn, hk, rfl⟩ KN hN
  rcases hk with ⟨rfl, rfl, rfl⟩ | ⟨rfl, rfl, rfl⟩ | ⟨rfl, rfl, rfl⟩
  · have s1 : qsz (0 : Rat) + qsz ((a : Rat) * a) < MX := by rw [MX_val]; omega
    have s2 : qsz (a : Rat) + qsz (a : Rat) < MX := by rw [MX_val]; omega
    simp [-D.isLit, l2RS, ix, w1, w2, ia, s1, s2, mx1, mx2]
    exact hN _ (nx (m := 1) (s'' := l2RS a b [nD (a : Rat)] ((a : Rat) * a) 1) (snd_obs (n := 37) [(6, 6, .box (nD ((a : Rat) * a))), (9, 25, .row 3 41 [nD (a : Rat)])] rfl (by simp [Rat.zero_add]) (by simp [l2RS])) ⟨1, [nD (a : Rat)], (a : Rat) * a, rfl, .inr (.inl ⟨rfl, rfl, rfl⟩), rfl⟩ (by omega))
  · have s1 : qsz ((a : Rat) * a) + qsz ((b : Rat) * b) < MX := by rw [MX_val]; omega
    have s2 : qsz (b : Rat) + qsz (b : Rat) < MX := by rw [MX_val]; omega
    simp [-D.isLit, l2RS, ix, w1, w2, ib, s1, s2, mx1, mx2]
    exact hN _ (nx (m := 0) (s'' := l2RS a b [nD (a : Rat), nD (b : Rat)] ((a : Rat) * a + b * b) 2) (snd_obs (n := 37) [(6, 6, .box (nD ((a : Rat) * a + b * b))), (9, 25, .row 3 41 [nD (a : Rat), nD (b : Rat)])] rfl (by simp [Rat.zero_add]) (by simp [l2RS])) ⟨2, [nD (a : Rat), nD (b : Rat)], (a : Rat) * a + b * b, rfl, .inr (.inr ⟨rfl, rfl, rfl⟩), rfl⟩ (by omega))
  · simp [-D.isLit, l2RS]
theorem l2Row_ok : callable Try.prog 17 = true := by kernel_rfl

/-! s.l2Det -/
noncomputable def l2Det1C := ct1 EM1 (fun p0 => True) (fun p0 => [nD p0])
@[simp] theorem l2Det1C_at (a : Rat) : l2Det1C [.sl 1 [.sl 3 [nD a]]] = (True, [nD a]) := ct1_at a
theorem l2Det1_spec : SpecD NF Try.prog 16 l2Det1C := by
  refine rd1 (mf := fun f => false) (tb := tbl []) tbl_nil (fn := Try.f16) (by kernel_rfl) rfl (by kernel_rfl) (by kernel_rfl) ?_
  rintro a hp
  have hp : True := hp
  show awp _ _ _ _ (start _ ([.sl 1 [.sl 3 [nD a]]].map .dat) []) (endK _ _ _ (([nD a]).map .dat) [])
  simp [-D.isLit, Try.f16, ix]
theorem l2Det_ok : callable Try.prog 16 = true := by kernel_rfl
theorem sgn_eq' {a : Rat} (h : a.num.sign = 0) : a = 0 := by
  have := Int.sign_eq_zero_iff_zero.1 h
  exact Rat.num_eq_zero.1 this
def det2 (a b c d : Rat) : Rat := a * d - c * b
def zN3 : D := .agg [.lit (.int .i64 0), .lit (.int .i64 0), .lit (.slice none 0 0)]
@[simp] theorem zN3_size : zN3.size = 3 := rfl
def dtS (a b c d g : Rat) (i : Nat) : St := ⟨[.dat (.sl 1 [.sl 3 [nD a, nD b], .sl 3 [nD c, nD d]]), .any, .obj 2 [] 0, .obj 3 [] 0, .dat (.lit (.int .i64 i)), .any, .any, .any, .any, .any, .any, .any, .any, .any, .any, .any, .any, .any, .any, .any, .any, .any, .any, .any, .any, .any, .any, .any, .any, .any, .any, .any, .any, .any, .any, .any, .any, .any, .any, .any, .any, .any, .any, .any, .any, .any, .any, .any, .any, .any, .any, .any, .any, .any, .any, .any, .any, .any, .any, .any, .any, .any, .any, .any, .any, .any, .any], [none, none, some (.box zN3), some (.box (nD g)), none, none, none, none, none, none, none, none, none, none, none, none, none, none, none, none, none, none, none, none, none, none, none, none, none, none, none, none, none, none, none, none, none, none, none, none, none, none, none, none, none, none, none, none, none, none, none, none, none, none, none, none, none, none, none, none, none, none, none, none, none, none, none]⟩
def dtR (a b c d g : Rat) (i : Nat) (l : List D) (k : Nat) : St := ⟨[.dat (.sl 1 [.sl 3 [nD a, nD b], .sl 3 [nD c, nD d]]), .any, .obj 2 [] 0, .obj 3 [] 0, .dat (.lit (.int .i64 i)), .row 31, .dat (.lit (.int .i64 k)), .any, .any, .any, .any, .any, .any, .any, .any, .any, .any, .any, .any, .any, .any, .any, .any, .any, .any, .any, .any, .any, .any, .any, .any, .any, .any, .any, .any, .any, .any, .any, .any, .any, .any, .any, .any, .any, .any, .any, .any, .any, .any, .any, .any, .any, .any, .any, .any, .any, .any, .any, .any, .any, .any, .any, .any, .any, .any, .any, .any], [none, none, some (.box zN3), some (.box (nD g)), none, none, none, none, none, none, none, none, none, none, none, none, none, none, none, none, none, none, none, none, none, none, none, none, none, none, none, some (.row 1 43 l), none, none, none, none, none, none, none, none, none, none, none, none, none, none, none, none, none, none, none, none, none, none, none, none, none, none, none, none, none, none, none, none, none, none, none]⟩
def dtE (a b c d g : Rat) (i : Nat) (l : List D) : St := ⟨[.dat (.sl 1 [.sl 3 [nD a, nD b], .sl 3 [nD c, nD d]]), .any, .obj 2 [] 0, .obj 3 [] 0, .dat (.lit (.int .i64 i)), .dat (.sl 1 l), .dat (.lit (.int .i64 2)), .any, .any, .any, .any, .any, .any, .any, .any, .any, .any, .any, .any, .any, .any, .any, .any, .any, .any, .any, .any, .any, .any, .any, .any, .any, .any, .any, .any, .any, .any, .any, .any, .any, .any, .any, .any, .any, .any, .any, .any, .any, .any, .any, .any, .any, .any, .any, .any, .any, .any, .any, .any, .any, .any, .any, .any, .any, .any, .any, .any], [none, none, some (.box zN3), some (.box (nD g)), none, none, none, none, none, none, none, none, none, none, none, none, none, none, none, none, none, none, none, none, none, none, none, none, none, none, none, none, none, none, none, none, none, none, none, none, none, none, none, none, none, none, none, none, none, none, none, none, none, none, none, none, none, none, none, none, none, none, none, none, none, none, none]⟩

/-! s.l2Det -/
noncomputable def l2Det2C := ct1 EM2 (fun p0 => qsz p0.1 + qsz p0.2.1 + qsz p0.2.2.1 + qsz p0.2.2.2 < LM) (fun p0 => [nD (det2 p0.1 p0.2.1 p0.2.2.1 p0.2.2.2)])
@[simp] theorem l2Det2C_at (a b c d : Rat) : l2Det2C [.sl 1 [.sl 3 [nD a, nD b], .sl 3 [nD c, nD d]]] = (qsz a + qsz b + qsz c + qsz d < LM, [nD (det2 a b c d)]) := ct1_at (a, b, c, d)
noncomputable def l2Det2Tb : List (FuncId × Ct) := [(30, .data l1rIntC), (15, .data nSignC), (16, .data l2Det1C), (31, .data nMulC), (32, .data nNegC), (33, .data nAddC)]
theorem l2Det2Tb_ok : TbOK NF Try.prog (tbl l2Det2Tb) := tbl_cons (c := .data l1rIntC) l1rInt_spec l1rInt_ok (tbl_cons (c := .data nSignC) nSign_spec l1rSign_ok (tbl_cons (c := .data l2Det1C) l2Det1_spec l2Det_ok (tbl_cons (c := .data nMulC) nMul_spec l1rMul_ok (tbl_cons (c := .data nNegC) nNeg_spec l1rNeg_ok (tbl_cons (c := .data nAddC) nAdd_spec l1rAdd_ok tbl_nil)))))

@[simp] theorem l2Det2Tb1 : tbl l2Det2Tb 30 = some (.data l1rIntC) := rfl
@[simp] theorem l2Det2Tb2 : tbl l2Det2Tb 15 = some (.data nSignC) := rfl
@[simp] theorem l2Det2Tb3 : tbl l2Det2Tb 16 = some (.data l2Det1C) := rfl
@[simp] theorem l2Det2Tb4 : tbl l2Det2Tb 31 = some (.data nMulC) := rfl
@[simp] theorem l2Det2Tb5 : tbl l2Det2Tb 32 = some (.data nNegC) := rfl
@[simp] theorem l2Det2Tb6 : tbl l2Det2Tb 33 = some (.data nAddC) := rfl
set_option maxRecDepth 100000 in
set_option maxHeartbeats 4000000 in
theorem l2Det2_spec : SpecD NF Try.prog 16 l2Det2C := by
  refine rd1 (mf := fun f => false) l2Det2Tb_ok (fn := Try.f16) (by kernel_rfl) rfl (by kernel_rfl) (by kernel_rfl) ?_
  rintro ⟨a, b, c, d⟩ hp
  have hp : qsz a + qsz b + qsz c + qsz d < LM := hp
  show awp _ _ _ _ (start _ ([.sl 1 [.sl 3 [nD a, nD b], .sl 3 [nD c, nD d]]].map .dat) []) (endK _ _ _ (([nD (det2 a b c d)]).map .dat) [])
  have hm1 := qsz_mul a d
  have hm2 := qsz_mul c b
  have hz0 : qsz (0 : Rat) ≤ 2 := by decide +kernel
  have hn2 := qsz_neg (c * b)
  have hL := LM_val
  have s1 : qsz a + qsz d < MX := by rw [MX_val]; omega
  have s2 : qsz c + qsz b < MX := by rw [MX_val]; omega
  have i0 : I64 0 := by unfold I64; omega
  have w1 : IntKind.i64.wrap 1 = 1 := by decide
  have w2 : IntKind.i64.wrap 2 = 2 := by decide
  simp only [Try.f16]
  simp [-D.isLit, i0]
  have s3 : qsz (0 : Rat) + qsz (a * d) < MX := by rw [MX_val]; omega
  refine loop_go (fun n st => ∃ i g, n = 2 - i ∧ ((i = 0 ∧ g = 0) ∨ (i = 1 ∧ g = a * d ∧ qsz g ≤ 2 * (qsz a + qsz d) + 10) ∨ (i = 2 ∧ g = det2 a b c d)) ∧ st = dtS a b c d g i) (s0 := dtS a b c d 0 0) (n := 2) (snd_of (by simp [LeT, dtS]) (by simp [dtS, zN3])) ⟨0, 0, rfl, .inl ⟨rfl, rfl⟩, rfl⟩ ?_
  rintro n st ⟨i, g, hn, hi, rfl⟩ KN hN
  rcases hi with ⟨rfl, rfl⟩ | ⟨rfl, rfl, hg⟩ | ⟨rfl, rfl⟩
  · by_cases h : a.num.sign = 0
    · have ha := sgn_eq' h
      simp [-D.isLit, dtS, ix, h, w1]
      exact hN _ (nx (m := 1) (s'' := dtS a b c d 0 1) (snd_of (by simp [LeT, dtS]) (by simp [dtS])) ⟨1, 0, rfl, .inr (.inl ⟨rfl, by rw [ha]; grind, by omega⟩), rfl⟩ (by omega))
    · have s4 := s1
      have s5 := s1
      simp [-D.isLit, dtS, ix, h, w1]
      refine loop_go (fun n st => ∃ k, n = 2 - k ∧ ((k = 0 ∧ st = dtR a b c d 0 0 [] 0) ∨ (k = 1 ∧ st = dtR a b c d 0 0 [] 1) ∨ (k = 2 ∧ st = dtE a b c d 0 0 [.sl 3 [nD d]]))) (s0 := dtR a b c d 0 0 [] 0) (n := 2) (snd_of (by simp [LeT, dtR]) (by simp [dtR])) ⟨0, rfl, .inl ⟨rfl, rfl⟩⟩ ?_
      rintro n' st' ⟨k, hn', hk⟩ KM hM
      rcases hk with ⟨rfl, rfl⟩ | ⟨rfl, rfl⟩ | ⟨rfl, rfl⟩
      · simp [-D.isLit, dtR, ix, lsub, w1, mx1, mx2]
        exact hM _ (nx (m := 1) (s'' := dtR a b c d 0 0 [] 1) (snd_of (by simp [LeT, dtR]) (by simp [dtR])) ⟨1, rfl, .inr (.inl ⟨rfl, rfl⟩)⟩ (by omega))
      · simp [-D.isLit, dtR, ix, lsub, w2, mx1, mx2]
        exact hM _ (nx (m := 0) (s'' := dtE a b c d 0 0 [.sl 3 [nD d]]) (Snd.trans (Snd.toData _ 5 48 (.sl 1 [.sl 3 [nD d]]) (by simp [St.get, dtR]) (by simp [St.mayFreeze, St.obj, dtR])) (snd_obs (n := 67) [(2, 2, .box zN3), (3, 3, .box (nD 0))] rfl (by simp [St.frz, dtR]) (by simp [dtE, St.frz, dtR]))) ⟨2, rfl, .inr (.inr ⟨rfl, rfl⟩)⟩ (by omega))
      · simp [-D.isLit, dtE, ix, w1, w2, s1, s2, s3, s4, s5]
        exact hN _ (nx (m := 1) (s'' := dtS a b c d (a * d) 1) (snd_obs (n := 67) [(2, 2, .box zN3), (3, 3, .box (nD (a * d)))] rfl (by simp [Rat.zero_add]) (by simp [dtS])) ⟨1, a * d, rfl, .inr (.inl ⟨rfl, rfl, by omega⟩), rfl⟩ (by omega))
  · by_cases h : c.num.sign = 0
    · have hc := sgn_eq' h
      simp [-D.isLit, dtS, ix, h, w2]
      exact hN _ (nx (m := 0) (s'' := dtS a b c d (a * d) 2) (snd_of (by simp [LeT, dtS]) (by simp [dtS])) ⟨2, a * d, rfl, .inr (.inr ⟨rfl, by unfold det2; rw [hc]; grind⟩), rfl⟩ (by omega))
    · have s4 : qsz (a * d) + qsz (-(c * b)) < MX := by rw [MX_val]; omega
      have s5 := s1
      simp [-D.isLit, dtS, ix, h, w2]
      refine loop_go (fun n st => ∃ k, n = 2 - k ∧ ((k = 0 ∧ st = dtR a b c d (a * d) 1 [] 0) ∨ (k = 1 ∧ st = dtR a b c d (a * d) 1 [.sl 3 [nD b]] 1) ∨ (k = 2 ∧ st = dtE a b c d (a * d) 1 [.sl 3 [nD b]]))) (s0 := dtR a b c d (a * d) 1 [] 0) (n := 2) (snd_of (by simp [LeT, dtR]) (by simp [dtR])) ⟨0, rfl, .inl ⟨rfl, rfl⟩⟩ ?_
      rintro n' st' ⟨k, hn', hk⟩ KM hM
      rcases hk with ⟨rfl, rfl⟩ | ⟨rfl, rfl⟩ | ⟨rfl, rfl⟩
      · simp [-D.isLit, dtR, ix, lsub, w1, mx1, mx2]
        exact hM _ (nx (m := 1) (s'' := dtR a b c d (a * d) 1 [.sl 3 [nD b]] 1) (snd_obs (n := 67) [(2, 2, .box zN3), (3, 3, .box (nD (a * d))), (31, 48, .row 1 43 [.sl 3 [nD b]])] rfl (by simp) (by simp [dtR])) ⟨1, rfl, .inr (.inl ⟨rfl, rfl⟩)⟩ (by omega))
      · simp [-D.isLit, dtR, ix, lsub, w2, mx1, mx2]
        exact hM _ (nx (m := 0) (s'' := dtE a b c d (a * d) 1 [.sl 3 [nD b]]) (Snd.trans (Snd.toData _ 5 31 (.sl 1 [.sl 3 [nD b]]) (by simp [St.get, dtR]) (by simp [St.mayFreeze, St.obj, dtR])) (snd_obs (n := 67) [(2, 2, .box zN3), (3, 3, .box (nD (a * d)))] rfl (by simp [St.frz, dtR]) (by simp [dtE, St.frz, dtR]))) ⟨2, rfl, .inr (.inr ⟨rfl, rfl⟩)⟩ (by omega))
      · simp [-D.isLit, dtE, ix, w1, w2, s1, s2, s3, s4, s5]
        exact hN _ (nx (m := 0) (s'' := dtS a b c d (a * d + -(c * b)) 2) (snd_obs (n := 67) [(2, 2, .box zN3), (3, 3, .box (nD (a * d + -(c * b))))] rfl (by simp [Rat.zero_add]) (by simp [dtS])) ⟨2, a * d + -(c * b), rfl, .inr (.inr ⟨rfl, by unfold det2; grind⟩), rfl⟩ (by omega))
  · simp [-D.isLit, dtS, zN3]
theorem l2Det_ok2 : callable Try.prog 16 = true := by kernel_rfl

/-! i.Orient2 -/
noncomputable def iOr2C := ct3 EI2 EI2 EI2 (fun p0 p1 p2 => True) (fun p0 p1 p2 => [.lit (.int .i64 (if c2 (p0.1, p0.2) ∧ c2 (p1.1, p1.2) ∧ c2 (p2.1, p2.2) then ((p1.1 - p0.1) * (p2.2 - p0.2) - (p1.2 - p0.2) * (p2.1 - p0.1)).sign else 2))])
@[simp] theorem iOr2C_at (a b : Int) (c d : Int) (e f : Int) : iOr2C [.agg [.lit (.int .i64 a), .lit (.int .i64 b)], .agg [.lit (.int .i64 c), .lit (.int .i64 d)], .agg [.lit (.int .i64 e), .lit (.int .i64 f)]] = (True, [.lit (.int .i64 (if c2 (a, b) ∧ c2 (c, d) ∧ c2 (e, f) then ((c - a) * (f - b) - (d - b) * (e - a)).sign else 2))]) := ct3_at (a, b) (c, d) (e, f)
noncomputable def iOr2Tb : List (FuncId × Ct) := [(19, .data tame2C), (20, .data sign64C)]
theorem iOr2Tb_ok {N : NR} : TbOK N Try.prog (tbl iOr2Tb) := tbl_cons (c := .data tame2C) tame2_spec tame2_ok (tbl_cons (c := .data sign64C) sign64_spec sign64_ok tbl_nil)

@[simp] theorem iOr2Tb1 : tbl iOr2Tb 19 = some (.data tame2C) := rfl
@[simp] theorem iOr2Tb2 : tbl iOr2Tb 20 = some (.data sign64C) := rfl
set_option maxRecDepth 100000 in
set_option maxHeartbeats 4000000 in
theorem iOr2_spec {N : NR} : SpecD N Try.prog 8 iOr2C := by
  refine rd3 (mf := fun f => false) iOr2Tb_ok (fn := Try.f8) (by kernel_rfl) rfl (by kernel_rfl) (by kernel_rfl) ?_
  rintro ⟨a, b⟩ ⟨c, d⟩ ⟨e, f⟩ hp
  have hp : True := hp
  show awp _ _ _ _ (start _ ([.agg [.lit (.int .i64 a), .lit (.int .i64 b)], .agg [.lit (.int .i64 c), .lit (.int .i64 d)], .agg [.lit (.int .i64 e), .lit (.int .i64 f)]].map .dat) []) (endK _ _ _ (([.lit (.int .i64 (if c2 (a, b) ∧ c2 (c, d) ∧ c2 (e, f) then ((c - a) * (f - b) - (d - b) * (e - a)).sign else 2))]).map .dat) [])
  by_cases hok : c2 (a, b) ∧ c2 (c, d) ∧ c2 (e, f)
  · obtain ⟨ok1, ok2, ok3⟩ := hok
    have d0 : dm (c - a) := dm_sub ok2.1 ok1.1
    have d1 : dm (d - b) := dm_sub ok2.2 ok1.2
    have d2 : dm (e - a) := dm_sub ok3.1 ok1.1
    have d3 : dm (f - b) := dm_sub ok3.2 ok1.2
    have m1 := dm_mul d0 d3
    have m2 := dm_mul d1 d2
    have q0 : -134217728 ≤ c - a ∧ c - a ≤ 134217728 := d0
    have q1 : -134217728 ≤ d - b ∧ d - b ≤ 134217728 := d1
    have q2 : -134217728 ≤ e - a ∧ e - a ≤ 134217728 := d2
    have q3 : -134217728 ≤ f - b ∧ f - b ≤ 134217728 := d3
    have w0 : IntKind.i64.wrap (c - a) = c - a := i64_id _ (by omega) (by omega)
    have w1 : IntKind.i64.wrap (d - b) = d - b := i64_id _ (by omega) (by omega)
    have w2 : IntKind.i64.wrap (e - a) = e - a := i64_id _ (by omega) (by omega)
    have w3 : IntKind.i64.wrap (f - b) = f - b := i64_id _ (by omega) (by omega)
    have w4 : IntKind.i64.wrap ((c - a) * (f - b)) = (c - a) * (f - b) := i64_id _ (by omega) (by omega)
    have w5 : IntKind.i64.wrap ((d - b) * (e - a)) = (d - b) * (e - a) := i64_id _ (by omega) (by omega)
    have w6 : IntKind.i64.wrap ((c - a) * (f - b) - (d - b) * (e - a)) = ((c - a) * (f - b) - (d - b) * (e - a)) := i64_id _ (by omega) (by omega)
    simp [-D.isLit, Try.f8, ok1, ok2, ok3, w0, w1, w2, w3, w4, w5, w6]
  · have hb : decide (c2 (a, b) ∧ c2 (c, d) ∧ c2 (e, f)) = false := decide_eq_false hok
    rw [if_neg hok]
    simp [-D.isLit, -Bool.decide_and, Try.f8, hb]
theorem iOr2_ok : callable Try.prog 8 = true := by kernel_rfl

/-! s.Orient2 -/
noncomputable def sOr2C := ct3 EI2 EI2 EI2 (fun p0 p1 p2 => True) (fun p0 p1 p2 => [.lit (.int .i64 (if c2 (p0.1, p0.2) ∧ c2 (p1.1, p1.2) ∧ c2 (p2.1, p2.2) then ((p1.1 - p0.1) * (p2.2 - p0.2) - (p1.2 - p0.2) * (p2.1 - p0.1)).sign else 2))])
@[simp] theorem sOr2C_at (a b : Int) (c d : Int) (e f : Int) : sOr2C [.agg [.lit (.int .i64 a), .lit (.int .i64 b)], .agg [.lit (.int .i64 c), .lit (.int .i64 d)], .agg [.lit (.int .i64 e), .lit (.int .i64 f)]] = (True, [.lit (.int .i64 (if c2 (a, b) ∧ c2 (c, d) ∧ c2 (e, f) then ((c - a) * (f - b) - (d - b) * (e - a)).sign else 2))]) := ct3_at (a, b) (c, d) (e, f)
noncomputable def sOr2Tb : List (FuncId × Ct) := [(14, .data l2Tame2C), (18, .data l2Sub2C), (17, .data l2RowC), (16, .data l2Det2C), (15, .data nSignC)]
theorem sOr2Tb_ok : TbOK NF Try.prog (tbl sOr2Tb) := tbl_cons (c := .data l2Tame2C) l2Tame2_spec l2Tame2_ok (tbl_cons (c := .data l2Sub2C) l2Sub2_spec l2Sub2_ok (tbl_cons (c := .data l2RowC) l2Row_spec l2Row_ok (tbl_cons (c := .data l2Det2C) l2Det2_spec l2Det_ok (tbl_cons (c := .data nSignC) nSign_spec l1rSign_ok tbl_nil))))

@[simp] theorem sOr2Tb1 : tbl sOr2Tb 14 = some (.data l2Tame2C) := rfl
@[simp] theorem sOr2Tb2 : tbl sOr2Tb 18 = some (.data l2Sub2C) := rfl
@[simp] theorem sOr2Tb3 : tbl sOr2Tb 17 = some (.data l2RowC) := rfl
@[simp] theorem sOr2Tb4 : tbl sOr2Tb 16 = some (.data l2Det2C) := rfl
@[simp] theorem sOr2Tb5 : tbl sOr2Tb 15 = some (.data nSignC) := rfl
set_option maxRecDepth 100000 in
set_option maxHeartbeats 4000000 in
theorem sOr2_spec : SpecD NF Try.prog 6 sOr2C := by
  refine rd3 (mf := fun f => false) sOr2Tb_ok (fn := Try.f6) (by kernel_rfl) rfl (by kernel_rfl) (by kernel_rfl) ?_
  rintro ⟨a, b⟩ ⟨c, d⟩ ⟨e, f⟩ hp
  have hp : True := hp
  show awp _ _ _ _ (start _ ([.agg [.lit (.int .i64 a), .lit (.int .i64 b)], .agg [.lit (.int .i64 c), .lit (.int .i64 d)], .agg [.lit (.int .i64 e), .lit (.int .i64 f)]].map .dat) []) (endK _ _ _ (([.lit (.int .i64 (if c2 (a, b) ∧ c2 (c, d) ∧ c2 (e, f) then ((c - a) * (f - b) - (d - b) * (e - a)).sign else 2))]).map .dat) [])
  by_cases hok : c2 (a, b) ∧ c2 (c, d) ∧ c2 (e, f)
  · obtain ⟨ok1, ok2, ok3⟩ := hok
    have d0 : dm (c - a) := dm_sub ok2.1 ok1.1
    have d1 : dm (d - b) := dm_sub ok2.2 ok1.2
    have d2 : dm (e - a) := dm_sub ok3.1 ok1.1
    have d3 : dm (f - b) := dm_sub ok3.2 ok1.2
    have z0 := dm_qsz d0
    have z1 := dm_qsz d1
    have z2 := dm_qsz d2
    have z3 := dm_qsz d3
    have sz : qsz ((c - a : Int) : Rat) + qsz ((d - b : Int) : Rat) + qsz ((e - a : Int) : Rat) + qsz ((f - b : Int) : Rat) < LM := by rw [LM_val]; omega
    have ed : (det2 ((c - a : Int) : Rat) ((d - b : Int) : Rat) ((e - a : Int) : Rat) ((f - b : Int) : Rat)).num.sign = ((c - a) * (f - b) - (d - b) * (e - a)).sign := by
      have e' : det2 ((c - a : Int) : Rat) ((d - b : Int) : Rat) ((e - a : Int) : Rat) ((f - b : Int) : Rat) = ((((c - a) * (f - b) - (d - b) * (e - a) : Int)) : Rat) := by
        unfold det2
        generalize c - a = x
        generalize d - b = y
        generalize e - a = z
        generalize f - b = w
        rw [Rat.intCast_sub, Rat.intCast_mul, Rat.intCast_mul]
        grind
      rw [e']
      exact sgn_cast _
    simp [-D.isLit, -Rat.intCast_sub, Try.f6, ok1, ok2, ok3, d0, d1, d2, d3, sz, ed]
  · have hb : decide (c2 (a, b) ∧ c2 (c, d) ∧ c2 (e, f)) = false := decide_eq_false hok
    rw [if_neg hok]
    simp [-D.isLit, -Bool.decide_and, Try.f6, hb]
theorem sOr2_ok : callable Try.prog 6 = true := by kernel_rfl

/-! l.toP2 -/
noncomputable def toP2C := ct1 EI2 (fun p0 => True) (fun p0 => [.agg [.lit (.int .i64 p0.1), .lit (.int .i64 p0.2)]])
@[simp] theorem toP2C_at (a b : Int) : toP2C [.agg [.lit (.int .i64 a), .lit (.int .i64 b)]] = (True, [.agg [.lit (.int .i64 a), .lit (.int .i64 b)]]) := ct1_at (a, b)
theorem toP2_spec {N : NR} : SpecD N Try.prog 7 toP2C := by
  refine rd1 (mf := fun f => false) (tb := tbl []) tbl_nil (fn := Try.f7) (by kernel_rfl) rfl (by kernel_rfl) (by kernel_rfl) ?_
  rintro ⟨a, b⟩ hp
  have hp : True := hp
  show awp _ _ _ _ (start _ ([.agg [.lit (.int .i64 a), .lit (.int .i64 b)]].map .dat) []) (endK _ _ _ (([.agg [.lit (.int .i64 a), .lit (.int .i64 b)]]).map .dat) [])
  simp [-D.isLit, Try.f7]
theorem toP2_ok : callable Try.prog 7 = true := by kernel_rfl

/-! l.FnExactOrient2 -/
noncomputable def lwOrient2C := ct3 EI2 EI2 EI2 (fun p0 p1 p2 => (I64 p0.1 ∧ I64 p0.2) ∧ (I64 p1.1 ∧ I64 p1.2) ∧ (I64 p2.1 ∧ I64 p2.2)) (fun p0 p1 p2 => [.lit (.bool true)])
@[simp] theorem lwOrient2C_at (a b : Int) (c d : Int) (e f : Int) : lwOrient2C [.agg [.lit (.int .i64 a), .lit (.int .i64 b)], .agg [.lit (.int .i64 c), .lit (.int .i64 d)], .agg [.lit (.int .i64 e), .lit (.int .i64 f)]] = ((I64 a ∧ I64 b) ∧ (I64 c ∧ I64 d) ∧ (I64 e ∧ I64 f), [.lit (.bool true)]) := ct3_at (a, b) (c, d) (e, f)
noncomputable def lwOrient2Tb : List (FuncId × Ct) := [(7, .data toP2C), (8, .data iOr2C), (6, .data sOr2C)]
theorem lwOrient2Tb_ok : TbOK NF Try.prog (tbl lwOrient2Tb) := tbl_cons (c := .data toP2C) toP2_spec toP2_ok (tbl_cons (c := .data iOr2C) iOr2_spec iOr2_ok (tbl_cons (c := .data sOr2C) sOr2_spec sOr2_ok tbl_nil))

@[simp] theorem lwOrient2Tb1 : tbl lwOrient2Tb 7 = some (.data toP2C) := rfl
@[simp] theorem lwOrient2Tb2 : tbl lwOrient2Tb 8 = some (.data iOr2C) := rfl
@[simp] theorem lwOrient2Tb3 : tbl lwOrient2Tb 6 = some (.data sOr2C) := rfl
theorem lwOrient2_spec : SpecD NF Try.prog 3 lwOrient2C := by
  refine rd3 (mf := fun f => false) lwOrient2Tb_ok (fn := Try.f3) (by kernel_rfl) rfl (by kernel_rfl) (by kernel_rfl) ?_
  rintro ⟨a, b⟩ ⟨c, d⟩ ⟨e, f⟩ hp
  have hp : (I64 a ∧ I64 b) ∧ (I64 c ∧ I64 d) ∧ (I64 e ∧ I64 f) := hp
  show awp _ _ _ _ (start _ ([.agg [.lit (.int .i64 a), .lit (.int .i64 b)], .agg [.lit (.int .i64 c), .lit (.int .i64 d)], .agg [.lit (.int .i64 e), .lit (.int .i64 f)]].map .dat) []) (endK _ _ _ (([.lit (.bool true)]).map .dat) [])
  generalize hX : (if c2 (a, b) ∧ c2 (c, d) ∧ c2 (e, f) then ((c - a) * (f - b) - (d - b) * (e - a)).sign else 2) = X
  simp [-D.isLit, Try.f3, hX]
theorem lwOrient2_ok : callable Try.prog 3 = true := by kernel_rfl
theorem lwOrient2_calls (a b c d e f : Int) (ha : (Lit.int .i64 a).wf = true) (hb : (Lit.int .i64 b).wf = true) (hc : (Lit.int .i64 c).wf = true) (hd : (Lit.int .i64 d).wf = true) (he : (Lit.int .i64 e).wf = true) (hf : (Lit.int .i64 f).wf = true) (w : World) :
    Calls Try.prog 3 #[.agg #[.int .i64 a, .int .i64 b], .agg #[.int .i64 c, .int .i64 d], .agg #[.int .i64 e, .int .i64 f]] w fun e w' => e = .returned (.bool true) ∧ Below w.heap.size w w' :=
  law_calls lwOrient2_spec (ds := [.agg [.lit (.int .i64 a), .lit (.int .i64 b)], .agg [.lit (.int .i64 c), .lit (.int .i64 d)], .agg [.lit (.int .i64 e), .lit (.int .i64 f)]]) (by rw [lwOrient2C_at]; exact ⟨⟨wf64 ha, wf64 hb⟩, ⟨wf64 hc, wf64 hd⟩, ⟨wf64 he, wf64 hf⟩⟩) (by rw [lwOrient2C_at]; rfl) (vs := [.agg #[.int .i64 a, .int .i64 b], .agg #[.int .i64 c, .int .i64 d], .agg #[.int .i64 e, .int .i64 f]]) (repVs_cons (repV_flat (cs := [.int .i64 a, .int .i64 b]) rfl (fun v hv => by simp at hv; rcases hv with rfl | rfl <;> rfl) rfl) (repVs_cons (repV_flat (cs := [.int .i64 c, .int .i64 d]) rfl (fun v hv => by simp at hv; rcases hv with rfl | rfl <;> rfl) rfl) (repVs_cons (repV_flat (cs := [.int .i64 e, .int .i64 f]) rfl (fun v hv => by simp at hv; rcases hv with rfl | rfl <;> rfl) rfl) repVs_nil)))
end Go.Proofs.Ytlniifhdimaliaa.Ae
