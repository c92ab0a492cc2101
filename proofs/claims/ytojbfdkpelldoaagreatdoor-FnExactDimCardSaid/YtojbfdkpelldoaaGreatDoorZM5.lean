/- Of our texts what the law leans on, in the order in which they build: L60, L61, L62, Q1, L63, L64, S1, S2, L65, L66, L67, L68, L69, S3, L70, S4, S5, T69, T1, T70, T60, T2, T4, T20, T3, T5, Q2, T6, T21, T22, T23, T71. No condition. -/
import Derived.Test.YtojbfdkpelldoaaGreatDoorZM4
import Derived.Lib.LaidTab
import Derived.Lib.ItoaNum
import Derived.Below
import Derived.OpenShut
import Derived.Shelf.Strconv.Itoa4
set_option linter.unusedVariables false
set_option linter.unusedSimpArgs false
namespace Go.Proofs.YtojbfdkpelldoaaGreatDoor.Ae
open Go Go.RowKit Go.Proofs.YtojbfdkpelldoaaGreatDoor.Dig
variable {N : NR}
theorem eB_new : eB .new = .agg [.lit (.bool false), .lit (.slice none 0 0)] := rfl
@[simp] theorem eB_size (c : BC) : (eB c).size = 2 := by cases c <;> rfl
@[simp] theorem eB_agg (c : BC) : (eB c).isAgg = true := by cases c <;> rfl
@[simp] theorem eB_islit (c : BC) : (eB c).isLit = false := by cases c <;> rfl
theorem iAddC_dd (x y : Int) (c : BC) : iAddC [.ref 0, .dat (.ptr (eZ x)), .dat (.ptr (eZ y))] [eB c] = ((SZ x ∧ SZ y), [.ref 0], [eZ (x + y)]) := ctM_at binE_inj (.dd x y c)
theorem iAddC_zd (x y : Int) : iAddC [.ref 0, .ref 0, .dat (.ptr (eZ y))] [eZ x] = ((SZ x ∧ SZ y), [.ref 0], [eZ (x + y)]) := ctM_at binE_inj (.zd x y)
theorem iMulC_dd (x y : Int) (c : BC) : iMulC [.ref 0, .dat (.ptr (eZ x)), .dat (.ptr (eZ y))] [eB c] = ((SZ x ∧ SZ y), [.ref 0], [eZ (x * y)]) := ctM_at binE_inj (.dd x y c)
noncomputable def iSubC := ctM binE (fun p => SZ p.x ∧ SZ p.y) (fun p => ([.ref 0], [eZ (p.x - p.y)]))
theorem iSubC_zd (x y : Int) : iSubC [.ref 0, .ref 0, .dat (.ptr (eZ y))] [eZ x] = ((SZ x ∧ SZ y), [.ref 0], [eZ (x - y)]) := ctM_at binE_inj (.zd x y)
noncomputable def sbTb : List (FuncId × Ct) := [(99, .mut [true, false] ngC), (105, .mut [true, false, false] iAddC)]
theorem sbTb_ok : TbOK N Tryz.prog (tbl sbTb) := tbl_cons (c := .mut [true, false] ngC) Neg_spec Neg_ok (tbl_cons (c := .mut [true, false, false] iAddC) Add_spec Add_ok tbl_nil)
@[simp] theorem sbTb1 : tbl sbTb 99 = some (.mut [true, false] ngC) := rfl
@[simp] theorem sbTb2 : tbl sbTb 105 = some (.mut [true, false, false] iAddC) := rfl
theorem Sub_spec : SpecM N Tryz.prog 124 iSubC := by
  refine rdM (mf := fun f => f == 99 || f == 105) sbTb_ok (fn := Tryz.f124) (by kernel_rfl) rfl (by kernel_rfl) ?_
  rintro p ⟨hsa, hsb⟩
  refine ⟨by cases p <;> (show 3 ≤ 13; decide), by cases p <;> rfl, ?_⟩
  simp only [Tryz.f124]
  rcases p with ⟨x, y, c⟩ | ⟨x, y⟩
  · have hsa : SZ x := hsa
    have hsb : SZ y := hsb
    have c1 := ngC_n y
    have c2 := iAddC_dd x (-y) c
    simp only [hsa, hsb, SZ_neg, and_self] at c1 c2
    simp [binE, BinA.x, BinA.y, c1, c2, Int.sub_eq_add_neg]
  · have hsa : SZ x := hsa
    have hsb : SZ y := hsb
    have c1 := ngC_n y
    have c2 := iAddC_zd x (-y)
    simp only [hsa, hsb, SZ_neg, and_self] at c1 c2
    simp [binE, BinA.x, BinA.y, c1, c2, Int.sub_eq_add_neg]
theorem Sub_ok : callable Tryz.prog 124 = true := by kernel_rfl
inductive QuA where
  | dd (x y : Int) (c : BC)
def QuA.x : QuA → Int
  | dd x _ _ => x
def QuA.y : QuA → Int
  | dd _ y _ => y
def quE : QuA → List Ar × List D
  | .dd x y c => ([.ref 0, .dat (.ptr (eZ x)), .dat (.ptr (eZ y))], [eB c])
theorem quE_inj : ∀ (p q : QuA), quE p = quE q → p = q
  | .dd a b c, .dd a' b' c', h => by
    simp only [quE, Prod.mk.injEq, List.cons.injEq, and_true, true_and, Ar.dat.injEq, D.ptr.injEq] at h
    rw [eZ_inj h.1.1, eZ_inj h.1.2, eB_inj h.2]
noncomputable def quC := ctM quE (fun p => SZ p.x ∧ SZ p.y ∧ p.y ≠ 0) (fun p => ([.ref 0], [eZ (Int.tdiv p.x p.y)]))
theorem quC_at (x y : Int) (c : BC) : quC [.ref 0, .dat (.ptr (eZ x)), .dat (.ptr (eZ y))] [eB c] = ((SZ x ∧ SZ y ∧ y ≠ 0), [.ref 0], [eZ (Int.tdiv x y)]) := ctM_at quE_inj (.dd x y c)
noncomputable def qoTb : List (FuncId × Ct) := [(122, .mut [true, false, false, true] qrC)]
theorem qoTb_ok : TbOK N Tryz.prog (tbl qoTb) := tbl_cons (c := .mut [true, false, false, true] qrC) QuoRem_spec QuoRem_ok tbl_nil
@[simp] theorem qoTb1 : tbl qoTb 122 = some (.mut [true, false, false, true] qrC) := rfl
theorem Quo_spec : SpecM N Tryz.prog 115 quC := by
  refine rdM (mf := fun f => f == 122) qoTb_ok (fn := Tryz.f115) (by kernel_rfl) rfl (by kernel_rfl) ?_
  rintro ⟨x, y, c⟩ ⟨hx, hy, h0⟩
  have hx : SZ x := hx
  have hy : SZ y := hy
  have h0 : y ≠ 0 := h0
  refine ⟨by show 3 ≤ 18; decide, rfl, ?_⟩
  simp only [Tryz.f115]
  have c1 := qrC_at x y c .new
  simp only [hx, hy, h0, and_self, eB_new, ne_eq, not_false_eq_true] at c1
  simp [quE, QuA.x, QuA.y, List.idxOf_cons, c1]
theorem Quo_ok : callable Tryz.prog 115 = true := by kernel_rfl
noncomputable def dmC := ctM qrE (fun p => SZ p.x ∧ SZ p.y ∧ p.y ≠ 0) (fun p => ([.ref 0, .ref 1], [eZ (p.x / p.y), eZ (p.x % p.y)]))
theorem dmC_at (x y : Int) (c d : BC) : dmC [.ref 0, .dat (.ptr (eZ x)), .dat (.ptr (eZ y)), .ref 1] [eB c, eB d] = ((SZ x ∧ SZ y ∧ y ≠ 0), [.ref 0, .ref 1], [eZ (x / y), eZ (x % y)]) := ctM_at qrE_inj ⟨x, y, c, d⟩
noncomputable def dmTb0 : List (FuncId × Ct) := [(107, .mut [true, false] copyC), (122, .mut [true, false, false, true] qrC), (97, .data sgDC), (123, .mut [true, false] absIC), (105, .mut [true, false, false] iAddC), (108, .data newC), (124, .mut [true, false, false] iSubC)]
theorem dmTb0_ok : TbOK N Tryz.prog (tbl dmTb0) := tbl_cons (c := .mut [true, false] copyC) Set_spec Set_ok (tbl_cons (c := .mut [true, false, false, true] qrC) QuoRem_spec QuoRem_ok (tbl_cons (c := .data sgDC) SignD_spec Sign_ok (tbl_cons (c := .mut [true, false] absIC) Abs_spec Abs_ok (tbl_cons (c := .mut [true, false, false] iAddC) Add_spec Add_ok (tbl_cons (c := .data newC) newBigInt_spec newBigInt_ok (tbl_cons (c := .mut [true, false, false] iSubC) Sub_spec Sub_ok tbl_nil))))))
@[simp] theorem dmTb1 : tbl dmTb0 107 = some (.mut [true, false] copyC) := rfl
@[simp] theorem dmTb2 : tbl dmTb0 122 = some (.mut [true, false, false, true] qrC) := rfl
@[simp] theorem dmTb3 : tbl dmTb0 97 = some (.data sgDC) := rfl
@[simp] theorem dmTb4 : tbl dmTb0 123 = some (.mut [true, false] absIC) := rfl
@[simp] theorem dmTb5 : tbl dmTb0 105 = some (.mut [true, false, false] iAddC) := rfl
@[simp] theorem dmTb6 : tbl dmTb0 108 = some (.data newC) := rfl
@[simp] theorem dmTb7 : tbl dmTb0 124 = some (.mut [true, false, false] iSubC) := rfl
theorem absIC_at (x : Int) (c : BC) : absIC [.ref 0, .dat (.ptr (eZ x))] [eB c] = (SZ x, [.ref 0], [eZ x.natAbs]) := ctM_at unE_inj ⟨x, c⟩
theorem SZ_tdiv {x y : Int} (h : SZ x) : SZ (Int.tdiv x y) := Sm_le (by rw [Int.natAbs_tdiv]; exact Nat.div_le_self _ _) h
theorem SZ_tmod {x y : Int} (h : SZ x) : SZ (Int.tmod x y) := Sm_le (by rw [Int.natAbs_tmod]; exact Nat.mod_le _ _) h
theorem SZ_abs {x : Int} (h : SZ x) : SZ (x.natAbs : Int) := by unfold SZ; rw [Int.natAbs_natCast]; exact h
theorem div_of_neg {x y : Int} (h0 : y ≠ 0) (h : Int.tmod x y < 0) : x / y = Int.tdiv x y - y.sign ∧ x % y = Int.tmod x y + y.natAbs := by
  have h1 : x < 0 := by
    rcases Int.lt_or_le x 0 with h' | h'
    · exact h'
    · exact absurd (Int.tmod_nonneg y h') (by omega)
  have h2 := Int.tdiv_eq_ediv (a := x) (b := y)
  have h3 := Int.tmod_eq_emod (a := x) (b := y)
  have h4 : ¬ (0 ≤ x ∨ y ∣ x) := by
    rintro (h' | h')
    · omega
    · rw [Int.tmod_eq_zero_of_dvd h'] at h; omega
  rw [if_neg h4] at h2 h3
  constructor <;> omega
theorem div_of_nn {x y : Int} (h : 0 ≤ Int.tmod x y) (h0 : y ≠ 0) : x / y = Int.tdiv x y ∧ x % y = Int.tmod x y := by
  have h2 := Int.tdiv_eq_ediv (a := x) (b := y)
  have h3 := Int.tmod_eq_emod (a := x) (b := y)
  by_cases h4 : 0 ≤ x ∨ y ∣ x
  · rw [if_pos h4] at h2 h3
    constructor <;> omega
  · rw [if_neg h4] at h3
    have h5 := Int.emod_lt x h0
    omega
set_option maxHeartbeats 4000000 in
theorem DivMod_spec : SpecM N Tryz.prog 106 dmC := by
  refine rdM (mf := fun f => f == 107 || f == 122 || f == 97 || f == 123 || f == 105 || f == 124) dmTb0_ok (fn := Tryz.f106) (by kernel_rfl) rfl (by kernel_rfl) ?_
  rintro ⟨x, y, c, d⟩ ⟨hx, hy, h0⟩
  have hx : SZ x := hx
  have hy : SZ y := hy
  have h0 : y ≠ 0 := h0
  refine ⟨by show 4 ≤ 36; decide, rfl, ?_⟩
  simp only [qrE, Tryz.f106]
  have c1 := copyC_at y .new
  have c2 := qrC_at x y c d
  have c3 := sgDC_at (Int.tmod x y)
  have c4 := absIC_at y .new
  have c5 := iAddC_zd (Int.tmod x y) (y.natAbs : Int)
  have c6 := sgDC_at y
  have c7 := newC_at y.sign
  have c8 := iSubC_zd (Int.tdiv x y) y.sign
  have h1 := sign_bd y
  have h2 : I64 y.sign := by unfold I64; omega
  have h3 := SZ_I64 h2
  simp only [hx, hy, h0, SZ_tdiv hx, SZ_tmod hx, SZ_abs hy, h2, h3, and_self, ne_eq, not_false_eq_true, eB_new] at c1 c2 c4 c5 c7 c8
  simp only [i64D] at c3 c6 c7
  have w1 : IntKind.i64.wrap y.sign = y.sign := i64_id _ (by omega) (by omega)
  by_cases hn : Int.tmod x y < 0
  · obtain ⟨e1, e2⟩ := div_of_neg h0 hn
    rw [e1, e2]
    have hs := Int.sign_eq_neg_one_of_neg hn
    rw [hs] at c3
    generalize Int.tmod x y = r at *
    generalize Int.tdiv x y = q at *
    generalize y.sign = s at *
    generalize ((y.natAbs : Nat) : Int) = m at *
    simp [c1, c2, c3, c4, c5, c6, c7, c8, w1, List.idxOf_cons]
  · obtain ⟨e1, e2⟩ := div_of_nn (Int.not_lt.1 hn) h0
    rw [e1, e2]
    have hs : ¬ (Int.tmod x y).sign < 0 := by
      intro h
      exact hn (Int.sign_neg_iff.1 h)
    generalize Int.tmod x y = r at *
    generalize Int.tdiv x y = q at *
    generalize r.sign = s at *
    simp [c1, c2, c3, hs, List.idxOf_cons]
theorem DivMod_ok : callable Tryz.prog 106 = true := by kernel_rfl
noncomputable def idC := ctM quE (fun p => SZ p.x ∧ SZ p.y ∧ p.y ≠ 0) (fun p => ([.ref 0], [eZ (p.x / p.y)]))
theorem idC_at (x y : Int) (c : BC) : idC [.ref 0, .dat (.ptr (eZ x)), .dat (.ptr (eZ y))] [eB c] = ((SZ x ∧ SZ y ∧ y ≠ 0), [.ref 0], [eZ (x / y)]) := ctM_at quE_inj (.dd x y c)
noncomputable def dvTb : List (FuncId × Ct) := [(106, .mut [true, false, false, true] dmC)]
theorem dvTb_ok : TbOK N Tryz.prog (tbl dvTb) := tbl_cons (c := .mut [true, false, false, true] dmC) DivMod_spec DivMod_ok tbl_nil
@[simp] theorem dvTb1 : tbl dvTb 106 = some (.mut [true, false, false, true] dmC) := rfl
theorem Div_spec : SpecM N Tryz.prog 76 idC := by
  refine rdM (mf := fun f => f == 106) dvTb_ok (fn := Tryz.f76) (by kernel_rfl) rfl (by kernel_rfl) ?_
  rintro ⟨x, y, c⟩ ⟨hx, hy, h0⟩
  have hx : SZ x := hx
  have hy : SZ y := hy
  have h0 : y ≠ 0 := h0
  refine ⟨by show 3 ≤ 18; decide, rfl, ?_⟩
  simp only [Tryz.f76]
  have c1 := dmC_at x y c .new
  simp only [hx, hy, h0, and_self, eB_new, ne_eq, not_false_eq_true] at c1
  simp [quE, QuA.x, QuA.y, List.idxOf_cons, c1]
theorem Div_ok : callable Tryz.prog 76 = true := by kernel_rfl
end Go.Proofs.YtojbfdkpelldoaaGreatDoor.Ae

namespace Go.Proofs.YtojbfdkpelldoaaGreatDoor.Ae
open Go Go.RowKit Go.Proofs.YtojbfdkpelldoaaGreatDoor.Dig
variable {N : NR}
noncomputable def igC := ctM quE (fun p => SZ p.x ∧ SZ p.y) (fun p => ([.ref 0], [eZ (Int.gcd p.x p.y)]))
theorem igC_at (x y : Int) (c : BC) : igC [.ref 0, .dat (.ptr (eZ x)), .dat (.ptr (eZ y))] [eB c] = ((SZ x ∧ SZ y), [.ref 0], [eZ (Int.gcd x y)]) := ctM_at quE_inj (.dd x y c)
noncomputable def igTb : List (FuncId × Ct) := [(107, .mut [true, false] copyC), (122, .mut [true, false, false, true] qrC), (97, .data sgDC), (123, .mut [true, false] absIC)]
theorem igTb_ok : TbOK N Tryz.prog (tbl igTb) := tbl_cons (c := .mut [true, false] copyC) Set_spec Set_ok (tbl_cons (c := .mut [true, false, false, true] qrC) QuoRem_spec QuoRem_ok (tbl_cons (c := .data sgDC) SignD_spec Sign_ok (tbl_cons (c := .mut [true, false] absIC) Abs_spec Abs_ok tbl_nil)))
@[simp] theorem igTb1 : tbl igTb 107 = some (.mut [true, false] copyC) := rfl
@[simp] theorem igTb2 : tbl igTb 122 = some (.mut [true, false, false, true] qrC) := rfl
@[simp] theorem igTb3 : tbl igTb 97 = some (.data sgDC) := rfl
@[simp] theorem igTb4 : tbl igTb 123 = some (.mut [true, false] absIC) := rfl
def gcS (c : BC) (x y : Int) : St := ⟨[.obj 30 [] 0, .any, .any, .any, .any, .any, .any, .obj 7 [] 0, .obj 8 [] 0, .any, .any, .any, .any, .any, .any, .any, .any, .any, .any, .any, .any, .any, .any, .any, .any, .any, .any, .any, .any, .any], [none, none, none, none, none, none, none, some (.fbox (eZ x)), some (.fbox (eZ y)), none, none, none, none, none, none, none, none, none, none, none, none, none, none, none, none, none, none, none, none, none, some (.pbox (eB c))]⟩
set_option maxHeartbeats 4000000 in
theorem GCD_spec : SpecM N Tryz.prog 114 igC := by
  refine rdM (mf := fun f => f == 107 || f == 122 || f == 97 || f == 123) igTb_ok (fn := Tryz.f114) (by kernel_rfl) rfl (by kernel_rfl) ?_
  rintro ⟨a, b, c⟩ ⟨ha, hb⟩
  have ha : SZ a := ha
  have hb : SZ b := hb
  refine ⟨by show 3 ≤ 30; decide, rfl, ?_⟩
  simp only [quE, Tryz.f114, QuA.x, QuA.y]
  have c1 := absIC_at a .new
  have c2 := absIC_at b .new
  simp only [ha, hb, eB_new] at c1 c2
  generalize hg : Int.gcd a b = g
  simp [c1, c2]
  refine loop_go (fun n st => ∃ x y : Nat, SZ x ∧ SZ y ∧ Nat.gcd x y = g ∧ n = y ∧ st = gcS c x y) (s0 := gcS c a.natAbs b.natAbs) (n := b.natAbs) (Snd.trans (Snd.frz _ [10, 13]) (snd_obs (n := 31) [(7, 10, .fbox (eZ a.natAbs)), (8, 13, .fbox (eZ b.natAbs)), (30, 30, .pbox (eB c))] rfl (by simp [St.frz]) (by simp [gcS, St.frz]))) ⟨_, _, SZ_abs ha, SZ_abs hb, hg, rfl, rfl⟩ ?_
  rintro y st ⟨x, _, hx, hy, hxy, rfl, rfl⟩ KN hN
  rcases Nat.eq_zero_or_pos y with h0 | h0
  · subst h0
    rw [Nat.gcd_zero_right] at hxy
    subst hxy
    have d1 := sgDC_at ((0 : Nat) : Int)
    have d2 := copyC_at x c
    simp only [i64D, hx] at d1 d2
    simp at d1
    simp [gcS, d1, d2]
  · have h1 : ((y : Nat) : Int).sign = 1 := Int.sign_eq_one_of_pos (by omega)
    have d1 := sgDC_at y
    have d2 := qrC_at x y .new .new
    have hy0 : ((y : Nat) : Int) ≠ 0 := by omega
    simp only [i64D, hx, hy, hy0, h1, and_self, eB_new, ne_eq, not_false_eq_true, tdiv_nat, tmod_nat] at d1 d2
    obtain ⟨r, hr⟩ : ∃ r, r = x % y := ⟨_, rfl⟩
    obtain ⟨q, hq⟩ : ∃ q, q = x / y := ⟨_, rfl⟩
    have hry : r < y := by rw [hr]; exact Nat.mod_lt _ h0
    rw [← hr, ← hq] at d2
    simp [gcS, d1, d2, List.idxOf_cons]
    refine hN _ (nx (m := r) (s'' := gcS c y r) (Snd.trans (Snd.frz _ [19]) (snd_obs (n := 31) [(7, 8, .fbox (eZ y)), (8, 19, .fbox (eZ r)), (30, 30, .pbox (eB c))] rfl (by simp [St.frz]) (by simp [gcS, St.frz]))) ⟨y, r, hy, SZ_le (by simp; omega) hy, ?_, rfl, rfl⟩ hry)
    rw [hr, ← hxy, Nat.gcd_comm y, ← Nat.gcd_rec, Nat.gcd_comm]
theorem GCD_ok : callable Tryz.prog 114 = true := by kernel_rfl
end Go.Proofs.YtojbfdkpelldoaaGreatDoor.Ae

namespace Go.Proofs.YtojbfdkpelldoaaGreatDoor.Ae
open Go Go.RowKit Go.Proofs.YtojbfdkpelldoaaGreatDoor.Dig
variable {N : NR}
theorem isq_ex : ∀ n : Nat, ∃ k, k * k ≤ n ∧ n < (k + 1) * (k + 1)
  | 0 => ⟨0, by omega, by omega⟩
  | n + 1 => by
    obtain ⟨k, h1, h2⟩ := isq_ex n
    by_cases h : (k + 1) * (k + 1) ≤ n + 1
    · refine ⟨k + 1, h, ?_⟩
      have : (k + 1 + 1) * (k + 1 + 1) = (k + 1) * (k + 1) + 2 * (k + 1) + 1 := by rw [Nat.add_mul, Nat.mul_add]; omega
      omega
    · exact ⟨k, by omega, by omega⟩
noncomputable def isq (n : Nat) : Nat := (isq_ex n).choose
theorem isq_le (n : Nat) : isq n * isq n ≤ n := (isq_ex n).choose_spec.1
theorem isq_lt (n : Nat) : n < (isq n + 1) * (isq n + 1) := (isq_ex n).choose_spec.2
theorem isq_uniq {n k : Nat} (h1 : k * k ≤ n) (h2 : n < (k + 1) * (k + 1)) : isq n = k := by
  have a1 := isq_le n
  have a2 := isq_lt n
  rcases Nat.lt_trichotomy (isq n) k with h | h | h
  · have := Nat.mul_le_mul (show isq n + 1 ≤ k from h) (show isq n + 1 ≤ k from h); omega
  · exact h
  · have := Nat.mul_le_mul (show k + 1 ≤ isq n from h) (show k + 1 ≤ isq n from h); omega
noncomputable def sqrtC := ctM ngE (fun p => (mag p.x.natAbs).length ≤ 1000) (fun p => ([.ref 0], [eZ (isq p.x.natAbs)]))
theorem sqrtC_r (x : Int) : sqrtC [.ref 0, .ref 0] [eZ x] = ((mag x.natAbs).length ≤ 1000, [.ref 0], [eZ (isq x.natAbs)]) := ctM_at ngE_inj (.r x)
noncomputable def sqTb : List (FuncId × Ct) := [(80, .data addC), (82, .data cmpC), (83, .data mulC), (81, .data shiftC), (84, .mut ptM putC)]
theorem sqTb_ok : TbOK N Tryz.prog (tbl sqTb) := tbl_cons (c := .data addC) addMag_spec addMag_ok (tbl_cons (c := .data cmpC) cmpMag_spec cmpMag_ok (tbl_cons (c := .data mulC) mulMag_spec mulMag_ok (tbl_cons (c := .data shiftC) shiftMag_spec shiftMag_ok (tbl_cons (c := .mut ptM putC) put_spec put_ok tbl_nil))))
@[simp] theorem sqTb1 : tbl sqTb 80 = some (.data addC) := rfl
@[simp] theorem sqTb2 : tbl sqTb 82 = some (.data cmpC) := rfl
@[simp] theorem sqTb3 : tbl sqTb 83 = some (.data mulC) := rfl
@[simp] theorem sqTb4 : tbl sqTb 81 = some (.data shiftC) := rfl
@[simp] theorem sqTb5 : tbl sqTb 84 = some (.mut ptM putC) := rfl
def sqA (x0 : X) (c : D) (j : Int) : St := ⟨[.obj 39 [] 0, x0, .any, .any, .any, .row 8, .dat (.lit (.int .i64 j)), .any, .any, .any, .any, .any, .any, .any, .any, .any, .any, .any, .any, .any, .any, .any, .any, .any, .any, .any, .any, .any, .any, .any, .any, .any, .any, .any, .any, .any, .any, .any, .any], [none, none, none, none, none, none, none, none, some (.frow 1 89 []), none, none, none, none, none, none, none, none, none, none, none, none, none, none, none, none, none, none, none, none, none, none, none, none, none, none, none, none, none, none, some (.pbox c)]⟩
def sqB (x0 : X) (c : D) (o : Nat) (j : Int) : St := ⟨[.obj 39 [] 0, x0, .any, .any, .any, .dat (eM o), .dat (.lit (.int .i64 j)), .any, .any, .any, .any, .any, .any, .any, .any, .any, .any, .any, .any, .any, .any, .any, .any, .any, .any, .any, .any, .any, .any, .any, .any, .any, .any, .any, .any, .any, .any, .any, .any], [none, none, none, none, none, none, none, none, none, none, none, none, none, none, none, none, none, none, none, none, none, none, none, none, none, none, none, none, none, none, none, none, none, none, none, none, none, none, none, some (.pbox c)]⟩
theorem sq_step {x o j : Nat} (h1 : o * o ≤ x) (h2 : x < (o + 2 ^ (j + 1)) * (o + 2 ^ (j + 1))) :
    ((o + 2 ^ j) * (o + 2 ^ j) ≤ x → (o + 2 ^ j) * (o + 2 ^ j) ≤ x ∧ x < (o + 2 ^ j + 2 ^ j) * (o + 2 ^ j + 2 ^ j)) ∧ (¬ (o + 2 ^ j) * (o + 2 ^ j) ≤ x → o * o ≤ x ∧ x < (o + 2 ^ j) * (o + 2 ^ j)) := by
  have e : o + 2 ^ (j + 1) = o + 2 ^ j + 2 ^ j := by rw [Nat.pow_succ]; omega
  rw [e] at h2
  exact ⟨fun h => ⟨h, h2⟩, fun h => ⟨h1, by omega⟩⟩
theorem Sm_mul {a b j : Nat} (ha : (mag a).length ≤ j) (hb : (mag b).length ≤ j) (hj : j ≤ 100000) : Sm (a * b) := by
  have h1 := mag_lt.1 ha
  have h2 := mag_lt.1 hb
  have h3 : a * b < B ^ (j + j) := by
    rw [Nat.pow_add]
    rcases Nat.eq_zero_or_pos b with h0 | h0
    · subst h0; rw [Nat.mul_zero]; exact Nat.mul_pos (Nat.pow_pos B_pos) (Nat.pow_pos B_pos)
    · exact Nat.mul_lt_mul'' h1 h2
  have := mag_lt.2 h3
  unfold Sm
  omega
theorem Sm_100 {a : Nat} (ha : (mag a).length ≤ 1002) : Sm a := by unfold Sm; omega
theorem pow32 (j k : Nat) (h : j < 32 * k) : 2 ^ j < B ^ k := by
  have : B ^ k = 2 ^ (32 * k) := by rw [Nat.pow_mul]; rfl
  rw [this]
  exact Nat.pow_lt_pow_right (by omega) h
theorem sq_len {x o j l : Nat} (hl : (mag x).length = l) (hx : l ≤ 1000) (h : o * o ≤ x) (hj : j ≤ 16 * l + 15) : (mag (o + 2 ^ j)).length ≤ 1001 ∧ (mag o).length ≤ 1000 := by
  have ho : o ≤ x := by
    rcases Nat.eq_zero_or_pos o with h0 | h0
    · omega
    · have := Nat.le_mul_of_pos_left o h0; omega
  have h1 := mag_len_le ho
  obtain ⟨m, hm⟩ : ∃ m, m = 1000 := ⟨_, rfl⟩
  have hxm : l ≤ m := by omega
  have key : (mag (o + 2 ^ j)).length ≤ m + 1 := by
    refine mag_lt.2 ?_
    have h2 := mag_lt.1 (show (mag o).length ≤ m by omega)
    have h3 : 2 ^ j < B ^ m := pow32 j m (by omega)
    have h4 : B ^ (m + 1) = B ^ m * B := Nat.pow_succ _ _
    have h5 : B ^ m * 2 ≤ B ^ m * B := Nat.mul_le_mul_left _ (by decide)
    rw [h4]
    generalize B ^ m * B = z1 at *
    generalize B ^ m = z at *
    generalize 2 ^ j = y at *
    omega
  exact ⟨by omega, by omega⟩
theorem cmpV_le {a b : Nat} : cmpV a b ≤ 0 ↔ a ≤ b := by
  have h1 := @cmpV_pos a b
  constructor
  · intro h
    rcases Nat.lt_or_ge b a with h' | h'
    · have := h1.2 h'; omega
    · exact h'
  · intro h
    rcases Int.lt_or_le 0 (cmpV a b) with h' | h'
    · have := h1.1 h'; omega
    · exact h'
def sqI (x0 : X) (c : D) (x l n : Nat) (st : St) : Prop := ∃ o, o * o ≤ x ∧ x < (o + 2 ^ n) * (o + 2 ^ n) ∧ n ≤ 16 * l + 16 ∧ ((o = 0 ∧ st = sqA x0 c ((n : Int) - 1)) ∨ st = sqB x0 c o ((n : Int) - 1))
theorem one_dg : D.sl 1 [.lit (.int .u32 1)] = eM 1 := by
  show _ = D.sl 1 ((mag 1).map dg)
  rw [mag_small (by decide) (by decide)]; rfl
set_option maxHeartbeats 8000000 in
theorem Sqrt_spec : SpecM N Tryz.prog 53 sqrtC := by
  refine rdM (mf := fun f => f == 80 || f == 84) sqTb_ok (fn := Tryz.f53) (by kernel_rfl) rfl (by kernel_rfl) ?_
  rintro p hx
  refine ⟨by cases p <;> (show 2 ≤ 39; decide), by cases p <;> rfl, ?_⟩
  have hx : (mag p.x.natAbs).length ≤ 1000 := hx
  obtain ⟨x, hpx⟩ : ∃ x, p.x = x := ⟨_, rfl⟩
  rw [hpx] at hx ⊢
  obtain ⟨x0, c, hp1, hp⟩ : ∃ x0 c, (start 39 (ngE p).1 (ngE p).2 = start 39 (ngE p).1 (ngE p).2 ∧ (ngE p).2 = [c] ∧ startAr 39 ((ngE p).1.getD 1 (.ref 0)) = x0 ∧ (ngE p).1.length = 2 ∧ (ngE p).1.getD 0 (.ref 0) = .ref 0) ∧ ((x0 = .dat (.ptr (eZ x)) ∧ ∃ c0, c = eB c0 ∧ p = .d x c0) ∨ (x0 = .obj 39 [] 0 ∧ c = eZ x ∧ p = .r x)) := by
    cases p with
    | d y c0 =>
      have : y = x := hpx
      subst this
      exact ⟨_, _, ⟨rfl, rfl, rfl, rfl, rfl⟩, .inl ⟨rfl, c0, rfl, rfl⟩⟩
    | r y =>
      have : y = x := hpx
      subst this
      exact ⟨_, _, ⟨rfl, rfl, rfl, rfl, rfl⟩, .inr ⟨rfl, rfl, rfl⟩⟩
  clear hp1
  generalize hl : (mag x.natAbs).length = l at *
  obtain ⟨r, hr⟩ : ∃ r, r = isq x.natAbs := ⟨_, rfl⟩
  rw [← hr]
  have h0 : x.natAbs < 2 ^ (16 * l + 16) * 2 ^ (16 * l + 16) := by
    have h1 := mag_lt.1 (Nat.le_of_eq hl)
    rw [← Nat.pow_add]
    have h2 : B ^ l = 2 ^ (32 * l) := by rw [Nat.pow_mul]; rfl
    rw [h2] at h1
    exact Nat.lt_of_lt_of_le h1 (Nat.pow_le_pow_right (by omega) (by omega))
  have w1 : IntKind.i64.wrap (16 * (l : Int)) = 16 * (l : Int) := i64_id _ (by omega) (by omega)
  have w2 : IntKind.i64.wrap (16 * (l : Int) + 15) = 16 * (l : Int) + 15 := i64_id _ (by omega) (by omega)
  have main : ∀ K : Exit → St → Prop, (∀ o, o = r → K .normal (sqB x0 c o (-1))) → (r = 0 → K .normal (sqA x0 c (-1))) → True := fun _ _ _ => trivial
  clear main
  -- one round
  have hround : ∀ n o, o * o ≤ x.natAbs → x.natAbs < (o + 2 ^ (n + 1)) * (o + 2 ^ (n + 1)) → n + 1 ≤ 16 * l + 16 → 
      (addC [eM o, eM (2 ^ n)] = (True, [eM (o + 2 ^ n)])) ∧ shiftC [eM 1, .lit (.int .u64 n)] = (True, [eM (2 ^ n)]) ∧ mulC [eM (o + 2 ^ n), eM (o + 2 ^ n)] = (True, [eM ((o + 2 ^ n) * (o + 2 ^ n))]) ∧ ∃ cv, cmpC [eM ((o + 2 ^ n) * (o + 2 ^ n)), eM x.natAbs] = (True, [.lit (.int .i64 cv)]) ∧ (cv ≤ 0 ↔ (o + 2 ^ n) * (o + 2 ^ n) ≤ x.natAbs) := by
    intro n o h1 h2 hn
    obtain ⟨q1, q2⟩ := sq_len (j := n) hl (by omega) h1 (by omega)
    have c1 := addC_at o (2 ^ n)
    have c2 := shiftC_at 1 n
    have c3 := mulC_at (o + 2 ^ n) (o + 2 ^ n)
    have c4 := cmpC_at ((o + 2 ^ n) * (o + 2 ^ n)) x.natAbs
    have s1 : Sm o := Sm_100 (by omega)
    have s2 : Sm (o + 2 ^ n) := Sm_100 (by omega)
    have s3 : Sm (2 ^ n) := Sm_le (Nat.le_add_left _ _) s2
    have s4 : Sm 1 := by unfold Sm; rw [mag_small (by decide) (by decide)]; decide
    have s5 : Sm ((o + 2 ^ n) * (o + 2 ^ n)) := Sm_mul q1 q1 (by omega)
    have s6 : Sm x.natAbs := by unfold Sm; rw [hl]; omega
    have s7 : n < 2 ^ 40 := by have : (2 : Nat) ^ 40 = 1099511627776 := by decide
                               omega
    simp only [s1, s2, s3, s4, s5, s6, s7, and_self, Nat.one_mul] at c1 c2 c3 c4
    exact ⟨c1, c2, c3, _, c4, cmpV_le⟩
  have hfin : ∀ o, o * o ≤ x.natAbs → x.natAbs < (o + 2 ^ 0) * (o + 2 ^ 0) → o = r := fun o a1 a2 => by
    rw [hr]; exact (isq_uniq a1 a2).symm
  have p1 := fun v => putC_z false r v
  have p2 := fun cc => putC_at false r cc
  have e : sg false r = (r : Int) := by unfold sg; rw [if_neg (by simp)]
  rw [e] at p1 p2
  simp only [Tryz.f53]
  rcases hp with ⟨rfl, c0, rfl, rfl⟩ | ⟨rfl, rfl, rfl⟩
  · simp [ngE, eZ, eM, eW, hl, w1, w2]
    refine loop_go (sqI (.dat (.ptr (eZ x))) (eB c0) x.natAbs l) (s0 := sqA (.dat (.ptr (eZ x))) (eB c0) (((16 * l + 16 : Nat) : Int) - 1)) (n := 16 * l + 16) (Snd.trans (Snd.frz _ [8]) (snd_obs (n := 40) [(8, 8, .frow 1 89 []), (39, 39, .pbox (eB c0))] rfl (by simp [St.frz]) (by simp [sqA, St.frz, eZ, eM, eW]; omega))) ⟨0, by omega, by simpa using h0, by omega, .inl ⟨rfl, rfl⟩⟩ ?_
    rintro n st ⟨o, a1, a2, hn, hst⟩ KN hN
    cases n with
    | zero =>
      have ho := hfin o a1 a2
      clear hN hround
      rcases hst with ⟨h1, rfl⟩ | rfl
      · have hr0 : r = 0 := by omega
        subst hr0
        have p3 := p2 c0
        simp only [eM, eW, mag_zero, List.map_nil] at p3
        simp [sqA, eM, eW, p3, List.idxOf_cons]
        exact Sub.refl _
      · subst ho
        have p3 := p2 c0
        simp only [eM, eW] at p3
        simp [sqB, eM, eW, p3, List.idxOf_cons]
        exact Sub.refl _
    | succ m =>
      obtain ⟨c1, c2, c3, cv, c4, hcv⟩ := hround m o a1 a2 hn
      obtain ⟨t1, t2⟩ := sq_step a1 a2
      have w3 : IntKind.u64.wrap (m : Int) = m := u64_id _ (by omega) (by omega)
      have w4 : IntKind.i64.wrap ((m : Int) - 1) = (m : Int) - 1 := i64_id _ (by omega) (by omega)
      have w5 : ((m : Int) + 1 - 1) = m := by omega
      clear hround
      obtain ⟨pm, hpm⟩ : ∃ pm, pm = 2 ^ m := ⟨_, rfl⟩
      rw [← hpm] at t1 t2 c1 c2 c3 c4 hcv
      generalize hoo : o + pm = oo at *
      by_cases hc : oo * oo ≤ x.natAbs
      · have hcv' : cv ≤ 0 := hcv.2 hc
        have hkeep : ∀ s, Snd s (sqB (.dat (.ptr (eZ x))) (eB c0) oo ((m : Int) - 1)) → KN s := fun s hs => hN _ (nx (m := m) hs ⟨oo, (t1 hc).1, by rw [← hpm]; exact (t1 hc).2, by omega, .inr rfl⟩ (by omega))
        clear hN
        generalize oo * oo = sq at *
        rcases hst with ⟨h1, rfl⟩ | rfl
        · subst h1
          have e0 : eM 0 = .sl 1 [] := by simp [eM, eW, mag_zero]
          rw [e0] at c1
          simp only [eM, eW] at c1 c2 c3 c4
          have e1 := one_dg
          simp only [eM, eW] at e1
          simp [sqA, eZ, eM, eW, w3, w4, w5, e1, c1, c2, c3, c4, hcv', List.idxOf_cons]
          refine hkeep _ ?_
          exact snd_obs (n := 40) [(39, 39, .pbox (eB c0))] rfl (by simp [eZ, eM, eW]) (by simp [sqB, eZ, eM, eW])
        · simp only [eM, eW] at c1 c2 c3 c4
          have e1 := one_dg
          simp only [eM, eW] at e1
          simp [sqB, eZ, eM, eW, w3, w4, w5, e1, c1, c2, c3, c4, hcv', List.idxOf_cons]
          refine hkeep _ ?_
          exact snd_obs (n := 40) [(39, 39, .pbox (eB c0))] rfl (by simp [eZ, eM, eW]) (by simp [sqB, eZ, eM, eW])
      · have hcv' : ¬ cv ≤ 0 := fun h => hc (hcv.1 h)
        rcases hst with ⟨h1, rfl⟩ | rfl
        · subst h1
          have hkeep : ∀ s, Snd s (sqA (.dat (.ptr (eZ x))) (eB c0) ((m : Int) - 1)) → KN s := fun s hs => hN _ (nx (m := m) hs ⟨0, (t2 hc).1, by rw [← hpm]; rw [← hoo] at t2 hc; exact (t2 hc).2, by omega, .inl ⟨rfl, rfl⟩⟩ (by omega))
          clear hN
          generalize oo * oo = sq at *
          have e0 : eM 0 = .sl 1 [] := by simp [eM, eW, mag_zero]
          rw [e0] at c1
          simp only [eM, eW] at c1 c2 c3 c4
          have e1 := one_dg
          simp only [eM, eW] at e1
          simp [sqA, eZ, eM, eW, w3, w4, w5, e1, c1, c2, c3, c4, hcv', List.idxOf_cons]
          refine hkeep _ ?_
          exact snd_obs (n := 40) [(8, 8, .frow 1 89 []), (39, 39, .pbox (eB c0))] rfl (by simp [eZ, eM, eW]) (by simp [sqA, eZ, eM, eW])
        · have hkeep : ∀ s, Snd s (sqB (.dat (.ptr (eZ x))) (eB c0) o ((m : Int) - 1)) → KN s := fun s hs => hN _ (nx (m := m) hs ⟨o, (t2 hc).1, by rw [← hpm]; rw [← hoo] at t2 hc; exact (t2 hc).2, by omega, .inr rfl⟩ (by omega))
          clear hN
          generalize oo * oo = sq at *
          simp only [eM, eW] at c1 c2 c3 c4
          have e1 := one_dg
          simp only [eM, eW] at e1
          simp [sqB, eZ, eM, eW, w3, w4, w5, e1, c1, c2, c3, c4, hcv', List.idxOf_cons]
          refine hkeep _ ?_
          exact snd_obs (n := 40) [(39, 39, .pbox (eB c0))] rfl (by simp [eZ, eM, eW]) (by simp [sqB, eZ, eM, eW])
  · simp [ngE, eZ, eM, eW, hl, w1, w2]
    refine loop_go (sqI (.obj 39 [] 0) (eZ x) x.natAbs l) (s0 := sqA (.obj 39 [] 0) (eZ x) (((16 * l + 16 : Nat) : Int) - 1)) (n := 16 * l + 16) (Snd.trans (Snd.frz _ [8]) (snd_obs (n := 40) [(8, 8, .frow 1 89 []), (39, 39, .pbox (eZ x))] rfl (by simp [St.frz, eZ, eM, eW]) (by simp [sqA, St.frz, eZ, eM, eW]; omega))) ⟨0, by omega, by simpa using h0, by omega, .inl ⟨rfl, rfl⟩⟩ ?_
    rintro n st ⟨o, a1, a2, hn, hst⟩ KN hN
    cases n with
    | zero =>
      have ho := hfin o a1 a2
      clear hN hround
      rcases hst with ⟨h1, rfl⟩ | rfl
      · have hr0 : r = 0 := by omega
        subst hr0
        have p3 : putC [.ref 0, .dat (.lit (.bool false)), .dat (eM 0)] [eZ x] = (True, [.ref 0], [eZ (0 : Nat)]) := p2 (.z x)
        simp only [eM, eW, mag_zero, List.map_nil] at p3
        simp [sqA, eM, eW, p3, List.idxOf_cons]
        exact Sub.refl _
      · subst ho
        have p3 : putC [.ref 0, .dat (.lit (.bool false)), .dat (eM o)] [eZ x] = (True, [.ref 0], [eZ (o : Nat)]) := p2 (.z x)
        simp only [eM, eW] at p3
        simp [sqB, eM, eW, p3, List.idxOf_cons]
        exact Sub.refl _
    | succ m =>
      obtain ⟨c1, c2, c3, cv, c4, hcv⟩ := hround m o a1 a2 hn
      obtain ⟨t1, t2⟩ := sq_step a1 a2
      have w3 : IntKind.u64.wrap (m : Int) = m := u64_id _ (by omega) (by omega)
      have w4 : IntKind.i64.wrap ((m : Int) - 1) = (m : Int) - 1 := i64_id _ (by omega) (by omega)
      have w5 : ((m : Int) + 1 - 1) = m := by omega
      clear hround
      obtain ⟨pm, hpm⟩ : ∃ pm, pm = 2 ^ m := ⟨_, rfl⟩
      rw [← hpm] at t1 t2 c1 c2 c3 c4 hcv
      generalize hoo : o + pm = oo at *
      by_cases hc : oo * oo ≤ x.natAbs
      · have hcv' : cv ≤ 0 := hcv.2 hc
        have hkeep : ∀ s, Snd s (sqB (.obj 39 [] 0) (eZ x) oo ((m : Int) - 1)) → KN s := fun s hs => hN _ (nx (m := m) hs ⟨oo, (t1 hc).1, by rw [← hpm]; exact (t1 hc).2, by omega, .inr rfl⟩ (by omega))
        clear hN
        generalize oo * oo = sq at *
        rcases hst with ⟨h1, rfl⟩ | rfl
        · subst h1
          have e0 : eM 0 = .sl 1 [] := by simp [eM, eW, mag_zero]
          rw [e0] at c1
          simp only [eM, eW] at c1 c2 c3 c4
          have e1 := one_dg
          simp only [eM, eW] at e1
          simp [sqA, eZ, eM, eW, w3, w4, w5, e1, c1, c2, c3, c4, hcv', List.idxOf_cons]
          refine hkeep _ ?_
          exact snd_obs (n := 40) [(39, 39, .pbox (eZ x))] rfl (by simp [eZ, eM, eW]) (by simp [sqB, eZ, eM, eW])
        · simp only [eM, eW] at c1 c2 c3 c4
          have e1 := one_dg
          simp only [eM, eW] at e1
          simp [sqB, eZ, eM, eW, w3, w4, w5, e1, c1, c2, c3, c4, hcv', List.idxOf_cons]
          refine hkeep _ ?_
          exact snd_obs (n := 40) [(39, 39, .pbox (eZ x))] rfl (by simp [eZ, eM, eW]) (by simp [sqB, eZ, eM, eW])
      · have hcv' : ¬ cv ≤ 0 := fun h => hc (hcv.1 h)
        rcases hst with ⟨h1, rfl⟩ | rfl
        · subst h1
          have hkeep : ∀ s, Snd s (sqA (.obj 39 [] 0) (eZ x) ((m : Int) - 1)) → KN s := fun s hs => hN _ (nx (m := m) hs ⟨0, (t2 hc).1, by rw [← hpm]; rw [← hoo] at t2 hc; exact (t2 hc).2, by omega, .inl ⟨rfl, rfl⟩⟩ (by omega))
          clear hN
          generalize oo * oo = sq at *
          have e0 : eM 0 = .sl 1 [] := by simp [eM, eW, mag_zero]
          rw [e0] at c1
          simp only [eM, eW] at c1 c2 c3 c4
          have e1 := one_dg
          simp only [eM, eW] at e1
          simp [sqA, eZ, eM, eW, w3, w4, w5, e1, c1, c2, c3, c4, hcv', List.idxOf_cons]
          refine hkeep _ ?_
          exact snd_obs (n := 40) [(8, 8, .frow 1 89 []), (39, 39, .pbox (eZ x))] rfl (by simp [eZ, eM, eW]) (by simp [sqA, eZ, eM, eW])
        · have hkeep : ∀ s, Snd s (sqB (.obj 39 [] 0) (eZ x) o ((m : Int) - 1)) → KN s := fun s hs => hN _ (nx (m := m) hs ⟨o, (t2 hc).1, by rw [← hpm]; rw [← hoo] at t2 hc; exact (t2 hc).2, by omega, .inr rfl⟩ (by omega))
          clear hN
          generalize oo * oo = sq at *
          simp only [eM, eW] at c1 c2 c3 c4
          have e1 := one_dg
          simp only [eM, eW] at e1
          simp [sqB, eZ, eM, eW, w3, w4, w5, e1, c1, c2, c3, c4, hcv', List.idxOf_cons]
          refine hkeep _ ?_
          exact snd_obs (n := 40) [(39, 39, .pbox (eZ x))] rfl (by simp [eZ, eM, eW]) (by simp [sqB, eZ, eM, eW])
theorem Sqrt_ok : callable Tryz.prog 53 = true := by kernel_rfl
end Go.Proofs.YtojbfdkpelldoaaGreatDoor.Ae

namespace Go.Proofs.YtojbfdkpelldoaaGreatDoor.Dig
def ln (n : Nat) : Nat := (mag n).length
theorem ln_mono {a b : Nat} (h : a ≤ b) : ln a ≤ ln b := mag_len_le h
theorem ln_iff {n k : Nat} : ln n ≤ k ↔ n < B ^ k := mag_lt
theorem ln_mul (a b : Nat) : ln (a * b) ≤ ln a + ln b := by
  have h1 := ln_iff.1 (Nat.le_refl (ln a))
  have h2 := ln_iff.1 (Nat.le_refl (ln b))
  refine ln_iff.2 ?_
  rw [Nat.pow_add]
  exact Nat.mul_lt_mul'' h1 h2
theorem ln_add (a b : Nat) : ln (a + b) ≤ max (ln a) (ln b) + 1 := by
  refine ln_iff.2 ?_
  have h1 := ln_iff.1 (Nat.le_max_left (ln a) (ln b))
  have h2 := ln_iff.1 (Nat.le_max_right (ln a) (ln b))
  rw [Nat.pow_succ]
  have h3 : B ^ max (ln a) (ln b) * 2 ≤ B ^ max (ln a) (ln b) * B := Nat.mul_le_mul_left _ (by decide)
  generalize B ^ max (ln a) (ln b) * B = z1 at *
  generalize B ^ max (ln a) (ln b) = z at *
  omega
theorem ln_one : ln 1 = 1 := by unfold ln; rw [mag_small (by decide) (by decide)]; rfl
theorem ln_pos {n : Nat} (h : 0 < n) : 1 ≤ ln n := by
  rcases Nat.eq_zero_or_pos (ln n) with h0 | h0
  · unfold ln at h0; rw [mag_len_zero] at h0; omega
  · exact h0
theorem ln_i64 {n : Nat} (h : n < 18446744073709551616) : ln n ≤ 2 := ln_iff.2 (by simp only [B]; omega)
theorem natAbs_ediv_le (n g : Int) : (n / g).natAbs ≤ n.natAbs := by
  by_cases hg : g = 0
  · subst hg; simp
  · exact Int.natAbs_ediv_le_natAbs n g
theorem num_le (n d : Int) : (Rat.divInt n d).num.natAbs ≤ n.natAbs := by
  rw [Rat.num_divInt]
  refine Nat.le_trans (natAbs_ediv_le _ _) ?_
  rw [Int.natAbs_mul]
  have : d.sign.natAbs ≤ 1 := by
    rcases Int.lt_trichotomy d 0 with h | h | h
    · rw [Int.sign_eq_neg_one_of_neg h]; decide
    · subst h; decide
    · rw [Int.sign_eq_one_of_pos h]; decide
  calc d.sign.natAbs * n.natAbs ≤ 1 * n.natAbs := Nat.mul_le_mul_right _ this
    _ = n.natAbs := Nat.one_mul _
theorem den_le {n d : Int} (h : d ≠ 0) : (Rat.divInt n d).den ≤ d.natAbs := by
  rw [Rat.den_divInt, if_neg h]
  exact Nat.div_le_self _ _
def qsz (q : Rat) : Nat := max (ln q.num.natAbs) (ln q.den)
theorem qsz_num (q : Rat) : ln q.num.natAbs ≤ qsz q := Nat.le_max_left _ _
theorem qsz_den (q : Rat) : ln q.den ≤ qsz q := Nat.le_max_right _ _
theorem qsz_pos (q : Rat) : 1 ≤ qsz q := Nat.le_trans (ln_pos q.den_pos) (qsz_den q)
theorem qsz_divInt {n d : Int} (h : d ≠ 0) : qsz (Rat.divInt n d) ≤ max (ln n.natAbs) (ln d.natAbs) :=
  Nat.max_le.2 ⟨Nat.le_trans (ln_mono (num_le n d)) (Nat.le_max_left _ _), Nat.le_trans (ln_mono (den_le h)) (Nat.le_max_right _ _)⟩
theorem dz (q : Rat) : (q.den : Int) ≠ 0 := by have := q.den_pos; omega
theorem add_divInt (a b : Rat) : a + b = Rat.divInt (a.num * b.den + b.num * a.den) (a.den * b.den) := by
  have := Rat.divInt_add_divInt a.num b.num (dz a) (dz b)
  rw [Rat.num_divInt_den, Rat.num_divInt_den] at this
  exact this
theorem mul_divInt (a b : Rat) : a * b = Rat.divInt (a.num * b.num) (a.den * b.den) := by
  have := Rat.divInt_mul_divInt a.num b.num (d₁ := a.den) (d₂ := b.den)
  rw [Rat.num_divInt_den, Rat.num_divInt_den] at this
  exact this
theorem neg_divInt (a : Rat) : -a = Rat.divInt (-a.num) a.den := by
  have h : Rat.divInt (-a).num (-a).den = -a := Rat.num_divInt_den _
  rw [Rat.neg_num, Rat.neg_den] at h
  exact h.symm
theorem inv_divInt (a : Rat) : a⁻¹ = Rat.divInt a.den a.num := Rat.inv_def a
theorem dd_ne (a b : Rat) : ((a.den : Int) * b.den) ≠ 0 := Int.mul_ne_zero (dz a) (dz b)
theorem ln_na_mul (a b : Int) : ln (a * b).natAbs ≤ ln a.natAbs + ln b.natAbs := by rw [Int.natAbs_mul]; exact ln_mul _ _
theorem ln_na_add (a b : Int) : ln (a + b).natAbs ≤ max (ln a.natAbs) (ln b.natAbs) + 1 := Nat.le_trans (ln_mono (Int.natAbs_add_le a b)) (ln_add _ _)
theorem ln_na_nat (n : Nat) : ln ((n : Int)).natAbs = ln n := by rw [Int.natAbs_natCast]
theorem add_parts (a b : Rat) : ln (a.num * b.den).natAbs ≤ qsz a + qsz b ∧ ln (b.num * a.den).natAbs ≤ qsz a + qsz b ∧ ln (a.num * b.den + b.num * a.den).natAbs ≤ qsz a + qsz b + 1 ∧ ln ((a.den : Int) * b.den).natAbs ≤ qsz a + qsz b := by
  have h1 := ln_na_mul a.num b.den
  have h2 := ln_na_mul b.num a.den
  have h3 := ln_na_add (a.num * b.den) (b.num * a.den)
  have h4 := ln_na_mul (a.den : Int) b.den
  rw [ln_na_nat] at h1 h2 h4
  rw [ln_na_nat] at h4
  have p1 := qsz_num a
  have p2 := qsz_num b
  have p3 := qsz_den a
  have p4 := qsz_den b
  omega
theorem qsz_add (a b : Rat) : qsz (a + b) ≤ qsz a + qsz b + 1 := by
  obtain ⟨h1, h2, h3, h4⟩ := add_parts a b
  have := qsz_divInt (n := a.num * b.den + b.num * a.den) (dd_ne a b)
  rw [← add_divInt] at this
  omega
theorem mul_parts (a b : Rat) : ln (a.num * b.num).natAbs ≤ qsz a + qsz b ∧ ln ((a.den : Int) * b.den).natAbs ≤ qsz a + qsz b := by
  have h1 := ln_na_mul a.num b.num
  have h4 := ln_na_mul (a.den : Int) b.den
  rw [ln_na_nat, ln_na_nat] at h4
  have p1 := qsz_num a
  have p2 := qsz_num b
  have p3 := qsz_den a
  have p4 := qsz_den b
  omega
theorem qsz_mul (a b : Rat) : qsz (a * b) ≤ qsz a + qsz b := by
  obtain ⟨h1, h2⟩ := mul_parts a b
  have := qsz_divInt (n := a.num * b.num) (dd_ne a b)
  rw [← mul_divInt] at this
  omega
theorem qsz_neg (a : Rat) : qsz (-a) = qsz a := by
  unfold qsz
  rw [Rat.neg_num, Rat.neg_den, Int.natAbs_neg]
theorem qsz_sub (a b : Rat) : qsz (a - b) ≤ qsz a + qsz b + 1 := by
  rw [Rat.sub_eq_add_neg]
  have := qsz_add a (-b)
  rw [qsz_neg] at this
  exact this
theorem num_ne {a : Rat} (h : a ≠ 0) : a.num ≠ 0 := fun h' => h (by rw [← Rat.num_divInt_den a, h']; exact Rat.zero_divInt _)
theorem qsz_inv {a : Rat} (h : a ≠ 0) : qsz a⁻¹ ≤ qsz a := by
  rw [inv_divInt]
  have := qsz_divInt (n := a.den) (num_ne h)
  rw [ln_na_nat] at this
  have p1 := qsz_num a
  have p3 := qsz_den a
  omega
theorem low_pos {a b : Int} (h : 0 < b) : Int.tdiv a (Int.gcd a b) = (Rat.divInt a b).num ∧ Int.tdiv b (Int.gcd a b) = (Rat.divInt a b).den := by
  rw [Rat.num_divInt, Rat.den_divInt, if_neg (by omega), Int.sign_eq_one_of_pos h, Int.one_mul, Int.gcd_comm b a]
  have h1 : (Int.gcd a b : Int) ∣ a := Int.gcd_dvd_left ..
  have h2 : (Int.gcd a b : Int) ∣ b := Int.gcd_dvd_right ..
  refine ⟨Int.tdiv_eq_ediv_of_dvd h1, ?_⟩
  rw [Int.tdiv_eq_ediv_of_dvd h2]
  obtain ⟨m, rfl⟩ : ∃ m : Nat, b = m := ⟨b.natAbs, by omega⟩
  rw [Int.natAbs_natCast, Int.natCast_ediv]
theorem low_neg {a b : Int} (h : b < 0) : Int.tdiv a (-(Int.gcd a b : Int)) = (Rat.divInt a b).num ∧ Int.tdiv b (-(Int.gcd a b : Int)) = (Rat.divInt a b).den := by
  rw [Rat.num_divInt, Rat.den_divInt, if_neg (by omega), Int.sign_eq_neg_one_of_neg h, Int.gcd_comm b a, Int.tdiv_neg, Int.tdiv_neg]
  have h1 : (Int.gcd a b : Int) ∣ a := Int.gcd_dvd_left ..
  have h2 : (Int.gcd a b : Int) ∣ b := Int.gcd_dvd_right ..
  rw [Int.tdiv_eq_ediv_of_dvd h1, Int.tdiv_eq_ediv_of_dvd h2]
  constructor
  · rw [Int.neg_one_mul, Int.neg_ediv_of_dvd h1]
  · obtain ⟨m, rfl⟩ : ∃ m : Nat, b = -(m : Int) := ⟨b.natAbs, by omega⟩
    rw [Int.natAbs_neg, Int.natAbs_natCast, Int.natCast_ediv]
    have h3 : (Int.gcd a (-(m : Int)) : Int) ∣ (m : Int) := by rw [Int.gcd_neg]; exact Int.gcd_dvd_right ..
    rw [Int.neg_ediv_of_dvd h3, Int.neg_neg]
end Go.Proofs.YtojbfdkpelldoaaGreatDoor.Dig

namespace Go.Proofs.YtojbfdkpelldoaaGreatDoor.Ae
open Go Go.RowKit Go.Proofs.YtojbfdkpelldoaaGreatDoor.Dig
variable {N : NR}
def eBR (q : Rat) : D := .agg [eZ q.num, eZ q.den]
def eBN : D := .agg [eB .new, eB .new]
@[simp] theorem eBR_size (q : Rat) : (eBR q).size = 4 := rfl
@[simp] theorem eBR_agg (q : Rat) : (eBR q).isAgg = true := rfl
@[simp] theorem eBR_lit (q : Rat) : (eBR q).isLit = false := rfl
theorem eBR_inj {a b : Rat} (h : eBR a = eBR b) : a = b := by
  simp only [eBR, D.agg.injEq, List.cons.injEq, and_true] at h
  have h2 := eZ_inj h.2
  exact Rat.ext (eZ_inj h.1) (by omega)
def MX : Nat := 549755813888
theorem SZ_ln {a : Int} : SZ a ↔ ln a.natAbs < 1099511627776 := Iff.rfl
structure ZZ where
  a : Int
  b : Int
def sfE (p : ZZ) : List Ar × List D := ([.ref 0, .dat (.ptr (eZ p.a)), .dat (.ptr (eZ p.b))], [eBN])
theorem sfE_inj (p q : ZZ) (h : sfE p = sfE q) : p = q := by
  obtain ⟨a, b⟩ := p; obtain ⟨a', b'⟩ := q
  simp only [sfE, Prod.mk.injEq, List.cons.injEq, and_true, true_and, Ar.dat.injEq, D.ptr.injEq] at h
  rw [eZ_inj h.1, eZ_inj h.2]
noncomputable def sfC := ctM sfE (fun p => SZ p.a ∧ SZ p.b ∧ p.b ≠ 0) (fun p => ([.ref 0], [eBR (Rat.divInt p.a p.b)]))
theorem sfC_at (a b : Int) : sfC [.ref 0, .dat (.ptr (eZ a)), .dat (.ptr (eZ b))] [eBN] = ((SZ a ∧ SZ b ∧ b ≠ 0), [.ref 0], [eBR (Rat.divInt a b)]) := ctM_at sfE_inj ⟨a, b⟩
noncomputable def sfTb : List (FuncId × Ct) := [(114, .mut [true, false, false] igC), (97, .data sgDC), (99, .mut [true, false] ngC), (115, .mut [true, false, false] quC)]
theorem sfTb_ok : TbOK N Tryz.prog (tbl sfTb) := tbl_cons (c := .mut [true, false, false] igC) GCD_spec GCD_ok (tbl_cons (c := .data sgDC) SignD_spec Sign_ok (tbl_cons (c := .mut [true, false] ngC) Neg_spec Neg_ok (tbl_cons (c := .mut [true, false, false] quC) Quo_spec Quo_ok tbl_nil)))
@[simp] theorem sfTb1 : tbl sfTb 114 = some (.mut [true, false, false] igC) := rfl
@[simp] theorem sfTb2 : tbl sfTb 97 = some (.data sgDC) := rfl
@[simp] theorem sfTb3 : tbl sfTb 99 = some (.mut [true, false] ngC) := rfl
@[simp] theorem sfTb4 : tbl sfTb 115 = some (.mut [true, false, false] quC) := rfl
theorem SZ_gcd {a b : Int} (hb : SZ b) (h0 : b ≠ 0) : SZ (Int.gcd a b) := by
  refine SZ_le ?_ hb
  rw [Int.natAbs_natCast]
  exact Nat.le_of_dvd (by omega) (Nat.gcd_dvd_right _ _)
set_option maxHeartbeats 4000000 in
theorem SetFrac_spec : SpecM N Tryz.prog 98 sfC := by
  refine rdM (mf := fun f => f == 114 || f == 99 || f == 115) sfTb_ok (fn := Tryz.f98) (by kernel_rfl) rfl (by kernel_rfl) ?_
  rintro ⟨a, b⟩ ⟨ha, hb, h0⟩
  have ha : SZ a := ha
  have hb : SZ b := hb
  have h0 : b ≠ 0 := h0
  refine ⟨by show 3 ≤ 41; decide, rfl, ?_⟩
  simp only [sfE, Tryz.f98, eBN, eBR]
  have hg := SZ_gcd (a := a) hb h0
  have hg0 : Int.gcd a b ≠ 0 := fun h => h0 (Int.gcd_eq_zero_iff.1 h).2
  have c1 := igC_at a b .new
  have c2 := sgDC_at b
  have c3 := ngC_r (Int.gcd a b)
  simp only [ha, hb, hg, and_self, eB_new, i64D] at c1 c2 c3
  by_cases hn : b < 0
  · obtain ⟨e1, e2⟩ := low_neg (a := a) hn
    have c4 := quC_at a (-(Int.gcd a b : Int)) .new
    have c5 := quC_at b (-(Int.gcd a b : Int)) .new
    have hx : -(Int.gcd a b : Int) ≠ 0 := by omega
    rw [Int.sign_eq_neg_one_of_neg hn] at c2
    simp only [ha, hb, SZ_neg, hg, hx, ne_eq, not_false_eq_true, and_self, eB_new, e1, e2] at c4 c5
    generalize (Int.gcd a b : Int) = g at *
    simp [c1, c2, c3, c4, c5, List.idxOf_cons, eB_new]
  · obtain ⟨e1, e2⟩ := low_pos (a := a) (b := b) (by omega)
    have c4 := quC_at a (Int.gcd a b : Int) .new
    have c5 := quC_at b (Int.gcd a b : Int) .new
    have hx : (Int.gcd a b : Int) ≠ 0 := by omega
    rw [Int.sign_eq_one_of_pos (by omega)] at c2
    simp only [ha, hb, hg, hx, ne_eq, not_false_eq_true, and_self, eB_new, e1, e2] at c4 c5
    generalize (Int.gcd a b : Int) = g at *
    simp [c1, c2, c3, c4, c5, List.idxOf_cons, eB_new]
theorem SetFrac_ok : callable Tryz.prog 98 = true := by kernel_rfl
structure Q1 where
  a : Rat
def pbE (p : Q1) : List D := [.ptr (eBR p.a)]
theorem pbE_inj (p q : Q1) (h : pbE p = pbE q) : p = q := by
  obtain ⟨a⟩ := p; obtain ⟨b⟩ := q
  simp only [pbE, List.cons.injEq, and_true, D.ptr.injEq] at h
  rw [eBR_inj h]
noncomputable def numC := ctD pbE (fun p => qsz p.a < 1099511627776) (fun p => [.ptr (eZ p.a.num)])
theorem numC_at (a : Rat) : numC [.ptr (eBR a)] = (qsz a < 1099511627776, [.ptr (eZ a.num)]) := ctD_at pbE_inj ⟨a⟩
noncomputable def denC := ctD pbE (fun p => qsz p.a < 1099511627776) (fun p => [.ptr (eZ p.a.den)])
theorem denC_at (a : Rat) : denC [.ptr (eBR a)] = (qsz a < 1099511627776, [.ptr (eZ a.den)]) := ctD_at pbE_inj ⟨a⟩
noncomputable def bsgC := ctD pbE (fun p => True) (fun p => [i64D p.a.num.sign])
theorem bsgC_at (a : Rat) : bsgC [.ptr (eBR a)] = (True, [i64D a.num.sign]) := ctD_at pbE_inj ⟨a⟩
theorem SZ_num {q : Rat} (h : qsz q < 1099511627776) : SZ q.num := Nat.lt_of_le_of_lt (qsz_num q) h
theorem SZ_den {q : Rat} (h : qsz q < 1099511627776) : SZ (q.den : Int) := by
  have := qsz_den q
  rw [SZ_ln, Int.natAbs_natCast]
  omega
noncomputable def ndTb : List (FuncId × Ct) := [(107, .mut [true, false] copyC), (97, .data sgDC), (108, .data newC)]
theorem ndTb_ok : TbOK N Tryz.prog (tbl ndTb) := tbl_cons (c := .mut [true, false] copyC) Set_spec Set_ok (tbl_cons (c := .data sgDC) SignD_spec Sign_ok (tbl_cons (c := .data newC) newBigInt_spec newBigInt_ok tbl_nil))
@[simp] theorem ndTb1 : tbl ndTb 107 = some (.mut [true, false] copyC) := rfl
@[simp] theorem ndTb2 : tbl ndTb 97 = some (.data sgDC) := rfl
@[simp] theorem ndTb3 : tbl ndTb 108 = some (.data newC) := rfl
theorem Num_spec : SpecD N Tryz.prog 77 numC := by
  refine rdD (mf := fun f => f == 107) ndTb_ok (fn := Tryz.f77) (by kernel_rfl) rfl (by kernel_rfl) ?_
  rintro ⟨a⟩ ha
  have ha : qsz a < 1099511627776 := ha
  refine ⟨by show 1 ≤ 8; decide, ?_⟩
  simp only [pbE, Tryz.f77, eBR]
  have c1 := copyC_n a.num
  simp only [SZ_num ha] at c1
  simp [c1]
theorem Num_ok : callable Tryz.prog 77 = true := by kernel_rfl
theorem Denom_spec : SpecD N Tryz.prog 78 denC := by
  refine rdD (mf := fun f => f == 107) ndTb_ok (fn := Tryz.f78) (by kernel_rfl) rfl (by kernel_rfl) ?_
  rintro ⟨a⟩ ha
  have ha : qsz a < 1099511627776 := ha
  refine ⟨by show 1 ≤ 14; decide, ?_⟩
  simp only [pbE, Tryz.f78, eBR]
  have c1 := copyC_n a.den
  have c2 := sgDC_at a.den
  have hd := a.den_pos
  rw [Int.sign_eq_one_of_pos (by omega)] at c2
  simp only [SZ_den ha, i64D] at c1 c2
  simp [c1, c2]
theorem Denom_ok : callable Tryz.prog 78 = true := by kernel_rfl
theorem RSign_spec : SpecD N Tryz.prog 68 bsgC := by
  refine rdD (mf := fun f => false) ndTb_ok (fn := Tryz.f68) (by kernel_rfl) rfl (by kernel_rfl) ?_
  rintro ⟨a⟩ _
  refine ⟨by show 1 ≤ 7; decide, ?_⟩
  simp only [pbE, Tryz.f68, eBR]
  have c2 := sgDC_at a.num
  simp only [i64D] at c2 ⊢
  simp [c2]
theorem RSign_ok : callable Tryz.prog 68 = true := by kernel_rfl
end Go.Proofs.YtojbfdkpelldoaaGreatDoor.Ae

namespace Go.Proofs.YtojbfdkpelldoaaGreatDoor.Ae
open Go Go.RowKit Go.Proofs.YtojbfdkpelldoaaGreatDoor.Dig
variable {N : NR}
def q1E (p : Q1) : List Ar × List D := ([.ref 0, .dat (.ptr (eBR p.a))], [eBN])
theorem q1E_inj (p q : Q1) (h : q1E p = q1E q) : p = q := by
  obtain ⟨a⟩ := p; obtain ⟨b⟩ := q
  simp only [q1E, Prod.mk.injEq, List.cons.injEq, and_true, true_and, Ar.dat.injEq, D.ptr.injEq] at h
  rw [eBR_inj h]
structure Q2 where
  a : Rat
  b : Rat
def q2E (p : Q2) : List Ar × List D := ([.ref 0, .dat (.ptr (eBR p.a)), .dat (.ptr (eBR p.b))], [eBN])
theorem q2E_inj (p q : Q2) (h : q2E p = q2E q) : p = q := by
  obtain ⟨a, b⟩ := p; obtain ⟨c, d⟩ := q
  simp only [q2E, Prod.mk.injEq, List.cons.injEq, and_true, true_and, Ar.dat.injEq, D.ptr.injEq] at h
  rw [eBR_inj h.1, eBR_inj h.2]
noncomputable def brTb : List (FuncId × Ct) := [(98, .mut [true, false, false] sfC), (77, .data numC), (78, .data denC), (99, .mut [true, false] ngC), (104, .mut [true, false, false] iMulC), (105, .mut [true, false, false] iAddC), (108, .data newC)]
theorem brTb_ok : TbOK N Tryz.prog (tbl brTb) := tbl_cons (c := .mut [true, false, false] sfC) SetFrac_spec SetFrac_ok (tbl_cons (c := .data numC) Num_spec Num_ok (tbl_cons (c := .data denC) Denom_spec Denom_ok (tbl_cons (c := .mut [true, false] ngC) Neg_spec Neg_ok (tbl_cons (c := .mut [true, false, false] iMulC) Mul_spec Mul_ok (tbl_cons (c := .mut [true, false, false] iAddC) Add_spec Add_ok (tbl_cons (c := .data newC) newBigInt_spec newBigInt_ok tbl_nil))))))
@[simp] theorem brTb1 : tbl brTb 98 = some (.mut [true, false, false] sfC) := rfl
@[simp] theorem brTb2 : tbl brTb 77 = some (.data numC) := rfl
@[simp] theorem brTb3 : tbl brTb 78 = some (.data denC) := rfl
@[simp] theorem brTb4 : tbl brTb 99 = some (.mut [true, false] ngC) := rfl
@[simp] theorem brTb5 : tbl brTb 104 = some (.mut [true, false, false] iMulC) := rfl
@[simp] theorem brTb6 : tbl brTb 105 = some (.mut [true, false, false] iAddC) := rfl
@[simp] theorem brTb7 : tbl brTb 108 = some (.data newC) := rfl
def brMf : FuncId → Bool := fun f => f == 98 || f == 99 || f == 104 || f == 105 || f == 99999999
attribute [simp] brMf
@[simp] theorem eBN_size : eBN.size = 4 := rfl
@[simp] theorem eBN_agg : eBN.isAgg = true := rfl
theorem eBN_eq : eBN = .agg [.agg [.lit (.bool false), .lit (.slice none 0 0)], .agg [.lit (.bool false), .lit (.slice none 0 0)]] := rfl
theorem sfC_n (a b : Int) : sfC [.ref 0, .dat (.ptr (eZ a)), .dat (.ptr (eZ b))] [.agg [.agg [.lit (.bool false), .lit (.slice none 0 0)], .agg [.lit (.bool false), .lit (.slice none 0 0)]]] = ((SZ a ∧ SZ b ∧ b ≠ 0), [.ref 0], [eBR (Rat.divInt a b)]) := sfC_at a b
theorem iMulC_n (x y : Int) : iMulC [.ref 0, .dat (.ptr (eZ x)), .dat (.ptr (eZ y))] [.agg [.lit (.bool false), .lit (.slice none 0 0)]] = ((SZ x ∧ SZ y), [.ref 0], [eZ (x * y)]) := iMulC_dd x y .new
noncomputable def bNegC := ctM q1E (fun p => qsz p.a < MX) (fun p => ([.ref 0], [eBR (-p.a)]))
theorem bNegC_at (a : Rat) : bNegC [.ref 0, .dat (.ptr (eBR a))] [eBN] = (qsz a < MX, [.ref 0], [eBR (-a)]) := ctM_at q1E_inj ⟨a⟩
theorem RNeg_spec : SpecM N Tryz.prog 69 bNegC := by
  refine rdM (mf := brMf) brTb_ok (fn := Tryz.f69) (by kernel_rfl) rfl (by kernel_rfl) ?_
  rintro ⟨a⟩ ha
  have ha : qsz a < MX := ha
  unfold MX at ha
  have ha' : qsz a < 1099511627776 := by omega
  refine ⟨by show 2 ≤ 14; decide, rfl, ?_⟩
  have c1 := ngC_n a.num
  have c2 := denC_at a
  have c3 := sfC_at (-a.num) a.den
  rw [← neg_divInt] at c3
  simp only [q1E, Tryz.f69]
  have hd := dz a
  simp only [SZ_num ha', SZ_den ha', SZ_neg, ha', hd, ne_eq, not_false_eq_true, and_self] at c1 c2 c3
  generalize eBR (-a) = r at *
  simp only [eBR] at c2 ⊢
  simp [c1, c2, c3]
theorem RNeg_ok : callable Tryz.prog 69 = true := by kernel_rfl
noncomputable def bInvC := ctM q1E (fun p => qsz p.a < MX ∧ p.a ≠ 0) (fun p => ([.ref 0], [eBR p.a⁻¹]))
theorem bInvC_at (a : Rat) : bInvC [.ref 0, .dat (.ptr (eBR a))] [eBN] = ((qsz a < MX ∧ a ≠ 0), [.ref 0], [eBR a⁻¹]) := ctM_at q1E_inj ⟨a⟩
theorem RInv_spec : SpecM N Tryz.prog 110 bInvC := by
  refine rdM (mf := brMf) brTb_ok (fn := Tryz.f110) (by kernel_rfl) rfl (by kernel_rfl) ?_
  rintro ⟨a⟩ ⟨ha, h0⟩
  have ha : qsz a < MX := ha
  have h0 : a ≠ 0 := h0
  unfold MX at ha
  have ha' : qsz a < 1099511627776 := by omega
  refine ⟨by show 2 ≤ 11; decide, rfl, ?_⟩
  have c1 := numC_at a
  have c2 := denC_at a
  have c3 := sfC_at a.den a.num
  rw [← inv_divInt] at c3
  simp only [q1E, Tryz.f110]
  have hd := num_ne h0
  simp only [SZ_num ha', SZ_den ha', ha', hd, ne_eq, not_false_eq_true, and_self] at c1 c2 c3
  simp [c1, c2, c3]
theorem RInv_ok : callable Tryz.prog 110 = true := by kernel_rfl
noncomputable def bMulC := ctM q2E (fun p => qsz p.a + qsz p.b < MX) (fun p => ([.ref 0], [eBR (p.a * p.b)]))
theorem bMulC_at (a b : Rat) : bMulC [.ref 0, .dat (.ptr (eBR a)), .dat (.ptr (eBR b))] [eBN] = (qsz a + qsz b < MX, [.ref 0], [eBR (a * b)]) := ctM_at q2E_inj ⟨a, b⟩
theorem RMul_spec : SpecM N Tryz.prog 74 bMulC := by
  refine rdM (mf := brMf) brTb_ok (fn := Tryz.f74) (by kernel_rfl) rfl (by kernel_rfl) ?_
  rintro ⟨a, b⟩ ha
  have ha : qsz a + qsz b < MX := ha
  unfold MX at ha
  have ha' : qsz a < 1099511627776 := by omega
  have hb' : qsz b < 1099511627776 := by omega
  obtain ⟨m1, m2⟩ := mul_parts a b
  have s1 : SZ (a.num * b.num) := by rw [SZ_ln]; omega
  have s2 : SZ ((a.den : Int) * b.den) := by rw [SZ_ln]; omega
  refine ⟨by show 3 ≤ 23; decide, rfl, ?_⟩
  have c1 := iMulC_n a.num b.num
  have c2 := denC_at a
  have c3 := denC_at b
  have c4 := iMulC_n a.den b.den
  have c5 := sfC_at (a.num * b.num) ((a.den : Int) * b.den)
  rw [← mul_divInt] at c5
  simp only [q2E, Tryz.f74]
  have hd := dd_ne a b
  simp only [SZ_num ha', SZ_num hb', SZ_den ha', SZ_den hb', s1, s2, ha', hb', hd, ne_eq, not_false_eq_true, and_self] at c1 c2 c3 c4 c5
  generalize eBR (a * b) = r at *
  generalize a.num * b.num = x at *
  generalize (a.den : Int) * b.den = y at *
  simp only [eBR] at c2 c3 ⊢
  simp [c1, c2, c3, c4, c5]
theorem RMul_ok : callable Tryz.prog 74 = true := by kernel_rfl
noncomputable def bAddC := ctM q2E (fun p => qsz p.a + qsz p.b < MX) (fun p => ([.ref 0], [eBR (p.a + p.b)]))
theorem bAddC_at (a b : Rat) : bAddC [.ref 0, .dat (.ptr (eBR a)), .dat (.ptr (eBR b))] [eBN] = (qsz a + qsz b < MX, [.ref 0], [eBR (a + b)]) := ctM_at q2E_inj ⟨a, b⟩
theorem RAdd_spec : SpecM N Tryz.prog 75 bAddC := by
  refine rdM (mf := brMf) brTb_ok (fn := Tryz.f75) (by kernel_rfl) rfl (by kernel_rfl) ?_
  rintro ⟨a, b⟩ ha
  have ha : qsz a + qsz b < MX := ha
  unfold MX at ha
  have ha' : qsz a < 1099511627776 := by omega
  have hb' : qsz b < 1099511627776 := by omega
  obtain ⟨m1, m2, m3, m4⟩ := add_parts a b
  have s1 : SZ (a.num * b.den) := by rw [SZ_ln]; omega
  have s2 : SZ (b.num * a.den) := by rw [SZ_ln]; omega
  have s3 : SZ (a.num * b.den + b.num * a.den) := by rw [SZ_ln]; omega
  have s4 : SZ ((a.den : Int) * b.den) := by rw [SZ_ln]; omega
  refine ⟨by show 3 ≤ 35; decide, rfl, ?_⟩
  have c1 := iMulC_n a.num b.den
  have c2 := denC_at a
  have c3 := denC_at b
  have c4 := iMulC_n b.num a.den
  have c6 := iAddC_zd (a.num * b.den) (b.num * a.den)
  have c7 := iMulC_n a.den b.den
  have c5 := sfC_at (a.num * b.den + b.num * a.den) ((a.den : Int) * b.den)
  rw [← add_divInt] at c5
  simp only [q2E, Tryz.f75]
  have hd := dd_ne a b
  simp only [SZ_num ha', SZ_num hb', SZ_den ha', SZ_den hb', s1, s2, s3, s4, ha', hb', hd, ne_eq, not_false_eq_true, and_self] at c1 c2 c3 c4 c5 c6 c7
  generalize eBR (a + b) = r at *
  generalize a.num * b.den + b.num * a.den = z at *
  generalize a.num * b.den = x at *
  generalize b.num * a.den = x2 at *
  generalize (a.den : Int) * b.den = y at *
  simp only [eBR] at c2 c3 ⊢
  simp [c1, c2, c3, c4, c5, c6, c7]
theorem RAdd_ok : callable Tryz.prog 75 = true := by kernel_rfl
noncomputable def bSubC := ctM q2E (fun p => qsz p.a + qsz p.b < MX) (fun p => ([.ref 0], [eBR (p.a - p.b)]))
theorem bSubC_at (a b : Rat) : bSubC [.ref 0, .dat (.ptr (eBR a)), .dat (.ptr (eBR b))] [eBN] = (qsz a + qsz b < MX, [.ref 0], [eBR (a - b)]) := ctM_at q2E_inj ⟨a, b⟩
noncomputable def bsTb : List (FuncId × Ct) := [(69, .mut [true, false] bNegC), (75, .mut [true, false, false] bAddC)]
theorem bsTb_ok : TbOK N Tryz.prog (tbl bsTb) := tbl_cons (c := .mut [true, false] bNegC) RNeg_spec RNeg_ok (tbl_cons (c := .mut [true, false, false] bAddC) RAdd_spec RAdd_ok tbl_nil)
@[simp] theorem bsTb1 : tbl bsTb 69 = some (.mut [true, false] bNegC) := rfl
@[simp] theorem bsTb2 : tbl bsTb 75 = some (.mut [true, false, false] bAddC) := rfl
theorem RSub_spec : SpecM N Tryz.prog 66 bSubC := by
  refine rdM (mf := fun f => f == 69 || f == 75) bsTb_ok (fn := Tryz.f66) (by kernel_rfl) rfl (by kernel_rfl) ?_
  rintro ⟨a, b⟩ ha
  have ha : qsz a + qsz b < MX := ha
  have hb : qsz b < MX := by omega
  refine ⟨by show 3 ≤ 13; decide, rfl, ?_⟩
  have c1 := bNegC_at b
  have c2 := bAddC_at a (-b)
  rw [← Rat.sub_eq_add_neg, qsz_neg] at c2
  simp only [ha, hb, eBN_eq] at c1 c2
  simp only [q2E, Tryz.f66, eBN_eq]
  simp [c1, c2]
theorem RSub_ok : callable Tryz.prog 66 = true := by kernel_rfl
def siE (p : Z1) : List Ar × List D := ([.ref 0, .dat (.ptr (eZ p.a))], [eBN])
theorem siE_inj (p q : Z1) (h : siE p = siE q) : p = q := by
  obtain ⟨a⟩ := p; obtain ⟨b⟩ := q
  simp only [siE, Prod.mk.injEq, List.cons.injEq, and_true, true_and, Ar.dat.injEq, D.ptr.injEq] at h
  rw [eZ_inj h]
noncomputable def siC := ctM siE (fun p => SZ p.a) (fun p => ([.ref 0], [eBR (p.a : Rat)]))
theorem siC_at (a : Int) : siC [.ref 0, .dat (.ptr (eZ a))] [eBN] = (SZ a, [.ref 0], [eBR (a : Rat)]) := ctM_at siE_inj ⟨a⟩
theorem SetInt_spec : SpecM N Tryz.prog 79 siC := by
  refine rdM (mf := brMf) brTb_ok (fn := Tryz.f79) (by kernel_rfl) rfl (by kernel_rfl) ?_
  rintro ⟨a⟩ ha
  have ha : SZ a := ha
  refine ⟨by show 2 ≤ 9; decide, rfl, ?_⟩
  have c1 := newC_at 1
  have c2 := sfC_at a 1
  have h1 : I64 1 := by unfold I64; omega
  have h2 := SZ_I64 h1
  have e : Rat.divInt a 1 = (a : Rat) := by rw [Rat.divInt_eq_div]; grind
  rw [e] at c2
  simp only [ha, h1, h2, i64D, and_self] at c1 c2
  simp only [siE, Tryz.f79]
  simp at c2
  simp [c1, c2]
theorem SetInt_ok : callable Tryz.prog 79 = true := by kernel_rfl
noncomputable def nbrC := ctD iiE (fun p => I64 p.a ∧ I64 p.b ∧ p.b ≠ 0) (fun p => [.ptr (eBR (Rat.divInt p.a p.b))])
theorem nbrC_at (a b : Int) : nbrC [i64D a, i64D b] = ((I64 a ∧ I64 b ∧ b ≠ 0), [.ptr (eBR (Rat.divInt a b))]) := ctD_at iiE_inj ⟨a, b⟩
theorem newBigRat_spec : SpecD N Tryz.prog 96 nbrC := by
  refine rdD (mf := brMf) brTb_ok (fn := Tryz.f96) (by kernel_rfl) rfl (by kernel_rfl) ?_
  rintro ⟨a, b⟩ ⟨ha, hb, h0⟩
  have ha : I64 a := ha
  have hb : I64 b := hb
  have h0 : b ≠ 0 := h0
  refine ⟨by show 2 ≤ 11; decide, ?_⟩
  have c1 := newC_at a
  have c2 := newC_at b
  have c3 := sfC_n a b
  simp only [ha, hb, h0, SZ_I64 ha, SZ_I64 hb, i64D, and_self, ne_eq, not_false_eq_true] at c1 c2 c3
  simp only [iiE, i64D, Tryz.f96]
  simp [c1, c2, c3]
theorem newBigRat_ok : callable Tryz.prog 96 = true := by kernel_rfl
end Go.Proofs.YtojbfdkpelldoaaGreatDoor.Ae

namespace Go.Proofs.YtojbfdkpelldoaaGreatDoor.Ae
open Go Go.RowKit Go.Proofs.YtojbfdkpelldoaaGreatDoor.Dig
def SR.val (r : SR) : Rat := Rat.divInt r.num r.den
def WV (r : SR) : Prop := WR r ∧ ∀ p q, r = .big p q → Int.gcd p q = 1
theorem WR_den {r : SR} (h : WR r) : 0 < r.den := (WR_SZ h).2.2
theorem low_div {n d : Int} (h : 0 < d) : n / (Int.gcd n d : Int) = (Rat.divInt n d).num ∧ d / (Int.gcd n d : Int) = (Rat.divInt n d).den := by
  obtain ⟨e1, e2⟩ := low_pos (a := n) h
  have h1 : (Int.gcd n d : Int) ∣ n := Int.gcd_dvd_left ..
  have h2 : (Int.gcd n d : Int) ∣ d := Int.gcd_dvd_right ..
  rw [Int.tdiv_eq_ediv_of_dvd h1] at e1
  rw [Int.tdiv_eq_ediv_of_dvd h2] at e2
  exact ⟨e1, e2⟩
theorem low_k {n d : Int} (h : 0 < d) : ∃ k : Int, 0 < k ∧ n = k * (Rat.divInt n d).num ∧ d = k * (Rat.divInt n d).den := by
  obtain ⟨e1, e2⟩ := low_div (n := n) h
  refine ⟨Int.gcd n d, ?_, ?_, ?_⟩
  · have : Int.gcd n d ≠ 0 := fun h0 => by have := (Int.gcd_eq_zero_iff.1 h0).2; omega
    omega
  · rw [← e1, Int.mul_ediv_cancel' (Int.gcd_dvd_left ..)]
  · rw [← e2, Int.mul_ediv_cancel' (Int.gcd_dvd_right ..)]
theorem val_k {r : SR} (h : WR r) : ∃ k : Int, 0 < k ∧ r.num = k * r.val.num ∧ r.den = k * r.val.den := low_k (WR_den h)
theorem gcd_red (q : Rat) : Int.gcd q.num q.den = 1 := q.reduced
theorem packR_ok {p q : Int} (h0 : 0 < q) (hp : SZ p) (hq : SZ q) (hg : Int.gcd p q = 1) : WV (packR p q) ∧ (packR p q).val = Rat.divInt p q := by
  unfold packR
  split
  · rename_i h
    exact ⟨⟨⟨by omega, h0, by omega⟩, fun _ _ e => by cases e⟩, rfl⟩
  · exact ⟨⟨⟨hp, hq, h0⟩, fun _ _ e => by cases e; exact hg⟩, rfl⟩
theorem packR_low {n d : Int} (h : 0 < d) (hn : SZ n) (hd : SZ d) : WV (packR (n / (Int.gcd n d : Int)) (d / (Int.gcd n d : Int))) ∧ (packR (n / (Int.gcd n d : Int)) (d / (Int.gcd n d : Int))).val = Rat.divInt n d := by
  obtain ⟨e1, e2⟩ := low_div (n := n) h
  rw [e1, e2]
  have h1 := packR_ok (p := (Rat.divInt n d).num) (q := (Rat.divInt n d).den) (by have := (Rat.divInt n d).den_pos; omega) (SZ_le (num_le n d) hn) (SZ_le (by rw [Int.natAbs_natCast]; exact den_le (by omega)) hd) (gcd_red _)
  rw [Rat.num_divInt_den] at h1
  exact h1
theorem ofR_ok {n d : Int} (h0 : 0 < d) (hn : I64 n) (hd : I64 d) : WV (ofR n d) ∧ (ofR n d).val = Rat.divInt n d := by
  unfold ofR
  split
  · rename_i h
    exact ⟨⟨⟨by omega, h0, by omega⟩, fun _ _ e => by cases e⟩, rfl⟩
  · exact packR_low h0 (SZ_I64 hn) (SZ_I64 hd)
theorem bigR_ok {n d : Int} (h0 : d ≠ 0) (hn : SZ n) (hd : SZ d) : WV (bigR n d) ∧ (bigR n d).val = Rat.divInt n d := by
  unfold bigR
  split
  · rename_i h
    subst h
    refine ⟨⟨⟨by decide, by decide, by decide⟩, fun _ _ e => by cases e⟩, ?_⟩
    show Rat.divInt 0 1 = _
    rw [Rat.zero_divInt, Rat.zero_divInt]
  · split
    · rename_i h
      have e : Int.gcd n d = Int.gcd (-n) (-d) := by rw [Int.neg_gcd, Int.gcd_neg]
      rw [e]
      have := packR_low (n := -n) (d := -d) (by omega) (SZ_neg.2 hn) (SZ_neg.2 hd)
      rw [Rat.neg_divInt_neg] at this
      exact this
    · exact packR_low (by omega) hn hd
theorem rep_sz {r : SR} (h : WV r) : ln r.num.natAbs ≤ qsz r.val ∧ ln r.den.natAbs ≤ qsz r.val := by
  have h1 := qsz_pos r.val
  have one : ∀ x : Nat, x < 2147483648 → ln x ≤ 1 := fun x hx => ln_iff.2 (by simp only [B]; omega)
  cases r with
  | small n d =>
    obtain ⟨⟨x1, x2, x3⟩, _⟩ := h
    have a1 : ln (SR.small n d).num.natAbs ≤ 1 := one _ x1
    have a2 : ln (SR.small n d).den.natAbs ≤ 1 := one _ (by show d.natAbs < _; omega)
    omega
  | lit n d =>
    obtain ⟨⟨x1, x2, x3⟩, _⟩ := h
    have a1 : ln (SR.lit n d).num.natAbs ≤ 1 := one _ x1
    have a2 : ln (SR.lit n d).den.natAbs ≤ 1 := one _ (by show d.natAbs < _; omega)
    omega
  | big p q =>
    obtain ⟨⟨x1, x2, x3⟩, hg⟩ := h
    have hg := hg p q rfl
    obtain ⟨e1, e2⟩ := low_div (n := p) x3
    rw [hg] at e1 e2
    simp at e1 e2
    have v1 : (SR.big p q).val = Rat.divInt p q := rfl
    have v2 : (SR.big p q).num = p := rfl
    have v3 : (SR.big p q).den = q := rfl
    rw [v1, v2, v3]
    have p1 := qsz_num (Rat.divInt p q)
    have p2 := qsz_den (Rat.divInt p q)
    rw [← e1] at p1
    refine ⟨p1, ?_⟩
    rw [show q.natAbs = (Rat.divInt p q).den by omega]
    exact p2
theorem neg_val (r : SR) : (negR r).val = -r.val := by
  unfold SR.val
  rw [negR_num, negR_den, Rat.neg_divInt]
theorem neg_WV {r : SR} (h : WV r) : WV (negR r) := by
  refine ⟨negR_WR h.1, fun p q e => ?_⟩
  cases r with
  | small n d => cases e
  | lit n d => cases e
  | big p' q' =>
    simp only [negR, SR.big.injEq] at e
    obtain ⟨rfl, rfl⟩ := e
    have := h.2 _ _ rfl
    rw [Int.neg_gcd]
    exact this
theorem SZ_of {a : Int} {k : Nat} (h : ln a.natAbs ≤ k) (hk : k < 1099511627776) : SZ a := by rw [SZ_ln]; omega
theorem cross_sz {a b : SR} (ha : WV a) (hb : WV b) (h : qsz a.val + qsz b.val < MX) :
    SZ (a.num * b.den) ∧ SZ (b.num * a.den) ∧ SZ (a.num * b.den + b.num * a.den) ∧ SZ (a.num * b.den - b.num * a.den) ∧ SZ (a.den * b.den) ∧ SZ (a.num * b.num) ∧ SZ (a.den * b.num) := by
  unfold MX at h
  obtain ⟨a1, a2⟩ := rep_sz ha
  obtain ⟨b1, b2⟩ := rep_sz hb
  have m1 := ln_na_mul a.num b.den
  have m2 := ln_na_mul b.num a.den
  have m3 := ln_na_add (a.num * b.den) (b.num * a.den)
  have m4 := ln_na_add (a.num * b.den) (-(b.num * a.den))
  rw [Int.natAbs_neg, ← Int.sub_eq_add_neg] at m4
  have m5 := ln_na_mul a.den b.den
  have m6 := ln_na_mul a.num b.num
  have m7 := ln_na_mul a.den b.num
  refine ⟨SZ_of m1 ?_, SZ_of m2 ?_, SZ_of m3 ?_, SZ_of m4 ?_, SZ_of m5 ?_, SZ_of m6 ?_, SZ_of m7 ?_⟩ <;> omega
theorem I64_prod {n d : Int} (hn : n.natAbs < 2147483648) (hd : d.natAbs < 2147483648) : (n * d).natAbs ≤ 4611686014132420609 := by
  rw [Int.natAbs_mul]
  have := Nat.mul_le_mul (show n.natAbs ≤ 2147483647 by omega) (show d.natAbs ≤ 2147483647 by omega)
  omega
theorem not_big {r : SR} (h : WR r) (hb : r.isBig = false) : r.num.natAbs < 2147483648 ∧ 0 < r.den ∧ r.den.natAbs < 2147483648 := by
  cases r with
  | small n d => obtain ⟨x1, x2, x3⟩ := h; exact ⟨x1, x2, by show d.natAbs < _; omega⟩
  | lit n d => obtain ⟨x1, x2, x3⟩ := h; exact ⟨x1, x2, by show d.natAbs < _; omega⟩
  | big p q => cases hb
theorem den_val_ne {r : SR} (h : WR r) : r.den ≠ 0 := by have := WR_den h; omega
theorem add_ok {a b : SR} (ha : WV a) (hb : WV b) (h : qsz a.val + qsz b.val < MX) : WV (addR a b) ∧ (addR a b).val = a.val + b.val := by
  obtain ⟨s1, s2, s3, s4, s5, s6, s7⟩ := cross_sz ha hb h
  have hv : a.val + b.val = Rat.divInt (a.num * b.den + b.num * a.den) (a.den * b.den) := Rat.divInt_add_divInt _ _ (den_val_ne ha.1) (den_val_ne hb.1)
  have hd := Int.mul_pos (WR_den ha.1) (WR_den hb.1)
  rw [hv]
  unfold addR
  split
  · exact bigR_ok (by omega) s3 s5
  · rename_i hbig
    simp only [Bool.or_eq_true, not_or, Bool.not_eq_true] at hbig
    obtain ⟨x1, x2, x3⟩ := not_big ha.1 hbig.1
    obtain ⟨y1, y2, y3⟩ := not_big hb.1 hbig.2
    have p1 := I64_prod x1 y3
    have p2 := I64_prod y1 x3
    have p3 := I64_prod x3 y3
    exact ofR_ok hd (by unfold I64; omega) (by unfold I64; omega)
theorem mul_ok {a b : SR} (ha : WV a) (hb : WV b) (h : qsz a.val + qsz b.val < MX) : WV (mulR a b) ∧ (mulR a b).val = a.val * b.val := by
  obtain ⟨s1, s2, s3, s4, s5, s6, s7⟩ := cross_sz ha hb h
  have hv : a.val * b.val = Rat.divInt (a.num * b.num) (a.den * b.den) := Rat.divInt_mul_divInt _ _
  have hd := Int.mul_pos (WR_den ha.1) (WR_den hb.1)
  rw [hv]
  unfold mulR
  split
  · exact bigR_ok (by omega) s6 s5
  · rename_i hbig
    simp only [Bool.or_eq_true, not_or, Bool.not_eq_true] at hbig
    obtain ⟨x1, x2, x3⟩ := not_big ha.1 hbig.1
    obtain ⟨y1, y2, y3⟩ := not_big hb.1 hbig.2
    have p1 := I64_prod x1 y1
    have p3 := I64_prod x3 y3
    exact ofR_ok hd (by unfold I64; omega) (by unfold I64; omega)
theorem sub_ok {a b : SR} (ha : WV a) (hb : WV b) (h : qsz a.val + qsz b.val < MX) : WV (subR a b) ∧ (subR a b).val = a.val - b.val := by
  have := add_ok ha (neg_WV hb) (by rw [neg_val, qsz_neg]; exact h)
  rw [neg_val, ← Rat.sub_eq_add_neg] at this
  exact this
theorem sign_val {r : SR} (h : WR r) : r.num.sign = r.val.num.sign := by
  obtain ⟨k, h1, h2, h3⟩ := val_k h
  rw [h2, Int.sign_mul, Int.sign_eq_one_of_pos h1, Int.one_mul]
def oq (q : Rat) : Int × Int × Bool := if q.num.natAbs ≤ 1000000000000000000 ∧ q.den ≤ 1000000000000000000 then (q.num, q.den, true) else (0, 0, false)
theorem qOf_val {r : SR} (h : WV r) : qOfR r = oq r.val := by
  have small : ∀ n d : Int, r.num = n → r.den = d → n.natAbs < 2147483648 → 0 < d → d < 2147483648 → (n / (Int.gcd n d : Int), d / (Int.gcd n d : Int), true) = oq r.val := by
    intro n d e1 e2 x1 x2 x3
    obtain ⟨k1, k2⟩ := low_div (n := n) x2
    have v : r.val = Rat.divInt n d := by unfold SR.val; rw [e1, e2]
    rw [v, k1, k2]
    unfold oq
    have n1 := num_le n d
    have n2 := den_le (n := n) (d := d) (by omega)
    rw [if_pos ⟨by omega, by omega⟩]
  cases r with
  | small n d =>
    obtain ⟨x1, x2, x3⟩ := h.1
    exact small n d rfl rfl x1 x2 x3
  | lit n d =>
    obtain ⟨x1, x2, x3⟩ := h.1
    exact small n d rfl rfl x1 x2 x3
  | big p q =>
    obtain ⟨⟨x1, x2, x3⟩, hg⟩ := h
    have hg := hg p q rfl
    obtain ⟨e1, e2⟩ := low_div (n := p) x3
    rw [hg] at e1 e2
    simp at e1 e2
    have v1 : (SR.big p q).val = Rat.divInt p q := rfl
    rw [v1]
    unfold qOfR oq
    simp only
    rw [← e1, ← e2]
    have : (q.natAbs ≤ 1000000000000000000) ↔ (Rat.divInt p q).den ≤ 1000000000000000000 := by omega
    simp only [this]
end Go.Proofs.YtojbfdkpelldoaaGreatDoor.Ae

namespace Go.Proofs.YtojbfdkpelldoaaGreatDoor.Ae
open Go Go.RowKit Go.Proofs.YtojbfdkpelldoaaGreatDoor.Dig
mutual
def D.pl : D → Bool
  | .lit _ => true
  | .num _ _ => false
  | .agg ds => D.pls ds
  | .sl _ xs => D.pls xs
  | .ptr d => D.pl d
def D.pls : List D → Bool
  | [] => true
  | d :: ds => D.pl d && D.pls ds
end
theorem pls_at : ∀ (ds : List D) (i : Nat) (d : D), D.pls ds = true → ds[i]? = some d → d.pl = true
  | [], i, d, _, h => by simp at h
  | x :: ds, 0, d, hp, h => by
    simp at h
    subst h
    simp only [D.pls, Bool.and_eq_true] at hp
    exact hp.1
  | x :: ds, i + 1, d, hp, h => by
    simp only [D.pls, Bool.and_eq_true] at hp
    exact pls_at ds i d hp.2 (by simpa using h)
theorem Rep.plain {N N' : NR} {F : Nat → Prop} {w : World} {d : D} {cs : List Value} (h : Rep N F w d cs) (hp : d.pl = true) : Rep N' F w d cs := by
  induction h with
  | lit h => exact .lit h
  | num h => simp [D.pl] at hp
  | agg hl h ih =>
    simp only [D.pl] at hp
    exact .agg hl (fun i d cs h1 h2 => ih i d cs h1 h2 (pls_at _ i d hp h1))
  | sl A c es hc hm ha h ih =>
    simp only [D.pl] at hp
    exact .sl A c es hc hm ha (fun i d h1 => ih i d h1 (pls_at _ i d hp h1))
  | ptr b off es hb hc h ih =>
    simp only [D.pl] at hp
    exact .ptr b off es hb hc (ih hp)
def NN : NR := ⟨fun _ _ _ _ _ => False, fun h => h.elim, fun h => h.elim, fun _ h => h.elim, fun _ _ => True, fun _ _ => trivial⟩
def okW (F : Nat → Prop) (w : World) : Prop := (∀ g, Tryz.prog.globalNamed "internal/strconv.uint64pow10" = some g → F g) ∧ Lib.TabIs Tryz.prog w "internal/strconv.uint64pow10" .u64 Lib.pow10Tab
theorem okW_mono {F F' : Nat → Prop} {w w' : World} (hF : ∀ b, F b → F' b ∧ w'.heap[b]? = w.heap[b]?) (h : okW F w) : okW F' w' := by
  obtain ⟨h1, h2⟩ := h
  refine ⟨fun g hg => (hF g (h1 g hg)).1, ?_⟩
  unfold Lib.TabIs World.var? at h2 ⊢
  cases hg : Tryz.prog.globalNamed "internal/strconv.uint64pow10" with
  | none => rw [hg] at h2; cases h2
  | some g =>
    rw [hg] at h2
    simp only [Option.bind_some] at h2 ⊢
    rw [(hF g (h1 g hg)).2]
    exact h2
def NF : NR where
  ok := okW
  okm := okW_mono
  R k F w q cs := k = 1 ∧ ∃ r, WV r ∧ r.val = q ∧ Rep NN F w (eR r) cs
  len := by
    rintro k F w q cs ⟨rfl, r, _, _, h⟩
    rw [h.len, eR_size]; rfl
  one := by
    rintro k F w q cs ⟨rfl, r, _, _, h⟩
    exact h.one
  mono := by
    rintro k F F' w w' q cs hF ⟨rfl, r, h1, h2, h⟩
    exact ⟨rfl, r, h1, h2, h.mono hF⟩
theorem pls_dg : ∀ l : List Nat, D.pls (l.map dg) = true
  | [] => rfl
  | x :: l => by simp only [List.map_cons, D.pls, pls_dg l, dg, D.pl, Bool.and_self]
theorem pl_eZ (z : Int) : (eZ z).pl = true := by
  simp only [eZ, eM, eW, D.pl, D.pls, pls_dg, Bool.and_self]
theorem pl_eR (r : SR) : (eR r).pl = true := by
  cases r <;> simp [eR, D.pl, D.pls, i64D, pl_eZ]
inductive Cv : D → D → Prop
  | same (d : D) (h : ∀ k q, d ≠ .num k q) : Cv d d
  | num (r : SR) (h : WV r) : Cv (.num 1 r.val) (eR r)
def CvL : List D → List D → Prop
  | [], [] => True
  | x :: a, y :: b => Cv x y ∧ CvL a b
  | _, _ => False
theorem cv_in {F : Nat → Prop} {w : World} {d : D} {v : Value} (h : RepV NF F w d v) : ∃ d', Cv d d' ∧ RepV NF F w d' v := by
  cases d with
  | num k q =>
    obtain ⟨cs, hr, hv⟩ := h
    cases hr with
    | num hr =>
      obtain ⟨rfl, r, h1, rfl, h3⟩ := hr
      refine ⟨eR r, .num r h1, cs, h3.plain (pl_eR r), ?_⟩
      rw [hv]
      unfold mkV
      rw [eR_isAgg]
      rfl
  | _ => exact ⟨_, .same _ (fun k q e => by cases e), h⟩
theorem cv_out {F : Nat → Prop} {w : World} {d d' : D} {v : Value} (hc : Cv d d') (h : RepV NF F w d' v) : RepV NF F w d v := by
  cases hc with
  | same _ _ => exact h
  | num r hw =>
    obtain ⟨cs, hr, hv⟩ := h
    refine ⟨cs, .num ⟨rfl, r, hw, rfl, hr.plain (pl_eR r)⟩, ?_⟩
    rw [hv]
    unfold mkV
    rw [eR_isAgg]
    rfl
theorem cvL_in {F : Nat → Prop} {w : World} : ∀ (ds : List D) (vs : List Value), RepVs NF F w ds vs → ∃ ds', CvL ds ds' ∧ RepVs NF F w ds' vs
  | [], vs, h => ⟨[], trivial, h⟩
  | d :: ds, [], h => by have := h.1; simp at this
  | d :: ds, v :: vs, h => by
    obtain ⟨d', c1, r1⟩ := cv_in (h.2 0 d v rfl rfl)
    obtain ⟨ds', c2, r2⟩ := cvL_in ds vs ⟨by simpa using h.1, fun i d v h1 h2 => h.2 (i + 1) d v (by simpa using h1) (by simpa using h2)⟩
    refine ⟨d' :: ds', ⟨c1, c2⟩, by simp only [List.length_cons]; rw [r2.1], fun i e u h1 h2 => ?_⟩
    cases i with
    | zero =>
      simp only [List.getElem?_cons_zero, Option.some.injEq] at h1 h2
      subst h1 h2
      exact r1
    | succ i => exact r2.2 i e u (by simpa using h1) (by simpa using h2)
theorem cvL_out {F : Nat → Prop} {w : World} : ∀ (ds ds' : List D) (vs : List Value), CvL ds ds' → RepVs NF F w ds' vs → RepVs NF F w ds vs
  | [], [], vs, _, h => h
  | d :: ds, d' :: ds', [], _, h => by have := h.1; simp at this
  | d :: ds, d' :: ds', v :: vs, hc, h => by
    have r1 := cv_out hc.1 (h.2 0 d' v rfl rfl)
    have r2 := cvL_out ds ds' vs hc.2 ⟨by simpa using h.1, fun i d v h1 h2 => h.2 (i + 1) d v (by simpa using h1) (by simpa using h2)⟩
    refine ⟨by simp only [List.length_cons]; rw [r2.1], fun i e u h1 h2 => ?_⟩
    cases i with
    | zero =>
      simp only [List.getElem?_cons_zero, Option.some.injEq] at h1 h2
      subst h1 h2
      exact r1
    | succ i => exact r2.2 i e u (by simpa using h1) (by simpa using h2)
  | [], _ :: _, _, hc, _ => hc.elim
  | _ :: _, [], _, hc, _ => hc.elim
theorem cvR_out {F : Nat → Prop} {w : World} {ds ds' : List D} {v : Value} (hc : CvL ds ds') (h : RepRes NF F w ds' v) : RepRes NF F w ds v := by
  cases ds with
  | nil =>
    cases ds' with
    | nil => exact h
    | cons => exact hc.elim
  | cons d t =>
    cases ds' with
    | nil => exact hc.elim
    | cons d' t' =>
      cases t with
      | nil =>
        cases t' with
        | nil => exact cv_out hc.1 h
        | cons => exact hc.2.elim
      | cons e t =>
        cases t' with
        | nil => exact hc.2.elim
        | cons e' t' =>
          obtain ⟨vs, h1, h2⟩ := h
          exact ⟨vs, h1, cvL_out _ _ _ hc h2⟩
theorem specD_num {P : Program} {f : FuncId} {g g' : List D → Prop × List D} (h : SpecD NF P f g) (hg : ∀ ds', (g' ds').1 → ∀ ds, CvL ds' ds → (g ds).1 ∧ CvL (g' ds').2 (g ds).2) : SpecD NF P f g' := by
  intro ds' hp F w vs hF hok hr
  obtain ⟨ds, c, hr'⟩ := cvL_in ds' vs hr
  obtain ⟨h1, h2⟩ := hg ds' hp ds c
  exact (h ds h1 F w vs hF hok hr').mono fun e w' ⟨v, he, hv, hfr⟩ => ⟨v, he, cvR_out h2 hv, hfr⟩
theorem specD_num' {P : Program} {f : FuncId} {g : List D → Prop × List D} {β : Type} {e' : β → List D} {pre' : β → Prop} {post' : β → List D} (h : SpecD NF P f g) (hg : ∀ b, pre' b → ∀ ds, CvL (e' b) ds → (g ds).1 ∧ CvL (post' b) (g ds).2) : SpecD NF P f (ctD e' pre' post') := by
  refine specD_num h (fun ds' hp ds hc => ?_)
  obtain ⟨b, rfl, h1, h2⟩ := ctD_pre hp
  rw [h2]
  exact hg b h1 ds hc
theorem cv_num {q : Rat} {d : D} (h : Cv (.num 1 q) d) : ∃ r, WV r ∧ r.val = q ∧ d = eR r := by
  generalize hx : D.num 1 q = x at h
  cases h with
  | same _ hh => exact absurd hx.symm (hh 1 q)
  | num r hw =>
    injection hx with _ hx
    exact ⟨r, hw, hx.symm, rfl⟩
theorem cv_same {d d' : D} (hd : ∀ k q, d ≠ .num k q) (h : Cv d d') : d' = d := by
  cases h with
  | same _ _ => rfl
  | num r _ => exact absurd rfl (hd 1 r.val)
theorem cv_to {r : SR} {q : Rat} (h : WV r ∧ r.val = q) : Cv (.num 1 q) (eR r) := by
  obtain ⟨h1, rfl⟩ := h
  exact .num r h1
theorem cv1 {q : Rat} {ds : List D} (h : CvL [.num 1 q] ds) : ∃ r, WV r ∧ r.val = q ∧ ds = [eR r] := by
  cases ds with
  | nil => exact h.elim
  | cons d t =>
    cases t with
    | cons e t => exact h.2.elim
    | nil =>
      obtain ⟨r, h1, h2, rfl⟩ := cv_num h.1
      exact ⟨r, h1, h2, rfl⟩
theorem cv2 {q p : Rat} {ds : List D} (h : CvL [.num 1 q, .num 1 p] ds) : ∃ r s, WV r ∧ r.val = q ∧ WV s ∧ s.val = p ∧ ds = [eR r, eR s] := by
  cases ds with
  | nil => exact h.elim
  | cons d t =>
    obtain ⟨r, h1, h2, rfl⟩ := cv_num h.1
    obtain ⟨s, h3, h4, rfl⟩ := cv1 h.2
    exact ⟨r, s, h1, h2, h3, h4, rfl⟩
theorem cvs1 {d : D} {ds : List D} (hd : ∀ k q, d ≠ .num k q) (h : CvL [d] ds) : ds = [d] := by
  cases ds with
  | nil => exact h.elim
  | cons e t =>
    cases t with
    | cons e t => exact h.2.elim
    | nil => rw [cv_same hd h.1]
theorem cvs2 {d e : D} {ds : List D} (hd : ∀ k q, d ≠ .num k q) (he : ∀ k q, e ≠ .num k q) (h : CvL [d, e] ds) : ds = [d, e] := by
  cases ds with
  | nil => exact h.elim
  | cons x t => rw [cv_same hd h.1, cvs1 he h.2]
theorem cvo1 {d : D} (hd : ∀ k q, d ≠ .num k q) : CvL [d] [d] := ⟨.same d hd, trivial⟩
theorem cvo2 {d e : D} (hd : ∀ k q, d ≠ .num k q) (he : ∀ k q, e ≠ .num k q) : CvL [d, e] [d, e] := ⟨.same d hd, .same e he, trivial⟩
def nD (q : Rat) : D := .num 1 q
@[simp] theorem nD_size (q : Rat) : (nD q).size = 3 := rfl
@[simp] theorem nD_agg (q : Rat) : (nD q).isAgg = true := rfl
@[simp] theorem nD_lit (q : Rat) : (nD q).isLit = false := rfl
theorem nD_inj {a b : Rat} (h : nD a = nD b) : a = b := by unfold nD at h; injection h
def f1E (p : Q1) : List D := [nD p.a]
theorem f1E_inj (p q : Q1) (h : f1E p = f1E q) : p = q := by
  obtain ⟨a⟩ := p; obtain ⟨b⟩ := q
  simp only [f1E, List.cons.injEq, and_true] at h
  rw [nD_inj h]
def f2E (p : Q2) : List D := [nD p.a, nD p.b]
theorem f2E_inj (p q : Q2) (h : f2E p = f2E q) : p = q := by
  obtain ⟨a, b⟩ := p; obtain ⟨c, d⟩ := q
  simp only [f2E, List.cons.injEq, and_true] at h
  rw [nD_inj h.1, nD_inj h.2]
end Go.Proofs.YtojbfdkpelldoaaGreatDoor.Ae

namespace Go.Proofs.YtojbfdkpelldoaaGreatDoor.Ae
open Go Go.RowKit Go.Proofs.YtojbfdkpelldoaaGreatDoor.Dig
variable {N : NR}
def smallQ (q : Rat) : Prop := q.num.natAbs < 9223372036854775808 ∧ q.den < 9223372036854775808
instance (q : Rat) : Decidable (smallQ q) := by unfold smallQ; infer_instance
def eRat (q : Rat) : D := if smallQ q then .agg [i64D q.num, i64D q.den, .lit (.pointer none)] else .agg [i64D 0, i64D 0, .ptr (eBR q)]
theorem eRat_s {q : Rat} (h : smallQ q) : eRat q = .agg [i64D q.num, i64D q.den, .lit (.pointer none)] := by unfold eRat; rw [if_pos h]
theorem eRat_b {q : Rat} (h : ¬ smallQ q) : eRat q = .agg [i64D 0, i64D 0, .ptr (eBR q)] := by unfold eRat; rw [if_neg h]
@[simp] theorem eRat_size (q : Rat) : (eRat q).size = 3 := by unfold eRat; split <;> rfl
@[simp] theorem eRat_agg (q : Rat) : (eRat q).isAgg = true := by unfold eRat; split <;> rfl
@[simp] theorem eRat_lit (q : Rat) : (eRat q).isLit = false := by unfold eRat; split <;> rfl
theorem eRat_inj {a b : Rat} (h : eRat a = eRat b) : a = b := by
  by_cases ha : smallQ a <;> by_cases hb : smallQ b
  · rw [eRat_s ha, eRat_s hb] at h
    simp only [D.agg.injEq, List.cons.injEq, and_true, i64D, D.lit.injEq, Value.int.injEq, true_and] at h
    exact Rat.ext h.1 (by omega)
  · rw [eRat_s ha, eRat_b hb] at h; simp at h
  · rw [eRat_b ha, eRat_s hb] at h; simp at h
  · rw [eRat_b ha, eRat_b hb] at h
    simp only [D.agg.injEq, List.cons.injEq, and_true, true_and, D.ptr.injEq] at h
    exact eBR_inj h
def r1E (p : Q1) : List D := [eRat p.a]
theorem r1E_inj (p q : Q1) (h : r1E p = r1E q) : p = q := by
  obtain ⟨a⟩ := p; obtain ⟨b⟩ := q
  simp only [r1E, List.cons.injEq, and_true] at h
  rw [eRat_inj h]
def r2E (p : Q2) : List D := [eRat p.a, eRat p.b]
theorem r2E_inj (p q : Q2) (h : r2E p = r2E q) : p = q := by
  obtain ⟨a, b⟩ := p; obtain ⟨c, d⟩ := q
  simp only [r2E, List.cons.injEq, and_true] at h
  rw [eRat_inj h.1, eRat_inj h.2]
def boolD (b : Bool) : D := .lit (.bool b)
theorem smallQ_qsz {q : Rat} (h : smallQ q) : qsz q ≤ 2 := by
  unfold smallQ at h
  exact Nat.max_le.2 ⟨ln_i64 (by omega), ln_i64 (by omega)⟩
def lit31 (q : Rat) : Prop := q.num.natAbs < 2147483648 ∧ q.den < 2147483648
instance (q : Rat) : Decidable (lit31 q) := by unfold lit31; infer_instance
theorem lit31_small {q : Rat} (h : lit31 q) : smallQ q := ⟨by unfold lit31 at h; omega, by unfold lit31 at h; omega⟩
noncomputable def littleC := ctD r1E (fun p => True) (fun p => [boolD (decide (lit31 p.a))])
theorem littleC_at (a : Rat) : littleC [eRat a] = (True, [boolD (decide (lit31 a))]) := ctD_at r1E_inj ⟨a⟩
theorem little_spec : SpecD N Tryz.prog 63 littleC := by
  refine rdD (mf := fun f => false) tbl_nil (fn := Tryz.f63) (by kernel_rfl) rfl (by kernel_rfl) ?_
  rintro ⟨a⟩ _
  refine ⟨by show 1 ≤ 21; decide, ?_⟩
  simp only [r1E, Tryz.f63, boolD]
  by_cases ha : smallQ a
  · rw [eRat_s ha]
    have e : decide (lit31 a) = (decide (-2147483648 < a.num) && (decide (a.num < 2147483648) && decide ((a.den : Int) < 2147483648))) := by
      rw [← Bool.decide_and, ← Bool.decide_and]
      congr 1
      apply propext
      unfold lit31
      omega
    rw [e]
    generalize a.num = n
    generalize (a.den : Int) = d
    by_cases h1 : -2147483648 < n <;> by_cases h2 : n < 2147483648 <;> by_cases h3 : d < 2147483648 <;> simp [i64D, h1, h2, h3]
  · have e : decide (lit31 a) = false := by
      rw [decide_eq_false_iff_not]
      exact fun h => ha (lit31_small h)
    rw [eRat_b ha, e]
    simp [i64D]
theorem little_ok : callable Tryz.prog 63 = true := by kernel_rfl
noncomputable def bigIC := ctD r1E (fun p => True) (fun p => [.ptr (eBR p.a)])
theorem bigIC_at (a : Rat) : bigIC [eRat a] = (True, [.ptr (eBR a)]) := ctD_at r1E_inj ⟨a⟩
noncomputable def bigITb : List (FuncId × Ct) := [(96, .data nbrC)]
theorem bigITb_ok : TbOK N Tryz.prog (tbl bigITb) := tbl_cons (c := .data nbrC) newBigRat_spec newBigRat_ok tbl_nil
@[simp] theorem bigITb1 : tbl bigITb 96 = some (.data nbrC) := rfl
theorem big_spec : SpecD N Tryz.prog 67 bigIC := by
  refine rdD (mf := fun f => false) bigITb_ok (fn := Tryz.f67) (by kernel_rfl) rfl (by kernel_rfl) ?_
  rintro ⟨a⟩ _
  refine ⟨by show 1 ≤ 13; decide, ?_⟩
  simp only [r1E, Tryz.f67]
  by_cases ha : smallQ a
  · rw [eRat_s ha]
    have c1 := nbrC_at a.num a.den
    unfold smallQ at ha
    have h1 : I64 a.num := by unfold I64; omega
    have h2 : I64 (a.den : Int) := by unfold I64; omega
    rw [Rat.num_divInt_den] at c1
    simp only [h1, h2, dz a, ne_eq, not_false_eq_true, and_self, i64D] at c1
    simp [i64D, c1]
  · rw [eRat_b ha]
    simp [i64D]
theorem big_ok : callable Tryz.prog 67 = true := by kernel_rfl
noncomputable def fitC := ctD pbE (fun p => qsz p.a < 1099511627776) (fun p => [eRat p.a])
theorem fitC_at (a : Rat) : fitC [.ptr (eBR a)] = (qsz a < 1099511627776, [eRat a]) := ctD_at pbE_inj ⟨a⟩
noncomputable def fitTb : List (FuncId × Ct) := [(77, .data numC), (78, .data denC), (94, .data isI64C), (95, .data int64C)]
theorem fitTb_ok : TbOK N Tryz.prog (tbl fitTb) := tbl_cons (c := .data numC) Num_spec Num_ok (tbl_cons (c := .data denC) Denom_spec Denom_ok (tbl_cons (c := .data isI64C) IsInt64_spec IsInt64_ok (tbl_cons (c := .data int64C) Int64_spec Int64_ok tbl_nil)))
@[simp] theorem fitTb1 : tbl fitTb 77 = some (.data numC) := rfl
@[simp] theorem fitTb2 : tbl fitTb 78 = some (.data denC) := rfl
@[simp] theorem fitTb3 : tbl fitTb 94 = some (.data isI64C) := rfl
@[simp] theorem fitTb4 : tbl fitTb 95 = some (.data int64C) := rfl
theorem fit_spec : SpecD N Tryz.prog 65 fitC := by
  refine rdD (mf := fun f => false) fitTb_ok (fn := Tryz.f65) (by kernel_rfl) rfl (by kernel_rfl) ?_
  rintro ⟨a⟩ ha
  have ha : qsz a < 1099511627776 := ha
  refine ⟨by show 1 ≤ 24; decide, ?_⟩
  simp only [pbE, Tryz.f65]
  have c1 := numC_at a
  have c2 := denC_at a
  have c3 := isI64C_at a.num
  have c4 := isI64C_at a.den
  have c5 := int64C_at a.num
  have c6 := int64C_at a.den
  simp only [ha, SZ_num ha, SZ_den ha, i64D] at c1 c2 c3 c4 c5 c6
  by_cases hs : smallQ a
  · rw [eRat_s hs]
    unfold smallQ at hs
    have h1 : I64 a.num := by unfold I64; omega
    have h2 : I64 (a.den : Int) := by unfold I64; omega
    have h3 : -9223372036854775808 < a.num := by omega
    simp only [h1, h2, decide_true] at c3 c4 c5 c6
    simp [i64D, c1, c2, c3, c4, c5, c6, h3]
  · rw [eRat_b hs]
    by_cases h1 : I64 a.num
    · by_cases h2 : I64 (a.den : Int)
      · have h3 : ¬ -9223372036854775808 < a.num := by
          intro h
          refine hs ⟨?_, ?_⟩
          · unfold I64 at h1; omega
          · unfold I64 at h2; omega
        simp only [h1, h2, decide_true] at c3 c4 c5 c6
        simp [i64D, c1, c2, c3, c4, c5, c6, h3]
      · simp only [h1, h2, decide_true, decide_false] at c3 c4
        simp [i64D, c1, c2, c3, c4]
    · simp only [h1, decide_false] at c3
      simp [i64D, c1, c2, c3]
theorem fit_ok : callable Tryz.prog 65 = true := by kernel_rfl
theorem smallQ_int {n : Int} (h : n.natAbs < 9223372036854775808) : smallQ (n : Rat) := ⟨by rw [Rat.num_intCast]; exact h, by rw [Rat.den_intCast]; decide⟩
noncomputable def riC := ctD z1E (fun p => p.a.natAbs < 9223372036854775808) (fun p => [eRat (p.a : Rat)])
theorem riC_at (a : Int) : riC [i64D a] = (a.natAbs < 9223372036854775808, [eRat (a : Rat)]) := ctD_at z1E_inj ⟨a⟩
theorem ri_spec : SpecD N Tryz.prog 50 riC := by
  refine rdD (mf := fun f => false) tbl_nil (fn := Tryz.f50) (by kernel_rfl) rfl (by kernel_rfl) ?_
  rintro ⟨a⟩ ha
  have ha : a.natAbs < 9223372036854775808 := ha
  refine ⟨by show 1 ≤ 5; decide, ?_⟩
  simp only [z1E, Tryz.f50, eRat_s (smallQ_int ha), Rat.num_intCast, Rat.den_intCast, i64D]
  simp
def QI (n d : Int) : Prop := 0 < d ∧ Int.gcd n d = 1 ∧ n.natAbs < 9223372036854775808 ∧ d < 9223372036854775808
theorem QI_num {n d : Int} (h : QI n d) : (Rat.divInt n d).num = n ∧ ((Rat.divInt n d).den : Int) = d := by
  obtain ⟨h1, h2, _⟩ := h
  obtain ⟨e1, e2⟩ := low_pos (a := n) h1
  rw [h2] at e1 e2
  rw [← e1, ← e2]
  simp
theorem QI_small {n d : Int} (h : QI n d) : smallQ (Rat.divInt n d) := by
  obtain ⟨e1, e2⟩ := QI_num h
  obtain ⟨h1, h2, h3, h4⟩ := h
  refine ⟨by rw [e1]; exact h3, by omega⟩
theorem eRat_QI {n d : Int} (h : QI n d) : eRat (Rat.divInt n d) = .agg [i64D n, i64D d, .lit (.pointer none)] := by
  obtain ⟨e1, e2⟩ := QI_num h
  rw [eRat_s (QI_small h), e1, e2]
noncomputable def rqC := ctD qE (fun p => QI p.a p.b) (fun p => [eRat (Rat.divInt p.a p.b)])
theorem rqC_at (a b : Int) : rqC [eQ a b] = (QI a b, [eRat (Rat.divInt a b)]) := ctD_at qE_inj ⟨a, b⟩
theorem rq_spec : SpecD N Tryz.prog 42 rqC := by
  refine rdD (mf := fun f => false) tbl_nil (fn := Tryz.f42) (by kernel_rfl) rfl (by kernel_rfl) ?_
  rintro ⟨a, b⟩ h
  have h : QI a b := h
  refine ⟨by show 1 ≤ 8; decide, ?_⟩
  simp only [qE, Tryz.f42, eRat_QI h, i64D, eQ]
  simp
theorem rq_ok : callable Tryz.prog 42 = true := by kernel_rfl
noncomputable def lowC := ctD iiE (fun p => p.a.natAbs < 9223372036854775808 ∧ 0 < p.b ∧ p.b < 9223372036854775808) (fun p => [eRat (Rat.divInt p.a p.b)])
theorem lowC_at (a b : Int) : lowC [i64D a, i64D b] = ((a.natAbs < 9223372036854775808 ∧ 0 < b ∧ b < 9223372036854775808), [eRat (Rat.divInt a b)]) := ctD_at iiE_inj ⟨a, b⟩
noncomputable def lowTb : List (FuncId × Ct) := [(71, .data absC), (70, .data gcdC)]
theorem lowTb_ok : TbOK N Tryz.prog (tbl lowTb) := tbl_cons (c := .data absC) abs64_spec abs64_ok (tbl_cons (c := .data gcdC) gcd64_spec gcd64_ok tbl_nil)
@[simp] theorem lowTb1 : tbl lowTb 71 = some (.data absC) := rfl
@[simp] theorem lowTb2 : tbl lowTb 70 = some (.data gcdC) := rfl
theorem small_divInt {n d : Int} (hn : n.natAbs < 9223372036854775808) (h0 : 0 < d) (hd : d < 9223372036854775808) : smallQ (Rat.divInt n d) :=
  ⟨Nat.lt_of_le_of_lt (num_le n d) hn, Nat.lt_of_le_of_lt (den_le (by omega)) (by omega)⟩
theorem low_spec : SpecD N Tryz.prog 64 lowC := by
  refine rdD (mf := fun f => false) lowTb_ok (fn := Tryz.f64) (by kernel_rfl) rfl (by kernel_rfl) ?_
  rintro ⟨n, d⟩ ⟨hn, h0, hd⟩
  have hn : n.natAbs < 9223372036854775808 := hn
  have h0 : 0 < d := h0
  have hd : d < 9223372036854775808 := hd
  refine ⟨by show 2 ≤ 23; decide, ?_⟩
  have hs := small_divInt hn h0 hd
  obtain ⟨e1, e2⟩ := low_pos (a := n) h0
  rw [eRat_s hs, ← e1, ← e2]
  have c1 := absC_at n
  have c2 := gcdC_at n.natAbs d.natAbs
  have h1 : I64 n := by unfold I64; omega
  have h2 : n.natAbs < 18446744073709551616 := by omega
  have h3 : d.natAbs < 18446744073709551616 := by omega
  have e3 : Nat.gcd n.natAbs d.natAbs = Int.gcd n d := rfl
  have hg0 : 0 < Int.gcd n d := by
    rcases Nat.eq_zero_or_pos (Int.gcd n d) with h | h
    · have := (Int.gcd_eq_zero_iff.1 h).2; omega
    · exact h
  have hgl : Int.gcd n d ≤ d.natAbs := Nat.le_of_dvd (by omega) (Nat.gcd_dvd_right _ _)
  have w1 : IntKind.u64.wrap d = (d.natAbs : Int) := by rw [wrap_u64]; omega
  simp only [h1, h2, h3, e3, and_self, u64D, i64D] at c1 c2
  have b1 := Int.natAbs_tdiv n (Int.gcd n d)
  have b2 := Int.natAbs_tdiv d (Int.gcd n d)
  have b3 : (Int.tdiv n (Int.gcd n d)).natAbs ≤ n.natAbs := by rw [b1]; exact Nat.div_le_self _ _
  have b4 : (Int.tdiv d (Int.gcd n d)).natAbs ≤ d.natAbs := by rw [b2]; exact Nat.div_le_self _ _
  have w3 : IntKind.i64.wrap (Int.tdiv n (Int.gcd n d)) = Int.tdiv n (Int.gcd n d) := i64_id _ (by omega) (by omega)
  have w4 : IntKind.i64.wrap (Int.tdiv d (Int.gcd n d)) = Int.tdiv d (Int.gcd n d) := i64_id _ (by omega) (by omega)
  have w2 : IntKind.i64.wrap (Int.gcd n d : Int) = (Int.gcd n d : Int) := i64_id _ (by omega) (by omega)
  clear b1 b2 e1 e2 hs
  simp only [iiE, Tryz.f64, i64D]
  generalize Int.gcd n d = g at *
  generalize hx : Int.tdiv n (g : Int) = x at *
  generalize hy : Int.tdiv d (g : Int) = y at *
  have hgz : ¬ g = 0 := by omega
  by_cases h4 : 1 < g
  · have h4' : (1 : Int) < g := by omega
    simp [c1, c2, w1, w2, hx, hy, w3, w4, h4', h4, hgz]
  · have h5 : g = 1 := by omega
    subst h5
    simp at hx hy w2
    subst hx hy
    simp [c1, c2, w1, w2]
theorem low_ok : callable Tryz.prog 64 = true := by kernel_rfl
noncomputable def rngC := ctD r1E (fun p => qsz p.a < MX) (fun p => [eRat (-p.a)])
theorem rngC_at (a : Rat) : rngC [eRat a] = (qsz a < MX, [eRat (-a)]) := ctD_at r1E_inj ⟨a⟩
theorem smallQ_neg {a : Rat} : smallQ (-a) ↔ smallQ a := by unfold smallQ; rw [Rat.neg_num, Rat.neg_den, Int.natAbs_neg]
noncomputable def ngTb : List (FuncId × Ct) := [(69, .mut [true, false] bNegC)]
theorem ngTb_ok : TbOK N Tryz.prog (tbl ngTb) := tbl_cons (c := .mut [true, false] bNegC) RNeg_spec RNeg_ok tbl_nil
@[simp] theorem ngTb1 : tbl ngTb 69 = some (.mut [true, false] bNegC) := rfl
theorem rneg_spec : SpecD N Tryz.prog 45 rngC := by
  refine rdD (mf := fun f => f == 69 || f == bld 50) ngTb_ok (fn := Tryz.f45) (by kernel_rfl) rfl (by kernel_rfl) ?_
  rintro ⟨a⟩ ha
  have ha : qsz a < MX := ha
  refine ⟨by show 1 ≤ 17; decide, ?_⟩
  simp only [r1E, Tryz.f45]
  by_cases hs : smallQ a
  · rw [eRat_s hs, eRat_s (smallQ_neg.2 hs), Rat.neg_num, Rat.neg_den]
    unfold smallQ at hs
    have w : IntKind.i64.wrap (-a.num) = -a.num := i64_id _ (by omega) (by omega)
    simp [i64D, w]
  · rw [eRat_b hs, eRat_b (fun h => hs (smallQ_neg.1 h))]
    have c1 := bNegC_at a
    simp only [ha, eBN_eq] at c1
    simp [i64D, c1]
theorem rneg_ok : callable Tryz.prog 45 = true := by kernel_rfl
theorem ri_ok : callable Tryz.prog 50 = true := by kernel_rfl
end Go.Proofs.YtojbfdkpelldoaaGreatDoor.Ae

namespace Go.Proofs.YtojbfdkpelldoaaGreatDoor.Ae
open Go Go.RowKit Go.Proofs.YtojbfdkpelldoaaGreatDoor.Dig
variable {N : NR}
theorem rat_eq (a : Rat) : a = (a.num : Rat) / ((a.den : Int) : Rat) := by
  rw [← Rat.divInt_eq_div, Rat.num_divInt_den]
theorem den_rz (a : Rat) : ((a.den : Int) : Rat) ≠ 0 := by
  intro h
  exact dz a (by exact_mod_cast h)
theorem add_same {a b : Rat} (h : a.den = b.den) : a + b = Rat.divInt (a.num + b.num) a.den := by
  have h1 := rat_eq a
  have h2 := rat_eq b
  rw [← h] at h2
  rw [Rat.divInt_eq_div, Rat.intCast_add]
  have h3 := den_rz a
  grind
theorem sub_same {a b : Rat} (h : a.den = b.den) : a - b = Rat.divInt (a.num - b.num) a.den := by
  have h1 := rat_eq a
  have h2 := rat_eq b
  rw [← h] at h2
  rw [Rat.divInt_eq_div, Rat.intCast_sub]
  have h3 := den_rz a
  grind
theorem sub_divInt (a b : Rat) : a - b = Rat.divInt (a.num * b.den - b.num * a.den) (a.den * b.den) := by
  have := add_divInt a (-b)
  rw [Rat.neg_num, Rat.neg_den, Int.neg_mul, ← Int.sub_eq_add_neg, ← Rat.sub_eq_add_neg] at this
  exact this
noncomputable def raTb : List (FuncId × Ct) := [(63, .data littleC), (64, .data lowC), (67, .data bigIC), (75, .mut [true, false, false] bAddC), (66, .mut [true, false, false] bSubC), (65, .data fitC)]
theorem raTb_ok : TbOK N Tryz.prog (tbl raTb) := tbl_cons (c := .data littleC) little_spec little_ok (tbl_cons (c := .data lowC) low_spec low_ok (tbl_cons (c := .data bigIC) big_spec big_ok (tbl_cons (c := .mut [true, false, false] bAddC) RAdd_spec RAdd_ok (tbl_cons (c := .mut [true, false, false] bSubC) RSub_spec RSub_ok (tbl_cons (c := .data fitC) fit_spec fit_ok tbl_nil)))))
@[simp] theorem raTb1 : tbl raTb 63 = some (.data littleC) := rfl
@[simp] theorem raTb2 : tbl raTb 64 = some (.data lowC) := rfl
@[simp] theorem raTb3 : tbl raTb 67 = some (.data bigIC) := rfl
@[simp] theorem raTb4 : tbl raTb 75 = some (.mut [true, false, false] bAddC) := rfl
@[simp] theorem raTb5 : tbl raTb 66 = some (.mut [true, false, false] bSubC) := rfl
@[simp] theorem raTb6 : tbl raTb 65 = some (.data fitC) := rfl
def raMf : FuncId → Bool := fun f => f == 75 || f == 66 || f == 65
attribute [simp] raMf
theorem prod31 {n d : Int} (hn : n.natAbs < 2147483648) (hd : 0 < d ∧ d < 2147483648) : -4611686018427387904 < n * d ∧ n * d < 4611686018427387904 := prod_bd hn hd
noncomputable def raddC := ctD r2E (fun p => qsz p.a + qsz p.b < MX) (fun p => [eRat (p.a + p.b)])
theorem raddC_at (a b : Rat) : raddC [eRat a, eRat b] = (qsz a + qsz b < MX, [eRat (a + b)]) := ctD_at r2E_inj ⟨a, b⟩
set_option maxHeartbeats 4000000 in
theorem radd_spec : SpecD N Tryz.prog 49 raddC := by
  refine rdD (mf := raMf) raTb_ok (fn := Tryz.f49) (by kernel_rfl) rfl (by kernel_rfl) ?_
  rintro ⟨a, b⟩ hq
  have hq : qsz a + qsz b < MX := hq
  refine ⟨by show 2 ≤ 62; decide, ?_⟩
  have c1 := littleC_at a
  have c2 := littleC_at b
  simp only [r2E, Tryz.f49, boolD] at c1 c2 ⊢
  by_cases hab : lit31 a ∧ lit31 b
  · obtain ⟨ha, hb⟩ := hab
    have sa := lit31_small ha
    have sb := lit31_small hb
    rw [eRat_s sa] at c1 ⊢
    rw [eRat_s sb] at c2 ⊢
    simp only [ha, hb, decide_true, i64D] at c1 c2
    unfold lit31 at ha hb
    have da := a.den_pos
    have db := b.den_pos
    have x1 := prod31 ha.1 (d := b.den) (by omega)
    have x2 := prod31 hb.1 (d := a.den) (by omega)
    have x3 := pos_bd (c := a.den) (d := b.den) (by omega) (by omega)
    have w1 : IntKind.i64.wrap (a.num + b.num) = a.num + b.num := i64_id _ (by omega) (by omega)
    have w2 : IntKind.i64.wrap (a.num * b.den) = a.num * b.den := i64_id _ (by omega) (by omega)
    have w3 : IntKind.i64.wrap (b.num * a.den) = b.num * a.den := i64_id _ (by omega) (by omega)
    have w4 : IntKind.i64.wrap ((a.den : Int) * b.den) = (a.den : Int) * b.den := i64_id _ (by omega) (by omega)
    have w5 : IntKind.i64.wrap (a.num * b.den + b.num * a.den) = a.num * b.den + b.num * a.den := i64_id _ (by omega) (by omega)
    by_cases hd : a.den = b.den
    · by_cases h1 : b.den = 1
      · have e := add_same hd
        have hQ : QI (a.num + b.num) 1 := ⟨by omega, by simp, by omega, by omega⟩
        rw [hd, h1] at e
        rw [e]
        have e2 := eRat_QI hQ
        have e3 : Rat.divInt (a.num + b.num) ((1 : Nat) : Int) = Rat.divInt (a.num + b.num) 1 := rfl
        rw [e3, e2, hd, h1]
        rw [hd, h1] at c1
        rw [h1] at c2
        simp at c1 c2
        simp [i64D, c1, c2, w1]
      · have e := add_same hd
        have c3 := lowC_at (a.num + b.num) b.den
        have b1 : (a.num + b.num).natAbs < 9223372036854775808 := by omega
        have b2 : 0 < (b.den : Int) := by omega
        have b3 : (b.den : Int) < 9223372036854775808 := by omega
        simp only [b1, b2, b3, and_self, i64D] at c3
        rw [e]
        rw [hd] at c1 ⊢
        have h1' : ¬ (b.den : Int) = 1 := by omega
        simp [i64D, c1, c2, c3, w1, h1, h1']
    · have c3 := lowC_at (a.num * b.den + b.num * a.den) ((a.den : Int) * b.den)
      have b1 : (a.num * b.den + b.num * a.den).natAbs < 9223372036854775808 := by omega
      have b2 : 0 < (a.den : Int) * b.den := by omega
      have b3 : (a.den : Int) * b.den < 9223372036854775808 := by omega
      simp only [b1, b2, b3, and_self, i64D] at c3
      rw [← add_divInt] at c3
      generalize a + b = ab at *
      have h0 : ¬ ((a.den : Int) = 1 ∧ (b.den : Int) = 1) := by omega
      have h2 : ¬ (a.den : Int) = b.den := by omega
      generalize (a.den : Int) = d at *
      generalize (b.den : Int) = d' at *
      generalize a.num = n at *
      generalize b.num = n' at *
      by_cases h1 : d = 1
      · have h3 : ¬ d' = 1 := by omega
        subst h1
        simp at c1 c3 w3 w4 w5 h2
        simp [i64D, c1, c2, c3, w1, w2, w3, w4, w5, h2, h3]
      · simp [i64D, c1, c2, c3, w1, w2, w3, w4, w5, h1, h2]
  · have c3 := bigIC_at a
    have c4 := bigIC_at b
    have c5 := bAddC_at a b
    have c6 := fitC_at (a + b)
    have hs := qsz_add a b
    have hs' : qsz (a + b) < 1099511627776 := by unfold MX at hq; omega
    simp only [hq, hs', eBN_eq] at c5 c6
    generalize a + b = ab at *
    by_cases ha : lit31 a
    · have hb : ¬ lit31 b := fun h => hab ⟨ha, h⟩
      simp only [ha, hb, decide_true, decide_false] at c1 c2
      simp [-D.isLit, c1, c2, c3, c4, c5, c6, List.idxOf_cons]
    · simp only [ha, decide_false] at c1
      simp [-D.isLit, c1, c3, c4, c5, c6, List.idxOf_cons]
theorem radd_ok : callable Tryz.prog 49 = true := by kernel_rfl
noncomputable def rsubC := ctD r2E (fun p => qsz p.a + qsz p.b < MX) (fun p => [eRat (p.a - p.b)])
theorem rsubC_at (a b : Rat) : rsubC [eRat a, eRat b] = (qsz a + qsz b < MX, [eRat (a - b)]) := ctD_at r2E_inj ⟨a, b⟩
set_option maxHeartbeats 4000000 in
theorem rsub_spec : SpecD N Tryz.prog 43 rsubC := by
  refine rdD (mf := raMf) raTb_ok (fn := Tryz.f43) (by kernel_rfl) rfl (by kernel_rfl) ?_
  rintro ⟨a, b⟩ hq
  have hq : qsz a + qsz b < MX := hq
  refine ⟨by show 2 ≤ 62; decide, ?_⟩
  have c1 := littleC_at a
  have c2 := littleC_at b
  simp only [r2E, Tryz.f43, boolD] at c1 c2 ⊢
  by_cases hab : lit31 a ∧ lit31 b
  · obtain ⟨ha, hb⟩ := hab
    have sa := lit31_small ha
    have sb := lit31_small hb
    rw [eRat_s sa] at c1 ⊢
    rw [eRat_s sb] at c2 ⊢
    simp only [ha, hb, decide_true, i64D] at c1 c2
    unfold lit31 at ha hb
    have da := a.den_pos
    have db := b.den_pos
    have x1 := prod31 ha.1 (d := b.den) (by omega)
    have x2 := prod31 hb.1 (d := a.den) (by omega)
    have x3 := pos_bd (c := a.den) (d := b.den) (by omega) (by omega)
    have w1 : IntKind.i64.wrap (a.num - b.num) = a.num - b.num := i64_id _ (by omega) (by omega)
    have w2 : IntKind.i64.wrap (a.num * b.den) = a.num * b.den := i64_id _ (by omega) (by omega)
    have w3 : IntKind.i64.wrap (b.num * a.den) = b.num * a.den := i64_id _ (by omega) (by omega)
    have w4 : IntKind.i64.wrap ((a.den : Int) * b.den) = (a.den : Int) * b.den := i64_id _ (by omega) (by omega)
    have w5 : IntKind.i64.wrap (a.num * b.den - b.num * a.den) = a.num * b.den - b.num * a.den := i64_id _ (by omega) (by omega)
    by_cases hd : a.den = b.den
    · by_cases h1 : b.den = 1
      · have e := sub_same hd
        have hQ : QI (a.num - b.num) 1 := ⟨by omega, by simp, by omega, by omega⟩
        rw [hd, h1] at e
        rw [e]
        have e2 := eRat_QI hQ
        have e3 : Rat.divInt (a.num - b.num) ((1 : Nat) : Int) = Rat.divInt (a.num - b.num) 1 := rfl
        rw [e3, e2, hd, h1]
        rw [hd, h1] at c1
        rw [h1] at c2
        simp at c1 c2
        simp [i64D, c1, c2, w1]
      · have e := sub_same hd
        have c3 := lowC_at (a.num - b.num) b.den
        have b1 : (a.num - b.num).natAbs < 9223372036854775808 := by omega
        have b2 : 0 < (b.den : Int) := by omega
        have b3 : (b.den : Int) < 9223372036854775808 := by omega
        simp only [b1, b2, b3, and_self, i64D] at c3
        rw [e]
        rw [hd] at c1 ⊢
        have h1' : ¬ (b.den : Int) = 1 := by omega
        simp [i64D, c1, c2, c3, w1, h1, h1']
    · have c3 := lowC_at (a.num * b.den - b.num * a.den) ((a.den : Int) * b.den)
      have b1 : (a.num * b.den - b.num * a.den).natAbs < 9223372036854775808 := by omega
      have b2 : 0 < (a.den : Int) * b.den := by omega
      have b3 : (a.den : Int) * b.den < 9223372036854775808 := by omega
      simp only [b1, b2, b3, and_self, i64D] at c3
      rw [← sub_divInt] at c3
      generalize a - b = ab at *
      have h0 : ¬ ((a.den : Int) = 1 ∧ (b.den : Int) = 1) := by omega
      have h2 : ¬ (a.den : Int) = b.den := by omega
      generalize (a.den : Int) = d at *
      generalize (b.den : Int) = d' at *
      generalize a.num = n at *
      generalize b.num = n' at *
      by_cases h1 : d = 1
      · have h3 : ¬ d' = 1 := by omega
        subst h1
        simp at c1 c3 w3 w4 w5 h2
        simp [i64D, c1, c2, c3, w1, w2, w3, w4, w5, h2, h3]
      · simp [i64D, c1, c2, c3, w1, w2, w3, w4, w5, h1, h2]
  · have c3 := bigIC_at a
    have c4 := bigIC_at b
    have c5 := bSubC_at a b
    have c6 := fitC_at (a - b)
    have hs := qsz_sub a b
    have hs' : qsz (a - b) < 1099511627776 := by unfold MX at hq; omega
    simp only [hq, hs', eBN_eq] at c5 c6
    generalize a - b = ab at *
    by_cases ha : lit31 a
    · have hb : ¬ lit31 b := fun h => hab ⟨ha, h⟩
      simp only [ha, hb, decide_true, decide_false] at c1 c2
      simp [-D.isLit, c1, c2, c3, c4, c5, c6, List.idxOf_cons]
    · simp only [ha, decide_false] at c1
      simp [-D.isLit, c1, c3, c4, c5, c6, List.idxOf_cons]
theorem rsub_ok : callable Tryz.prog 43 = true := by kernel_rfl
end Go.Proofs.YtojbfdkpelldoaaGreatDoor.Ae

namespace Go.Proofs.YtojbfdkpelldoaaGreatDoor.Ae
open Go Go.RowKit Go.Proofs.YtojbfdkpelldoaaGreatDoor.Dig
variable {N : NR}
noncomputable def rsgC := ctD r1E (fun p => True) (fun p => [i64D p.a.num.sign])
theorem rsgC_at (a : Rat) : rsgC [eRat a] = (True, [i64D a.num.sign]) := ctD_at r1E_inj ⟨a⟩
noncomputable def rsgTb : List (FuncId × Ct) := [(68, .data bsgC)]
theorem rsgTb_ok : TbOK N Tryz.prog (tbl rsgTb) := tbl_cons (c := .data bsgC) RSign_spec RSign_ok tbl_nil
@[simp] theorem rsgTb1 : tbl rsgTb 68 = some (.data bsgC) := rfl
theorem rsign_spec : SpecD N Tryz.prog 44 rsgC := by
  refine rdD (mf := fun f => false) rsgTb_ok (fn := Tryz.f44) (by kernel_rfl) rfl (by kernel_rfl) ?_
  rintro ⟨a⟩ _
  refine ⟨by show 1 ≤ 17; decide, ?_⟩
  simp only [r1E, Tryz.f44]
  by_cases hs : smallQ a
  · rw [eRat_s hs]
    rcases Int.lt_trichotomy a.num 0 with h | h | h
    · rw [Int.sign_eq_neg_one_of_neg h]
      simp [i64D, h]
    · rw [h]
      simp [i64D]
    · rw [Int.sign_eq_one_of_pos h]
      have h1 : ¬ a.num < 0 := by omega
      simp [i64D, h, h1]
  · rw [eRat_b hs]
    have c1 := bsgC_at a
    simp only [i64D] at c1
    simp [i64D, c1]
theorem rsign_ok : callable Tryz.prog 44 = true := by kernel_rfl
noncomputable def rinvC := ctD r1E (fun p => qsz p.a < MX ∧ p.a ≠ 0) (fun p => [eRat p.a⁻¹])
theorem rinvC_at (a : Rat) : rinvC [eRat a] = ((qsz a < MX ∧ a ≠ 0), [eRat a⁻¹]) := ctD_at r1E_inj ⟨a⟩
noncomputable def rinvTb : List (FuncId × Ct) := [(110, .mut [true, false] bInvC), (65, .data fitC)]
theorem rinvTb_ok : TbOK N Tryz.prog (tbl rinvTb) := tbl_cons (c := .mut [true, false] bInvC) RInv_spec RInv_ok (tbl_cons (c := .data fitC) fit_spec fit_ok tbl_nil)
@[simp] theorem rinvTb1 : tbl rinvTb 110 = some (.mut [true, false] bInvC) := rfl
@[simp] theorem rinvTb2 : tbl rinvTb 65 = some (.data fitC) := rfl
theorem inv_pos {a : Rat} (h : 0 < a.num) : a⁻¹.num = a.den ∧ (a⁻¹.den : Int) = a.num := by
  have hr : Int.gcd a.den a.num = 1 := by rw [Int.gcd_comm]; exact a.reduced
  rw [inv_divInt]
  obtain ⟨e1, e2⟩ := low_pos (a := a.den) h
  rw [hr] at e1 e2
  rw [← e1, ← e2]
  simp
theorem inv_neg {a : Rat} (h : a.num < 0) : a⁻¹.num = -(a.den : Int) ∧ (a⁻¹.den : Int) = -a.num := by
  have hr : Int.gcd a.den a.num = 1 := by rw [Int.gcd_comm]; exact a.reduced
  rw [inv_divInt]
  obtain ⟨e1, e2⟩ := low_neg (a := a.den) h
  rw [hr] at e1 e2
  rw [← e1, ← e2]
  simp [Int.tdiv_neg]
theorem rinv_spec : SpecD N Tryz.prog 85 rinvC := by
  refine rdD (mf := fun f => f == 110 || f == 65) rinvTb_ok (fn := Tryz.f85) (by kernel_rfl) rfl (by kernel_rfl) ?_
  rintro ⟨a⟩ ⟨ha, h0⟩
  have ha : qsz a < MX := ha
  have h0 : a ≠ 0 := h0
  refine ⟨by show 1 ≤ 26; decide, ?_⟩
  simp only [r1E, Tryz.f85]
  have hn := num_ne h0
  have hd := a.den_pos
  by_cases hs : smallQ a
  · have hs' := hs
    unfold smallQ at hs'
    by_cases h : a.num < 0
    · obtain ⟨e1, e2⟩ := inv_neg h
      have hs2 : smallQ a⁻¹ := ⟨by omega, by omega⟩
      rw [eRat_s hs, eRat_s hs2, e1, e2]
      have w1 : IntKind.i64.wrap (-(a.den : Int)) = -(a.den : Int) := i64_id _ (by omega) (by omega)
      have w2 : IntKind.i64.wrap (-a.num) = -a.num := i64_id _ (by omega) (by omega)
      simp [i64D, h, w1, w2]
    · obtain ⟨e1, e2⟩ := inv_pos (a := a) (by omega)
      have hs2 : smallQ a⁻¹ := ⟨by omega, by omega⟩
      rw [eRat_s hs, eRat_s hs2, e1, e2]
      simp [i64D, h]
  · rw [eRat_b hs]
    have c1 := bInvC_at a
    have c2 := fitC_at a⁻¹
    have hq := qsz_inv h0
    have hq2 : qsz a⁻¹ < 1099511627776 := by unfold MX at ha; omega
    simp only [ha, h0, hq2, ne_eq, not_false_eq_true, and_self, eBN_eq] at c1 c2
    simp [-D.isLit, i64D, c1, c2]
theorem rinv_ok : callable Tryz.prog 85 = true := by kernel_rfl
def isQ (q : Rat) : Prop := q.num.natAbs ≤ 1000000000000000000 ∧ q.den ≤ 1000000000000000000
instance (q : Rat) : Decidable (isQ q) := by unfold isQ; infer_instance
def oQ (q : Rat) : List D := if isQ q then [eQ q.num q.den, boolD true] else [eQ 0 0, boolD false]
noncomputable def rqqC := ctD r1E (fun p => True) (fun p => oQ p.a)
theorem rqqC_at (a : Rat) : rqqC [eRat a] = (True, oQ a) := ctD_at r1E_inj ⟨a⟩
theorem rqq_spec : SpecD N Tryz.prog 21 rqqC := by
  refine rdD (mf := fun f => false) tbl_nil (fn := Tryz.f21) (by kernel_rfl) rfl (by kernel_rfl) ?_
  rintro ⟨a⟩ _
  refine ⟨by show 1 ≤ 28; decide, ?_⟩
  simp only [r1E, Tryz.f21, boolD]
  by_cases hs : smallQ a
  · rw [eRat_s hs]
    unfold oQ
    by_cases hq : isQ a
    · rw [if_pos hq]
      unfold isQ at hq
      have h1 : ¬ a.num < -1000000000000000000 := by omega
      have h2 : ¬ 1000000000000000000 < a.num := by omega
      have h3 : ¬ (1000000000000000000 : Int) < a.den := by omega
      simp [i64D, eQ, boolD, h1, h2, h3]
    · rw [if_neg hq]
      unfold isQ at hq
      by_cases h1 : a.num < -1000000000000000000
      · simp [i64D, eQ, boolD, h1]
      · by_cases h2 : 1000000000000000000 < a.num
        · simp [i64D, eQ, boolD, h1, h2]
        · have h3 : (1000000000000000000 : Int) < a.den := by omega
          simp [i64D, eQ, boolD, h1, h2, h3]
  · have hq : ¬ isQ a := by unfold smallQ at hs; unfold isQ; omega
    unfold oQ
    rw [eRat_b hs, if_neg hq]
    simp [i64D, eQ, boolD]
theorem rqq_ok : callable Tryz.prog 21 = true := by kernel_rfl
noncomputable def rflTb : List (FuncId × Ct) := [(67, .data bigIC), (77, .data numC), (78, .data denC), (76, .mut [true, false, false] idC)]
theorem rflTb_ok : TbOK N Tryz.prog (tbl rflTb) := tbl_cons (c := .data bigIC) big_spec big_ok (tbl_cons (c := .data numC) Num_spec Num_ok (tbl_cons (c := .data denC) Denom_spec Denom_ok (tbl_cons (c := .mut [true, false, false] idC) Div_spec Div_ok tbl_nil)))
@[simp] theorem rflTb1 : tbl rflTb 67 = some (.data bigIC) := rfl
@[simp] theorem rflTb2 : tbl rflTb 77 = some (.data numC) := rfl
@[simp] theorem rflTb3 : tbl rflTb 78 = some (.data denC) := rfl
@[simp] theorem rflTb4 : tbl rflTb 76 = some (.mut [true, false, false] idC) := rfl
theorem rfloor_ok : callable Tryz.prog 51 = true := by kernel_rfl
noncomputable def fiC := ctD pE (fun p => ln p.a.natAbs < MX) (fun p => [eRat (p.a : Rat)])
theorem fiC_at (a : Int) : fiC [.ptr (eZ a)] = (ln a.natAbs < MX, [eRat (a : Rat)]) := ctD_at pE_inj ⟨a⟩
noncomputable def fiTb : List (FuncId × Ct) := [(79, .mut [true, false] siC), (65, .data fitC)]
theorem fiTb_ok : TbOK N Tryz.prog (tbl fiTb) := tbl_cons (c := .mut [true, false] siC) SetInt_spec SetInt_ok (tbl_cons (c := .data fitC) fit_spec fit_ok tbl_nil)
@[simp] theorem fiTb1 : tbl fiTb 79 = some (.mut [true, false] siC) := rfl
@[simp] theorem fiTb2 : tbl fiTb 65 = some (.data fitC) := rfl
theorem qsz_int (a : Int) : qsz (a : Rat) = max (ln a.natAbs) 1 := by unfold qsz; rw [Rat.num_intCast, Rat.den_intCast, ln_one]
theorem fromInt_spec : SpecD N Tryz.prog 52 fiC := by
  refine rdD (mf := fun f => f == 79 || f == 65) fiTb_ok (fn := Tryz.f52) (by kernel_rfl) rfl (by kernel_rfl) ?_
  rintro ⟨a⟩ ha
  have ha : ln a.natAbs < MX := ha
  unfold MX at ha
  refine ⟨by show 1 ≤ 7; decide, ?_⟩
  have c1 := siC_at a
  have c2 := fitC_at (a : Rat)
  have h1 : SZ a := by rw [SZ_ln]; omega
  have h2 : qsz (a : Rat) < 1099511627776 := by rw [qsz_int]; omega
  simp only [h1, h2, eBN_eq] at c1 c2
  simp only [pE, Tryz.f52]
  simp [-D.isLit, c1, c2]
theorem fromInt_ok : callable Tryz.prog 52 = true := by kernel_rfl
noncomputable def m64C := ctD uuE (fun p => p.a < 18446744073709551616 ∧ p.b < 18446744073709551616) (fun p => [u64D (p.a * p.b / 18446744073709551616), u64D (p.a * p.b % 18446744073709551616)])
theorem m64C_at (a b : Nat) : m64C [u64D a, u64D b] = ((a < 18446744073709551616 ∧ b < 18446744073709551616), [u64D (a * b / 18446744073709551616), u64D (a * b % 18446744073709551616)]) := ctD_at uuE_inj ⟨a, b⟩
theorem and32 (x : Nat) (h : x < 18446744073709551616) : bAnd .u64 x 4294967295 = ((x % 4294967296 : Nat) : Int) := by
  have := bAnd64 x 4294967295 h (by decide)
  rw [show (x &&& 4294967295) = x % 4294967296 from Nat.and_two_pow_sub_one_eq_mod x 32] at this
  exact this
theorem mul_split (x1 x0 y1 y0 : Nat) : (x1 * 4294967296 + x0) * (y1 * 4294967296 + y0) = x1 * y1 * 18446744073709551616 + (x1 * y0 + x0 * y1) * 4294967296 + x0 * y0 := by
  grind
theorem bd32 {x y : Nat} (hx : x < 4294967296) (hy : y < 4294967296) : x * y ≤ 18446744065119617025 := by
  have := Nat.mul_le_mul (show x ≤ 4294967295 by omega) (show y ≤ 4294967295 by omega)
  omega
theorem Mul64_spec : SpecD N Tryz.prog 73 m64C := by
  refine rdD (mf := fun f => false) tbl_nil (fn := Tryz.f73) (by kernel_rfl) rfl (by kernel_rfl) ?_
  rintro ⟨x, y⟩ ⟨hx, hy⟩
  have hx : x < 18446744073709551616 := hx
  have hy : y < 18446744073709551616 := hy
  refine ⟨by show 2 ≤ 51; decide, ?_⟩
  simp only [uuE, u64D, Tryz.f73]
  have a1 := and32 x hx
  have a2 := and32 y hy
  have d1 : (x : Int) / 4294967296 = ((x / 4294967296 : Nat) : Int) := by omega
  have d2 : (y : Int) / 4294967296 = ((y / 4294967296 : Nat) : Int) := by omega
  have e := mul_split (x / 4294967296) (x % 4294967296) (y / 4294967296) (y % 4294967296)
  rw [Nat.div_add_mod', Nat.div_add_mod'] at e
  obtain ⟨x1, hx1⟩ : ∃ x1, x1 = x / 4294967296 := ⟨_, rfl⟩
  obtain ⟨x0, hx0⟩ : ∃ x0, x0 = x % 4294967296 := ⟨_, rfl⟩
  obtain ⟨y1, hy1⟩ : ∃ y1, y1 = y / 4294967296 := ⟨_, rfl⟩
  obtain ⟨y0, hy0⟩ : ∃ y0, y0 = y % 4294967296 := ⟨_, rfl⟩
  rw [← hx1, ← hx0, ← hy1, ← hy0] at e
  rw [← hx0] at a1
  rw [← hy0] at a2
  rw [← hx1] at d1
  rw [← hy1] at d2
  have b00 := bd32 (x := x0) (y := y0) (by omega) (by omega)
  have b10 := bd32 (x := x1) (y := y0) (by omega) (by omega)
  have b01 := bd32 (x := x0) (y := y1) (by omega) (by omega)
  have b11 := bd32 (x := x1) (y := y1) (by omega) (by omega)
  clear hx1 hx0 hy1 hy0
  have m0 : ((x0 : Int) * y0) = ((x0 * y0 : Nat) : Int) := by rw [Int.natCast_mul]
  have m1 : ((x1 : Int) * y0) = ((x1 * y0 : Nat) : Int) := by rw [Int.natCast_mul]
  have m2 : ((x0 : Int) * y1) = ((x0 * y1 : Nat) : Int) := by rw [Int.natCast_mul]
  have m3 : ((x1 : Int) * y1) = ((x1 * y1 : Nat) : Int) := by rw [Int.natCast_mul]
  have m4 : ((x : Int) * y) = ((x * y : Nat) : Int) := by rw [Int.natCast_mul]
  generalize x * y = p at *
  generalize x0 * y0 = p00 at *
  generalize x1 * y0 = p10 at *
  generalize x0 * y1 = p01 at *
  generalize x1 * y1 = p11 at *
  have w0 : IntKind.u64.wrap (p00 : Int) = p00 := u64_id _ (by omega) (by omega)
  have w1 : IntKind.u64.wrap (p10 : Int) = p10 := u64_id _ (by omega) (by omega)
  have w2 : IntKind.u64.wrap (p01 : Int) = p01 := u64_id _ (by omega) (by omega)
  have w3 : IntKind.u64.wrap (p11 : Int) = p11 := u64_id _ (by omega) (by omega)
  have d3 : (p00 : Int) / 4294967296 = ((p00 / 4294967296 : Nat) : Int) := by omega
  obtain ⟨t, ht⟩ : ∃ t, t = p10 + p00 / 4294967296 := ⟨_, rfl⟩
  have w4 : IntKind.u64.wrap ((p10 : Int) + ((p00 / 4294967296 : Nat) : Int)) = (t : Int) := by rw [u64_id _ (by omega) (by omega)]; omega
  have a3 := and32 t (by omega)
  have d4 : (t : Int) / 4294967296 = ((t / 4294967296 : Nat) : Int) := by omega
  obtain ⟨v, hv⟩ : ∃ v, v = t % 4294967296 + p01 := ⟨_, rfl⟩
  have w5 : IntKind.u64.wrap (((t % 4294967296 : Nat) : Int) + (p01 : Int)) = (v : Int) := by rw [u64_id _ (by omega) (by omega)]; omega
  have d5 : (v : Int) / 4294967296 = ((v / 4294967296 : Nat) : Int) := by omega
  have w6 : IntKind.u64.wrap ((p11 : Int) + ((t / 4294967296 : Nat) : Int)) = ((p11 + t / 4294967296 : Nat) : Int) := by rw [u64_id _ (by omega) (by omega)]; omega
  have w7 : IntKind.u64.wrap (((p11 + t / 4294967296 : Nat) : Int) + ((v / 4294967296 : Nat) : Int)) = ((p / 18446744073709551616 : Nat) : Int) := by rw [u64_id _ (by omega) (by omega)]; omega
  have w8 : IntKind.u64.wrap (p : Int) = ((p % 18446744073709551616 : Nat) : Int) := by rw [wrap_u64]; omega
  generalize p / 18446744073709551616 = hi at *
  generalize p % 18446744073709551616 = lo at *
  generalize p11 + t / 4294967296 = u at *
  generalize v / 4294967296 = v1 at *
  generalize t / 4294967296 = t1 at *
  generalize t % 4294967296 = t0 at *
  generalize p00 / 4294967296 = q0 at *
  simp [a1, a2, a3, d1, d2, d3, d4, d5, m0, m1, m2, m3, m4, w0, w1, w2, w3, w4, w5, w6, w7, w8]
theorem Mul64_ok : callable Tryz.prog 73 = true := by kernel_rfl
end Go.Proofs.YtojbfdkpelldoaaGreatDoor.Ae

namespace Go.Proofs.YtojbfdkpelldoaaGreatDoor.Ae
open Go Go.RowKit Go.Proofs.YtojbfdkpelldoaaGreatDoor.Dig
variable {N : NR}
theorem mul_low (a b : Rat) : (a * b).num = (a.num.tdiv (Nat.gcd a.num.natAbs b.den)) * (b.num.tdiv (Nat.gcd b.num.natAbs a.den)) ∧ (a * b).den = (a.den / Nat.gcd b.num.natAbs a.den) * (b.den / Nat.gcd a.num.natAbs b.den) := by
  have h1 : (Nat.gcd a.num.natAbs b.den : Int) ∣ a.num := Int.ofNat_dvd_left.2 (Nat.gcd_dvd_left _ _)
  have h2 : (Nat.gcd b.num.natAbs a.den : Int) ∣ b.num := Int.ofNat_dvd_left.2 (Nat.gcd_dvd_left _ _)
  rw [Int.tdiv_eq_ediv_of_dvd h1, Int.tdiv_eq_ediv_of_dvd h2]
  show (Rat.mul a b).num = _ ∧ (Rat.mul a b).den = _
  unfold Rat.mul
  simp
noncomputable def rmC := ctD r2E (fun p => qsz p.a + qsz p.b < MX) (fun p => [eRat (p.a * p.b)])
theorem rmC_at (a b : Rat) : rmC [eRat a, eRat b] = (qsz a + qsz b < MX, [eRat (a * b)]) := ctD_at r2E_inj ⟨a, b⟩
noncomputable def rmTb : List (FuncId × Ct) := [(63, .data littleC), (64, .data lowC), (67, .data bigIC), (74, .mut [true, false, false] bMulC), (65, .data fitC), (50, .data riC), (71, .data absC), (70, .data gcdC), (73, .data m64C)]
theorem rmTb_ok : TbOK N Tryz.prog (tbl rmTb) := tbl_cons (c := .data littleC) little_spec little_ok (tbl_cons (c := .data lowC) low_spec low_ok (tbl_cons (c := .data bigIC) big_spec big_ok (tbl_cons (c := .mut [true, false, false] bMulC) RMul_spec RMul_ok (tbl_cons (c := .data fitC) fit_spec fit_ok (tbl_cons (c := .data riC) ri_spec ri_ok (tbl_cons (c := .data absC) abs64_spec abs64_ok (tbl_cons (c := .data gcdC) gcd64_spec gcd64_ok (tbl_cons (c := .data m64C) Mul64_spec Mul64_ok tbl_nil))))))))
@[simp] theorem rmTb1 : tbl rmTb 63 = some (.data littleC) := rfl
@[simp] theorem rmTb2 : tbl rmTb 64 = some (.data lowC) := rfl
@[simp] theorem rmTb3 : tbl rmTb 67 = some (.data bigIC) := rfl
@[simp] theorem rmTb4 : tbl rmTb 74 = some (.mut [true, false, false] bMulC) := rfl
@[simp] theorem rmTb5 : tbl rmTb 65 = some (.data fitC) := rfl
@[simp] theorem rmTb6 : tbl rmTb 50 = some (.data riC) := rfl
@[simp] theorem rmTb7 : tbl rmTb 71 = some (.data absC) := rfl
@[simp] theorem rmTb8 : tbl rmTb 70 = some (.data gcdC) := rfl
@[simp] theorem rmTb9 : tbl rmTb 73 = some (.data m64C) := rfl
theorem mul_way {n n' : Int} {d d' g h : Nat} (hg : g = Nat.gcd n.natAbs d') (hh : h = Nat.gcd n'.natAbs d) (hd : 0 < d) (hd' : 0 < d') (hn : n.natAbs < 9223372036854775808) (hn' : n'.natAbs < 9223372036854775808) (hdl : d < 9223372036854775808) (hdl' : d' < 9223372036854775808) :
    0 < g ∧ 0 < h ∧ g < 9223372036854775808 ∧ h < 9223372036854775808 ∧ (n.tdiv g).natAbs < 9223372036854775808 ∧ (n'.tdiv h).natAbs < 9223372036854775808 ∧ Int.tdiv d h = ((d / h : Nat) : Int) ∧ Int.tdiv d' g = ((d' / g : Nat) : Int) ∧ d / h < 9223372036854775808 ∧ d' / g < 9223372036854775808 := by
  have g1 : 0 < g := by rw [hg]; exact Nat.gcd_pos_of_pos_right _ hd'
  have h1 : 0 < h := by rw [hh]; exact Nat.gcd_pos_of_pos_right _ hd
  have g2 : g ≤ d' := by rw [hg]; exact Nat.le_of_dvd hd' (Nat.gcd_dvd_right _ _)
  have h2 : h ≤ d := by rw [hh]; exact Nat.le_of_dvd hd (Nat.gcd_dvd_right _ _)
  have b1 : (n.tdiv g).natAbs ≤ n.natAbs := by rw [Int.natAbs_tdiv]; exact Nat.div_le_self _ _
  have b2 : (n'.tdiv h).natAbs ≤ n'.natAbs := by rw [Int.natAbs_tdiv]; exact Nat.div_le_self _ _
  have b3 := Nat.div_le_self d h
  have b4 := Nat.div_le_self d' g
  exact ⟨g1, h1, by omega, by omega, by omega, by omega, tdiv_nat d h, tdiv_nat d' g, by omega, by omega⟩
theorem sign_prod (x y : Int) (h : (x * y).natAbs < 9223372036854775808) : (if (decide (x < 0) != decide (y < 0)) = true then IntKind.i64.wrap (-((x.natAbs * y.natAbs : Nat) : Int)) else ((x.natAbs * y.natAbs : Nat) : Int)) = x * y := by
  rw [← Int.natAbs_mul]
  by_cases hx : x < 0 <;> by_cases hy : y < 0
  · have := Int.mul_pos_of_neg_of_neg hx hy
    simp [hx, hy]; omega
  · have : x * y ≤ 0 := Int.mul_nonpos_of_nonpos_of_nonneg (by omega) (by omega)
    simp [hx, hy]
    rw [i64_id _ (by omega) (by omega)]; omega
  · have : x * y ≤ 0 := Int.mul_nonpos_of_nonneg_of_nonpos (by omega) (by omega)
    simp [hx, hy]
    rw [i64_id _ (by omega) (by omega)]; omega
  · have : 0 ≤ x * y := Int.mul_nonneg (by omega) (by omega)
    simp [hx, hy]; omega
def rmMf : FuncId → Bool := fun f => f == 74 || f == 65
attribute [simp] rmMf
set_option maxRecDepth 100000 in
set_option maxHeartbeats 8000000 in
theorem rmul_spec : SpecD N Tryz.prog 48 rmC := by
  refine rdD (mf := rmMf) rmTb_ok (fn := Tryz.f48) (by kernel_rfl) rfl (by kernel_rfl) ?_
  rintro ⟨a, b⟩ hq
  have hq : qsz a + qsz b < MX := hq
  refine ⟨by show 2 ≤ 146; decide, ?_⟩
  simp only [r2E, Tryz.f48]
  have d1 := bigIC_at a
  have d2 := bigIC_at b
  have d3 := bMulC_at a b
  have d4 := fitC_at (a * b)
  have hs := qsz_mul a b
  have hs' : qsz (a * b) < 1099511627776 := by unfold MX at hq; omega
  simp only [hq, hs', eBN_eq] at d3 d4
  by_cases hab : smallQ a ∧ smallQ b
  · obtain ⟨sa, sb⟩ := hab
    by_cases hz : a.num = 0 ∨ b.num = 0
    · have e : a * b = ((0 : Int) : Rat) := by
        rw [mul_divInt]
        have : a.num * b.num = 0 := by rcases hz with h | h <;> rw [h] <;> simp
        rw [this]; simp
      have c1 := riC_at 0
      simp [i64D] at c1
      rw [e, eRat_s sa, eRat_s sb]
      by_cases h0 : a.num = 0
      · simp [i64D, h0, c1]
      · have h1 : b.num = 0 := by rcases hz with h | h; exact absurd h h0; exact h
        simp [i64D, h0, h1, c1]
    · have z1 : ¬ a.num = 0 := fun h => hz (.inl h)
      have z2 : ¬ b.num = 0 := fun h => hz (.inr h)
      have c1 := littleC_at a
      have c2 := littleC_at b
      have da := a.den_pos
      have db := b.den_pos
      by_cases hl : lit31 a ∧ lit31 b
      · obtain ⟨ha, hb⟩ := hl
        rw [eRat_s sa] at c1 ⊢
        rw [eRat_s sb] at c2 ⊢
        simp only [ha, hb, decide_true, boolD, i64D] at c1 c2
        unfold lit31 at ha hb
        have x1 : -4611686018427387904 < a.num * b.num ∧ a.num * b.num < 4611686018427387904 := by
          have h1 : (a.num * b.num).natAbs ≤ 2147483647 * 2147483647 := by rw [Int.natAbs_mul]; exact Nat.mul_le_mul (by omega) (by omega)
          omega
        have x3 := pos_bd (c := a.den) (d := b.den) (by omega) (by omega)
        have w1 : IntKind.i64.wrap (a.num * b.num) = a.num * b.num := i64_id _ (by omega) (by omega)
        have w4 : IntKind.i64.wrap ((a.den : Int) * b.den) = (a.den : Int) * b.den := i64_id _ (by omega) (by omega)
        have c3 := lowC_at (a.num * b.num) ((a.den : Int) * b.den)
        have b1 : (a.num * b.num).natAbs < 9223372036854775808 := by omega
        have b2 : 0 < (a.den : Int) * b.den := by omega
        have b3 : (a.den : Int) * b.den < 9223372036854775808 := by omega
        simp only [b1, b2, b3, and_self, i64D] at c3
        rw [← mul_divInt] at c3
        by_cases h1 : a.den = 1 ∧ b.den = 1
        · obtain ⟨h1, h2⟩ := h1
          have hQ : QI (a.num * b.num) 1 := ⟨by omega, by simp, by omega, by omega⟩
          have e2 := eRat_QI hQ
          have e3 : a * b = Rat.divInt (a.num * b.num) 1 := by rw [mul_divInt, h1, h2]; rfl
          rw [e3, e2]
          rw [h1] at c1 ⊢
          rw [h2] at c2 ⊢
          simp at c1 c2
          simp [i64D, c1, c2, w1, z1, z2]
        · generalize a * b = ab at *
          by_cases h2 : a.den = 1
          · have h3 : ¬ b.den = 1 := fun h => h1 ⟨h2, h⟩
            have h3' : ¬ (b.den : Int) = 1 := by omega
            rw [h2] at c1 c3 w4 ⊢
            simp at c1 c3 w4
            simp [i64D, c1, c2, c3, w1, w4, z1, z2, h3, h3']
          · have h2' : ¬ (a.den : Int) = 1 := by omega
            simp [i64D, c1, c2, c3, w1, w4, z1, z2, h2, h2']
      · have hlit : ((decide (lit31 a)) && decide (lit31 b)) = false := by
          rw [← Bool.decide_and]
          exact decide_eq_false hl
        obtain ⟨m1, m2⟩ := mul_low a b
        obtain ⟨g, hg⟩ : ∃ g, g = Nat.gcd a.num.natAbs b.den := ⟨_, rfl⟩
        obtain ⟨h, hh⟩ : ∃ h, h = Nat.gcd b.num.natAbs a.den := ⟨_, rfl⟩
        have sa' := sa
        have sb' := sb
        unfold smallQ at sa' sb'
        obtain ⟨q1, q2, q3, q4, q5, q6, q7, q8, q9, q10⟩ := mul_way hg hh da db sa'.1 sb'.1 sa'.2 sb'.2
        rw [← hg, ← hh] at m1 m2
        have g1 := absC_at a.num
        have g2 := absC_at b.num
        have g3 := gcdC_at a.num.natAbs b.den
        have g4 := gcdC_at b.num.natAbs a.den
        have i1 : I64 a.num := by unfold I64; omega
        have i2 : I64 b.num := by unfold I64; omega
        have i3 : a.num.natAbs < 18446744073709551616 := by omega
        have i4 : b.num.natAbs < 18446744073709551616 := by omega
        have i5 : a.den < 18446744073709551616 := by omega
        have i6 : b.den < 18446744073709551616 := by omega
        rw [← hg] at g3
        rw [← hh] at g4
        simp only [i1, i2, i3, i4, i5, i6, and_self, u64D, i64D] at g1 g2 g3 g4
        have w1 : IntKind.u64.wrap (a.den : Int) = a.den := u64_id _ (by omega) (by omega)
        have w2 : IntKind.u64.wrap (b.den : Int) = b.den := u64_id _ (by omega) (by omega)
        have w3 : IntKind.i64.wrap (g : Int) = g := i64_id _ (by omega) (by omega)
        have w4 : IntKind.i64.wrap (h : Int) = h := i64_id _ (by omega) (by omega)
        have hgz : ¬ g = 0 := by omega
        have hhz : ¬ h = 0 := by omega
        rw [eRat_s sa] at c1 d1 ⊢
        rw [eRat_s sb] at c2 d2 ⊢
        simp only [boolD, i64D] at c1 c2 d1 d2 ⊢
        have hsm : smallQ (a * b) ↔ (a.num.tdiv g).natAbs * (b.num.tdiv h).natAbs < 9223372036854775808 ∧ a.den / h * (b.den / g) < 9223372036854775808 := by
          unfold smallQ
          rw [m1, m2, Int.natAbs_mul]
        have heR := fun hh => eRat_s (q := a * b) hh
        rw [m1, m2] at heR
        clear m1 m2 hg hh sa' sb' i1 i2 i3 i4 i5 i6 hz hs hs' hq sa sb hl
        generalize decide (lit31 a) = la at *
        generalize decide (lit31 b) = lb at *
        generalize eBR a = ba at *
        generalize eBR b = bb at *
        generalize a * b = ab at *
        generalize hX : a.num.tdiv g = x at *
        generalize hY : b.num.tdiv h = y at *
        generalize a.den / h = u at *
        generalize b.den / g = v at *
        have w5 : IntKind.i64.wrap x = x := i64_id _ (by omega) (by omega)
        have w6 : IntKind.i64.wrap y = y := i64_id _ (by omega) (by omega)
        have w7 : IntKind.i64.wrap (u : Int) = u := i64_id _ (by omega) (by omega)
        have w8 : IntKind.i64.wrap (v : Int) = v := i64_id _ (by omega) (by omega)
        have w9 : IntKind.u64.wrap (u : Int) = u := u64_id _ (by omega) (by omega)
        have w10 : IntKind.u64.wrap (v : Int) = v := u64_id _ (by omega) (by omega)
        have j1 := absC_at x
        have j2 := absC_at y
        have j3 := m64C_at x.natAbs y.natAbs
        have j4 := m64C_at u v
        have k1 : I64 x := by unfold I64; omega
        have k2 : I64 y := by unfold I64; omega
        have k3 : x.natAbs < 18446744073709551616 := by omega
        have k4 : y.natAbs < 18446744073709551616 := by omega
        have k5 : u < 18446744073709551616 := by omega
        have k6 : v < 18446744073709551616 := by omega
        simp only [k1, k2, k3, k4, k5, k6, and_self, i64D, u64D] at j1 j2 j3 j4
        have sp := sign_prod x y
        rw [Int.natAbs_mul] at sp
        obtain ⟨P, hP⟩ : ∃ P, P = x.natAbs * y.natAbs := ⟨_, rfl⟩
        obtain ⟨R, hR⟩ : ∃ R, R = u * v := ⟨_, rfl⟩
        rw [← hP] at j3 sp hsm
        rw [← hR] at j4 hsm
        have fin : P / 18446744073709551616 = 0 → R / 18446744073709551616 = 0 → P % 18446744073709551616 < 9223372036854775808 → R % 18446744073709551616 < 9223372036854775808 →
            ∃ s : Int, (if (decide (x < 0) != decide (y < 0)) = true then IntKind.i64.wrap (-IntKind.i64.wrap ((P % 18446744073709551616 : Nat) : Int)) else IntKind.i64.wrap ((P % 18446744073709551616 : Nat) : Int)) = s ∧ eRat ab = .agg [.lit (.int .i64 s), .lit (.int .i64 (IntKind.i64.wrap ((R % 18446744073709551616 : Nat) : Int))), .lit (.pointer none)] := by
          intro o1 o2 o3 o4
          have b1 : P < 9223372036854775808 := by omega
          have b2 : R < 9223372036854775808 := by omega
          have e3 : P % 18446744073709551616 = P := Nat.mod_eq_of_lt (by omega)
          have e4 : R % 18446744073709551616 = R := Nat.mod_eq_of_lt (by omega)
          have w11 : IntKind.i64.wrap (P : Int) = P := i64_id _ (by omega) (by omega)
          have w12 : IntKind.i64.wrap (R : Int) = R := i64_id _ (by omega) (by omega)
          rw [e3, e4, w11, w12, heR (hsm.2 ⟨b1, b2⟩), hR]
          exact ⟨_, sp b1, rfl⟩
        clear sp heR k1 k2 k3 k4 k5 k6 hP hR hsm
        generalize P / 18446744073709551616 = p1 at *
        generalize P % 18446744073709551616 = p0 at *
        generalize R / 18446744073709551616 = r1 at *
        generalize R % 18446744073709551616 = r0 at *
        have t1 : ((p0 : Nat) : Int) < 9223372036854775808 ↔ p0 < 9223372036854775808 := by omega
        have t2 : ((r0 : Nat) : Int) < 9223372036854775808 ↔ r0 < 9223372036854775808 := by omega
        cases la with
        | false =>
          simp [-D.isLit, c1, d1, d2, d3, d4, g1, g2, g3, g4, j1, j2, j3, j4, w1, w2, w3, w4, w5, w6, w7, w8, w9, w10, hX, hY, q7, q8, hgz, hhz, z1, z2, List.idxOf_cons]
          intro o1 o2 o3 o4
          obtain ⟨s, hs1, hs2⟩ := fin o1 o2 (t1.1 o3) (t2.1 o4)
          rw [hs2]
          constructor
          · intro hxy
            rw [if_pos (by by_cases hx : x < 0 <;> by_cases hy : y < 0 <;> simp [hx, hy] at hxy ⊢)] at hs1
            rw [hs1]
            exact Sub.refl _
          · intro hxy
            rw [if_neg (by by_cases hx : x < 0 <;> by_cases hy : y < 0 <;> simp [hx, hy] at hxy ⊢)] at hs1
            rw [hs1]
            exact Sub.refl _
        | true =>
          cases lb with
          | true => simp at hlit
          | false =>
            simp [-D.isLit, c1, c2, d1, d2, d3, d4, g1, g2, g3, g4, j1, j2, j3, j4, w1, w2, w3, w4, w5, w6, w7, w8, w9, w10, hX, hY, q7, q8, hgz, hhz, z1, z2, List.idxOf_cons]
            intro o1 o2 o3 o4
            obtain ⟨s, hs1, hs2⟩ := fin o1 o2 (t1.1 o3) (t2.1 o4)
            rw [hs2]
            constructor
            · intro hxy
              rw [if_pos (by by_cases hx : x < 0 <;> by_cases hy : y < 0 <;> simp [hx, hy] at hxy ⊢)] at hs1
              rw [hs1]
              exact Sub.refl _
            · intro hxy
              rw [if_neg (by by_cases hx : x < 0 <;> by_cases hy : y < 0 <;> simp [hx, hy] at hxy ⊢)] at hs1
              rw [hs1]
              exact Sub.refl _
  · by_cases sa : smallQ a
    · have sb : ¬ smallQ b := fun h => hab ⟨sa, h⟩
      rw [eRat_s sa] at d1 ⊢
      rw [eRat_b sb] at d2 ⊢
      simp only [i64D] at d1 d2
      simp [-D.isLit, i64D, d1, d2, d3, d4, List.idxOf_cons]
    · rw [eRat_b sa] at d1 ⊢
      simp only [i64D] at d1
      simp [-D.isLit, i64D, d1, d2, d3, d4, List.idxOf_cons]
theorem rmul_ok : callable Tryz.prog 48 = true := by kernel_rfl
noncomputable def rdvC := ctD r2E (fun p => qsz p.a + qsz p.b < MX ∧ p.b ≠ 0) (fun p => [eRat (p.a / p.b)])
theorem rdvC_at (a b : Rat) : rdvC [eRat a, eRat b] = ((qsz a + qsz b < MX ∧ b ≠ 0), [eRat (a / b)]) := ctD_at r2E_inj ⟨a, b⟩
noncomputable def rdvTb : List (FuncId × Ct) := [(48, .data rmC), (85, .data rinvC)]
theorem rdvTb_ok : TbOK N Tryz.prog (tbl rdvTb) := tbl_cons (c := .data rmC) rmul_spec rmul_ok (tbl_cons (c := .data rinvC) rinv_spec rinv_ok tbl_nil)
@[simp] theorem rdvTb1 : tbl rdvTb 48 = some (.data rmC) := rfl
@[simp] theorem rdvTb2 : tbl rdvTb 85 = some (.data rinvC) := rfl
theorem rdiv_spec : SpecD N Tryz.prog 54 rdvC := by
  refine rdD (mf := fun f => false) rdvTb_ok (fn := Tryz.f54) (by kernel_rfl) rfl (by kernel_rfl) ?_
  rintro ⟨a, b⟩ ⟨hq, h0⟩
  have hq : qsz a + qsz b < MX := hq
  have h0 : b ≠ 0 := h0
  refine ⟨by show 2 ≤ 9; decide, ?_⟩
  simp only [r2E, Tryz.f54]
  have c1 := rinvC_at b
  have c2 := rmC_at a b⁻¹
  have h1 := qsz_inv h0
  have h2 : qsz b < MX := by omega
  have h3 : qsz a + qsz b⁻¹ < MX := by omega
  rw [← Rat.div_def] at c2
  simp only [h0, h2, h3, ne_eq, not_false_eq_true, and_self] at c1 c2
  simp [c1, c2]
theorem rdiv_ok : callable Tryz.prog 54 = true := by kernel_rfl
end Go.Proofs.YtojbfdkpelldoaaGreatDoor.Ae

namespace Go.Proofs.YtojbfdkpelldoaaGreatDoor.Ae
open Go Go.RowKit Go.Proofs.YtojbfdkpelldoaaGreatDoor.Dig
variable {N : NR}
def qOk (n d : Int) : Prop := (1 ≤ d ∧ d ≤ 1000000000000000000) ∧ (-1000000000000000000 ≤ n ∧ n ≤ 1000000000000000000) ∧ Int.gcd n d = 1
instance (n d : Int) : Decidable (qOk n d) := by unfold qOk; infer_instance
theorem qOk_QI {n d : Int} (h : qOk n d) : QI n d := ⟨by unfold qOk at h; omega, h.2.2, by unfold qOk at h; omega, by unfold qOk at h; omega⟩
noncomputable def qokC := ctD qE (fun p => I64 p.a ∧ I64 p.b) (fun p => [boolD (decide (qOk p.a p.b))])
theorem qokC_at (a b : Int) : qokC [eQ a b] = ((I64 a ∧ I64 b), [boolD (decide (qOk a b))]) := ctD_at qE_inj ⟨a, b⟩
theorem iQOk_spec : SpecD N Tryz.prog 46 qokC := by
  refine rdD (mf := fun f => false) lowTb_ok (fn := Tryz.f46) (by kernel_rfl) rfl (by kernel_rfl) ?_
  rintro ⟨n, d⟩ ⟨hn, hd⟩
  have hn : I64 n := hn
  have hd : I64 d := hd
  refine ⟨by show 1 ≤ 31; decide, ?_⟩
  have c1 := absC_at n
  have c2 := gcdC_at n.natAbs d.natAbs
  unfold I64 at hd
  have h2 : n.natAbs < 18446744073709551616 := by unfold I64 at hn; omega
  have h3 : d.natAbs < 18446744073709551616 := by omega
  have e3 : Nat.gcd n.natAbs d.natAbs = Int.gcd n d := rfl
  simp only [hn, h2, h3, e3, and_self, u64D, i64D] at c1 c2
  simp only [qE, eQ, i64D, Tryz.f46, boolD]
  have hw : 1 ≤ d → IntKind.u64.wrap d = (d.natAbs : Int) := fun h => by rw [wrap_u64]; omega
  have e : decide (qOk n d) = (decide (1 ≤ d) && (decide (d ≤ 1000000000000000000) && (decide (-1000000000000000000 ≤ n) && (decide (n ≤ 1000000000000000000) && decide (Int.gcd n d = 1))))) := by
    rw [← Bool.decide_and, ← Bool.decide_and, ← Bool.decide_and, ← Bool.decide_and]
    congr 1
    apply propext
    unfold qOk
    constructor
    · rintro ⟨⟨a, b⟩, ⟨c, e⟩, f⟩; exact ⟨a, b, c, e, f⟩
    · rintro ⟨a, b, c, e, f⟩; exact ⟨⟨a, b⟩, ⟨c, e⟩, f⟩
  rw [e]
  clear e e3
  generalize Int.gcd n d = g at *
  by_cases h1 : 1 ≤ d
  · have w1 := hw h1
    by_cases h4 : d ≤ 1000000000000000000 <;> by_cases h5 : -1000000000000000000 ≤ n <;> by_cases h6 : n ≤ 1000000000000000000 <;> simp [h1, h4, h5, h6, w1, c1, c2]
    by_cases h7 : g = 1
    · subst h7; simp
    · have h7' : ¬ (g : Int) = 1 := by omega
      simp [h7, h7']
  · simp [h1]
theorem iQOk_ok : callable Tryz.prog 46 = true := by kernel_rfl
structure QL where
  l : List (Int × Int)
def eQL (l : List (Int × Int)) : D := .sl 2 (l.map fun p => eQ p.1 p.2)
def qlE (p : QL) : List D := [eQL p.l]
theorem eQ_inj {a b c d : Int} (h : eQ a b = eQ c d) : a = c ∧ b = d := by
  simp only [eQ, D.agg.injEq, List.cons.injEq, and_true] at h
  exact ⟨i64D_inj h.1, i64D_inj h.2⟩
theorem eQL_inj : ∀ {a b : List (Int × Int)}, eQL a = eQL b → a = b
  | [], [], _ => rfl
  | x :: a, y :: b, h => by
    simp only [eQL, D.sl.injEq, List.map_cons, List.cons.injEq, true_and] at h
    obtain ⟨h1, h2⟩ := eQ_inj h.1
    have h3 : eQL a = eQL b := by unfold eQL; rw [h.2]
    rw [eQL_inj h3]
    congr 1
    exact Prod.ext h1 h2
  | [], _ :: _, h => by simp [eQL] at h
  | _ :: _, [], h => by simp [eQL] at h
theorem qlE_inj (p q : QL) (h : qlE p = qlE q) : p = q := by
  obtain ⟨a⟩ := p; obtain ⟨b⟩ := q
  simp only [qlE, List.cons.injEq, and_true] at h
  rw [eQL_inj h]
def I64p (p : Int × Int) : Prop := I64 p.1 ∧ I64 p.2
noncomputable def allQC := ctD qlE (fun p => p.l.length < 4611686018427387904 ∧ ∀ q ∈ p.l, I64p q) (fun p => [boolD (p.l.all fun q => decide (qOk q.1 q.2))])
theorem allQC_at (l : List (Int × Int)) : allQC [eQL l] = ((l.length < 4611686018427387904 ∧ ∀ q ∈ l, I64p q), [boolD (l.all fun q => decide (qOk q.1 q.2))]) := ctD_at qlE_inj ⟨l⟩
noncomputable def allQTb : List (FuncId × Ct) := [(46, .data qokC)]
theorem allQTb_ok : TbOK N Tryz.prog (tbl allQTb) := tbl_cons (c := .data qokC) iQOk_spec iQOk_ok tbl_nil
@[simp] theorem allQTb1 : tbl allQTb 46 = some (.data qokC) := rfl
@[simp] theorem eQ_size (n d : Int) : (eQ n d).size = 2 := rfl
@[simp] theorem eQ_agg (n d : Int) : (eQ n d).isAgg = true := rfl
@[simp] theorem eQ_lit (n d : Int) : (eQ n d).isLit = false := rfl
def allQS (l : List (Int × Int)) (k : Nat) : St := ⟨[.any, .any, .any, .any, .any, .dat (eQL l), .dat (.lit (.int .i64 l.length)), .dat (.lit (.int .i64 k)), .any, .any, .any, .any, .any, .any, .any], [none, none, none, none, none, none, none, none, none, none, none, none, none, none, none]⟩
theorem all_drop {α : Type} (f : α → Bool) (l : List α) (k : Nat) (x : α) (h : l[k]? = some x) (hb : ∀ y ∈ l.take k, f y = true) : (f x = false → l.all f = false) ∧ (f x = true → ∀ y ∈ l.take (k + 1), f y = true) := by
  constructor
  · intro hx
    rw [List.all_eq_false]
    exact ⟨x, List.mem_of_getElem? h, by rw [hx]; simp⟩
  · intro hx y hy
    rw [take_succ l k x h] at hy
    rcases List.mem_append.1 hy with hy | hy
    · exact hb y hy
    · simp at hy; rw [hy]; exact hx
theorem allQ_spec : SpecD N Tryz.prog 41 allQC := by
  refine rdD (mf := fun f => false) allQTb_ok (fn := Tryz.f41) (by kernel_rfl) rfl (by kernel_rfl) ?_
  rintro ⟨l⟩ ⟨hl, hb⟩
  have hl : l.length < 4611686018427387904 := hl
  have hb : ∀ q ∈ l, I64p q := hb
  refine ⟨by show 1 ≤ 15; decide, ?_⟩
  simp only [qlE, boolD, Tryz.f41]
  generalize hr : (l.all fun q => decide (qOk q.1 q.2)) = r
  simp [eQL]
  refine loop_go (fun n st => ∃ k, n = l.length - k ∧ k ≤ l.length ∧ (∀ y ∈ l.take k, decide (qOk y.1 y.2) = true) ∧ st = allQS l k) (s0 := allQS l 0) (n := l.length) (snd_of (by simp [LeT, allQS, eQL]) (by simp [allQS])) ⟨0, rfl, Nat.zero_le _, by simp, rfl⟩ ?_
  rintro n st ⟨k, hn, hk, hall, rfl⟩ KN hN
  by_cases h : k < l.length
  · have hx := List.getElem?_eq_getElem h
    obtain ⟨⟨n0, d0⟩, hq⟩ : ∃ q, q = l[k] := ⟨_, rfl⟩
    rw [← hq] at hx
    have e1 : ix (l.map fun p => eQ p.1 p.2) k = some (eQ n0 d0) := by
      unfold ix
      rw [List.getElem?_map, hx]; rfl
    obtain ⟨i1, i2⟩ := hb (n0, d0) (List.mem_of_getElem? hx)
    have c1 := qokC_at n0 d0
    have i1 : I64 n0 := i1
    have i2 : I64 d0 := i2
    simp only [i1, i2, and_self, boolD] at c1
    obtain ⟨a1, a2⟩ := all_drop (fun q => decide (qOk q.1 q.2)) l k (n0, d0) hx hall
    have w1 : IntKind.i64.wrap ((k : Int) + 1) = (k : Int) + 1 := i64_id _ (by omega) (by omega)
    by_cases hok : qOk n0 d0
    · have a2 := a2 (by simp [hok])
      simp only [hok, decide_true] at c1
      simp [allQS, eQL, h, e1, c1, w1]
      exact hN _ (nx (m := l.length - (k + 1)) (s'' := allQS l (k + 1)) (snd_obs (n := 15) [] rfl (by simp) (by simp [allQS, eQL])) ⟨k + 1, rfl, h, a2, rfl⟩ (by omega))
    · have a1 := a1 (by simp [hok])
      rw [hr] at a1
      subst a1
      simp only [hok, decide_false] at c1
      simp [allQS, eQL, h, e1, c1, w1]
  · have hkl : k = l.length := by omega
    subst hkl
    rw [List.take_length] at hall
    have hrt : r = true := by rw [← hr, List.all_eq_true]; exact hall
    subst hrt
    simp [allQS, eQL]
theorem allQ_ok : callable Tryz.prog 41 = true := by kernel_rfl
end Go.Proofs.YtojbfdkpelldoaaGreatDoor.Ae

namespace Go.Proofs.YtojbfdkpelldoaaGreatDoor.Ae
open Go Go.RowKit Go.Proofs.YtojbfdkpelldoaaGreatDoor.Dig
theorem nn_z (z : Int) : ∀ k q, eZ z ≠ .num k q := fun k q h => by unfold eZ at h; cases h
theorem nn_i (z : Int) : ∀ k q, i64D z ≠ .num k q := fun k q h => by unfold i64D at h; cases h
theorem nn_q (a b : Int) : ∀ k q, eQ a b ≠ .num k q := fun k q h => by unfold eQ at h; cases h
theorem nn_b (b : Bool) : ∀ k q, boolD b ≠ .num k q := fun k q h => by unfold boolD at h; cases h
noncomputable def nAddC := ctD f2E (fun p => qsz p.a + qsz p.b < MX) (fun p => [nD (p.a + p.b)])
theorem nAddC_at (a b : Rat) : nAddC [nD a, nD b] = (qsz a + qsz b < MX, [nD (a + b)]) := ctD_at f2E_inj ⟨a, b⟩
theorem nAdd_spec : SpecD NF Tryz.prog 35 nAddC := specD_num' l1rAdd_spec (fun ⟨a, b⟩ h ds hc => by
  obtain ⟨r, s, h1, rfl, h2, rfl, rfl⟩ := cv2 hc
  have h : qsz r.val + qsz s.val < MX := h
  obtain ⟨s1, s2, s3, s4, s5, s6, s7⟩ := cross_sz h1 h2 h
  have c := rAddC_at r s
  rw [c]
  exact ⟨⟨h1.1, h2.1, s1, s2, s3, s5⟩, cv_to (add_ok h1 h2 h), trivial⟩)
noncomputable def nMulC := ctD f2E (fun p => qsz p.a + qsz p.b < MX) (fun p => [nD (p.a * p.b)])
theorem nMulC_at (a b : Rat) : nMulC [nD a, nD b] = (qsz a + qsz b < MX, [nD (a * b)]) := ctD_at f2E_inj ⟨a, b⟩
theorem nMul_spec : SpecD NF Tryz.prog 36 nMulC := specD_num' l1rMul_spec (fun ⟨a, b⟩ h ds hc => by
  obtain ⟨r, s, h1, rfl, h2, rfl, rfl⟩ := cv2 hc
  have h : qsz r.val + qsz s.val < MX := h
  obtain ⟨s1, s2, s3, s4, s5, s6, s7⟩ := cross_sz h1 h2 h
  have c := rMulC_at r s
  rw [c]
  exact ⟨⟨h1.1, h2.1, s6, s5⟩, cv_to (mul_ok h1 h2 h), trivial⟩)
noncomputable def nSubC := ctD f2E (fun p => qsz p.a + qsz p.b < MX) (fun p => [nD (p.a - p.b)])
theorem nSubC_at (a b : Rat) : nSubC [nD a, nD b] = (qsz a + qsz b < MX, [nD (a - b)]) := ctD_at f2E_inj ⟨a, b⟩
theorem nSub_spec : SpecD NF Tryz.prog 26 nSubC := specD_num' l1rSub_spec (fun ⟨a, b⟩ h ds hc => by
  obtain ⟨r, s, h1, rfl, h2, rfl, rfl⟩ := cv2 hc
  have h : qsz r.val + qsz s.val < MX := h
  obtain ⟨s1, s2, s3, s4, s5, s6, s7⟩ := cross_sz h1 h2 h
  have c := rSubC_at r s
  rw [c]
  exact ⟨⟨h1.1, h2.1, s1, s2, s4, s5⟩, cv_to (sub_ok h1 h2 h), trivial⟩)
noncomputable def nNegC := ctD f1E (fun p => True) (fun p => [nD (-p.a)])
theorem nNegC_at (a : Rat) : nNegC [nD a] = (True, [nD (-a)]) := ctD_at f1E_inj ⟨a⟩
theorem nNeg_spec : SpecD NF Tryz.prog 33 nNegC := specD_num' l1rNeg_spec (fun ⟨a⟩ h ds hc => by
  obtain ⟨r, h1, rfl, rfl⟩ := cv1 hc
  have c := rNegC_at r
  rw [c]
  exact ⟨h1.1, cv_to ⟨neg_WV h1, neg_val r⟩, trivial⟩)
noncomputable def nSignC := ctD f1E (fun p => True) (fun p => [i64D p.a.num.sign])
theorem nSignC_at (a : Rat) : nSignC [nD a] = (True, [i64D a.num.sign]) := ctD_at f1E_inj ⟨a⟩
theorem nSign_spec : SpecD NF Tryz.prog 32 nSignC := specD_num' l1rSign_spec (fun ⟨a⟩ h ds hc => by
  obtain ⟨r, h1, rfl, rfl⟩ := cv1 hc
  have c := rSignC_at r
  rw [c]
  refine ⟨h1.1, ?_⟩
  rw [sign_val h1.1]
  exact cvo1 (nn_i _))
def d3 (r : Int × Int × Bool) : List D := [eQ r.1 r.2.1, boolD r.2.2]
noncomputable def nQC := ctD f1E (fun p => True) (fun p => d3 (oq p.a))
theorem nQC_at (a : Rat) : nQC [nD a] = (True, d3 (oq a)) := ctD_at f1E_inj ⟨a⟩
theorem nQ_spec : SpecD NF Tryz.prog 10 nQC := specD_num' l1rQ_spec (fun ⟨a⟩ h ds hc => by
  obtain ⟨r, h1, rfl, rfl⟩ := cv1 hc
  have c := rQC_at r
  rw [c]
  refine ⟨h1.1, ?_⟩
  rw [qOf_val h1]
  exact cvo2 (nn_q _ _) (nn_b _))
noncomputable def nqC := ctD qE (fun p => I64 p.a ∧ I64 p.b ∧ 0 < p.b) (fun p => [nD (Rat.divInt p.a p.b)])
theorem nqC_at (a b : Int) : nqC [eQ a b] = ((I64 a ∧ I64 b ∧ 0 < b), [nD (Rat.divInt a b)]) := ctD_at qE_inj ⟨a, b⟩
theorem nq_spec : SpecD NF Tryz.prog 27 nqC := specD_num' l1q_spec (fun ⟨a, b⟩ h ds hc => by
  obtain rfl := cvs1 (nn_q a b) hc
  obtain ⟨h1, h2, h3⟩ := h
  have h1 : I64 a := h1
  have h2 : I64 b := h2
  have h3 : 0 < b := h3
  have c := l1qC_at a b
  rw [c]
  exact ⟨⟨h1, h2, h3⟩, cv_to (ofR_ok h3 h1 h2), trivial⟩)
noncomputable def nBigC := ctD zzE (fun p => SZ p.a ∧ SZ p.b ∧ p.b ≠ 0) (fun p => [nD (Rat.divInt p.a p.b)])
theorem nBigC_at (a b : Int) : nBigC [eZ a, eZ b] = ((SZ a ∧ SZ b ∧ b ≠ 0), [nD (Rat.divInt a b)]) := ctD_at zzE_inj ⟨a, b⟩
theorem nBig_spec : SpecD NF Tryz.prog 58 nBigC := specD_num' l1rBig_spec (fun ⟨a, b⟩ h ds hc => by
  obtain rfl := cvs2 (nn_z a) (nn_z b) hc
  obtain ⟨h1, h2, h3⟩ := h
  have h1 : SZ a := h1
  have h2 : SZ b := h2
  have h3 : b ≠ 0 := h3
  have c := bigC_at a b
  rw [c]
  exact ⟨⟨h1, h2, h3⟩, cv_to (bigR_ok h3 h1 h2), trivial⟩)
theorem oQ_d3 (q : Rat) : oQ q = d3 (oq q) := by
  unfold oQ oq d3
  by_cases h : isQ q
  · rw [if_pos h, if_pos (show q.num.natAbs ≤ 1000000000000000000 ∧ q.den ≤ 1000000000000000000 from h)]
  · rw [if_neg h, if_neg (show ¬ (q.num.natAbs ≤ 1000000000000000000 ∧ q.den ≤ 1000000000000000000) from h)]
end Go.Proofs.YtojbfdkpelldoaaGreatDoor.Ae

namespace Go.Proofs.YtojbfdkpelldoaaGreatDoor.Ae
open Go Go.RowKit Go.Proofs.YtojbfdkpelldoaaGreatDoor.Dig
structure Q4 where
  a : Int
  b : Int
  c : Int
  d : Int
def no3 : Int × Int × Bool := (0, 0, false)
def ok2 (p : Q4) : Prop := qOk p.a p.b ∧ qOk p.c p.d
instance (p : Q4) : Decidable (ok2 p) := by unfold ok2; infer_instance
def okD (p : Q4) : Prop := ok2 p ∧ p.c ≠ 0
instance (p : Q4) : Decidable (okD p) := by unfold okD; infer_instance
def okF (p : Q4) : Prop := ok2 p ∧ 0 < p.c
instance (p : Q4) : Decidable (okF p) := by unfold okF; infer_instance
noncomputable def qofC := ctD iiE (fun p => I64 p.a ∧ I64 p.b) (fun p => d3 (if p.b = 0 then no3 else oq (Rat.divInt p.a p.b)))
theorem qofC_at (a b : Int) : qofC [i64D a, i64D b] = ((I64 a ∧ I64 b), d3 (if b = 0 then no3 else oq (Rat.divInt a b))) := ctD_at iiE_inj ⟨a, b⟩
theorem d3_no : d3 no3 = [eQ 0 0, boolD false] := rfl
theorem QI_qsz {n d : Int} (h : QI n d) : qsz (Rat.divInt n d) ≤ 2 := smallQ_qsz (QI_small h)
theorem ln_floor (q : Rat) : ln q.floor.natAbs ≤ qsz q := by
  rw [Rat.floor_def]
  exact Nat.le_trans (ln_mono (natAbs_ediv_le _ _)) (qsz_num q)
@[simp] theorem nav_eQ0 (n d : Int) : nav (eQ n d) [0] = some (.lit (.int .i64 n), 0) := rfl
@[simp] theorem nav_eQ1 (n d : Int) : nav (eQ n d) [1] = some (.lit (.int .i64 d), 1) := rfl
theorem eQ00 : eQ 0 0 = .agg [.lit (.int .i64 0), .lit (.int .i64 0)] := rfl
end Go.Proofs.YtojbfdkpelldoaaGreatDoor.Ae

namespace Go.Proofs.YtojbfdkpelldoaaGreatDoor.Ae
open Go Go.RowKit Go.Proofs.YtojbfdkpelldoaaGreatDoor.Dig
noncomputable def sokTb : List (FuncId × Ct) := [(29, .data absC), (28, .data gcdC)]
theorem sokTb_ok : TbOK NF Tryz.prog (tbl sokTb) := tbl_cons (c := .data absC) l1Abs_spec l1Abs_ok (tbl_cons (c := .data gcdC) l1Gcd_spec l1Gcd_ok tbl_nil)
@[simp] theorem sokTb1 : tbl sokTb 29 = some (.data absC) := rfl
@[simp] theorem sokTb2 : tbl sokTb 28 = some (.data gcdC) := rfl
theorem sQOk_spec : SpecD NF Tryz.prog 25 qokC := by
  refine rdD (mf := fun f => false) sokTb_ok (fn := Tryz.f25) (by kernel_rfl) rfl (by kernel_rfl) ?_
  rintro ⟨n, d⟩ ⟨hn, hd⟩
  have hn : I64 n := hn
  have hd : I64 d := hd
  refine ⟨of_decide_eq_true (by kernel_rfl), ?_⟩
  have c1 := absC_at n
  have c2 := gcdC_at n.natAbs d.natAbs
  unfold I64 at hd
  have h2 : n.natAbs < 18446744073709551616 := by unfold I64 at hn; omega
  have h3 : d.natAbs < 18446744073709551616 := by omega
  have e3 : Nat.gcd n.natAbs d.natAbs = Int.gcd n d := rfl
  simp only [hn, h2, h3, e3, and_self, u64D, i64D] at c1 c2
  simp only [qE, i64D, Tryz.f25, boolD]
  have hw : ¬ d < 1 → IntKind.u64.wrap d = (d.natAbs : Int) := fun h => by rw [wrap_u64]; omega
  have e : decide (qOk n d) = (!(decide (d < 1)) && (!(decide (1000000000000000000 < d)) && (!(decide (n < -1000000000000000000)) && (!(decide (1000000000000000000 < n)) && decide (Int.gcd n d = 1))))) := by
    rw [← decide_not, ← decide_not, ← decide_not, ← decide_not, ← Bool.decide_and, ← Bool.decide_and, ← Bool.decide_and, ← Bool.decide_and]
    congr 1
    apply propext
    unfold qOk
    constructor
    · rintro ⟨⟨a, b⟩, ⟨c, e⟩, f⟩; exact ⟨by omega, by omega, by omega, by omega, f⟩
    · rintro ⟨a, b, c, e, f⟩; exact ⟨⟨by omega, by omega⟩, ⟨by omega, by omega⟩, f⟩
  rw [e]
  clear e e3
  generalize Int.gcd n d = g at *
  by_cases h1 : d < 1
  · simp [h1]
  · have w1 := hw h1
    by_cases h4 : 1000000000000000000 < d <;> by_cases h5 : n < -1000000000000000000 <;> by_cases h6 : 1000000000000000000 < n <;> simp [h1, h4, h5, h6, w1, c1, c2]
    by_cases h7 : g = 1
    · subst h7; simp
    · have h7' : ¬ (g : Int) = 1 := by omega
      simp [h7, h7']
theorem sQOk_ok : callable Tryz.prog 25 = true := by kernel_rfl
noncomputable def sqTbl : List (FuncId × Ct) := [(25, .data qokC), (27, .data nqC), (35, .data nAddC), (26, .data nSubC), (36, .data nMulC), (10, .data nQC), (38, .data zOfC), (58, .data nBigC)]
theorem sqTbl_ok : TbOK NF Tryz.prog (tbl sqTbl) := tbl_cons (c := .data qokC) sQOk_spec sQOk_ok (tbl_cons (c := .data nqC) nq_spec l1q_ok (tbl_cons (c := .data nAddC) nAdd_spec l1rAdd_ok (tbl_cons (c := .data nSubC) nSub_spec l1rSub_ok (tbl_cons (c := .data nMulC) nMul_spec l1rMul_ok (tbl_cons (c := .data nQC) nQ_spec l1rQ_ok (tbl_cons (c := .data zOfC) l1ZOf_spec l1ZOf_ok (tbl_cons (c := .data nBigC) nBig_spec l1rBig_ok tbl_nil)))))))
@[simp] theorem sqTbl1 : tbl sqTbl 25 = some (.data qokC) := rfl
@[simp] theorem sqTbl2 : tbl sqTbl 27 = some (.data nqC) := rfl
@[simp] theorem sqTbl3 : tbl sqTbl 35 = some (.data nAddC) := rfl
@[simp] theorem sqTbl4 : tbl sqTbl 26 = some (.data nSubC) := rfl
@[simp] theorem sqTbl5 : tbl sqTbl 36 = some (.data nMulC) := rfl
@[simp] theorem sqTbl8 : tbl sqTbl 10 = some (.data nQC) := rfl
@[simp] theorem sqTbl11 : tbl sqTbl 38 = some (.data zOfC) := rfl
@[simp] theorem sqTbl12 : tbl sqTbl 58 = some (.data nBigC) := rfl
theorem qOk_64 {n d : Int} (h : qOk n d) : I64 n ∧ I64 d ∧ 0 < d := by unfold qOk at h; unfold I64; omega
theorem sQOf_spec : SpecD NF Tryz.prog 40 qofC := by
  refine rdD (mf := fun f => false) sqTbl_ok (fn := Tryz.f40) (by kernel_rfl) rfl (by kernel_rfl) ?_
  rintro ⟨a, b⟩ ⟨ha, hb⟩
  have ha : I64 a := ha
  have hb : I64 b := hb
  refine ⟨of_decide_eq_true (by kernel_rfl), ?_⟩
  simp only [iiE, Tryz.f40]
  by_cases h0 : b = 0
  · rw [if_pos h0]
    subst h0
    simp only [d3_no, boolD]
    simp [-D.isLit, i64D, eQ00]
  · rw [if_neg h0]
    have c1 := zOfC_at a
    have c2 := zOfC_at b
    have c3 := nBigC_at a b
    have c5 := nQC_at (Rat.divInt a b)
    simp only [ha, hb, SZ_I64 ha, SZ_I64 hb, h0, i64D, ne_eq, not_false_eq_true, and_self] at c1 c2 c3 c5
    generalize oq (Rat.divInt a b) = o at *
    simp only [d3, boolD] at c5 ⊢
    simp [-D.isLit, i64D, c1, c2, c3, c5, h0]
theorem sQOf_ok : callable Tryz.prog 40 = true := by kernel_rfl
end Go.Proofs.YtojbfdkpelldoaaGreatDoor.Ae

namespace Go.Proofs.YtojbfdkpelldoaaGreatDoor.Ae
open Go Go.RowKit Go.Proofs.YtojbfdkpelldoaaGreatDoor.Dig
theorem law_calls {f : FuncId} {g : List D → Prop × List D} (h : SpecD NF Tryz.prog f g) {ds : List D} (hp : (g ds).1) (hr : (g ds).2 = [boolD true]) {vs : List Value} {w : World} (hrep : RepVs NF (fun _ => False) w ds vs)
    (htab : Lib.TabIs Tryz.prog w "internal/strconv.uint64pow10" .u64 Lib.pow10Tab)
    : Calls Tryz.prog f vs.toArray w fun e w' => e = .returned (.bool true) ∧ Below w.heap.size w w' := by
  have hok : NF.ok (fun b => b < w.heap.size) w := by
    refine ⟨fun g hg => ?_, htab⟩
    unfold Lib.TabIs World.var? at htab
    rw [hg] at htab
    simp only [Option.bind_some] at htab
    split at htab
    · rename_i h; exact (Array.getElem?_eq_some_iff.1 h).1
    · cases htab
  refine (h ds hp (fun b => b < w.heap.size) w vs (fun k hk => hk) hok ⟨hrep.1, fun i d v h1 h2 => (hrep.2 i d v h1 h2).mono (fun b hb => hb.elim)⟩).mono fun e w' ⟨v, he, hv, hfr⟩ => ?_
  rw [hr] at hv
  have hv : RepV NF _ w' (.lit (.bool true)) v := hv
  obtain ⟨rfl, _⟩ := RepV.lit hv
  exact ⟨he, ⟨hfr.os, hfr.tape, hfr.output, hfr.size, fun k hk => hfr.block k hk (fun h => h)⟩⟩
theorem repV_flat {N : NR} {F : Nat → Prop} {w : World} {d : D} {cs : List Value} (h : flatD d = some cs) (h1 : ∀ v ∈ cs, v.oneCell' = true) (ha : d.isAgg = true) : RepV N F w d (.agg cs.toArray) :=
  ⟨cs, flatD_rep d cs h h1, by unfold mkV; rw [ha]; rfl⟩
theorem repVs_nil {N : NR} {F : Nat → Prop} {w : World} : RepVs N F w [] [] := ⟨rfl, fun i d v h => by simp at h⟩
theorem repVs_cons {N : NR} {F : Nat → Prop} {w : World} {d : D} {v : Value} {ds : List D} {vs : List Value} (h : RepV N F w d v) (hs : RepVs N F w ds vs) : RepVs N F w (d :: ds) (v :: vs) :=
  ⟨by simp only [List.length_cons]; rw [hs.1], fun i e u h1 h2 => by
    cases i with
    | zero =>
      simp only [List.getElem?_cons_zero, Option.some.injEq] at h1 h2
      subst h1 h2
      exact h
    | succ i => exact hs.2 i e u (by simpa using h1) (by simpa using h2)⟩
theorem wf64 {a : Int} (h : (Lit.int .i64 a).wf = true) : I64 a := bounds_i64 h
noncomputable def toQC := ctD qE (fun _ => True) (fun p => [eQ p.a p.b])
theorem toQC_at (a b : Int) : toQC [eQ a b] = (True, [eQ a b]) := ctD_at qE_inj ⟨a, b⟩
theorem toQ_spec {N : NR} : SpecD N Tryz.prog 16 toQC := by
  refine rdD (mf := fun f => false) tbl_nil (fn := Tryz.f16) (by kernel_rfl) rfl (by kernel_rfl) ?_
  rintro ⟨a, b⟩ _
  refine ⟨of_decide_eq_true (by kernel_rfl), ?_⟩
  simp only [qE, Tryz.f16]
  simp [eQ, i64D]
theorem toQ_ok : callable Tryz.prog 16 = true := by kernel_rfl
end Go.Proofs.YtojbfdkpelldoaaGreatDoor.Ae

namespace Go.Proofs.YtojbfdkpelldoaaGreatDoor.Ae
open Go Go.Shelf
def lays173_ren : Go.Shelf.Ren := ⟨fun | 173 => 47 | 246 => 72 | 283 => 100 | 284 => 101 | 285 => 102 | 286 => 103 | 129 => 117 | 317 => 116 | 318 => 118 | 319 => 119 | 320 => 120 | 337 => 126 | 338 => 127 | n => n, fun | 2 => 2 | 3 => 3 | 9 => 9 | 4 => 4 | 171 => 122 | 0 => 0 | 53 => 61 | 37 => 92 | 5 => 5 | 173 => 125 | 212 => 135 | 51 => 89 | 20 => 20 | 213 => 136 | 46 => 88 | 232 => 142 | 233 => 143 | n => n, fun | 17 => 0 | 18 => 1 | 19 => 2 | n => n⟩
theorem lays173 : Go.Proofs.LaysM.n173 Tryz.prog lays173_ren := {
  mixed := by kernel_rfl
  f129 := Tryz.func117.trans (congrArg some (by kernel_rfl))
  f173 := Tryz.func47.trans (congrArg some (by kernel_rfl))
  f246 := Tryz.func72.trans (congrArg some (by kernel_rfl))
  f283 := Tryz.func100.trans (congrArg some (by kernel_rfl))
  f284 := Tryz.func101.trans (congrArg some (by kernel_rfl))
  f285 := Tryz.func102.trans (congrArg some (by kernel_rfl))
  f286 := Tryz.func103.trans (congrArg some (by kernel_rfl))
  f317 := Tryz.func116.trans (congrArg some (by kernel_rfl))
  f318 := Tryz.func118.trans (congrArg some (by kernel_rfl))
  f319 := Tryz.func119.trans (congrArg some (by kernel_rfl))
  f320 := Tryz.func120.trans (congrArg some (by kernel_rfl))
  f337 := Tryz.func126.trans (congrArg some (by kernel_rfl))
  f338 := Tryz.func127.trans (congrArg some (by kernel_rfl))
  t0 := Tryz.underlying0
  a0 := Tryz.isAgg0
  z0 := Tryz.sizeOf0
  v0 := Tryz.zeroValue0
  t2 := Tryz.underlying2
  a2 := Tryz.isAgg2
  z2 := Tryz.sizeOf2
  v2 := Tryz.zeroValue2
  t3 := Tryz.underlying3
  a3 := Tryz.isAgg3
  z3 := Tryz.sizeOf3
  v3 := Tryz.zeroValue3
  t4 := Tryz.underlying4
  a4 := Tryz.isAgg4
  z4 := Tryz.sizeOf4
  v4 := Tryz.zeroValue4
  t5 := Tryz.underlying5
  a5 := Tryz.isAgg5
  z5 := Tryz.sizeOf5
  v5 := Tryz.zeroValue5
  t9 := Tryz.underlying9
  a9 := Tryz.isAgg9
  z9 := Tryz.sizeOf9
  v9 := Tryz.zeroValue9
  t20 := Tryz.underlying20
  a20 := Tryz.isAgg20
  z20 := Tryz.sizeOf20
  v20 := Tryz.zeroValue20
  t37 := Tryz.underlying92
  a37 := Tryz.isAgg92
  z37 := Tryz.sizeOf92
  v37 := Tryz.zeroValue92
  t46 := Tryz.underlying88
  a46 := Tryz.isAgg88
  z46 := Tryz.sizeOf88
  v46 := Tryz.zeroValue88
  t51 := Tryz.underlying89
  a51 := Tryz.isAgg89
  z51 := Tryz.sizeOf89
  v51 := Tryz.zeroValue89
  t53 := Tryz.underlying61
  a53 := Tryz.isAgg61
  z53 := Tryz.sizeOf61
  v53 := Tryz.zeroValue61
  t171 := Tryz.underlying122
  a171 := Tryz.isAgg122
  z171 := Tryz.sizeOf122
  v171 := Tryz.zeroValue122
  t173 := Tryz.underlying125
  a173 := Tryz.isAgg125
  z173 := Tryz.sizeOf125
  v173 := Tryz.zeroValue125
  t212 := Tryz.underlying135
  a212 := Tryz.isAgg135
  z212 := Tryz.sizeOf135
  v212 := Tryz.zeroValue135
  t213 := Tryz.underlying136
  a213 := Tryz.isAgg136
  z213 := Tryz.sizeOf136
  t232 := Tryz.underlying142
  a232 := Tryz.isAgg142
  z232 := Tryz.sizeOf142
  v232 := Tryz.zeroValue142
  t233 := Tryz.underlying143
  a233 := Tryz.isAgg143
  z233 := Tryz.sizeOf143
  v233 := Tryz.zeroValue143
  g17 := by kernel_rfl
  g18 := by kernel_rfl
  g19 := by kernel_rfl
  i0 := by kernel_rfl
  i2 := by kernel_rfl
  i3 := by kernel_rfl
  i4 := by kernel_rfl
  i5 := by kernel_rfl
  i9 := by kernel_rfl
  i20 := by kernel_rfl
  i37 := by kernel_rfl
  i46 := by kernel_rfl
  i51 := by kernel_rfl
  i53 := by kernel_rfl
  i171 := by kernel_rfl
  i173 := by kernel_rfl
  i212 := by kernel_rfl
  i232 := by kernel_rfl
  i233 := by kernel_rfl
  m17 := by kernel_rfl
  m18 := by kernel_rfl
  m19 := by kernel_rfl }
end Go.Proofs.YtojbfdkpelldoaaGreatDoor.Ae

namespace Go.Proofs.YtojbfdkpelldoaaGreatDoor.Ae
open Go Go.RowKit Go.Proofs.YtojbfdkpelldoaaGreatDoor.Dig
structure Enc (α : Type) where
  e : α → D
  inj : ∀ a b, e a = e b → a = b
def ERat : Enc Rat := ⟨eRat, fun _ _ => eRat_inj⟩
def ENum : Enc Rat := ⟨nD, fun _ _ => nD_inj⟩
def EInt : Enc Int := ⟨i64D, fun _ _ => i64D_inj⟩
def EQ : Enc (Int × Int) := ⟨fun p => eQ p.1 p.2, fun _ _ h => Prod.ext (eQ_inj h).1 (eQ_inj h).2⟩
def Enc.trip {α β γ : Type} (A : Enc α) (B : Enc β) (C : Enc γ) : Enc (α × β × γ) := ⟨fun p => .agg [A.e p.1, B.e p.2.1, C.e p.2.2], fun p q h => by
  simp only [D.agg.injEq, List.cons.injEq, and_true] at h
  exact Prod.ext (A.inj _ _ h.1) (Prod.ext (B.inj _ _ h.2.1) (C.inj _ _ h.2.2))⟩
noncomputable def ct1 {α : Type} (A : Enc α) (pre : α → Prop) (post : α → List D) := ctD (fun a => [A.e a]) pre post
theorem ct1_at {α : Type} {A : Enc α} {pre : α → Prop} {post : α → List D} (a : α) : ct1 A pre post [A.e a] = (pre a, post a) :=
  ctD_at (e := fun a => [A.e a]) (fun a b h => by simp only [List.cons.injEq, and_true] at h; exact A.inj _ _ h) a
noncomputable def ct2 {α β : Type} (A : Enc α) (B : Enc β) (pre : α → β → Prop) (post : α → β → List D) := ctD (fun p : α × β => [A.e p.1, B.e p.2]) (fun p => pre p.1 p.2) (fun p => post p.1 p.2)
theorem ct2_at {α β : Type} {A : Enc α} {B : Enc β} {pre : α → β → Prop} {post : α → β → List D} (a : α) (b : β) : ct2 A B pre post [A.e a, B.e b] = (pre a b, post a b) :=
  ctD_at (e := fun p : α × β => [A.e p.1, B.e p.2]) (fun p q h => by simp only [List.cons.injEq, and_true] at h; exact Prod.ext (A.inj _ _ h.1) (B.inj _ _ h.2)) (a, b)
noncomputable def ct3 {α β γ : Type} (A : Enc α) (B : Enc β) (C : Enc γ) (pre : α → β → γ → Prop) (post : α → β → γ → List D) := ctD (fun p : α × β × γ => [A.e p.1, B.e p.2.1, C.e p.2.2]) (fun p => pre p.1 p.2.1 p.2.2) (fun p => post p.1 p.2.1 p.2.2)
theorem ct3_at {α β γ : Type} {A : Enc α} {B : Enc β} {C : Enc γ} {pre : α → β → γ → Prop} {post : α → β → γ → List D} (a : α) (b : β) (c : γ) : ct3 A B C pre post [A.e a, B.e b, C.e c] = (pre a b c, post a b c) :=
  ctD_at (e := fun p : α × β × γ => [A.e p.1, B.e p.2.1, C.e p.2.2]) (fun p q h => by simp only [List.cons.injEq, and_true] at h; exact Prod.ext (A.inj _ _ h.1) (Prod.ext (B.inj _ _ h.2.1) (C.inj _ _ h.2.2))) (a, b, c)
theorem rd1 {N : NR} {α : Type} {A : Enc α} {pre : α → Prop} {post : α → List D} {f : FuncId} {fn : Func} {c : Code} {mf : FuncId → Bool} {tb : FuncId → Option Ct} (htb : TbOK N Tryz.prog tb) (hf : Tryz.prog.funcs[f]? = some fn) (hb : fn.body = some c) (hd : drawAll mf c = true) (hl : Nat.ble 1 fn.ntmps = true)
    (h : ∀ a, pre a → awp Tryz.prog mf tb c (start fn.ntmps ([A.e a].map .dat) []) (endK Tryz.prog fn.ntmps fn.results.toList ((post a).map .dat) [])) : SpecD N Tryz.prog f (ct1 A pre post) :=
  rdD htb hf hb hd (fun a ha => ⟨Nat.le_of_ble_eq_true hl, h a ha⟩)
theorem rd2 {N : NR} {α β : Type} {A : Enc α} {B : Enc β} {pre : α → β → Prop} {post : α → β → List D} {f : FuncId} {fn : Func} {c : Code} {mf : FuncId → Bool} {tb : FuncId → Option Ct} (htb : TbOK N Tryz.prog tb) (hf : Tryz.prog.funcs[f]? = some fn) (hb : fn.body = some c) (hd : drawAll mf c = true) (hl : Nat.ble 2 fn.ntmps = true)
    (h : ∀ a b, pre a b → awp Tryz.prog mf tb c (start fn.ntmps ([A.e a, B.e b].map .dat) []) (endK Tryz.prog fn.ntmps fn.results.toList ((post a b).map .dat) [])) : SpecD N Tryz.prog f (ct2 A B pre post) :=
  rdD htb hf hb hd (fun p ha => ⟨Nat.le_of_ble_eq_true hl, h p.1 p.2 ha⟩)
theorem rd3 {N : NR} {α β γ : Type} {A : Enc α} {B : Enc β} {C : Enc γ} {pre : α → β → γ → Prop} {post : α → β → γ → List D} {f : FuncId} {fn : Func} {c : Code} {mf : FuncId → Bool} {tb : FuncId → Option Ct} (htb : TbOK N Tryz.prog tb) (hf : Tryz.prog.funcs[f]? = some fn) (hb : fn.body = some c) (hd : drawAll mf c = true) (hl : Nat.ble 3 fn.ntmps = true)
    (h : ∀ a b d, pre a b d → awp Tryz.prog mf tb c (start fn.ntmps ([A.e a, B.e b, C.e d].map .dat) []) (endK Tryz.prog fn.ntmps fn.results.toList ((post a b d).map .dat) [])) : SpecD N Tryz.prog f (ct3 A B C pre post) :=
  rdD htb hf hb hd (fun p ha => ⟨Nat.le_of_ble_eq_true hl, h p.1 p.2.1 p.2.2 ha⟩)
def LM : Nat := 1000000000
theorem MX_val : MX = 549755813888 := rfl
theorem LM_val : LM = 1000000000 := rfl
def vOk (v : (Int × Int) × Int × Int) : Prop := qOk v.1.1 v.1.2 ∧ qOk v.2.1 v.2.2
instance (v : (Int × Int) × Int × Int) : Decidable (vOk v) := by unfold vOk; infer_instance
@[simp] theorem ERat_e (x : Rat) : ERat.e x = eRat x := rfl
@[simp] theorem ENum_e (x : Rat) : ENum.e x = nD x := rfl
@[simp] theorem EInt_e (x : Int) : EInt.e x = i64D x := rfl
@[simp] theorem EQ_e (a b : Int) : EQ.e (a, b) = eQ a b := rfl
section
variable (a b : Rat) (n d : Int)
@[simp] theorem z_add : raddC [eRat a, eRat b] = (qsz a + qsz b < MX, [eRat (a + b)]) := raddC_at a b
@[simp] theorem z_sub : rsubC [eRat a, eRat b] = (qsz a + qsz b < MX, [eRat (a - b)]) := rsubC_at a b
@[simp] theorem z_mul : rmC [eRat a, eRat b] = (qsz a + qsz b < MX, [eRat (a * b)]) := rmC_at a b
@[simp] theorem z_div : rdvC [eRat a, eRat b] = ((qsz a + qsz b < MX ∧ b ≠ 0), [eRat (a / b)]) := rdvC_at a b
@[simp] theorem z_neg : rngC [eRat a] = (qsz a < MX, [eRat (-a)]) := rngC_at a
@[simp] theorem z_inv : rinvC [eRat a] = ((qsz a < MX ∧ a ≠ 0), [eRat a⁻¹]) := rinvC_at a
@[simp] theorem z_sign : rsgC [eRat a] = (True, [.lit (.int .i64 a.num.sign)]) := rsgC_at a
@[simp] theorem z_q : rqqC [eRat a] = (True, [eQ (oq a).1 (oq a).2.1, .lit (.bool (oq a).2.2)]) := by rw [rqqC_at, oQ_d3]; rfl
@[simp] theorem z_rq : rqC [eQ n d] = (QI n d, [eRat (Rat.divInt n d)]) := rqC_at n d
@[simp] theorem z_ri : riC [.lit (.int .i64 n)] = (n.natAbs < 9223372036854775808, [eRat (n : Rat)]) := riC_at n
@[simp] theorem z_fromInt : fiC [.ptr (eZ n)] = (ln n.natAbs < MX, [eRat (n : Rat)]) := fiC_at n
@[simp] theorem n_add : nAddC [nD a, nD b] = (qsz a + qsz b < MX, [nD (a + b)]) := nAddC_at a b
@[simp] theorem n_sub : nSubC [nD a, nD b] = (qsz a + qsz b < MX, [nD (a - b)]) := nSubC_at a b
@[simp] theorem n_mul : nMulC [nD a, nD b] = (qsz a + qsz b < MX, [nD (a * b)]) := nMulC_at a b
@[simp] theorem n_neg : nNegC [nD a] = (True, [nD (-a)]) := nNegC_at a
@[simp] theorem n_sign : nSignC [nD a] = (True, [.lit (.int .i64 a.num.sign)]) := nSignC_at a
@[simp] theorem n_q : nQC [nD a] = (True, [eQ (oq a).1 (oq a).2.1, .lit (.bool (oq a).2.2)]) := nQC_at a
@[simp] theorem n_lq : nqC [eQ n d] = ((I64 n ∧ I64 d ∧ 0 < d), [nD (Rat.divInt n d)]) := nqC_at n d
@[simp] theorem n_big : nBigC [eZ n, eZ d] = ((SZ n ∧ SZ d ∧ d ≠ 0), [nD (Rat.divInt n d)]) := nBigC_at n d
@[simp] theorem n_zof : zOfC [.lit (.int .i64 n)] = (I64 n, [eZ n]) := zOfC_at n
@[simp] theorem n_zadd : zAddC [eZ n, eZ d] = ((SZ n ∧ SZ d), [eZ (n + d)]) := zAddC_at n d
@[simp] theorem z_ok : qokC [eQ n d] = ((I64 n ∧ I64 d), [.lit (.bool (decide (qOk n d)))]) := qokC_at n d
@[simp] theorem z_toQ : toQC [eQ n d] = (True, [eQ n d]) := toQC_at n d
end
theorem z_all2 (a b c d : Int) : allQC [.sl 2 [eQ a b, eQ c d]] = (((I64 a ∧ I64 b) ∧ I64 c ∧ I64 d), [.lit (.bool (decide (qOk a b) && decide (qOk c d)))]) := by
  have h1 := allQC_at [(a, b), (c, d)]
  have h2 : (([(a, b), (c, d)] : List (Int × Int)).length < 4611686018427387904 ∧ ∀ q ∈ [(a, b), (c, d)], I64p q) ↔ ((I64 a ∧ I64 b) ∧ I64 c ∧ I64 d) := by
    constructor
    · rintro ⟨_, h⟩
      exact ⟨h (a, b) (by simp), h (c, d) (by simp)⟩
    · rintro ⟨h1, h2⟩
      refine ⟨by simp, ?_⟩
      intro q hq
      simp at hq
      rcases hq with rfl | rfl
      · exact h1
      · exact h2
  rw [propext h2] at h1
  have h3 : (([(a, b), (c, d)] : List (Int × Int)).all fun q => decide (qOk q.1 q.2)) = (decide (qOk a b) && decide (qOk c d)) := by simp
  rw [h3] at h1
  exact h1
attribute [simp] z_all2
end Go.Proofs.YtojbfdkpelldoaaGreatDoor.Ae

namespace Go.Proofs.YtojbfdkpelldoaaGreatDoor.Ae
open Go Go.RowKit Go.Proofs.YtojbfdkpelldoaaGreatDoor.Dig
def decK (u : Nat) : List Nat := if h : u < 10 then [48 + u] else decK (u / 10) ++ [48 + u % 10]
termination_by u
decreasing_by omega
theorem decK_small {u : Nat} (h : u < 10) : decK u = [48 + u] := by rw [decK, dif_pos h]
theorem decK_big {u : Nat} (h : ¬ u < 10) : decK u = decK (u / 10) ++ [48 + u % 10] := by rw [decK, dif_neg h]
theorem decK_map (u : Nat) : Lib.decDigits u = (decK u).map UInt8.ofNat := by
  induction u using Nat.strongRecOn with
  | _ u ih =>
    rw [Lib.decDigits]
    by_cases h : u < 10
    · rw [dif_pos h, decK_small h]; rfl
    · rw [dif_neg h, decK_big h, ih (u / 10) (by omega), List.map_append]; rfl
theorem decK_len : ∀ (k u : Nat), u < 10 ^ k → (decK u).length ≤ max k 1
  | 0, u, h => by
    have : u < 10 := by simp at h; omega
    rw [decK_small this]; simp
  | k + 1, u, h => by
    by_cases hu : u < 10
    · rw [decK_small hu]; simp
    · rw [decK_big hu, List.length_append]
      have := decK_len k (u / 10) (by rw [Nat.pow_succ] at h; omega)
      have h2 : 1 ≤ k := by
        cases k with
        | zero => simp at h; omega
        | succ k => omega
      simp only [List.length_cons, List.length_nil]
      omega
def bk (k : Nat) : D := .lit (.int .u8 (k : Int))
theorem bytesDs_bk : ∀ l : List Nat, bytesDs (l.map bk) = some (l.map fun k : Nat => (k : Int))
  | [] => rfl
  | k :: l => by
    simp only [List.map_cons, bk, bytesDs]
    rw [bytesDs_bk l]
theorem strOf_go : ∀ (l : List Nat) (s : ByteArray), (l.map fun k : Nat => (k : Int)).foldl (fun r n => r.push (UInt8.ofNat n.toNat)) s = ⟨s.data ++ (l.map UInt8.ofNat).toArray⟩
  | [], s => by simp
  | k :: l, s => by
    simp only [List.map_cons, List.foldl_cons]
    rw [strOf_go l]
    apply ByteArray.ext
    simp [ByteArray.push]
theorem strOf_bk (l : List Nat) : strOf (l.map fun k : Nat => (k : Int)) = ⟨(l.map UInt8.ofNat).toArray⟩ := by
  unfold strOf
  rw [strOf_go]
  apply ByteArray.ext
  simp
def decS (x : Int) : ByteArray := ⟨(Lib.itoa x).toArray⟩
theorem decS_pos {x : Int} (h : ¬ x < 0) : strOf ((decK x.toNat).map fun k : Nat => (k : Int)) = decS x := by
  rw [strOf_bk, ← decK_map]
  unfold decS Lib.itoa
  rw [if_neg h]
theorem decS_neg {x : Int} (h : x < 0) : (⟨#[45]⟩ : ByteArray) ++ strOf ((decK x.natAbs).map fun k : Nat => (k : Int)) = decS x := by
  rw [strOf_bk, ← decK_map]
  unfold decS Lib.itoa
  rw [if_pos h]
  apply ByteArray.ext
  simp [ByteArray.data_append]
theorem decS_size {x : Int} (h : -9223372036854775808 ≤ x ∧ x ≤ 9223372036854775807) : (decS x).size ≤ 21 := by
  unfold decS Lib.itoa
  have h1 := decK_len 20 x.natAbs (by omega)
  have h2 := decK_len 20 x.toNat (by omega)
  split
  · rw [decK_map]; simp only [ByteArray.size, List.size_toArray, List.length_cons, List.length_map]; omega
  · rw [decK_map]; simp only [ByteArray.size, List.size_toArray, List.length_map]; omega
theorem str_assoc (a b c : ByteArray) : a ++ b ++ c = a ++ (b ++ c) := by
  apply ByteArray.ext
  simp [ByteArray.data_append]
@[simp] theorem ev_string (st : St) (s : ByteArray) : ev st (.const (.string s)) = .dat (.lit (.string s)) := rfl
@[simp] theorem strOf_simp (l : List Nat) : strOf (l.map fun k : Nat => (k : Int)) = ⟨(l.map UInt8.ofNat).toArray⟩ := strOf_bk l
noncomputable def fmtC := ct2 EInt EInt (fun n b => I64 n ∧ b = 10) (fun n b => [.lit (.string (decS n))])
@[simp] theorem fmtC_at (n b : Int) : fmtC [.lit (.int .i64 n), .lit (.int .i64 b)] = (I64 n ∧ b = 10, [.lit (.string (decS n))]) := ct2_at n b
theorem fmt_ok : callable Tryz.prog 47 = true := by kernel_rfl
theorem fmt_spec : SpecD NF Tryz.prog 47 fmtC := by
  intro ds hp F w vs hF hok hv
  obtain ⟨⟨n, b⟩, rfl, ⟨h1, h2⟩, h3⟩ := ctD_pre hp
  have h2 : b = 10 := h2
  subst h2
  have h3 : fmtC [EInt.e n, EInt.e 10] = _ := h3
  obtain ⟨hl, hr⟩ := hv
  match vs, hl with
  | [v, u], _ =>
    obtain ⟨rfl, _⟩ := RepV.lit (hr 0 _ v rfl rfl)
    obtain ⟨rfl, _⟩ := RepV.lit (hr 1 _ u rfl rfl)
    have h1 : I64 n := h1
    unfold I64 at h1
    refine (Any.strconv_FormatInt_10 lays173 n h1.1 h1.2 w hok.2).mono ?_
    rintro e w' ⟨rfl, k, os, rfl⟩
    show ∃ v, _ ∧ RepRes NF _ _ (fmtC [EInt.e n, EInt.e 10]).2 v ∧ _
    rw [h3]
    refine ⟨_, rfl, RepV.of_lit rfl, ?_⟩
    exact ⟨rfl, rfl, rfl, by show w.heap.size ≤ (w.heap ++ os).size; rw [Array.size_append]; omega, fun j hj _ => Array.getElem?_append_left hj⟩
theorem l1DecTb_ok {N : NR} : TbOK N Tryz.prog (tbl [(29, .data absC)]) := tbl_cons (c := .data absC) l1Abs_spec l1Abs_ok tbl_nil
def l1DecS (x : Int) (u n : Nat) (bs : List Nat) : St := ⟨[.dat (.lit (.int .i64 x)), .any, .any, .dat (.lit (.int .u64 (u : Int))), .row 8, .dat (.lit (.int .i64 (n : Int))), .any, .any, .any, .any, .any, .any, .any, .any, .any, .any, .any, .any, .any, .any, .any, .any, .any, .any, .any, .any, .any, .any, .any, .any, .any, .any, .any, .any, .any, .any, .any], [none, none, none, none, none, none, none, none, some (.row 1 5 (bs.map bk)), none, none, none, none, none, none, none, none, none, none, none, none, none, none, none, none, none, none, none, none, none, none, none, none, none, none, none, none]⟩
def decI (m u n : Nat) (bs : List Nat) : Prop := (n = 0 ∧ u = m ∧ bs = []) ∨ (1 ≤ n ∧ 0 < u ∧ decK m = decK u ++ bs) ∨ (1 ≤ n ∧ u = 0 ∧ decK m = bs)
theorem decI_step {m u n : Nat} {bs : List Nat} (h : decI m u n bs) (hc : n = 0 ∨ 0 < u) : decI m (u / 10) (n + 1) ((48 + u % 10) :: bs) := by
  have hd : decK m = decK u ++ bs := by
    rcases h with ⟨_, rfl, rfl⟩ | ⟨_, _, h⟩ | ⟨h1, h2, _⟩
    · simp
    · exact h
    · omega
  by_cases hu : u < 10
  · refine .inr (.inr ⟨by omega, by omega, ?_⟩)
    rw [hd, decK_small hu, Nat.mod_eq_of_lt hu]; rfl
  · refine .inr (.inl ⟨by omega, by omega, ?_⟩)
    rw [hd, decK_big hu]; simp
noncomputable def l1DecC := ct1 EInt (fun x => I64 x) (fun x => [.lit (.string (decS x))])
@[simp] theorem l1DecC_at (x : Int) : l1DecC [.lit (.int .i64 x)] = (I64 x, [.lit (.string (decS x))]) := ct1_at x
set_option maxRecDepth 100000 in
set_option maxHeartbeats 4000000 in
theorem l1Dec_spec {N : NR} : SpecD N Tryz.prog 34 l1DecC := by
  refine rd1 (mf := fun f => f == rowb 92 || f == strc) l1DecTb_ok (fn := Tryz.f34) (by kernel_rfl) rfl (by kernel_rfl) (by kernel_rfl) ?_
  rintro x hp
  have hp : I64 x := hp
  show awp _ _ _ _ (start _ ([.lit (.int .i64 x)].map .dat) []) (endK _ _ _ (([.lit (.string (decS x))]).map .dat) [])
  have hx := hp
  unfold I64 at hx
  have ca := absC_at' x
  rw [eq_true hp] at ca
  obtain ⟨m, hm⟩ : ∃ m, m = x.natAbs := ⟨_, rfl⟩
  have hm2 : m ≤ 9223372036854775808 := by omega
  rw [← hm] at ca
  simp only [Tryz.f34]
  simp [ca]
  refine loop_go (fun n st => ∃ k u bs, n = 20 - k ∧ k ≤ 20 ∧ u * 10 ^ k ≤ m ∧ bs.length = k ∧ decI m u k bs ∧ st = l1DecS x u k bs) (s0 := l1DecS x m 0 []) (n := 20) (snd_of (by simp [LeT, l1DecS]) (by simp [l1DecS])) ⟨0, m, [], rfl, by omega, by simp, rfl, .inl ⟨rfl, rfl, rfl⟩, rfl⟩ ?_
  rintro n st ⟨k, u, bs, rfl, hk, hle, hbl, hI, rfl⟩ KN hN
  have hum : u ≤ m := Nat.le_trans (Nat.le_mul_of_pos_right u (Nat.pow_pos (by omega))) hle
  have hlast : k = 20 → u = 0 := by
    rintro rfl
    have : u * 100000000000000000000 ≤ m := hle
    omega
  by_cases hc : k < 20 ∧ (k = 0 ∨ 0 < u)
  · obtain ⟨hk20, hku⟩ := hc
    have hI' := decI_step hI hku
    have w0 : (k : Int) < 20 := by omega
    have w1 : IntKind.i64.wrap ((k : Int) + 1) = (k : Int) + 1 := i64_id _ (by omega) (by omega)
    have t1 : (u : Int).tmod 10 = ((u % 10 : Nat) : Int) := by
      rw [Int.tmod_eq_emod_of_nonneg (by omega)]; omega
    have w2 : IntKind.u64.wrap (48 + (u : Int).tmod 10) = ((48 + u % 10 : Nat) : Int) := by rw [t1, u64_id _ (by omega) (by omega)]; omega
    have w3 : IntKind.u8.wrap (48 + (u : Int) % 10) = 48 + (u : Int) % 10 := by
      have : ((48 + u % 10 : Nat) : Int) = 48 + (u : Int) % 10 := by omega
      rw [← this]
      have : 48 + u % 10 < 256 := by omega
      generalize 48 + u % 10 = z at this
      simp only [IntKind.wrap, IntKind.signed, IntKind.bits]; simp; omega
    have w5 : IntKind.i64.wrap 1 = 1 := by decide
    have w4 : IntKind.u64.wrap ((u : Int) / 10) = ((u / 10 : Nat) : Int) := by rw [u64_id _ (by omega) (by omega)]; omega
    have hs : ∀ a ∈ bs, (bk a).size = 1 := fun a _ => rfl
    have hm1 : 1 + bs.length ≤ maxLen := by simp only [maxLen]; omega
    have hle' : u / 10 * 10 ^ (k + 1) ≤ m := by
      rw [Nat.pow_succ]
      have h1 : u / 10 * 10 ≤ u := by omega
      calc u / 10 * (10 ^ k * 10) = u / 10 * 10 * 10 ^ k := by rw [Nat.mul_comm (10 ^ k) 10, Nat.mul_assoc]
        _ ≤ u * 10 ^ k := Nat.mul_le_mul_right _ h1
        _ ≤ m := hle
    have fin : ∀ s' : St, Snd s' (l1DecS x (u / 10) (k + 1) ((48 + u % 10) :: bs)) → KN s' := fun s' h =>
      hN _ (nx (m := 20 - (k + 1)) (s'' := l1DecS x (u / 10) (k + 1) ((48 + u % 10) :: bs)) h ⟨k + 1, u / 10, _, rfl, by omega, hle', by simp [hbl], hI', rfl⟩ (by omega))
    rcases Nat.eq_zero_or_pos k with rfl | hk0
    · simp [-D.isLit, l1DecS, w0, w1, w2, w3, w4, w5]
      refine ⟨⟨hs, by omega, hm1⟩, fin _ (snd_obs (n := 37) [(8, 27, .row 1 5 (((48 + u % 10) :: bs).map bk))] rfl (by simp [bk]) (by simp [l1DecS]))⟩
    · have k1 : ¬ (k = 0) := by omega
      have u1 : 0 < u := by omega
      have u2 : ¬ (u = 0) := by omega
      simp [-D.isLit, l1DecS, w0, w1, w2, w3, w4, k1, u1, u2]
      refine ⟨⟨hs, by omega, hm1⟩, fin _ (snd_obs (n := 37) [(8, 27, .row 1 5 (((48 + u % 10) :: bs).map bk))] rfl (by simp [bk]) (by simp [l1DecS]))⟩
  · have hk1 : 1 ≤ k := by omega
    have hu0 : u = 0 := by
      by_cases h : k = 20
      · exact hlast h
      · omega
    subst hu0
    have hd : decK m = bs := by
      rcases hI with ⟨h, _⟩ | ⟨_, h, _⟩ | ⟨_, _, h⟩
      · omega
      · omega
      · exact h
    subst hd
    have k1 : ¬ (k = 0) := by omega
    have cx : bytesDs ((decK m).map bk) = some ((decK m).map fun k : Nat => (k : Int)) := bytesDs_bk _
    by_cases hneg : x < 0
    · have e := decS_neg hneg
      rw [← hm, strOf_bk] at e
      by_cases h20 : (k : Int) < 20 <;> simp [-D.isLit, l1DecS, h20, k1, hneg, cx, e]
      all_goals (simp only [ByteArray.size, List.size_toArray, List.length_map, hbl]; simp; omega)
    · have e := decS_pos hneg
      rw [show x.toNat = m by omega, strOf_bk] at e
      by_cases h20 : (k : Int) < 20 <;> simp [-D.isLit, l1DecS, h20, k1, hneg, cx, e]
theorem l1Dec_ok : callable Tryz.prog 34 = true := by kernel_rfl
def qtS (a b : Int) : ByteArray := if b = 1 then decS a else decS a ++ ((⟨#[47]⟩ : ByteArray) ++ decS b)
theorem one_size : (⟨#[47]⟩ : ByteArray).size = 1 := rfl
noncomputable def sQTextC := ct1 EQ (fun p0 => I64 p0.1 ∧ I64 p0.2) (fun p0 => [.lit (.string (if qOk p0.1 p0.2 then qtS p0.1 p0.2 else ⟨#[]⟩))])
@[simp] theorem sQTextC_at (a b : Int) : sQTextC [eQ a b] = (I64 a ∧ I64 b, [.lit (.string (if qOk a b then qtS a b else ⟨#[]⟩))]) := ct1_at (a, b)
noncomputable def sQTextTb : List (FuncId × Ct) := [(25, .data qokC), (34, .data l1DecC)]
theorem sQTextTb_ok : TbOK NF Tryz.prog (tbl sQTextTb) := tbl_cons (c := .data qokC) sQOk_spec sQOk_ok (tbl_cons (c := .data l1DecC) l1Dec_spec l1Dec_ok tbl_nil)
@[simp] theorem sQTextTb1 : tbl sQTextTb 25 = some (.data qokC) := rfl
@[simp] theorem sQTextTb2 : tbl sQTextTb 34 = some (.data l1DecC) := rfl
theorem sQText_spec : SpecD NF Tryz.prog 13 sQTextC := by
  refine rd1 (mf := fun f => false) sQTextTb_ok (fn := Tryz.f13) (by kernel_rfl) rfl (by kernel_rfl) (by kernel_rfl) ?_
  rintro ⟨a, b⟩ hp
  have hp : I64 a ∧ I64 b := hp
  show awp _ _ _ _ (start _ ([eQ a b].map .dat) []) (endK _ _ _ (([.lit (.string (if qOk a b then qtS a b else ⟨#[]⟩))]).map .dat) [])
  obtain ⟨h1, h2⟩ := hp
  have s1 := decS_size h1
  have s2 := decS_size h2
  have s3 := one_size
  have cq : qokC [.agg [.lit (.int .i64 a), .lit (.int .i64 b)]] = (True, [.lit (.bool (decide (qOk a b)))]) := by
    have c : qokC [.agg [.lit (.int .i64 a), .lit (.int .i64 b)]] = ((I64 a ∧ I64 b), [.lit (.bool (decide (qOk a b)))]) := z_ok a b
    rw [eq_true (show I64 a ∧ I64 b from ⟨h1, h2⟩)] at c
    exact c
  by_cases hq : qOk a b
  · rw [if_pos hq]
    by_cases hb : b = 1
    · subst hb
      simp [-D.isLit, Tryz.f13, cq, hq, h1, h2, qtS, eQ, i64D]
    · simp [-D.isLit, Tryz.f13, cq, hq, h1, h2, hb, qtS, eQ, i64D, str_assoc]
      omega
  · rw [if_neg hq]
    simp [-D.isLit, Tryz.f13, cq, hq, h1, h2, eQ, i64D]
theorem sQText_ok : callable Tryz.prog 13 = true := by kernel_rfl
noncomputable def iQTextC := ct1 EQ (fun p0 => I64 p0.1 ∧ I64 p0.2) (fun p0 => [.lit (.string (if qOk p0.1 p0.2 then qtS p0.1 p0.2 else ⟨#[]⟩))])
@[simp] theorem iQTextC_at (a b : Int) : iQTextC [eQ a b] = (I64 a ∧ I64 b, [.lit (.string (if qOk a b then qtS a b else ⟨#[]⟩))]) := ct1_at (a, b)
noncomputable def iQTextTb : List (FuncId × Ct) := [(46, .data qokC), (47, .data fmtC)]
theorem iQTextTb_ok : TbOK NF Tryz.prog (tbl iQTextTb) := tbl_cons (c := .data qokC) iQOk_spec iQOk_ok (tbl_cons (c := .data fmtC) fmt_spec fmt_ok tbl_nil)
@[simp] theorem iQTextTb1 : tbl iQTextTb 46 = some (.data qokC) := rfl
@[simp] theorem iQTextTb2 : tbl iQTextTb 47 = some (.data fmtC) := rfl
theorem iQText_spec : SpecD NF Tryz.prog 22 iQTextC := by
  refine rd1 (mf := fun f => false) iQTextTb_ok (fn := Tryz.f22) (by kernel_rfl) rfl (by kernel_rfl) (by kernel_rfl) ?_
  rintro ⟨a, b⟩ hp
  have hp : I64 a ∧ I64 b := hp
  show awp _ _ _ _ (start _ ([eQ a b].map .dat) []) (endK _ _ _ (([.lit (.string (if qOk a b then qtS a b else ⟨#[]⟩))]).map .dat) [])
  obtain ⟨h1, h2⟩ := hp
  have s1 := decS_size h1
  have s2 := decS_size h2
  have s3 := one_size
  have cq : qokC [.agg [.lit (.int .i64 a), .lit (.int .i64 b)]] = (True, [.lit (.bool (decide (qOk a b)))]) := by
    have c : qokC [.agg [.lit (.int .i64 a), .lit (.int .i64 b)]] = ((I64 a ∧ I64 b), [.lit (.bool (decide (qOk a b)))]) := z_ok a b
    rw [eq_true (show I64 a ∧ I64 b from ⟨h1, h2⟩)] at c
    exact c
  by_cases hq : qOk a b
  · rw [if_pos hq]
    by_cases hb : b = 1
    · subst hb
      simp [-D.isLit, Tryz.f22, cq, hq, h1, h2, qtS, eQ, i64D]
    · simp [-D.isLit, Tryz.f22, cq, hq, h1, h2, hb, qtS, eQ, i64D, str_assoc]
      omega
  · rw [if_neg hq]
    simp [-D.isLit, Tryz.f22, cq, hq, h1, h2, eQ, i64D]
theorem iQText_ok : callable Tryz.prog 22 = true := by kernel_rfl
end Go.Proofs.YtojbfdkpelldoaaGreatDoor.Ae

namespace Go.Proofs.YtojbfdkpelldoaaGreatDoor.Ae
open Go Go.RowKit Go.Proofs.YtojbfdkpelldoaaGreatDoor.Dig
theorem rat_one6 (a : Int) : Rat.divInt a 1 = (a : Rat) := by rw [Rat.divInt_eq_div]; simp; grind
theorem rt_end {a b d lo : Int} (hb : 0 < b) (h0 : 0 ≤ lo) (h1 : lo * lo * b ≤ a * (d * d)) (h2 : a * (d * d) < (lo + 1) * (lo + 1) * b) : ((isq (Rat.divInt a b * (d : Rat) * (d : Rat)).floor.natAbs : Nat) : Int) = lo := by
  have hq : Rat.divInt a b * (d : Rat) * (d : Rat) = Rat.divInt (a * (d * d)) b := by
    rw [← rat_one6 d, Rat.divInt_mul_divInt, Rat.divInt_mul_divInt, Int.mul_one, Int.mul_one, Int.mul_assoc]
  rw [hq]
  generalize a * (d * d) = R at *
  obtain ⟨q, hqq⟩ : ∃ q, q = Rat.divInt R b := ⟨_, rfl⟩
  rw [← hqq]
  have hc : q.num * b = R * q.den := by
    have h := Rat.num_divInt_den q
    rw [hqq] at h
    rw [← hqq] at h
    exact (Rat.divInt_eq_divInt_iff (by have := q.den_nz; omega) (by omega)).1 (h.trans hqq)
  have hd : (0 : Int) < q.den := by have := q.den_pos; omega
  rw [Rat.floor_def]
  have k1 : lo * lo ≤ q.num / q.den := by
    rw [Int.le_ediv_iff_mul_le hd]
    refine Int.le_of_mul_le_mul_right (a := b) ?_ hb
    rw [hc]
    have := Int.mul_le_mul_of_nonneg_right h1 (Int.le_of_lt hd)
    grind
  have k2 : q.num / q.den < (lo + 1) * (lo + 1) := by
    rw [Int.ediv_lt_iff_lt_mul hd]
    refine Int.lt_of_mul_lt_mul_right (a := b) ?_ (Int.le_of_lt hb)
    rw [hc]
    have := Int.mul_lt_mul_of_pos_right h2 hd
    grind
  have e : isq (q.num / q.den).natAbs = lo.natAbs := by
    refine isq_uniq ?_ ?_
    · have := Int.natAbs_mul lo lo
      have h3 := Int.mul_nonneg h0 h0
      omega
    · have := Int.natAbs_mul (lo + 1) (lo + 1)
      have h3 := Int.mul_nonneg h0 h0
      have h4 : (lo + 1).natAbs = lo.natAbs + 1 := by omega
      rw [h4] at this
      omega
  rw [e]; omega
theorem isq_small {n : Nat} : isq n ≤ n := by
  have := isq_le n
  rcases Nat.eq_zero_or_pos (isq n) with h | h
  · omega
  · have := Nat.le_mul_of_pos_left (isq n) h; omega
section
variable {α : Type} {e : α → List D} {pre : α → Prop} {post : α → D}
open Classical in
noncomputable def ctB (e : α → List D) (pre : α → Prop) (post : α → D) : List D → Prop × D := fun ds =>
  if h : ∃ a, e a = ds then (pre h.choose, post h.choose) else (False, .lit undef)
theorem ctB_at (inj : ∀ a b, e a = e b → a = b) (a : α) : ctB e pre post (e a) = (pre a, post a) := by
  unfold ctB
  have h : ∃ b, e b = e a := ⟨a, rfl⟩
  rw [dif_pos h, inj _ _ h.choose_spec]
theorem ctB_pre {ds : List D} (h : (ctB e pre post ds).1) : ∃ a, ds = e a ∧ pre a ∧ ctB e pre post ds = (pre a, post a) := by
  unfold ctB at h ⊢
  by_cases hh : ∃ a, e a = ds
  · rw [dif_pos hh] at h ⊢
    exact ⟨_, hh.choose_spec.symm, h, rfl⟩
  · rw [dif_neg hh] at h
    exact h.elim
end
theorem rdB {N : NR} {α : Type} {e : α → List D} {pre : α → Prop} {post : α → D} {f : FuncId} {fn : Func} {c : Code} {mf : FuncId → Bool} {tb : FuncId → Option Ct} (htb : TbOK N Tryz.prog tb) (hf : Tryz.prog.funcs[f]? = some fn) (hb : fn.body = some c) (hd : drawAll mf c = true)
    (h : ∀ a, pre a → (e a).length ≤ fn.ntmps ∧ awp Tryz.prog mf tb c (start fn.ntmps ((e a).map .dat) []) (endB fn.results.toList (post a))) : SpecB N Tryz.prog f (ctB e pre post) := by
  refine specB_of hf hb (fun ds hp => ?_)
  obtain ⟨a, rfl, h1, h2⟩ := ctB_pre hp
  rw [h2]
  exact ⟨(h a h1).1, awp_sound htb mo _ _ _ hd (h a h1).2⟩
attribute [simp] endB
noncomputable def rflBC := ctB r1E (fun p => qsz p.a < MX) (fun p => eZ p.a.floor)
theorem rflBC_at (a : Rat) : rflBC [eRat a] = (qsz a < MX, eZ a.floor) := ctB_at r1E_inj ⟨a⟩
theorem rfloorB_spec {N : NR} : SpecB N Tryz.prog 51 rflBC := by
  refine rdB (mf := fun f => f == 76) rflTb_ok (fn := Tryz.f51) (by kernel_rfl) rfl (by kernel_rfl) ?_
  rintro ⟨a⟩ ha
  have ha : qsz a < MX := ha
  have ha' : qsz a < 1099511627776 := by unfold MX at ha; omega
  refine ⟨by show 1 ≤ 12; decide, ?_⟩
  have c1 := bigIC_at a
  have c2 := numC_at a
  have c3 := denC_at a
  have c4 := idC_at a.num a.den .new
  simp only [ha', SZ_num ha', SZ_den ha', dz a, ne_eq, not_false_eq_true, and_self, eB_new] at c2 c3 c4
  simp only [r1E, Tryz.f51, Rat.floor_def]
  simp [c1, c2, c3, c4]
noncomputable def qrI (a b d : Int) : Int × Int × Bool := if qOk a b ∧ 0 ≤ a ∧ 1 ≤ d ∧ d ≤ 1000000 then oq ((((isq (Rat.divInt a b * (d : Rat) * (d : Rat)).floor.natAbs : Nat) : Int) : Rat) / (d : Rat)) else (0, 0, false)
noncomputable def qrC6 := ct2 EQ EInt (fun p m => (I64 p.1 ∧ I64 p.2) ∧ I64 m) (fun p m => d3 (qrI p.1 p.2 m))
@[simp] theorem qrC6_at (a b m : Int) : qrC6 [eQ a b, .lit (.int .i64 m)] = (((I64 a ∧ I64 b) ∧ I64 m), d3 (qrI a b m)) := ct2_at (A := EQ) (B := EInt) (a, b) m
noncomputable def iQrTb : List (FuncId × Ct) := [(46, .data qokC), (42, .data rqC), (48, .data rmC), (50, .data riC), (51, .ownb rflBC), (53, .mut [true, false] sqrtC), (52, .data fiC), (54, .data rdvC), (21, .data rqqC)]
theorem iQrTb_ok {N : NR} : TbOK N Tryz.prog (tbl iQrTb) := tbl_cons (c := .data qokC) iQOk_spec iQOk_ok (tbl_cons (c := .data rqC) rq_spec rq_ok (tbl_cons (c := .data rmC) rmul_spec rmul_ok (tbl_cons (c := .data riC) ri_spec ri_ok (tbl_cons (c := .ownb rflBC) rfloorB_spec rfloor_ok (tbl_cons (c := .mut [true, false] sqrtC) Sqrt_spec Sqrt_ok (tbl_cons (c := .data fiC) fromInt_spec fromInt_ok (tbl_cons (c := .data rdvC) rdiv_spec rdiv_ok (tbl_cons (c := .data rqqC) rqq_spec rqq_ok tbl_nil))))))))
@[simp] theorem iQrTb1 : tbl iQrTb 46 = some (.data qokC) := rfl
@[simp] theorem iQrTb2 : tbl iQrTb 42 = some (.data rqC) := rfl
@[simp] theorem iQrTb3 : tbl iQrTb 48 = some (.data rmC) := rfl
@[simp] theorem iQrTb4 : tbl iQrTb 50 = some (.data riC) := rfl
@[simp] theorem iQrTb5 : tbl iQrTb 51 = some (.ownb rflBC) := rfl
@[simp] theorem iQrTb6 : tbl iQrTb 53 = some (.mut [true, false] sqrtC) := rfl
@[simp] theorem iQrTb7 : tbl iQrTb 52 = some (.data fiC) := rfl
@[simp] theorem iQrTb8 : tbl iQrTb 54 = some (.data rdvC) := rfl
@[simp] theorem iQrTb9 : tbl iQrTb 21 = some (.data rqqC) := rfl
set_option maxRecDepth 100000 in
set_option maxHeartbeats 4000000 in
theorem iQr_spec {N : NR} : SpecD N Tryz.prog 24 qrC6 := by
  refine rd2 (mf := fun f => f == 51 || f == 53 || f == 52) iQrTb_ok (fn := Tryz.f24) (by kernel_rfl) rfl (by kernel_rfl) (by kernel_rfl) ?_
  rintro ⟨a, b⟩ d ⟨⟨i1, i2⟩, hm⟩
  have i1 : I64 a := i1
  have i2 : I64 b := i2
  have hm : I64 d := hm
  generalize hr : qrI a b d = r
  show awp _ _ _ _ (start _ ([eQ a b, .lit (.int .i64 d)].map .dat) []) (endK _ _ _ ((d3 r).map .dat) [])
  simp only [Tryz.f24]
  by_cases h1 : qOk a b
  case neg =>
    have er : r = (0, 0, false) := by rw [← hr]; unfold qrI; rw [if_neg (fun x => h1 x.1)]
    subst er
    simp [-D.isLit, i1, i2, h1, d3, boolD] <;> exact Sub.refl _
  have eqv : eQ a b = .agg [.lit (.int .i64 a), .lit (.int .i64 b)] := rfl
  by_cases h0 : a < 0
  · have er : r = (0, 0, false) := by rw [← hr]; unfold qrI; rw [if_neg (fun x => by have := x.2.1; omega)]
    subst er
    simp [-D.isLit, i1, i2, h1, h0, d3, boolD] <;> exact Sub.refl _
  by_cases h2 : d < 1
  · have er : r = (0, 0, false) := by rw [← hr]; unfold qrI; rw [if_neg (fun x => by have := x.2.2.1; omega)]
    subst er
    simp [-D.isLit, i1, i2, h1, h0, h2, d3, boolD] <;> exact Sub.refl _
  by_cases h3 : 1000000 < d
  · have er : r = (0, 0, false) := by rw [← hr]; unfold qrI; rw [if_neg (fun x => by have := x.2.2.2; omega)]
    subst er
    simp [-D.isLit, i1, i2, h1, h0, h2, h3, d3, boolD] <;> exact Sub.refl _
  have w1 := qOk_QI h1
  have y1 := qOk_64 h1
  have hx := QI_qsz w1
  have hb : 0 < b := y1.2.2
  have hdq : qsz (d : Rat) ≤ 2 := by
    have h : QI d 1 := ⟨by omega, by simp, by omega, by omega⟩
    have := QI_qsz h
    rw [rat_one6] at this
    exact this
  have er := hr
  unfold qrI at er
  rw [if_pos ⟨h1, by omega, by omega, by omega⟩] at er
  have hab : d.natAbs < 9223372036854775808 := by omega
  have hdn : (d : Rat) ≠ 0 := by
    intro e
    have : d = 0 := by exact_mod_cast e
    omega
  have c0 : riC [.lit (.int .i64 d)] = (True, [eRat (d : Rat)]) := by rw [show (D.lit (.int .i64 d)) = i64D d from rfl, riC_at, eq_true hab]
  obtain ⟨x, hxx⟩ : ∃ x, x = Rat.divInt a b := ⟨_, rfl⟩
  rw [← hxx] at er hx
  obtain ⟨D0, hD⟩ : ∃ D0 : Rat, D0 = (d : Rat) := ⟨_, rfl⟩
  rw [← hD] at er hdq hdn c0
  have m1 := qsz_mul x D0
  have m2 := qsz_mul (x * D0) D0
  have hln := ln_floor (x * D0 * D0)
  have s1 : qsz x + qsz D0 < MX := by rw [MX_val]; omega
  have s2 : qsz (x * D0) + qsz D0 < MX := by rw [MX_val]; omega
  have s3 : qsz (x * D0 * D0) < MX := by rw [MX_val]; omega
  have c1 := rflBC_at (x * D0 * D0)
  rw [eq_true s3] at c1
  obtain ⟨X, hX⟩ : ∃ X, X = (x * D0 * D0).floor := ⟨_, rfl⟩
  rw [← hX] at er c1 hln
  have c2 := sqrtC_r X
  rw [eq_true (show (mag X.natAbs).length ≤ 1000 by show ln X.natAbs ≤ 1000; omega)] at c2
  obtain ⟨k, hk⟩ : ∃ k : Int, k = ((isq X.natAbs : Nat) : Int) := ⟨_, rfl⟩
  rw [← hk] at er c2
  have hkl : ln k.natAbs ≤ 8 := by
    rw [hk, Int.natAbs_natCast]
    have := ln_mono (isq_small (n := X.natAbs))
    omega
  have c3 := fiC_at k
  rw [eq_true (show ln k.natAbs < MX by rw [MX_val]; omega)] at c3
  have s4 : qsz (k : Rat) + qsz D0 < MX := by rw [qsz_int, MX_val]; omega
  have o1 : oQ ((k : Rat) / D0) = d3 r := by rw [oQ_d3, er]
  simp [-D.isLit, i1, i2, h1, h0, h2, h3, w1, ← hxx, c0, s1, s2, c1, c2, c3, s4, hdn, er, d3, boolD]
theorem iQr_ok : callable Tryz.prog 24 = true := by kernel_rfl
theorem n_zof6 (a : Int) : zOfC [.lit (.int .i64 a)] = (I64 a, [eZ a]) := zOfC_at a
theorem n_zcmp6 (a b : Int) : zCmpC [eZ a, eZ b] = ((SZ a ∧ SZ b ∧ SZ (a - b)), [.lit (.int .i64 (a - b).sign)]) := zCmpC_at a b
theorem n_qof6 (a b : Int) : qofC [.lit (.int .i64 a), .lit (.int .i64 b)] = ((I64 a ∧ I64 b), d3 (if b = 0 then no3 else oq (Rat.divInt a b))) := qofC_at a b
theorem SZ_6 {n : Int} (h : ln n.natAbs ≤ 100) : SZ n := by rw [SZ_ln]; omega
theorem ln_6 {n : Int} (h : I64 n) : ln n.natAbs ≤ 2 := ln_i64 (by unfold I64 at h; omega)
theorem sign_le6 (a b : Int) : ((a - b).sign ≤ 0) ↔ a ≤ b := by
  rcases Int.lt_trichotomy (a - b) 0 with h | h | h
  · have e := Int.sign_eq_neg_one_of_neg h
    rw [e]; omega
  · rw [h, Int.sign_zero]; omega
  · have e := Int.sign_eq_one_of_pos h
    rw [e]; omega
noncomputable def sQrTb : List (FuncId × Ct) := [(25, .data qokC), (38, .data zOfC), (37, .data zMulC), (39, .data zCmpC), (40, .data qofC)]
theorem sQrTb_ok : TbOK NF Tryz.prog (tbl sQrTb) := tbl_cons (c := .data qokC) sQOk_spec sQOk_ok (tbl_cons (c := .data zOfC) l1ZOf_spec l1ZOf_ok (tbl_cons (c := .data zMulC) l1ZMul_spec l1ZMul_ok (tbl_cons (c := .data zCmpC) l1ZCmp_spec l1ZCmp_ok (tbl_cons (c := .data qofC) sQOf_spec sQOf_ok tbl_nil))))
@[simp] theorem sQrTb1 : tbl sQrTb 25 = some (.data qokC) := rfl
@[simp] theorem sQrTb2 : tbl sQrTb 38 = some (.data zOfC) := rfl
@[simp] theorem sQrTb3 : tbl sQrTb 37 = some (.data zMulC) := rfl
@[simp] theorem sQrTb4 : tbl sQrTb 39 = some (.data zCmpC) := rfl
@[simp] theorem sQrTb5 : tbl sQrTb 40 = some (.data qofC) := rfl
def zQ6 : D := .agg [.lit (.int .i64 0), .lit (.int .i64 0)]
@[simp] theorem zQ6_size : zQ6.size = 2 := rfl
def qrS (a b d R lo hi : Int) : St := ⟨[.any, .dat (.lit (.int .i64 d)), .obj 2 [] 0, .any, .obj 4 [] 0, .any, .obj 6 [] 0, .dat (.lit (.int .i64 lo)), .dat (.lit (.int .i64 hi)), .any, .any, .any, .any, .any, .any, .any, .any, .any, .any, .any, .any, .any, .any, .any, .any, .any, .any, .any, .any, .any, .any, .any, .any, .any, .any, .any, .any, .any, .any, .any, .any, .any, .any, .any, .any, .any, .any, .any, .any, .any, .any, .any, .any, .any, .any, .any, .any, .any, .any, .any, .any, .any, .any, .any, .any], [none, none, some (.box (eQ a b)), none, some (.box zQ6), none, some (.box (eZ R)), none, none, none, none, none, none, none, none, none, none, none, none, none, none, none, none, none, none, none, none, none, none, none, none, none, none, none, none, none, none, none, none, none, none, none, none, none, none, none, none, none, none, none, none, none, none, none, none, none, none, none, none, none, none, none, none, none, none]⟩
set_option maxRecDepth 100000 in
set_option maxHeartbeats 4000000 in
theorem sQr_spec : SpecD NF Tryz.prog 15 qrC6 := by
  refine rd2 (mf := fun f => false) sQrTb_ok (fn := Tryz.f15) (by kernel_rfl) rfl (by kernel_rfl) (by kernel_rfl) ?_
  rintro ⟨a, b⟩ d ⟨⟨i1, i2⟩, hm⟩
  have i1 : I64 a := i1
  have i2 : I64 b := i2
  have hm : I64 d := hm
  generalize hr : qrI a b d = r
  show awp _ _ _ _ (start _ ([eQ a b, .lit (.int .i64 d)].map .dat) []) (endK _ _ _ ((d3 r).map .dat) [])
  simp only [Tryz.f15]
  by_cases h1 : qOk a b
  case neg =>
    have er : r = (0, 0, false) := by rw [← hr]; unfold qrI; rw [if_neg (fun x => h1 x.1)]
    subst er
    simp [-D.isLit, i1, i2, h1, d3, boolD] <;> exact Sub.refl _
  have eqv : eQ a b = .agg [.lit (.int .i64 a), .lit (.int .i64 b)] := rfl
  by_cases h0 : a < 0
  · have er : r = (0, 0, false) := by rw [← hr]; unfold qrI; rw [if_neg (fun x => by have := x.2.1; omega)]
    subst er
    simp [-D.isLit, i1, i2, h1, h0, d3, boolD] <;> exact Sub.refl _
  by_cases h2 : d < 1
  · have er : r = (0, 0, false) := by rw [← hr]; unfold qrI; rw [if_neg (fun x => by have := x.2.2.1; omega)]
    subst er
    simp [-D.isLit, i1, i2, h1, h0, h2, d3, boolD] <;> exact Sub.refl _
  by_cases h3 : 1000000 < d
  · have er : r = (0, 0, false) := by rw [← hr]; unfold qrI; rw [if_neg (fun x => by have := x.2.2.2; omega)]
    subst er
    simp [-D.isLit, i1, i2, h1, h0, h2, h3, d3, boolD] <;> exact Sub.refl _
  have w1 := qOk_QI h1
  have y1 := qOk_64 h1
  have hx := QI_qsz w1
  have hb : 0 < b := y1.2.2
  have hdq : qsz (d : Rat) ≤ 2 := by
    have h : QI d 1 := ⟨by omega, by simp, by omega, by omega⟩
    have := QI_qsz h
    rw [rat_one6] at this
    exact this
  have er := hr
  unfold qrI at er
  rw [if_pos ⟨h1, by omega, by omega, by omega⟩] at er
  have la := ln_6 i1
  have lb := ln_6 i2
  have ld := ln_6 hm
  have ldd := ln_na_mul d d
  have lR := ln_na_mul a (d * d)
  obtain ⟨R, hR⟩ : ∃ R, R = a * (d * d) := ⟨_, rfl⟩
  have z1 : SZ a := SZ_6 (by omega)
  have z2 : SZ d := SZ_6 (by omega)
  have z3 : SZ (d * d) := SZ_6 (by omega)
  rw [← hR] at lR
  have z4 : SZ R := SZ_6 (by omega)
  have z5 : SZ b := SZ_6 (by omega)
  have ha1 : a ≤ 1000000000000000000 := h1.2.1.2
  have hdd : 0 ≤ d * d ∧ d * d ≤ 1000000000000 := by
    constructor
    · exact Int.mul_nonneg (by omega) (by omega)
    · have := Int.mul_le_mul (show d ≤ 1000000 by omega) (show d ≤ 1000000 by omega) (by omega) (by omega)
      exact this
  have hR0 : 0 ≤ R := by rw [hR]; exact Int.mul_nonneg (by omega) hdd.1
  have hR1 : R < 2251799813685248 * 2251799813685248 * b := by
    have k1 : R ≤ 1000000000000000000 * 1000000000000 := by
      rw [hR]
      exact Int.mul_le_mul ha1 hdd.2 hdd.1 (by omega)
    have k2 : (2251799813685248 * 2251799813685248 : Int) * 1 ≤ 2251799813685248 * 2251799813685248 * b := Int.mul_le_mul_of_nonneg_left (by omega) (by omega)
    omega
  simp [-D.isLit, i1, i2, hm, h1, h0, h2, h3, n_zof6, zMulC_at, z1, z2, z3, ← hR]
  refine loop_go (fun n st => ∃ lo hi, n = (hi - lo).toNat ∧ (0 ≤ lo ∧ lo < hi ∧ hi ≤ 2251799813685248) ∧ lo * lo * b ≤ R ∧ R < hi * hi * b ∧ st = qrS a b d R lo hi) (s0 := qrS a b d R 0 2251799813685248) (n := 2251799813685248) (snd_of (by simp [LeT, qrS]) (by simp [qrS, zQ6])) ⟨0, 2251799813685248, by decide, by omega, by simpa using hR0, hR1, rfl⟩ ?_
  rintro n st ⟨lo, hi, hn, hk, hlo, hhi, rfl⟩ KN hN
  have w0 : IntKind.i64.wrap (hi - lo) = hi - lo := i64_id _ (by omega) (by omega)
  by_cases h : 1 < hi - lo
  · obtain ⟨m, hm'⟩ : ∃ m, m = lo + (hi - lo) / 2 := ⟨_, rfl⟩
    have ht : (hi - lo).tdiv 2 = (hi - lo) / 2 := Int.tdiv_eq_ediv_of_nonneg (by omega)
    have w2 : IntKind.i64.wrap ((hi - lo) / 2) = (hi - lo) / 2 := i64_id _ (by omega) (by omega)
    have w3 : IntKind.i64.wrap (lo + (hi - lo) / 2) = m := by rw [← hm']; exact i64_id _ (by omega) (by omega)
    have hmb : lo < m ∧ m < hi := by omega
    have im : I64 m := by unfold I64; omega
    have lm := ln_6 im
    have lmm := ln_na_mul m m
    have lP := ln_na_mul (m * m) b
    have zz1 : SZ m := SZ_6 (by omega)
    have zz2 : SZ (m * m) := SZ_6 (by omega)
    have zz3 : SZ (m * m * b) := SZ_6 (by omega)
    have zz4 : SZ (m * m * b - R) := by
      have := ln_na_add (m * m * b) (-R)
      rw [Int.natAbs_neg, ← Int.sub_eq_add_neg] at this
      exact SZ_6 (by omega)
    by_cases hc : m * m * b ≤ R
    · have hs : ((m * m * b - R).sign ≤ 0) = True := eq_true ((sign_le6 _ _).2 hc)
      simp [-D.isLit, qrS, h, w0, ht, w2, w3, n_zof6, zMulC_at, n_zcmp6, im, i2, z4, z5, zz1, zz2, zz3, zz4, hs]
      exact hN _ (nx (m := (hi - m).toNat) (s'' := qrS a b d R m hi) (snd_of (by simp [LeT, qrS]) (by simp [qrS])) ⟨m, hi, rfl, by omega, hc, hhi, rfl⟩ (by omega))
    · have hs : ((m * m * b - R).sign ≤ 0) = False := eq_false (fun x => hc ((sign_le6 _ _).1 x))
      simp [-D.isLit, qrS, h, w0, ht, w2, w3, n_zof6, zMulC_at, n_zcmp6, im, i2, z4, z5, zz1, zz2, zz3, zz4, hs]
      exact hN _ (nx (m := (m - lo).toNat) (s'' := qrS a b d R lo m) (snd_of (by simp [LeT, qrS]) (by simp [qrS])) ⟨lo, m, rfl, by omega, hlo, by omega, rfl⟩ (by omega))
  · have e1 : hi = lo + 1 := by omega
    subst e1
    have hend := rt_end (a := a) (b := b) (d := d) hb hk.1 (by rw [← hR]; exact hlo) (by rw [← hR]; exact hhi)
    rw [hend] at er
    have il : I64 lo := by unfold I64; omega
    have hd0 : ¬ d = 0 := by omega
    have e2 : oq (Rat.divInt lo d) = r := by rw [Rat.divInt_eq_div]; exact er
    simp [-D.isLit, qrS, h, w0, n_qof6, il, hm, hd0, e2, d3, boolD, zQ6]
theorem sQr_ok : callable Tryz.prog 15 = true := by kernel_rfl
end Go.Proofs.YtojbfdkpelldoaaGreatDoor.Ae

namespace Go.Proofs.YtojbfdkpelldoaaGreatDoor.Ae
open Go Go.RowKit Go.Proofs.YtojbfdkpelldoaaGreatDoor.Dig
end Go.Proofs.YtojbfdkpelldoaaGreatDoor.Ae

namespace Go.Proofs.YtojbfdkpelldoaaGreatDoor.Ae
open Go Go.RowKit Go.Proofs.YtojbfdkpelldoaaGreatDoor.Dig
@[simp] theorem flatD_eQ (a b : Int) : flatD (eQ a b) = some [.int .i64 a, .int .i64 b] := rfl
attribute [simp] eqV eqVs
def segOk (a b c d e f g h : Int) : Prop := ((qOk a b ∧ qOk c d) ∧ qOk e f ∧ qOk g h) ∧ ¬ (a = e ∧ b = f ∧ c = g ∧ d = h)
instance (a b c d e f g h : Int) : Decidable (segOk a b c d e f g h) := by unfold segOk; infer_instance
end Go.Proofs.YtojbfdkpelldoaaGreatDoor.Ae

namespace Go.Proofs.YtojbfdkpelldoaaGreatDoor.Ae
open Go Go.RowKit Go.Proofs.YtojbfdkpelldoaaGreatDoor.Dig
def EV3 : Enc ((Int × Int) × (Int × Int) × Int × Int) := EQ.trip EQ EQ
def EP3 : Enc (Rat × Rat × Rat) := ERat.trip ERat ERat
def EP3n : Enc (Rat × Rat × Rat) := ENum.trip ENum ENum
@[simp] theorem EV3_e (a b c d e f : Int) : EV3.e ((a, b), (c, d), e, f) = .agg [eQ a b, eQ c d, eQ e f] := rfl
@[simp] theorem EP3_e (a b c : Rat) : EP3.e (a, b, c) = .agg [eRat a, eRat b, eRat c] := rfl
@[simp] theorem EP3n_e (a b c : Rat) : EP3n.e (a, b, c) = .agg [nD a, nD b, nD c] := rfl
def v3Ok (a b c d e f : Int) : Prop := qOk a b ∧ qOk c d ∧ qOk e f
instance (a b c d e f : Int) : Decidable (v3Ok a b c d e f) := by unfold v3Ok; infer_instance
def q4Ok (a b c d e f g h : Int) : Prop := qOk a b ∧ qOk c d ∧ qOk e f ∧ qOk g h
instance (a b c d e f g h : Int) : Decidable (q4Ok a b c d e f g h) := by unfold q4Ok; infer_instance
theorem z_all3 (a b c d e f : Int) : allQC [.sl 2 [eQ a b, eQ c d, eQ e f]] = (((I64 a ∧ I64 b) ∧ (I64 c ∧ I64 d) ∧ I64 e ∧ I64 f), [.lit (.bool (decide (v3Ok a b c d e f)))]) := by
  have h1 := allQC_at [(a, b), (c, d), (e, f)]
  have h2 : (([(a, b), (c, d), (e, f)] : List (Int × Int)).length < 4611686018427387904 ∧ ∀ q ∈ [(a, b), (c, d), (e, f)], I64p q) ↔ ((I64 a ∧ I64 b) ∧ (I64 c ∧ I64 d) ∧ I64 e ∧ I64 f) := by
    constructor
    · rintro ⟨_, h⟩
      exact ⟨h (a, b) (by simp), h (c, d) (by simp), h (e, f) (by simp)⟩
    · rintro ⟨h1, h2, h3⟩
      refine ⟨by simp, ?_⟩
      intro q hq
      simp at hq
      rcases hq with rfl | rfl | rfl
      · exact h1
      · exact h2
      · exact h3
  rw [propext h2] at h1
  have h3 : (([(a, b), (c, d), (e, f)] : List (Int × Int)).all fun q => decide (qOk q.1 q.2)) = decide (v3Ok a b c d e f) := by rw [Bool.eq_iff_iff, decide_eq_true_eq]; unfold v3Ok; simp
  rw [h3] at h1
  exact h1
theorem z_all4 (a b c d e f g h : Int) : allQC [.sl 2 [eQ a b, eQ c d, eQ e f, eQ g h]] = (((I64 a ∧ I64 b) ∧ (I64 c ∧ I64 d) ∧ (I64 e ∧ I64 f) ∧ I64 g ∧ I64 h), [.lit (.bool (decide (q4Ok a b c d e f g h)))]) := by
  have h1 := allQC_at [(a, b), (c, d), (e, f), (g, h)]
  have h2 : (([(a, b), (c, d), (e, f), (g, h)] : List (Int × Int)).length < 4611686018427387904 ∧ ∀ q ∈ [(a, b), (c, d), (e, f), (g, h)], I64p q) ↔ ((I64 a ∧ I64 b) ∧ (I64 c ∧ I64 d) ∧ (I64 e ∧ I64 f) ∧ I64 g ∧ I64 h) := by
    constructor
    · rintro ⟨_, h'⟩
      exact ⟨h' (a, b) (by simp), h' (c, d) (by simp), h' (e, f) (by simp), h' (g, h) (by simp)⟩
    · rintro ⟨h1, h2, h3, h4⟩
      refine ⟨by simp, ?_⟩
      intro q hq
      simp at hq
      rcases hq with rfl | rfl | rfl | rfl
      · exact h1
      · exact h2
      · exact h3
      · exact h4
  rw [propext h2] at h1
  have h3 : (([(a, b), (c, d), (e, f), (g, h)] : List (Int × Int)).all fun q => decide (qOk q.1 q.2)) = decide (q4Ok a b c d e f g h) := by rw [Bool.eq_iff_iff, decide_eq_true_eq]; unfold q4Ok; simp
  rw [h3] at h1
  exact h1
attribute [simp] z_all3 z_all4
def one1 (n d : Int) : Bool := decide (d = 1) && (decide (n = 1) || decide (n = -1))
def plOk (a b c d e f g h : Int) : Prop := q4Ok a b c d e f g h ∧ (if a = 0 then if c = 0 then one1 e f = true else one1 c d = true else one1 a b = true)
instance (a b c d e f g h : Int) : Decidable (plOk a b c d e f g h) := by unfold plOk; infer_instance
def dot3Q (a b c d e f : Rat) : Rat := a * d + b * e + c * f
def rabs (a : Rat) : Rat := if a.num.sign < 0 then -a else a
noncomputable def iV3OkC := ct1 EV3 (fun p0 => ((I64 p0.1.1 ∧ I64 p0.1.2) ∧ (I64 p0.2.1.1 ∧ I64 p0.2.1.2) ∧ I64 p0.2.2.1 ∧ I64 p0.2.2.2)) (fun p0 => [.lit (.bool (decide (v3Ok p0.1.1 p0.1.2 p0.2.1.1 p0.2.1.2 p0.2.2.1 p0.2.2.2)))])
@[simp] theorem iV3OkC_at (a b c d e f : Int) : iV3OkC [.agg [eQ a b, eQ c d, eQ e f]] = (((I64 a ∧ I64 b) ∧ (I64 c ∧ I64 d) ∧ I64 e ∧ I64 f), [.lit (.bool (decide (v3Ok a b c d e f)))]) := ct1_at ((a, b), (c, d), e, f)
noncomputable def iV3OkTb : List (FuncId × Ct) := [(41, .data allQC)]
theorem iV3OkTb_ok {N : NR} : TbOK N Tryz.prog (tbl iV3OkTb) := tbl_cons (c := .data allQC) allQ_spec allQ_ok tbl_nil
@[simp] theorem iV3OkTb1 : tbl iV3OkTb 41 = some (.data allQC) := rfl
theorem iV3Ok_spec {N : NR} : SpecD N Tryz.prog 17 iV3OkC := by
  refine rd1 (mf := fun f => false) iV3OkTb_ok (fn := Tryz.f17) (by kernel_rfl) rfl (by kernel_rfl) (by kernel_rfl) ?_
  rintro ⟨⟨a, b⟩, ⟨c, d⟩, e, f⟩ hp
  have hp : ((I64 a ∧ I64 b) ∧ (I64 c ∧ I64 d) ∧ I64 e ∧ I64 f) := hp
  show awp _ _ _ _ (start _ ([.agg [eQ a b, eQ c d, eQ e f]].map .dat) []) (endK _ _ _ (([.lit (.bool (decide (v3Ok a b c d e f)))]).map .dat) [])
  simp [-D.isLit, Tryz.f17]
  exact hp
theorem iV3Ok_ok : callable Tryz.prog 17 = true := by kernel_rfl
noncomputable def pv3C := ct1 EV3 (fun p0 => QI p0.1.1 p0.1.2 ∧ QI p0.2.1.1 p0.2.1.2 ∧ QI p0.2.2.1 p0.2.2.2) (fun p0 => [.agg [eRat (Rat.divInt p0.1.1 p0.1.2), eRat (Rat.divInt p0.2.1.1 p0.2.1.2), eRat (Rat.divInt p0.2.2.1 p0.2.2.2)]])
@[simp] theorem pv3C_at (a b c d e f : Int) : pv3C [.agg [eQ a b, eQ c d, eQ e f]] = (QI a b ∧ QI c d ∧ QI e f, [.agg [eRat (Rat.divInt a b), eRat (Rat.divInt c d), eRat (Rat.divInt e f)]]) := ct1_at ((a, b), (c, d), e, f)
noncomputable def pv3Tb : List (FuncId × Ct) := [(42, .data rqC)]
theorem pv3Tb_ok {N : NR} : TbOK N Tryz.prog (tbl pv3Tb) := tbl_cons (c := .data rqC) rq_spec rq_ok tbl_nil
@[simp] theorem pv3Tb1 : tbl pv3Tb 42 = some (.data rqC) := rfl
theorem pv3_spec {N : NR} : SpecD N Tryz.prog 18 pv3C := by
  refine rd1 (mf := fun f => false) pv3Tb_ok (fn := Tryz.f18) (by kernel_rfl) rfl (by kernel_rfl) (by kernel_rfl) ?_
  rintro ⟨⟨a, b⟩, ⟨c, d⟩, e, f⟩ hp
  have hp : QI a b ∧ QI c d ∧ QI e f := hp
  show awp _ _ _ _ (start _ ([.agg [eQ a b, eQ c d, eQ e f]].map .dat) []) (endK _ _ _ (([.agg [eRat (Rat.divInt a b), eRat (Rat.divInt c d), eRat (Rat.divInt e f)]]).map .dat) [])
  simp [-D.isLit, Tryz.f18, hp]
theorem pv3_ok : callable Tryz.prog 18 = true := by kernel_rfl
noncomputable def p3subC := ct2 EP3 EP3 (fun p0 p1 => qsz p0.1 + qsz p0.2.1 + qsz p0.2.2 + qsz p1.1 + qsz p1.2.1 + qsz p1.2.2 < LM) (fun p0 p1 => [.agg [eRat (p0.1 - p1.1), eRat (p0.2.1 - p1.2.1), eRat (p0.2.2 - p1.2.2)]])
@[simp] theorem p3subC_at (a b c : Rat) (d e f : Rat) : p3subC [.agg [eRat a, eRat b, eRat c], .agg [eRat d, eRat e, eRat f]] = (qsz a + qsz b + qsz c + qsz d + qsz e + qsz f < LM, [.agg [eRat (a - d), eRat (b - e), eRat (c - f)]]) := ct2_at (a, b, c) (d, e, f)
noncomputable def p3subTb : List (FuncId × Ct) := [(43, .data rsubC)]
theorem p3subTb_ok {N : NR} : TbOK N Tryz.prog (tbl p3subTb) := tbl_cons (c := .data rsubC) rsub_spec rsub_ok tbl_nil
@[simp] theorem p3subTb1 : tbl p3subTb 43 = some (.data rsubC) := rfl
theorem p3sub_spec {N : NR} : SpecD N Tryz.prog 19 p3subC := by
  refine rd2 (mf := fun f => false) p3subTb_ok (fn := Tryz.f19) (by kernel_rfl) rfl (by kernel_rfl) (by kernel_rfl) ?_
  rintro ⟨a, b, c⟩ ⟨d, e, f⟩ hp
  have hp : qsz a + qsz b + qsz c + qsz d + qsz e + qsz f < LM := hp
  show awp _ _ _ _ (start _ ([.agg [eRat a, eRat b, eRat c], .agg [eRat d, eRat e, eRat f]].map .dat) []) (endK _ _ _ (([.agg [eRat (a - d), eRat (b - e), eRat (c - f)]]).map .dat) [])
  simp [-D.isLit, Tryz.f19]
  grind [qsz_add, qsz_sub, qsz_mul, qsz_neg, MX_val, LM_val]
theorem p3sub_ok : callable Tryz.prog 19 = true := by kernel_rfl
noncomputable def dot3C := ct2 EP3 EP3 (fun p0 p1 => qsz p0.1 + qsz p0.2.1 + qsz p0.2.2 + qsz p1.1 + qsz p1.2.1 + qsz p1.2.2 < LM) (fun p0 p1 => [eRat (dot3Q p0.1 p0.2.1 p0.2.2 p1.1 p1.2.1 p1.2.2)])
@[simp] theorem dot3C_at (a b c : Rat) (d e f : Rat) : dot3C [.agg [eRat a, eRat b, eRat c], .agg [eRat d, eRat e, eRat f]] = (qsz a + qsz b + qsz c + qsz d + qsz e + qsz f < LM, [eRat (dot3Q a b c d e f)]) := ct2_at (a, b, c) (d, e, f)
noncomputable def dot3Tb : List (FuncId × Ct) := [(48, .data rmC), (49, .data raddC)]
theorem dot3Tb_ok {N : NR} : TbOK N Tryz.prog (tbl dot3Tb) := tbl_cons (c := .data rmC) rmul_spec rmul_ok (tbl_cons (c := .data raddC) radd_spec radd_ok tbl_nil)
@[simp] theorem dot3Tb1 : tbl dot3Tb 48 = some (.data rmC) := rfl
@[simp] theorem dot3Tb2 : tbl dot3Tb 49 = some (.data raddC) := rfl
theorem dot3_spec {N : NR} : SpecD N Tryz.prog 23 dot3C := by
  refine rd2 (mf := fun f => false) dot3Tb_ok (fn := Tryz.f23) (by kernel_rfl) rfl (by kernel_rfl) (by kernel_rfl) ?_
  rintro ⟨a, b, c⟩ ⟨d, e, f⟩ hp
  have hp : qsz a + qsz b + qsz c + qsz d + qsz e + qsz f < LM := hp
  show awp _ _ _ _ (start _ ([.agg [eRat a, eRat b, eRat c], .agg [eRat d, eRat e, eRat f]].map .dat) []) (endK _ _ _ (([eRat (dot3Q a b c d e f)]).map .dat) [])
  simp [-D.isLit, Tryz.f23, dot3Q]
  grind [qsz_add, qsz_sub, qsz_mul, qsz_neg, MX_val, LM_val]
theorem dot3_ok : callable Tryz.prog 23 = true := by kernel_rfl
noncomputable def rabsrC := ct1 ERat (fun p0 => qsz p0 < LM) (fun p0 => [eRat (rabs p0)])
@[simp] theorem rabsrC_at (a : Rat) : rabsrC [eRat a] = (qsz a < LM, [eRat (rabs a)]) := ct1_at a
noncomputable def rabsrTb : List (FuncId × Ct) := [(44, .data rsgC), (45, .data rngC)]
theorem rabsrTb_ok {N : NR} : TbOK N Tryz.prog (tbl rabsrTb) := tbl_cons (c := .data rsgC) rsign_spec rsign_ok (tbl_cons (c := .data rngC) rneg_spec rneg_ok tbl_nil)
@[simp] theorem rabsrTb1 : tbl rabsrTb 44 = some (.data rsgC) := rfl
@[simp] theorem rabsrTb2 : tbl rabsrTb 45 = some (.data rngC) := rfl
theorem rabsr_spec {N : NR} : SpecD N Tryz.prog 20 rabsrC := by
  refine rd1 (mf := fun f => false) rabsrTb_ok (fn := Tryz.f20) (by kernel_rfl) rfl (by kernel_rfl) (by kernel_rfl) ?_
  rintro a hp
  have hp : qsz a < LM := hp
  show awp _ _ _ _ (start _ ([eRat a].map .dat) []) (endK _ _ _ (([eRat (rabs a)]).map .dat) [])
  have h0 : qsz a < MX := by rw [LM_val] at hp; rw [MX_val]; omega
  by_cases h : a.num.sign < 0 <;> simp [-D.isLit, Tryz.f20, rabs, h, h0]
theorem rabsr_ok : callable Tryz.prog 20 = true := by kernel_rfl
end Go.Proofs.YtojbfdkpelldoaaGreatDoor.Ae

namespace Go.Proofs.YtojbfdkpelldoaaGreatDoor.Ae
open Go Go.RowKit Go.Proofs.YtojbfdkpelldoaaGreatDoor.Dig
end Go.Proofs.YtojbfdkpelldoaaGreatDoor.Ae

namespace Go.Proofs.YtojbfdkpelldoaaGreatDoor.Ae
open Go Go.RowKit Go.Proofs.YtojbfdkpelldoaaGreatDoor.Dig
structure GV (a b c d : Int) : Prop where
  i : I64 a ∧ I64 b
  j : I64 c ∧ I64 d
  ok : qOk a b ∧ qOk c d
theorem GV.w1 {a b c d : Int} (h : GV a b c d) : QI a b := qOk_QI h.ok.1
theorem GV.w2 {a b c d : Int} (h : GV a b c d) : QI c d := qOk_QI h.ok.2
theorem GV.y1 {a b c d : Int} (h : GV a b c d) : I64 a ∧ I64 b ∧ 0 < b := qOk_64 h.ok.1
theorem GV.y2 {a b c d : Int} (h : GV a b c d) : I64 c ∧ I64 d ∧ 0 < d := qOk_64 h.ok.2
theorem GV.sz {a b c d : Int} (h : GV a b c d) : qsz (Rat.divInt a b) + qsz (Rat.divInt c d) ≤ 4 := by
  have := QI_qsz h.w1
  have := QI_qsz h.w2
  omega
end Go.Proofs.YtojbfdkpelldoaaGreatDoor.Ae

namespace Go.Proofs.YtojbfdkpelldoaaGreatDoor.Ae
open Go Go.RowKit Go.Proofs.YtojbfdkpelldoaaGreatDoor.Dig
end Go.Proofs.YtojbfdkpelldoaaGreatDoor.Ae

namespace Go.Proofs.YtojbfdkpelldoaaGreatDoor.Ae
open Go Go.RowKit Go.Proofs.YtojbfdkpelldoaaGreatDoor.Dig
end Go.Proofs.YtojbfdkpelldoaaGreatDoor.Ae

namespace Go.Proofs.YtojbfdkpelldoaaGreatDoor.Ae
open Go Go.RowKit Go.Proofs.YtojbfdkpelldoaaGreatDoor.Dig
noncomputable def sV3OkC := ct1 EV3 (fun p0 => ((I64 p0.1.1 ∧ I64 p0.1.2) ∧ (I64 p0.2.1.1 ∧ I64 p0.2.1.2) ∧ I64 p0.2.2.1 ∧ I64 p0.2.2.2)) (fun p0 => [.lit (.bool (decide (v3Ok p0.1.1 p0.1.2 p0.2.1.1 p0.2.1.2 p0.2.2.1 p0.2.2.2)))])
@[simp] theorem sV3OkC_at (a b c d e f : Int) : sV3OkC [.agg [eQ a b, eQ c d, eQ e f]] = (((I64 a ∧ I64 b) ∧ (I64 c ∧ I64 d) ∧ I64 e ∧ I64 f), [.lit (.bool (decide (v3Ok a b c d e f)))]) := ct1_at ((a, b), (c, d), e, f)
noncomputable def sV3OkTb : List (FuncId × Ct) := [(25, .data qokC)]
theorem sV3OkTb_ok : TbOK NF Tryz.prog (tbl sV3OkTb) := tbl_cons (c := .data qokC) sQOk_spec sQOk_ok tbl_nil
@[simp] theorem sV3OkTb1 : tbl sV3OkTb 25 = some (.data qokC) := rfl
theorem sV3Ok_spec : SpecD NF Tryz.prog 7 sV3OkC := by
  refine rd1 (mf := fun f => false) sV3OkTb_ok (fn := Tryz.f7) (by kernel_rfl) rfl (by kernel_rfl) (by kernel_rfl) ?_
  rintro ⟨⟨a, b⟩, ⟨c, d⟩, e, f⟩ hp
  have hp : ((I64 a ∧ I64 b) ∧ (I64 c ∧ I64 d) ∧ I64 e ∧ I64 f) := hp
  show awp _ _ _ _ (start _ ([.agg [eQ a b, eQ c d, eQ e f]].map .dat) []) (endK _ _ _ (([.lit (.bool (decide (v3Ok a b c d e f)))]).map .dat) [])
  obtain ⟨⟨i1, i2⟩, ⟨i3, i4⟩, i5, i6⟩ := hp
  by_cases h : qOk a b <;> by_cases h2 : qOk c d <;> simp [-D.isLit, Tryz.f7, v3Ok, i1, i2, i3, i4, i5, i6, h, h2]
theorem sV3Ok_ok : callable Tryz.prog 7 = true := by kernel_rfl
noncomputable def l11pC := ct1 EV3 (fun p0 => (I64 p0.1.1 ∧ I64 p0.1.2 ∧ 0 < p0.1.2) ∧ (I64 p0.2.1.1 ∧ I64 p0.2.1.2 ∧ 0 < p0.2.1.2) ∧ I64 p0.2.2.1 ∧ I64 p0.2.2.2 ∧ 0 < p0.2.2.2) (fun p0 => [.agg [nD (Rat.divInt p0.1.1 p0.1.2), nD (Rat.divInt p0.2.1.1 p0.2.1.2), nD (Rat.divInt p0.2.2.1 p0.2.2.2)]])
@[simp] theorem l11pC_at (a b c d e f : Int) : l11pC [.agg [eQ a b, eQ c d, eQ e f]] = ((I64 a ∧ I64 b ∧ 0 < b) ∧ (I64 c ∧ I64 d ∧ 0 < d) ∧ I64 e ∧ I64 f ∧ 0 < f, [.agg [nD (Rat.divInt a b), nD (Rat.divInt c d), nD (Rat.divInt e f)]]) := ct1_at ((a, b), (c, d), e, f)
noncomputable def l11pTb : List (FuncId × Ct) := [(27, .data nqC)]
theorem l11pTb_ok : TbOK NF Tryz.prog (tbl l11pTb) := tbl_cons (c := .data nqC) nq_spec l1q_ok tbl_nil
@[simp] theorem l11pTb1 : tbl l11pTb 27 = some (.data nqC) := rfl
theorem l11p_spec : SpecD NF Tryz.prog 9 l11pC := by
  refine rd1 (mf := fun f => false) l11pTb_ok (fn := Tryz.f9) (by kernel_rfl) rfl (by kernel_rfl) (by kernel_rfl) ?_
  rintro ⟨⟨a, b⟩, ⟨c, d⟩, e, f⟩ hp
  have hp : (I64 a ∧ I64 b ∧ 0 < b) ∧ (I64 c ∧ I64 d ∧ 0 < d) ∧ I64 e ∧ I64 f ∧ 0 < f := hp
  show awp _ _ _ _ (start _ ([.agg [eQ a b, eQ c d, eQ e f]].map .dat) []) (endK _ _ _ (([.agg [nD (Rat.divInt a b), nD (Rat.divInt c d), nD (Rat.divInt e f)]]).map .dat) [])
  simp [-D.isLit, Tryz.f9, hp]
theorem l11p_ok : callable Tryz.prog 9 = true := by kernel_rfl
noncomputable def l11SubC := ct2 EP3n EP3n (fun p0 p1 => qsz p0.1 + qsz p0.2.1 + qsz p0.2.2 + qsz p1.1 + qsz p1.2.1 + qsz p1.2.2 < LM) (fun p0 p1 => [.agg [nD (p0.1 - p1.1), nD (p0.2.1 - p1.2.1), nD (p0.2.2 - p1.2.2)]])
@[simp] theorem l11SubC_at (a b c : Rat) (d e f : Rat) : l11SubC [.agg [nD a, nD b, nD c], .agg [nD d, nD e, nD f]] = (qsz a + qsz b + qsz c + qsz d + qsz e + qsz f < LM, [.agg [nD (a - d), nD (b - e), nD (c - f)]]) := ct2_at (a, b, c) (d, e, f)
noncomputable def l11SubTb : List (FuncId × Ct) := [(26, .data nSubC)]
theorem l11SubTb_ok : TbOK NF Tryz.prog (tbl l11SubTb) := tbl_cons (c := .data nSubC) nSub_spec l1rSub_ok tbl_nil
@[simp] theorem l11SubTb1 : tbl l11SubTb 26 = some (.data nSubC) := rfl
theorem l11Sub_spec : SpecD NF Tryz.prog 8 l11SubC := by
  refine rd2 (mf := fun f => false) l11SubTb_ok (fn := Tryz.f8) (by kernel_rfl) rfl (by kernel_rfl) (by kernel_rfl) ?_
  rintro ⟨a, b, c⟩ ⟨d, e, f⟩ hp
  have hp : qsz a + qsz b + qsz c + qsz d + qsz e + qsz f < LM := hp
  show awp _ _ _ _ (start _ ([.agg [nD a, nD b, nD c], .agg [nD d, nD e, nD f]].map .dat) []) (endK _ _ _ (([.agg [nD (a - d), nD (b - e), nD (c - f)]]).map .dat) [])
  simp [-D.isLit, Tryz.f8]
  grind [qsz_add, qsz_sub, qsz_mul, qsz_neg, MX_val, LM_val]
theorem l11Sub_ok : callable Tryz.prog 8 = true := by kernel_rfl
noncomputable def l11DotC := ct2 EP3n EP3n (fun p0 p1 => qsz p0.1 + qsz p0.2.1 + qsz p0.2.2 + qsz p1.1 + qsz p1.2.1 + qsz p1.2.2 < LM) (fun p0 p1 => [nD (dot3Q p0.1 p0.2.1 p0.2.2 p1.1 p1.2.1 p1.2.2)])
@[simp] theorem l11DotC_at (a b c : Rat) (d e f : Rat) : l11DotC [.agg [nD a, nD b, nD c], .agg [nD d, nD e, nD f]] = (qsz a + qsz b + qsz c + qsz d + qsz e + qsz f < LM, [nD (dot3Q a b c d e f)]) := ct2_at (a, b, c) (d, e, f)
noncomputable def l11DotTb : List (FuncId × Ct) := [(36, .data nMulC), (35, .data nAddC)]
theorem l11DotTb_ok : TbOK NF Tryz.prog (tbl l11DotTb) := tbl_cons (c := .data nMulC) nMul_spec l1rMul_ok (tbl_cons (c := .data nAddC) nAdd_spec l1rAdd_ok tbl_nil)
@[simp] theorem l11DotTb1 : tbl l11DotTb 36 = some (.data nMulC) := rfl
@[simp] theorem l11DotTb2 : tbl l11DotTb 35 = some (.data nAddC) := rfl
theorem l11Dot_spec : SpecD NF Tryz.prog 14 l11DotC := by
  refine rd2 (mf := fun f => false) l11DotTb_ok (fn := Tryz.f14) (by kernel_rfl) rfl (by kernel_rfl) (by kernel_rfl) ?_
  rintro ⟨a, b, c⟩ ⟨d, e, f⟩ hp
  have hp : qsz a + qsz b + qsz c + qsz d + qsz e + qsz f < LM := hp
  show awp _ _ _ _ (start _ ([.agg [nD a, nD b, nD c], .agg [nD d, nD e, nD f]].map .dat) []) (endK _ _ _ (([nD (dot3Q a b c d e f)]).map .dat) [])
  simp [-D.isLit, Tryz.f14, dot3Q]
  grind [qsz_add, qsz_sub, qsz_mul, qsz_neg, MX_val, LM_val]
theorem l11Dot_ok : callable Tryz.prog 14 = true := by kernel_rfl
noncomputable def nabsC := ct1 ENum (fun p0 => True) (fun p0 => [nD (rabs p0)])
@[simp] theorem nabsC_at (a : Rat) : nabsC [nD a] = (True, [nD (rabs a)]) := ct1_at a
noncomputable def nabsTb : List (FuncId × Ct) := [(32, .data nSignC), (33, .data nNegC)]
theorem nabsTb_ok : TbOK NF Tryz.prog (tbl nabsTb) := tbl_cons (c := .data nSignC) nSign_spec l1rSign_ok (tbl_cons (c := .data nNegC) nNeg_spec l1rNeg_ok tbl_nil)
@[simp] theorem nabsTb1 : tbl nabsTb 32 = some (.data nSignC) := rfl
@[simp] theorem nabsTb2 : tbl nabsTb 33 = some (.data nNegC) := rfl
theorem nabs_spec : SpecD NF Tryz.prog 11 nabsC := by
  refine rd1 (mf := fun f => false) nabsTb_ok (fn := Tryz.f11) (by kernel_rfl) rfl (by kernel_rfl) (by kernel_rfl) ?_
  rintro a hp
  have hp : True := hp
  show awp _ _ _ _ (start _ ([nD a].map .dat) []) (endK _ _ _ (([nD (rabs a)]).map .dat) [])
  by_cases h : a.num.sign < 0 <;> simp [-D.isLit, Tryz.f11, rabs, h]
theorem nabs_ok : callable Tryz.prog 11 = true := by kernel_rfl
end Go.Proofs.YtojbfdkpelldoaaGreatDoor.Ae

namespace Go.Proofs.YtojbfdkpelldoaaGreatDoor.Ae
open Go Go.RowKit Go.Proofs.YtojbfdkpelldoaaGreatDoor.Dig
end Go.Proofs.YtojbfdkpelldoaaGreatDoor.Ae

namespace Go.Proofs.YtojbfdkpelldoaaGreatDoor.Ae
open Go Go.RowKit Go.Proofs.YtojbfdkpelldoaaGreatDoor.Dig
noncomputable def toV3C := ct1 EV3 (fun p0 => True) (fun p0 => [.agg [eQ p0.1.1 p0.1.2, eQ p0.2.1.1 p0.2.1.2, eQ p0.2.2.1 p0.2.2.2]])
@[simp] theorem toV3C_at (a b c d e f : Int) : toV3C [.agg [eQ a b, eQ c d, eQ e f]] = (True, [.agg [eQ a b, eQ c d, eQ e f]]) := ct1_at ((a, b), (c, d), e, f)
noncomputable def toV3Tb : List (FuncId × Ct) := [(16, .data toQC)]
theorem toV3Tb_ok {N : NR} : TbOK N Tryz.prog (tbl toV3Tb) := tbl_cons (c := .data toQC) toQ_spec toQ_ok tbl_nil
@[simp] theorem toV3Tb1 : tbl toV3Tb 16 = some (.data toQC) := rfl
theorem toV3_spec {N : NR} : SpecD N Tryz.prog 5 toV3C := by
  refine rd1 (mf := fun f => false) toV3Tb_ok (fn := Tryz.f5) (by kernel_rfl) rfl (by kernel_rfl) (by kernel_rfl) ?_
  rintro ⟨⟨a, b⟩, ⟨c, d⟩, e, f⟩ hp
  have hp : True := hp
  show awp _ _ _ _ (start _ ([.agg [eQ a b, eQ c d, eQ e f]].map .dat) []) (endK _ _ _ (([.agg [eQ a b, eQ c d, eQ e f]]).map .dat) [])
  simp [-D.isLit, Tryz.f5]
theorem toV3_ok : callable Tryz.prog 5 = true := by kernel_rfl
end Go.Proofs.YtojbfdkpelldoaaGreatDoor.Ae

namespace Go.Proofs.YtojbfdkpelldoaaGreatDoor.Ae
open Go Go.RowKit Go.Proofs.YtojbfdkpelldoaaGreatDoor.Dig
theorem oq_64 (q : Rat) : I64 (oq q).1 ∧ I64 (oq q).2.1 := by
  unfold oq
  split
  · rename_i h
    unfold I64
    simp only
    omega
  · unfold I64; simp
theorem qr_64 (a b d : Int) : I64 (qrI a b d).1 ∧ I64 (qrI a b d).2.1 := by
  unfold qrI
  split
  · exact oq_64 _
  · unfold I64; simp
noncomputable def txE (n d : Int) : ByteArray := if qOk n d then qtS n d else ⟨#[]⟩
noncomputable def txQ (q : Rat) : ByteArray := if (oq q).2.2 = true then txE (oq q).1 (oq q).2.1 else ⟨#[]⟩
noncomputable def txR (q : Rat) : ByteArray := if (oq q).2.2 = true then (if (qrI (oq q).1 (oq q).2.1 1000).2.2 = true then txE (qrI (oq q).1 (oq q).2.1 1000).1 (qrI (oq q).1 (oq q).2.1 1000).2.1 else ⟨#[]⟩) else ⟨#[]⟩
noncomputable def dimS (x y z : Rat) (k : Int) : ByteArray := if k = 0 then txQ (rabs x) else if k = 1 then txQ (rabs y) else if k = 2 then txQ (rabs z) else txR (dot3Q x y z x y z)
theorem iQT_at (a b : Int) (h1 : I64 a) (h2 : I64 b) : iQTextC [eQ a b] = (True, [.lit (.string (txE a b))]) := by rw [iQTextC_at, eq_true (show I64 a ∧ I64 b from ⟨h1, h2⟩)]; rfl
theorem sQT_at (a b : Int) (h1 : I64 a) (h2 : I64 b) : sQTextC [eQ a b] = (True, [.lit (.string (txE a b))]) := by rw [sQTextC_at, eq_true (show I64 a ∧ I64 b from ⟨h1, h2⟩)]; rfl
theorem qrT_at (a b : Int) (h1 : I64 a) (h2 : I64 b) : qrC6 [eQ a b, .lit (.int .i64 1000)] = (True, [eQ (qrI a b 1000).1 (qrI a b 1000).2.1, .lit (.bool (qrI a b 1000).2.2)]) := by
  rw [qrC6_at, eq_true (show (I64 a ∧ I64 b) ∧ I64 1000 from ⟨⟨h1, h2⟩, by unfold I64; omega⟩)]; rfl
noncomputable def l17CoC := ct2 EP3n EInt (fun p0 p1 => p1 = 0 ∨ p1 = 1 ∨ p1 = 2) (fun p0 p1 => [nD (if p1 = 0 then p0.1 else if p1 = 1 then p0.2.1 else p0.2.2)])
@[simp] theorem l17CoC_at (a b c : Rat) (k : Int) : l17CoC [.agg [nD a, nD b, nD c], .lit (.int .i64 k)] = (k = 0 ∨ k = 1 ∨ k = 2, [nD (if k = 0 then a else if k = 1 then b else c)]) := ct2_at (a, b, c) k
theorem l17Co_spec : SpecD NF Tryz.prog 12 l17CoC := by
  refine rd2 (mf := fun f => false) (tb := tbl []) tbl_nil (fn := Tryz.f12) (by kernel_rfl) rfl (by kernel_rfl) (by kernel_rfl) ?_
  rintro ⟨a, b, c⟩ k hp
  have hp : k = 0 ∨ k = 1 ∨ k = 2 := hp
  show awp _ _ _ _ (start _ ([.agg [nD a, nD b, nD c], .lit (.int .i64 k)].map .dat) []) (endK _ _ _ (([nD (if k = 0 then a else if k = 1 then b else c)]).map .dat) [])
  rcases hp with rfl | rfl | rfl <;> simp [-D.isLit, Tryz.f12]
theorem l17Co_ok : callable Tryz.prog 12 = true := by kernel_rfl
noncomputable def iDimC := ct3 EV3 EV3 EInt (fun p0 p1 p2 => ((I64 p0.1.1 ∧ I64 p0.1.2) ∧ (I64 p0.2.1.1 ∧ I64 p0.2.1.2) ∧ I64 p0.2.2.1 ∧ I64 p0.2.2.2) ∧ ((I64 p1.1.1 ∧ I64 p1.1.2) ∧ (I64 p1.2.1.1 ∧ I64 p1.2.1.2) ∧ I64 p1.2.2.1 ∧ I64 p1.2.2.2) ∧ I64 p2) (fun p0 p1 p2 => [.lit (.string (if v3Ok p0.1.1 p0.1.2 p0.2.1.1 p0.2.1.2 p0.2.2.1 p0.2.2.2 ∧ v3Ok p1.1.1 p1.1.2 p1.2.1.1 p1.2.1.2 p1.2.2.1 p1.2.2.2 ∧ 0 ≤ p2 ∧ p2 ≤ 3 then dimS (Rat.divInt p1.1.1 p1.1.2 - Rat.divInt p0.1.1 p0.1.2) (Rat.divInt p1.2.1.1 p1.2.1.2 - Rat.divInt p0.2.1.1 p0.2.1.2) (Rat.divInt p1.2.2.1 p1.2.2.2 - Rat.divInt p0.2.2.1 p0.2.2.2) p2 else ⟨#[]⟩))])
@[simp] theorem iDimC_at (a b c d e f : Int) (g h i j k l : Int) (m : Int) : iDimC [.agg [eQ a b, eQ c d, eQ e f], .agg [eQ g h, eQ i j, eQ k l], .lit (.int .i64 m)] = (((I64 a ∧ I64 b) ∧ (I64 c ∧ I64 d) ∧ I64 e ∧ I64 f) ∧ ((I64 g ∧ I64 h) ∧ (I64 i ∧ I64 j) ∧ I64 k ∧ I64 l) ∧ I64 m, [.lit (.string (if v3Ok a b c d e f ∧ v3Ok g h i j k l ∧ 0 ≤ m ∧ m ≤ 3 then dimS (Rat.divInt g h - Rat.divInt a b) (Rat.divInt i j - Rat.divInt c d) (Rat.divInt k l - Rat.divInt e f) m else ⟨#[]⟩))]) := ct3_at ((a, b), (c, d), e, f) ((g, h), (i, j), k, l) m
noncomputable def iDimTb : List (FuncId × Ct) := [(17, .data iV3OkC), (18, .data pv3C), (19, .data p3subC), (20, .data rabsrC), (21, .data rqqC), (22, .data iQTextC), (23, .data dot3C), (24, .data qrC6)]
theorem iDimTb_ok : TbOK NF Tryz.prog (tbl iDimTb) := tbl_cons (c := .data iV3OkC) iV3Ok_spec iV3Ok_ok (tbl_cons (c := .data pv3C) pv3_spec pv3_ok (tbl_cons (c := .data p3subC) p3sub_spec p3sub_ok (tbl_cons (c := .data rabsrC) rabsr_spec rabsr_ok (tbl_cons (c := .data rqqC) rqq_spec rqq_ok (tbl_cons (c := .data iQTextC) iQText_spec iQText_ok (tbl_cons (c := .data dot3C) dot3_spec dot3_ok (tbl_cons (c := .data qrC6) iQr_spec iQr_ok tbl_nil)))))))
@[simp] theorem iDimTb1 : tbl iDimTb 17 = some (.data iV3OkC) := rfl
@[simp] theorem iDimTb2 : tbl iDimTb 18 = some (.data pv3C) := rfl
@[simp] theorem iDimTb3 : tbl iDimTb 19 = some (.data p3subC) := rfl
@[simp] theorem iDimTb4 : tbl iDimTb 20 = some (.data rabsrC) := rfl
@[simp] theorem iDimTb5 : tbl iDimTb 21 = some (.data rqqC) := rfl
@[simp] theorem iDimTb6 : tbl iDimTb 22 = some (.data iQTextC) := rfl
@[simp] theorem iDimTb7 : tbl iDimTb 23 = some (.data dot3C) := rfl
@[simp] theorem iDimTb8 : tbl iDimTb 24 = some (.data qrC6) := rfl
set_option maxRecDepth 100000 in
set_option maxHeartbeats 4000000 in
theorem iDim_spec : SpecD NF Tryz.prog 6 iDimC := by
  refine rd3 (mf := fun f => f == rcel 3 7) iDimTb_ok (fn := Tryz.f6) (by kernel_rfl) rfl (by kernel_rfl) (by kernel_rfl) ?_
  rintro ⟨⟨a, b⟩, ⟨c, d⟩, e, f⟩ ⟨⟨g, h⟩, ⟨i, j⟩, k, l⟩ m hp
  have hp : ((I64 a ∧ I64 b) ∧ (I64 c ∧ I64 d) ∧ I64 e ∧ I64 f) ∧ ((I64 g ∧ I64 h) ∧ (I64 i ∧ I64 j) ∧ I64 k ∧ I64 l) ∧ I64 m := hp
  show awp _ _ _ _ (start _ ([.agg [eQ a b, eQ c d, eQ e f], .agg [eQ g h, eQ i j, eQ k l], .lit (.int .i64 m)].map .dat) []) (endK _ _ _ (([.lit (.string (if v3Ok a b c d e f ∧ v3Ok g h i j k l ∧ 0 ≤ m ∧ m ≤ 3 then dimS (Rat.divInt g h - Rat.divInt a b) (Rat.divInt i j - Rat.divInt c d) (Rat.divInt k l - Rat.divInt e f) m else ⟨#[]⟩))]).map .dat) [])
  obtain ⟨hp1, hp2, hp3⟩ := hp
  by_cases h1 : v3Ok a b c d e f
  · by_cases h2 : v3Ok g h i j k l
    · by_cases h3 : 0 ≤ m ∧ m ≤ 3
      · rw [if_pos ⟨h1, h2, h3⟩]
        have hm : m = 0 ∨ m = 1 ∨ m = 2 ∨ m = 3 := by omega
        have w0 := qOk_QI h1.1
        have y0 := qOk_64 h1.1
        have z0 := QI_qsz w0
        have w1 := qOk_QI h1.2.1
        have y1 := qOk_64 h1.2.1
        have z1 := QI_qsz w1
        have w2 := qOk_QI h1.2.2
        have y2 := qOk_64 h1.2.2
        have z2 := QI_qsz w2
        have w3 := qOk_QI h2.1
        have y3 := qOk_64 h2.1
        have z3 := QI_qsz w3
        have w4 := qOk_QI h2.2.1
        have y4 := qOk_64 h2.2.1
        have z4 := QI_qsz w4
        have w5 := qOk_QI h2.2.2
        have y5 := qOk_64 h2.2.2
        have z5 := QI_qsz w5
        have u0 := qsz_sub (Rat.divInt g h) (Rat.divInt a b)
        have u1 := qsz_sub (Rat.divInt i j) (Rat.divInt c d)
        have u2 := qsz_sub (Rat.divInt k l) (Rat.divInt e f)
        have s0 : qsz (Rat.divInt g h) + qsz (Rat.divInt i j) + qsz (Rat.divInt k l) + qsz (Rat.divInt a b) + qsz (Rat.divInt c d) + qsz (Rat.divInt e f) < LM := by rw [LM_val]; omega
        have s1 : qsz (Rat.divInt g h - Rat.divInt a b) < LM := by rw [LM_val]; omega
        have s2 : qsz (Rat.divInt i j - Rat.divInt c d) < LM := by rw [LM_val]; omega
        have s3 : qsz (Rat.divInt k l - Rat.divInt e f) < LM := by rw [LM_val]; omega
        have s4 : qsz (Rat.divInt g h - Rat.divInt a b) + qsz (Rat.divInt i j - Rat.divInt c d) + qsz (Rat.divInt k l - Rat.divInt e f) + qsz (Rat.divInt g h - Rat.divInt a b) + qsz (Rat.divInt i j - Rat.divInt c d) + qsz (Rat.divInt k l - Rat.divInt e f) < LM := by rw [LM_val]; omega
        have v0 : IntKind.i64.wrap 0 = 0 := by decide
        have v1 : IntKind.i64.wrap 1 = 1 := by decide
        have v2 : IntKind.i64.wrap 2 = 2 := by decide
        rcases hm with rfl | rfl | rfl | rfl
        · have oo := oq_64 (rabs (Rat.divInt g h - Rat.divInt a b))
          have cc := iQT_at _ _ oo.1 oo.2
          cases ee : (oq (rabs (Rat.divInt g h - Rat.divInt a b))).2.2 <;> simp [-D.isLit, Tryz.f6, hp1, hp2, h1, h2, w0, y0, w1, y1, w2, y2, w3, y3, w4, y4, w5, y5, s0, s1, s2, s3, s4, v0, v1, v2, ee, cc, dimS, txQ]
        · have oo := oq_64 (rabs (Rat.divInt i j - Rat.divInt c d))
          have cc := iQT_at _ _ oo.1 oo.2
          cases ee : (oq (rabs (Rat.divInt i j - Rat.divInt c d))).2.2 <;> simp [-D.isLit, Tryz.f6, hp1, hp2, h1, h2, w0, y0, w1, y1, w2, y2, w3, y3, w4, y4, w5, y5, s0, s1, s2, s3, s4, v0, v1, v2, ee, cc, dimS, txQ]
        · have oo := oq_64 (rabs (Rat.divInt k l - Rat.divInt e f))
          have cc := iQT_at _ _ oo.1 oo.2
          cases ee : (oq (rabs (Rat.divInt k l - Rat.divInt e f))).2.2 <;> simp [-D.isLit, Tryz.f6, hp1, hp2, h1, h2, w0, y0, w1, y1, w2, y2, w3, y3, w4, y4, w5, y5, s0, s1, s2, s3, s4, v0, v1, v2, ee, cc, dimS, txQ]
        · have oo := oq_64 (dot3Q (Rat.divInt g h - Rat.divInt a b) (Rat.divInt i j - Rat.divInt c d) (Rat.divInt k l - Rat.divInt e f) (Rat.divInt g h - Rat.divInt a b) (Rat.divInt i j - Rat.divInt c d) (Rat.divInt k l - Rat.divInt e f))
          have oo2 := qr_64 (oq (dot3Q (Rat.divInt g h - Rat.divInt a b) (Rat.divInt i j - Rat.divInt c d) (Rat.divInt k l - Rat.divInt e f) (Rat.divInt g h - Rat.divInt a b) (Rat.divInt i j - Rat.divInt c d) (Rat.divInt k l - Rat.divInt e f))).1 (oq (dot3Q (Rat.divInt g h - Rat.divInt a b) (Rat.divInt i j - Rat.divInt c d) (Rat.divInt k l - Rat.divInt e f) (Rat.divInt g h - Rat.divInt a b) (Rat.divInt i j - Rat.divInt c d) (Rat.divInt k l - Rat.divInt e f))).2.1 1000
          have cc := iQT_at _ _ oo2.1 oo2.2
          have cc2 := qrT_at _ _ oo.1 oo.2
          cases ee : (oq (dot3Q (Rat.divInt g h - Rat.divInt a b) (Rat.divInt i j - Rat.divInt c d) (Rat.divInt k l - Rat.divInt e f) (Rat.divInt g h - Rat.divInt a b) (Rat.divInt i j - Rat.divInt c d) (Rat.divInt k l - Rat.divInt e f))).2.2
          · simp [-D.isLit, Tryz.f6, hp1, hp2, h1, h2, w0, y0, w1, y1, w2, y2, w3, y3, w4, y4, w5, y5, s0, s1, s2, s3, s4, v0, v1, v2, ee, dimS, txR]
          · cases ee2 : (qrI (oq (dot3Q (Rat.divInt g h - Rat.divInt a b) (Rat.divInt i j - Rat.divInt c d) (Rat.divInt k l - Rat.divInt e f) (Rat.divInt g h - Rat.divInt a b) (Rat.divInt i j - Rat.divInt c d) (Rat.divInt k l - Rat.divInt e f))).1 (oq (dot3Q (Rat.divInt g h - Rat.divInt a b) (Rat.divInt i j - Rat.divInt c d) (Rat.divInt k l - Rat.divInt e f) (Rat.divInt g h - Rat.divInt a b) (Rat.divInt i j - Rat.divInt c d) (Rat.divInt k l - Rat.divInt e f))).2.1 1000).2.2 <;> simp [-D.isLit, -qrC6_at, Tryz.f6, hp1, hp2, h1, h2, w0, y0, w1, y1, w2, y2, w3, y3, w4, y4, w5, y5, s0, s1, s2, s3, s4, v0, v1, v2, ee, ee2, cc, cc2, dimS, txR]
      · rw [if_neg (fun h => h3 h.2.2)]
        by_cases h4 : m < 0
        · simp [-D.isLit, Tryz.f6, hp1, hp2, h1, h2, h4]
        · have h5 : 3 < m := by omega
          simp [-D.isLit, Tryz.f6, hp1, hp2, h1, h2, h4, h5]
    · rw [if_neg (fun h => h2 h.2.1)]
      simp [-D.isLit, Tryz.f6, hp1, hp2, h1, h2]
  · rw [if_neg (fun h => h1 h.1)]
    simp [-D.isLit, Tryz.f6, hp1, hp2, h1]
theorem iDim_ok : callable Tryz.prog 6 = true := by kernel_rfl
noncomputable def sDimC := ct3 EV3 EV3 EInt (fun p0 p1 p2 => ((I64 p0.1.1 ∧ I64 p0.1.2) ∧ (I64 p0.2.1.1 ∧ I64 p0.2.1.2) ∧ I64 p0.2.2.1 ∧ I64 p0.2.2.2) ∧ ((I64 p1.1.1 ∧ I64 p1.1.2) ∧ (I64 p1.2.1.1 ∧ I64 p1.2.1.2) ∧ I64 p1.2.2.1 ∧ I64 p1.2.2.2) ∧ I64 p2) (fun p0 p1 p2 => [.lit (.string (if v3Ok p0.1.1 p0.1.2 p0.2.1.1 p0.2.1.2 p0.2.2.1 p0.2.2.2 ∧ v3Ok p1.1.1 p1.1.2 p1.2.1.1 p1.2.1.2 p1.2.2.1 p1.2.2.2 ∧ 0 ≤ p2 ∧ p2 ≤ 3 then dimS (Rat.divInt p1.1.1 p1.1.2 - Rat.divInt p0.1.1 p0.1.2) (Rat.divInt p1.2.1.1 p1.2.1.2 - Rat.divInt p0.2.1.1 p0.2.1.2) (Rat.divInt p1.2.2.1 p1.2.2.2 - Rat.divInt p0.2.2.1 p0.2.2.2) p2 else ⟨#[]⟩))])
@[simp] theorem sDimC_at (a b c d e f : Int) (g h i j k l : Int) (m : Int) : sDimC [.agg [eQ a b, eQ c d, eQ e f], .agg [eQ g h, eQ i j, eQ k l], .lit (.int .i64 m)] = (((I64 a ∧ I64 b) ∧ (I64 c ∧ I64 d) ∧ I64 e ∧ I64 f) ∧ ((I64 g ∧ I64 h) ∧ (I64 i ∧ I64 j) ∧ I64 k ∧ I64 l) ∧ I64 m, [.lit (.string (if v3Ok a b c d e f ∧ v3Ok g h i j k l ∧ 0 ≤ m ∧ m ≤ 3 then dimS (Rat.divInt g h - Rat.divInt a b) (Rat.divInt i j - Rat.divInt c d) (Rat.divInt k l - Rat.divInt e f) m else ⟨#[]⟩))]) := ct3_at ((a, b), (c, d), e, f) ((g, h), (i, j), k, l) m
noncomputable def sDimTb : List (FuncId × Ct) := [(7, .data sV3OkC), (9, .data l11pC), (8, .data l11SubC), (12, .data l17CoC), (11, .data nabsC), (10, .data nQC), (13, .data sQTextC), (14, .data l11DotC), (15, .data qrC6)]
theorem sDimTb_ok : TbOK NF Tryz.prog (tbl sDimTb) := tbl_cons (c := .data sV3OkC) sV3Ok_spec sV3Ok_ok (tbl_cons (c := .data l11pC) l11p_spec l11p_ok (tbl_cons (c := .data l11SubC) l11Sub_spec l11Sub_ok (tbl_cons (c := .data l17CoC) l17Co_spec l17Co_ok (tbl_cons (c := .data nabsC) nabs_spec nabs_ok (tbl_cons (c := .data nQC) nQ_spec l1rQ_ok (tbl_cons (c := .data sQTextC) sQText_spec sQText_ok (tbl_cons (c := .data l11DotC) l11Dot_spec l11Dot_ok (tbl_cons (c := .data qrC6) sQr_spec sQr_ok tbl_nil))))))))
@[simp] theorem sDimTb1 : tbl sDimTb 7 = some (.data sV3OkC) := rfl
@[simp] theorem sDimTb2 : tbl sDimTb 9 = some (.data l11pC) := rfl
@[simp] theorem sDimTb3 : tbl sDimTb 8 = some (.data l11SubC) := rfl
@[simp] theorem sDimTb4 : tbl sDimTb 12 = some (.data l17CoC) := rfl
@[simp] theorem sDimTb5 : tbl sDimTb 11 = some (.data nabsC) := rfl
@[simp] theorem sDimTb6 : tbl sDimTb 10 = some (.data nQC) := rfl
@[simp] theorem sDimTb7 : tbl sDimTb 13 = some (.data sQTextC) := rfl
@[simp] theorem sDimTb8 : tbl sDimTb 14 = some (.data l11DotC) := rfl
@[simp] theorem sDimTb9 : tbl sDimTb 15 = some (.data qrC6) := rfl
set_option maxRecDepth 100000 in
set_option maxHeartbeats 4000000 in
theorem sDim_spec : SpecD NF Tryz.prog 4 sDimC := by
  refine rd3 (mf := fun f => f == rcel 3 7) sDimTb_ok (fn := Tryz.f4) (by kernel_rfl) rfl (by kernel_rfl) (by kernel_rfl) ?_
  rintro ⟨⟨a, b⟩, ⟨c, d⟩, e, f⟩ ⟨⟨g, h⟩, ⟨i, j⟩, k, l⟩ m hp
  have hp : ((I64 a ∧ I64 b) ∧ (I64 c ∧ I64 d) ∧ I64 e ∧ I64 f) ∧ ((I64 g ∧ I64 h) ∧ (I64 i ∧ I64 j) ∧ I64 k ∧ I64 l) ∧ I64 m := hp
  show awp _ _ _ _ (start _ ([.agg [eQ a b, eQ c d, eQ e f], .agg [eQ g h, eQ i j, eQ k l], .lit (.int .i64 m)].map .dat) []) (endK _ _ _ (([.lit (.string (if v3Ok a b c d e f ∧ v3Ok g h i j k l ∧ 0 ≤ m ∧ m ≤ 3 then dimS (Rat.divInt g h - Rat.divInt a b) (Rat.divInt i j - Rat.divInt c d) (Rat.divInt k l - Rat.divInt e f) m else ⟨#[]⟩))]).map .dat) [])
  obtain ⟨hp1, hp2, hp3⟩ := hp
  by_cases h1 : v3Ok a b c d e f
  · by_cases h2 : v3Ok g h i j k l
    · by_cases h3 : 0 ≤ m ∧ m ≤ 3
      · rw [if_pos ⟨h1, h2, h3⟩]
        have hm : m = 0 ∨ m = 1 ∨ m = 2 ∨ m = 3 := by omega
        have w0 := qOk_QI h1.1
        have y0 := qOk_64 h1.1
        have z0 := QI_qsz w0
        have w1 := qOk_QI h1.2.1
        have y1 := qOk_64 h1.2.1
        have z1 := QI_qsz w1
        have w2 := qOk_QI h1.2.2
        have y2 := qOk_64 h1.2.2
        have z2 := QI_qsz w2
        have w3 := qOk_QI h2.1
        have y3 := qOk_64 h2.1
        have z3 := QI_qsz w3
        have w4 := qOk_QI h2.2.1
        have y4 := qOk_64 h2.2.1
        have z4 := QI_qsz w4
        have w5 := qOk_QI h2.2.2
        have y5 := qOk_64 h2.2.2
        have z5 := QI_qsz w5
        have u0 := qsz_sub (Rat.divInt g h) (Rat.divInt a b)
        have u1 := qsz_sub (Rat.divInt i j) (Rat.divInt c d)
        have u2 := qsz_sub (Rat.divInt k l) (Rat.divInt e f)
        have s0 : qsz (Rat.divInt g h) + qsz (Rat.divInt i j) + qsz (Rat.divInt k l) + qsz (Rat.divInt a b) + qsz (Rat.divInt c d) + qsz (Rat.divInt e f) < LM := by rw [LM_val]; omega
        have s1 : qsz (Rat.divInt g h - Rat.divInt a b) < LM := by rw [LM_val]; omega
        have s2 : qsz (Rat.divInt i j - Rat.divInt c d) < LM := by rw [LM_val]; omega
        have s3 : qsz (Rat.divInt k l - Rat.divInt e f) < LM := by rw [LM_val]; omega
        have s4 : qsz (Rat.divInt g h - Rat.divInt a b) + qsz (Rat.divInt i j - Rat.divInt c d) + qsz (Rat.divInt k l - Rat.divInt e f) + qsz (Rat.divInt g h - Rat.divInt a b) + qsz (Rat.divInt i j - Rat.divInt c d) + qsz (Rat.divInt k l - Rat.divInt e f) < LM := by rw [LM_val]; omega
        have v0 : IntKind.i64.wrap 0 = 0 := by decide
        have v1 : IntKind.i64.wrap 1 = 1 := by decide
        have v2 : IntKind.i64.wrap 2 = 2 := by decide
        rcases hm with rfl | rfl | rfl | rfl
        · have oo := oq_64 (rabs (Rat.divInt g h - Rat.divInt a b))
          have cc := sQT_at _ _ oo.1 oo.2
          cases ee : (oq (rabs (Rat.divInt g h - Rat.divInt a b))).2.2 <;> simp [-D.isLit, Tryz.f4, hp1, hp2, h1, h2, w0, y0, w1, y1, w2, y2, w3, y3, w4, y4, w5, y5, s0, s1, s2, s3, s4, v0, v1, v2, ee, cc, dimS, txQ]
        · have oo := oq_64 (rabs (Rat.divInt i j - Rat.divInt c d))
          have cc := sQT_at _ _ oo.1 oo.2
          cases ee : (oq (rabs (Rat.divInt i j - Rat.divInt c d))).2.2 <;> simp [-D.isLit, Tryz.f4, hp1, hp2, h1, h2, w0, y0, w1, y1, w2, y2, w3, y3, w4, y4, w5, y5, s0, s1, s2, s3, s4, v0, v1, v2, ee, cc, dimS, txQ]
        · have oo := oq_64 (rabs (Rat.divInt k l - Rat.divInt e f))
          have cc := sQT_at _ _ oo.1 oo.2
          cases ee : (oq (rabs (Rat.divInt k l - Rat.divInt e f))).2.2 <;> simp [-D.isLit, Tryz.f4, hp1, hp2, h1, h2, w0, y0, w1, y1, w2, y2, w3, y3, w4, y4, w5, y5, s0, s1, s2, s3, s4, v0, v1, v2, ee, cc, dimS, txQ]
        · have oo := oq_64 (dot3Q (Rat.divInt g h - Rat.divInt a b) (Rat.divInt i j - Rat.divInt c d) (Rat.divInt k l - Rat.divInt e f) (Rat.divInt g h - Rat.divInt a b) (Rat.divInt i j - Rat.divInt c d) (Rat.divInt k l - Rat.divInt e f))
          have oo2 := qr_64 (oq (dot3Q (Rat.divInt g h - Rat.divInt a b) (Rat.divInt i j - Rat.divInt c d) (Rat.divInt k l - Rat.divInt e f) (Rat.divInt g h - Rat.divInt a b) (Rat.divInt i j - Rat.divInt c d) (Rat.divInt k l - Rat.divInt e f))).1 (oq (dot3Q (Rat.divInt g h - Rat.divInt a b) (Rat.divInt i j - Rat.divInt c d) (Rat.divInt k l - Rat.divInt e f) (Rat.divInt g h - Rat.divInt a b) (Rat.divInt i j - Rat.divInt c d) (Rat.divInt k l - Rat.divInt e f))).2.1 1000
          have cc := sQT_at _ _ oo2.1 oo2.2
          have cc2 := qrT_at _ _ oo.1 oo.2
          cases ee : (oq (dot3Q (Rat.divInt g h - Rat.divInt a b) (Rat.divInt i j - Rat.divInt c d) (Rat.divInt k l - Rat.divInt e f) (Rat.divInt g h - Rat.divInt a b) (Rat.divInt i j - Rat.divInt c d) (Rat.divInt k l - Rat.divInt e f))).2.2
          · simp [-D.isLit, Tryz.f4, hp1, hp2, h1, h2, w0, y0, w1, y1, w2, y2, w3, y3, w4, y4, w5, y5, s0, s1, s2, s3, s4, v0, v1, v2, ee, dimS, txR]
          · cases ee2 : (qrI (oq (dot3Q (Rat.divInt g h - Rat.divInt a b) (Rat.divInt i j - Rat.divInt c d) (Rat.divInt k l - Rat.divInt e f) (Rat.divInt g h - Rat.divInt a b) (Rat.divInt i j - Rat.divInt c d) (Rat.divInt k l - Rat.divInt e f))).1 (oq (dot3Q (Rat.divInt g h - Rat.divInt a b) (Rat.divInt i j - Rat.divInt c d) (Rat.divInt k l - Rat.divInt e f) (Rat.divInt g h - Rat.divInt a b) (Rat.divInt i j - Rat.divInt c d) (Rat.divInt k l - Rat.divInt e f))).2.1 1000).2.2 <;> simp [-D.isLit, -qrC6_at, Tryz.f4, hp1, hp2, h1, h2, w0, y0, w1, y1, w2, y2, w3, y3, w4, y4, w5, y5, s0, s1, s2, s3, s4, v0, v1, v2, ee, ee2, cc, cc2, dimS, txR]
      · rw [if_neg (fun h => h3 h.2.2)]
        by_cases h4 : m < 0
        · simp [-D.isLit, Tryz.f4, hp1, hp2, h1, h2, h4]
        · have h5 : 3 < m := by omega
          simp [-D.isLit, Tryz.f4, hp1, hp2, h1, h2, h4, h5]
    · rw [if_neg (fun h => h2 h.2.1)]
      simp [-D.isLit, Tryz.f4, hp1, hp2, h1, h2]
  · rw [if_neg (fun h => h1 h.1)]
    simp [-D.isLit, Tryz.f4, hp1, hp2, h1]
theorem sDim_ok : callable Tryz.prog 4 = true := by kernel_rfl
noncomputable def lwDimC := ct3 EV3 EV3 EInt (fun p0 p1 p2 => ((I64 p0.1.1 ∧ I64 p0.1.2) ∧ (I64 p0.2.1.1 ∧ I64 p0.2.1.2) ∧ I64 p0.2.2.1 ∧ I64 p0.2.2.2) ∧ ((I64 p1.1.1 ∧ I64 p1.1.2) ∧ (I64 p1.2.1.1 ∧ I64 p1.2.1.2) ∧ I64 p1.2.2.1 ∧ I64 p1.2.2.2) ∧ I64 p2) (fun p0 p1 p2 => [.lit (.bool true)])
@[simp] theorem lwDimC_at (a b c d e f : Int) (g h i j k l : Int) (m : Int) : lwDimC [.agg [eQ a b, eQ c d, eQ e f], .agg [eQ g h, eQ i j, eQ k l], .lit (.int .i64 m)] = (((I64 a ∧ I64 b) ∧ (I64 c ∧ I64 d) ∧ I64 e ∧ I64 f) ∧ ((I64 g ∧ I64 h) ∧ (I64 i ∧ I64 j) ∧ I64 k ∧ I64 l) ∧ I64 m, [.lit (.bool true)]) := ct3_at ((a, b), (c, d), e, f) ((g, h), (i, j), k, l) m
noncomputable def lwDimTb : List (FuncId × Ct) := [(5, .data toV3C), (4, .data sDimC), (6, .data iDimC)]
theorem lwDimTb_ok : TbOK NF Tryz.prog (tbl lwDimTb) := tbl_cons (c := .data toV3C) toV3_spec toV3_ok (tbl_cons (c := .data sDimC) sDim_spec sDim_ok (tbl_cons (c := .data iDimC) iDim_spec iDim_ok tbl_nil))
@[simp] theorem lwDimTb1 : tbl lwDimTb 5 = some (.data toV3C) := rfl
@[simp] theorem lwDimTb2 : tbl lwDimTb 4 = some (.data sDimC) := rfl
@[simp] theorem lwDimTb3 : tbl lwDimTb 6 = some (.data iDimC) := rfl
set_option maxRecDepth 100000 in
set_option maxHeartbeats 4000000 in
theorem lwDim_spec : SpecD NF Tryz.prog 3 lwDimC := by
  refine rd3 (mf := fun f => false) lwDimTb_ok (fn := Tryz.f3) (by kernel_rfl) rfl (by kernel_rfl) (by kernel_rfl) ?_
  rintro ⟨⟨a, b⟩, ⟨c, d⟩, e, f⟩ ⟨⟨g, h⟩, ⟨i, j⟩, k, l⟩ m hp
  have hp : ((I64 a ∧ I64 b) ∧ (I64 c ∧ I64 d) ∧ I64 e ∧ I64 f) ∧ ((I64 g ∧ I64 h) ∧ (I64 i ∧ I64 j) ∧ I64 k ∧ I64 l) ∧ I64 m := hp
  show awp _ _ _ _ (start _ ([.agg [eQ a b, eQ c d, eQ e f], .agg [eQ g h, eQ i j, eQ k l], .lit (.int .i64 m)].map .dat) []) (endK _ _ _ (([.lit (.bool true)]).map .dat) [])
  obtain ⟨hp1, hp2, hp3⟩ := hp
  have ci := iDimC_at a b c d e f g h i j k l m
  have cs := sDimC_at a b c d e f g h i j k l m
  generalize (if v3Ok a b c d e f ∧ v3Ok g h i j k l ∧ 0 ≤ m ∧ m ≤ 3 then dimS (Rat.divInt g h - Rat.divInt a b) (Rat.divInt i j - Rat.divInt c d) (Rat.divInt k l - Rat.divInt e f) m else ⟨#[]⟩) = X at ci cs
  simp [-D.isLit, -iDimC_at, -sDimC_at, Tryz.f3, hp1, hp2, hp3, ci, cs]
theorem lwDim_calls (a b c d e f g h i j k l m : Int) (ha : (Lit.int .i64 a).wf = true) (hb : (Lit.int .i64 b).wf = true) (hc : (Lit.int .i64 c).wf = true) (hd : (Lit.int .i64 d).wf = true) (he : (Lit.int .i64 e).wf = true) (hf : (Lit.int .i64 f).wf = true) (hg : (Lit.int .i64 g).wf = true) (hh : (Lit.int .i64 h).wf = true) (hi : (Lit.int .i64 i).wf = true) (hj : (Lit.int .i64 j).wf = true) (hk : (Lit.int .i64 k).wf = true) (hl : (Lit.int .i64 l).wf = true) (hm : (Lit.int .i64 m).wf = true) (w : World) (htab : Lib.TabIs Tryz.prog w "internal/strconv.uint64pow10" .u64 Lib.pow10Tab) :
    Calls Tryz.prog 3 #[.agg #[.int .i64 a, .int .i64 b, .int .i64 c, .int .i64 d, .int .i64 e, .int .i64 f], .agg #[.int .i64 g, .int .i64 h, .int .i64 i, .int .i64 j, .int .i64 k, .int .i64 l], .int .i64 m] w fun e w' => e = .returned (.bool true) ∧ Below w.heap.size w w' :=
  law_calls lwDim_spec (ds := [.agg [eQ a b, eQ c d, eQ e f], .agg [eQ g h, eQ i j, eQ k l], .lit (.int .i64 m)]) (by rw [lwDimC_at]; exact ⟨⟨⟨wf64 ha, wf64 hb⟩, ⟨wf64 hc, wf64 hd⟩, wf64 he, wf64 hf⟩, ⟨⟨wf64 hg, wf64 hh⟩, ⟨wf64 hi, wf64 hj⟩, wf64 hk, wf64 hl⟩, wf64 hm⟩) (by rw [lwDimC_at]; rfl) (vs := [.agg #[.int .i64 a, .int .i64 b, .int .i64 c, .int .i64 d, .int .i64 e, .int .i64 f], .agg #[.int .i64 g, .int .i64 h, .int .i64 i, .int .i64 j, .int .i64 k, .int .i64 l], .int .i64 m]) (repVs_cons (repV_flat (cs := [.int .i64 a, .int .i64 b, .int .i64 c, .int .i64 d, .int .i64 e, .int .i64 f]) rfl (fun v hv => by simp at hv; rcases hv with rfl | rfl | rfl | rfl | rfl | rfl <;> rfl) rfl) (repVs_cons (repV_flat (cs := [.int .i64 g, .int .i64 h, .int .i64 i, .int .i64 j, .int .i64 k, .int .i64 l]) rfl (fun v hv => by simp at hv; rcases hv with rfl | rfl | rfl | rfl | rfl | rfl <;> rfl) rfl) (repVs_cons (RepV.of_lit rfl) repVs_nil))) htab
end Go.Proofs.YtojbfdkpelldoaaGreatDoor.Ae
