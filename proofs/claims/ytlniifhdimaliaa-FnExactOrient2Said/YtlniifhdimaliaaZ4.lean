/- Texts put together, in the order in which they build: L34, L35, L36, L37, L38, L39, L40, L41, L50, L51, L52, L53, L54, L55, L56, L57, L58, L59, L60, L61, L62, Q1, L63, L64, S1, S2, L65, L66, L67, L68, L69, S3, L70, S4, S5, T1, T2, T3, T4, T5, Q2, T6. No condition. -/
import Derived.Test.YtlniifhdimaliaaZ3
import Derived.Below
import Derived.OpenShut
set_option linter.unusedVariables false
set_option linter.unusedSimpArgs false
/-! spec: greatest common divisors, whole numbers of one word. No condition. -/
namespace Go.Proofs.Ytlniifhdimaliaa.Ae
open Go Go.RowKit Go.Proofs.Ytlniifhdimaliaa.Dig
variable {N : NR}

/-! spec.l1Gcd -/
def uuE (p : N2) : List D := [u64D p.a, u64D p.b]
theorem uuE_inj (p q : N2) (h : uuE p = uuE q) : p = q := by
  obtain ⟨a, b⟩ := p; obtain ⟨c, d⟩ := q
  simp only [uuE, List.cons.injEq, and_true] at h
  rw [u64D_inj h.1, u64D_inj h.2]
noncomputable def gcdC := ctD uuE (fun p => p.a < 18446744073709551616 ∧ p.b < 18446744073709551616) (fun p => [u64D (Nat.gcd p.a p.b)])
theorem gcdC_at (a b : Nat) : gcdC [u64D a, u64D b] = ((a < 18446744073709551616 ∧ b < 18446744073709551616), [u64D (Nat.gcd a b)]) := ctD_at uuE_inj ⟨a, b⟩
def gcdS (a b : Nat) : St := ⟨[.dat (.lit (.int .u64 a)), .dat (.lit (.int .u64 b)), .any, .any, .any, .any, .any, .any, .any, .any, .any, .any], [none, none, none, none, none, none, none, none, none, none, none, none]⟩
theorem l1Gcd_spec : SpecD N Try.prog 45 gcdC := by
  refine rdD (mf := fun f => false) tbl_nil (fn := Try.f45) (by kernel_rfl) rfl (by kernel_rfl) ?_
  rintro ⟨a, b⟩ ⟨ha, hb⟩
  have ha : a < 18446744073709551616 := ha
  have hb : b < 18446744073709551616 := hb
  refine ⟨by show 2 ≤ 12; decide, ?_⟩
  simp only [uuE, u64D, Try.f45]
  generalize hg : Nat.gcd a b = g
  simp
  refine loop_go (fun n st => ∃ x y : Nat, x < 18446744073709551616 ∧ y < 18446744073709551616 ∧ Nat.gcd x y = g ∧ n = y ∧ st = gcdS x y) (s0 := gcdS a b) (n := b) (snd_of (by simp [LeT, gcdS]) (by simp [gcdS])) ⟨a, b, ha, hb, hg, rfl, rfl⟩ ?_
  rintro y st ⟨x, _, hx, hy, hxy, rfl, rfl⟩ KN hN
  rcases Nat.eq_zero_or_pos y with h0 | h0
  · subst h0
    rw [Nat.gcd_zero_right] at hxy
    subst hxy
    simp [gcdS]
  · have h1 : ¬ y = 0 := by omega
    obtain ⟨r, hr⟩ : ∃ r, r = x % y := ⟨_, rfl⟩
    have hry : r < y := by rw [hr]; exact Nat.mod_lt _ h0
    have q1 := tmod_nat x y
    rw [← hr] at q1
    have q2 : IntKind.u64.wrap (r : Int) = r := by rw [wrap_u64]; omega
    simp [gcdS, h1, q1, q2]
    refine hN _ (nx (m := r) (s'' := gcdS y r) (snd_of (by simp [LeT, gcdS]) (by simp [gcdS])) ⟨y, r, hy, by omega, ?_, rfl, rfl⟩ hry)
    rw [hr, ← hxy, Nat.gcd_comm y, ← Nat.gcd_rec, Nat.gcd_comm]
theorem l1Gcd_ok : callable Try.prog 45 = true := by kernel_rfl

/-! spec.l1Small -/
noncomputable def smallC := ctD z1E (fun p => I64 p.a) (fun p => [.lit (.bool (decide (-2147483648 < p.a ∧ p.a < 2147483648)))])
theorem smallC_at (a : Int) : smallC [i64D a] = (I64 a, [.lit (.bool (decide (-2147483648 < a ∧ a < 2147483648)))]) := ctD_at z1E_inj ⟨a⟩
theorem l1Small_spec : SpecD N Try.prog 44 smallC := by
  refine rdD (mf := fun f => false) tbl_nil (fn := Try.f44) (by kernel_rfl) rfl (by kernel_rfl) ?_
  rintro ⟨a⟩ ha
  refine ⟨by show 1 ≤ 9; decide, ?_⟩
  simp only [z1E, i64D, Try.f44]
  by_cases h1 : -2147483648 < a <;> by_cases h2 : a < 2147483648 <;> simp [h1, h2]
theorem l1Small_ok : callable Try.prog 44 = true := by kernel_rfl

/-! spec.l1ZGcd -/
noncomputable def zGcdC := ctD zzE (fun p => SZ p.a ∧ SZ p.b) (fun p => [eZ (Int.gcd p.a p.b)])
theorem zGcdC_at (a b : Int) : zGcdC [eZ a, eZ b] = ((SZ a ∧ SZ b), [eZ (Int.gcd a b)]) := ctD_at zzE_inj ⟨a, b⟩
def zGcdS (a b : Int) (x y : Nat) : St := ⟨[.any, .any, .any, .any, .obj 4 [] 0, .dat (eM x), .dat (eM y), .any, .any, .any, .any, .any, .any, .any, .any, .any, .any, .any, .any, .any, .any, .any, .any, .any, .any, .any], [none, none, some (.box (eZ a)), some (.box (eZ b)), some (.box (.agg [.lit (.bool false), .lit (.slice none 0 0)])), none, none, none, none, none, none, none, none, none, none, none, none, none, none, none, none, none, none, none, none, none]⟩
theorem Sm_le {a b : Nat} (h : a ≤ b) (hb : Sm b) : Sm a := Nat.lt_of_le_of_lt (mag_len_le h) hb
theorem l1ZGcd_spec : SpecD N Try.prog 49 zGcdC := by
  refine rdD (mf := fun f => false) (tbl_cons (f := 50) (c := .data divC) l1MagDiv_spec l1MagDiv_ok tbl_nil) (fn := Try.f49) (by kernel_rfl) rfl (by kernel_rfl) ?_
  rintro ⟨a, b⟩ ⟨ha, hb⟩
  have ha : Sm a.natAbs := ha
  have hb : Sm b.natAbs := hb
  refine ⟨by show 2 ≤ 26; decide, ?_⟩
  simp only [zzE, Try.f49]
  generalize hg : Int.gcd a b = g
  have hg' : Nat.gcd a.natAbs b.natAbs = g := hg
  simp [eZ, eM, eW]
  refine loop_go (fun n st => ∃ x y : Nat, Sm x ∧ Sm y ∧ Nat.gcd x y = g ∧ n = y ∧ st = zGcdS a b x y) (s0 := zGcdS a b a.natAbs b.natAbs) (n := b.natAbs) (snd_of (by simp [LeT, zGcdS, eZ, eM, eW]) (by simp [zGcdS, eZ, eM, eW])) ⟨_, _, ha, hb, hg', rfl, rfl⟩ ?_
  rintro y st ⟨x, _, hx, hy, hxy, rfl, rfl⟩ KN hN
  rcases Nat.eq_zero_or_pos y with h0 | h0
  · subst h0
    rw [Nat.gcd_zero_right] at hxy
    subst hxy
    have hx0 : ¬ ((x : Nat) : Int) < 0 := by omega
    simp [zGcdS, eZ, eM, eW, mag_zero, hx0]
  · have h1 := mag_len_pos h0
    obtain ⟨r, hr⟩ : ∃ r, r = x % y := ⟨_, rfl⟩
    obtain ⟨q, hq⟩ : ∃ q, q = x / y := ⟨_, rfl⟩
    have hry : r < y := by rw [hr]; exact Nat.mod_lt _ h0
    have c1 := divC_at x y
    rw [← hr, ← hq] at c1
    simp only [hx, hy, h0, and_self, eM, eW] at c1
    simp [zGcdS, eZ, eM, eW, h1, c1]
    refine hN _ (nx (m := r) (s'' := zGcdS a b y r) (snd_of (by simp [LeT, zGcdS, eZ, eM, eW]) (by simp [zGcdS, eZ, eM, eW])) ⟨y, r, hy, Sm_le (Nat.le_of_lt hry) hy, ?_, rfl, rfl⟩ hry)
    rw [hr, ← hxy, Nat.gcd_comm y, ← Nat.gcd_rec, Nat.gcd_comm]
theorem l1ZGcd_ok : callable Try.prog 49 = true := by kernel_rfl

/-! spec.l1ZInt -/
structure ZM where
  a : Int
  m : Nat
def zmE (p : ZM) : List D := [eZ p.a, u64D p.m]
theorem zmE_inj (p q : ZM) (h : zmE p = zmE q) : p = q := by
  obtain ⟨a, b⟩ := p; obtain ⟨c, d⟩ := q
  simp only [zmE, List.cons.injEq, and_true] at h
  rw [eZ_inj h.1, u64D_inj h.2]
noncomputable def zIntC := ctD zmE (fun p => SZ p.a ∧ p.m ≤ 9223372036854775807) (fun p => [i64D (if p.a.natAbs ≤ p.m then p.a else 0), .lit (.bool (decide (p.a.natAbs ≤ p.m)))])
theorem zIntC_at (a : Int) (m : Nat) : zIntC [eZ a, u64D m] = ((SZ a ∧ m ≤ 9223372036854775807), [i64D (if a.natAbs ≤ m then a else 0), .lit (.bool (decide (a.natAbs ≤ m)))]) := ctD_at zmE_inj ⟨a, m⟩
def zIntS (a : Int) (m x n : Nat) : St := ⟨[.any, .dat (.lit (.int .u64 m)), .obj 2 [] 0, .any, .any, .any, .dat (.lit (.int .u64 x)), .dat (.lit (.int .i64 ((n : Int) - 1))), .any, .any, .any, .any, .any, .any, .any, .any, .any, .any, .any, .any, .any, .any, .any, .any, .any, .any, .any, .any, .any, .any, .any, .any, .any, .any, .any, .any, .any, .any, .any], [none, none, some (.box (eZ a)), none, none, none, none, none, none, none, none, none, none, none, none, none, none, none, none, none, none, none, none, none, none, none, none, none, none, none, none, none, none, none, none, none, none, none, none]⟩
theorem l1ZInt_spec : SpecD N Try.prog 55 zIntC := by
  refine rdD (mf := fun f => false) tbl_nil (fn := Try.f55) (by kernel_rfl) rfl (by kernel_rfl) ?_
  rintro ⟨a, m⟩ ⟨ha, hm⟩
  have ha : Sm a.natAbs := ha
  have hm : m ≤ 9223372036854775807 := hm
  refine ⟨by show 2 ≤ 39; decide, ?_⟩
  simp only [zmE, u64D, i64D, Try.f55]
  by_cases hl : 2 < (mag a.natAbs).length
  · have h1 : ¬ a.natAbs ≤ m := by
      intro h2
      have h3 : a.natAbs < B ^ 2 := by simp only [B]; omega
      have := mag_lt.2 h3
      omega
    have hl' : (2 : Int) < (mag a.natAbs).length := by omega
    simp [eZ, eM, eW, h1, hl']
  · have hl' : ¬ (2 : Int) < (mag a.natAbs).length := by omega
    have r1 : IntKind.i64.wrap (((mag a.natAbs).length : Int) - 1) = (mag a.natAbs).length - 1 := by rw [wrap_i64]; omega
    simp [eZ, eM, eW, hl', r1]
    refine loop_go (fun n st => n ≤ (mag a.natAbs).length ∧ st = zIntS a m (val ((mag a.natAbs).drop n)) n) (s0 := zIntS a m 0 (mag a.natAbs).length) (n := (mag a.natAbs).length) (snd_of (by simp [LeT, zIntS, eZ, eM, eW]) (by simp [zIntS, eZ, eM, eW])) ⟨Nat.le_refl _, by rw [List.drop_eq_nil_of_le (Nat.le_refl _)]; rfl⟩ ?_
    rintro n st ⟨hn, rfl⟩ KN hN
    cases n with
    | zero =>
      rw [List.drop_zero, val_mag]
      have hB : a.natAbs < 18446744073709551616 := by
        have := mag_lt.1 (by omega : (mag a.natAbs).length ≤ 2)
        simp only [B] at this; omega
      obtain ⟨v, hv⟩ : ∃ v, v = a.natAbs := ⟨_, rfl⟩
      by_cases hle : v ≤ m
      · have q1 : ¬ (m : Int) < v := by omega
        have q2 : IntKind.i64.wrap (v : Int) = v := by rw [wrap_i64]; omega
        by_cases hneg : a < 0
        · have q3 : IntKind.i64.wrap (-(v : Int)) = a := by rw [wrap_i64]; omega
          rw [← hv]
          simp [zIntS, eZ, eM, eW, ← hv, hle, hneg, q1, q2, q3]
        · have q3 : (v : Int) = a := by omega
          rw [← hv]
          simp only [q3] at q1 q2
          simp [zIntS, eZ, eM, eW, ← hv, hle, hneg, q1, q2, q3]
      · have q1 : (m : Int) < v := by omega
        rw [← hv]
        simp [zIntS, eZ, eM, eW, ← hv, hle, q1]
    | succ k =>
      obtain ⟨d, hd⟩ : ∃ d, d = (mag a.natAbs).getD k 0 := ⟨_, rfl⟩
      have hdB : d < 4294967296 := by rw [hd]; exact getD_lt (mag_digs _) _
      have hk : k < (mag a.natAbs).length := by omega
      have e1 := ix_dg _ _ hk
      rw [← hd] at e1
      obtain ⟨x, hx⟩ : ∃ x, x = val ((mag a.natAbs).drop (k + 1)) := ⟨_, rfl⟩
      have hxB : x < 4294967296 := by
        have h1 := val_lt ((mag_digs a.natAbs).drop (k + 1))
        rw [← hx] at h1
        have h2 : ((mag a.natAbs).drop (k + 1)).length ≤ 1 := by rw [List.length_drop]; omega
        have h3 : B ^ ((mag a.natAbs).drop (k + 1)).length ≤ B ^ 1 := Nat.pow_le_pow_right B_pos h2
        simp only [Nat.pow_one] at h3
        exact Nat.lt_of_lt_of_le h1 h3
      have hnx := drop_val hk
      rw [← hd, ← hx] at hnx
      obtain ⟨x2, hx2⟩ : ∃ x2, x2 = val ((mag a.natAbs).drop k) := ⟨_, rfl⟩
      rw [← hx2] at hnx
      have q2 : IntKind.u64.wrap (d : Int) = d := by rw [wrap_u64]; omega
      have q3 : IntKind.u64.wrap ((x : Int) * 4294967296) = (x : Int) * 4294967296 := by rw [wrap_u64]; omega
      have q4 : bOr .u64 ((x : Int) * 4294967296) d = x2 := by
        have := bOr64 (x * 4294967296) d (by omega) (by omega)
        rw [or_cut x d hdB] at this
        have h2 : x * 4294967296 + d = x2 := by rw [hnx]; simp only [B]; omega
        rw [h2] at this
        rw [← this]; congr 1
      have q5 : IntKind.i64.wrap ((k : Int) - 1) = (k : Int) - 1 := by rw [wrap_i64]; omega
      rw [← hx]
      simp [zIntS, eZ, eM, eW, hk, e1, dg, q2, q3, q4, q5]
      exact hN _ (nx (m := k) (s'' := zIntS a m x2 k) (snd_of (by simp [LeT, zIntS, eZ, eM, eW]) (by simp [zIntS, eZ, eM, eW])) ⟨by omega, by rw [hx2]⟩ (by omega))
theorem l1ZInt_ok : callable Try.prog 55 = true := by kernel_rfl
end Go.Proofs.Ytlniifhdimaliaa.Ae

/-! spec: fractions of any size: packed. No condition. -/
namespace Go.Proofs.Ytlniifhdimaliaa.Ae
open Go Go.RowKit Go.Proofs.Ytlniifhdimaliaa.Dig
variable {N : NR}

/-- A fraction as the reference holds it. -/
inductive SR where
  | small (n d : Int)
  | lit (n d : Int)
  | big (p q : Int)
def SR.num : SR → Int
  | small n _ => n
  | lit n _ => n
  | big p _ => p
def SR.den : SR → Int
  | small _ d => d
  | lit _ d => d
  | big _ q => q
def SR.isBig : SR → Bool
  | big _ _ => true
  | _ => false
def eR : SR → D
  | .small n d => .agg [i64D n, i64D d, .sl 2 []]
  | .lit n d => .agg [i64D n, i64D d, .lit (.slice none 0 0)]
  | .big p q => .agg [i64D 0, i64D 0, .sl 2 [eZ p, eZ q]]
theorem eR_inj : ∀ {a b : SR}, eR a = eR b → a = b
  | .small n d, .small n' d', h => by
    simp only [eR, D.agg.injEq, List.cons.injEq, and_true] at h
    rw [i64D_inj h.1, i64D_inj h.2]
  | .lit n d, .lit n' d', h => by
    simp only [eR, D.agg.injEq, List.cons.injEq, and_true] at h
    rw [i64D_inj h.1, i64D_inj h.2]
  | .big p q, .big p' q', h => by
    simp only [eR, D.agg.injEq, List.cons.injEq, and_true, true_and, D.sl.injEq] at h
    rw [eZ_inj h.1, eZ_inj h.2]
  | .small .., .lit .., h => by simp [eR] at h
  | .small .., .big .., h => by simp [eR] at h
  | .lit .., .small .., h => by simp [eR] at h
  | .lit .., .big .., h => by simp [eR] at h
  | .big .., .small .., h => by simp [eR] at h
  | .big .., .lit .., h => by simp [eR] at h
/-- Of moderate size; the second number above 0. -/
def WR : SR → Prop
  | .small n d => n.natAbs < 2147483648 ∧ 0 < d ∧ d < 2147483648
  | .lit n d => n.natAbs < 2147483648 ∧ 0 < d ∧ d < 2147483648
  | .big p q => SZ p ∧ SZ q ∧ 0 < q
def packR (p q : Int) : SR := if p.natAbs ≤ 2147483647 ∧ q.natAbs ≤ 2147483647 then .small p q else .big p q
theorem Sm_small {n : Nat} (h : n < 18446744073709551616) : Sm n := by
  have h1 : n < B ^ 2 := by simp only [B]; omega
  have := mag_lt.2 h1
  unfold Sm; omega

@[simp] theorem sub_r0 (n d : Int) : Sub (.agg [.lit (.int .i64 n), .lit (.int .i64 d), .lit (.slice none 0 0)]) (.agg [.lit (.int .i64 n), .lit (.int .i64 d), .sl 2 []]) = True := by
  simp only [eq_iff_iff, iff_true]; exact Sub.agg3 (Sub.refl _) (Sub.refl _) (Sub.nil 2)
@[simp] theorem eR_size (r : SR) : (eR r).size = 3 := by cases r <;> rfl
@[simp] theorem eR_isAgg (r : SR) : (eR r).isAgg = true := by cases r <;> rfl

/-! spec.l1rPack -/
noncomputable def packC := ctD zzE (fun p => SZ p.a ∧ SZ p.b) (fun p => [eR (packR p.a p.b)])
theorem packC_at (a b : Int) : packC [eZ a, eZ b] = ((SZ a ∧ SZ b), [eR (packR a b)]) := ctD_at zzE_inj ⟨a, b⟩
theorem l1rPack_spec : SpecD N Try.prog 48 packC := by
  refine rdD (mf := fun f => f == bld 41) (tbl_cons (f := 55) (c := .data zIntC) l1ZInt_spec l1ZInt_ok tbl_nil) (fn := Try.f48) (by kernel_rfl) rfl (by kernel_rfl) ?_
  rintro ⟨a, b⟩ ⟨ha, hb⟩
  have ha : SZ a := ha
  have hb : SZ b := hb
  refine ⟨by show 2 ≤ 30; decide, ?_⟩
  simp only [zzE, Try.f48]
  have c1 := zIntC_at a 2147483647
  have c2 := zIntC_at b 2147483647
  simp only [ha, hb, u64D, i64D] at c1 c2
  unfold packR
  by_cases h1 : a.natAbs ≤ 2147483647 <;> by_cases h2 : b.natAbs ≤ 2147483647 <;> simp [h1, h2] at c1 c2 <;> simp [c1, c2, h1, h2, eR, i64D]
theorem l1rPack_ok : callable Try.prog 48 = true := by kernel_rfl

/-! spec.l1rOf -/
def ofR (n d : Int) : SR := if (-2147483648 < n ∧ n < 2147483648) ∧ -2147483648 < d ∧ d < 2147483648 then .small n d else packR (n / (Int.gcd n d : Int)) (d / (Int.gcd n d : Int))
theorem eZ_div {n : Int} {g : Nat} (hg : 0 < g) (h : (g : Int) ∣ n) : eZ (n / (g : Int)) = .agg [.lit (.bool (decide (n < 0))), eM (n.natAbs / g)] := by
  obtain ⟨k, rfl⟩ := h
  have h1 : (g : Int) * k / (g : Int) = k := Int.mul_ediv_cancel_left k (by omega)
  have h2 : ((g : Int) * k).natAbs / g = k.natAbs := by rw [Int.natAbs_mul, Int.natAbs_natCast, Nat.mul_div_cancel_left _ hg]
  have h3 : ((g : Int) * k < 0) ↔ (k < 0) := by
    constructor
    · intro h
      rcases Int.lt_trichotomy k 0 with h4 | h4 | h4
      · exact h4
      · rw [h4, Int.mul_zero] at h; omega
      · have := Int.mul_pos (by omega : (0 : Int) < g) h4; omega
    · intro h; exact Int.mul_neg_of_pos_of_neg (by omega) h
  rw [h1, h2]
  unfold eZ
  simp only [h3]
def iiE (p : Z2) : List D := [i64D p.a, i64D p.b]
theorem iiE_inj (p q : Z2) (h : iiE p = iiE q) : p = q := by
  obtain ⟨a, b⟩ := p; obtain ⟨c, d⟩ := q
  simp only [iiE, List.cons.injEq, and_true] at h
  rw [i64D_inj h.1, i64D_inj h.2]
noncomputable def ofC := ctD iiE (fun p => I64 p.a ∧ I64 p.b ∧ 0 < p.b) (fun p => [eR (ofR p.a p.b)])
theorem ofC_at (a b : Int) : ofC [i64D a, i64D b] = ((I64 a ∧ I64 b ∧ 0 < b), [eR (ofR a b)]) := ctD_at iiE_inj ⟨a, b⟩
noncomputable def ofTb : List (FuncId × Ct) := [(44, .data smallC), (46, .data absC), (45, .data gcdC), (47, .data magC), (48, .data packC)]
theorem ofTb_ok : TbOK N Try.prog (tbl ofTb) := tbl_cons (c := .data smallC) l1Small_spec l1Small_ok (tbl_cons (c := .data absC) l1Abs_spec l1Abs_ok (tbl_cons (c := .data gcdC) l1Gcd_spec l1Gcd_ok (tbl_cons (c := .data magC) l1Mag_spec l1Mag_ok (tbl_cons (c := .data packC) l1rPack_spec l1rPack_ok tbl_nil))))

@[simp] theorem ofTb1 : tbl ofTb 44 = some (.data smallC) := rfl
@[simp] theorem ofTb2 : tbl ofTb 46 = some (.data absC) := rfl
@[simp] theorem ofTb3 : tbl ofTb 45 = some (.data gcdC) := rfl
@[simp] theorem ofTb4 : tbl ofTb 47 = some (.data magC) := rfl
@[simp] theorem ofTb5 : tbl ofTb 48 = some (.data packC) := rfl
theorem l1rOf_spec : SpecD N Try.prog 37 ofC := by
  refine rdD (mf := fun f => false) ofTb_ok (fn := Try.f37) (by kernel_rfl) rfl (by kernel_rfl) ?_
  rintro ⟨n, d⟩ ⟨hn, hd, hd0⟩
  have hn : I64 n := hn
  have hd : I64 d := hd
  have hd0 : 0 < d := hd0
  refine ⟨by show 2 ≤ 39; decide, ?_⟩
  simp only [iiE, i64D, Try.f37]
  have c1 := smallC_at n
  have c2 := smallC_at d
  simp only [hn, hd, i64D] at c1 c2
  by_cases hs : (-2147483648 < n ∧ n < 2147483648) ∧ -2147483648 < d ∧ d < 2147483648
  · have e : ofR n d = .small n d := by unfold ofR; rw [if_pos hs]
    have e1 : decide (-2147483648 < n ∧ n < 2147483648) = true := decide_eq_true hs.1
    have e2 : decide (-2147483648 < d ∧ d < 2147483648) = true := decide_eq_true hs.2
    rw [e]
    rw [e1] at c1
    rw [e2] at c2
    simp [c1, c2, eR, i64D]
  · have e : ofR n d = packR (n / (Int.gcd n d : Int)) (d / (Int.gcd n d : Int)) := by unfold ofR; rw [if_neg hs]
    rw [e]
    obtain ⟨g, hg⟩ : ∃ g, g = Int.gcd n d := ⟨_, rfl⟩
    have hg0 : 0 < g := by rw [hg]; exact Int.gcd_pos_of_ne_zero_right _ (by omega)
    have hg1 : (g : Int) ∣ n := by rw [hg]; exact Int.gcd_dvd_left ..
    have hg2 : (g : Int) ∣ d := by rw [hg]; exact Int.gcd_dvd_right ..
    have hgn : Nat.gcd n.natAbs d.natAbs = g := hg.symm
    rw [← hg]
    have c3 := absC_at n
    have c4 := gcdC_at n.natAbs d.natAbs
    rw [hgn] at c4
    have hn1 : n.natAbs < 18446744073709551616 := by unfold I64 at hn; omega
    have hd1 : d.natAbs < 18446744073709551616 := by unfold I64 at hd; omega
    simp only [hn, hn1, hd1, and_self, u64D, i64D] at c3 c4
    have c5 := packC_at (n / (g : Int)) (d / (g : Int))
    obtain ⟨p, hp⟩ : ∃ p, p = n.natAbs / g := ⟨_, rfl⟩
    obtain ⟨q, hq⟩ : ∃ q, q = d.natAbs / g := ⟨_, rfl⟩
    have hp1 : p < 18446744073709551616 := by rw [hp]; exact Nat.lt_of_le_of_lt (Nat.div_le_self _ _) hn1
    have hq1 : q < 18446744073709551616 := by rw [hq]; exact Nat.lt_of_le_of_lt (Nat.div_le_self _ _) hd1
    have c6 := magC_at p
    have c7 := magC_at q
    have hdn : ¬ d < 0 := by omega
    have hs1 : SZ (n / (g : Int)) := by
      have := congrArg (fun x => x) (eZ_div hg0 hg1)
      have h2 : (n / (g : Int)).natAbs = p := by
        simp only [eZ, D.agg.injEq, List.cons.injEq, and_true] at this
        rw [hp]; exact eM_inj this.2
      unfold SZ; rw [h2]; exact Sm_small hp1
    have hs2 : SZ (d / (g : Int)) := by
      have := congrArg (fun x => x) (eZ_div hg0 hg2)
      have h2 : (d / (g : Int)).natAbs = q := by
        simp only [eZ, D.agg.injEq, List.cons.injEq, and_true] at this
        rw [hq]; exact eM_inj this.2
      unfold SZ; rw [h2]; exact Sm_small hq1
    rw [eZ_div hg0 hg1, eZ_div hg0 hg2, ← hp, ← hq] at c5
    simp only [hp1, hq1, hs1, hs2, hdn, u64D, eM, eW, and_self, decide_false] at c5 c6 c7
    have w1 : IntKind.u64.wrap d = (d.natAbs : Int) := by rw [wrap_u64]; unfold I64 at hd; omega
    have w2 : Int.tdiv ((n.natAbs : Nat) : Int) g = p := by rw [hp]; exact tdiv_nat _ _
    have w3 : Int.tdiv ((d.natAbs : Nat) : Int) g = q := by rw [hq]; exact tdiv_nat _ _
    have w4 : IntKind.u64.wrap (p : Int) = p := by rw [wrap_u64]; omega
    have w5 : IntKind.u64.wrap (q : Int) = q := by rw [wrap_u64]; omega
    have hgne : ¬ g = 0 := by omega
    generalize packR (n / (g : Int)) (d / (g : Int)) = res at *
    generalize n.natAbs = na at *
    generalize d.natAbs = da at *
    by_cases h1 : -2147483648 < n ∧ n < 2147483648
    · have h2 : ¬ (-2147483648 < d ∧ d < 2147483648) := fun h => hs ⟨h1, h⟩
      have e1 : decide (-2147483648 < n ∧ n < 2147483648) = true := decide_eq_true h1
      have e2 : decide (-2147483648 < d ∧ d < 2147483648) = false := decide_eq_false h2
      rw [e1] at c1
      rw [e2] at c2
      simp [c1, c2, c3, c4, c5, c6, c7, w1, w2, w3, w4, w5, hgne]
    · have e1 : decide (-2147483648 < n ∧ n < 2147483648) = false := decide_eq_false h1
      rw [e1] at c1
      simp [c1, c3, c4, c5, c6, c7, w1, w2, w3, w4, w5, hgne]
theorem l1rOf_ok : callable Try.prog 37 = true := by kernel_rfl
end Go.Proofs.Ytlniifhdimaliaa.Ae

/-! spec: fractions of any size: sums, products. No condition. -/
namespace Go.Proofs.Ytlniifhdimaliaa.Ae
open Go Go.RowKit Go.Proofs.Ytlniifhdimaliaa.Dig
variable {N : NR}

structure R1 where
  a : SR
def rE (p : R1) : List D := [eR p.a]
theorem rE_inj (p q : R1) (h : rE p = rE q) : p = q := by
  obtain ⟨a⟩ := p; obtain ⟨c⟩ := q
  simp only [rE, List.cons.injEq, and_true] at h
  rw [eR_inj h]
structure R2 where
  a : SR
  b : SR
def rrE (p : R2) : List D := [eR p.a, eR p.b]
theorem rrE_inj (p q : R2) (h : rrE p = rrE q) : p = q := by
  obtain ⟨a, b⟩ := p; obtain ⟨c, d⟩ := q
  simp only [rrE, List.cons.injEq, and_true] at h
  rw [eR_inj h.1, eR_inj h.2]
theorem WR_SZ {r : SR} (h : WR r) : SZ r.num ∧ SZ r.den ∧ 0 < r.den := by
  cases r with
  | small n d => obtain ⟨h1, h2, h3⟩ := h; exact ⟨Sm_small (by show n.natAbs < _; omega), Sm_small (by show d.natAbs < _; omega), h2⟩
  | lit n d => obtain ⟨h1, h2, h3⟩ := h; exact ⟨Sm_small (by show n.natAbs < _; omega), Sm_small (by show d.natAbs < _; omega), h2⟩
  | big p q => exact h

/-! spec.l1rZ -/
noncomputable def rzC := ctD rE (fun p => WR p.a) (fun p => [eZ p.a.num, eZ p.a.den])
theorem rzC_at (a : SR) : rzC [eR a] = (WR a, [eZ a.num, eZ a.den]) := ctD_at rE_inj ⟨a⟩
/-! spec.l1rBig -/
def bigR (n d : Int) : SR := if n = 0 then .small 0 1 else if d < 0 then packR (-n / (Int.gcd n d : Int)) (-d / (Int.gcd n d : Int)) else packR (n / (Int.gcd n d : Int)) (d / (Int.gcd n d : Int))
noncomputable def bigC := ctD zzE (fun p => SZ p.a ∧ SZ p.b ∧ p.b ≠ 0) (fun p => [eR (bigR p.a p.b)])
theorem bigC_at (a b : Int) : bigC [eZ a, eZ b] = ((SZ a ∧ SZ b ∧ b ≠ 0), [eR (bigR a b)]) := ctD_at zzE_inj ⟨a, b⟩
noncomputable def bigTb : List (FuncId × Ct) := [(39, .data zNegC), (49, .data zGcdC), (50, .data divC), (48, .data packC)]
theorem bigTb_ok : TbOK N Try.prog (tbl bigTb) := tbl_cons (c := .data zNegC) l1ZNeg_spec l1ZNeg_ok (tbl_cons (c := .data zGcdC) l1ZGcd_spec l1ZGcd_ok (tbl_cons (c := .data divC) l1MagDiv_spec l1MagDiv_ok (tbl_cons (c := .data packC) l1rPack_spec l1rPack_ok tbl_nil)))

@[simp] theorem bigTb1 : tbl bigTb 39 = some (.data zNegC) := rfl
@[simp] theorem bigTb2 : tbl bigTb 49 = some (.data zGcdC) := rfl
@[simp] theorem bigTb3 : tbl bigTb 50 = some (.data divC) := rfl
@[simp] theorem bigTb4 : tbl bigTb 48 = some (.data packC) := rfl
theorem natAbs_div {n : Int} {g : Nat} (hg : 0 < g) (h : (g : Int) ∣ n) : (n / (g : Int)).natAbs = n.natAbs / g := by
  have := eZ_div hg h
  simp only [eZ, D.agg.injEq, List.cons.injEq, and_true] at this
  exact eM_inj this.2
theorem SZ_le {a b : Int} (h : a.natAbs ≤ b.natAbs) (hb : SZ b) : SZ a := Sm_le h hb
theorem l1rBig_spec : SpecD N Try.prog 38 bigC := by
  refine rdD (mf := fun f => false) bigTb_ok (fn := Try.f38) (by kernel_rfl) rfl (by kernel_rfl) ?_
  rintro ⟨n, d⟩ ⟨hn, hd, hd0⟩
  have hn : SZ n := hn
  have hd : SZ d := hd
  have hd0 : d ≠ 0 := hd0
  refine ⟨by show 2 ≤ 47; decide, ?_⟩
  simp only [zzE, Try.f38]
  by_cases hn0 : n = 0
  · have e : bigR n d = .small 0 1 := by unfold bigR; rw [if_pos hn0]
    rw [e]
    subst hn0
    simp [eZ, eM, eW, mag_zero, eR, i64D]
  · have hlen := mag_len_pos (n := n.natAbs) (by omega)
    have hne : mag n.natAbs ≠ [] := fun h => by rw [h] at hlen; simp at hlen
    -- the part behind the signs
    have key : ∀ n' d' : Int, SZ n' → SZ d' → n' ≠ 0 → 0 < d' → ∃ (g p q : Nat), 0 < g ∧ zGcdC [eZ n', eZ d'] = (True, [.agg [.lit (.bool false), .sl 1 ((mag g).map dg)]]) ∧ divC [.sl 1 ((mag n'.natAbs).map dg), .sl 1 ((mag g).map dg)] = (True, [.sl 1 ((mag p).map dg), eM (n'.natAbs % g)]) ∧
        divC [.sl 1 ((mag d'.natAbs).map dg), .sl 1 ((mag g).map dg)] = (True, [.sl 1 ((mag q).map dg), eM (d'.natAbs % g)]) ∧ packC [.agg [.lit (.bool (decide (n' < 0))), .sl 1 ((mag p).map dg)], .agg [.lit (.bool false), .sl 1 ((mag q).map dg)]] = (True, [eR (packR (n' / (Int.gcd n' d' : Int)) (d' / (Int.gcd n' d' : Int)))]) := by
      intro n' d' h1 h2 h3 h4
      obtain ⟨g, hg⟩ : ∃ g, g = Int.gcd n' d' := ⟨_, rfl⟩
      have hg0 : 0 < g := by rw [hg]; exact Int.gcd_pos_of_ne_zero_right _ (by omega)
      have hg1 : (g : Int) ∣ n' := by rw [hg]; exact Int.gcd_dvd_left ..
      have hg2 : (g : Int) ∣ d' := by rw [hg]; exact Int.gcd_dvd_right ..
      have hgd : g ≤ d'.natAbs := Nat.le_of_dvd (by omega) (by have := Int.natAbs_dvd_natAbs.2 hg2; simpa using this)
      have c1 := zGcdC_at n' d'
      have c2 := divC_at n'.natAbs g
      have c3 := divC_at d'.natAbs g
      have c4 := packC_at (n' / (g : Int)) (d' / (g : Int))
      have hsg : Sm g := Sm_le hgd h2
      have hs1 : SZ (n' / (g : Int)) := SZ_le (by rw [natAbs_div hg0 hg1]; exact Nat.div_le_self _ _) h1
      have hs2 : SZ (d' / (g : Int)) := SZ_le (by rw [natAbs_div hg0 hg2]; exact Nat.div_le_self _ _) h2
      rw [eZ_div hg0 hg1, eZ_div hg0 hg2] at c4
      have hdn : ¬ d' < 0 := by omega
      have hgn : ¬ ((g : Nat) : Int) < 0 := by omega
      rw [← hg] at c1
      have h1' : Sm n'.natAbs := h1
      have h2' : Sm d'.natAbs := h2
      refine ⟨g, n'.natAbs / g, d'.natAbs / g, hg0, ?_, ?_, ?_, ?_⟩
      · rw [c1]; simp only [h1, h2, and_self, eZ, hgn, decide_false, Int.natAbs_natCast, eM, eW]
      · simp only [eM, eW] at c2 ⊢; rw [c2]; simp only [h1', hsg, hg0, and_self]
      · simp only [eM, eW] at c3 ⊢; rw [c3]; simp only [h2', hsg, hg0, and_self]
      · rw [← hg]; simp only [eM, eW, hdn, decide_false] at c4; rw [c4]; simp only [hs1, hs2, and_self]
    by_cases hdn : d < 0
    · have e : bigR n d = packR (-n / (Int.gcd (-n) (-d) : Int)) (-d / (Int.gcd (-n) (-d) : Int)) := by unfold bigR; rw [if_neg hn0, if_pos hdn, Int.neg_gcd, Int.gcd_neg]
      rw [e]
      have c1 := zNegC_at n
      have c2 := zNegC_at d
      simp only [hn, hd] at c1 c2
      obtain ⟨g, p, q, hg0, k1, k2, k3, k4⟩ := key (-n) (-d) (SZ_neg.2 hn) (SZ_neg.2 hd) (by omega) (by omega)
      have c1' : zNegC [eZ n] = (True, [eZ (-n)]) := c1
      have hdn' : ¬ -d < 0 := by omega
      generalize packR _ _ = res at *
      have e3 : decide (-n < 0) = decide (0 < n) := by simp
      simp only [eZ, eM, eW, hdn', decide_false, hdn, decide_true, e3, Int.natAbs_neg] at c1 c2 k1 k2 k3 k4 ⊢
      simp [hne, c1, c2, k1, k2, k3, k4]
    · have e : bigR n d = packR (n / (Int.gcd n d : Int)) (d / (Int.gcd n d : Int)) := by unfold bigR; rw [if_neg hn0, if_neg hdn]
      rw [e]
      obtain ⟨g, p, q, hg0, k1, k2, k3, k4⟩ := key n d hn hd hn0 (by omega)
      generalize packR _ _ = res at *
      simp only [eZ, eM, eW, hdn, decide_false] at k1 ⊢
      simp [hne, k1, k2, k3, k4]
theorem l1rBig_ok : callable Try.prog 38 = true := by kernel_rfl
end Go.Proofs.Ytlniifhdimaliaa.Ae

/-! spec: fractions of any size: as two whole numbers. No condition. -/
namespace Go.Proofs.Ytlniifhdimaliaa.Ae
open Go Go.RowKit Go.Proofs.Ytlniifhdimaliaa.Dig
variable {N : NR}

theorem l1rZ_spec : SpecD N Try.prog 34 rzC := by
  refine rdD (mf := fun f => f == cel 2 || f == cel 3) (tbl_cons (f := 41) (c := .data zOfC) l1ZOf_spec l1ZOf_ok tbl_nil) (fn := Try.f34) (by kernel_rfl) rfl (by kernel_rfl) ?_
  rintro ⟨a⟩ ha
  have ha : WR a := ha
  refine ⟨by show 1 ≤ 22; decide, ?_⟩
  simp only [rE, Try.f34]
  cases a with
  | small n d =>
    obtain ⟨h1, h2, h3⟩ := ha
    have c1 := zOfC_at n
    have c2 := zOfC_at d
    have i1 : I64 n := by unfold I64; omega
    have i2 : I64 d := by unfold I64; omega
    simp only [i1, i2, i64D] at c1 c2
    simp [eR, i64D, SR.num, SR.den, c1, c2]
  | lit n d =>
    obtain ⟨h1, h2, h3⟩ := ha
    have c1 := zOfC_at n
    have c2 := zOfC_at d
    have i1 : I64 n := by unfold I64; omega
    have i2 : I64 d := by unfold I64; omega
    simp only [i1, i2, i64D] at c1 c2
    simp [eR, i64D, SR.num, SR.den, c1, c2]
  | big p q =>
    have e0 : ix [eZ p, eZ q] 0 = some (eZ p) := rfl
    have e1 : ix [eZ p, eZ q] 1 = some (eZ q) := rfl
    simp [eR, i64D, SR.num, SR.den, e0, e1]
theorem l1rZ_ok : callable Try.prog 34 = true := by kernel_rfl

end Go.Proofs.Ytlniifhdimaliaa.Ae

/-! spec: fractions of any size: sums, products. No condition. -/
namespace Go.Proofs.Ytlniifhdimaliaa.Ae
open Go Go.RowKit Go.Proofs.Ytlniifhdimaliaa.Dig
variable {N : NR}

theorem prod_bd {n d : Int} (hn : n.natAbs < 2147483648) (hd : 0 < d ∧ d < 2147483648) : -4611686018427387904 < n * d ∧ n * d < 4611686018427387904 := by
  have h1 : (n * d).natAbs ≤ 2147483647 * 2147483647 := by rw [Int.natAbs_mul]; exact Nat.mul_le_mul (by omega) (by omega)
  omega
theorem pos_bd {c d : Int} (hc : 0 < c ∧ c < 2147483648) (hd : 0 < d ∧ d < 2147483648) : 0 < c * d ∧ c * d < 4611686018427387904 :=
  ⟨Int.mul_pos hc.1 hd.1, (prod_bd (n := c) (by omega) hd).2⟩
theorem w_0 : IntKind.i64.wrap 0 = 0 := by rw [wrap_i64]; rfl
theorem w_2 : IntKind.i64.wrap 2 = 2 := by rw [wrap_i64]; rfl
theorem w_4 : IntKind.i64.wrap 4 = 4 := by rw [wrap_i64]; rfl

theorem eR_small (n d : Int) : eR (.small n d) = .agg [i64D n, i64D d, .sl 2 []] := rfl
theorem eR_lit (n d : Int) : eR (.lit n d) = .agg [i64D n, i64D d, .lit (.slice none 0 0)] := rfl
theorem eR_big (p q : Int) : eR (.big p q) = .agg [i64D 0, i64D 0, .sl 2 [eZ p, eZ q]] := rfl
def addR (a b : SR) : SR := if a.isBig || b.isBig then bigR (a.num * b.den + b.num * a.den) (a.den * b.den) else ofR (a.num * b.den + b.num * a.den) (a.den * b.den)
noncomputable def rAddC := ctD rrE (fun p => WR p.a ∧ WR p.b ∧ SZ (p.a.num * p.b.den) ∧ SZ (p.b.num * p.a.den) ∧ SZ (p.a.num * p.b.den + p.b.num * p.a.den) ∧ SZ (p.a.den * p.b.den)) (fun p => [eR (addR p.a p.b)])
theorem rAddC_at (a b : SR) : rAddC [eR a, eR b] = ((WR a ∧ WR b ∧ SZ (a.num * b.den) ∧ SZ (b.num * a.den) ∧ SZ (a.num * b.den + b.num * a.den) ∧ SZ (a.den * b.den)), [eR (addR a b)]) := ctD_at rrE_inj ⟨a, b⟩
noncomputable def rTb : List (FuncId × Ct) := [(37, .data ofC), (34, .data rzC), (36, .data zMulC), (40, .data zAddC), (38, .data bigC), (35, .data zCmpC), (29, .data zSignC), (39, .data zNegC), (41, .data zOfC), (48, .data packC)]
theorem rTb_ok : TbOK N Try.prog (tbl rTb) := tbl_cons (c := .data ofC) l1rOf_spec l1rOf_ok (tbl_cons (c := .data rzC) l1rZ_spec l1rZ_ok (tbl_cons (c := .data zMulC) l1ZMul_spec l1ZMul_ok (tbl_cons (c := .data zAddC) l1ZAdd_spec l1ZAdd_ok (tbl_cons (c := .data bigC) l1rBig_spec l1rBig_ok (tbl_cons (c := .data zCmpC) l1ZCmp_spec l1ZCmp_ok (tbl_cons (c := .data zSignC) l1ZSign_spec l1ZSign_ok (tbl_cons (c := .data zNegC) l1ZNeg_spec l1ZNeg_ok (tbl_cons (c := .data zOfC) l1ZOf_spec l1ZOf_ok (tbl_cons (c := .data packC) l1rPack_spec l1rPack_ok tbl_nil)))))))))

@[simp] theorem rTb1 : tbl rTb 37 = some (.data ofC) := rfl
@[simp] theorem rTb2 : tbl rTb 34 = some (.data rzC) := rfl
@[simp] theorem rTb3 : tbl rTb 36 = some (.data zMulC) := rfl
@[simp] theorem rTb4 : tbl rTb 40 = some (.data zAddC) := rfl
@[simp] theorem rTb5 : tbl rTb 38 = some (.data bigC) := rfl
@[simp] theorem rTb6 : tbl rTb 35 = some (.data zCmpC) := rfl
@[simp] theorem rTb7 : tbl rTb 29 = some (.data zSignC) := rfl
@[simp] theorem rTb8 : tbl rTb 39 = some (.data zNegC) := rfl
@[simp] theorem rTb9 : tbl rTb 41 = some (.data zOfC) := rfl
@[simp] theorem rTb10 : tbl rTb 48 = some (.data packC) := rfl

theorem l1rAdd_spec : SpecD N Try.prog 33 rAddC := by
  refine rdD (mf := fun f => false) rTb_ok (fn := Try.f33) (by kernel_rfl) rfl (by kernel_rfl) ?_
  rintro ⟨a, b⟩ ⟨ha, hb, h1, h2, h3, h4⟩
  have ha : WR a := ha
  have hb : WR b := hb
  have h1 : SZ (a.num * b.den) := h1
  have h2 : SZ (b.num * a.den) := h2
  have h3 : SZ (a.num * b.den + b.num * a.den) := h3
  have h4 : SZ (a.den * b.den) := h4
  obtain ⟨sa1, sa2, sa3⟩ := WR_SZ ha
  obtain ⟨sb1, sb2, sb3⟩ := WR_SZ hb
  refine ⟨by show 2 ≤ 55; decide, ?_⟩
  simp only [rrE, Try.f33]
  have c1 := rzC_at a
  have c2 := rzC_at b
  have c3 := zMulC_at a.num b.den
  have c4 := zMulC_at b.num a.den
  have c5 := zAddC_at (a.num * b.den) (b.num * a.den)
  have c6 := zMulC_at a.den b.den
  have c7 := bigC_at (a.num * b.den + b.num * a.den) (a.den * b.den)
  have h5 : a.den * b.den ≠ 0 := by have := Int.mul_pos sa3 sb3; omega
  have c8 := ofC_at (a.num * b.den + b.num * a.den) (a.den * b.den)
  simp only [ha, hb, h1, h2, h3, h4, sa1, sa2, sb1, sb2, and_self, h5, ne_eq, not_false_eq_true] at c1 c2 c3 c4 c5 c6 c7
  rcases a with ⟨n, d⟩ | ⟨n, d⟩ | ⟨n, d⟩ <;> rcases b with ⟨n', d'⟩ | ⟨n', d'⟩ | ⟨n', d'⟩
  case small.small | small.lit | lit.small | lit.lit =>
    obtain ⟨x1, x2, x3⟩ := ha
    obtain ⟨y1, y2, y3⟩ := hb
    have b1 := prod_bd x1 ⟨y2, y3⟩
    have b2 := prod_bd y1 ⟨x2, x3⟩
    have b3 := pos_bd ⟨x2, x3⟩ ⟨y2, y3⟩
    simp only [SR.num, SR.den, SR.isBig, addR, eR_small, eR_lit, eR_big, i64D, Bool.or_self, Bool.false_eq_true, if_false] at c8 ⊢
    have i1 : I64 (n * d' + n' * d) := by unfold I64; omega
    have i2 : I64 (d * d') := by unfold I64; omega
    have i3 : 0 < d * d' := b3.1
    simp only [i1, i2, i3, and_self] at c8
    have w1 : IntKind.i64.wrap (n * d') = n * d' := i64_id _ (by omega) (by omega)
    have w2 : IntKind.i64.wrap (n' * d) = n' * d := i64_id _ (by omega) (by omega)
    have w3 : IntKind.i64.wrap (d * d') = d * d' := i64_id _ (by omega) (by omega)
    have w4 : IntKind.i64.wrap (n * d' + n' * d) = n * d' + n' * d := i64_id _ (by omega) (by omega)
    simp [w_0, w1, w2, w3, w4, c8]
  all_goals
    simp only [SR.num, SR.den, SR.isBig, addR, eR_small, eR_lit, eR_big, i64D, Bool.or_true, Bool.true_or, Bool.or_self, if_true] at c1 c2 c3 c4 c5 c6 c7 ⊢
    simp [w_2, w_4, c1, c2, c3, c4, c5, c6, c7]
theorem l1rAdd_ok : callable Try.prog 33 = true := by kernel_rfl
end Go.Proofs.Ytlniifhdimaliaa.Ae

/-! spec: fractions of any size: products, quotients, signs. No condition. -/
namespace Go.Proofs.Ytlniifhdimaliaa.Ae
open Go Go.RowKit Go.Proofs.Ytlniifhdimaliaa.Dig
variable {N : NR}

def mulR (a b : SR) : SR := if a.isBig || b.isBig then bigR (a.num * b.num) (a.den * b.den) else ofR (a.num * b.num) (a.den * b.den)
noncomputable def rMulC := ctD rrE (fun p => WR p.a ∧ WR p.b ∧ SZ (p.a.num * p.b.num) ∧ SZ (p.a.den * p.b.den)) (fun p => [eR (mulR p.a p.b)])
theorem rMulC_at (a b : SR) : rMulC [eR a, eR b] = ((WR a ∧ WR b ∧ SZ (a.num * b.num) ∧ SZ (a.den * b.den)), [eR (mulR a b)]) := ctD_at rrE_inj ⟨a, b⟩
theorem l1rMul_spec : SpecD N Try.prog 31 rMulC := by
  refine rdD (mf := fun f => false) rTb_ok (fn := Try.f31) (by kernel_rfl) rfl (by kernel_rfl) ?_
  rintro ⟨a, b⟩ ⟨ha, hb, h1, h4⟩
  have ha : WR a := ha
  have hb : WR b := hb
  have h1 : SZ (a.num * b.num) := h1
  have h4 : SZ (a.den * b.den) := h4
  obtain ⟨sa1, sa2, sa3⟩ := WR_SZ ha
  obtain ⟨sb1, sb2, sb3⟩ := WR_SZ hb
  refine ⟨by show 2 ≤ 45; decide, ?_⟩
  simp only [rrE, Try.f31]
  have c1 := rzC_at a
  have c2 := rzC_at b
  have c3 := zMulC_at a.num b.num
  have c6 := zMulC_at a.den b.den
  have c7 := bigC_at (a.num * b.num) (a.den * b.den)
  have h5 : a.den * b.den ≠ 0 := by have := Int.mul_pos sa3 sb3; omega
  have c8 := ofC_at (a.num * b.num) (a.den * b.den)
  simp only [ha, hb, h1, h4, sa1, sa2, sb1, sb2, and_self, h5, ne_eq, not_false_eq_true] at c1 c2 c3 c6 c7
  rcases a with ⟨n, d⟩ | ⟨n, d⟩ | ⟨n, d⟩ <;> rcases b with ⟨n', d'⟩ | ⟨n', d'⟩ | ⟨n', d'⟩
  case small.small | small.lit | lit.small | lit.lit =>
    obtain ⟨x1, x2, x3⟩ := ha
    obtain ⟨y1, y2, y3⟩ := hb
    have b1 : -4611686018427387904 < n * n' ∧ n * n' < 4611686018427387904 := by
      have h1 : (n * n').natAbs ≤ 2147483647 * 2147483647 := by rw [Int.natAbs_mul]; exact Nat.mul_le_mul (by omega) (by omega)
      omega
    have b3 := pos_bd ⟨x2, x3⟩ ⟨y2, y3⟩
    simp only [SR.num, SR.den, SR.isBig, mulR, eR_small, eR_lit, eR_big, i64D, Bool.or_self, Bool.false_eq_true, if_false] at c8 ⊢
    have i1 : I64 (n * n') := by unfold I64; omega
    have i2 : I64 (d * d') := by unfold I64; omega
    have i3 : 0 < d * d' := b3.1
    simp only [i1, i2, i3, and_self] at c8
    have w1 : IntKind.i64.wrap (n * n') = n * n' := i64_id _ (by omega) (by omega)
    have w3 : IntKind.i64.wrap (d * d') = d * d' := i64_id _ (by omega) (by omega)
    simp [w_0, w1, w3, c8]
  all_goals
    simp only [SR.num, SR.den, SR.isBig, mulR, eR_small, eR_lit, eR_big, i64D, Bool.or_true, Bool.true_or, Bool.or_self, if_true] at c1 c2 c3 c6 c7 ⊢
    simp [w_2, w_4, c1, c2, c3, c6, c7]
theorem l1rMul_ok : callable Try.prog 31 = true := by kernel_rfl

/-! spec.l1rNeg, l1rSub -/
def negR : SR → SR
  | .small n d => .small (-n) d
  | .lit n d => .small (-n) d
  | .big p q => .big (-p) q
noncomputable def rNegC := ctD rE (fun p => WR p.a) (fun p => [eR (negR p.a)])
theorem rNegC_at (a : SR) : rNegC [eR a] = (WR a, [eR (negR a)]) := ctD_at rE_inj ⟨a⟩
theorem l1rNeg_spec : SpecD N Try.prog 32 rNegC := by
  refine rdD (mf := fun f => f == bld 41) rTb_ok (fn := Try.f32) (by kernel_rfl) rfl (by kernel_rfl) ?_
  rintro ⟨a⟩ ha
  have ha : WR a := ha
  refine ⟨by show 1 ≤ 24; decide, ?_⟩
  simp only [rE, Try.f32]
  rcases a with ⟨n, d⟩ | ⟨n, d⟩ | ⟨n, d⟩
  case small | lit =>
    obtain ⟨x1, x2, x3⟩ := ha
    have w1 : IntKind.i64.wrap (-n) = -n := i64_id _ (by omega) (by omega)
    simp [negR, eR_small, eR_lit, i64D, w1]
  case big =>
    obtain ⟨x1, x2, x3⟩ := ha
    have c1 := zNegC_at n
    simp only [x1] at c1
    have e0 : ix [eZ n, eZ d] 0 = some (eZ n) := rfl
    have e1 : ix [eZ n, eZ d] 1 = some (eZ d) := rfl
    simp [negR, eR_big, i64D, c1, e0, e1]
theorem l1rNeg_ok : callable Try.prog 32 = true := by kernel_rfl
theorem negR_num (a : SR) : (negR a).num = -a.num := by cases a <;> rfl
theorem negR_den (a : SR) : (negR a).den = a.den := by cases a <;> rfl
theorem negR_WR {a : SR} (h : WR a) : WR (negR a) := by
  cases a with
  | small n d => obtain ⟨x1, x2, x3⟩ := h; exact ⟨by rw [Int.natAbs_neg]; exact x1, x2, x3⟩
  | lit n d => obtain ⟨x1, x2, x3⟩ := h; exact ⟨by rw [Int.natAbs_neg]; exact x1, x2, x3⟩
  | big p q => obtain ⟨x1, x2, x3⟩ := h; exact ⟨SZ_neg.2 x1, x2, x3⟩
def subR (a b : SR) : SR := addR a (negR b)
noncomputable def rSubC := ctD rrE (fun p => WR p.a ∧ WR p.b ∧ SZ (p.a.num * p.b.den) ∧ SZ (p.b.num * p.a.den) ∧ SZ (p.a.num * p.b.den - p.b.num * p.a.den) ∧ SZ (p.a.den * p.b.den)) (fun p => [eR (subR p.a p.b)])
theorem rSubC_at (a b : SR) : rSubC [eR a, eR b] = ((WR a ∧ WR b ∧ SZ (a.num * b.den) ∧ SZ (b.num * a.den) ∧ SZ (a.num * b.den - b.num * a.den) ∧ SZ (a.den * b.den)), [eR (subR a b)]) := ctD_at rrE_inj ⟨a, b⟩
/-! spec.l1rSign -/
noncomputable def rSignC := ctD rE (fun p => WR p.a) (fun p => [i64D p.a.num.sign])
theorem rSignC_at (a : SR) : rSignC [eR a] = (WR a, [i64D a.num.sign]) := ctD_at rE_inj ⟨a⟩
theorem l1rSign_spec : SpecD N Try.prog 15 rSignC := by
  refine rdD (mf := fun f => false) rTb_ok (fn := Try.f15) (by kernel_rfl) rfl (by kernel_rfl) ?_
  rintro ⟨a⟩ ha
  have ha : WR a := ha
  refine ⟨by show 1 ≤ 18; decide, ?_⟩
  simp only [rE, Try.f15]
  rcases a with ⟨n, d⟩ | ⟨n, d⟩ | ⟨n, d⟩
  case small | lit =>
    simp only [SR.num, eR_small, eR_lit, i64D]
    rcases Int.lt_trichotomy n 0 with h | h | h
    · rw [Int.sign_eq_neg_one_of_neg h]
      simp [h]
    · subst h
      simp
    · have h1 : ¬ n < 0 := by omega
      rw [Int.sign_eq_one_of_pos h]
      simp [h, h1]
  case big =>
    obtain ⟨x1, x2, x3⟩ := ha
    have c1 := zSignC_at n
    simp only [x1, i64D] at c1
    have e0 : ix [eZ n, eZ d] 0 = some (eZ n) := rfl
    simp [SR.num, eR_big, i64D, c1, e0]
theorem l1rSign_ok : callable Try.prog 15 = true := by kernel_rfl
end Go.Proofs.Ytlniifhdimaliaa.Ae

/-! spec: fractions of any size: quotients, comparisons, floors, and fractions of two words. No condition. -/
namespace Go.Proofs.Ytlniifhdimaliaa.Ae
open Go Go.RowKit Go.Proofs.Ytlniifhdimaliaa.Dig
variable {N : NR}

theorem num_small (n d : Int) : (SR.small n d).num = n := rfl
theorem num_lit (n d : Int) : (SR.lit n d).num = n := rfl
theorem num_big (n d : Int) : (SR.big n d).num = n := rfl
theorem den_small (n d : Int) : (SR.small n d).den = d := rfl
theorem den_lit (n d : Int) : (SR.lit n d).den = d := rfl
theorem den_big (n d : Int) : (SR.big n d).den = d := rfl
/-! spec.l1rDiv -/
def invR (n d : Int) : SR := if n < 0 then .lit (-d) (-n) else .lit d n
def divR (a : SR) : SR → SR
  | .small n d => mulR a (invR n d)
  | .lit n d => mulR a (invR n d)
  | .big p q => bigR (a.num * q) (a.den * p)
noncomputable def rDivC := ctD rrE (fun p => WR p.a ∧ WR p.b ∧ p.b.num ≠ 0 ∧ SZ (p.a.num * p.b.den) ∧ SZ (p.a.den * p.b.num)) (fun p => [eR (divR p.a p.b)])
theorem rDivC_at (a b : SR) : rDivC [eR a, eR b] = ((WR a ∧ WR b ∧ b.num ≠ 0 ∧ SZ (a.num * b.den) ∧ SZ (a.den * b.num)), [eR (divR a b)]) := ctD_at rrE_inj ⟨a, b⟩
noncomputable def divRTb : List (FuncId × Ct) := [(31, .data rMulC), (34, .data rzC), (36, .data zMulC), (38, .data bigC)]
theorem divRTb_ok : TbOK N Try.prog (tbl divRTb) := tbl_cons (c := .data rMulC) l1rMul_spec l1rMul_ok (tbl_cons (c := .data rzC) l1rZ_spec l1rZ_ok (tbl_cons (c := .data zMulC) l1ZMul_spec l1ZMul_ok (tbl_cons (c := .data bigC) l1rBig_spec l1rBig_ok tbl_nil)))

@[simp] theorem divRTb1 : tbl divRTb 31 = some (.data rMulC) := rfl
@[simp] theorem divRTb2 : tbl divRTb 34 = some (.data rzC) := rfl
@[simp] theorem divRTb3 : tbl divRTb 36 = some (.data zMulC) := rfl
@[simp] theorem divRTb4 : tbl divRTb 38 = some (.data bigC) := rfl
/-! spec.l1rCmp -/
noncomputable def rCmpC := ctD rrE (fun p => WR p.a ∧ WR p.b ∧ SZ (p.a.num * p.b.den) ∧ SZ (p.b.num * p.a.den) ∧ SZ (p.a.num * p.b.den - p.b.num * p.a.den)) (fun p => [i64D (p.a.num * p.b.den - p.b.num * p.a.den).sign])
theorem rCmpC_at (a b : SR) : rCmpC [eR a, eR b] = ((WR a ∧ WR b ∧ SZ (a.num * b.den) ∧ SZ (b.num * a.den) ∧ SZ (a.num * b.den - b.num * a.den)), [i64D (a.num * b.den - b.num * a.den).sign]) := ctD_at rrE_inj ⟨a, b⟩
theorem l1rCmp_spec : SpecD N Try.prog 27 rCmpC := by
  refine rdD (mf := fun f => false) rTb_ok (fn := Try.f27) (by kernel_rfl) rfl (by kernel_rfl) ?_
  rintro ⟨a, b⟩ ⟨ha, hb, h1, h2, h3⟩
  have ha : WR a := ha
  have hb : WR b := hb
  have h1 : SZ (a.num * b.den) := h1
  have h2 : SZ (b.num * a.den) := h2
  have h3 : SZ (a.num * b.den - b.num * a.den) := h3
  obtain ⟨sa1, sa2, sa3⟩ := WR_SZ ha
  obtain ⟨sb1, sb2, sb3⟩ := WR_SZ hb
  refine ⟨by show 2 ≤ 52; decide, ?_⟩
  simp only [rrE, Try.f27]
  have c1 := rzC_at a
  have c2 := rzC_at b
  have c3 := zMulC_at a.num b.den
  have c4 := zMulC_at b.num a.den
  have c5 := zCmpC_at (a.num * b.den) (b.num * a.den)
  simp only [ha, hb, h1, h2, h3, sa1, sa2, sb1, sb2, and_self] at c1 c2 c3 c4 c5
  rcases a with ⟨n, d⟩ | ⟨n, d⟩ | ⟨n, d⟩ <;> rcases b with ⟨n', d'⟩ | ⟨n', d'⟩ | ⟨n', d'⟩
  case small.small | small.lit | lit.small | lit.lit =>
    obtain ⟨x1, x2, x3⟩ := ha
    obtain ⟨y1, y2, y3⟩ := hb
    have b1 := prod_bd x1 ⟨y2, y3⟩
    have b2 := prod_bd y1 ⟨x2, x3⟩
    simp only [SR.num, SR.den, eR_small, eR_lit, eR_big, i64D]
    have w1 : IntKind.i64.wrap (n * d') = n * d' := i64_id _ (by omega) (by omega)
    have w2 : IntKind.i64.wrap (n' * d) = n' * d := i64_id _ (by omega) (by omega)
    rcases Int.lt_trichotomy (n * d') (n' * d) with h | h | h
    · have e : (n * d' - n' * d).sign = -1 := Int.sign_eq_neg_one_of_neg (by omega)
      rw [e]
      simp [w_0, w1, w2, h]
    · have e : (n * d' - n' * d).sign = 0 := by rw [h, Int.sub_self]; rfl
      rw [e]
      simp [w_0, w1, w2, h]
    · have e : (n * d' - n' * d).sign = 1 := Int.sign_eq_one_of_pos (by omega)
      have h' : ¬ n * d' < n' * d := by omega
      rw [e]
      simp [w_0, w1, w2, h, h']
  all_goals
    simp only [SR.num, SR.den, eR_small, eR_lit, eR_big, i64D] at c1 c2 c3 c4 c5 ⊢
    simp [w_2, w_4, c1, c2, c3, c4, c5]
theorem l1rCmp_ok : callable Try.prog 27 = true := by kernel_rfl

/-! spec.l1rWhole, l1q -/
noncomputable def rWholeC := ctD zE (fun p => SZ p.a) (fun p => [eR (packR p.a 1)])
theorem rWholeC_at (a : Int) : rWholeC [eZ a] = (SZ a, [eR (packR a 1)]) := ctD_at zE_inj ⟨a⟩
/-- A fraction of two words. -/
def eQ (n d : Int) : D := .agg [i64D n, i64D d]
def qE (p : Z2) : List D := [eQ p.a p.b]
theorem qE_inj (p q : Z2) (h : qE p = qE q) : p = q := by
  obtain ⟨a, b⟩ := p; obtain ⟨c, d⟩ := q
  simp only [qE, eQ, List.cons.injEq, and_true, D.agg.injEq] at h
  rw [i64D_inj h.1, i64D_inj h.2]
noncomputable def l1qC := ctD qE (fun p => I64 p.a ∧ I64 p.b ∧ 0 < p.b) (fun p => [eR (ofR p.a p.b)])
theorem l1qC_at (a b : Int) : l1qC [eQ a b] = ((I64 a ∧ I64 b ∧ 0 < b), [eR (ofR a b)]) := ctD_at qE_inj ⟨a, b⟩
end Go.Proofs.Ytlniifhdimaliaa.Ae

/-! spec: fractions of any size: floors, and back to fractions of two words. No condition. -/
namespace Go.Proofs.Ytlniifhdimaliaa.Ae
open Go Go.RowKit Go.Proofs.Ytlniifhdimaliaa.Dig
variable {N : NR}

/-! spec.l1rFloor -/
noncomputable def rFloorC := ctD rE (fun p => WR p.a) (fun p => [eZ (p.a.num / p.a.den)])
theorem rFloorC_at (a : SR) : rFloorC [eR a] = (WR a, [eZ (a.num / a.den)]) := ctD_at rE_inj ⟨a⟩
noncomputable def flTb : List (FuncId × Ct) := [(51, .data addC), (34, .data rzC), (50, .data divC)]
theorem flTb_ok : TbOK N Try.prog (tbl flTb) := tbl_cons (c := .data addC) l1MagAdd_spec l1MagAdd_ok (tbl_cons (c := .data rzC) l1rZ_spec l1rZ_ok (tbl_cons (c := .data divC) l1MagDiv_spec l1MagDiv_ok tbl_nil))

@[simp] theorem flTb1 : tbl flTb 51 = some (.data addC) := rfl
@[simp] theorem flTb2 : tbl flTb 34 = some (.data rzC) := rfl
@[simp] theorem flTb3 : tbl flTb 50 = some (.data divC) := rfl
/-- A whole quotient below a negative one. -/
theorem floor_neg {n d : Int} (hn : n < 0) (hd : 0 < d) : n / d = -((n.natAbs / d.natAbs + (if n.natAbs % d.natAbs = 0 then 0 else 1) : Nat) : Int) := by
  obtain ⟨m, rfl⟩ : ∃ m : Nat, n = -(m : Int) := ⟨n.natAbs, by omega⟩
  obtain ⟨e, rfl⟩ : ∃ e : Nat, d = (e : Int) := ⟨d.natAbs, by omega⟩
  have he : 0 < e := by omega
  rw [Int.natAbs_neg, Int.natAbs_natCast, Int.natAbs_natCast]
  have h1 := Nat.div_add_mod m e
  have h2 := Nat.mod_lt m he
  obtain ⟨q, hq⟩ : ∃ q, q = m / e := ⟨_, rfl⟩
  obtain ⟨r, hr⟩ : ∃ r, r = m % e := ⟨_, rfl⟩
  rw [← hq, ← hr] at h1
  rw [← hr] at h2
  rw [← hq, ← hr]
  by_cases h0 : r = 0
  · rw [if_pos h0, Nat.add_zero]
    have : -(m : Int) = (e : Int) * -(q : Int) := by rw [Int.mul_neg]; have : (m : Int) = (e : Int) * q := by rw [← Int.natCast_mul]; omega
                                                     omega
    rw [this, Int.mul_ediv_cancel_left _ (by omega)]
  · rw [if_neg h0]
    have h3 : (m : Int) = (e : Int) * q + r := by rw [← Int.natCast_mul]; omega
    have h4 : -(m : Int) = ((e : Int) - r) + (e : Int) * (-((q : Int) + 1)) := by rw [Int.mul_neg, Int.mul_add, Int.mul_one]; omega
    rw [h4, Int.add_mul_ediv_left _ _ (by omega : (e : Int) ≠ 0), Int.ediv_eq_zero_of_lt (by omega) (by omega)]
    omega
/-! spec.l1rQ -/
def qOfR (r : SR) : Int × Int × Bool := match r with
  | .big p q => if p.natAbs ≤ 1000000000000000000 ∧ q.natAbs ≤ 1000000000000000000 then (p, q, true) else (0, 0, false)
  | r => (r.num / (Int.gcd r.num r.den : Int), r.den / (Int.gcd r.num r.den : Int), true)
noncomputable def rQC := ctD rE (fun p => WR p.a) (fun p => [eQ (qOfR p.a).1 (qOfR p.a).2.1, .lit (.bool (qOfR p.a).2.2)])
theorem rQC_at (a : SR) : rQC [eR a] = (WR a, [eQ (qOfR a).1 (qOfR a).2.1, .lit (.bool (qOfR a).2.2)]) := ctD_at rE_inj ⟨a⟩
noncomputable def rQTb : List (FuncId × Ct) := [(46, .data absC), (45, .data gcdC), (34, .data rzC), (55, .data zIntC)]
theorem rQTb_ok : TbOK N Try.prog (tbl rQTb) := tbl_cons (c := .data absC) l1Abs_spec l1Abs_ok (tbl_cons (c := .data gcdC) l1Gcd_spec l1Gcd_ok (tbl_cons (c := .data rzC) l1rZ_spec l1rZ_ok (tbl_cons (c := .data zIntC) l1ZInt_spec l1ZInt_ok tbl_nil)))

@[simp] theorem rQTb1 : tbl rQTb 46 = some (.data absC) := rfl
@[simp] theorem rQTb2 : tbl rQTb 45 = some (.data gcdC) := rfl
@[simp] theorem rQTb3 : tbl rQTb 34 = some (.data rzC) := rfl
@[simp] theorem rQTb4 : tbl rQTb 55 = some (.data zIntC) := rfl
theorem tdiv_dvd {n : Int} {g : Nat} (hg : 0 < g) (h : (g : Int) ∣ n) : Int.tdiv n g = n / g := by
  obtain ⟨k, rfl⟩ := h
  rw [Int.mul_tdiv_cancel_left _ (by omega), Int.mul_ediv_cancel_left _ (by omega)]
end Go.Proofs.Ytlniifhdimaliaa.Ae

/-! impl.bigInt: put, SetInt64, newBigInt. No condition. -/
namespace Go.Proofs.Ytlniifhdimaliaa.Ae
open Go Go.RowKit Go.Proofs.Ytlniifhdimaliaa.Dig
variable {N : NR}

/-- What lies in a bigInt: a number, or what new makes. -/
inductive BC where
  | z (v : Int)
  | new
def eB : BC → D
  | .z v => eZ v
  | .new => .agg [.lit (.bool false), .lit (.slice none 0 0)]
theorem eB_inj : ∀ {a b : BC}, eB a = eB b → a = b
  | .z v, .z w, h => by rw [eZ_inj h]
  | .z v, .new, h => by simp [eB, eZ, eM, eW] at h
  | .new, .z w, h => by simp [eB, eZ, eM, eW] at h
  | .new, .new, _ => rfl

structure PutA where
  neg : Bool
  m : Nat
  c : BC
def putE (p : PutA) : List Ar × List D := ([.ref 0, .dat (.lit (.bool p.neg)), .dat (eM p.m)], [eB p.c])
theorem putE_inj (p q : PutA) (h : putE p = putE q) : p = q := by
  obtain ⟨a, b, c⟩ := p; obtain ⟨a', b', c'⟩ := q
  simp only [putE, Prod.mk.injEq, List.cons.injEq, and_true, true_and, Ar.dat.injEq, D.lit.injEq, Value.bool.injEq] at h
  rw [h.1.1, eM_inj h.1.2, eB_inj h.2]
def sg (neg : Bool) (m : Nat) : Int := if neg = true then -(m : Int) else m
noncomputable def putC := ctM putE (fun _ => True) (fun p => ([.ref 0], [eZ (sg p.neg p.m)]))
theorem putC_at (neg : Bool) (m : Nat) (c : BC) : putC [.ref 0, .dat (.lit (.bool neg)), .dat (eM m)] [eB c] = (True, [.ref 0], [eZ (sg neg m)]) := ctM_at putE_inj ⟨neg, m, c⟩
theorem putC_z (neg : Bool) (m : Nat) (v : Int) : putC [.ref 0, .dat (.lit (.bool neg)), .dat (.sl 1 ((mag m).map dg))] [.agg [.lit (.bool (decide (v < 0))), .sl 1 ((mag v.natAbs).map dg)]] = (True, [.ref 0], [eZ (sg neg m)]) := putC_at neg m (.z v)
theorem putC_n (neg : Bool) (m : Nat) : putC [.ref 0, .dat (.lit (.bool neg)), .dat (.sl 1 ((mag m).map dg))] [.agg [.lit (.bool false), .lit (.slice none 0 0)]] = (True, [.ref 0], [eZ (sg neg m)]) := putC_at neg m .new
def ptM : List Bool := [true, false, false]

/-! SetInt64 -/
structure SetA where
  n : Int
  c : BC
def setE (p : SetA) : List Ar × List D := ([.ref 0, .dat (i64D p.n)], [eB p.c])
theorem setE_inj (p q : SetA) (h : setE p = setE q) : p = q := by
  obtain ⟨a, b⟩ := p; obtain ⟨a', b'⟩ := q
  simp only [setE, Prod.mk.injEq, List.cons.injEq, and_true, true_and, Ar.dat.injEq] at h
  rw [i64D_inj h.1, eB_inj h.2]
noncomputable def setC := ctM setE (fun p => I64 p.n) (fun p => ([.ref 0], [eZ p.n]))
theorem setC_at (n : Int) (c : BC) : setC [.ref 0, .dat (i64D n)] [eB c] = (I64 n, [.ref 0], [eZ n]) := ctM_at setE_inj ⟨n, c⟩
end Go.Proofs.Ytlniifhdimaliaa.Ae

/-! impl.bigInt: SetInt64, newBigInt, Set, Neg, Abs. No condition. -/
namespace Go.Proofs.Ytlniifhdimaliaa.Ae
open Go Go.RowKit Go.Proofs.Ytlniifhdimaliaa.Dig
variable {N : NR}

def pMf : FuncId → Bool := fun f => f == 99999999 || f == 99999999
attribute [simp] pMf ptM
theorem setC_n (n : Int) : setC [.ref 0, .dat (.lit (.int .i64 n))] [.agg [.lit (.bool false), .lit (.slice none 0 0)]] = (I64 n, [.ref 0], [eZ n]) := setC_at n .new

/-! newBigInt -/
noncomputable def newC := ctD z1E (fun p => I64 p.a) (fun p => [.ptr (eZ p.a)])
theorem newC_at (a : Int) : newC [i64D a] = (I64 a, [.ptr (eZ a)]) := ctD_at z1E_inj ⟨a⟩
/-! Set, Neg, Abs -/
structure UnA where
  x : Int
  c : BC
def unE (p : UnA) : List Ar × List D := ([.ref 0, .dat (.ptr (eZ p.x))], [eB p.c])
theorem unE_inj (p q : UnA) (h : unE p = unE q) : p = q := by
  obtain ⟨a, b⟩ := p; obtain ⟨a', b'⟩ := q
  simp only [unE, Prod.mk.injEq, List.cons.injEq, and_true, true_and, Ar.dat.injEq, D.ptr.injEq] at h
  rw [eZ_inj h.1, eB_inj h.2]
noncomputable def copyC := ctM unE (fun p => SZ p.x) (fun p => ([.ref 0], [eZ p.x]))
noncomputable def negC := ctM unE (fun p => SZ p.x) (fun p => ([.ref 0], [eZ (-p.x)]))
noncomputable def absIC := ctM unE (fun p => SZ p.x) (fun p => ([.ref 0], [eZ p.x.natAbs]))
theorem sg_self (x : Int) : sg (decide (x < 0)) x.natAbs = x := by
  unfold sg
  by_cases h : x < 0
  · simp [h]; omega
  · simp [h]; omega
end Go.Proofs.Ytlniifhdimaliaa.Ae

/-! impl: abs64, gcd64. No condition. -/
namespace Go.Proofs.Ytlniifhdimaliaa.Ae
open Go Go.RowKit Go.Proofs.Ytlniifhdimaliaa.Dig
variable {N : NR}

end Go.Proofs.Ytlniifhdimaliaa.Ae

/-! impl.bigInt: Add. No condition. -/
namespace Go.Proofs.Ytlniifhdimaliaa.Ae
open Go Go.RowKit Go.Proofs.Ytlniifhdimaliaa.Dig
variable {N : NR}

inductive BinA where
  | dd (x y : Int) (c : BC)
  | zd (x y : Int)
def BinA.x : BinA → Int
  | dd x _ _ => x
  | zd x _ => x
def BinA.y : BinA → Int
  | dd _ y _ => y
  | zd _ y => y
def binE : BinA → List Ar × List D
  | .dd x y c => ([.ref 0, .dat (.ptr (eZ x)), .dat (.ptr (eZ y))], [eB c])
  | .zd x y => ([.ref 0, .ref 0, .dat (.ptr (eZ y))], [eZ x])
theorem binE_inj : ∀ (p q : BinA), binE p = binE q → p = q
  | .dd a b c, .dd a' b' c', h => by
    simp only [binE, Prod.mk.injEq, List.cons.injEq, and_true, true_and, Ar.dat.injEq, D.ptr.injEq] at h
    rw [eZ_inj h.1.1, eZ_inj h.1.2, eB_inj h.2]
  | .zd a b, .zd a' b', h => by
    simp only [binE, Prod.mk.injEq, List.cons.injEq, and_true, true_and, Ar.dat.injEq, D.ptr.injEq] at h
    rw [eZ_inj h.1, eZ_inj h.2]
  | .dd .., .zd .., h => by simp [binE] at h
  | .zd .., .dd .., h => by simp [binE] at h
noncomputable def iAddC := ctM binE (fun p => SZ p.x ∧ SZ p.y) (fun p => ([.ref 0], [eZ (p.x + p.y)]))
end Go.Proofs.Ytlniifhdimaliaa.Ae

/-! impl.bigInt: Mul, QuoRem, Sign, Cmp. No condition. -/
namespace Go.Proofs.Ytlniifhdimaliaa.Ae
open Go Go.RowKit Go.Proofs.Ytlniifhdimaliaa.Dig
variable {N : NR}

noncomputable def iMulC := ctM binE (fun p => SZ p.x ∧ SZ p.y) (fun p => ([.ref 0], [eZ (p.x * p.y)]))
theorem sg_mul (a b : Int) : sg (decide (a < 0) != decide (b < 0)) (a.natAbs * b.natAbs) = a * b := by
  rw [← Int.natAbs_mul]
  by_cases h0 : a * b = 0
  · rw [h0]; unfold sg; split <;> rfl
  · have ha0 : a ≠ 0 := fun h => h0 (by rw [h, Int.zero_mul])
    have hb0 : b ≠ 0 := fun h => h0 (by rw [h, Int.mul_zero])
    have h1 := mul_neg_iff ha0 hb0
    unfold sg
    by_cases ha : a < 0 <;> by_cases hb : b < 0 <;> simp [ha, hb] at h1 <;> simp [ha, hb] <;> omega
/-! QuoRem -/
structure QrA where
  x : Int
  y : Int
  c : BC
  d : BC
def qrE (p : QrA) : List Ar × List D := ([.ref 0, .dat (.ptr (eZ p.x)), .dat (.ptr (eZ p.y)), .ref 1], [eB p.c, eB p.d])
theorem qrE_inj (p q : QrA) (h : qrE p = qrE q) : p = q := by
  obtain ⟨a, b, c, d⟩ := p; obtain ⟨a', b', c', d'⟩ := q
  simp only [qrE, Prod.mk.injEq, List.cons.injEq, and_true, true_and, Ar.dat.injEq, D.ptr.injEq] at h
  rw [eZ_inj h.1.1, eZ_inj h.1.2, eB_inj h.2.1, eB_inj h.2.2]
noncomputable def qrC := ctM qrE (fun p => SZ p.x ∧ SZ p.y ∧ p.y ≠ 0) (fun p => ([.ref 0, .ref 1], [eZ (Int.tdiv p.x p.y), eZ (Int.tmod p.x p.y)]))
theorem qrC_at (x y : Int) (c d : BC) : qrC [.ref 0, .dat (.ptr (eZ x)), .dat (.ptr (eZ y)), .ref 1] [eB c, eB d] = ((SZ x ∧ SZ y ∧ y ≠ 0), [.ref 0, .ref 1], [eZ (Int.tdiv x y), eZ (Int.tmod x y)]) := ctM_at qrE_inj ⟨x, y, c, d⟩
theorem sg_div (a b : Int) : sg (decide (a < 0) != decide (b < 0)) (a.natAbs / b.natAbs) = Int.tdiv a b := by
  by_cases ha : a < 0
  · obtain ⟨m, rfl⟩ : ∃ m : Nat, a = -(m : Int) := ⟨a.natAbs, by omega⟩
    by_cases hb : b < 0
    · obtain ⟨k, rfl⟩ : ∃ k : Nat, b = -(k : Int) := ⟨b.natAbs, by omega⟩
      rw [Int.neg_tdiv, Int.tdiv_neg, tdiv_nat, Int.natAbs_neg, Int.natAbs_neg, Int.natAbs_natCast, Int.natAbs_natCast, decide_eq_true ha, decide_eq_true hb]
      simp [sg]
    · obtain ⟨k, rfl⟩ : ∃ k : Nat, b = (k : Int) := ⟨b.natAbs, by omega⟩
      rw [Int.neg_tdiv, tdiv_nat, Int.natAbs_neg, Int.natAbs_natCast, Int.natAbs_natCast, decide_eq_true ha, decide_eq_false hb]
      simp [sg]
  · obtain ⟨m, rfl⟩ : ∃ m : Nat, a = (m : Int) := ⟨a.natAbs, by omega⟩
    by_cases hb : b < 0
    · obtain ⟨k, rfl⟩ : ∃ k : Nat, b = -(k : Int) := ⟨b.natAbs, by omega⟩
      rw [Int.tdiv_neg, tdiv_nat, Int.natAbs_neg, Int.natAbs_natCast, Int.natAbs_natCast, decide_eq_false ha, decide_eq_true hb]
      simp [sg]
    · obtain ⟨k, rfl⟩ : ∃ k : Nat, b = (k : Int) := ⟨b.natAbs, by omega⟩
      rw [tdiv_nat, Int.natAbs_natCast, Int.natAbs_natCast, decide_eq_false ha, decide_eq_false hb]
      simp [sg]
theorem sg_mod (a b : Int) : sg (decide (a < 0)) (a.natAbs % b.natAbs) = Int.tmod a b := by
  have hb : Int.tmod a b = Int.tmod a (b.natAbs : Int) := by
    by_cases hb : b < 0
    · obtain ⟨k, rfl⟩ : ∃ k : Nat, b = -(k : Int) := ⟨b.natAbs, by omega⟩
      rw [Int.tmod_neg, Int.natAbs_neg, Int.natAbs_natCast]
    · have : (b.natAbs : Int) = b := by omega
      rw [this]
  rw [hb]
  by_cases ha : a < 0
  · obtain ⟨m, rfl⟩ : ∃ m : Nat, a = -(m : Int) := ⟨a.natAbs, by omega⟩
    rw [Int.neg_tmod, tmod_nat, Int.natAbs_neg, Int.natAbs_natCast, decide_eq_true ha]
    simp [sg]
  · obtain ⟨m, rfl⟩ : ∃ m : Nat, a = (m : Int) := ⟨a.natAbs, by omega⟩
    rw [tmod_nat, Int.natAbs_natCast, decide_eq_false ha]
    simp [sg]
end Go.Proofs.Ytlniifhdimaliaa.Ae

/-! impl.bigInt: Sign, Cmp. No condition. -/
namespace Go.Proofs.Ytlniifhdimaliaa.Ae
open Go Go.RowKit Go.Proofs.Ytlniifhdimaliaa.Dig
variable {N : NR}

inductive SgA where
  | d (x : Int)
  | r (x : Int)
def SgA.x : SgA → Int
  | d x => x
  | r x => x
def sgE : SgA → List Ar × List D
  | .d x => ([.dat (.ptr (eZ x))], [])
  | .r x => ([.ref 0], [eZ x])
def SgA.back : SgA → List D
  | .d _ => []
  | .r x => [eZ x]
theorem sgE_inj : ∀ (p q : SgA), sgE p = sgE q → p = q
  | .d a, .d b, h => by
    simp only [sgE, Prod.mk.injEq, List.cons.injEq, and_true, Ar.dat.injEq, D.ptr.injEq] at h
    rw [eZ_inj h]
  | .r a, .r b, h => by
    simp only [sgE, Prod.mk.injEq, List.cons.injEq, and_true, true_and] at h
    rw [eZ_inj h]
  | .d _, .r _, h => by simp [sgE] at h
  | .r _, .d _, h => by simp [sgE] at h
noncomputable def iSignC := ctM sgE (fun _ => True) (fun p => ([.dat (i64D p.x.sign)], p.back))
theorem iSignC_d (x : Int) : iSignC [.dat (.ptr (eZ x))] [] = (True, [.dat (i64D x.sign)], []) := ctM_at sgE_inj (.d x)
theorem iSignC_r (x : Int) : iSignC [.ref 0] [eZ x] = (True, [.dat (i64D x.sign)], [eZ x]) := ctM_at sgE_inj (.r x)
/-! Cmp -/
def ppE (p : Z2) : List D := [.ptr (eZ p.a), .ptr (eZ p.b)]
theorem ppE_inj (p q : Z2) (h : ppE p = ppE q) : p = q := by
  obtain ⟨a, b⟩ := p; obtain ⟨c, d⟩ := q
  simp only [ppE, List.cons.injEq, and_true, D.ptr.injEq] at h
  rw [eZ_inj h.1, eZ_inj h.2]
noncomputable def iCmpC := ctD ppE (fun p => SZ p.a ∧ SZ p.b) (fun p => [i64D (p.a - p.b).sign])
theorem iCmpC_at (a b : Int) : iCmpC [.ptr (eZ a), .ptr (eZ b)] = ((SZ a ∧ SZ b), [i64D (a - b).sign]) := ctD_at ppE_inj ⟨a, b⟩
theorem cmpV_bd {a b : Nat} (ha : Sm a) (hb : Sm b) : -1099511627776 < cmpV a b ∧ cmpV a b < 1099511627776 := by
  unfold Sm at ha hb
  unfold cmpV
  split
  · repeat' split
    all_goals omega
  · omega
theorem clampS (v : Int) : (if (if 1 < v then 1 else v) < -1 then -1 else if 1 < v then 1 else v) = v.sign := by
  rcases Int.lt_trichotomy v 0 with h | h | h
  · have h1 : ¬ 1 < v := by omega
    rw [Int.sign_eq_neg_one_of_neg h, if_neg h1]
    split <;> omega
  · subst h; rfl
  · rw [Int.sign_eq_one_of_pos h]
    by_cases h1 : 1 < v
    · rw [if_pos h1]; rfl
    · rw [if_neg h1, if_neg (by omega)]; omega
theorem sign_bd (a : Int) : -1 ≤ a.sign ∧ a.sign ≤ 1 := by
  rcases Int.lt_trichotomy a 0 with h | h | h
  · rw [Int.sign_eq_neg_one_of_neg h]; omega
  · subst h; decide
  · rw [Int.sign_eq_one_of_pos h]; omega
end Go.Proofs.Ytlniifhdimaliaa.Ae

/-! impl.bigInt: Abs, Uint64. No condition. -/
namespace Go.Proofs.Ytlniifhdimaliaa.Ae
open Go Go.RowKit Go.Proofs.Ytlniifhdimaliaa.Dig
variable {N : NR}

/-! Uint64 -/
def pE (p : Z1) : List D := [.ptr (eZ p.a)]
theorem pE_inj (p q : Z1) (h : pE p = pE q) : p = q := by
  obtain ⟨a⟩ := p; obtain ⟨c⟩ := q
  simp only [pE, List.cons.injEq, and_true, D.ptr.injEq] at h
  rw [eZ_inj h]
noncomputable def u64C := ctD pE (fun p => SZ p.a) (fun p => [u64D (p.a.natAbs % 18446744073709551616)])
theorem u64C_at (a : Int) : u64C [.ptr (eZ a)] = (SZ a, [u64D (a.natAbs % 18446744073709551616)]) := ctD_at pE_inj ⟨a⟩
def u64S (xs : List Nat) (o i : Nat) : St := ⟨[.any, .any, .any, .dat (.lit (.int .u64 o)), .any, .any, .any, .any, .any, .any, .any, .any, .any, .any, .any, .any, .dat (.sl 1 (xs.map dg)), .dat (.lit (.int .i64 xs.length)), .dat (.lit (.int .i64 i)), .any, .any, .any, .any, .any, .any, .any, .any, .any, .any, .any, .any, .any], [none, none, none, none, none, none, none, none, none, none, none, none, none, none, none, none, none, none, none, none, none, none, none, none, none, none, none, none, none, none, none, none]⟩
end Go.Proofs.Ytlniifhdimaliaa.Ae

/-! impl.bigInt: Set, Neg. No condition. -/
namespace Go.Proofs.Ytlniifhdimaliaa.Ae
open Go Go.RowKit Go.Proofs.Ytlniifhdimaliaa.Dig
variable {N : NR}

theorem copyC_at (x : Int) (c : BC) : copyC [.ref 0, .dat (.ptr (eZ x))] [eB c] = (SZ x, [.ref 0], [eZ x]) := ctM_at unE_inj ⟨x, c⟩
theorem copyC_n (x : Int) : copyC [.ref 0, .dat (.ptr (eZ x))] [.agg [.lit (.bool false), .lit (.slice none 0 0)]] = (SZ x, [.ref 0], [eZ x]) := copyC_at x .new

/-! Neg: z may be x -/
inductive NgA where
  | d (x : Int) (c : BC)
  | r (x : Int)
def NgA.x : NgA → Int
  | d x _ => x
  | r x => x
def ngE : NgA → List Ar × List D
  | .d x c => ([.ref 0, .dat (.ptr (eZ x))], [eB c])
  | .r x => ([.ref 0, .ref 0], [eZ x])
theorem ngE_inj : ∀ (p q : NgA), ngE p = ngE q → p = q
  | .d a c, .d b c', h => by
    simp only [ngE, Prod.mk.injEq, List.cons.injEq, and_true, true_and, Ar.dat.injEq, D.ptr.injEq] at h
    rw [eZ_inj h.1, eB_inj h.2]
  | .r a, .r b, h => by
    simp only [ngE, Prod.mk.injEq, List.cons.injEq, and_true, true_and] at h
    rw [eZ_inj h]
  | .d _ _, .r _, h => by simp [ngE] at h
  | .r _, .d _ _, h => by simp [ngE] at h
noncomputable def ngC := ctM ngE (fun p => SZ p.x) (fun p => ([.ref 0], [eZ (-p.x)]))
theorem ngC_d (x : Int) (c : BC) : ngC [.ref 0, .dat (.ptr (eZ x))] [eB c] = (SZ x, [.ref 0], [eZ (-x)]) := ctM_at ngE_inj (.d x c)
theorem ngC_n (x : Int) : ngC [.ref 0, .dat (.ptr (eZ x))] [.agg [.lit (.bool false), .lit (.slice none 0 0)]] = (SZ x, [.ref 0], [eZ (-x)]) := ngC_d x .new
theorem ngC_r (x : Int) : ngC [.ref 0, .ref 0] [eZ x] = (SZ x, [.ref 0], [eZ (-x)]) := ctM_at ngE_inj (.r x)
theorem sg_neg (x : Int) : sg (!decide (x < 0)) x.natAbs = -x := by
  unfold sg
  by_cases h : x < 0
  · simp [h]; omega
  · simp [h]; omega
end Go.Proofs.Ytlniifhdimaliaa.Ae

/-! impl.bigInt: Uint64, Int64, IsInt64. No condition. -/
namespace Go.Proofs.Ytlniifhdimaliaa.Ae
open Go Go.RowKit Go.Proofs.Ytlniifhdimaliaa.Dig
variable {N : NR}

theorem lsub_dg (l : List Nat) (k : Nat) : lsub (l.map dg) 0 k = (l.take k).map dg := by
  unfold lsub
  rw [List.drop_zero, List.map_take]
theorem val_take2 (m : Nat) : val ((mag m).take 2) = m % 18446744073709551616 := by
  rcases Nat.lt_or_ge (mag m).length 2 with h | h
  · rw [List.take_of_length_le (by omega), val_mag]
    have := mag_lt.1 (by omega : (mag m).length ≤ 2)
    simp only [B] at this
    omega
  · have h1 := val_take_drop (mag m) 2 h
    rw [val_mag] at h1
    have h2 := val_lt ((mag_digs m).take 2)
    rw [List.length_take, Nat.min_eq_left h] at h2
    simp only [B] at h1 h2
    omega
end Go.Proofs.Ytlniifhdimaliaa.Ae

/-! impl.bigInt: Int64, IsInt64, Sub, Quo. No condition. -/
namespace Go.Proofs.Ytlniifhdimaliaa.Ae
open Go Go.RowKit Go.Proofs.Ytlniifhdimaliaa.Dig
variable {N : NR}

/-- Sign, where the number is only read. -/
noncomputable def sgDC := ctD pE (fun _ => True) (fun p => [i64D p.a.sign])
theorem sgDC_at (a : Int) : sgDC [.ptr (eZ a)] = (True, [i64D a.sign]) := ctD_at pE_inj ⟨a⟩
instance (a : Int) : Decidable (I64 a) := by unfold I64; infer_instance
@[simp] theorem eZ_lit (z : Int) : (eZ z).isLit = false := rfl
theorem SZ_I64 {a : Int} (h : I64 a) : SZ a := by
  unfold I64 at h
  exact Sm_small (by omega)
noncomputable def int64C := ctD pE (fun p => I64 p.a) (fun p => [i64D p.a])
theorem int64C_at (a : Int) : int64C [.ptr (eZ a)] = (I64 a, [i64D a]) := ctD_at pE_inj ⟨a⟩
noncomputable def isI64C := ctD pE (fun p => SZ p.a) (fun p => [.lit (.bool (decide (I64 p.a)))])
theorem isI64C_at (a : Int) : isI64C [.ptr (eZ a)] = (SZ a, [.lit (.bool (decide (I64 a)))]) := ctD_at pE_inj ⟨a⟩
end Go.Proofs.Ytlniifhdimaliaa.Ae

/-! impl.bigInt: Sub, Quo, DivMod, Div. No condition. -/
namespace Go.Proofs.Ytlniifhdimaliaa.Ae
open Go Go.RowKit Go.Proofs.Ytlniifhdimaliaa.Dig
variable {N : NR}

/-- What new makes. -/
theorem eB_new : eB .new = .agg [.lit (.bool false), .lit (.slice none 0 0)] := rfl
theorem eB_z (v : Int) : eB (.z v) = eZ v := rfl
@[simp] theorem eB_size (c : BC) : (eB c).size = 2 := by cases c <;> rfl
@[simp] theorem eB_agg (c : BC) : (eB c).isAgg = true := by cases c <;> rfl
@[simp] theorem eB_islit (c : BC) : (eB c).isLit = false := by cases c <;> rfl
theorem iAddC_dd (x y : Int) (c : BC) : iAddC [.ref 0, .dat (.ptr (eZ x)), .dat (.ptr (eZ y))] [eB c] = ((SZ x ∧ SZ y), [.ref 0], [eZ (x + y)]) := ctM_at binE_inj (.dd x y c)
theorem iAddC_zd (x y : Int) : iAddC [.ref 0, .ref 0, .dat (.ptr (eZ y))] [eZ x] = ((SZ x ∧ SZ y), [.ref 0], [eZ (x + y)]) := ctM_at binE_inj (.zd x y)
theorem iMulC_dd (x y : Int) (c : BC) : iMulC [.ref 0, .dat (.ptr (eZ x)), .dat (.ptr (eZ y))] [eB c] = ((SZ x ∧ SZ y), [.ref 0], [eZ (x * y)]) := ctM_at binE_inj (.dd x y c)
theorem iMulC_zd (x y : Int) : iMulC [.ref 0, .ref 0, .dat (.ptr (eZ y))] [eZ x] = ((SZ x ∧ SZ y), [.ref 0], [eZ (x * y)]) := ctM_at binE_inj (.zd x y)
noncomputable def iSubC := ctM binE (fun p => SZ p.x ∧ SZ p.y) (fun p => ([.ref 0], [eZ (p.x - p.y)]))
theorem iSubC_dd (x y : Int) (c : BC) : iSubC [.ref 0, .dat (.ptr (eZ x)), .dat (.ptr (eZ y))] [eB c] = ((SZ x ∧ SZ y), [.ref 0], [eZ (x - y)]) := ctM_at binE_inj (.dd x y c)
theorem iSubC_zd (x y : Int) : iSubC [.ref 0, .ref 0, .dat (.ptr (eZ y))] [eZ x] = ((SZ x ∧ SZ y), [.ref 0], [eZ (x - y)]) := ctM_at binE_inj (.zd x y)
/-! Quo -/
inductive QuA where
  | dd (x y : Int) (c : BC)
def QuA.x : QuA → Int
  | dd x _ _ => x
def QuA.y : QuA → Int
  | dd _ y _ => y
def quE : QuA → List Ar × List D
  | .dd x y c => ([.ref 0, .dat (.ptr (eZ x)), .dat (.ptr (eZ y))], [eB c])
theorem quE_inj : ∀ (p q : QuA), quE p = quE q → p = q
  | .dd a b c, .dd a' b' c', h => by
    simp only [quE, Prod.mk.injEq, List.cons.injEq, and_true, true_and, Ar.dat.injEq, D.ptr.injEq] at h
    rw [eZ_inj h.1.1, eZ_inj h.1.2, eB_inj h.2]
noncomputable def quC := ctM quE (fun p => SZ p.x ∧ SZ p.y ∧ p.y ≠ 0) (fun p => ([.ref 0], [eZ (Int.tdiv p.x p.y)]))
theorem quC_at (x y : Int) (c : BC) : quC [.ref 0, .dat (.ptr (eZ x)), .dat (.ptr (eZ y))] [eB c] = ((SZ x ∧ SZ y ∧ y ≠ 0), [.ref 0], [eZ (Int.tdiv x y)]) := ctM_at quE_inj (.dd x y c)
/-! DivMod, Div -/
noncomputable def dmC := ctM qrE (fun p => SZ p.x ∧ SZ p.y ∧ p.y ≠ 0) (fun p => ([.ref 0, .ref 1], [eZ (p.x / p.y), eZ (p.x % p.y)]))
theorem dmC_at (x y : Int) (c d : BC) : dmC [.ref 0, .dat (.ptr (eZ x)), .dat (.ptr (eZ y)), .ref 1] [eB c, eB d] = ((SZ x ∧ SZ y ∧ y ≠ 0), [.ref 0, .ref 1], [eZ (x / y), eZ (x % y)]) := ctM_at qrE_inj ⟨x, y, c, d⟩
theorem absIC_at (x : Int) (c : BC) : absIC [.ref 0, .dat (.ptr (eZ x))] [eB c] = (SZ x, [.ref 0], [eZ x.natAbs]) := ctM_at unE_inj ⟨x, c⟩
theorem SZ_tdiv {x y : Int} (h : SZ x) : SZ (Int.tdiv x y) := Sm_le (by rw [Int.natAbs_tdiv]; exact Nat.div_le_self _ _) h
theorem SZ_tmod {x y : Int} (h : SZ x) : SZ (Int.tmod x y) := Sm_le (by rw [Int.natAbs_tmod]; exact Nat.mod_le _ _) h
theorem SZ_abs {x : Int} (h : SZ x) : SZ (x.natAbs : Int) := by unfold SZ; rw [Int.natAbs_natCast]; exact h
theorem div_of_neg {x y : Int} (h0 : y ≠ 0) (h : Int.tmod x y < 0) : x / y = Int.tdiv x y - y.sign ∧ x % y = Int.tmod x y + y.natAbs := by
  have h1 : x < 0 := by
    rcases Int.lt_or_le x 0 with h' | h'
    · exact h'
    · exact absurd (Int.tmod_nonneg y h') (by omega)
  have h2 := Int.tdiv_eq_ediv (a := x) (b := y)
  have h3 := Int.tmod_eq_emod (a := x) (b := y)
  have h4 : ¬ (0 ≤ x ∨ y ∣ x) := by
    rintro (h' | h')
    · omega
    · rw [Int.tmod_eq_zero_of_dvd h'] at h; omega
  rw [if_neg h4] at h2 h3
  constructor <;> omega
theorem div_of_nn {x y : Int} (h : 0 ≤ Int.tmod x y) (h0 : y ≠ 0) : x / y = Int.tdiv x y ∧ x % y = Int.tmod x y := by
  have h2 := Int.tdiv_eq_ediv (a := x) (b := y)
  have h3 := Int.tmod_eq_emod (a := x) (b := y)
  by_cases h4 : 0 ≤ x ∨ y ∣ x
  · rw [if_pos h4] at h2 h3
    constructor <;> omega
  · rw [if_neg h4] at h3
    have h5 := Int.emod_lt x h0
    omega
noncomputable def idC := ctM quE (fun p => SZ p.x ∧ SZ p.y ∧ p.y ≠ 0) (fun p => ([.ref 0], [eZ (p.x / p.y)]))
theorem idC_at (x y : Int) (c : BC) : idC [.ref 0, .dat (.ptr (eZ x)), .dat (.ptr (eZ y))] [eB c] = ((SZ x ∧ SZ y ∧ y ≠ 0), [.ref 0], [eZ (x / y)]) := ctM_at quE_inj (.dd x y c)
end Go.Proofs.Ytlniifhdimaliaa.Ae

/-! impl.bigInt: GCD, Sqrt. No condition. -/
namespace Go.Proofs.Ytlniifhdimaliaa.Ae
open Go Go.RowKit Go.Proofs.Ytlniifhdimaliaa.Dig
variable {N : NR}

noncomputable def igC := ctM quE (fun p => SZ p.x ∧ SZ p.y) (fun p => ([.ref 0], [eZ (Int.gcd p.x p.y)]))
theorem igC_at (x y : Int) (c : BC) : igC [.ref 0, .dat (.ptr (eZ x)), .dat (.ptr (eZ y))] [eB c] = ((SZ x ∧ SZ y), [.ref 0], [eZ (Int.gcd x y)]) := ctM_at quE_inj (.dd x y c)
def gcS (c : BC) (x y : Int) : St := ⟨[.obj 30 [] 0, .any, .any, .any, .any, .any, .any, .obj 7 [] 0, .obj 8 [] 0, .any, .any, .any, .any, .any, .any, .any, .any, .any, .any, .any, .any, .any, .any, .any, .any, .any, .any, .any, .any, .any], [none, none, none, none, none, none, none, some (.fbox (eZ x)), some (.fbox (eZ y)), none, none, none, none, none, none, none, none, none, none, none, none, none, none, none, none, none, none, none, none, none, some (.pbox (eB c))]⟩
end Go.Proofs.Ytlniifhdimaliaa.Ae

/-! impl.bigInt: Sqrt. No condition. -/
namespace Go.Proofs.Ytlniifhdimaliaa.Ae
open Go Go.RowKit Go.Proofs.Ytlniifhdimaliaa.Dig
variable {N : NR}

theorem isq_ex : ∀ n : Nat, ∃ k, k * k ≤ n ∧ n < (k + 1) * (k + 1)
  | 0 => ⟨0, by omega, by omega⟩
  | n + 1 => by
    obtain ⟨k, h1, h2⟩ := isq_ex n
    by_cases h : (k + 1) * (k + 1) ≤ n + 1
    · refine ⟨k + 1, h, ?_⟩
      have : (k + 1 + 1) * (k + 1 + 1) = (k + 1) * (k + 1) + 2 * (k + 1) + 1 := by rw [Nat.add_mul, Nat.mul_add]; omega
      omega
    · exact ⟨k, by omega, by omega⟩
/-- The square root, rounded down. -/
noncomputable def isq (n : Nat) : Nat := (isq_ex n).choose
theorem isq_le (n : Nat) : isq n * isq n ≤ n := (isq_ex n).choose_spec.1
theorem isq_lt (n : Nat) : n < (isq n + 1) * (isq n + 1) := (isq_ex n).choose_spec.2
theorem isq_uniq {n k : Nat} (h1 : k * k ≤ n) (h2 : n < (k + 1) * (k + 1)) : isq n = k := by
  have a1 := isq_le n
  have a2 := isq_lt n
  rcases Nat.lt_trichotomy (isq n) k with h | h | h
  · have := Nat.mul_le_mul (show isq n + 1 ≤ k from h) (show isq n + 1 ≤ k from h); omega
  · exact h
  · have := Nat.mul_le_mul (show k + 1 ≤ isq n from h) (show k + 1 ≤ isq n from h); omega

noncomputable def sqrtC := ctM ngE (fun p => (mag p.x.natAbs).length ≤ 1000) (fun p => ([.ref 0], [eZ (isq p.x.natAbs)]))
theorem sqrtC_d (x : Int) (c : BC) : sqrtC [.ref 0, .dat (.ptr (eZ x))] [eB c] = ((mag x.natAbs).length ≤ 1000, [.ref 0], [eZ (isq x.natAbs)]) := ctM_at ngE_inj (.d x c)
theorem sqrtC_r (x : Int) : sqrtC [.ref 0, .ref 0] [eZ x] = ((mag x.natAbs).length ≤ 1000, [.ref 0], [eZ (isq x.natAbs)]) := ctM_at ngE_inj (.r x)
/-- The state of a round: out is still empty, or data. -/
def sqA (x0 : X) (c : D) (j : Int) : St := ⟨[.obj 39 [] 0, x0, .any, .any, .any, .row 8, .dat (.lit (.int .i64 j)), .any, .any, .any, .any, .any, .any, .any, .any, .any, .any, .any, .any, .any, .any, .any, .any, .any, .any, .any, .any, .any, .any, .any, .any, .any, .any, .any, .any, .any, .any, .any, .any], [none, none, none, none, none, none, none, none, some (.frow 1 84 []), none, none, none, none, none, none, none, none, none, none, none, none, none, none, none, none, none, none, none, none, none, none, none, none, none, none, none, none, none, none, some (.pbox c)]⟩
def sqB (x0 : X) (c : D) (o : Nat) (j : Int) : St := ⟨[.obj 39 [] 0, x0, .any, .any, .any, .dat (eM o), .dat (.lit (.int .i64 j)), .any, .any, .any, .any, .any, .any, .any, .any, .any, .any, .any, .any, .any, .any, .any, .any, .any, .any, .any, .any, .any, .any, .any, .any, .any, .any, .any, .any, .any, .any, .any, .any], [none, none, none, none, none, none, none, none, none, none, none, none, none, none, none, none, none, none, none, none, none, none, none, none, none, none, none, none, none, none, none, none, none, none, none, none, none, none, none, some (.pbox c)]⟩
/-- A bit more: what is known behind. -/
theorem sq_step {x o j : Nat} (h1 : o * o ≤ x) (h2 : x < (o + 2 ^ (j + 1)) * (o + 2 ^ (j + 1))) :
    ((o + 2 ^ j) * (o + 2 ^ j) ≤ x → (o + 2 ^ j) * (o + 2 ^ j) ≤ x ∧ x < (o + 2 ^ j + 2 ^ j) * (o + 2 ^ j + 2 ^ j)) ∧ (¬ (o + 2 ^ j) * (o + 2 ^ j) ≤ x → o * o ≤ x ∧ x < (o + 2 ^ j) * (o + 2 ^ j)) := by
  have e : o + 2 ^ (j + 1) = o + 2 ^ j + 2 ^ j := by rw [Nat.pow_succ]; omega
  rw [e] at h2
  exact ⟨fun h => ⟨h, h2⟩, fun h => ⟨h1, by omega⟩⟩
theorem Sm_mul {a b j : Nat} (ha : (mag a).length ≤ j) (hb : (mag b).length ≤ j) (hj : j ≤ 100000) : Sm (a * b) := by
  have h1 := mag_lt.1 ha
  have h2 := mag_lt.1 hb
  have h3 : a * b < B ^ (j + j) := by
    rw [Nat.pow_add]
    rcases Nat.eq_zero_or_pos b with h0 | h0
    · subst h0; rw [Nat.mul_zero]; exact Nat.mul_pos (Nat.pow_pos B_pos) (Nat.pow_pos B_pos)
    · exact Nat.mul_lt_mul'' h1 h2
  have := mag_lt.2 h3
  unfold Sm
  omega
theorem Sm_100 {a : Nat} (ha : (mag a).length ≤ 1002) : Sm a := by unfold Sm; omega
theorem pow32 (j k : Nat) (h : j < 32 * k) : 2 ^ j < B ^ k := by
  have : B ^ k = 2 ^ (32 * k) := by rw [Nat.pow_mul]; rfl
  rw [this]
  exact Nat.pow_lt_pow_right (by omega) h
theorem sq_len {x o j l : Nat} (hl : (mag x).length = l) (hx : l ≤ 1000) (h : o * o ≤ x) (hj : j ≤ 16 * l + 15) : (mag (o + 2 ^ j)).length ≤ 1001 ∧ (mag o).length ≤ 1000 := by
  have ho : o ≤ x := by
    rcases Nat.eq_zero_or_pos o with h0 | h0
    · omega
    · have := Nat.le_mul_of_pos_left o h0; omega
  have h1 := mag_len_le ho
  obtain ⟨m, hm⟩ : ∃ m, m = 1000 := ⟨_, rfl⟩
  have hxm : l ≤ m := by omega
  have key : (mag (o + 2 ^ j)).length ≤ m + 1 := by
    refine mag_lt.2 ?_
    have h2 := mag_lt.1 (show (mag o).length ≤ m by omega)
    have h3 : 2 ^ j < B ^ m := pow32 j m (by omega)
    have h4 : B ^ (m + 1) = B ^ m * B := Nat.pow_succ _ _
    have h5 : B ^ m * 2 ≤ B ^ m * B := Nat.mul_le_mul_left _ (by decide)
    rw [h4]
    generalize B ^ m * B = z1 at *
    generalize B ^ m = z at *
    generalize 2 ^ j = y at *
    omega
  exact ⟨by omega, by omega⟩
theorem cmpV_le {a b : Nat} : cmpV a b ≤ 0 ↔ a ≤ b := by
  have h1 := @cmpV_pos a b
  constructor
  · intro h
    rcases Nat.lt_or_ge b a with h' | h'
    · have := h1.2 h'; omega
    · exact h'
  · intro h
    rcases Int.lt_or_le 0 (cmpV a b) with h' | h'
    · have := h1.1 h'; omega
    · exact h'
def sqI (x0 : X) (c : D) (x l n : Nat) (st : St) : Prop := ∃ o, o * o ≤ x ∧ x < (o + 2 ^ n) * (o + 2 ^ n) ∧ n ≤ 16 * l + 16 ∧ ((o = 0 ∧ st = sqA x0 c ((n : Int) - 1)) ∨ st = sqB x0 c o ((n : Int) - 1))
theorem one_dg : D.sl 1 [.lit (.int .u32 1)] = eM 1 := by
  show _ = D.sl 1 ((mag 1).map dg)
  rw [mag_small (by decide) (by decide)]; rfl
end Go.Proofs.Ytlniifhdimaliaa.Ae

/-! Fractions: how many digits they take, and what a quotient in lowest terms is. No condition. -/
namespace Go.Proofs.Ytlniifhdimaliaa.Dig

/-- How many digits. -/
def ln (n : Nat) : Nat := (mag n).length
theorem ln_mono {a b : Nat} (h : a ≤ b) : ln a ≤ ln b := mag_len_le h
theorem ln_iff {n k : Nat} : ln n ≤ k ↔ n < B ^ k := mag_lt
theorem ln_mul (a b : Nat) : ln (a * b) ≤ ln a + ln b := by
  have h1 := ln_iff.1 (Nat.le_refl (ln a))
  have h2 := ln_iff.1 (Nat.le_refl (ln b))
  refine ln_iff.2 ?_
  rw [Nat.pow_add]
  exact Nat.mul_lt_mul'' h1 h2
theorem ln_add (a b : Nat) : ln (a + b) ≤ max (ln a) (ln b) + 1 := by
  refine ln_iff.2 ?_
  have h1 := ln_iff.1 (Nat.le_max_left (ln a) (ln b))
  have h2 := ln_iff.1 (Nat.le_max_right (ln a) (ln b))
  rw [Nat.pow_succ]
  have h3 : B ^ max (ln a) (ln b) * 2 ≤ B ^ max (ln a) (ln b) * B := Nat.mul_le_mul_left _ (by decide)
  generalize B ^ max (ln a) (ln b) * B = z1 at *
  generalize B ^ max (ln a) (ln b) = z at *
  omega
theorem ln_one : ln 1 = 1 := by unfold ln; rw [mag_small (by decide) (by decide)]; rfl
theorem ln_zero : ln 0 = 0 := by unfold ln; rw [mag_zero]; rfl
theorem ln_pos {n : Nat} (h : 0 < n) : 1 ≤ ln n := by
  rcases Nat.eq_zero_or_pos (ln n) with h0 | h0
  · unfold ln at h0; rw [mag_len_zero] at h0; omega
  · exact h0
theorem ln_i64 {n : Nat} (h : n < 18446744073709551616) : ln n ≤ 2 := ln_iff.2 (by simp only [B]; omega)

theorem natAbs_ediv_le (n g : Int) : (n / g).natAbs ≤ n.natAbs := by
  by_cases hg : g = 0
  · subst hg; simp
  · exact Int.natAbs_ediv_le_natAbs n g

theorem num_le (n d : Int) : (Rat.divInt n d).num.natAbs ≤ n.natAbs := by
  rw [Rat.num_divInt]
  refine Nat.le_trans (natAbs_ediv_le _ _) ?_
  rw [Int.natAbs_mul]
  have : d.sign.natAbs ≤ 1 := by
    rcases Int.lt_trichotomy d 0 with h | h | h
    · rw [Int.sign_eq_neg_one_of_neg h]; decide
    · subst h; decide
    · rw [Int.sign_eq_one_of_pos h]; decide
  calc d.sign.natAbs * n.natAbs ≤ 1 * n.natAbs := Nat.mul_le_mul_right _ this
    _ = n.natAbs := Nat.one_mul _
theorem den_le {n d : Int} (h : d ≠ 0) : (Rat.divInt n d).den ≤ d.natAbs := by
  rw [Rat.den_divInt, if_neg h]
  exact Nat.div_le_self _ _

/-- How many digits a fraction takes. -/
def qsz (q : Rat) : Nat := max (ln q.num.natAbs) (ln q.den)
theorem qsz_num (q : Rat) : ln q.num.natAbs ≤ qsz q := Nat.le_max_left _ _
theorem qsz_den (q : Rat) : ln q.den ≤ qsz q := Nat.le_max_right _ _
theorem qsz_pos (q : Rat) : 1 ≤ qsz q := Nat.le_trans (ln_pos q.den_pos) (qsz_den q)
theorem qsz_divInt {n d : Int} (h : d ≠ 0) : qsz (Rat.divInt n d) ≤ max (ln n.natAbs) (ln d.natAbs) :=
  Nat.max_le.2 ⟨Nat.le_trans (ln_mono (num_le n d)) (Nat.le_max_left _ _), Nat.le_trans (ln_mono (den_le h)) (Nat.le_max_right _ _)⟩
theorem dz (q : Rat) : (q.den : Int) ≠ 0 := by have := q.den_pos; omega
theorem add_divInt (a b : Rat) : a + b = Rat.divInt (a.num * b.den + b.num * a.den) (a.den * b.den) := by
  have := Rat.divInt_add_divInt a.num b.num (dz a) (dz b)
  rw [Rat.num_divInt_den, Rat.num_divInt_den] at this
  exact this
theorem mul_divInt (a b : Rat) : a * b = Rat.divInt (a.num * b.num) (a.den * b.den) := by
  have := Rat.divInt_mul_divInt a.num b.num (d₁ := a.den) (d₂ := b.den)
  rw [Rat.num_divInt_den, Rat.num_divInt_den] at this
  exact this
theorem neg_divInt (a : Rat) : -a = Rat.divInt (-a.num) a.den := by
  have h : Rat.divInt (-a).num (-a).den = -a := Rat.num_divInt_den _
  rw [Rat.neg_num, Rat.neg_den] at h
  exact h.symm
theorem inv_divInt (a : Rat) : a⁻¹ = Rat.divInt a.den a.num := Rat.inv_def a
theorem div_divInt (a b : Rat) : a / b = Rat.divInt (a.num * b.den) (a.den * b.num) := by
  rw [Rat.div_def, inv_divInt]
  have h := Rat.divInt_mul_divInt a.num b.den (d₁ := a.den) (d₂ := b.num)
  rw [Rat.num_divInt_den] at h
  exact h
theorem dd_ne (a b : Rat) : ((a.den : Int) * b.den) ≠ 0 := Int.mul_ne_zero (dz a) (dz b)
theorem ln_na_mul (a b : Int) : ln (a * b).natAbs ≤ ln a.natAbs + ln b.natAbs := by rw [Int.natAbs_mul]; exact ln_mul _ _
theorem ln_na_add (a b : Int) : ln (a + b).natAbs ≤ max (ln a.natAbs) (ln b.natAbs) + 1 := Nat.le_trans (ln_mono (Int.natAbs_add_le a b)) (ln_add _ _)
theorem ln_na_nat (n : Nat) : ln ((n : Int)).natAbs = ln n := by rw [Int.natAbs_natCast]
theorem add_parts (a b : Rat) : ln (a.num * b.den).natAbs ≤ qsz a + qsz b ∧ ln (b.num * a.den).natAbs ≤ qsz a + qsz b ∧ ln (a.num * b.den + b.num * a.den).natAbs ≤ qsz a + qsz b + 1 ∧ ln ((a.den : Int) * b.den).natAbs ≤ qsz a + qsz b := by
  have h1 := ln_na_mul a.num b.den
  have h2 := ln_na_mul b.num a.den
  have h3 := ln_na_add (a.num * b.den) (b.num * a.den)
  have h4 := ln_na_mul (a.den : Int) b.den
  rw [ln_na_nat] at h1 h2 h4
  rw [ln_na_nat] at h4
  have p1 := qsz_num a
  have p2 := qsz_num b
  have p3 := qsz_den a
  have p4 := qsz_den b
  omega
theorem qsz_add (a b : Rat) : qsz (a + b) ≤ qsz a + qsz b + 1 := by
  obtain ⟨h1, h2, h3, h4⟩ := add_parts a b
  have := qsz_divInt (n := a.num * b.den + b.num * a.den) (dd_ne a b)
  rw [← add_divInt] at this
  omega
theorem mul_parts (a b : Rat) : ln (a.num * b.num).natAbs ≤ qsz a + qsz b ∧ ln ((a.den : Int) * b.den).natAbs ≤ qsz a + qsz b := by
  have h1 := ln_na_mul a.num b.num
  have h4 := ln_na_mul (a.den : Int) b.den
  rw [ln_na_nat, ln_na_nat] at h4
  have p1 := qsz_num a
  have p2 := qsz_num b
  have p3 := qsz_den a
  have p4 := qsz_den b
  omega
theorem qsz_mul (a b : Rat) : qsz (a * b) ≤ qsz a + qsz b := by
  obtain ⟨h1, h2⟩ := mul_parts a b
  have := qsz_divInt (n := a.num * b.num) (dd_ne a b)
  rw [← mul_divInt] at this
  omega
theorem qsz_neg (a : Rat) : qsz (-a) = qsz a := by
  unfold qsz
  rw [Rat.neg_num, Rat.neg_den, Int.natAbs_neg]
theorem qsz_sub (a b : Rat) : qsz (a - b) ≤ qsz a + qsz b + 1 := by
  rw [Rat.sub_eq_add_neg]
  have := qsz_add a (-b)
  rw [qsz_neg] at this
  exact this
theorem num_ne {a : Rat} (h : a ≠ 0) : a.num ≠ 0 := fun h' => h (by rw [← Rat.num_divInt_den a, h']; exact Rat.zero_divInt _)
theorem qsz_inv {a : Rat} (h : a ≠ 0) : qsz a⁻¹ ≤ qsz a := by
  rw [inv_divInt]
  have := qsz_divInt (n := a.den) (num_ne h)
  rw [ln_na_nat] at this
  have p1 := qsz_num a
  have p3 := qsz_den a
  omega
theorem qsz_div {a b : Rat} (h : b ≠ 0) : qsz (a / b) ≤ qsz a + qsz b := by
  rw [Rat.div_def]
  have h1 := qsz_mul a b⁻¹
  have h2 := qsz_inv h
  omega

/-- A quotient in lowest terms, by the greatest common divisor. -/
theorem low_pos {a b : Int} (h : 0 < b) : Int.tdiv a (Int.gcd a b) = (Rat.divInt a b).num ∧ Int.tdiv b (Int.gcd a b) = (Rat.divInt a b).den := by
  rw [Rat.num_divInt, Rat.den_divInt, if_neg (by omega), Int.sign_eq_one_of_pos h, Int.one_mul, Int.gcd_comm b a]
  have h1 : (Int.gcd a b : Int) ∣ a := Int.gcd_dvd_left ..
  have h2 : (Int.gcd a b : Int) ∣ b := Int.gcd_dvd_right ..
  refine ⟨Int.tdiv_eq_ediv_of_dvd h1, ?_⟩
  rw [Int.tdiv_eq_ediv_of_dvd h2]
  obtain ⟨m, rfl⟩ : ∃ m : Nat, b = m := ⟨b.natAbs, by omega⟩
  rw [Int.natAbs_natCast, Int.natCast_ediv]
theorem low_neg {a b : Int} (h : b < 0) : Int.tdiv a (-(Int.gcd a b : Int)) = (Rat.divInt a b).num ∧ Int.tdiv b (-(Int.gcd a b : Int)) = (Rat.divInt a b).den := by
  rw [Rat.num_divInt, Rat.den_divInt, if_neg (by omega), Int.sign_eq_neg_one_of_neg h, Int.gcd_comm b a, Int.tdiv_neg, Int.tdiv_neg]
  have h1 : (Int.gcd a b : Int) ∣ a := Int.gcd_dvd_left ..
  have h2 : (Int.gcd a b : Int) ∣ b := Int.gcd_dvd_right ..
  rw [Int.tdiv_eq_ediv_of_dvd h1, Int.tdiv_eq_ediv_of_dvd h2]
  constructor
  · rw [Int.neg_one_mul, Int.neg_ediv_of_dvd h1]
  · obtain ⟨m, rfl⟩ : ∃ m : Nat, b = -(m : Int) := ⟨b.natAbs, by omega⟩
    rw [Int.natAbs_neg, Int.natAbs_natCast, Int.natCast_ediv]
    have h3 : (Int.gcd a (-(m : Int)) : Int) ∣ (m : Int) := by rw [Int.gcd_neg]; exact Int.gcd_dvd_right ..
    rw [Int.neg_ediv_of_dvd h3, Int.neg_neg]
end Go.Proofs.Ytlniifhdimaliaa.Dig

/-! impl.bigRat: SetFrac, Num, Denom, Neg, Inv, Add, Sub, Mul, Cmp, Sign, SetInt, newBigRat. No condition. -/
namespace Go.Proofs.Ytlniifhdimaliaa.Ae
open Go Go.RowKit Go.Proofs.Ytlniifhdimaliaa.Dig
variable {N : NR}

/-- What lies in a bigRat: a fraction in lowest terms, or what new makes. -/
def eBR (q : Rat) : D := .agg [eZ q.num, eZ q.den]
def eBN : D := .agg [eB .new, eB .new]
@[simp] theorem eBR_size (q : Rat) : (eBR q).size = 4 := rfl
@[simp] theorem eBR_agg (q : Rat) : (eBR q).isAgg = true := rfl
@[simp] theorem eBR_lit (q : Rat) : (eBR q).isLit = false := rfl
theorem eBR_inj {a b : Rat} (h : eBR a = eBR b) : a = b := by
  simp only [eBR, D.agg.injEq, List.cons.injEq, and_true] at h
  have h2 := eZ_inj h.2
  exact Rat.ext (eZ_inj h.1) (by omega)
/-- Numbers of moderate length: fewer than 2 to the 39 digits. -/
def MX : Nat := 549755813888
theorem SZ_ln {a : Int} : SZ a ↔ ln a.natAbs < 1099511627776 := Iff.rfl

structure ZZ where
  a : Int
  b : Int
def sfE (p : ZZ) : List Ar × List D := ([.ref 0, .dat (.ptr (eZ p.a)), .dat (.ptr (eZ p.b))], [eBN])
theorem sfE_inj (p q : ZZ) (h : sfE p = sfE q) : p = q := by
  obtain ⟨a, b⟩ := p; obtain ⟨a', b'⟩ := q
  simp only [sfE, Prod.mk.injEq, List.cons.injEq, and_true, true_and, Ar.dat.injEq, D.ptr.injEq] at h
  rw [eZ_inj h.1, eZ_inj h.2]
noncomputable def sfC := ctM sfE (fun p => SZ p.a ∧ SZ p.b ∧ p.b ≠ 0) (fun p => ([.ref 0], [eBR (Rat.divInt p.a p.b)]))
theorem sfC_at (a b : Int) : sfC [.ref 0, .dat (.ptr (eZ a)), .dat (.ptr (eZ b))] [eBN] = ((SZ a ∧ SZ b ∧ b ≠ 0), [.ref 0], [eBR (Rat.divInt a b)]) := ctM_at sfE_inj ⟨a, b⟩
theorem SZ_gcd {a b : Int} (hb : SZ b) (h0 : b ≠ 0) : SZ (Int.gcd a b) := by
  refine SZ_le ?_ hb
  rw [Int.natAbs_natCast]
  exact Nat.le_of_dvd (by omega) (Nat.gcd_dvd_right _ _)
/-! Num, Denom, Sign -/
structure Q1 where
  a : Rat
def pbE (p : Q1) : List D := [.ptr (eBR p.a)]
theorem pbE_inj (p q : Q1) (h : pbE p = pbE q) : p = q := by
  obtain ⟨a⟩ := p; obtain ⟨b⟩ := q
  simp only [pbE, List.cons.injEq, and_true, D.ptr.injEq] at h
  rw [eBR_inj h]
noncomputable def numC := ctD pbE (fun p => qsz p.a < 1099511627776) (fun p => [.ptr (eZ p.a.num)])
theorem numC_at (a : Rat) : numC [.ptr (eBR a)] = (qsz a < 1099511627776, [.ptr (eZ a.num)]) := ctD_at pbE_inj ⟨a⟩
noncomputable def denC := ctD pbE (fun p => qsz p.a < 1099511627776) (fun p => [.ptr (eZ p.a.den)])
theorem denC_at (a : Rat) : denC [.ptr (eBR a)] = (qsz a < 1099511627776, [.ptr (eZ a.den)]) := ctD_at pbE_inj ⟨a⟩
noncomputable def bsgC := ctD pbE (fun p => True) (fun p => [i64D p.a.num.sign])
theorem bsgC_at (a : Rat) : bsgC [.ptr (eBR a)] = (True, [i64D a.num.sign]) := ctD_at pbE_inj ⟨a⟩
theorem SZ_num {q : Rat} (h : qsz q < 1099511627776) : SZ q.num := Nat.lt_of_le_of_lt (qsz_num q) h
theorem SZ_den {q : Rat} (h : qsz q < 1099511627776) : SZ (q.den : Int) := by
  have := qsz_den q
  rw [SZ_ln, Int.natAbs_natCast]
  omega
end Go.Proofs.Ytlniifhdimaliaa.Ae

/-! impl.bigRat: Neg, Inv, Add, Sub, Mul, Cmp, SetInt, newBigRat. No condition. -/
namespace Go.Proofs.Ytlniifhdimaliaa.Ae
open Go Go.RowKit Go.Proofs.Ytlniifhdimaliaa.Dig
variable {N : NR}

def q1E (p : Q1) : List Ar × List D := ([.ref 0, .dat (.ptr (eBR p.a))], [eBN])
theorem q1E_inj (p q : Q1) (h : q1E p = q1E q) : p = q := by
  obtain ⟨a⟩ := p; obtain ⟨b⟩ := q
  simp only [q1E, Prod.mk.injEq, List.cons.injEq, and_true, true_and, Ar.dat.injEq, D.ptr.injEq] at h
  rw [eBR_inj h]
structure Q2 where
  a : Rat
  b : Rat
def q2E (p : Q2) : List Ar × List D := ([.ref 0, .dat (.ptr (eBR p.a)), .dat (.ptr (eBR p.b))], [eBN])
theorem q2E_inj (p q : Q2) (h : q2E p = q2E q) : p = q := by
  obtain ⟨a, b⟩ := p; obtain ⟨c, d⟩ := q
  simp only [q2E, Prod.mk.injEq, List.cons.injEq, and_true, true_and, Ar.dat.injEq, D.ptr.injEq] at h
  rw [eBR_inj h.1, eBR_inj h.2]
def brMf : FuncId → Bool := fun f => f == 99999999 || f == 99999999 || f == 99999999 || f == 99999999 || f == 99999999
attribute [simp] brMf
@[simp] theorem eBN_size : eBN.size = 4 := rfl
@[simp] theorem eBN_agg : eBN.isAgg = true := rfl
theorem eBN_eq : eBN = .agg [.agg [.lit (.bool false), .lit (.slice none 0 0)], .agg [.lit (.bool false), .lit (.slice none 0 0)]] := rfl
theorem sfC_n (a b : Int) : sfC [.ref 0, .dat (.ptr (eZ a)), .dat (.ptr (eZ b))] [.agg [.agg [.lit (.bool false), .lit (.slice none 0 0)], .agg [.lit (.bool false), .lit (.slice none 0 0)]]] = ((SZ a ∧ SZ b ∧ b ≠ 0), [.ref 0], [eBR (Rat.divInt a b)]) := sfC_at a b
theorem iMulC_n (x y : Int) : iMulC [.ref 0, .dat (.ptr (eZ x)), .dat (.ptr (eZ y))] [.agg [.lit (.bool false), .lit (.slice none 0 0)]] = ((SZ x ∧ SZ y), [.ref 0], [eZ (x * y)]) := iMulC_dd x y .new

noncomputable def bNegC := ctM q1E (fun p => qsz p.a < MX) (fun p => ([.ref 0], [eBR (-p.a)]))
theorem bNegC_at (a : Rat) : bNegC [.ref 0, .dat (.ptr (eBR a))] [eBN] = (qsz a < MX, [.ref 0], [eBR (-a)]) := ctM_at q1E_inj ⟨a⟩
noncomputable def bInvC := ctM q1E (fun p => qsz p.a < MX ∧ p.a ≠ 0) (fun p => ([.ref 0], [eBR p.a⁻¹]))
theorem bInvC_at (a : Rat) : bInvC [.ref 0, .dat (.ptr (eBR a))] [eBN] = ((qsz a < MX ∧ a ≠ 0), [.ref 0], [eBR a⁻¹]) := ctM_at q1E_inj ⟨a⟩
noncomputable def bMulC := ctM q2E (fun p => qsz p.a + qsz p.b < MX) (fun p => ([.ref 0], [eBR (p.a * p.b)]))
theorem bMulC_at (a b : Rat) : bMulC [.ref 0, .dat (.ptr (eBR a)), .dat (.ptr (eBR b))] [eBN] = (qsz a + qsz b < MX, [.ref 0], [eBR (a * b)]) := ctM_at q2E_inj ⟨a, b⟩
noncomputable def bAddC := ctM q2E (fun p => qsz p.a + qsz p.b < MX) (fun p => ([.ref 0], [eBR (p.a + p.b)]))
theorem bAddC_at (a b : Rat) : bAddC [.ref 0, .dat (.ptr (eBR a)), .dat (.ptr (eBR b))] [eBN] = (qsz a + qsz b < MX, [.ref 0], [eBR (a + b)]) := ctM_at q2E_inj ⟨a, b⟩
noncomputable def bSubC := ctM q2E (fun p => qsz p.a + qsz p.b < MX) (fun p => ([.ref 0], [eBR (p.a - p.b)]))
theorem bSubC_at (a b : Rat) : bSubC [.ref 0, .dat (.ptr (eBR a)), .dat (.ptr (eBR b))] [eBN] = (qsz a + qsz b < MX, [.ref 0], [eBR (a - b)]) := ctM_at q2E_inj ⟨a, b⟩
structure Q2c where
  a : Rat
  b : Rat
def bcE (p : Q2c) : List D := [.ptr (eBR p.a), .ptr (eBR p.b)]
theorem bcE_inj (p q : Q2c) (h : bcE p = bcE q) : p = q := by
  obtain ⟨a, b⟩ := p; obtain ⟨c, d⟩ := q
  simp only [bcE, List.cons.injEq, and_true, D.ptr.injEq] at h
  rw [eBR_inj h.1, eBR_inj h.2]
/-- How two fractions compare. -/
def qcmp (a b : Rat) : Int := (a.num * b.den - b.num * a.den).sign
noncomputable def bCmpC := ctD bcE (fun p => qsz p.a + qsz p.b < MX) (fun p => [i64D (qcmp p.a p.b)])
theorem bCmpC_at (a b : Rat) : bCmpC [.ptr (eBR a), .ptr (eBR b)] = (qsz a + qsz b < MX, [i64D (qcmp a b)]) := ctD_at bcE_inj ⟨a, b⟩
def siE (p : Z1) : List Ar × List D := ([.ref 0, .dat (.ptr (eZ p.a))], [eBN])
theorem siE_inj (p q : Z1) (h : siE p = siE q) : p = q := by
  obtain ⟨a⟩ := p; obtain ⟨b⟩ := q
  simp only [siE, Prod.mk.injEq, List.cons.injEq, and_true, true_and, Ar.dat.injEq, D.ptr.injEq] at h
  rw [eZ_inj h]
noncomputable def siC := ctM siE (fun p => SZ p.a) (fun p => ([.ref 0], [eBR (p.a : Rat)]))
theorem siC_at (a : Int) : siC [.ref 0, .dat (.ptr (eZ a))] [eBN] = (SZ a, [.ref 0], [eBR (a : Rat)]) := ctM_at siE_inj ⟨a⟩
noncomputable def nbrC := ctD iiE (fun p => I64 p.a ∧ I64 p.b ∧ p.b ≠ 0) (fun p => [.ptr (eBR (Rat.divInt p.a p.b))])
theorem nbrC_at (a b : Int) : nbrC [i64D a, i64D b] = ((I64 a ∧ I64 b ∧ b ≠ 0), [.ptr (eBR (Rat.divInt a b))]) := ctD_at iiE_inj ⟨a, b⟩
end Go.Proofs.Ytlniifhdimaliaa.Ae

/-! The reference's fractions: what they are worth. No condition. -/
namespace Go.Proofs.Ytlniifhdimaliaa.Ae
open Go Go.RowKit Go.Proofs.Ytlniifhdimaliaa.Dig

def SR.val (r : SR) : Rat := Rat.divInt r.num r.den
/-- A fraction of the reference: of moderate size, great ones in lowest terms. -/
def WV (r : SR) : Prop := WR r ∧ ∀ p q, r = .big p q → Int.gcd p q = 1
theorem WR_den {r : SR} (h : WR r) : 0 < r.den := (WR_SZ h).2.2
/-- In lowest terms. -/
theorem low_div {n d : Int} (h : 0 < d) : n / (Int.gcd n d : Int) = (Rat.divInt n d).num ∧ d / (Int.gcd n d : Int) = (Rat.divInt n d).den := by
  obtain ⟨e1, e2⟩ := low_pos (a := n) h
  have h1 : (Int.gcd n d : Int) ∣ n := Int.gcd_dvd_left ..
  have h2 : (Int.gcd n d : Int) ∣ d := Int.gcd_dvd_right ..
  rw [Int.tdiv_eq_ediv_of_dvd h1] at e1
  rw [Int.tdiv_eq_ediv_of_dvd h2] at e2
  exact ⟨e1, e2⟩
theorem low_k {n d : Int} (h : 0 < d) : ∃ k : Int, 0 < k ∧ n = k * (Rat.divInt n d).num ∧ d = k * (Rat.divInt n d).den := by
  obtain ⟨e1, e2⟩ := low_div (n := n) h
  refine ⟨Int.gcd n d, ?_, ?_, ?_⟩
  · have : Int.gcd n d ≠ 0 := fun h0 => by have := (Int.gcd_eq_zero_iff.1 h0).2; omega
    omega
  · rw [← e1, Int.mul_ediv_cancel' (Int.gcd_dvd_left ..)]
  · rw [← e2, Int.mul_ediv_cancel' (Int.gcd_dvd_right ..)]
theorem val_k {r : SR} (h : WR r) : ∃ k : Int, 0 < k ∧ r.num = k * r.val.num ∧ r.den = k * r.val.den := low_k (WR_den h)
theorem gcd_red (q : Rat) : Int.gcd q.num q.den = 1 := q.reduced
theorem packR_ok {p q : Int} (h0 : 0 < q) (hp : SZ p) (hq : SZ q) (hg : Int.gcd p q = 1) : WV (packR p q) ∧ (packR p q).val = Rat.divInt p q := by
  unfold packR
  split
  · rename_i h
    exact ⟨⟨⟨by omega, h0, by omega⟩, fun _ _ e => by cases e⟩, rfl⟩
  · exact ⟨⟨⟨hp, hq, h0⟩, fun _ _ e => by cases e; exact hg⟩, rfl⟩
theorem packR_low {n d : Int} (h : 0 < d) (hn : SZ n) (hd : SZ d) : WV (packR (n / (Int.gcd n d : Int)) (d / (Int.gcd n d : Int))) ∧ (packR (n / (Int.gcd n d : Int)) (d / (Int.gcd n d : Int))).val = Rat.divInt n d := by
  obtain ⟨e1, e2⟩ := low_div (n := n) h
  rw [e1, e2]
  have h1 := packR_ok (p := (Rat.divInt n d).num) (q := (Rat.divInt n d).den) (by have := (Rat.divInt n d).den_pos; omega) (SZ_le (num_le n d) hn) (SZ_le (by rw [Int.natAbs_natCast]; exact den_le (by omega)) hd) (gcd_red _)
  rw [Rat.num_divInt_den] at h1
  exact h1
theorem ofR_ok {n d : Int} (h0 : 0 < d) (hn : I64 n) (hd : I64 d) : WV (ofR n d) ∧ (ofR n d).val = Rat.divInt n d := by
  unfold ofR
  split
  · rename_i h
    exact ⟨⟨⟨by omega, h0, by omega⟩, fun _ _ e => by cases e⟩, rfl⟩
  · exact packR_low h0 (SZ_I64 hn) (SZ_I64 hd)
theorem bigR_ok {n d : Int} (h0 : d ≠ 0) (hn : SZ n) (hd : SZ d) : WV (bigR n d) ∧ (bigR n d).val = Rat.divInt n d := by
  unfold bigR
  split
  · rename_i h
    subst h
    refine ⟨⟨⟨by decide, by decide, by decide⟩, fun _ _ e => by cases e⟩, ?_⟩
    show Rat.divInt 0 1 = _
    rw [Rat.zero_divInt, Rat.zero_divInt]
  · split
    · rename_i h
      have e : Int.gcd n d = Int.gcd (-n) (-d) := by rw [Int.neg_gcd, Int.gcd_neg]
      rw [e]
      have := packR_low (n := -n) (d := -d) (by omega) (SZ_neg.2 hn) (SZ_neg.2 hd)
      rw [Rat.neg_divInt_neg] at this
      exact this
    · exact packR_low (by omega) hn hd
/-- How many digits it takes. -/
theorem rep_sz {r : SR} (h : WV r) : ln r.num.natAbs ≤ qsz r.val ∧ ln r.den.natAbs ≤ qsz r.val := by
  have h1 := qsz_pos r.val
  have one : ∀ x : Nat, x < 2147483648 → ln x ≤ 1 := fun x hx => ln_iff.2 (by simp only [B]; omega)
  cases r with
  | small n d =>
    obtain ⟨⟨x1, x2, x3⟩, _⟩ := h
    have a1 : ln (SR.small n d).num.natAbs ≤ 1 := one _ x1
    have a2 : ln (SR.small n d).den.natAbs ≤ 1 := one _ (by show d.natAbs < _; omega)
    omega
  | lit n d =>
    obtain ⟨⟨x1, x2, x3⟩, _⟩ := h
    have a1 : ln (SR.lit n d).num.natAbs ≤ 1 := one _ x1
    have a2 : ln (SR.lit n d).den.natAbs ≤ 1 := one _ (by show d.natAbs < _; omega)
    omega
  | big p q =>
    obtain ⟨⟨x1, x2, x3⟩, hg⟩ := h
    have hg := hg p q rfl
    obtain ⟨e1, e2⟩ := low_div (n := p) x3
    rw [hg] at e1 e2
    simp at e1 e2
    have v1 : (SR.big p q).val = Rat.divInt p q := rfl
    have v2 : (SR.big p q).num = p := rfl
    have v3 : (SR.big p q).den = q := rfl
    rw [v1, v2, v3]
    have p1 := qsz_num (Rat.divInt p q)
    have p2 := qsz_den (Rat.divInt p q)
    rw [← e1] at p1
    refine ⟨p1, ?_⟩
    rw [show q.natAbs = (Rat.divInt p q).den by omega]
    exact p2
theorem neg_val (r : SR) : (negR r).val = -r.val := by
  unfold SR.val
  rw [negR_num, negR_den, Rat.neg_divInt]
theorem neg_WV {r : SR} (h : WV r) : WV (negR r) := by
  refine ⟨negR_WR h.1, fun p q e => ?_⟩
  cases r with
  | small n d => cases e
  | lit n d => cases e
  | big p' q' =>
    simp only [negR, SR.big.injEq] at e
    obtain ⟨rfl, rfl⟩ := e
    have := h.2 _ _ rfl
    rw [Int.neg_gcd]
    exact this
theorem SZ_of {a : Int} {k : Nat} (h : ln a.natAbs ≤ k) (hk : k < 1099511627776) : SZ a := by rw [SZ_ln]; omega
/-- The products and sums that a sum asks for. -/
theorem cross_sz {a b : SR} (ha : WV a) (hb : WV b) (h : qsz a.val + qsz b.val < MX) :
    SZ (a.num * b.den) ∧ SZ (b.num * a.den) ∧ SZ (a.num * b.den + b.num * a.den) ∧ SZ (a.num * b.den - b.num * a.den) ∧ SZ (a.den * b.den) ∧ SZ (a.num * b.num) ∧ SZ (a.den * b.num) := by
  unfold MX at h
  obtain ⟨a1, a2⟩ := rep_sz ha
  obtain ⟨b1, b2⟩ := rep_sz hb
  have m1 := ln_na_mul a.num b.den
  have m2 := ln_na_mul b.num a.den
  have m3 := ln_na_add (a.num * b.den) (b.num * a.den)
  have m4 := ln_na_add (a.num * b.den) (-(b.num * a.den))
  rw [Int.natAbs_neg, ← Int.sub_eq_add_neg] at m4
  have m5 := ln_na_mul a.den b.den
  have m6 := ln_na_mul a.num b.num
  have m7 := ln_na_mul a.den b.num
  refine ⟨SZ_of m1 ?_, SZ_of m2 ?_, SZ_of m3 ?_, SZ_of m4 ?_, SZ_of m5 ?_, SZ_of m6 ?_, SZ_of m7 ?_⟩ <;> omega
theorem I64_prod {n d : Int} (hn : n.natAbs < 2147483648) (hd : d.natAbs < 2147483648) : (n * d).natAbs ≤ 4611686014132420609 := by
  rw [Int.natAbs_mul]
  have := Nat.mul_le_mul (show n.natAbs ≤ 2147483647 by omega) (show d.natAbs ≤ 2147483647 by omega)
  omega
theorem not_big {r : SR} (h : WR r) (hb : r.isBig = false) : r.num.natAbs < 2147483648 ∧ 0 < r.den ∧ r.den.natAbs < 2147483648 := by
  cases r with
  | small n d => obtain ⟨x1, x2, x3⟩ := h; exact ⟨x1, x2, by show d.natAbs < _; omega⟩
  | lit n d => obtain ⟨x1, x2, x3⟩ := h; exact ⟨x1, x2, by show d.natAbs < _; omega⟩
  | big p q => cases hb
theorem den_val_ne {r : SR} (h : WR r) : r.den ≠ 0 := by have := WR_den h; omega
theorem add_ok {a b : SR} (ha : WV a) (hb : WV b) (h : qsz a.val + qsz b.val < MX) : WV (addR a b) ∧ (addR a b).val = a.val + b.val := by
  obtain ⟨s1, s2, s3, s4, s5, s6, s7⟩ := cross_sz ha hb h
  have hv : a.val + b.val = Rat.divInt (a.num * b.den + b.num * a.den) (a.den * b.den) := Rat.divInt_add_divInt _ _ (den_val_ne ha.1) (den_val_ne hb.1)
  have hd := Int.mul_pos (WR_den ha.1) (WR_den hb.1)
  rw [hv]
  unfold addR
  split
  · exact bigR_ok (by omega) s3 s5
  · rename_i hbig
    simp only [Bool.or_eq_true, not_or, Bool.not_eq_true] at hbig
    obtain ⟨x1, x2, x3⟩ := not_big ha.1 hbig.1
    obtain ⟨y1, y2, y3⟩ := not_big hb.1 hbig.2
    have p1 := I64_prod x1 y3
    have p2 := I64_prod y1 x3
    have p3 := I64_prod x3 y3
    exact ofR_ok hd (by unfold I64; omega) (by unfold I64; omega)
theorem mul_ok {a b : SR} (ha : WV a) (hb : WV b) (h : qsz a.val + qsz b.val < MX) : WV (mulR a b) ∧ (mulR a b).val = a.val * b.val := by
  obtain ⟨s1, s2, s3, s4, s5, s6, s7⟩ := cross_sz ha hb h
  have hv : a.val * b.val = Rat.divInt (a.num * b.num) (a.den * b.den) := Rat.divInt_mul_divInt _ _
  have hd := Int.mul_pos (WR_den ha.1) (WR_den hb.1)
  rw [hv]
  unfold mulR
  split
  · exact bigR_ok (by omega) s6 s5
  · rename_i hbig
    simp only [Bool.or_eq_true, not_or, Bool.not_eq_true] at hbig
    obtain ⟨x1, x2, x3⟩ := not_big ha.1 hbig.1
    obtain ⟨y1, y2, y3⟩ := not_big hb.1 hbig.2
    have p1 := I64_prod x1 y1
    have p3 := I64_prod x3 y3
    exact ofR_ok hd (by unfold I64; omega) (by unfold I64; omega)
theorem sub_ok {a b : SR} (ha : WV a) (hb : WV b) (h : qsz a.val + qsz b.val < MX) : WV (subR a b) ∧ (subR a b).val = a.val - b.val := by
  have := add_ok ha (neg_WV hb) (by rw [neg_val, qsz_neg]; exact h)
  rw [neg_val, ← Rat.sub_eq_add_neg] at this
  exact this
theorem val_zero {r : SR} (h : WR r) : r.val = 0 ↔ r.num = 0 := by
  obtain ⟨k, h1, h2, h3⟩ := val_k h
  constructor
  · intro h0; rw [h2, h0]; simp
  · intro h0
    unfold SR.val
    rw [h0, Rat.zero_divInt]
theorem div_ok {a b : SR} (ha : WV a) (hb : WV b) (h0 : b.val ≠ 0) (h : qsz a.val + qsz b.val < MX) : WV (divR a b) ∧ (divR a b).val = a.val / b.val := by
  have hn : b.num ≠ 0 := fun h' => h0 ((val_zero hb.1).2 h')
  have inv : b.val⁻¹ = Rat.divInt b.den b.num := by unfold SR.val; exact Rat.inv_divInt _ _
  have small : ∀ n d : Int, b.num = n → b.den = d → n.natAbs < 2147483648 → 0 < d → d < 2147483648 → WV (invR n d) ∧ (invR n d).val = b.val⁻¹ := by
    intro n d e1 e2 x1 x2 x3
    rw [inv, e1, e2]
    rw [e1] at hn
    unfold invR
    split
    · refine ⟨⟨⟨by omega, by omega, by omega⟩, fun _ _ e => by cases e⟩, ?_⟩
      show Rat.divInt (-d) (-n) = _
      rw [Rat.neg_divInt_neg]
    · exact ⟨⟨⟨by omega, by omega, by omega⟩, fun _ _ e => by cases e⟩, rfl⟩
  have hq := qsz_inv h0
  have way : ∀ c : SR, WV c → c.val = b.val⁻¹ → WV (mulR a c) ∧ (mulR a c).val = a.val / b.val := by
    intro c hc he
    have := mul_ok ha hc (by rw [he]; omega)
    rw [he, ← Rat.div_def] at this
    exact this
  cases b with
  | small n d =>
    obtain ⟨x1, x2, x3⟩ := hb.1
    obtain ⟨w1, w2⟩ := small n d rfl rfl x1 x2 x3
    exact way _ w1 w2
  | lit n d =>
    obtain ⟨x1, x2, x3⟩ := hb.1
    obtain ⟨w1, w2⟩ := small n d rfl rfl x1 x2 x3
    exact way _ w1 w2
  | big p q =>
    obtain ⟨s1, s2, s3, s4, s5, s6, s7⟩ := cross_sz ha hb h
    have hv : a.val / (SR.big p q).val = Rat.divInt (a.num * q) (a.den * p) := by
      rw [Rat.div_def, inv]
      exact Rat.divInt_mul_divInt _ _
    rw [hv]
    exact bigR_ok (Int.mul_ne_zero (den_val_ne ha.1) hn) s1 s7
theorem sign_val {r : SR} (h : WR r) : r.num.sign = r.val.num.sign := by
  obtain ⟨k, h1, h2, h3⟩ := val_k h
  rw [h2, Int.sign_mul, Int.sign_eq_one_of_pos h1, Int.one_mul]
theorem cmp_val {a b : SR} (ha : WR a) (hb : WR b) : (a.num * b.den - b.num * a.den).sign = qcmp a.val b.val := by
  obtain ⟨k, h1, h2, h3⟩ := val_k ha
  obtain ⟨l, l1, l2, l3⟩ := val_k hb
  unfold qcmp
  have e : a.num * b.den - b.num * a.den = (k * l) * (a.val.num * b.val.den - b.val.num * a.val.den) := by
    rw [h2, h3, l2, l3]
    grind
  rw [e, Int.sign_mul, Int.sign_eq_one_of_pos (Int.mul_pos h1 l1), Int.one_mul]
theorem floor_val {r : SR} (h : WR r) : r.num / r.den = r.val.floor := by
  obtain ⟨k, h1, h2, h3⟩ := val_k h
  rw [Rat.floor_def]
  conv => lhs; rw [h2, h3]
  exact Int.mul_ediv_mul_of_pos _ _ h1
/-- A Q out of a fraction. -/
def oq (q : Rat) : Int × Int × Bool := if q.num.natAbs ≤ 1000000000000000000 ∧ q.den ≤ 1000000000000000000 then (q.num, q.den, true) else (0, 0, false)
theorem qOf_val {r : SR} (h : WV r) : qOfR r = oq r.val := by
  have small : ∀ n d : Int, r.num = n → r.den = d → n.natAbs < 2147483648 → 0 < d → d < 2147483648 → (n / (Int.gcd n d : Int), d / (Int.gcd n d : Int), true) = oq r.val := by
    intro n d e1 e2 x1 x2 x3
    obtain ⟨k1, k2⟩ := low_div (n := n) x2
    have v : r.val = Rat.divInt n d := by unfold SR.val; rw [e1, e2]
    rw [v, k1, k2]
    unfold oq
    have n1 := num_le n d
    have n2 := den_le (n := n) (d := d) (by omega)
    rw [if_pos ⟨by omega, by omega⟩]
  cases r with
  | small n d =>
    obtain ⟨x1, x2, x3⟩ := h.1
    exact small n d rfl rfl x1 x2 x3
  | lit n d =>
    obtain ⟨x1, x2, x3⟩ := h.1
    exact small n d rfl rfl x1 x2 x3
  | big p q =>
    obtain ⟨⟨x1, x2, x3⟩, hg⟩ := h
    have hg := hg p q rfl
    obtain ⟨e1, e2⟩ := low_div (n := p) x3
    rw [hg] at e1 e2
    simp at e1 e2
    have v1 : (SR.big p q).val = Rat.divInt p q := rfl
    rw [v1]
    unfold qOfR oq
    simp only
    rw [← e1, ← e2]
    have : (q.natAbs ≤ 1000000000000000000) ↔ (Rat.divInt p q).den ≤ 1000000000000000000 := by omega
    simp only [this]
end Go.Proofs.Ytlniifhdimaliaa.Ae

/-! The reference's fractions as opaque numbers. No condition. -/
namespace Go.Proofs.Ytlniifhdimaliaa.Ae
open Go Go.RowKit Go.Proofs.Ytlniifhdimaliaa.Dig

mutual
/-- No opaque number is in it. -/
def D.pl : D → Bool
  | .lit _ => true
  | .num _ _ => false
  | .agg ds => D.pls ds
  | .sl _ xs => D.pls xs
  | .ptr d => D.pl d
def D.pls : List D → Bool
  | [] => true
  | d :: ds => D.pl d && D.pls ds
end
theorem pls_at : ∀ (ds : List D) (i : Nat) (d : D), D.pls ds = true → ds[i]? = some d → d.pl = true
  | [], i, d, _, h => by simp at h
  | x :: ds, 0, d, hp, h => by
    simp at h
    subst h
    simp only [D.pls, Bool.and_eq_true] at hp
    exact hp.1
  | x :: ds, i + 1, d, hp, h => by
    simp only [D.pls, Bool.and_eq_true] at hp
    exact pls_at ds i d hp.2 (by simpa using h)
theorem Rep.plain {N N' : NR} {F : Nat → Prop} {w : World} {d : D} {cs : List Value} (h : Rep N F w d cs) (hp : d.pl = true) : Rep N' F w d cs := by
  induction h with
  | lit h => exact .lit h
  | num h => simp [D.pl] at hp
  | agg hl h ih =>
    simp only [D.pl] at hp
    exact .agg hl (fun i d cs h1 h2 => ih i d cs h1 h2 (pls_at _ i d hp h1))
  | sl A c es hc hm ha h ih =>
    simp only [D.pl] at hp
    exact .sl A c es hc hm ha (fun i d h1 => ih i d h1 (pls_at _ i d hp h1))
  | ptr b off es hb hc h ih =>
    simp only [D.pl] at hp
    exact .ptr b off es hb hc (ih hp)
def NN : NR := ⟨fun _ _ _ _ _ => False, fun h => h.elim, fun h => h.elim, fun _ h => h.elim⟩
/-- A number of the kind 1 is a fraction of the reference with that worth. -/
def NF : NR where
  R k F w q cs := k = 1 ∧ ∃ r, WV r ∧ r.val = q ∧ Rep NN F w (eR r) cs
  len := by
    rintro k F w q cs ⟨rfl, r, _, _, h⟩
    rw [h.len, eR_size]; rfl
  one := by
    rintro k F w q cs ⟨rfl, r, _, _, h⟩
    exact h.one
  mono := by
    rintro k F F' w w' q cs hF ⟨rfl, r, h1, h2, h⟩
    exact ⟨rfl, r, h1, h2, h.mono hF⟩
theorem pls_dg : ∀ l : List Nat, D.pls (l.map dg) = true
  | [] => rfl
  | x :: l => by simp only [List.map_cons, D.pls, pls_dg l, dg, D.pl, Bool.and_self]
theorem pl_eZ (z : Int) : (eZ z).pl = true := by
  simp only [eZ, eM, eW, D.pl, D.pls, pls_dg, Bool.and_self]
theorem pl_eR (r : SR) : (eR r).pl = true := by
  cases r <;> simp [eR, D.pl, D.pls, i64D, pl_eZ]

inductive Cv : D → D → Prop
  | same (d : D) (h : ∀ k q, d ≠ .num k q) : Cv d d
  | num (r : SR) (h : WV r) : Cv (.num 1 r.val) (eR r)
def CvL : List D → List D → Prop
  | [], [] => True
  | x :: a, y :: b => Cv x y ∧ CvL a b
  | _, _ => False
theorem cv_in {F : Nat → Prop} {w : World} {d : D} {v : Value} (h : RepV NF F w d v) : ∃ d', Cv d d' ∧ RepV NF F w d' v := by
  cases d with
  | num k q =>
    obtain ⟨cs, hr, hv⟩ := h
    cases hr with
    | num hr =>
      obtain ⟨rfl, r, h1, rfl, h3⟩ := hr
      refine ⟨eR r, .num r h1, cs, h3.plain (pl_eR r), ?_⟩
      rw [hv]
      unfold mkV
      rw [eR_isAgg]
      rfl
  | _ => exact ⟨_, .same _ (fun k q e => by cases e), h⟩
theorem cv_out {F : Nat → Prop} {w : World} {d d' : D} {v : Value} (hc : Cv d d') (h : RepV NF F w d' v) : RepV NF F w d v := by
  cases hc with
  | same _ _ => exact h
  | num r hw =>
    obtain ⟨cs, hr, hv⟩ := h
    refine ⟨cs, .num ⟨rfl, r, hw, rfl, hr.plain (pl_eR r)⟩, ?_⟩
    rw [hv]
    unfold mkV
    rw [eR_isAgg]
    rfl
theorem cvL_in {F : Nat → Prop} {w : World} : ∀ (ds : List D) (vs : List Value), RepVs NF F w ds vs → ∃ ds', CvL ds ds' ∧ RepVs NF F w ds' vs
  | [], vs, h => ⟨[], trivial, h⟩
  | d :: ds, [], h => by have := h.1; simp at this
  | d :: ds, v :: vs, h => by
    obtain ⟨d', c1, r1⟩ := cv_in (h.2 0 d v rfl rfl)
    obtain ⟨ds', c2, r2⟩ := cvL_in ds vs ⟨by simpa using h.1, fun i d v h1 h2 => h.2 (i + 1) d v (by simpa using h1) (by simpa using h2)⟩
    refine ⟨d' :: ds', ⟨c1, c2⟩, by simp only [List.length_cons]; rw [r2.1], fun i e u h1 h2 => ?_⟩
    cases i with
    | zero =>
      simp only [List.getElem?_cons_zero, Option.some.injEq] at h1 h2
      subst h1 h2
      exact r1
    | succ i => exact r2.2 i e u (by simpa using h1) (by simpa using h2)
theorem cvL_out {F : Nat → Prop} {w : World} : ∀ (ds ds' : List D) (vs : List Value), CvL ds ds' → RepVs NF F w ds' vs → RepVs NF F w ds vs
  | [], [], vs, _, h => h
  | d :: ds, d' :: ds', [], _, h => by have := h.1; simp at this
  | d :: ds, d' :: ds', v :: vs, hc, h => by
    have r1 := cv_out hc.1 (h.2 0 d' v rfl rfl)
    have r2 := cvL_out ds ds' vs hc.2 ⟨by simpa using h.1, fun i d v h1 h2 => h.2 (i + 1) d v (by simpa using h1) (by simpa using h2)⟩
    refine ⟨by simp only [List.length_cons]; rw [r2.1], fun i e u h1 h2 => ?_⟩
    cases i with
    | zero =>
      simp only [List.getElem?_cons_zero, Option.some.injEq] at h1 h2
      subst h1 h2
      exact r1
    | succ i => exact r2.2 i e u (by simpa using h1) (by simpa using h2)
  | [], _ :: _, _, hc, _ => hc.elim
  | _ :: _, [], _, hc, _ => hc.elim
theorem cvR_out {F : Nat → Prop} {w : World} {ds ds' : List D} {v : Value} (hc : CvL ds ds') (h : RepRes NF F w ds' v) : RepRes NF F w ds v := by
  cases ds with
  | nil =>
    cases ds' with
    | nil => exact h
    | cons => exact hc.elim
  | cons d t =>
    cases ds' with
    | nil => exact hc.elim
    | cons d' t' =>
      cases t with
      | nil =>
        cases t' with
        | nil => exact cv_out hc.1 h
        | cons => exact hc.2.elim
      | cons e t =>
        cases t' with
        | nil => exact hc.2.elim
        | cons e' t' =>
          obtain ⟨vs, h1, h2⟩ := h
          exact ⟨vs, h1, cvL_out _ _ _ hc h2⟩
/-- A contract over the reference's fractions is one over opaque numbers. -/
theorem specD_num {P : Program} {f : FuncId} {g g' : List D → Prop × List D} (h : SpecD NF P f g) (hg : ∀ ds', (g' ds').1 → ∀ ds, CvL ds' ds → (g ds).1 ∧ CvL (g' ds').2 (g ds).2) : SpecD NF P f g' := by
  intro ds' hp F w vs hF hr
  obtain ⟨ds, c, hr'⟩ := cvL_in ds' vs hr
  obtain ⟨h1, h2⟩ := hg ds' hp ds c
  exact (h ds h1 F w vs hF hr').mono fun e w' ⟨v, he, hv, hfr⟩ => ⟨v, he, cvR_out h2 hv, hfr⟩
/-- The same for contracts over inputs of a kind. -/
theorem specD_num' {P : Program} {f : FuncId} {g : List D → Prop × List D} {β : Type} {e' : β → List D} {pre' : β → Prop} {post' : β → List D} (h : SpecD NF P f g) (hg : ∀ b, pre' b → ∀ ds, CvL (e' b) ds → (g ds).1 ∧ CvL (post' b) (g ds).2) : SpecD NF P f (ctD e' pre' post') := by
  refine specD_num h (fun ds' hp ds hc => ?_)
  obtain ⟨b, rfl, h1, h2⟩ := ctD_pre hp
  rw [h2]
  exact hg b h1 ds hc
theorem cv_num {q : Rat} {d : D} (h : Cv (.num 1 q) d) : ∃ r, WV r ∧ r.val = q ∧ d = eR r := by
  generalize hx : D.num 1 q = x at h
  cases h with
  | same _ hh => exact absurd hx.symm (hh 1 q)
  | num r hw =>
    injection hx with _ hx
    exact ⟨r, hw, hx.symm, rfl⟩
theorem cv_same {d d' : D} (hd : ∀ k q, d ≠ .num k q) (h : Cv d d') : d' = d := by
  cases h with
  | same _ _ => rfl
  | num r _ => exact absurd rfl (hd 1 r.val)
theorem cv_to {r : SR} {q : Rat} (h : WV r ∧ r.val = q) : Cv (.num 1 q) (eR r) := by
  obtain ⟨h1, rfl⟩ := h
  exact .num r h1
theorem cv1 {q : Rat} {ds : List D} (h : CvL [.num 1 q] ds) : ∃ r, WV r ∧ r.val = q ∧ ds = [eR r] := by
  cases ds with
  | nil => exact h.elim
  | cons d t =>
    cases t with
    | cons e t => exact h.2.elim
    | nil =>
      obtain ⟨r, h1, h2, rfl⟩ := cv_num h.1
      exact ⟨r, h1, h2, rfl⟩
theorem cv2 {q p : Rat} {ds : List D} (h : CvL [.num 1 q, .num 1 p] ds) : ∃ r s, WV r ∧ r.val = q ∧ WV s ∧ s.val = p ∧ ds = [eR r, eR s] := by
  cases ds with
  | nil => exact h.elim
  | cons d t =>
    obtain ⟨r, h1, h2, rfl⟩ := cv_num h.1
    obtain ⟨s, h3, h4, rfl⟩ := cv1 h.2
    exact ⟨r, s, h1, h2, h3, h4, rfl⟩
theorem cvs1 {d : D} {ds : List D} (hd : ∀ k q, d ≠ .num k q) (h : CvL [d] ds) : ds = [d] := by
  cases ds with
  | nil => exact h.elim
  | cons e t =>
    cases t with
    | cons e t => exact h.2.elim
    | nil => rw [cv_same hd h.1]
theorem cvs2 {d e : D} {ds : List D} (hd : ∀ k q, d ≠ .num k q) (he : ∀ k q, e ≠ .num k q) (h : CvL [d, e] ds) : ds = [d, e] := by
  cases ds with
  | nil => exact h.elim
  | cons x t => rw [cv_same hd h.1, cvs1 he h.2]
theorem cvo1 {d : D} (hd : ∀ k q, d ≠ .num k q) : CvL [d] [d] := ⟨.same d hd, trivial⟩
theorem cvo2 {d e : D} (hd : ∀ k q, d ≠ .num k q) (he : ∀ k q, e ≠ .num k q) : CvL [d, e] [d, e] := ⟨.same d hd, .same e he, trivial⟩

def nD (q : Rat) : D := .num 1 q
@[simp] theorem nD_size (q : Rat) : (nD q).size = 3 := rfl
@[simp] theorem nD_agg (q : Rat) : (nD q).isAgg = true := rfl
@[simp] theorem nD_lit (q : Rat) : (nD q).isLit = false := rfl
theorem nD_inj {a b : Rat} (h : nD a = nD b) : a = b := by unfold nD at h; injection h
def f1E (p : Q1) : List D := [nD p.a]
theorem f1E_inj (p q : Q1) (h : f1E p = f1E q) : p = q := by
  obtain ⟨a⟩ := p; obtain ⟨b⟩ := q
  simp only [f1E, List.cons.injEq, and_true] at h
  rw [nD_inj h]
def f2E (p : Q2) : List D := [nD p.a, nD p.b]
theorem f2E_inj (p q : Q2) (h : f2E p = f2E q) : p = q := by
  obtain ⟨a, b⟩ := p; obtain ⟨c, d⟩ := q
  simp only [f2E, List.cons.injEq, and_true] at h
  rw [nD_inj h.1, nD_inj h.2]
end Go.Proofs.Ytlniifhdimaliaa.Ae

/-! impl.rat: what it holds; little, big, fit, ri, rq, low, neg. No condition. -/
namespace Go.Proofs.Ytlniifhdimaliaa.Ae
open Go Go.RowKit Go.Proofs.Ytlniifhdimaliaa.Dig
variable {N : NR}

def smallQ (q : Rat) : Prop := q.num.natAbs < 9223372036854775808 ∧ q.den < 9223372036854775808
instance (q : Rat) : Decidable (smallQ q) := by unfold smallQ; infer_instance
/-- A fraction as the program holds it. -/
def eRat (q : Rat) : D := if smallQ q then .agg [i64D q.num, i64D q.den, .lit (.pointer none)] else .agg [i64D 0, i64D 0, .ptr (eBR q)]
theorem eRat_s {q : Rat} (h : smallQ q) : eRat q = .agg [i64D q.num, i64D q.den, .lit (.pointer none)] := by unfold eRat; rw [if_pos h]
theorem eRat_b {q : Rat} (h : ¬ smallQ q) : eRat q = .agg [i64D 0, i64D 0, .ptr (eBR q)] := by unfold eRat; rw [if_neg h]
@[simp] theorem eRat_size (q : Rat) : (eRat q).size = 3 := by unfold eRat; split <;> rfl
@[simp] theorem eRat_agg (q : Rat) : (eRat q).isAgg = true := by unfold eRat; split <;> rfl
@[simp] theorem eRat_lit (q : Rat) : (eRat q).isLit = false := by unfold eRat; split <;> rfl
theorem eRat_inj {a b : Rat} (h : eRat a = eRat b) : a = b := by
  by_cases ha : smallQ a <;> by_cases hb : smallQ b
  · rw [eRat_s ha, eRat_s hb] at h
    simp only [D.agg.injEq, List.cons.injEq, and_true, i64D, D.lit.injEq, Value.int.injEq, true_and] at h
    exact Rat.ext h.1 (by omega)
  · rw [eRat_s ha, eRat_b hb] at h; simp at h
  · rw [eRat_b ha, eRat_s hb] at h; simp at h
  · rw [eRat_b ha, eRat_b hb] at h
    simp only [D.agg.injEq, List.cons.injEq, and_true, true_and, D.ptr.injEq] at h
    exact eBR_inj h
def r1E (p : Q1) : List D := [eRat p.a]
theorem r1E_inj (p q : Q1) (h : r1E p = r1E q) : p = q := by
  obtain ⟨a⟩ := p; obtain ⟨b⟩ := q
  simp only [r1E, List.cons.injEq, and_true] at h
  rw [eRat_inj h]
def r2E (p : Q2) : List D := [eRat p.a, eRat p.b]
theorem r2E_inj (p q : Q2) (h : r2E p = r2E q) : p = q := by
  obtain ⟨a, b⟩ := p; obtain ⟨c, d⟩ := q
  simp only [r2E, List.cons.injEq, and_true] at h
  rw [eRat_inj h.1, eRat_inj h.2]
def boolD (b : Bool) : D := .lit (.bool b)
theorem smallQ_qsz {q : Rat} (h : smallQ q) : qsz q ≤ 2 := by
  unfold smallQ at h
  exact Nat.max_le.2 ⟨ln_i64 (by omega), ln_i64 (by omega)⟩

/-! little -/
def lit31 (q : Rat) : Prop := q.num.natAbs < 2147483648 ∧ q.den < 2147483648
instance (q : Rat) : Decidable (lit31 q) := by unfold lit31; infer_instance
theorem lit31_small {q : Rat} (h : lit31 q) : smallQ q := ⟨by unfold lit31 at h; omega, by unfold lit31 at h; omega⟩
noncomputable def littleC := ctD r1E (fun p => True) (fun p => [boolD (decide (lit31 p.a))])
theorem littleC_at (a : Rat) : littleC [eRat a] = (True, [boolD (decide (lit31 a))]) := ctD_at r1E_inj ⟨a⟩
/-! big -/
noncomputable def bigIC := ctD r1E (fun p => True) (fun p => [.ptr (eBR p.a)])
theorem bigIC_at (a : Rat) : bigIC [eRat a] = (True, [.ptr (eBR a)]) := ctD_at r1E_inj ⟨a⟩
/-! fit -/
noncomputable def fitC := ctD pbE (fun p => qsz p.a < 1099511627776) (fun p => [eRat p.a])
theorem fitC_at (a : Rat) : fitC [.ptr (eBR a)] = (qsz a < 1099511627776, [eRat a]) := ctD_at pbE_inj ⟨a⟩
/-! ri, rq, low, neg -/
theorem smallQ_int {n : Int} (h : n.natAbs < 9223372036854775808) : smallQ (n : Rat) := ⟨by rw [Rat.num_intCast]; exact h, by rw [Rat.den_intCast]; decide⟩
noncomputable def riC := ctD z1E (fun p => p.a.natAbs < 9223372036854775808) (fun p => [eRat (p.a : Rat)])
theorem riC_at (a : Int) : riC [i64D a] = (a.natAbs < 9223372036854775808, [eRat (a : Rat)]) := ctD_at z1E_inj ⟨a⟩
/-- A fraction in lowest terms. -/
def QI (n d : Int) : Prop := 0 < d ∧ Int.gcd n d = 1 ∧ n.natAbs < 9223372036854775808 ∧ d < 9223372036854775808
theorem QI_num {n d : Int} (h : QI n d) : (Rat.divInt n d).num = n ∧ ((Rat.divInt n d).den : Int) = d := by
  obtain ⟨h1, h2, _⟩ := h
  obtain ⟨e1, e2⟩ := low_pos (a := n) h1
  rw [h2] at e1 e2
  rw [← e1, ← e2]
  simp
theorem QI_small {n d : Int} (h : QI n d) : smallQ (Rat.divInt n d) := by
  obtain ⟨e1, e2⟩ := QI_num h
  obtain ⟨h1, h2, h3, h4⟩ := h
  refine ⟨by rw [e1]; exact h3, by omega⟩
theorem eRat_QI {n d : Int} (h : QI n d) : eRat (Rat.divInt n d) = .agg [i64D n, i64D d, .lit (.pointer none)] := by
  obtain ⟨e1, e2⟩ := QI_num h
  rw [eRat_s (QI_small h), e1, e2]
noncomputable def rqC := ctD qE (fun p => QI p.a p.b) (fun p => [eRat (Rat.divInt p.a p.b)])
theorem rqC_at (a b : Int) : rqC [eQ a b] = (QI a b, [eRat (Rat.divInt a b)]) := ctD_at qE_inj ⟨a, b⟩
/-! low -/
noncomputable def lowC := ctD iiE (fun p => p.a.natAbs < 9223372036854775808 ∧ 0 < p.b ∧ p.b < 9223372036854775808) (fun p => [eRat (Rat.divInt p.a p.b)])
theorem lowC_at (a b : Int) : lowC [i64D a, i64D b] = ((a.natAbs < 9223372036854775808 ∧ 0 < b ∧ b < 9223372036854775808), [eRat (Rat.divInt a b)]) := ctD_at iiE_inj ⟨a, b⟩
theorem small_divInt {n d : Int} (hn : n.natAbs < 9223372036854775808) (h0 : 0 < d) (hd : d < 9223372036854775808) : smallQ (Rat.divInt n d) :=
  ⟨Nat.lt_of_le_of_lt (num_le n d) hn, Nat.lt_of_le_of_lt (den_le (by omega)) (by omega)⟩
/-! neg -/
noncomputable def rngC := ctD r1E (fun p => qsz p.a < MX) (fun p => [eRat (-p.a)])
theorem rngC_at (a : Rat) : rngC [eRat a] = (qsz a < MX, [eRat (-a)]) := ctD_at r1E_inj ⟨a⟩
theorem smallQ_neg {a : Rat} : smallQ (-a) ↔ smallQ a := by unfold smallQ; rw [Rat.neg_num, Rat.neg_den, Int.natAbs_neg]
end Go.Proofs.Ytlniifhdimaliaa.Ae

/-! impl.rat: add, sub. No condition. -/
namespace Go.Proofs.Ytlniifhdimaliaa.Ae
open Go Go.RowKit Go.Proofs.Ytlniifhdimaliaa.Dig
variable {N : NR}

theorem rat_eq (a : Rat) : a = (a.num : Rat) / ((a.den : Int) : Rat) := by
  rw [← Rat.divInt_eq_div, Rat.num_divInt_den]
theorem den_rz (a : Rat) : ((a.den : Int) : Rat) ≠ 0 := by
  intro h
  exact dz a (by exact_mod_cast h)
theorem add_same {a b : Rat} (h : a.den = b.den) : a + b = Rat.divInt (a.num + b.num) a.den := by
  have h1 := rat_eq a
  have h2 := rat_eq b
  rw [← h] at h2
  rw [Rat.divInt_eq_div, Rat.intCast_add]
  have h3 := den_rz a
  grind
theorem sub_same {a b : Rat} (h : a.den = b.den) : a - b = Rat.divInt (a.num - b.num) a.den := by
  have h1 := rat_eq a
  have h2 := rat_eq b
  rw [← h] at h2
  rw [Rat.divInt_eq_div, Rat.intCast_sub]
  have h3 := den_rz a
  grind
theorem sub_divInt (a b : Rat) : a - b = Rat.divInt (a.num * b.den - b.num * a.den) (a.den * b.den) := by
  have := add_divInt a (-b)
  rw [Rat.neg_num, Rat.neg_den, Int.neg_mul, ← Int.sub_eq_add_neg, ← Rat.sub_eq_add_neg] at this
  exact this
def raMf : FuncId → Bool := fun f => f == 99999999 || f == 99999999 || f == 99999999
attribute [simp] raMf
theorem prod31 {n d : Int} (hn : n.natAbs < 2147483648) (hd : 0 < d ∧ d < 2147483648) : -4611686018427387904 < n * d ∧ n * d < 4611686018427387904 := prod_bd hn hd

noncomputable def raddC := ctD r2E (fun p => qsz p.a + qsz p.b < MX) (fun p => [eRat (p.a + p.b)])
theorem raddC_at (a b : Rat) : raddC [eRat a, eRat b] = (qsz a + qsz b < MX, [eRat (a + b)]) := ctD_at r2E_inj ⟨a, b⟩
noncomputable def rsubC := ctD r2E (fun p => qsz p.a + qsz p.b < MX) (fun p => [eRat (p.a - p.b)])
theorem rsubC_at (a b : Rat) : rsubC [eRat a, eRat b] = (qsz a + qsz b < MX, [eRat (a - b)]) := ctD_at r2E_inj ⟨a, b⟩
end Go.Proofs.Ytlniifhdimaliaa.Ae

/-! impl.rat: inv, sign, q, floor, fromInt; math/bits.Mul64. No condition. -/
namespace Go.Proofs.Ytlniifhdimaliaa.Ae
open Go Go.RowKit Go.Proofs.Ytlniifhdimaliaa.Dig
variable {N : NR}

/-! sign -/
noncomputable def rsgC := ctD r1E (fun p => True) (fun p => [i64D p.a.num.sign])
theorem rsgC_at (a : Rat) : rsgC [eRat a] = (True, [i64D a.num.sign]) := ctD_at r1E_inj ⟨a⟩
/-! inv -/
noncomputable def rinvC := ctD r1E (fun p => qsz p.a < MX ∧ p.a ≠ 0) (fun p => [eRat p.a⁻¹])
theorem rinvC_at (a : Rat) : rinvC [eRat a] = ((qsz a < MX ∧ a ≠ 0), [eRat a⁻¹]) := ctD_at r1E_inj ⟨a⟩
theorem inv_pos {a : Rat} (h : 0 < a.num) : a⁻¹.num = a.den ∧ (a⁻¹.den : Int) = a.num := by
  have hr : Int.gcd a.den a.num = 1 := by rw [Int.gcd_comm]; exact a.reduced
  rw [inv_divInt]
  obtain ⟨e1, e2⟩ := low_pos (a := a.den) h
  rw [hr] at e1 e2
  rw [← e1, ← e2]
  simp
theorem inv_neg {a : Rat} (h : a.num < 0) : a⁻¹.num = -(a.den : Int) ∧ (a⁻¹.den : Int) = -a.num := by
  have hr : Int.gcd a.den a.num = 1 := by rw [Int.gcd_comm]; exact a.reduced
  rw [inv_divInt]
  obtain ⟨e1, e2⟩ := low_neg (a := a.den) h
  rw [hr] at e1 e2
  rw [← e1, ← e2]
  simp [Int.tdiv_neg]
/-! q -/
def MN : Int := 1000000000000000000
def isQ (q : Rat) : Prop := q.num.natAbs ≤ 1000000000000000000 ∧ q.den ≤ 1000000000000000000
instance (q : Rat) : Decidable (isQ q) := by unfold isQ; infer_instance
def oQ (q : Rat) : List D := if isQ q then [eQ q.num q.den, boolD true] else [eQ 0 0, boolD false]
noncomputable def rqqC := ctD r1E (fun p => True) (fun p => oQ p.a)
theorem rqqC_at (a : Rat) : rqqC [eRat a] = (True, oQ a) := ctD_at r1E_inj ⟨a⟩
/-! floor, fromInt -/
noncomputable def rflC := ctD r1E (fun p => qsz p.a < MX) (fun p => [.ptr (eZ p.a.floor)])
theorem rflC_at (a : Rat) : rflC [eRat a] = (qsz a < MX, [.ptr (eZ a.floor)]) := ctD_at r1E_inj ⟨a⟩
noncomputable def fiC := ctD pE (fun p => ln p.a.natAbs < MX) (fun p => [eRat (p.a : Rat)])
theorem fiC_at (a : Int) : fiC [.ptr (eZ a)] = (ln a.natAbs < MX, [eRat (a : Rat)]) := ctD_at pE_inj ⟨a⟩
theorem qsz_int (a : Int) : qsz (a : Rat) = max (ln a.natAbs) 1 := by unfold qsz; rw [Rat.num_intCast, Rat.den_intCast, ln_one]
/-! Mul64 -/
noncomputable def m64C := ctD uuE (fun p => p.a < 18446744073709551616 ∧ p.b < 18446744073709551616) (fun p => [u64D (p.a * p.b / 18446744073709551616), u64D (p.a * p.b % 18446744073709551616)])
theorem m64C_at (a b : Nat) : m64C [u64D a, u64D b] = ((a < 18446744073709551616 ∧ b < 18446744073709551616), [u64D (a * b / 18446744073709551616), u64D (a * b % 18446744073709551616)]) := ctD_at uuE_inj ⟨a, b⟩
theorem and32 (x : Nat) (h : x < 18446744073709551616) : bAnd .u64 x 4294967295 = ((x % 4294967296 : Nat) : Int) := by
  have := bAnd64 x 4294967295 h (by decide)
  rw [show (x &&& 4294967295) = x % 4294967296 from Nat.and_two_pow_sub_one_eq_mod x 32] at this
  exact this
theorem mul_split (x1 x0 y1 y0 : Nat) : (x1 * 4294967296 + x0) * (y1 * 4294967296 + y0) = x1 * y1 * 18446744073709551616 + (x1 * y0 + x0 * y1) * 4294967296 + x0 * y0 := by
  grind
theorem bd32 {x y : Nat} (hx : x < 4294967296) (hy : y < 4294967296) : x * y ≤ 18446744065119617025 := by
  have := Nat.mul_le_mul (show x ≤ 4294967295 by omega) (show y ≤ 4294967295 by omega)
  omega
end Go.Proofs.Ytlniifhdimaliaa.Ae

/-! impl.rat: mul, div. No condition. -/
namespace Go.Proofs.Ytlniifhdimaliaa.Ae
open Go Go.RowKit Go.Proofs.Ytlniifhdimaliaa.Dig
variable {N : NR}

theorem mul_low (a b : Rat) : (a * b).num = (a.num.tdiv (Nat.gcd a.num.natAbs b.den)) * (b.num.tdiv (Nat.gcd b.num.natAbs a.den)) ∧ (a * b).den = (a.den / Nat.gcd b.num.natAbs a.den) * (b.den / Nat.gcd a.num.natAbs b.den) := by
  have h1 : (Nat.gcd a.num.natAbs b.den : Int) ∣ a.num := Int.ofNat_dvd_left.2 (Nat.gcd_dvd_left _ _)
  have h2 : (Nat.gcd b.num.natAbs a.den : Int) ∣ b.num := Int.ofNat_dvd_left.2 (Nat.gcd_dvd_left _ _)
  rw [Int.tdiv_eq_ediv_of_dvd h1, Int.tdiv_eq_ediv_of_dvd h2]
  show (Rat.mul a b).num = _ ∧ (Rat.mul a b).den = _
  unfold Rat.mul
  simp
noncomputable def rmC := ctD r2E (fun p => qsz p.a + qsz p.b < MX) (fun p => [eRat (p.a * p.b)])
theorem rmC_at (a b : Rat) : rmC [eRat a, eRat b] = (qsz a + qsz b < MX, [eRat (a * b)]) := ctD_at r2E_inj ⟨a, b⟩
/-- What the third way of mul reckons with: the parts without what divides both. -/
theorem mul_way {n n' : Int} {d d' g h : Nat} (hg : g = Nat.gcd n.natAbs d') (hh : h = Nat.gcd n'.natAbs d) (hd : 0 < d) (hd' : 0 < d') (hn : n.natAbs < 9223372036854775808) (hn' : n'.natAbs < 9223372036854775808) (hdl : d < 9223372036854775808) (hdl' : d' < 9223372036854775808) :
    0 < g ∧ 0 < h ∧ g < 9223372036854775808 ∧ h < 9223372036854775808 ∧ (n.tdiv g).natAbs < 9223372036854775808 ∧ (n'.tdiv h).natAbs < 9223372036854775808 ∧ Int.tdiv d h = ((d / h : Nat) : Int) ∧ Int.tdiv d' g = ((d' / g : Nat) : Int) ∧ d / h < 9223372036854775808 ∧ d' / g < 9223372036854775808 := by
  have g1 : 0 < g := by rw [hg]; exact Nat.gcd_pos_of_pos_right _ hd'
  have h1 : 0 < h := by rw [hh]; exact Nat.gcd_pos_of_pos_right _ hd
  have g2 : g ≤ d' := by rw [hg]; exact Nat.le_of_dvd hd' (Nat.gcd_dvd_right _ _)
  have h2 : h ≤ d := by rw [hh]; exact Nat.le_of_dvd hd (Nat.gcd_dvd_right _ _)
  have b1 : (n.tdiv g).natAbs ≤ n.natAbs := by rw [Int.natAbs_tdiv]; exact Nat.div_le_self _ _
  have b2 : (n'.tdiv h).natAbs ≤ n'.natAbs := by rw [Int.natAbs_tdiv]; exact Nat.div_le_self _ _
  have b3 := Nat.div_le_self d h
  have b4 := Nat.div_le_self d' g
  exact ⟨g1, h1, by omega, by omega, by omega, by omega, tdiv_nat d h, tdiv_nat d' g, by omega, by omega⟩
theorem sign_prod (x y : Int) (h : (x * y).natAbs < 9223372036854775808) : (if (decide (x < 0) != decide (y < 0)) = true then IntKind.i64.wrap (-((x.natAbs * y.natAbs : Nat) : Int)) else ((x.natAbs * y.natAbs : Nat) : Int)) = x * y := by
  rw [← Int.natAbs_mul]
  by_cases hx : x < 0 <;> by_cases hy : y < 0
  · have := Int.mul_pos_of_neg_of_neg hx hy
    simp [hx, hy]; omega
  · have : x * y ≤ 0 := Int.mul_nonpos_of_nonpos_of_nonneg (by omega) (by omega)
    simp [hx, hy]
    rw [i64_id _ (by omega) (by omega)]; omega
  · have : x * y ≤ 0 := Int.mul_nonpos_of_nonneg_of_nonpos (by omega) (by omega)
    simp [hx, hy]
    rw [i64_id _ (by omega) (by omega)]; omega
  · have : 0 ≤ x * y := Int.mul_nonneg (by omega) (by omega)
    simp [hx, hy]; omega
def rmMf : FuncId → Bool := fun f => f == 99999999 || f == 99999999
attribute [simp] rmMf
/-! div -/
noncomputable def rdvC := ctD r2E (fun p => qsz p.a + qsz p.b < MX ∧ p.b ≠ 0) (fun p => [eRat (p.a / p.b)])
theorem rdvC_at (a b : Rat) : rdvC [eRat a, eRat b] = ((qsz a + qsz b < MX ∧ b ≠ 0), [eRat (a / b)]) := ctD_at r2E_inj ⟨a, b⟩
end Go.Proofs.Ytlniifhdimaliaa.Ae

/-! impl.rat: cmp; impl.QOk, allQ. No condition. -/
namespace Go.Proofs.Ytlniifhdimaliaa.Ae
open Go Go.RowKit Go.Proofs.Ytlniifhdimaliaa.Dig
variable {N : NR}

noncomputable def rcC := ctD r2E (fun p => qsz p.a + qsz p.b < MX) (fun p => [i64D (qcmp p.a p.b)])
theorem rcC_at (a b : Rat) : rcC [eRat a, eRat b] = (qsz a + qsz b < MX, [i64D (qcmp a b)]) := ctD_at r2E_inj ⟨a, b⟩
theorem qcmp_same {a b : Rat} (h : a.den = b.den) : qcmp a b = (a.num - b.num).sign := by
  unfold qcmp
  rw [h, ← Int.sub_mul, Int.sign_mul, Int.sign_eq_one_of_pos (show 0 < (b.den : Int) by have := b.den_pos; omega), Int.mul_one]
theorem sgn_cases (x : Int) : (x < 0 ∧ x.sign = -1) ∨ (x = 0 ∧ x.sign = 0) ∨ (0 < x ∧ x.sign = 1) := by
  rcases Int.lt_trichotomy x 0 with h | h | h
  · exact .inl ⟨h, Int.sign_eq_neg_one_of_neg h⟩
  · exact .inr (.inl ⟨h, by rw [h]; rfl⟩)
  · exact .inr (.inr ⟨h, Int.sign_eq_one_of_pos h⟩)
/-- By the signs, and by the products' sizes. -/
theorem qcmp_way (a b : Rat) : (a.num.sign < b.num.sign → qcmp a b = -1) ∧ (b.num.sign < a.num.sign → qcmp a b = 1) ∧
    (a.num.sign = b.num.sign → (a.num.natAbs * b.den < b.num.natAbs * a.den → qcmp a b = -a.num.sign) ∧ (b.num.natAbs * a.den < a.num.natAbs * b.den → qcmp a b = a.num.sign) ∧ (a.num.natAbs * b.den = b.num.natAbs * a.den → qcmp a b = 0)) := by
  have da := a.den_pos
  have db := b.den_pos
  have e1 : a.num = a.num.sign * a.num.natAbs := (Int.sign_mul_natAbs a.num).symm
  have e2 : b.num = b.num.sign * b.num.natAbs := (Int.sign_mul_natAbs b.num).symm
  have m1 : a.num * b.den = a.num.sign * ((a.num.natAbs * b.den : Nat) : Int) := by rw [Int.natCast_mul, ← Int.mul_assoc, ← e1]
  have m2 : b.num * a.den = b.num.sign * ((b.num.natAbs * a.den : Nat) : Int) := by rw [Int.natCast_mul, ← Int.mul_assoc, ← e2]
  have p1 : a.num.sign ≠ 0 → 0 < a.num.natAbs * b.den := fun h => Nat.mul_pos (by rcases sgn_cases a.num with ⟨h1, h2⟩ | ⟨h1, h2⟩ | ⟨h1, h2⟩ <;> omega) db
  have p2 : b.num.sign ≠ 0 → 0 < b.num.natAbs * a.den := fun h => Nat.mul_pos (by rcases sgn_cases b.num with ⟨h1, h2⟩ | ⟨h1, h2⟩ | ⟨h1, h2⟩ <;> omega) da
  have z1 : a.num.sign = 0 → a.num.natAbs * b.den = 0 := fun h => by
    have : a.num.natAbs = 0 := by rcases sgn_cases a.num with ⟨h1, h2⟩ | ⟨h1, h2⟩ | ⟨h1, h2⟩ <;> omega
    rw [this, Nat.zero_mul]
  have z2 : b.num.sign = 0 → b.num.natAbs * a.den = 0 := fun h => by
    have : b.num.natAbs = 0 := by rcases sgn_cases b.num with ⟨h1, h2⟩ | ⟨h1, h2⟩ | ⟨h1, h2⟩ <;> omega
    rw [this, Nat.zero_mul]
  unfold qcmp
  rw [m1, m2]
  have h1 := sgn_cases a.num
  have h2 := sgn_cases b.num
  generalize a.num.natAbs * b.den = A at *
  generalize b.num.natAbs * a.den = C at *
  generalize a.num.sign = s at *
  generalize b.num.sign = t at *
  have hs : s = -1 ∨ s = 0 ∨ s = 1 := by rcases h1 with ⟨_, h⟩ | ⟨_, h⟩ | ⟨_, h⟩ <;> simp [h]
  have ht : t = -1 ∨ t = 0 ∨ t = 1 := by rcases h2 with ⟨_, h⟩ | ⟨_, h⟩ | ⟨_, h⟩ <;> simp [h]
  have neg : ∀ x : Int, x < 0 → x.sign = -1 := fun x h => Int.sign_eq_neg_one_of_neg h
  have pos : ∀ x : Int, 0 < x → x.sign = 1 := fun x h => Int.sign_eq_one_of_pos h
  clear h1 h2 m1 m2 e1 e2
  rcases hs with rfl | rfl | rfl <;> rcases ht with rfl | rfl | rfl <;> simp at p1 p2 z1 z2
  all_goals refine ⟨fun h => ?_, fun h => ?_, fun h => ⟨fun h' => ?_, fun h' => ?_, fun h' => ?_⟩⟩
  all_goals first
    | omega
    | (apply neg; omega)
    | (apply pos; omega)
    | (rw [neg _ (by omega)]; omega)
    | (rw [pos _ (by omega)]; omega)
    | (subst h'; simp; done)
    | (simp [*]; done)
/-! QOk, allQ -/
def qOk (n d : Int) : Prop := (1 ≤ d ∧ d ≤ 1000000000000000000) ∧ (-1000000000000000000 ≤ n ∧ n ≤ 1000000000000000000) ∧ Int.gcd n d = 1
instance (n d : Int) : Decidable (qOk n d) := by unfold qOk; infer_instance
theorem qOk_QI {n d : Int} (h : qOk n d) : QI n d := ⟨by unfold qOk at h; omega, h.2.2, by unfold qOk at h; omega, by unfold qOk at h; omega⟩
noncomputable def qokC := ctD qE (fun p => I64 p.a ∧ I64 p.b) (fun p => [boolD (decide (qOk p.a p.b))])
theorem qokC_at (a b : Int) : qokC [eQ a b] = ((I64 a ∧ I64 b), [boolD (decide (qOk a b))]) := ctD_at qE_inj ⟨a, b⟩
/-- A list of fractions as the program gets it. -/
structure QL where
  l : List (Int × Int)
def eQL (l : List (Int × Int)) : D := .sl 2 (l.map fun p => eQ p.1 p.2)
def qlE (p : QL) : List D := [eQL p.l]
theorem eQ_inj {a b c d : Int} (h : eQ a b = eQ c d) : a = c ∧ b = d := by
  simp only [eQ, D.agg.injEq, List.cons.injEq, and_true] at h
  exact ⟨i64D_inj h.1, i64D_inj h.2⟩
theorem eQL_inj : ∀ {a b : List (Int × Int)}, eQL a = eQL b → a = b
  | [], [], _ => rfl
  | x :: a, y :: b, h => by
    simp only [eQL, D.sl.injEq, List.map_cons, List.cons.injEq, true_and] at h
    obtain ⟨h1, h2⟩ := eQ_inj h.1
    have h3 : eQL a = eQL b := by unfold eQL; rw [h.2]
    rw [eQL_inj h3]
    congr 1
    exact Prod.ext h1 h2
  | [], _ :: _, h => by simp [eQL] at h
  | _ :: _, [], h => by simp [eQL] at h
theorem qlE_inj (p q : QL) (h : qlE p = qlE q) : p = q := by
  obtain ⟨a⟩ := p; obtain ⟨b⟩ := q
  simp only [qlE, List.cons.injEq, and_true] at h
  rw [eQL_inj h]
def I64p (p : Int × Int) : Prop := I64 p.1 ∧ I64 p.2
noncomputable def allQC := ctD qlE (fun p => p.l.length < 4611686018427387904 ∧ ∀ q ∈ p.l, I64p q) (fun p => [boolD (p.l.all fun q => decide (qOk q.1 q.2))])
theorem allQC_at (l : List (Int × Int)) : allQC [eQL l] = ((l.length < 4611686018427387904 ∧ ∀ q ∈ l, I64p q), [boolD (l.all fun q => decide (qOk q.1 q.2))]) := ctD_at qlE_inj ⟨l⟩
@[simp] theorem eQ_size (n d : Int) : (eQ n d).size = 2 := rfl
@[simp] theorem eQ_agg (n d : Int) : (eQ n d).isAgg = true := rfl
@[simp] theorem eQ_lit (n d : Int) : (eQ n d).isLit = false := rfl
def allQS (l : List (Int × Int)) (k : Nat) : St := ⟨[.any, .any, .any, .any, .any, .dat (eQL l), .dat (.lit (.int .i64 l.length)), .dat (.lit (.int .i64 k)), .any, .any, .any, .any, .any, .any, .any], [none, none, none, none, none, none, none, none, none, none, none, none, none, none, none]⟩
theorem all_drop {α : Type} (f : α → Bool) (l : List α) (k : Nat) (x : α) (h : l[k]? = some x) (hb : ∀ y ∈ l.take k, f y = true) : (f x = false → l.all f = false) ∧ (f x = true → ∀ y ∈ l.take (k + 1), f y = true) := by
  constructor
  · intro hx
    rw [List.all_eq_false]
    exact ⟨x, List.mem_of_getElem? h, by rw [hx]; simp⟩
  · intro hx y hy
    rw [take_succ l k x h] at hy
    rcases List.mem_append.1 hy with hy | hy
    · exact hb y hy
    · simp at hy; rw [hy]; exact hx
end Go.Proofs.Ytlniifhdimaliaa.Ae

/-! The reference's fractions as opaque numbers: the contracts. No condition. -/
namespace Go.Proofs.Ytlniifhdimaliaa.Ae
open Go Go.RowKit Go.Proofs.Ytlniifhdimaliaa.Dig

theorem nn_z (z : Int) : ∀ k q, eZ z ≠ .num k q := fun k q h => by unfold eZ at h; cases h
theorem nn_i (z : Int) : ∀ k q, i64D z ≠ .num k q := fun k q h => by unfold i64D at h; cases h
theorem nn_q (a b : Int) : ∀ k q, eQ a b ≠ .num k q := fun k q h => by unfold eQ at h; cases h
theorem nn_b (b : Bool) : ∀ k q, boolD b ≠ .num k q := fun k q h => by unfold boolD at h; cases h

noncomputable def nAddC := ctD f2E (fun p => qsz p.a + qsz p.b < MX) (fun p => [nD (p.a + p.b)])
theorem nAddC_at (a b : Rat) : nAddC [nD a, nD b] = (qsz a + qsz b < MX, [nD (a + b)]) := ctD_at f2E_inj ⟨a, b⟩
theorem nAdd_spec : SpecD NF Try.prog 33 nAddC := specD_num' l1rAdd_spec (fun ⟨a, b⟩ h ds hc => by
  obtain ⟨r, s, h1, rfl, h2, rfl, rfl⟩ := cv2 hc
  have h : qsz r.val + qsz s.val < MX := h
  obtain ⟨s1, s2, s3, s4, s5, s6, s7⟩ := cross_sz h1 h2 h
  have c := rAddC_at r s
  rw [c]
  exact ⟨⟨h1.1, h2.1, s1, s2, s3, s5⟩, cv_to (add_ok h1 h2 h), trivial⟩)
noncomputable def nMulC := ctD f2E (fun p => qsz p.a + qsz p.b < MX) (fun p => [nD (p.a * p.b)])
theorem nMulC_at (a b : Rat) : nMulC [nD a, nD b] = (qsz a + qsz b < MX, [nD (a * b)]) := ctD_at f2E_inj ⟨a, b⟩
theorem nMul_spec : SpecD NF Try.prog 31 nMulC := specD_num' l1rMul_spec (fun ⟨a, b⟩ h ds hc => by
  obtain ⟨r, s, h1, rfl, h2, rfl, rfl⟩ := cv2 hc
  have h : qsz r.val + qsz s.val < MX := h
  obtain ⟨s1, s2, s3, s4, s5, s6, s7⟩ := cross_sz h1 h2 h
  have c := rMulC_at r s
  rw [c]
  exact ⟨⟨h1.1, h2.1, s6, s5⟩, cv_to (mul_ok h1 h2 h), trivial⟩)
noncomputable def nSubC := ctD f2E (fun p => qsz p.a + qsz p.b < MX) (fun p => [nD (p.a - p.b)])
theorem nSubC_at (a b : Rat) : nSubC [nD a, nD b] = (qsz a + qsz b < MX, [nD (a - b)]) := ctD_at f2E_inj ⟨a, b⟩
noncomputable def nDivC := ctD f2E (fun p => qsz p.a + qsz p.b < MX ∧ p.b ≠ 0) (fun p => [nD (p.a / p.b)])
theorem nDivC_at (a b : Rat) : nDivC [nD a, nD b] = ((qsz a + qsz b < MX ∧ b ≠ 0), [nD (a / b)]) := ctD_at f2E_inj ⟨a, b⟩
noncomputable def nNegC := ctD f1E (fun p => True) (fun p => [nD (-p.a)])
theorem nNegC_at (a : Rat) : nNegC [nD a] = (True, [nD (-a)]) := ctD_at f1E_inj ⟨a⟩
theorem nNeg_spec : SpecD NF Try.prog 32 nNegC := specD_num' l1rNeg_spec (fun ⟨a⟩ h ds hc => by
  obtain ⟨r, h1, rfl, rfl⟩ := cv1 hc
  have c := rNegC_at r
  rw [c]
  exact ⟨h1.1, cv_to ⟨neg_WV h1, neg_val r⟩, trivial⟩)
noncomputable def nSignC := ctD f1E (fun p => True) (fun p => [i64D p.a.num.sign])
theorem nSignC_at (a : Rat) : nSignC [nD a] = (True, [i64D a.num.sign]) := ctD_at f1E_inj ⟨a⟩
theorem nSign_spec : SpecD NF Try.prog 15 nSignC := specD_num' l1rSign_spec (fun ⟨a⟩ h ds hc => by
  obtain ⟨r, h1, rfl, rfl⟩ := cv1 hc
  have c := rSignC_at r
  rw [c]
  refine ⟨h1.1, ?_⟩
  rw [sign_val h1.1]
  exact cvo1 (nn_i _))
noncomputable def nCmpC := ctD f2E (fun p => qsz p.a + qsz p.b < MX) (fun p => [i64D (qcmp p.a p.b)])
theorem nCmpC_at (a b : Rat) : nCmpC [nD a, nD b] = (qsz a + qsz b < MX, [i64D (qcmp a b)]) := ctD_at f2E_inj ⟨a, b⟩
theorem nCmp_spec : SpecD NF Try.prog 27 nCmpC := specD_num' l1rCmp_spec (fun ⟨a, b⟩ h ds hc => by
  obtain ⟨r, s, h1, rfl, h2, rfl, rfl⟩ := cv2 hc
  have h : qsz r.val + qsz s.val < MX := h
  obtain ⟨s1, s2, s3, s4, s5, s6, s7⟩ := cross_sz h1 h2 h
  have c := rCmpC_at r s
  rw [c]
  refine ⟨⟨h1.1, h2.1, s1, s2, s4⟩, ?_⟩
  rw [cmp_val h1.1 h2.1]
  exact cvo1 (nn_i _))
noncomputable def nFloorC := ctD f1E (fun p => True) (fun p => [eZ p.a.floor])
theorem nFloorC_at (a : Rat) : nFloorC [nD a] = (True, [eZ a.floor]) := ctD_at f1E_inj ⟨a⟩
def d3 (r : Int × Int × Bool) : List D := [eQ r.1 r.2.1, boolD r.2.2]
noncomputable def nQC := ctD f1E (fun p => True) (fun p => d3 (oq p.a))
theorem nQC_at (a : Rat) : nQC [nD a] = (True, d3 (oq a)) := ctD_at f1E_inj ⟨a⟩
noncomputable def nWholeC := ctD zE (fun p => SZ p.a) (fun p => [nD (p.a : Rat)])
theorem nWholeC_at (a : Int) : nWholeC [eZ a] = (SZ a, [nD (a : Rat)]) := ctD_at zE_inj ⟨a⟩
theorem divInt_one (a : Int) : Rat.divInt a 1 = (a : Rat) := by rw [Rat.divInt_eq_div]; grind
noncomputable def nqC := ctD qE (fun p => I64 p.a ∧ I64 p.b ∧ 0 < p.b) (fun p => [nD (Rat.divInt p.a p.b)])
theorem nqC_at (a b : Int) : nqC [eQ a b] = ((I64 a ∧ I64 b ∧ 0 < b), [nD (Rat.divInt a b)]) := ctD_at qE_inj ⟨a, b⟩
noncomputable def nOfC := ctD iiE (fun p => I64 p.a ∧ I64 p.b ∧ 0 < p.b) (fun p => [nD (Rat.divInt p.a p.b)])
theorem nOfC_at (a b : Int) : nOfC [i64D a, i64D b] = ((I64 a ∧ I64 b ∧ 0 < b), [nD (Rat.divInt a b)]) := ctD_at iiE_inj ⟨a, b⟩
theorem nOf_spec : SpecD NF Try.prog 37 nOfC := specD_num' l1rOf_spec (fun ⟨a, b⟩ h ds hc => by
  obtain rfl := cvs2 (nn_i a) (nn_i b) hc
  obtain ⟨h1, h2, h3⟩ := h
  have h1 : I64 a := h1
  have h2 : I64 b := h2
  have h3 : 0 < b := h3
  have c := ofC_at a b
  rw [c]
  exact ⟨⟨h1, h2, h3⟩, cv_to (ofR_ok h3 h1 h2), trivial⟩)
noncomputable def nBigC := ctD zzE (fun p => SZ p.a ∧ SZ p.b ∧ p.b ≠ 0) (fun p => [nD (Rat.divInt p.a p.b)])
theorem nBigC_at (a b : Int) : nBigC [eZ a, eZ b] = ((SZ a ∧ SZ b ∧ b ≠ 0), [nD (Rat.divInt a b)]) := ctD_at zzE_inj ⟨a, b⟩
theorem nBig_spec : SpecD NF Try.prog 38 nBigC := specD_num' l1rBig_spec (fun ⟨a, b⟩ h ds hc => by
  obtain rfl := cvs2 (nn_z a) (nn_z b) hc
  obtain ⟨h1, h2, h3⟩ := h
  have h1 : SZ a := h1
  have h2 : SZ b := h2
  have h3 : b ≠ 0 := h3
  have c := bigC_at a b
  rw [c]
  exact ⟨⟨h1, h2, h3⟩, cv_to (bigR_ok h3 h1 h2), trivial⟩)
theorem oQ_d3 (q : Rat) : oQ q = d3 (oq q) := by
  unfold oQ oq d3
  by_cases h : isQ q
  · rw [if_pos h, if_pos (show q.num.natAbs ≤ 1000000000000000000 ∧ q.den ≤ 1000000000000000000 from h)]
  · rw [if_neg h, if_neg (show ¬ (q.num.natAbs ≤ 1000000000000000000 ∧ q.den ≤ 1000000000000000000) from h)]
end Go.Proofs.Ytlniifhdimaliaa.Ae

/-! impl: QAdd, QSub, QMul, QDiv, QCmp, QFloor, QOf. No condition. -/
namespace Go.Proofs.Ytlniifhdimaliaa.Ae
open Go Go.RowKit Go.Proofs.Ytlniifhdimaliaa.Dig

structure Q4 where
  a : Int
  b : Int
  c : Int
  d : Int
def q4E (p : Q4) : List D := [eQ p.a p.b, eQ p.c p.d]
theorem q4E_inj (p q : Q4) (h : q4E p = q4E q) : p = q := by
  obtain ⟨a, b, c, d⟩ := p; obtain ⟨a', b', c', d'⟩ := q
  simp only [q4E, List.cons.injEq, and_true] at h
  obtain ⟨h1, h2⟩ := eQ_inj h.1
  obtain ⟨h3, h4⟩ := eQ_inj h.2
  simp only [h1, h2, h3, h4]
def I4 (p : Q4) : Prop := (I64 p.a ∧ I64 p.b) ∧ I64 p.c ∧ I64 p.d
def no3 : Int × Int × Bool := (0, 0, false)
def opR (ok : Prop) [Decidable ok] (F : Rat → Rat → Rat) (p : Q4) : Int × Int × Bool := if ok then oq (F (Rat.divInt p.a p.b) (Rat.divInt p.c p.d)) else no3
theorem opR_y {ok : Prop} [Decidable ok] {F : Rat → Rat → Rat} {p : Q4} (h : ok) : opR ok F p = oq (F (Rat.divInt p.a p.b) (Rat.divInt p.c p.d)) := if_pos h
theorem opR_n {ok : Prop} [Decidable ok] {F : Rat → Rat → Rat} {p : Q4} (h : ¬ ok) : opR ok F p = no3 := if_neg h
def ok2 (p : Q4) : Prop := qOk p.a p.b ∧ qOk p.c p.d
instance (p : Q4) : Decidable (ok2 p) := by unfold ok2; infer_instance
def okD (p : Q4) : Prop := ok2 p ∧ p.c ≠ 0
instance (p : Q4) : Decidable (okD p) := by unfold okD; infer_instance
def okF (p : Q4) : Prop := ok2 p ∧ 0 < p.c
instance (p : Q4) : Decidable (okF p) := by unfold okF; infer_instance
def flr (a b : Rat) : Rat := ((a / b).floor : Rat) * b
noncomputable def qaddC := ctD q4E I4 (fun p => d3 (opR (ok2 p) (· + ·) p))
noncomputable def qsubC := ctD q4E I4 (fun p => d3 (opR (ok2 p) (· - ·) p))
noncomputable def qmulC := ctD q4E I4 (fun p => d3 (opR (ok2 p) (· * ·) p))
noncomputable def qdivC := ctD q4E I4 (fun p => d3 (opR (okD p) (· / ·) p))
noncomputable def qflrC := ctD q4E I4 (fun p => d3 (opR (okF p) flr p))
noncomputable def qcmpC := ctD q4E I4 (fun p => [i64D (if ok2 p then qcmp (Rat.divInt p.a p.b) (Rat.divInt p.c p.d) else 2)])
noncomputable def qofC := ctD iiE (fun p => I64 p.a ∧ I64 p.b) (fun p => d3 (if p.b = 0 then no3 else oq (Rat.divInt p.a p.b)))
theorem qaddC_at (a b c d : Int) : qaddC [eQ a b, eQ c d] = (I4 ⟨a, b, c, d⟩, d3 (opR (ok2 ⟨a, b, c, d⟩) (· + ·) ⟨a, b, c, d⟩)) := ctD_at q4E_inj ⟨a, b, c, d⟩
theorem qsubC_at (a b c d : Int) : qsubC [eQ a b, eQ c d] = (I4 ⟨a, b, c, d⟩, d3 (opR (ok2 ⟨a, b, c, d⟩) (· - ·) ⟨a, b, c, d⟩)) := ctD_at q4E_inj ⟨a, b, c, d⟩
theorem qmulC_at (a b c d : Int) : qmulC [eQ a b, eQ c d] = (I4 ⟨a, b, c, d⟩, d3 (opR (ok2 ⟨a, b, c, d⟩) (· * ·) ⟨a, b, c, d⟩)) := ctD_at q4E_inj ⟨a, b, c, d⟩
theorem qdivC_at (a b c d : Int) : qdivC [eQ a b, eQ c d] = (I4 ⟨a, b, c, d⟩, d3 (opR (okD ⟨a, b, c, d⟩) (· / ·) ⟨a, b, c, d⟩)) := ctD_at q4E_inj ⟨a, b, c, d⟩
theorem qflrC_at (a b c d : Int) : qflrC [eQ a b, eQ c d] = (I4 ⟨a, b, c, d⟩, d3 (opR (okF ⟨a, b, c, d⟩) flr ⟨a, b, c, d⟩)) := ctD_at q4E_inj ⟨a, b, c, d⟩
theorem qcmpC_at (a b c d : Int) : qcmpC [eQ a b, eQ c d] = (I4 ⟨a, b, c, d⟩, [i64D (if ok2 ⟨a, b, c, d⟩ then qcmp (Rat.divInt a b) (Rat.divInt c d) else 2)]) := ctD_at q4E_inj ⟨a, b, c, d⟩
theorem qofC_at (a b : Int) : qofC [i64D a, i64D b] = ((I64 a ∧ I64 b), d3 (if b = 0 then no3 else oq (Rat.divInt a b))) := ctD_at iiE_inj ⟨a, b⟩
theorem d3_no : d3 no3 = [eQ 0 0, boolD false] := rfl
theorem QI_qsz {n d : Int} (h : QI n d) : qsz (Rat.divInt n d) ≤ 2 := smallQ_qsz (QI_small h)
theorem QI_ne {n d : Int} (h : QI n d) (h0 : n ≠ 0) : Rat.divInt n d ≠ 0 := fun e => by
  have := (QI_num h).1
  rw [e] at this
  exact h0 this.symm
theorem ln_floor (q : Rat) : ln q.floor.natAbs ≤ qsz q := by
  rw [Rat.floor_def]
  exact Nat.le_trans (ln_mono (natAbs_ediv_le _ _)) (qsz_num q)
theorem qsz_floor (q : Rat) : qsz (q.floor : Rat) ≤ qsz q := by
  rw [qsz_int]
  have h1 := ln_floor q
  have h2 := qsz_pos q
  omega
theorem allQ2 (a b c d : Int) (h : I4 ⟨a, b, c, d⟩) : allQC [.sl 2 [eQ a b, eQ c d]] = (True, [boolD (decide (ok2 ⟨a, b, c, d⟩))]) := by
  have h1 := allQC_at [(a, b), (c, d)]
  have h2 : ([(a, b), (c, d)] : List (Int × Int)).length < 4611686018427387904 ∧ ∀ q ∈ [(a, b), (c, d)], I64p q := by
    refine ⟨by simp, ?_⟩
    intro q hq
    simp at hq
    rcases hq with rfl | rfl
    · exact h.1
    · exact h.2
  have h3 : (([(a, b), (c, d)] : List (Int × Int)).all fun q => decide (qOk q.1 q.2)) = decide (ok2 ⟨a, b, c, d⟩) := by
    by_cases h1 : qOk a b <;> by_cases h2 : qOk c d <;> simp [ok2, h1, h2]
  rw [h3, eq_true h2] at h1
  exact h1
@[simp] theorem nav_eQ0 (n d : Int) : nav (eQ n d) [0] = some (.lit (.int .i64 n), 0) := rfl
@[simp] theorem nav_eQ1 (n d : Int) : nav (eQ n d) [1] = some (.lit (.int .i64 d), 1) := rfl
theorem eQ00 : eQ 0 0 = .agg [.lit (.int .i64 0), .lit (.int .i64 0)] := rfl

def pqMf : FuncId → Bool := fun f => f == 99999999 || f == 99999999
attribute [simp] pqMf

end Go.Proofs.Ytlniifhdimaliaa.Ae

/-! spec: QOk, QAdd, QSub, QMul, QDiv, QCmp, QFloor, QOf. No condition. -/
namespace Go.Proofs.Ytlniifhdimaliaa.Ae
open Go Go.RowKit Go.Proofs.Ytlniifhdimaliaa.Dig

noncomputable def sokTb : List (FuncId × Ct) := [(46, .data absC), (45, .data gcdC)]
theorem sokTb_ok : TbOK NF Try.prog (tbl sokTb) := tbl_cons (c := .data absC) l1Abs_spec l1Abs_ok (tbl_cons (c := .data gcdC) l1Gcd_spec l1Gcd_ok tbl_nil)

@[simp] theorem sokTb1 : tbl sokTb 46 = some (.data absC) := rfl
@[simp] theorem sokTb2 : tbl sokTb 45 = some (.data gcdC) := rfl
noncomputable def sqTbl : List (FuncId × Ct) := [(33, .data nAddC), (31, .data nMulC), (27, .data nCmpC), (41, .data zOfC), (38, .data nBigC)]
theorem sqTbl_ok : TbOK NF Try.prog (tbl sqTbl) := tbl_cons (c := .data nAddC) nAdd_spec l1rAdd_ok (tbl_cons (c := .data nMulC) nMul_spec l1rMul_ok (tbl_cons (c := .data nCmpC) nCmp_spec l1rCmp_ok (tbl_cons (c := .data zOfC) l1ZOf_spec l1ZOf_ok (tbl_cons (c := .data nBigC) nBig_spec l1rBig_ok tbl_nil))))

@[simp] theorem sqTbl3 : tbl sqTbl 33 = some (.data nAddC) := rfl
@[simp] theorem sqTbl5 : tbl sqTbl 31 = some (.data nMulC) := rfl
@[simp] theorem sqTbl7 : tbl sqTbl 27 = some (.data nCmpC) := rfl
@[simp] theorem sqTbl11 : tbl sqTbl 41 = some (.data zOfC) := rfl
@[simp] theorem sqTbl12 : tbl sqTbl 38 = some (.data nBigC) := rfl
theorem okC1 {a b c d : Int} (h : I4 ⟨a, b, c, d⟩) : (qokC [eQ a b] = (True, [.lit (.bool (decide (qOk a b)))])) ∧ qokC [eQ c d] = (True, [.lit (.bool (decide (qOk c d)))]) := by
  have c1 := qokC_at a b
  have c2 := qokC_at c d
  obtain ⟨⟨h1, h2⟩, h3, h4⟩ := h
  have h1 : I64 a := h1
  have h2 : I64 b := h2
  have h3 : I64 c := h3
  have h4 : I64 d := h4
  simp only [h1, h2, h3, h4, and_self, boolD] at c1 c2
  exact ⟨c1, c2⟩
theorem qOk_64 {n d : Int} (h : qOk n d) : I64 n ∧ I64 d ∧ 0 < d := by unfold qOk at h; unfold I64; omega

end Go.Proofs.Ytlniifhdimaliaa.Ae

/-! The laws on fractions: each law's function returns true. No condition. -/
namespace Go.Proofs.Ytlniifhdimaliaa.Ae
open Go Go.RowKit Go.Proofs.Ytlniifhdimaliaa.Dig

/-- A law's call, out of its contract. -/
theorem law_calls {f : FuncId} {g : List D → Prop × List D} (h : SpecD NF Try.prog f g) {ds : List D} (hp : (g ds).1) (hr : (g ds).2 = [boolD true]) {vs : List Value} {w : World} (hrep : RepVs NF (fun _ => False) w ds vs) :
    Calls Try.prog f vs.toArray w fun e w' => e = .returned (.bool true) ∧ Below w.heap.size w w' := by
  refine (h ds hp (fun _ => False) w vs (fun k hk => hk.elim) hrep).mono fun e w' ⟨v, he, hv, hfr⟩ => ?_
  rw [hr] at hv
  have hv : RepV NF _ w' (.lit (.bool true)) v := hv
  obtain ⟨rfl, _⟩ := RepV.lit hv
  exact ⟨he, ⟨hfr.os, hfr.tape, hfr.output, hfr.size, fun k hk => hfr.block k hk (fun h => h)⟩⟩
theorem repV_flat {N : NR} {F : Nat → Prop} {w : World} {d : D} {cs : List Value} (h : flatD d = some cs) (h1 : ∀ v ∈ cs, v.oneCell' = true) (ha : d.isAgg = true) : RepV N F w d (.agg cs.toArray) :=
  ⟨cs, flatD_rep d cs h h1, by unfold mkV; rw [ha]; rfl⟩
theorem repVs_nil {N : NR} {F : Nat → Prop} {w : World} : RepVs N F w [] [] := ⟨rfl, fun i d v h => by simp at h⟩
theorem repVs_cons {N : NR} {F : Nat → Prop} {w : World} {d : D} {v : Value} {ds : List D} {vs : List Value} (h : RepV N F w d v) (hs : RepVs N F w ds vs) : RepVs N F w (d :: ds) (v :: vs) :=
  ⟨by simp only [List.length_cons]; rw [hs.1], fun i e u h1 h2 => by
    cases i with
    | zero =>
      simp only [List.getElem?_cons_zero, Option.some.injEq] at h1 h2
      subst h1 h2
      exact h
    | succ i => exact hs.2 i e u (by simpa using h1) (by simpa using h2)⟩
theorem rep_q {N : NR} {F : Nat → Prop} {w : World} (a b : Int) : RepV N F w (eQ a b) (.agg #[.int .i64 a, .int .i64 b]) := repV_flat (cs := [.int .i64 a, .int .i64 b]) rfl (fun v hv => by simp at hv; rcases hv with rfl | rfl <;> rfl) rfl
theorem rep_i {N : NR} {F : Nat → Prop} {w : World} (a : Int) : RepV N F w (i64D a) (.int .i64 a) := RepV.of_lit rfl
theorem wf64 {a : Int} (h : (Lit.int .i64 a).wf = true) : I64 a := bounds_i64 h

noncomputable def toQC := ctD qE (fun _ => True) (fun p => [eQ p.a p.b])
theorem toQC_at (a b : Int) : toQC [eQ a b] = (True, [eQ a b]) := ctD_at qE_inj ⟨a, b⟩
noncomputable def eqQC := ctD q4E (fun _ => True) (fun p => [boolD (decide (p.a = p.c) && decide (p.b = p.d))])
theorem eqQC_at (a b c d : Int) : eqQC [eQ a b, eQ c d] = (True, [boolD (decide (a = c) && decide (b = d))]) := ctD_at q4E_inj ⟨a, b, c, d⟩
theorem eqQ_self (r : Int × Int × Bool) : eqQC [eQ r.1 r.2.1, eQ r.1 r.2.1] = (True, [.lit (.bool true)]) := by
  rw [eqQC_at]; simp [boolD]

noncomputable def lwQAddC := ctD q4E I4 (fun _ => [boolD true])
noncomputable def lwQSubC := ctD q4E I4 (fun _ => [boolD true])
noncomputable def lwQMulC := ctD q4E I4 (fun _ => [boolD true])
noncomputable def lwQDivC := ctD q4E I4 (fun _ => [boolD true])
noncomputable def lwQFloorC := ctD q4E I4 (fun _ => [boolD true])
noncomputable def lwQCmpC := ctD q4E I4 (fun _ => [boolD true])
noncomputable def lwQOfC := ctD iiE (fun p => I64 p.a ∧ I64 p.b) (fun _ => [boolD true])
end Go.Proofs.Ytlniifhdimaliaa.Ae

/-! Contracts over several inputs; what a call of the fractions' functions asks and gives, as steps for simp. No condition. -/
namespace Go.Proofs.Ytlniifhdimaliaa.Ae
open Go Go.RowKit Go.Proofs.Ytlniifhdimaliaa.Dig

/-- A kind of input, as data. -/
structure Enc (α : Type) where
  e : α → D
  inj : ∀ a b, e a = e b → a = b
def ERat : Enc Rat := ⟨eRat, fun _ _ => eRat_inj⟩
def ENum : Enc Rat := ⟨nD, fun _ _ => nD_inj⟩
def EInt : Enc Int := ⟨i64D, fun _ _ => i64D_inj⟩
def EZ : Enc Int := ⟨eZ, fun _ _ => eZ_inj⟩
theorem boolD_inj {a b : Bool} (h : boolD a = boolD b) : a = b := by unfold boolD at h; injection h with h; injection h
def EBool : Enc Bool := ⟨boolD, fun _ _ => boolD_inj⟩
def EQ : Enc (Int × Int) := ⟨fun p => eQ p.1 p.2, fun _ _ h => Prod.ext (eQ_inj h).1 (eQ_inj h).2⟩
/-- A struct of two parts. -/
def Enc.pair {α β : Type} (A : Enc α) (B : Enc β) : Enc (α × β) := ⟨fun p => .agg [A.e p.1, B.e p.2], fun p q h => by
  simp only [D.agg.injEq, List.cons.injEq, and_true] at h
  exact Prod.ext (A.inj _ _ h.1) (B.inj _ _ h.2)⟩
def Enc.trip {α β γ : Type} (A : Enc α) (B : Enc β) (C : Enc γ) : Enc (α × β × γ) := ⟨fun p => .agg [A.e p.1, B.e p.2.1, C.e p.2.2], fun p q h => by
  simp only [D.agg.injEq, List.cons.injEq, and_true] at h
  exact Prod.ext (A.inj _ _ h.1) (Prod.ext (B.inj _ _ h.2.1) (C.inj _ _ h.2.2))⟩
theorem map_inj {α : Type} (E : Enc α) : ∀ {a b : List α}, a.map E.e = b.map E.e → a = b
  | [], [], _ => rfl
  | x :: a, y :: b, h => by
    simp only [List.map_cons, List.cons.injEq] at h
    rw [E.inj _ _ h.1, map_inj E h.2]
  | [], _ :: _, h => by simp at h
  | _ :: _, [], h => by simp at h
/-- A slice. -/
def Enc.list {α : Type} (sz : Nat) (E : Enc α) : Enc (List α) := ⟨fun l => .sl sz (l.map E.e), fun a b h => by
  injection h with _ h; exact map_inj E h⟩
noncomputable def ct1 {α : Type} (A : Enc α) (pre : α → Prop) (post : α → List D) := ctD (fun a => [A.e a]) pre post
theorem ct1_at {α : Type} {A : Enc α} {pre : α → Prop} {post : α → List D} (a : α) : ct1 A pre post [A.e a] = (pre a, post a) :=
  ctD_at (e := fun a => [A.e a]) (fun a b h => by simp only [List.cons.injEq, and_true] at h; exact A.inj _ _ h) a
noncomputable def ct2 {α β : Type} (A : Enc α) (B : Enc β) (pre : α → β → Prop) (post : α → β → List D) := ctD (fun p : α × β => [A.e p.1, B.e p.2]) (fun p => pre p.1 p.2) (fun p => post p.1 p.2)
theorem ct2_at {α β : Type} {A : Enc α} {B : Enc β} {pre : α → β → Prop} {post : α → β → List D} (a : α) (b : β) : ct2 A B pre post [A.e a, B.e b] = (pre a b, post a b) :=
  ctD_at (e := fun p : α × β => [A.e p.1, B.e p.2]) (fun p q h => by simp only [List.cons.injEq, and_true] at h; exact Prod.ext (A.inj _ _ h.1) (B.inj _ _ h.2)) (a, b)
noncomputable def ct3 {α β γ : Type} (A : Enc α) (B : Enc β) (C : Enc γ) (pre : α → β → γ → Prop) (post : α → β → γ → List D) := ctD (fun p : α × β × γ => [A.e p.1, B.e p.2.1, C.e p.2.2]) (fun p => pre p.1 p.2.1 p.2.2) (fun p => post p.1 p.2.1 p.2.2)
theorem ct3_at {α β γ : Type} {A : Enc α} {B : Enc β} {C : Enc γ} {pre : α → β → γ → Prop} {post : α → β → γ → List D} (a : α) (b : β) (c : γ) : ct3 A B C pre post [A.e a, B.e b, C.e c] = (pre a b c, post a b c) :=
  ctD_at (e := fun p : α × β × γ => [A.e p.1, B.e p.2.1, C.e p.2.2]) (fun p q h => by simp only [List.cons.injEq, and_true] at h; exact Prod.ext (A.inj _ _ h.1) (Prod.ext (B.inj _ _ h.2.1) (C.inj _ _ h.2.2))) (a, b, c)
noncomputable def ct4 {α β γ δ : Type} (A : Enc α) (B : Enc β) (C : Enc γ) (E : Enc δ) (pre : α → β → γ → δ → Prop) (post : α → β → γ → δ → List D) := ctD (fun p : α × β × γ × δ => [A.e p.1, B.e p.2.1, C.e p.2.2.1, E.e p.2.2.2]) (fun p => pre p.1 p.2.1 p.2.2.1 p.2.2.2) (fun p => post p.1 p.2.1 p.2.2.1 p.2.2.2)
theorem ct4_at {α β γ δ : Type} {A : Enc α} {B : Enc β} {C : Enc γ} {E : Enc δ} {pre : α → β → γ → δ → Prop} {post : α → β → γ → δ → List D} (a : α) (b : β) (c : γ) (d : δ) : ct4 A B C E pre post [A.e a, B.e b, C.e c, E.e d] = (pre a b c d, post a b c d) :=
  ctD_at (e := fun p : α × β × γ × δ => [A.e p.1, B.e p.2.1, C.e p.2.2.1, E.e p.2.2.2]) (fun p q h => by simp only [List.cons.injEq, and_true] at h; exact Prod.ext (A.inj _ _ h.1) (Prod.ext (B.inj _ _ h.2.1) (Prod.ext (C.inj _ _ h.2.2.1) (E.inj _ _ h.2.2.2)))) (a, b, c, d)
/-- A function's contract, out of its reading. -/
theorem rd1 {N : NR} {α : Type} {A : Enc α} {pre : α → Prop} {post : α → List D} {f : FuncId} {fn : Func} {c : Code} {mf : FuncId → Bool} {tb : FuncId → Option Ct} (htb : TbOK N Try.prog tb) (hf : Try.prog.funcs[f]? = some fn) (hb : fn.body = some c) (hd : drawAll mf c = true) (hl : Nat.ble 1 fn.ntmps = true)
    (h : ∀ a, pre a → awp Try.prog mf tb c (start fn.ntmps ([A.e a].map .dat) []) (endK Try.prog fn.ntmps fn.results.toList ((post a).map .dat) [])) : SpecD N Try.prog f (ct1 A pre post) :=
  rdD htb hf hb hd (fun a ha => ⟨Nat.le_of_ble_eq_true hl, h a ha⟩)
theorem rd2 {N : NR} {α β : Type} {A : Enc α} {B : Enc β} {pre : α → β → Prop} {post : α → β → List D} {f : FuncId} {fn : Func} {c : Code} {mf : FuncId → Bool} {tb : FuncId → Option Ct} (htb : TbOK N Try.prog tb) (hf : Try.prog.funcs[f]? = some fn) (hb : fn.body = some c) (hd : drawAll mf c = true) (hl : Nat.ble 2 fn.ntmps = true)
    (h : ∀ a b, pre a b → awp Try.prog mf tb c (start fn.ntmps ([A.e a, B.e b].map .dat) []) (endK Try.prog fn.ntmps fn.results.toList ((post a b).map .dat) [])) : SpecD N Try.prog f (ct2 A B pre post) :=
  rdD htb hf hb hd (fun p ha => ⟨Nat.le_of_ble_eq_true hl, h p.1 p.2 ha⟩)
theorem rd3 {N : NR} {α β γ : Type} {A : Enc α} {B : Enc β} {C : Enc γ} {pre : α → β → γ → Prop} {post : α → β → γ → List D} {f : FuncId} {fn : Func} {c : Code} {mf : FuncId → Bool} {tb : FuncId → Option Ct} (htb : TbOK N Try.prog tb) (hf : Try.prog.funcs[f]? = some fn) (hb : fn.body = some c) (hd : drawAll mf c = true) (hl : Nat.ble 3 fn.ntmps = true)
    (h : ∀ a b d, pre a b d → awp Try.prog mf tb c (start fn.ntmps ([A.e a, B.e b, C.e d].map .dat) []) (endK Try.prog fn.ntmps fn.results.toList ((post a b d).map .dat) [])) : SpecD N Try.prog f (ct3 A B C pre post) :=
  rdD htb hf hb hd (fun p ha => ⟨Nat.le_of_ble_eq_true hl, h p.1 p.2.1 p.2.2 ha⟩)
theorem rd4 {N : NR} {α β γ δ : Type} {A : Enc α} {B : Enc β} {C : Enc γ} {E : Enc δ} {pre : α → β → γ → δ → Prop} {post : α → β → γ → δ → List D} {f : FuncId} {fn : Func} {c : Code} {mf : FuncId → Bool} {tb : FuncId → Option Ct} (htb : TbOK N Try.prog tb) (hf : Try.prog.funcs[f]? = some fn) (hb : fn.body = some c) (hd : drawAll mf c = true) (hl : Nat.ble 4 fn.ntmps = true)
    (h : ∀ a b d g, pre a b d g → awp Try.prog mf tb c (start fn.ntmps ([A.e a, B.e b, C.e d, E.e g].map .dat) []) (endK Try.prog fn.ntmps fn.results.toList ((post a b d g).map .dat) [])) : SpecD N Try.prog f (ct4 A B C E pre post) :=
  rdD htb hf hb hd (fun p ha => ⟨Nat.le_of_ble_eq_true hl, h p.1 p.2.1 p.2.2.1 p.2.2.2 ha⟩)
/-- A table in which every entry is right. -/
structure Ok (N : NR) (p : FuncId × Ct) : Prop where
  ok : CtOK N Try.prog p.1 p.2
  ca : callable Try.prog p.1 = true
theorem tblAll {N : NR} : ∀ (l : List (FuncId × Ct)), (∀ p ∈ l, Ok N p) → TbOK N Try.prog (tbl l)
  | [], _ => tbl_nil
  | p :: l, h => tbl_cons (h p (by simp)).ok (h p (by simp)).ca (tblAll l (fun q hq => h q (by simp [hq])))
/-- Of moderate length, all together. -/
def LM : Nat := 1000000000
theorem MX_val : MX = 549755813888 := rfl
theorem LM_val : LM = 1000000000 := rfl
def EP : Enc (Rat × Rat) := ERat.pair ERat
def EPn : Enc (Rat × Rat) := ENum.pair ENum
def EV : Enc ((Int × Int) × Int × Int) := EQ.pair EQ
def vOk (v : (Int × Int) × Int × Int) : Prop := qOk v.1.1 v.1.2 ∧ qOk v.2.1 v.2.2
instance (v : (Int × Int) × Int × Int) : Decidable (vOk v) := by unfold vOk; infer_instance
/-- A place as fractions. -/
def vq (v : (Int × Int) × Int × Int) : Rat × Rat := (Rat.divInt v.1.1 v.1.2, Rat.divInt v.2.1 v.2.2)
def V64 (v : (Int × Int) × Int × Int) : Prop := (I64 v.1.1 ∧ I64 v.1.2) ∧ I64 v.2.1 ∧ I64 v.2.2
def psz (p : Rat × Rat) : Nat := qsz p.1 + qsz p.2
theorem vOk_sz {v : (Int × Int) × Int × Int} (h : vOk v) : qsz (Rat.divInt v.1.1 v.1.2) ≤ 2 ∧ qsz (Rat.divInt v.2.1 v.2.2) ≤ 2 := ⟨QI_qsz (qOk_QI h.1), QI_qsz (qOk_QI h.2)⟩
@[simp] theorem EP_e (x y : Rat) : EP.e (x, y) = .agg [eRat x, eRat y] := rfl
@[simp] theorem EPn_e (x y : Rat) : EPn.e (x, y) = .agg [nD x, nD y] := rfl
@[simp] theorem EV_e (a b c d : Int) : EV.e ((a, b), c, d) = .agg [eQ a b, eQ c d] := rfl
@[simp] theorem ERat_e (x : Rat) : ERat.e x = eRat x := rfl
@[simp] theorem ENum_e (x : Rat) : ENum.e x = nD x := rfl
@[simp] theorem EInt_e (x : Int) : EInt.e x = i64D x := rfl
@[simp] theorem EBool_e (x : Bool) : EBool.e x = boolD x := rfl
@[simp] theorem EQ_e (a b : Int) : EQ.e (a, b) = eQ a b := rfl
section
variable (a b : Rat) (n d : Int)
@[simp] theorem z_add : raddC [eRat a, eRat b] = (qsz a + qsz b < MX, [eRat (a + b)]) := raddC_at a b
@[simp] theorem z_sub : rsubC [eRat a, eRat b] = (qsz a + qsz b < MX, [eRat (a - b)]) := rsubC_at a b
@[simp] theorem z_mul : rmC [eRat a, eRat b] = (qsz a + qsz b < MX, [eRat (a * b)]) := rmC_at a b
@[simp] theorem z_div : rdvC [eRat a, eRat b] = ((qsz a + qsz b < MX ∧ b ≠ 0), [eRat (a / b)]) := rdvC_at a b
@[simp] theorem z_neg : rngC [eRat a] = (qsz a < MX, [eRat (-a)]) := rngC_at a
@[simp] theorem z_inv : rinvC [eRat a] = ((qsz a < MX ∧ a ≠ 0), [eRat a⁻¹]) := rinvC_at a
@[simp] theorem z_cmp : rcC [eRat a, eRat b] = (qsz a + qsz b < MX, [.lit (.int .i64 (qcmp a b))]) := rcC_at a b
@[simp] theorem z_sign : rsgC [eRat a] = (True, [.lit (.int .i64 a.num.sign)]) := rsgC_at a
@[simp] theorem z_q : rqqC [eRat a] = (True, [eQ (oq a).1 (oq a).2.1, .lit (.bool (oq a).2.2)]) := by rw [rqqC_at, oQ_d3]; rfl
@[simp] theorem z_rq : rqC [eQ n d] = (QI n d, [eRat (Rat.divInt n d)]) := rqC_at n d
@[simp] theorem z_ri : riC [.lit (.int .i64 n)] = (n.natAbs < 9223372036854775808, [eRat (n : Rat)]) := riC_at n
@[simp] theorem z_floor : rflC [eRat a] = (qsz a < MX, [.ptr (eZ a.floor)]) := rflC_at a
@[simp] theorem z_fromInt : fiC [.ptr (eZ n)] = (ln n.natAbs < MX, [eRat (n : Rat)]) := fiC_at n
@[simp] theorem n_add : nAddC [nD a, nD b] = (qsz a + qsz b < MX, [nD (a + b)]) := nAddC_at a b
@[simp] theorem n_sub : nSubC [nD a, nD b] = (qsz a + qsz b < MX, [nD (a - b)]) := nSubC_at a b
@[simp] theorem n_mul : nMulC [nD a, nD b] = (qsz a + qsz b < MX, [nD (a * b)]) := nMulC_at a b
@[simp] theorem n_div : nDivC [nD a, nD b] = ((qsz a + qsz b < MX ∧ b ≠ 0), [nD (a / b)]) := nDivC_at a b
@[simp] theorem n_neg : nNegC [nD a] = (True, [nD (-a)]) := nNegC_at a
@[simp] theorem n_cmp : nCmpC [nD a, nD b] = (qsz a + qsz b < MX, [.lit (.int .i64 (qcmp a b))]) := nCmpC_at a b
@[simp] theorem n_sign : nSignC [nD a] = (True, [.lit (.int .i64 a.num.sign)]) := nSignC_at a
@[simp] theorem n_q : nQC [nD a] = (True, [eQ (oq a).1 (oq a).2.1, .lit (.bool (oq a).2.2)]) := nQC_at a
@[simp] theorem n_lq : nqC [eQ n d] = ((I64 n ∧ I64 d ∧ 0 < d), [nD (Rat.divInt n d)]) := nqC_at n d
@[simp] theorem n_of : nOfC [.lit (.int .i64 n), .lit (.int .i64 d)] = ((I64 n ∧ I64 d ∧ 0 < d), [nD (Rat.divInt n d)]) := nOfC_at n d
@[simp] theorem n_floor : nFloorC [nD a] = (True, [eZ a.floor]) := nFloorC_at a
@[simp] theorem n_whole : nWholeC [eZ n] = (SZ n, [nD (n : Rat)]) := nWholeC_at n
@[simp] theorem n_big : nBigC [eZ n, eZ d] = ((SZ n ∧ SZ d ∧ d ≠ 0), [nD (Rat.divInt n d)]) := nBigC_at n d
@[simp] theorem n_zof : zOfC [.lit (.int .i64 n)] = (I64 n, [eZ n]) := zOfC_at n
@[simp] theorem n_zadd : zAddC [eZ n, eZ d] = ((SZ n ∧ SZ d), [eZ (n + d)]) := zAddC_at n d
@[simp] theorem z_ok : qokC [eQ n d] = ((I64 n ∧ I64 d), [.lit (.bool (decide (qOk n d)))]) := qokC_at n d
@[simp] theorem z_toQ : toQC [eQ n d] = (True, [eQ n d]) := toQC_at n d
end
theorem z_all2 (a b c d : Int) : allQC [.sl 2 [eQ a b, eQ c d]] = (((I64 a ∧ I64 b) ∧ I64 c ∧ I64 d), [.lit (.bool (decide (qOk a b) && decide (qOk c d)))]) := by
  have h1 := allQC_at [(a, b), (c, d)]
  have h2 : (([(a, b), (c, d)] : List (Int × Int)).length < 4611686018427387904 ∧ ∀ q ∈ [(a, b), (c, d)], I64p q) ↔ ((I64 a ∧ I64 b) ∧ I64 c ∧ I64 d) := by
    constructor
    · rintro ⟨_, h⟩
      exact ⟨h (a, b) (by simp), h (c, d) (by simp)⟩
    · rintro ⟨h1, h2⟩
      refine ⟨by simp, ?_⟩
      intro q hq
      simp at hq
      rcases hq with rfl | rfl
      · exact h1
      · exact h2
  rw [propext h2] at h1
  have h3 : (([(a, b), (c, d)] : List (Int × Int)).all fun q => decide (qOk q.1 q.2)) = (decide (qOk a b) && decide (qOk c d)) := by simp
  rw [h3] at h1
  exact h1
attribute [simp] z_all2
end Go.Proofs.Ytlniifhdimaliaa.Ae

/-! impl: places of the plane; VOk, pv, cmp, sub, cross, turn. No condition. -/
namespace Go.Proofs.Ytlniifhdimaliaa.Ae
open Go Go.RowKit Go.Proofs.Ytlniifhdimaliaa.Dig
def crossQ (a b c d : Rat) : Rat := a * d - b * c
def turnQ (a b c d e f : Rat) : Rat := crossQ (c - a) (d - b) (e - a) (f - b)
/-- How two places compare. -/
def pcmp (a b c d : Rat) : Int := if qcmp a c = 0 then qcmp b d else qcmp a c
theorem qcmp_bd (a b : Rat) : -1 ≤ qcmp a b ∧ qcmp a b ≤ 1 := sign_bd _
theorem pcmp_bd (a b c d : Rat) : -1 ≤ pcmp a b c d ∧ pcmp a b c d ≤ 1 := by unfold pcmp; split <;> exact qcmp_bd _ _
theorem sub_lit {x y : Int} (h : x = y) : Sub (.lit (.int .i64 x)) (.lit (.int .i64 y)) := by rw [h]; exact Sub.refl _

/-! i.VOk -/
noncomputable def iVOkC := ct1 EV (fun p0 => ((I64 p0.1.1 ∧ I64 p0.1.2) ∧ I64 p0.2.1 ∧ I64 p0.2.2)) (fun p0 => [.lit (.bool (decide (qOk p0.1.1 p0.1.2) && decide (qOk p0.2.1 p0.2.2)))])
@[simp] theorem iVOkC_at (a b c d : Int) : iVOkC [.agg [eQ a b, eQ c d]] = (((I64 a ∧ I64 b) ∧ I64 c ∧ I64 d), [.lit (.bool (decide (qOk a b) && decide (qOk c d)))]) := ct1_at ((a, b), c, d)
/-! i.pv -/
noncomputable def pvC := ct1 EV (fun p0 => QI p0.1.1 p0.1.2 ∧ QI p0.2.1 p0.2.2) (fun p0 => [.agg [eRat (Rat.divInt p0.1.1 p0.1.2), eRat (Rat.divInt p0.2.1 p0.2.2)]])
@[simp] theorem pvC_at (a b c d : Int) : pvC [.agg [eQ a b, eQ c d]] = (QI a b ∧ QI c d, [.agg [eRat (Rat.divInt a b), eRat (Rat.divInt c d)]]) := ct1_at ((a, b), c, d)
/-! (i.pt).cmp -/
noncomputable def ptcmpC := ct2 EP EP (fun p0 p1 => qsz p0.1 + qsz p0.2 + qsz p1.1 + qsz p1.2 < LM) (fun p0 p1 => [.lit (.int .i64 (pcmp p0.1 p0.2 p1.1 p1.2))])
@[simp] theorem ptcmpC_at (a b : Rat) (c d : Rat) : ptcmpC [.agg [eRat a, eRat b], .agg [eRat c, eRat d]] = (qsz a + qsz b + qsz c + qsz d < LM, [.lit (.int .i64 (pcmp a b c d))]) := ct2_at (a, b) (c, d)
/-! (i.pt).sub -/
noncomputable def ptsubC := ct2 EP EP (fun p0 p1 => qsz p0.1 + qsz p0.2 + qsz p1.1 + qsz p1.2 < LM) (fun p0 p1 => [.agg [eRat (p0.1 - p1.1), eRat (p0.2 - p1.2)]])
@[simp] theorem ptsubC_at (a b : Rat) (c d : Rat) : ptsubC [.agg [eRat a, eRat b], .agg [eRat c, eRat d]] = (qsz a + qsz b + qsz c + qsz d < LM, [.agg [eRat (a - c), eRat (b - d)]]) := ct2_at (a, b) (c, d)
/-! i.cross -/
noncomputable def crsC := ct2 EP EP (fun p0 p1 => qsz p0.1 + qsz p0.2 + qsz p1.1 + qsz p1.2 < LM) (fun p0 p1 => [eRat (crossQ p0.1 p0.2 p1.1 p1.2)])
@[simp] theorem crsC_at (a b : Rat) (c d : Rat) : crsC [.agg [eRat a, eRat b], .agg [eRat c, eRat d]] = (qsz a + qsz b + qsz c + qsz d < LM, [eRat (crossQ a b c d)]) := ct2_at (a, b) (c, d)
/-! i.turn -/
noncomputable def trnC := ct3 EP EP EP (fun p0 p1 p2 => qsz p0.1 + qsz p0.2 + qsz p1.1 + qsz p1.2 + qsz p2.1 + qsz p2.2 < 100000000) (fun p0 p1 p2 => [.lit (.int .i64 (turnQ p0.1 p0.2 p1.1 p1.2 p2.1 p2.2).num.sign)])
@[simp] theorem trnC_at (a b : Rat) (c d : Rat) (e f : Rat) : trnC [.agg [eRat a, eRat b], .agg [eRat c, eRat d], .agg [eRat e, eRat f]] = (qsz a + qsz b + qsz c + qsz d + qsz e + qsz f < 100000000, [.lit (.int .i64 (turnQ a b c d e f).num.sign)]) := ct3_at (a, b) (c, d) (e, f)
end Go.Proofs.Ytlniifhdimaliaa.Ae

/-! The laws CmpV and Turn: both sides.  No condition. -/
namespace Go.Proofs.Ytlniifhdimaliaa.Ae
open Go Go.RowKit Go.Proofs.Ytlniifhdimaliaa.Dig

/-! i.CmpV -/
noncomputable def iCmpVC := ct2 EV EV (fun p0 p1 => ((I64 p0.1.1 ∧ I64 p0.1.2) ∧ I64 p0.2.1 ∧ I64 p0.2.2) ∧ ((I64 p1.1.1 ∧ I64 p1.1.2) ∧ I64 p1.2.1 ∧ I64 p1.2.2)) (fun p0 p1 => [.lit (.int .i64 (if (qOk p0.1.1 p0.1.2 ∧ qOk p0.2.1 p0.2.2) ∧ (qOk p1.1.1 p1.1.2 ∧ qOk p1.2.1 p1.2.2) then pcmp (Rat.divInt p0.1.1 p0.1.2) (Rat.divInt p0.2.1 p0.2.2) (Rat.divInt p1.1.1 p1.1.2) (Rat.divInt p1.2.1 p1.2.2) else 2))])
@[simp] theorem iCmpVC_at (a b c d : Int) (e f g h : Int) : iCmpVC [.agg [eQ a b, eQ c d], .agg [eQ e f, eQ g h]] = (((I64 a ∧ I64 b) ∧ I64 c ∧ I64 d) ∧ ((I64 e ∧ I64 f) ∧ I64 g ∧ I64 h), [.lit (.int .i64 (if (qOk a b ∧ qOk c d) ∧ (qOk e f ∧ qOk g h) then pcmp (Rat.divInt a b) (Rat.divInt c d) (Rat.divInt e f) (Rat.divInt g h) else 2))]) := ct2_at ((a, b), c, d) ((e, f), g, h)
/-! i.Turn -/
noncomputable def iTurnC := ct3 EV EV EV (fun p0 p1 p2 => ((I64 p0.1.1 ∧ I64 p0.1.2) ∧ I64 p0.2.1 ∧ I64 p0.2.2) ∧ ((I64 p1.1.1 ∧ I64 p1.1.2) ∧ I64 p1.2.1 ∧ I64 p1.2.2) ∧ ((I64 p2.1.1 ∧ I64 p2.1.2) ∧ I64 p2.2.1 ∧ I64 p2.2.2)) (fun p0 p1 p2 => [.lit (.int .i64 (if (qOk p0.1.1 p0.1.2 ∧ qOk p0.2.1 p0.2.2) ∧ (qOk p1.1.1 p1.1.2 ∧ qOk p1.2.1 p1.2.2) ∧ (qOk p2.1.1 p2.1.2 ∧ qOk p2.2.1 p2.2.2) then (turnQ (Rat.divInt p0.1.1 p0.1.2) (Rat.divInt p0.2.1 p0.2.2) (Rat.divInt p1.1.1 p1.1.2) (Rat.divInt p1.2.1 p1.2.2) (Rat.divInt p2.1.1 p2.1.2) (Rat.divInt p2.2.1 p2.2.2)).num.sign else 2))])
@[simp] theorem iTurnC_at (a b c d : Int) (e f g h : Int) (i j k l : Int) : iTurnC [.agg [eQ a b, eQ c d], .agg [eQ e f, eQ g h], .agg [eQ i j, eQ k l]] = (((I64 a ∧ I64 b) ∧ I64 c ∧ I64 d) ∧ ((I64 e ∧ I64 f) ∧ I64 g ∧ I64 h) ∧ ((I64 i ∧ I64 j) ∧ I64 k ∧ I64 l), [.lit (.int .i64 (if (qOk a b ∧ qOk c d) ∧ (qOk e f ∧ qOk g h) ∧ (qOk i j ∧ qOk k l) then (turnQ (Rat.divInt a b) (Rat.divInt c d) (Rat.divInt e f) (Rat.divInt g h) (Rat.divInt i j) (Rat.divInt k l)).num.sign else 2))]) := ct3_at ((a, b), c, d) ((e, f), g, h) ((i, j), k, l)
/-! s.VOk -/
noncomputable def sVOkC := ct1 EV (fun p0 => ((I64 p0.1.1 ∧ I64 p0.1.2) ∧ I64 p0.2.1 ∧ I64 p0.2.2)) (fun p0 => [.lit (.bool (decide (qOk p0.1.1 p0.1.2) && decide (qOk p0.2.1 p0.2.2)))])
@[simp] theorem sVOkC_at (a b c d : Int) : sVOkC [.agg [eQ a b, eQ c d]] = (((I64 a ∧ I64 b) ∧ I64 c ∧ I64 d), [.lit (.bool (decide (qOk a b) && decide (qOk c d)))]) := ct1_at ((a, b), c, d)
/-! s.l3p -/
noncomputable def l3pC := ct1 EV (fun p0 => (I64 p0.1.1 ∧ I64 p0.1.2 ∧ 0 < p0.1.2) ∧ I64 p0.2.1 ∧ I64 p0.2.2 ∧ 0 < p0.2.2) (fun p0 => [.agg [nD (Rat.divInt p0.1.1 p0.1.2), nD (Rat.divInt p0.2.1 p0.2.2)]])
@[simp] theorem l3pC_at (a b c d : Int) : l3pC [.agg [eQ a b, eQ c d]] = ((I64 a ∧ I64 b ∧ 0 < b) ∧ I64 c ∧ I64 d ∧ 0 < d, [.agg [nD (Rat.divInt a b), nD (Rat.divInt c d)]]) := ct1_at ((a, b), c, d)
/-! s.l3Cmp -/
noncomputable def l3CmpC := ct2 EPn EPn (fun p0 p1 => qsz p0.1 + qsz p0.2 + qsz p1.1 + qsz p1.2 < LM) (fun p0 p1 => [.lit (.int .i64 (pcmp p0.1 p0.2 p1.1 p1.2))])
@[simp] theorem l3CmpC_at (a b : Rat) (c d : Rat) : l3CmpC [.agg [nD a, nD b], .agg [nD c, nD d]] = (qsz a + qsz b + qsz c + qsz d < LM, [.lit (.int .i64 (pcmp a b c d))]) := ct2_at (a, b) (c, d)
noncomputable def l3CmpTb : List (FuncId × Ct) := [(27, .data nCmpC)]
theorem l3CmpTb_ok : TbOK NF Try.prog (tbl l3CmpTb) := tbl_cons (c := .data nCmpC) nCmp_spec l1rCmp_ok tbl_nil

@[simp] theorem l3CmpTb1 : tbl l3CmpTb 27 = some (.data nCmpC) := rfl
/-! s.l3Sub -/
noncomputable def l3SubC := ct2 EPn EPn (fun p0 p1 => qsz p0.1 + qsz p0.2 + qsz p1.1 + qsz p1.2 < LM) (fun p0 p1 => [.agg [nD (p0.1 - p1.1), nD (p0.2 - p1.2)]])
@[simp] theorem l3SubC_at (a b : Rat) (c d : Rat) : l3SubC [.agg [nD a, nD b], .agg [nD c, nD d]] = (qsz a + qsz b + qsz c + qsz d < LM, [.agg [nD (a - c), nD (b - d)]]) := ct2_at (a, b) (c, d)
/-! s.l3Cross -/
noncomputable def l3CrossC := ct2 EPn EPn (fun p0 p1 => qsz p0.1 + qsz p0.2 + qsz p1.1 + qsz p1.2 < LM) (fun p0 p1 => [nD (crossQ p0.1 p0.2 p1.1 p1.2)])
@[simp] theorem l3CrossC_at (a b : Rat) (c d : Rat) : l3CrossC [.agg [nD a, nD b], .agg [nD c, nD d]] = (qsz a + qsz b + qsz c + qsz d < LM, [nD (crossQ a b c d)]) := ct2_at (a, b) (c, d)
noncomputable def l3CrossTb : List (FuncId × Ct) := [(31, .data nMulC)]
theorem l3CrossTb_ok : TbOK NF Try.prog (tbl l3CrossTb) := tbl_cons (c := .data nMulC) nMul_spec l1rMul_ok tbl_nil

@[simp] theorem l3CrossTb2 : tbl l3CrossTb 31 = some (.data nMulC) := rfl
/-! s.l3Turn -/
noncomputable def l3TurnC := ct3 EPn EPn EPn (fun p0 p1 p2 => qsz p0.1 + qsz p0.2 + qsz p1.1 + qsz p1.2 + qsz p2.1 + qsz p2.2 < 100000000) (fun p0 p1 p2 => [.lit (.int .i64 (turnQ p0.1 p0.2 p1.1 p1.2 p2.1 p2.2).num.sign)])
@[simp] theorem l3TurnC_at (a b : Rat) (c d : Rat) (e f : Rat) : l3TurnC [.agg [nD a, nD b], .agg [nD c, nD d], .agg [nD e, nD f]] = (qsz a + qsz b + qsz c + qsz d + qsz e + qsz f < 100000000, [.lit (.int .i64 (turnQ a b c d e f).num.sign)]) := ct3_at (a, b) (c, d) (e, f)
noncomputable def l3TurnTb : List (FuncId × Ct) := [(15, .data nSignC)]
theorem l3TurnTb_ok : TbOK NF Try.prog (tbl l3TurnTb) := tbl_cons (c := .data nSignC) nSign_spec l1rSign_ok tbl_nil

@[simp] theorem l3TurnTb3 : tbl l3TurnTb 15 = some (.data nSignC) := rfl
/-! s.CmpV -/
noncomputable def sCmpVC := ct2 EV EV (fun p0 p1 => ((I64 p0.1.1 ∧ I64 p0.1.2) ∧ I64 p0.2.1 ∧ I64 p0.2.2) ∧ ((I64 p1.1.1 ∧ I64 p1.1.2) ∧ I64 p1.2.1 ∧ I64 p1.2.2)) (fun p0 p1 => [.lit (.int .i64 (if (qOk p0.1.1 p0.1.2 ∧ qOk p0.2.1 p0.2.2) ∧ (qOk p1.1.1 p1.1.2 ∧ qOk p1.2.1 p1.2.2) then pcmp (Rat.divInt p0.1.1 p0.1.2) (Rat.divInt p0.2.1 p0.2.2) (Rat.divInt p1.1.1 p1.1.2) (Rat.divInt p1.2.1 p1.2.2) else 2))])
@[simp] theorem sCmpVC_at (a b c d : Int) (e f g h : Int) : sCmpVC [.agg [eQ a b, eQ c d], .agg [eQ e f, eQ g h]] = (((I64 a ∧ I64 b) ∧ I64 c ∧ I64 d) ∧ ((I64 e ∧ I64 f) ∧ I64 g ∧ I64 h), [.lit (.int .i64 (if (qOk a b ∧ qOk c d) ∧ (qOk e f ∧ qOk g h) then pcmp (Rat.divInt a b) (Rat.divInt c d) (Rat.divInt e f) (Rat.divInt g h) else 2))]) := ct2_at ((a, b), c, d) ((e, f), g, h)
/-! s.Turn -/
noncomputable def sTurnC := ct3 EV EV EV (fun p0 p1 p2 => ((I64 p0.1.1 ∧ I64 p0.1.2) ∧ I64 p0.2.1 ∧ I64 p0.2.2) ∧ ((I64 p1.1.1 ∧ I64 p1.1.2) ∧ I64 p1.2.1 ∧ I64 p1.2.2) ∧ ((I64 p2.1.1 ∧ I64 p2.1.2) ∧ I64 p2.2.1 ∧ I64 p2.2.2)) (fun p0 p1 p2 => [.lit (.int .i64 (if (qOk p0.1.1 p0.1.2 ∧ qOk p0.2.1 p0.2.2) ∧ (qOk p1.1.1 p1.1.2 ∧ qOk p1.2.1 p1.2.2) ∧ (qOk p2.1.1 p2.1.2 ∧ qOk p2.2.1 p2.2.2) then (turnQ (Rat.divInt p0.1.1 p0.1.2) (Rat.divInt p0.2.1 p0.2.2) (Rat.divInt p1.1.1 p1.1.2) (Rat.divInt p1.2.1 p1.2.2) (Rat.divInt p2.1.1 p2.1.2) (Rat.divInt p2.2.1 p2.2.2)).num.sign else 2))])
@[simp] theorem sTurnC_at (a b c d : Int) (e f g h : Int) (i j k l : Int) : sTurnC [.agg [eQ a b, eQ c d], .agg [eQ e f, eQ g h], .agg [eQ i j, eQ k l]] = (((I64 a ∧ I64 b) ∧ I64 c ∧ I64 d) ∧ ((I64 e ∧ I64 f) ∧ I64 g ∧ I64 h) ∧ ((I64 i ∧ I64 j) ∧ I64 k ∧ I64 l), [.lit (.int .i64 (if (qOk a b ∧ qOk c d) ∧ (qOk e f ∧ qOk g h) ∧ (qOk i j ∧ qOk k l) then (turnQ (Rat.divInt a b) (Rat.divInt c d) (Rat.divInt e f) (Rat.divInt g h) (Rat.divInt i j) (Rat.divInt k l)).num.sign else 2))]) := ct3_at ((a, b), c, d) ((e, f), g, h) ((i, j), k, l)
/-! l.toV -/
noncomputable def toVC := ct1 EV (fun p0 => True) (fun p0 => [.agg [eQ p0.1.1 p0.1.2, eQ p0.2.1 p0.2.2]])
@[simp] theorem toVC_at (a b c d : Int) : toVC [.agg [eQ a b, eQ c d]] = (True, [.agg [eQ a b, eQ c d]]) := ct1_at ((a, b), c, d)
/-! l.FnExactCmpV -/
noncomputable def lwCmpVC := ct2 EV EV (fun p0 p1 => ((I64 p0.1.1 ∧ I64 p0.1.2) ∧ I64 p0.2.1 ∧ I64 p0.2.2) ∧ ((I64 p1.1.1 ∧ I64 p1.1.2) ∧ I64 p1.2.1 ∧ I64 p1.2.2)) (fun p0 p1 => [.lit (.bool true)])
@[simp] theorem lwCmpVC_at (a b c d : Int) (e f g h : Int) : lwCmpVC [.agg [eQ a b, eQ c d], .agg [eQ e f, eQ g h]] = (((I64 a ∧ I64 b) ∧ I64 c ∧ I64 d) ∧ ((I64 e ∧ I64 f) ∧ I64 g ∧ I64 h), [.lit (.bool true)]) := ct2_at ((a, b), c, d) ((e, f), g, h)
/-! l.FnExactTurn -/
noncomputable def lwTurnC := ct3 EV EV EV (fun p0 p1 p2 => ((I64 p0.1.1 ∧ I64 p0.1.2) ∧ I64 p0.2.1 ∧ I64 p0.2.2) ∧ ((I64 p1.1.1 ∧ I64 p1.1.2) ∧ I64 p1.2.1 ∧ I64 p1.2.2) ∧ ((I64 p2.1.1 ∧ I64 p2.1.2) ∧ I64 p2.2.1 ∧ I64 p2.2.2)) (fun p0 p1 p2 => [.lit (.bool true)])
@[simp] theorem lwTurnC_at (a b c d : Int) (e f g h : Int) (i j k l : Int) : lwTurnC [.agg [eQ a b, eQ c d], .agg [eQ e f, eQ g h], .agg [eQ i j, eQ k l]] = (((I64 a ∧ I64 b) ∧ I64 c ∧ I64 d) ∧ ((I64 e ∧ I64 f) ∧ I64 g ∧ I64 h) ∧ ((I64 i ∧ I64 j) ∧ I64 k ∧ I64 l), [.lit (.bool true)]) := ct3_at ((a, b), c, d) ((e, f), g, h) ((i, j), k, l)
end Go.Proofs.Ytlniifhdimaliaa.Ae

/-! impl: straight pieces: SegOk, psg, add, times, dot, dir, up, minmax, apart, has, foot, near, dist2, v. No condition. -/
namespace Go.Proofs.Ytlniifhdimaliaa.Ae
open Go Go.RowKit Go.Proofs.Ytlniifhdimaliaa.Dig
@[simp] theorem flatD_eQ (a b : Int) : flatD (eQ a b) = some [.int .i64 a, .int .i64 b] := rfl
attribute [simp] eqV eqVs
theorem keyLits_struct {P : Program} {d : Nat} {t : TypeId} {fs : Array Field} {cs : List Value} (hu : P.underlying t = some (.struct fs)) (hl : cs.length = P.cellsOf t) (hn : fs.all (·.name != "_") = true) :
    P.keyLits (d + 1) t cs = (fs.toList.mapM fun f => P.keyLits d f.type ((cs.drop f.offset).take (P.cellsOf f.type))).map List.flatten := by
  conv => lhs; unfold Program.keyLits
  rw [hu]
  show (if cs.length = P.cellsOf t ∧ fs.all (·.name != "_") = true then (fs.toList.mapM fun f => P.keyLits d f.type ((cs.drop f.offset).take (P.cellsOf f.type))).map List.flatten else none) = _
  rw [if_pos ⟨hl, hn⟩]
theorem keyLits_i64 {P : Program} {d : Nat} {t : TypeId} {a : Int} (hu : P.underlying t = some (.int .i64)) (h : I64 a) : P.keyLits (d + 1) t [.int .i64 a] = some [.int .i64 a] := by
  have hw : (Lit.int .i64 a).wf = true := by
    unfold I64 at h
    have e1 : IntKind.i64.min = -9223372036854775808 := by decide
    have e2 : IntKind.i64.max = 9223372036854775807 := by decide
    simp only [Lit.wf, e1, e2, Bool.and_eq_true, decide_eq_true_eq]; omega
  unfold Program.keyLits
  rw [hu]
  exact if_pos ⟨rfl, hw⟩
def ESg : Enc ((Rat × Rat) × Rat × Rat) := EP.pair EP
def ESeg : Enc (((Int × Int) × Int × Int) × (Int × Int) × Int × Int) := EV.pair EV
@[simp] theorem ESg_e (a b c d : Rat) : ESg.e ((a, b), c, d) = .agg [.agg [eRat a, eRat b], .agg [eRat c, eRat d]] := rfl
@[simp] theorem ESeg_e (a b c d e f g h : Int) : ESeg.e (((a, b), c, d), (e, f), g, h) = .agg [.agg [eQ a b, eQ c d], .agg [eQ e f, eQ g h]] := rfl
theorem sq_nn (a : Rat) : 0 ≤ a * a := by
  by_cases h : 0 ≤ a
  · exact Rat.mul_nonneg h h
  · have : 0 ≤ (-a) * (-a) := Rat.mul_nonneg (by grind) (by grind)
    grind
def segOk (a b c d e f g h : Int) : Prop := ((qOk a b ∧ qOk c d) ∧ qOk e f ∧ qOk g h) ∧ ¬ (a = e ∧ b = f ∧ c = g ∧ d = h)
instance (a b c d e f g h : Int) : Decidable (segOk a b c d e f g h) := by unfold segOk; infer_instance
def dotQ (a b c d : Rat) : Rat := a * c + b * d
def loQ (a b : Rat) : Rat := if 0 < qcmp a b then b else a
def hiQ (a b : Rat) : Rat := if 0 < qcmp a b then a else b
def bapart (a b c d : Rat) : Bool := decide (qcmp (hiQ a b) (loQ c d) < 0) || decide (qcmp (hiQ c d) (loQ a b) < 0)
def hasB (a b c d p q : Rat) : Bool := !bapart a c p p && !bapart b d q q && decide ((turnQ a b c d p q).num.sign = 0)
def footQ (a b c d p q : Rat) : Rat := dotQ (p - a) (q - b) (c - a) (d - b) / dotQ (c - a) (d - b) (c - a) (d - b)
def nearQ (a b c d p q : Rat) : Rat × Rat := if (footQ a b c d p q).num.sign ≤ 0 then (a, b) else if 0 ≤ qcmp (footQ a b c d p q) 1 then (c, d) else (a + (c - a) * footQ a b c d p q, b + (d - b) * footQ a b c d p q)
def dist2Q (a b c d : Rat) : Rat := dotQ (a - c) (b - d) (a - c) (b - d)
theorem loQ_sz (a b : Rat) : qsz (loQ a b) ≤ qsz a + qsz b := by unfold loQ; split <;> omega
theorem hiQ_sz (a b : Rat) : qsz (hiQ a b) ≤ qsz a + qsz b := by unfold hiQ; split <;> omega
theorem dotQ_sz (a b c d : Rat) : qsz (dotQ a b c d) ≤ qsz a + qsz b + qsz c + qsz d + 1 := by unfold dotQ; grind [qsz_add, qsz_mul]
/-- A place's coordinates, if they are moderate. -/
def oV (x y : Rat) : (Int × Int) × (Int × Int) × Bool := if (oq x).2.2 = true ∧ (oq y).2.2 = true then (((oq x).1, (oq x).2.1), ((oq y).1, (oq y).2.1), true) else ((0, 0), (0, 0), false)
def vD (o : (Int × Int) × (Int × Int) × Bool) : List D := [.agg [eQ o.1.1 o.1.2, eQ o.2.1.1 o.2.1.2], .lit (.bool o.2.2)]
theorem sq_pos {a b : Rat} (h : ¬ (a = 0 ∧ b = 0)) : dotQ a b a b ≠ 0 := by
  unfold dotQ
  have h1 : 0 ≤ a * a := sq_nn a
  have h2 : 0 ≤ b * b := sq_nn b
  intro e
  have e1 : a * a = 0 := by grind
  have e2 : b * b = 0 := by grind
  exact h ⟨by rcases Rat.mul_eq_zero.mp e1 with x | x <;> exact x, by rcases Rat.mul_eq_zero.mp e2 with x | x <;> exact x⟩

/-! i.SegOk -/
noncomputable def iSegOkC := ct1 ESeg (fun p0 => (((I64 p0.1.1.1 ∧ I64 p0.1.1.2) ∧ I64 p0.1.2.1 ∧ I64 p0.1.2.2) ∧ ((I64 p0.2.1.1 ∧ I64 p0.2.1.2) ∧ I64 p0.2.2.1 ∧ I64 p0.2.2.2))) (fun p0 => [.lit (.bool (decide (segOk p0.1.1.1 p0.1.1.2 p0.1.2.1 p0.1.2.2 p0.2.1.1 p0.2.1.2 p0.2.2.1 p0.2.2.2)))])
@[simp] theorem iSegOkC_at (a b c d e f g h : Int) : iSegOkC [.agg [.agg [eQ a b, eQ c d], .agg [eQ e f, eQ g h]]] = ((((I64 a ∧ I64 b) ∧ I64 c ∧ I64 d) ∧ ((I64 e ∧ I64 f) ∧ I64 g ∧ I64 h)), [.lit (.bool (decide (segOk a b c d e f g h)))]) := ct1_at (((a, b), c, d), (e, f), g, h)
/-! i.psg -/
noncomputable def psgC := ct1 ESeg (fun p0 => (QI p0.1.1.1 p0.1.1.2 ∧ QI p0.1.2.1 p0.1.2.2) ∧ QI p0.2.1.1 p0.2.1.2 ∧ QI p0.2.2.1 p0.2.2.2) (fun p0 => [.agg [.agg [eRat (Rat.divInt p0.1.1.1 p0.1.1.2), eRat (Rat.divInt p0.1.2.1 p0.1.2.2)], .agg [eRat (Rat.divInt p0.2.1.1 p0.2.1.2), eRat (Rat.divInt p0.2.2.1 p0.2.2.2)]]])
@[simp] theorem psgC_at (a b c d e f g h : Int) : psgC [.agg [.agg [eQ a b, eQ c d], .agg [eQ e f, eQ g h]]] = ((QI a b ∧ QI c d) ∧ QI e f ∧ QI g h, [.agg [.agg [eRat (Rat.divInt a b), eRat (Rat.divInt c d)], .agg [eRat (Rat.divInt e f), eRat (Rat.divInt g h)]]]) := ct1_at (((a, b), c, d), (e, f), g, h)
/-! (i.pt).add -/
noncomputable def ptaddC := ct2 EP EP (fun p0 p1 => qsz p0.1 + qsz p0.2 + qsz p1.1 + qsz p1.2 < LM) (fun p0 p1 => [.agg [eRat (p0.1 + p1.1), eRat (p0.2 + p1.2)]])
@[simp] theorem ptaddC_at (a b : Rat) (c d : Rat) : ptaddC [.agg [eRat a, eRat b], .agg [eRat c, eRat d]] = (qsz a + qsz b + qsz c + qsz d < LM, [.agg [eRat (a + c), eRat (b + d)]]) := ct2_at (a, b) (c, d)
/-! (i.pt).times -/
noncomputable def pttimesC := ct2 EP ERat (fun p0 p1 => qsz p0.1 + qsz p0.2 + qsz p1 < LM) (fun p0 p1 => [.agg [eRat (p0.1 * p1), eRat (p0.2 * p1)]])
@[simp] theorem pttimesC_at (a b : Rat) (c : Rat) : pttimesC [.agg [eRat a, eRat b], eRat c] = (qsz a + qsz b + qsz c < LM, [.agg [eRat (a * c), eRat (b * c)]]) := ct2_at (a, b) c
/-! i.dot -/
noncomputable def dotrC := ct2 EP EP (fun p0 p1 => qsz p0.1 + qsz p0.2 + qsz p1.1 + qsz p1.2 < LM) (fun p0 p1 => [eRat (dotQ p0.1 p0.2 p1.1 p1.2)])
@[simp] theorem dotrC_at (a b : Rat) (c d : Rat) : dotrC [.agg [eRat a, eRat b], .agg [eRat c, eRat d]] = (qsz a + qsz b + qsz c + qsz d < LM, [eRat (dotQ a b c d)]) := ct2_at (a, b) (c, d)
/-! (i.sg).dir -/
noncomputable def sgdirC := ct1 ESg (fun p0 => qsz p0.1.1 + qsz p0.1.2 + qsz p0.2.1 + qsz p0.2.2 < LM) (fun p0 => [.agg [eRat (p0.2.1 - p0.1.1), eRat (p0.2.2 - p0.1.2)]])
@[simp] theorem sgdirC_at (a b c d : Rat) : sgdirC [.agg [.agg [eRat a, eRat b], .agg [eRat c, eRat d]]] = (qsz a + qsz b + qsz c + qsz d < LM, [.agg [eRat (c - a), eRat (d - b)]]) := ct1_at ((a, b), c, d)
/-! i.minmax -/
noncomputable def mnmxC := ct2 ERat ERat (fun p0 p1 => qsz p0 + qsz p1 < LM) (fun p0 p1 => [eRat (loQ p0 p1), eRat (hiQ p0 p1)])
@[simp] theorem mnmxC_at (a : Rat) (b : Rat) : mnmxC [eRat a, eRat b] = (qsz a + qsz b < LM, [eRat (loQ a b), eRat (hiQ a b)]) := ct2_at a b
/-! i.apart -/
noncomputable def aprtC := ct4 ERat ERat ERat ERat (fun p0 p1 p2 p3 => qsz p0 + qsz p1 + qsz p2 + qsz p3 < LM) (fun p0 p1 p2 p3 => [.lit (.bool (bapart p0 p1 p2 p3))])
@[simp] theorem aprtC_at (a : Rat) (b : Rat) (c : Rat) (d : Rat) : aprtC [eRat a, eRat b, eRat c, eRat d] = (qsz a + qsz b + qsz c + qsz d < LM, [.lit (.bool (bapart a b c d))]) := ct4_at a b c d
/-! (i.sg).has -/
noncomputable def sghasC := ct2 ESg EP (fun p0 p1 => qsz p0.1.1 + qsz p0.1.2 + qsz p0.2.1 + qsz p0.2.2 + qsz p1.1 + qsz p1.2 < 10000000) (fun p0 p1 => [.lit (.bool (hasB p0.1.1 p0.1.2 p0.2.1 p0.2.2 p1.1 p1.2))])
@[simp] theorem sghasC_at (a b c d : Rat) (e f : Rat) : sghasC [.agg [.agg [eRat a, eRat b], .agg [eRat c, eRat d]], .agg [eRat e, eRat f]] = (qsz a + qsz b + qsz c + qsz d + qsz e + qsz f < 10000000, [.lit (.bool (hasB a b c d e f))]) := ct2_at ((a, b), c, d) (e, f)
/-! (i.sg).foot -/
noncomputable def sgfootC := ct2 ESg EP (fun p0 p1 => qsz p0.1.1 + qsz p0.1.2 + qsz p0.2.1 + qsz p0.2.2 + qsz p1.1 + qsz p1.2 < 10000000 ∧ ¬ (p0.2.1 - p0.1.1 = 0 ∧ p0.2.2 - p0.1.2 = 0)) (fun p0 p1 => [eRat (footQ p0.1.1 p0.1.2 p0.2.1 p0.2.2 p1.1 p1.2)])
@[simp] theorem sgfootC_at (a b c d : Rat) (e f : Rat) : sgfootC [.agg [.agg [eRat a, eRat b], .agg [eRat c, eRat d]], .agg [eRat e, eRat f]] = (qsz a + qsz b + qsz c + qsz d + qsz e + qsz f < 10000000 ∧ ¬ (c - a = 0 ∧ d - b = 0), [eRat (footQ a b c d e f)]) := ct2_at ((a, b), c, d) (e, f)
theorem footQ_sz {a b c d p q : Rat} (h : ¬ (c - a = 0 ∧ d - b = 0)) : qsz (footQ a b c d p q) ≤ 4 * (qsz a + qsz b + qsz c + qsz d + qsz p + qsz q) + 10 := by
  unfold footQ
  have := qsz_div (a := dotQ (p - a) (q - b) (c - a) (d - b)) (sq_pos h)
  grind [dotQ_sz, qsz_sub]
theorem nearQ_sz {a b c d p q : Rat} (h : ¬ (c - a = 0 ∧ d - b = 0)) : qsz (nearQ a b c d p q).1 + qsz (nearQ a b c d p q).2 ≤ 12 * (qsz a + qsz b + qsz c + qsz d + qsz p + qsz q) + 40 := by
  have := footQ_sz (p := p) (q := q) h
  unfold nearQ
  split
  · show qsz a + qsz b ≤ _; omega
  · split
    · show qsz c + qsz d ≤ _; omega
    · show qsz (a + (c - a) * footQ a b c d p q) + qsz (b + (d - b) * footQ a b c d p q) ≤ _
      grind [qsz_add, qsz_sub, qsz_mul]
theorem one_rat : ((1 : Int) : Rat) = 1 := rfl
theorem qsz_one : qsz 1 = 1 := by decide +kernel

/-! (i.sg).near -/
noncomputable def sgnearC := ct2 ESg EP (fun p0 p1 => qsz p0.1.1 + qsz p0.1.2 + qsz p0.2.1 + qsz p0.2.2 + qsz p1.1 + qsz p1.2 < 1000000 ∧ ¬ (p0.2.1 - p0.1.1 = 0 ∧ p0.2.2 - p0.1.2 = 0)) (fun p0 p1 => [.agg [eRat (nearQ p0.1.1 p0.1.2 p0.2.1 p0.2.2 p1.1 p1.2).1, eRat (nearQ p0.1.1 p0.1.2 p0.2.1 p0.2.2 p1.1 p1.2).2]])
@[simp] theorem sgnearC_at (a b c d : Rat) (e f : Rat) : sgnearC [.agg [.agg [eRat a, eRat b], .agg [eRat c, eRat d]], .agg [eRat e, eRat f]] = (qsz a + qsz b + qsz c + qsz d + qsz e + qsz f < 1000000 ∧ ¬ (c - a = 0 ∧ d - b = 0), [.agg [eRat (nearQ a b c d e f).1, eRat (nearQ a b c d e f).2]]) := ct2_at ((a, b), c, d) (e, f)
/-! i.dist2 -/
noncomputable def dst2C := ct2 EP EP (fun p0 p1 => qsz p0.1 + qsz p0.2 + qsz p1.1 + qsz p1.2 < 100000000) (fun p0 p1 => [eRat (dist2Q p0.1 p0.2 p1.1 p1.2)])
@[simp] theorem dst2C_at (a b : Rat) (c d : Rat) : dst2C [.agg [eRat a, eRat b], .agg [eRat c, eRat d]] = (qsz a + qsz b + qsz c + qsz d < 100000000, [eRat (dist2Q a b c d)]) := ct2_at (a, b) (c, d)
/-! (i.pt).v -/
noncomputable def ptvC := ct1 EP (fun p0 => True) (fun p0 => vD (oV p0.1 p0.2))
@[simp] theorem ptvC_at (a b : Rat) : ptvC [.agg [eRat a, eRat b]] = (True, vD (oV a b)) := ct1_at (a, b)
end Go.Proofs.Ytlniifhdimaliaa.Ae

/-! OnSeg, Foot, Near, Dist2: both sides and the laws. No condition. -/
namespace Go.Proofs.Ytlniifhdimaliaa.Ae
open Go Go.RowKit Go.Proofs.Ytlniifhdimaliaa.Dig
theorem seg_ne {a b c d e f g h : Int} (k : segOk a b c d e f g h) : ¬ (Rat.divInt e f - Rat.divInt a b = 0 ∧ Rat.divInt g h - Rat.divInt c d = 0) := by
  rintro ⟨h1, h2⟩
  obtain ⟨⟨⟨k1, k2⟩, k3, k4⟩, kn⟩ := k
  have e1 : Rat.divInt e f = Rat.divInt a b := by grind
  have e2 : Rat.divInt g h = Rat.divInt c d := by grind
  have x1 := QI_num (qOk_QI k1)
  have x2 := QI_num (qOk_QI k2)
  have x3 := QI_num (qOk_QI k3)
  have x4 := QI_num (qOk_QI k4)
  rw [e1] at x3
  rw [e2] at x4
  exact kn ⟨by rw [← x1.1, ← x3.1], by rw [← x1.2, ← x3.2], by rw [← x2.1, ← x4.1], by rw [← x2.2, ← x4.2]⟩
/-- What holds of a good place and a good piece. -/
structure GV (a b c d : Int) : Prop where
  i : I64 a ∧ I64 b
  j : I64 c ∧ I64 d
  ok : qOk a b ∧ qOk c d
theorem GV.w1 {a b c d : Int} (h : GV a b c d) : QI a b := qOk_QI h.ok.1
theorem GV.w2 {a b c d : Int} (h : GV a b c d) : QI c d := qOk_QI h.ok.2
theorem GV.y1 {a b c d : Int} (h : GV a b c d) : I64 a ∧ I64 b ∧ 0 < b := qOk_64 h.ok.1
theorem GV.y2 {a b c d : Int} (h : GV a b c d) : I64 c ∧ I64 d ∧ 0 < d := qOk_64 h.ok.2
theorem GV.sz {a b c d : Int} (h : GV a b c d) : qsz (Rat.divInt a b) + qsz (Rat.divInt c d) ≤ 4 := by
  have := QI_qsz h.w1
  have := QI_qsz h.w2
  omega
def footP (a b c d p q : Rat) : Rat × Rat := (a + (c - a) * footQ a b c d p q, b + (d - b) * footQ a b c d p q)
def noV : (Int × Int) × (Int × Int) × Bool := ((0, 0), (0, 0), false)

/-! i.OnSeg -/
noncomputable def iOnSegC := ct2 EV ESeg (fun p0 p1 => ((I64 p0.1.1 ∧ I64 p0.1.2) ∧ I64 p0.2.1 ∧ I64 p0.2.2) ∧ (((I64 p1.1.1.1 ∧ I64 p1.1.1.2) ∧ I64 p1.1.2.1 ∧ I64 p1.1.2.2) ∧ ((I64 p1.2.1.1 ∧ I64 p1.2.1.2) ∧ I64 p1.2.2.1 ∧ I64 p1.2.2.2))) (fun p0 p1 => [.lit (.bool (if (qOk p0.1.1 p0.1.2 ∧ qOk p0.2.1 p0.2.2) ∧ segOk p1.1.1.1 p1.1.1.2 p1.1.2.1 p1.1.2.2 p1.2.1.1 p1.2.1.2 p1.2.2.1 p1.2.2.2 then hasB (Rat.divInt p1.1.1.1 p1.1.1.2) (Rat.divInt p1.1.2.1 p1.1.2.2) (Rat.divInt p1.2.1.1 p1.2.1.2) (Rat.divInt p1.2.2.1 p1.2.2.2) (Rat.divInt p0.1.1 p0.1.2) (Rat.divInt p0.2.1 p0.2.2) else false))])
@[simp] theorem iOnSegC_at (a b c d : Int) (e f g h i j k l : Int) : iOnSegC [.agg [eQ a b, eQ c d], .agg [.agg [eQ e f, eQ g h], .agg [eQ i j, eQ k l]]] = (((I64 a ∧ I64 b) ∧ I64 c ∧ I64 d) ∧ (((I64 e ∧ I64 f) ∧ I64 g ∧ I64 h) ∧ ((I64 i ∧ I64 j) ∧ I64 k ∧ I64 l)), [.lit (.bool (if (qOk a b ∧ qOk c d) ∧ segOk e f g h i j k l then hasB (Rat.divInt e f) (Rat.divInt g h) (Rat.divInt i j) (Rat.divInt k l) (Rat.divInt a b) (Rat.divInt c d) else false))]) := ct2_at ((a, b), c, d) (((e, f), g, h), (i, j), k, l)
/-! i.Foot -/
noncomputable def iFootC := ct2 EV ESeg (fun p0 p1 => ((I64 p0.1.1 ∧ I64 p0.1.2) ∧ I64 p0.2.1 ∧ I64 p0.2.2) ∧ (((I64 p1.1.1.1 ∧ I64 p1.1.1.2) ∧ I64 p1.1.2.1 ∧ I64 p1.1.2.2) ∧ ((I64 p1.2.1.1 ∧ I64 p1.2.1.2) ∧ I64 p1.2.2.1 ∧ I64 p1.2.2.2))) (fun p0 p1 => vD (if (qOk p0.1.1 p0.1.2 ∧ qOk p0.2.1 p0.2.2) ∧ segOk p1.1.1.1 p1.1.1.2 p1.1.2.1 p1.1.2.2 p1.2.1.1 p1.2.1.2 p1.2.2.1 p1.2.2.2 then oV (footP (Rat.divInt p1.1.1.1 p1.1.1.2) (Rat.divInt p1.1.2.1 p1.1.2.2) (Rat.divInt p1.2.1.1 p1.2.1.2) (Rat.divInt p1.2.2.1 p1.2.2.2) (Rat.divInt p0.1.1 p0.1.2) (Rat.divInt p0.2.1 p0.2.2)).1 (footP (Rat.divInt p1.1.1.1 p1.1.1.2) (Rat.divInt p1.1.2.1 p1.1.2.2) (Rat.divInt p1.2.1.1 p1.2.1.2) (Rat.divInt p1.2.2.1 p1.2.2.2) (Rat.divInt p0.1.1 p0.1.2) (Rat.divInt p0.2.1 p0.2.2)).2 else noV))
@[simp] theorem iFootC_at (a b c d : Int) (e f g h i j k l : Int) : iFootC [.agg [eQ a b, eQ c d], .agg [.agg [eQ e f, eQ g h], .agg [eQ i j, eQ k l]]] = (((I64 a ∧ I64 b) ∧ I64 c ∧ I64 d) ∧ (((I64 e ∧ I64 f) ∧ I64 g ∧ I64 h) ∧ ((I64 i ∧ I64 j) ∧ I64 k ∧ I64 l)), vD (if (qOk a b ∧ qOk c d) ∧ segOk e f g h i j k l then oV (footP (Rat.divInt e f) (Rat.divInt g h) (Rat.divInt i j) (Rat.divInt k l) (Rat.divInt a b) (Rat.divInt c d)).1 (footP (Rat.divInt e f) (Rat.divInt g h) (Rat.divInt i j) (Rat.divInt k l) (Rat.divInt a b) (Rat.divInt c d)).2 else noV)) := ct2_at ((a, b), c, d) (((e, f), g, h), (i, j), k, l)
/-! i.Near -/
noncomputable def iNearC := ct2 EV ESeg (fun p0 p1 => ((I64 p0.1.1 ∧ I64 p0.1.2) ∧ I64 p0.2.1 ∧ I64 p0.2.2) ∧ (((I64 p1.1.1.1 ∧ I64 p1.1.1.2) ∧ I64 p1.1.2.1 ∧ I64 p1.1.2.2) ∧ ((I64 p1.2.1.1 ∧ I64 p1.2.1.2) ∧ I64 p1.2.2.1 ∧ I64 p1.2.2.2))) (fun p0 p1 => vD (if (qOk p0.1.1 p0.1.2 ∧ qOk p0.2.1 p0.2.2) ∧ segOk p1.1.1.1 p1.1.1.2 p1.1.2.1 p1.1.2.2 p1.2.1.1 p1.2.1.2 p1.2.2.1 p1.2.2.2 then oV (nearQ (Rat.divInt p1.1.1.1 p1.1.1.2) (Rat.divInt p1.1.2.1 p1.1.2.2) (Rat.divInt p1.2.1.1 p1.2.1.2) (Rat.divInt p1.2.2.1 p1.2.2.2) (Rat.divInt p0.1.1 p0.1.2) (Rat.divInt p0.2.1 p0.2.2)).1 (nearQ (Rat.divInt p1.1.1.1 p1.1.1.2) (Rat.divInt p1.1.2.1 p1.1.2.2) (Rat.divInt p1.2.1.1 p1.2.1.2) (Rat.divInt p1.2.2.1 p1.2.2.2) (Rat.divInt p0.1.1 p0.1.2) (Rat.divInt p0.2.1 p0.2.2)).2 else noV))
@[simp] theorem iNearC_at (a b c d : Int) (e f g h i j k l : Int) : iNearC [.agg [eQ a b, eQ c d], .agg [.agg [eQ e f, eQ g h], .agg [eQ i j, eQ k l]]] = (((I64 a ∧ I64 b) ∧ I64 c ∧ I64 d) ∧ (((I64 e ∧ I64 f) ∧ I64 g ∧ I64 h) ∧ ((I64 i ∧ I64 j) ∧ I64 k ∧ I64 l)), vD (if (qOk a b ∧ qOk c d) ∧ segOk e f g h i j k l then oV (nearQ (Rat.divInt e f) (Rat.divInt g h) (Rat.divInt i j) (Rat.divInt k l) (Rat.divInt a b) (Rat.divInt c d)).1 (nearQ (Rat.divInt e f) (Rat.divInt g h) (Rat.divInt i j) (Rat.divInt k l) (Rat.divInt a b) (Rat.divInt c d)).2 else noV)) := ct2_at ((a, b), c, d) (((e, f), g, h), (i, j), k, l)
/-! i.Dist2 -/
noncomputable def iDist2C := ct2 EV ESeg (fun p0 p1 => ((I64 p0.1.1 ∧ I64 p0.1.2) ∧ I64 p0.2.1 ∧ I64 p0.2.2) ∧ (((I64 p1.1.1.1 ∧ I64 p1.1.1.2) ∧ I64 p1.1.2.1 ∧ I64 p1.1.2.2) ∧ ((I64 p1.2.1.1 ∧ I64 p1.2.1.2) ∧ I64 p1.2.2.1 ∧ I64 p1.2.2.2))) (fun p0 p1 => d3 (if (qOk p0.1.1 p0.1.2 ∧ qOk p0.2.1 p0.2.2) ∧ segOk p1.1.1.1 p1.1.1.2 p1.1.2.1 p1.1.2.2 p1.2.1.1 p1.2.1.2 p1.2.2.1 p1.2.2.2 then oq (dist2Q (Rat.divInt p0.1.1 p0.1.2) (Rat.divInt p0.2.1 p0.2.2) (nearQ (Rat.divInt p1.1.1.1 p1.1.1.2) (Rat.divInt p1.1.2.1 p1.1.2.2) (Rat.divInt p1.2.1.1 p1.2.1.2) (Rat.divInt p1.2.2.1 p1.2.2.2) (Rat.divInt p0.1.1 p0.1.2) (Rat.divInt p0.2.1 p0.2.2)).1 (nearQ (Rat.divInt p1.1.1.1 p1.1.1.2) (Rat.divInt p1.1.2.1 p1.1.2.2) (Rat.divInt p1.2.1.1 p1.2.1.2) (Rat.divInt p1.2.2.1 p1.2.2.2) (Rat.divInt p0.1.1 p0.1.2) (Rat.divInt p0.2.1 p0.2.2)).2) else no3))
@[simp] theorem iDist2C_at (a b c d : Int) (e f g h i j k l : Int) : iDist2C [.agg [eQ a b, eQ c d], .agg [.agg [eQ e f, eQ g h], .agg [eQ i j, eQ k l]]] = (((I64 a ∧ I64 b) ∧ I64 c ∧ I64 d) ∧ (((I64 e ∧ I64 f) ∧ I64 g ∧ I64 h) ∧ ((I64 i ∧ I64 j) ∧ I64 k ∧ I64 l)), d3 (if (qOk a b ∧ qOk c d) ∧ segOk e f g h i j k l then oq (dist2Q (Rat.divInt a b) (Rat.divInt c d) (nearQ (Rat.divInt e f) (Rat.divInt g h) (Rat.divInt i j) (Rat.divInt k l) (Rat.divInt a b) (Rat.divInt c d)).1 (nearQ (Rat.divInt e f) (Rat.divInt g h) (Rat.divInt i j) (Rat.divInt k l) (Rat.divInt a b) (Rat.divInt c d)).2) else no3)) := ct2_at ((a, b), c, d) (((e, f), g, h), (i, j), k, l)
end Go.Proofs.Ytlniifhdimaliaa.Ae

/-! The plain laws of pieces of the plane: on a piece, what two pieces have in common. No condition. -/
namespace Go.Proofs.Ytlniifhdimaliaa.Ae
open Go Go.RowKit Go.Proofs.Ytlniifhdimaliaa.Dig
theorem isg_pos (z : Int) : 0 < z.sign ↔ 0 < z := by
  rcases Int.lt_trichotomy z 0 with h | h | h
  · rw [Int.sign_eq_neg_one_of_neg h]; omega
  · subst h; simp
  · rw [Int.sign_eq_one_of_pos h]; omega
theorem isg_neg (z : Int) : z.sign < 0 ↔ z < 0 := by
  rcases Int.lt_trichotomy z 0 with h | h | h
  · rw [Int.sign_eq_neg_one_of_neg h]; omega
  · subst h; simp
  · rw [Int.sign_eq_one_of_pos h]; omega
theorem isg_zero (z : Int) : z.sign = 0 ↔ z = 0 := by
  rcases Int.lt_trichotomy z 0 with h | h | h
  · rw [Int.sign_eq_neg_one_of_neg h]; omega
  · subst h; simp
  · rw [Int.sign_eq_one_of_pos h]; omega
theorem qcmp_lt (a b : Rat) : qcmp a b < 0 ↔ a < b := by unfold qcmp; rw [isg_neg, Rat.lt_iff]; omega
theorem qcmp_gt (a b : Rat) : 0 < qcmp a b ↔ b < a := by unfold qcmp; rw [isg_pos, Rat.lt_iff]; omega
theorem qcmp_eq (a b : Rat) : qcmp a b = 0 ↔ a = b := by
  constructor
  · intro h
    have h1 := (fun x => by have := (qcmp_lt a b).mpr x; omega : ¬ a < b)
    have h2 := (fun x => by have := (qcmp_gt a b).mpr x; omega : ¬ b < a)
    grind
  · rintro rfl; unfold qcmp; simp
theorem qs_neg (a : Rat) : a.num.sign < 0 ↔ a < 0 := by rw [isg_neg]; have := Rat.num_nonneg (q := a); grind
theorem qs_pos (a : Rat) : 0 < a.num.sign ↔ 0 < a := by rw [isg_pos]; have := Rat.num_nonneg (q := a); have := Rat.num_eq_zero (q := a); grind
theorem qs_zero (a : Rat) : a.num.sign = 0 ↔ a = 0 := by rw [isg_zero]; exact Rat.num_eq_zero
theorem lohi (a b : Rat) : (loQ a b = a ∧ hiQ a b = b ∧ a ≤ b) ∨ (loQ a b = b ∧ hiQ a b = a ∧ b < a) := by
  unfold loQ hiQ
  by_cases h : 0 < qcmp a b
  · exact .inr ⟨if_pos h, if_pos h, (qcmp_gt _ _).mp h⟩
  · have h' : ¬ b < a := fun x => h ((qcmp_gt a b).mpr x)
    exact .inl ⟨if_neg h, if_neg h, by grind⟩
theorem lohi_same (a : Rat) : loQ a a = a ∧ hiQ a a = a := by unfold loQ hiQ; split <;> exact ⟨rfl, rfl⟩
/-- Between two numbers, as a product tells it. -/
theorem btw (a b p : Rat) : bapart a b p p = false ↔ (p - a) * (p - b) ≤ 0 := by
  unfold bapart
  rw [(lohi_same p).1, (lohi_same p).2, Bool.or_eq_false_iff, decide_eq_false_iff_not, decide_eq_false_iff_not, qcmp_lt, qcmp_lt]
  rcases lohi a b with ⟨e1, e2, h⟩ | ⟨e1, e2, h⟩ <;> rw [e1, e2]
  · constructor
    · rintro ⟨h1, h2⟩
      have : 0 ≤ (p - a) * (b - p) := Rat.mul_nonneg (by grind) (by grind)
      grind
    · intro h0
      constructor
      · intro h1
        have : 0 < (p - a) * (p - b) := Rat.mul_pos (by grind) (by grind)
        grind
      · intro h1
        have : 0 < (a - p) * (b - p) := Rat.mul_pos (by grind) (by grind)
        grind
  · constructor
    · rintro ⟨h1, h2⟩
      have : 0 ≤ (a - p) * (p - b) := Rat.mul_nonneg (by grind) (by grind)
      grind
    · intro h0
      constructor
      · intro h1
        have : 0 < (p - a) * (p - b) := Rat.mul_pos (by grind) (by grind)
        grind
      · intro h1
        have : 0 < (a - p) * (b - p) := Rat.mul_pos (by grind) (by grind)
        grind
theorem sq_zero {a : Rat} (h : a * a ≤ 0) : a = 0 := by
  have h1 := sq_nn a
  have h2 : a * a = 0 := by grind
  rcases Rat.mul_eq_zero.mp h2 with x | x <;> exact x
theorem sq_p {a : Rat} (h : a ≠ 0) : 0 < a * a := by
  have h1 := sq_nn a
  have : a * a ≠ 0 := fun e => h (sq_zero (by grind))
  grind
/-- On a straight piece: by its box, or by the angle at the place. -/
theorem on_has {a b c d p q : Rat} (hn : ¬ (c - a = 0 ∧ d - b = 0)) :
    hasB a b c d p q = (decide ((turnQ a b c d p q).num.sign = 0) && decide ((dotQ (a - p) (b - q) (c - p) (d - q)).num.sign ≤ 0)) := by
  by_cases ht : (turnQ a b c d p q).num.sign = 0
  · have t0 : turnQ a b c d p q = 0 := (qs_zero _).mp ht
    have hd : (dotQ (a - p) (b - q) (c - p) (d - q)).num.sign ≤ 0 ↔ dotQ (a - p) (b - q) (c - p) (d - q) ≤ 0 := by
      have := qs_pos (dotQ (a - p) (b - q) (c - p) (d - q))
      constructor
      · intro h
        have : ¬ 0 < dotQ (a - p) (b - q) (c - p) (d - q) := fun x => by have := (qs_pos _).mpr x; omega
        grind
      · intro h
        have : ¬ 0 < (dotQ (a - p) (b - q) (c - p) (d - q)).num.sign := fun x => by have := (qs_pos _).mp x; grind
        omega
    have key : (bapart a c p p = false ∧ bapart b d q q = false) ↔ dotQ (a - p) (b - q) (c - p) (d - q) ≤ 0 := by
      rw [btw, btw]
      unfold turnQ crossQ at t0
      unfold dotQ
      generalize hX : p - a = X at *
      generalize hY : q - b = Y at *
      generalize hU : c - a = U at *
      generalize hW : d - b = W at *
      have e1 : p - c = X - U := by grind
      have e2 : q - d = Y - W := by grind
      have e3 : a - p = -X := by grind
      have e4 : b - q = -Y := by grind
      have e5 : c - p = U - X := by grind
      have e6 : d - q = W - Y := by grind
      rw [e1, e2, e3, e4, e5, e6]
      constructor
      · rintro ⟨h1, h2⟩; grind
      · intro h
        have id1 : X * (X - U) * (W * W) = Y * (Y - W) * (U * U) := by grind
        have nnU := sq_nn U
        have nnW := sq_nn W
        constructor
        · refine Decidable.byContradiction fun h1 => ?_
          have h1 : 0 < X * (X - U) := by grind
          have h2 : Y * (Y - W) < 0 := by grind
          have p1 : 0 ≤ X * (X - U) * (W * W) := Rat.mul_nonneg (by grind) nnW
          have p2 : 0 ≤ -(Y * (Y - W)) * (U * U) := Rat.mul_nonneg (by grind) nnU
          have hU0 : U = 0 := Decidable.byContradiction fun hU => by
            have : 0 < -(Y * (Y - W)) * (U * U) := Rat.mul_pos (by grind) (sq_p hU)
            grind
          have hW0 : W = 0 := Decidable.byContradiction fun hW => by
            have : 0 < X * (X - U) * (W * W) := Rat.mul_pos h1 (sq_p hW)
            grind
          exact hn ⟨hU0, hW0⟩
        · refine Decidable.byContradiction fun h1 => ?_
          have h1 : 0 < Y * (Y - W) := by grind
          have h2 : X * (X - U) < 0 := by grind
          have p1 : 0 ≤ Y * (Y - W) * (U * U) := Rat.mul_nonneg (by grind) nnU
          have p2 : 0 ≤ -(X * (X - U)) * (W * W) := Rat.mul_nonneg (by grind) nnW
          have hW0 : W = 0 := Decidable.byContradiction fun hW => by
            have : 0 < -(X * (X - U)) * (W * W) := Rat.mul_pos (by grind) (sq_p hW)
            grind
          have hU0 : U = 0 := Decidable.byContradiction fun hU => by
            have : 0 < Y * (Y - W) * (U * U) := Rat.mul_pos h1 (sq_p hU)
            grind
          exact hn ⟨hU0, hW0⟩
    unfold hasB
    rw [decide_eq_true ht, Bool.and_true, Bool.true_and]
    by_cases hD : dotQ (a - p) (b - q) (c - p) (d - q) ≤ 0
    · obtain ⟨k1, k2⟩ := key.mpr hD
      rw [k1, k2, decide_eq_true (hd.mpr hD)]; rfl
    · have : ¬ (bapart a c p p = false ∧ bapart b d q q = false) := fun x => hD (key.mp x)
      rw [decide_eq_false (fun x => hD (hd.mp x))]
      cases h1 : bapart a c p p <;> cases h2 : bapart b d q q <;> simp_all
  · unfold hasB
    rw [decide_eq_false ht, Bool.and_false, Bool.false_and]
theorem ap_pt {a c e g x : Rat} (h1 : (x - a) * (x - c) ≤ 0) (h2 : (x - e) * (x - g) ≤ 0) : bapart a c e g = false := by
  have k1 := (btw a c x).mpr h1
  have k2 := (btw e g x).mpr h2
  unfold bapart at k1 k2 ⊢
  rw [(lohi_same x).1, (lohi_same x).2, Bool.or_eq_false_iff, decide_eq_false_iff_not, decide_eq_false_iff_not, qcmp_lt, qcmp_lt] at k1 k2
  rw [Bool.or_eq_false_iff, decide_eq_false_iff_not, decide_eq_false_iff_not, qcmp_lt, qcmp_lt]
  grind
theorem pcmp_le (a b c d : Rat) : pcmp a b c d ≤ 0 ↔ (a < c ∨ a = c ∧ b ≤ d) := by
  unfold pcmp
  by_cases h : qcmp a c = 0
  · rw [if_pos h]
    have e := (qcmp_eq a c).mp h
    have := qcmp_gt b d
    constructor
    · intro h1
      have : ¬ d < b := fun x => by have := this.mpr x; omega
      exact .inr ⟨e, by grind⟩
    · rintro (h1 | ⟨_, h1⟩)
      · grind
      · have : ¬ 0 < qcmp b d := fun x => by have := this.mp x; grind
        omega
  · rw [if_neg h]
    have hne : a ≠ c := fun e => h ((qcmp_eq a c).mpr e)
    have h2 := qcmp_lt a c
    constructor
    · intro h1; exact .inl (h2.mp (by omega))
    · rintro (h1 | ⟨h1, _⟩)
      · have := h2.mpr h1; omega
      · exact absurd h1 hne
theorem pcmp_swap (a b c d : Rat) : 0 < pcmp a b c d → pcmp c d a b ≤ 0 := by
  intro h
  have h1 : ¬ pcmp a b c d ≤ 0 := by omega
  rw [pcmp_le] at h1 ⊢
  grind
theorem pcmp_trans {a b c d e f : Rat} (h1 : pcmp a b c d ≤ 0) (h2 : pcmp c d e f ≤ 0) : pcmp a b e f ≤ 0 := by
  rw [pcmp_le] at *
  grind
theorem lexbox {a b c d p q : Rat} (h1 : pcmp a b p q ≤ 0) (h2 : pcmp p q c d ≤ 0) (hc : crossQ (p - a) (q - b) (c - a) (d - b) = 0) :
    (p - a) * (p - c) ≤ 0 ∧ (q - b) * (q - d) ≤ 0 := by
  rw [pcmp_le] at h1 h2
  unfold crossQ at hc
  have x1 : 0 ≤ p - a := by grind
  have x2 : 0 ≤ c - p := by grind
  have hx := Rat.mul_nonneg x1 x2
  refine ⟨by grind, ?_⟩
  by_cases hD : c = a
  · have y1 : 0 ≤ q - b := by grind
    have y2 : 0 ≤ d - q := by grind
    have := Rat.mul_nonneg y1 y2
    grind
  · have hD' : c - a ≠ 0 := by grind
    have hpos := sq_p hD'
    refine Decidable.byContradiction fun hn => ?_
    have hZ : 0 < (q - b) * (q - d) := by grind
    have p1 := Rat.mul_pos hZ hpos
    have e1 : (q - b) * (q - d) * ((c - a) * (c - a)) = ((p - a) * (p - c)) * ((d - b) * (d - b)) := by grind
    have p2 : 0 ≤ ((p - a) * (c - p)) * ((d - b) * (d - b)) := Rat.mul_nonneg hx (sq_nn _)
    grind
def upQ (a b c d : Rat) : (Rat × Rat) × Rat × Rat := if 0 < pcmp a b c d then ((c, d), a, b) else ((a, b), c, d)
def pc2 (p q : Rat × Rat) : Int := pcmp p.1 p.2 q.1 q.2
def gtP (x p : Rat × Rat) : Rat × Rat := if 0 < pc2 x p then x else p
def ltP (x p : Rat × Rat) : Rat × Rat := if pc2 x p < 0 then x else p
def endQ (lo hi : Rat × Rat) : Option (Int × (Rat × Rat) × Rat × Rat) := if pc2 lo hi < 0 then some (2, lo, hi) else if pc2 lo hi = 0 then some (1, lo, lo) else none
def lineQ (a b c d e f g h : Rat) : Option (Int × (Rat × Rat) × Rat × Rat) := endQ (gtP (upQ e f g h).1 (upQ a b c d).1) (ltP (upQ e f g h).2 (upQ a b c d).2)
def parQ (a b c d e f g h : Rat) : Rat := crossQ (c - a) (d - b) (g - e) (h - f)
def tQ (a b c d e f g h : Rat) : Rat := crossQ (e - a) (f - b) (g - e) (h - f) / parQ a b c d e f g h
def sQ (a b c d e f g h : Rat) : Rat := crossQ (e - a) (f - b) (c - a) (d - b) / parQ a b c d e f g h
def inU (t : Rat) : Bool := !(decide (t.num.sign < 0)) && !(decide (0 < qcmp t 1))
def smeetQ (a b c d e f g h : Rat) : Option (Int × (Rat × Rat) × Rat × Rat) :=
  if (parQ a b c d e f g h).num.sign = 0 then
    if (crossQ (c - a) (d - b) (e - a) (f - b)).num.sign = 0 then lineQ a b c d e f g h else none
  else if inU (tQ a b c d e f g h) && inU (sQ a b c d e f g h) then some (1, (a + (c - a) * tQ a b c d e f g h, b + (d - b) * tQ a b c d e f g h), a + (c - a) * tQ a b c d e f g h, b + (d - b) * tQ a b c d e f g h)
  else none
def meetQ (a b c d e f g h : Rat) : Option (Int × (Rat × Rat) × Rat × Rat) := if bapart a c e g || bapart b d f h then none else smeetQ a b c d e f g h
theorem up_spec (a b c d : Rat) : pc2 (upQ a b c d).1 (upQ a b c d).2 ≤ 0 ∧ ((upQ a b c d).1 = (a, b) ∧ (upQ a b c d).2 = (c, d) ∨ (upQ a b c d).1 = (c, d) ∧ (upQ a b c d).2 = (a, b)) := by
  unfold upQ pc2
  by_cases h : 0 < pcmp a b c d
  · rw [if_pos h]; exact ⟨pcmp_swap _ _ _ _ h, .inr ⟨rfl, rfl⟩⟩
  · rw [if_neg h]; exact ⟨by show pcmp a b c d ≤ 0; omega, .inl ⟨rfl, rfl⟩⟩
theorem inU_spec {t : Rat} (h : inU t = true) : 0 ≤ t ∧ t ≤ 1 := by
  unfold inU at h
  rw [Bool.and_eq_true, Bool.not_eq_true', Bool.not_eq_true', decide_eq_false_iff_not, decide_eq_false_iff_not, qs_neg, qcmp_gt] at h
  grind
theorem par_tri {U W V X Y Z : Rat} (hn : ¬ (U = 0 ∧ W = 0)) (h1 : U * X - W * V = 0) (h2 : U * Z - W * Y = 0) : Y * X - Z * V = 0 := by
  by_cases hU : U = 0
  · have hW : W ≠ 0 := fun e => hn ⟨hU, e⟩
    have e1 : W * V = 0 := by grind
    have e2 : W * Y = 0 := by grind
    have e3 : V = 0 := (Rat.mul_eq_zero.mp e1).resolve_left hW
    have e4 : Y = 0 := (Rat.mul_eq_zero.mp e2).resolve_left hW
    grind
  · have : U * (Y * X - Z * V) = 0 := by grind
    exact (Rat.mul_eq_zero.mp this).resolve_left hU
theorem smeet_box {a b c d e f g h : Rat} (hn : ¬ (c - a = 0 ∧ d - b = 0)) (hm : ¬ (g - e = 0 ∧ h - f = 0)) {r : Int × (Rat × Rat) × Rat × Rat} (hs : smeetQ a b c d e f g h = some r) : bapart a c e g = false ∧ bapart b d f h = false := by
  unfold smeetQ at hs
  by_cases hk : (parQ a b c d e f g h).num.sign = 0
  · rw [if_pos hk] at hs
    by_cases hw : (crossQ (c - a) (d - b) (e - a) (f - b)).num.sign = 0
    · rw [if_pos hw] at hs
      have k0 : parQ a b c d e f g h = 0 := (qs_zero _).mp hk
      have w0 : crossQ (c - a) (d - b) (e - a) (f - b) = 0 := (qs_zero _).mp hw
      unfold parQ crossQ at k0
      unfold crossQ at w0
      have w1 : (e - a) * (h - f) - (f - b) * (g - e) = 0 := by
        have := par_tri hn k0 w0
        grind
      obtain ⟨o1, u1⟩ := up_spec a b c d
      obtain ⟨o2, u2⟩ := up_spec e f g h
      unfold lineQ at hs
      generalize hP : gtP (upQ e f g h).1 (upQ a b c d).1 = P at hs
      generalize hR : ltP (upQ e f g h).2 (upQ a b c d).2 = R at hs
      generalize upQ a b c d = u at *
      generalize upQ e f g h = v at *
      have pr : pc2 P R ≤ 0 := by unfold endQ at hs; grind
      have p1 : pc2 u.1 P ≤ 0 ∧ pc2 v.1 P ≤ 0 ∧ (P = u.1 ∨ P = v.1) := by
        rw [← hP]; unfold gtP
        by_cases hc : 0 < pc2 v.1 u.1
        · rw [if_pos hc]; exact ⟨pcmp_swap _ _ _ _ hc, by unfold pc2; rw [pcmp_le]; grind, .inr rfl⟩
        · rw [if_neg hc]; exact ⟨by unfold pc2; rw [pcmp_le]; grind, by omega, .inl rfl⟩
      have p2 : pc2 R u.2 ≤ 0 ∧ pc2 R v.2 ≤ 0 := by
        rw [← hR]; unfold ltP
        by_cases hc : pc2 v.2 u.2 < 0
        · rw [if_pos hc]; exact ⟨by omega, by unfold pc2; rw [pcmp_le]; grind⟩
        · rw [if_neg hc]
          refine ⟨by unfold pc2; rw [pcmp_le]; grind, ?_⟩
          by_cases h0 : 0 < pc2 v.2 u.2
          · exact pcmp_swap _ _ _ _ h0
          · have : pcmp v.2.1 v.2.2 u.2.1 u.2.2 = 0 := by unfold pc2 at hc h0; omega
            have hh : ¬ (qcmp v.2.1 u.2.1 ≠ 0) := by
              intro hq; unfold pcmp at this; rw [if_neg hq] at this; exact hq this
            have hq : qcmp v.2.1 u.2.1 = 0 := by omega
            unfold pcmp at this
            rw [if_pos hq] at this
            have e1 := (qcmp_eq _ _).mp hq
            have e2 := (qcmp_eq _ _).mp this
            unfold pc2; rw [pcmp_le]; grind
      have q1 : pc2 P u.2 ≤ 0 := pcmp_trans pr p2.1
      have q2 : pc2 P v.2 ≤ 0 := pcmp_trans pr p2.2
      have c1 : crossQ (P.1 - u.1.1) (P.2 - u.1.2) (u.2.1 - u.1.1) (u.2.2 - u.1.2) = 0 := by
        unfold crossQ
        rcases p1.2.2 with e0 | e0 <;> rcases u1 with ⟨e1, e2⟩ | ⟨e1, e2⟩ <;> rcases u2 with ⟨e3, e4⟩ | ⟨e3, e4⟩ <;> simp only [e0, e1, e2, e3, e4] <;> grind
      have c2 : crossQ (P.1 - v.1.1) (P.2 - v.1.2) (v.2.1 - v.1.1) (v.2.2 - v.1.2) = 0 := by
        unfold crossQ
        rcases p1.2.2 with e0 | e0 <;> rcases u1 with ⟨e1, e2⟩ | ⟨e1, e2⟩ <;> rcases u2 with ⟨e3, e4⟩ | ⟨e3, e4⟩ <;> simp only [e0, e1, e2, e3, e4] <;> grind
      have b1 := lexbox p1.1 q1 c1
      have b2 := lexbox p1.2.1 q2 c2
      have b3 : (P.1 - a) * (P.1 - c) ≤ 0 ∧ (P.2 - b) * (P.2 - d) ≤ 0 := by
        rcases u1 with ⟨e1, e2⟩ | ⟨e1, e2⟩ <;> rw [e1, e2] at b1 <;> refine ⟨?_, ?_⟩ <;> grind
      have b4 : (P.1 - e) * (P.1 - g) ≤ 0 ∧ (P.2 - f) * (P.2 - h) ≤ 0 := by
        rcases u2 with ⟨e1, e2⟩ | ⟨e1, e2⟩ <;> rw [e1, e2] at b2 <;> refine ⟨?_, ?_⟩ <;> grind
      exact ⟨ap_pt b3.1 b4.1, ap_pt b3.2 b4.2⟩
    · rw [if_neg hw] at hs; simp at hs
  · rw [if_neg hk] at hs
    by_cases hi : (inU (tQ a b c d e f g h) && inU (sQ a b c d e f g h)) = true
    · rw [Bool.and_eq_true] at hi
      have ht := inU_spec hi.1
      have hs' := inU_spec hi.2
      have k0 : parQ a b c d e f g h ≠ 0 := fun x => hk ((qs_zero _).mpr x)
      have et : parQ a b c d e f g h * tQ a b c d e f g h = crossQ (e - a) (f - b) (g - e) (h - f) := by unfold tQ; rw [Rat.mul_comm]; exact Rat.div_mul_cancel k0
      have es : parQ a b c d e f g h * sQ a b c d e f g h = crossQ (e - a) (f - b) (c - a) (d - b) := by unfold sQ; rw [Rat.mul_comm]; exact Rat.div_mul_cancel k0
      generalize tQ a b c d e f g h = t at *
      generalize sQ a b c d e f g h = s at *
      have i1 : parQ a b c d e f g h * (a + (c - a) * t - (e + (g - e) * s)) = 0 := by
        have : parQ a b c d e f g h * (a + (c - a) * t - (e + (g - e) * s)) = parQ a b c d e f g h * (a - e) + (c - a) * (parQ a b c d e f g h * t) - (g - e) * (parQ a b c d e f g h * s) := by grind
        rw [this, et, es]; unfold parQ crossQ; grind
      have i2 : parQ a b c d e f g h * (b + (d - b) * t - (f + (h - f) * s)) = 0 := by
        have : parQ a b c d e f g h * (b + (d - b) * t - (f + (h - f) * s)) = parQ a b c d e f g h * (b - f) + (d - b) * (parQ a b c d e f g h * t) - (h - f) * (parQ a b c d e f g h * s) := by grind
        rw [this, et, es]; unfold parQ crossQ; grind
      have j1 := (Rat.mul_eq_zero.mp i1).resolve_left k0
      have j2 := (Rat.mul_eq_zero.mp i2).resolve_left k0
      have r1 : 0 ≤ t * (1 - t) := Rat.mul_nonneg ht.1 (by grind)
      have r2 : 0 ≤ s * (1 - s) := Rat.mul_nonneg hs'.1 (by grind)
      have m1 := Rat.mul_nonneg r1 (sq_nn (c - a))
      have m2 := Rat.mul_nonneg r1 (sq_nn (d - b))
      have m3 := Rat.mul_nonneg r2 (sq_nn (g - e))
      have m4 := Rat.mul_nonneg r2 (sq_nn (h - f))
      have x1 : a + (c - a) * t = e + (g - e) * s := by grind
      have x2 : b + (d - b) * t = f + (h - f) * s := by grind
      refine ⟨ap_pt (x := a + (c - a) * t) ?_ ?_, ap_pt (x := b + (d - b) * t) ?_ ?_⟩
      · grind
      · rw [x1]; grind
      · grind
      · rw [x2]; grind
    · rw [if_neg hi] at hs; simp at hs
/-- The quick test changes nothing. -/
theorem meet_smeet {a b c d e f g h : Rat} (hn : ¬ (c - a = 0 ∧ d - b = 0)) (hm : ¬ (g - e = 0 ∧ h - f = 0)) : meetQ a b c d e f g h = smeetQ a b c d e f g h := by
  unfold meetQ
  cases hs : smeetQ a b c d e f g h with
  | none => simp
  | some r => obtain ⟨h1, h2⟩ := smeet_box hn hm hs; rw [h1, h2]; simp
end Go.Proofs.Ytlniifhdimaliaa.Ae

/-! OnSeg, Foot, Near, Dist2: the reference, and the laws.  No condition. -/
namespace Go.Proofs.Ytlniifhdimaliaa.Ae
open Go Go.RowKit Go.Proofs.Ytlniifhdimaliaa.Dig
@[simp] theorem eqQ_b (a b c d : Int) : eqQC [eQ a b, eQ c d] = (True, [.lit (.bool (decide (a = c) && decide (b = d)))]) := eqQC_at a b c d
theorem rat_one (a : Int) : Rat.divInt a 1 = (a : Rat) := by rw [Rat.divInt_eq_div]; simp; grind

/-! s.SegOk -/
noncomputable def sSegOkC := ct1 ESeg (fun p0 => (((I64 p0.1.1.1 ∧ I64 p0.1.1.2) ∧ I64 p0.1.2.1 ∧ I64 p0.1.2.2) ∧ ((I64 p0.2.1.1 ∧ I64 p0.2.1.2) ∧ I64 p0.2.2.1 ∧ I64 p0.2.2.2))) (fun p0 => [.lit (.bool (decide (segOk p0.1.1.1 p0.1.1.2 p0.1.2.1 p0.1.2.2 p0.2.1.1 p0.2.1.2 p0.2.2.1 p0.2.2.2)))])
@[simp] theorem sSegOkC_at (a b c d e f g h : Int) : sSegOkC [.agg [.agg [eQ a b, eQ c d], .agg [eQ e f, eQ g h]]] = ((((I64 a ∧ I64 b) ∧ I64 c ∧ I64 d) ∧ ((I64 e ∧ I64 f) ∧ I64 g ∧ I64 h)), [.lit (.bool (decide (segOk a b c d e f g h)))]) := ct1_at (((a, b), c, d), (e, f), g, h)
/-! s.l3V -/
noncomputable def l3VC := ct1 EPn (fun p0 => True) (fun p0 => vD (oV p0.1 p0.2))
@[simp] theorem l3VC_at (a b : Rat) : l3VC [.agg [nD a, nD b]] = (True, vD (oV a b)) := ct1_at (a, b)
/-! s.l1rInt -/
noncomputable def l1rIntC := ct1 EInt (fun p0 => I64 p0) (fun p0 => [nD (p0 : Rat)])
@[simp] theorem l1rIntC_at (a : Int) : l1rIntC [.lit (.int .i64 a)] = (I64 a, [nD (a : Rat)]) := ct1_at a
noncomputable def l1rIntTb : List (FuncId × Ct) := [(37, .data nOfC)]
theorem l1rIntTb_ok : TbOK NF Try.prog (tbl l1rIntTb) := tbl_cons (c := .data nOfC) nOf_spec l1rOf_ok tbl_nil

@[simp] theorem l1rIntTb1 : tbl l1rIntTb 37 = some (.data nOfC) := rfl
theorem l1rInt_spec : SpecD NF Try.prog 30 l1rIntC := by
  refine rd1 (mf := fun f => false) l1rIntTb_ok (fn := Try.f30) (by kernel_rfl) rfl (by kernel_rfl) (by kernel_rfl) ?_
  rintro a hp
  have hp : I64 a := hp
  show awp _ _ _ _ (start _ ([.lit (.int .i64 a)].map .dat) []) (endK _ _ _ (([nD (a : Rat)]).map .dat) [])
  have e : Rat.divInt a 1 = (a : Rat) := rat_one a
  have h1 : I64 1 := by unfold I64; omega
  simp [-D.isLit, Try.f30, hp, h1, e]
theorem l1rInt_ok : callable Try.prog 30 = true := by kernel_rfl

/-! s.l3Add -/
noncomputable def l3AddC := ct2 EPn EPn (fun p0 p1 => qsz p0.1 + qsz p0.2 + qsz p1.1 + qsz p1.2 < LM) (fun p0 p1 => [.agg [nD (p0.1 + p1.1), nD (p0.2 + p1.2)]])
@[simp] theorem l3AddC_at (a b : Rat) (c d : Rat) : l3AddC [.agg [nD a, nD b], .agg [nD c, nD d]] = (qsz a + qsz b + qsz c + qsz d < LM, [.agg [nD (a + c), nD (b + d)]]) := ct2_at (a, b) (c, d)
noncomputable def l3AddTb : List (FuncId × Ct) := [(33, .data nAddC)]
theorem l3AddTb_ok : TbOK NF Try.prog (tbl l3AddTb) := tbl_cons (c := .data nAddC) nAdd_spec l1rAdd_ok tbl_nil

@[simp] theorem l3AddTb1 : tbl l3AddTb 33 = some (.data nAddC) := rfl
/-! s.l3Times -/
noncomputable def l3TimesC := ct2 EPn ENum (fun p0 p1 => qsz p0.1 + qsz p0.2 + qsz p1 < LM) (fun p0 p1 => [.agg [nD (p0.1 * p1), nD (p0.2 * p1)]])
@[simp] theorem l3TimesC_at (a b : Rat) (c : Rat) : l3TimesC [.agg [nD a, nD b], nD c] = (qsz a + qsz b + qsz c < LM, [.agg [nD (a * c), nD (b * c)]]) := ct2_at (a, b) c
noncomputable def l3TimesTb : List (FuncId × Ct) := [(31, .data nMulC)]
theorem l3TimesTb_ok : TbOK NF Try.prog (tbl l3TimesTb) := tbl_cons (c := .data nMulC) nMul_spec l1rMul_ok tbl_nil

@[simp] theorem l3TimesTb1 : tbl l3TimesTb 31 = some (.data nMulC) := rfl
/-! s.l3Dot -/
noncomputable def l3DotC := ct2 EPn EPn (fun p0 p1 => qsz p0.1 + qsz p0.2 + qsz p1.1 + qsz p1.2 < LM) (fun p0 p1 => [nD (dotQ p0.1 p0.2 p1.1 p1.2)])
@[simp] theorem l3DotC_at (a b : Rat) (c d : Rat) : l3DotC [.agg [nD a, nD b], .agg [nD c, nD d]] = (qsz a + qsz b + qsz c + qsz d < LM, [nD (dotQ a b c d)]) := ct2_at (a, b) (c, d)
noncomputable def l3DotTb : List (FuncId × Ct) := [(31, .data nMulC), (33, .data nAddC)]
theorem l3DotTb_ok : TbOK NF Try.prog (tbl l3DotTb) := tbl_cons (c := .data nMulC) nMul_spec l1rMul_ok (tbl_cons (c := .data nAddC) nAdd_spec l1rAdd_ok tbl_nil)

@[simp] theorem l3DotTb1 : tbl l3DotTb 31 = some (.data nMulC) := rfl
@[simp] theorem l3DotTb2 : tbl l3DotTb 33 = some (.data nAddC) := rfl
/-! s.l3On -/
noncomputable def l3OnC := ct3 EPn EPn EPn (fun p0 p1 p2 => qsz p1.1 + qsz p1.2 + qsz p2.1 + qsz p2.2 + qsz p0.1 + qsz p0.2 < 10000000 ∧ ¬ (p2.1 - p1.1 = 0 ∧ p2.2 - p1.2 = 0)) (fun p0 p1 p2 => [.lit (.bool (hasB p1.1 p1.2 p2.1 p2.2 p0.1 p0.2))])
@[simp] theorem l3OnC_at (p q : Rat) (a b : Rat) (c d : Rat) : l3OnC [.agg [nD p, nD q], .agg [nD a, nD b], .agg [nD c, nD d]] = (qsz a + qsz b + qsz c + qsz d + qsz p + qsz q < 10000000 ∧ ¬ (c - a = 0 ∧ d - b = 0), [.lit (.bool (hasB a b c d p q))]) := ct3_at (p, q) (a, b) (c, d)
noncomputable def l3OnTb : List (FuncId × Ct) := [(15, .data nSignC)]
theorem l3OnTb_ok : TbOK NF Try.prog (tbl l3OnTb) := tbl_cons (c := .data nSignC) nSign_spec l1rSign_ok tbl_nil

@[simp] theorem l3OnTb4 : tbl l3OnTb 15 = some (.data nSignC) := rfl
/-! s.l3Foot -/
noncomputable def l3FootC := ct3 EPn EPn EPn (fun p0 p1 p2 => qsz p1.1 + qsz p1.2 + qsz p2.1 + qsz p2.2 + qsz p0.1 + qsz p0.2 < 10000000 ∧ ¬ (p2.1 - p1.1 = 0 ∧ p2.2 - p1.2 = 0)) (fun p0 p1 p2 => [nD (footQ p1.1 p1.2 p2.1 p2.2 p0.1 p0.2)])
@[simp] theorem l3FootC_at (p q : Rat) (a b : Rat) (c d : Rat) : l3FootC [.agg [nD p, nD q], .agg [nD a, nD b], .agg [nD c, nD d]] = (qsz a + qsz b + qsz c + qsz d + qsz p + qsz q < 10000000 ∧ ¬ (c - a = 0 ∧ d - b = 0), [nD (footQ a b c d p q)]) := ct3_at (p, q) (a, b) (c, d)
/-! s.l3At -/
noncomputable def l3AtC := ct3 EPn EPn ENum (fun p0 p1 p2 => qsz p0.1 + qsz p0.2 + qsz p1.1 + qsz p1.2 + qsz p2 < 100000000) (fun p0 p1 p2 => [.agg [nD (p0.1 + (p1.1 - p0.1) * p2), nD (p0.2 + (p1.2 - p0.2) * p2)]])
@[simp] theorem l3AtC_at (a b : Rat) (c d : Rat) (e : Rat) : l3AtC [.agg [nD a, nD b], .agg [nD c, nD d], nD e] = (qsz a + qsz b + qsz c + qsz d + qsz e < 100000000, [.agg [nD (a + (c - a) * e), nD (b + (d - b) * e)]]) := ct3_at (a, b) (c, d) e
theorem snear {a b c d p q : Rat} (hn : ¬ (c - a = 0 ∧ d - b = 0)) : nearQ a b c d p q = if (footQ a b c d p q).num.sign < 0 then (a, b) else if 0 < qcmp (footQ a b c d p q) 1 then (c, d) else (a + (c - a) * footQ a b c d p q, b + (d - b) * footQ a b c d p q) := by
  unfold nearQ
  generalize footQ a b c d p q = k
  by_cases h1 : k.num.sign < 0
  · rw [if_pos h1, if_pos (by omega)]
  · rw [if_neg h1]
    by_cases h2 : k.num.sign ≤ 0
    · have k0 : k = 0 := (qs_zero k).mp (by omega)
      subst k0
      rw [if_pos h2, if_neg (by rw [qcmp_gt]; decide)]
      congr 1 <;> grind
    · rw [if_neg h2]
      by_cases h3 : 0 < qcmp k 1
      · rw [if_pos h3, if_pos (by omega)]
      · rw [if_neg h3]
        by_cases h4 : 0 ≤ qcmp k 1
        · have k1 : k = 1 := (qcmp_eq k 1).mp (by omega)
          subst k1
          rw [if_pos h4]
          congr 1 <;> grind
        · rw [if_neg h4]

/-! s.l3Near -/
noncomputable def l3NearC := ct3 EPn EPn EPn (fun p0 p1 p2 => qsz p1.1 + qsz p1.2 + qsz p2.1 + qsz p2.2 + qsz p0.1 + qsz p0.2 < 1000000 ∧ ¬ (p2.1 - p1.1 = 0 ∧ p2.2 - p1.2 = 0)) (fun p0 p1 p2 => [.agg [nD (nearQ p1.1 p1.2 p2.1 p2.2 p0.1 p0.2).1, nD (nearQ p1.1 p1.2 p2.1 p2.2 p0.1 p0.2).2]])
@[simp] theorem l3NearC_at (p q : Rat) (a b : Rat) (c d : Rat) : l3NearC [.agg [nD p, nD q], .agg [nD a, nD b], .agg [nD c, nD d]] = (qsz a + qsz b + qsz c + qsz d + qsz p + qsz q < 1000000 ∧ ¬ (c - a = 0 ∧ d - b = 0), [.agg [nD (nearQ a b c d p q).1, nD (nearQ a b c d p q).2]]) := ct3_at (p, q) (a, b) (c, d)
noncomputable def l3NearTb : List (FuncId × Ct) := [(15, .data nSignC), (30, .data l1rIntC), (27, .data nCmpC)]
theorem l3NearTb_ok : TbOK NF Try.prog (tbl l3NearTb) := tbl_cons (c := .data nSignC) nSign_spec l1rSign_ok (tbl_cons (c := .data l1rIntC) l1rInt_spec l1rInt_ok (tbl_cons (c := .data nCmpC) nCmp_spec l1rCmp_ok tbl_nil))

@[simp] theorem l3NearTb2 : tbl l3NearTb 15 = some (.data nSignC) := rfl
@[simp] theorem l3NearTb3 : tbl l3NearTb 30 = some (.data l1rIntC) := rfl
@[simp] theorem l3NearTb4 : tbl l3NearTb 27 = some (.data nCmpC) := rfl
/-! s.OnSeg -/
noncomputable def sOnSegC := ct2 EV ESeg (fun p0 p1 => ((I64 p0.1.1 ∧ I64 p0.1.2) ∧ I64 p0.2.1 ∧ I64 p0.2.2) ∧ (((I64 p1.1.1.1 ∧ I64 p1.1.1.2) ∧ I64 p1.1.2.1 ∧ I64 p1.1.2.2) ∧ ((I64 p1.2.1.1 ∧ I64 p1.2.1.2) ∧ I64 p1.2.2.1 ∧ I64 p1.2.2.2))) (fun p0 p1 => [.lit (.bool (if (qOk p0.1.1 p0.1.2 ∧ qOk p0.2.1 p0.2.2) ∧ segOk p1.1.1.1 p1.1.1.2 p1.1.2.1 p1.1.2.2 p1.2.1.1 p1.2.1.2 p1.2.2.1 p1.2.2.2 then hasB (Rat.divInt p1.1.1.1 p1.1.1.2) (Rat.divInt p1.1.2.1 p1.1.2.2) (Rat.divInt p1.2.1.1 p1.2.1.2) (Rat.divInt p1.2.2.1 p1.2.2.2) (Rat.divInt p0.1.1 p0.1.2) (Rat.divInt p0.2.1 p0.2.2) else false))])
@[simp] theorem sOnSegC_at (a b c d : Int) (e f g h i j k l : Int) : sOnSegC [.agg [eQ a b, eQ c d], .agg [.agg [eQ e f, eQ g h], .agg [eQ i j, eQ k l]]] = (((I64 a ∧ I64 b) ∧ I64 c ∧ I64 d) ∧ (((I64 e ∧ I64 f) ∧ I64 g ∧ I64 h) ∧ ((I64 i ∧ I64 j) ∧ I64 k ∧ I64 l)), [.lit (.bool (if (qOk a b ∧ qOk c d) ∧ segOk e f g h i j k l then hasB (Rat.divInt e f) (Rat.divInt g h) (Rat.divInt i j) (Rat.divInt k l) (Rat.divInt a b) (Rat.divInt c d) else false))]) := ct2_at ((a, b), c, d) (((e, f), g, h), (i, j), k, l)
/-! s.Foot -/
noncomputable def sFootC := ct2 EV ESeg (fun p0 p1 => ((I64 p0.1.1 ∧ I64 p0.1.2) ∧ I64 p0.2.1 ∧ I64 p0.2.2) ∧ (((I64 p1.1.1.1 ∧ I64 p1.1.1.2) ∧ I64 p1.1.2.1 ∧ I64 p1.1.2.2) ∧ ((I64 p1.2.1.1 ∧ I64 p1.2.1.2) ∧ I64 p1.2.2.1 ∧ I64 p1.2.2.2))) (fun p0 p1 => vD (if (qOk p0.1.1 p0.1.2 ∧ qOk p0.2.1 p0.2.2) ∧ segOk p1.1.1.1 p1.1.1.2 p1.1.2.1 p1.1.2.2 p1.2.1.1 p1.2.1.2 p1.2.2.1 p1.2.2.2 then oV (footP (Rat.divInt p1.1.1.1 p1.1.1.2) (Rat.divInt p1.1.2.1 p1.1.2.2) (Rat.divInt p1.2.1.1 p1.2.1.2) (Rat.divInt p1.2.2.1 p1.2.2.2) (Rat.divInt p0.1.1 p0.1.2) (Rat.divInt p0.2.1 p0.2.2)).1 (footP (Rat.divInt p1.1.1.1 p1.1.1.2) (Rat.divInt p1.1.2.1 p1.1.2.2) (Rat.divInt p1.2.1.1 p1.2.1.2) (Rat.divInt p1.2.2.1 p1.2.2.2) (Rat.divInt p0.1.1 p0.1.2) (Rat.divInt p0.2.1 p0.2.2)).2 else noV))
@[simp] theorem sFootC_at (a b c d : Int) (e f g h i j k l : Int) : sFootC [.agg [eQ a b, eQ c d], .agg [.agg [eQ e f, eQ g h], .agg [eQ i j, eQ k l]]] = (((I64 a ∧ I64 b) ∧ I64 c ∧ I64 d) ∧ (((I64 e ∧ I64 f) ∧ I64 g ∧ I64 h) ∧ ((I64 i ∧ I64 j) ∧ I64 k ∧ I64 l)), vD (if (qOk a b ∧ qOk c d) ∧ segOk e f g h i j k l then oV (footP (Rat.divInt e f) (Rat.divInt g h) (Rat.divInt i j) (Rat.divInt k l) (Rat.divInt a b) (Rat.divInt c d)).1 (footP (Rat.divInt e f) (Rat.divInt g h) (Rat.divInt i j) (Rat.divInt k l) (Rat.divInt a b) (Rat.divInt c d)).2 else noV)) := ct2_at ((a, b), c, d) (((e, f), g, h), (i, j), k, l)
/-! s.Near -/
noncomputable def sNearC := ct2 EV ESeg (fun p0 p1 => ((I64 p0.1.1 ∧ I64 p0.1.2) ∧ I64 p0.2.1 ∧ I64 p0.2.2) ∧ (((I64 p1.1.1.1 ∧ I64 p1.1.1.2) ∧ I64 p1.1.2.1 ∧ I64 p1.1.2.2) ∧ ((I64 p1.2.1.1 ∧ I64 p1.2.1.2) ∧ I64 p1.2.2.1 ∧ I64 p1.2.2.2))) (fun p0 p1 => vD (if (qOk p0.1.1 p0.1.2 ∧ qOk p0.2.1 p0.2.2) ∧ segOk p1.1.1.1 p1.1.1.2 p1.1.2.1 p1.1.2.2 p1.2.1.1 p1.2.1.2 p1.2.2.1 p1.2.2.2 then oV (nearQ (Rat.divInt p1.1.1.1 p1.1.1.2) (Rat.divInt p1.1.2.1 p1.1.2.2) (Rat.divInt p1.2.1.1 p1.2.1.2) (Rat.divInt p1.2.2.1 p1.2.2.2) (Rat.divInt p0.1.1 p0.1.2) (Rat.divInt p0.2.1 p0.2.2)).1 (nearQ (Rat.divInt p1.1.1.1 p1.1.1.2) (Rat.divInt p1.1.2.1 p1.1.2.2) (Rat.divInt p1.2.1.1 p1.2.1.2) (Rat.divInt p1.2.2.1 p1.2.2.2) (Rat.divInt p0.1.1 p0.1.2) (Rat.divInt p0.2.1 p0.2.2)).2 else noV))
@[simp] theorem sNearC_at (a b c d : Int) (e f g h i j k l : Int) : sNearC [.agg [eQ a b, eQ c d], .agg [.agg [eQ e f, eQ g h], .agg [eQ i j, eQ k l]]] = (((I64 a ∧ I64 b) ∧ I64 c ∧ I64 d) ∧ (((I64 e ∧ I64 f) ∧ I64 g ∧ I64 h) ∧ ((I64 i ∧ I64 j) ∧ I64 k ∧ I64 l)), vD (if (qOk a b ∧ qOk c d) ∧ segOk e f g h i j k l then oV (nearQ (Rat.divInt e f) (Rat.divInt g h) (Rat.divInt i j) (Rat.divInt k l) (Rat.divInt a b) (Rat.divInt c d)).1 (nearQ (Rat.divInt e f) (Rat.divInt g h) (Rat.divInt i j) (Rat.divInt k l) (Rat.divInt a b) (Rat.divInt c d)).2 else noV)) := ct2_at ((a, b), c, d) (((e, f), g, h), (i, j), k, l)
/-! s.Dist2 -/
noncomputable def sDist2C := ct2 EV ESeg (fun p0 p1 => ((I64 p0.1.1 ∧ I64 p0.1.2) ∧ I64 p0.2.1 ∧ I64 p0.2.2) ∧ (((I64 p1.1.1.1 ∧ I64 p1.1.1.2) ∧ I64 p1.1.2.1 ∧ I64 p1.1.2.2) ∧ ((I64 p1.2.1.1 ∧ I64 p1.2.1.2) ∧ I64 p1.2.2.1 ∧ I64 p1.2.2.2))) (fun p0 p1 => d3 (if (qOk p0.1.1 p0.1.2 ∧ qOk p0.2.1 p0.2.2) ∧ segOk p1.1.1.1 p1.1.1.2 p1.1.2.1 p1.1.2.2 p1.2.1.1 p1.2.1.2 p1.2.2.1 p1.2.2.2 then oq (dist2Q (Rat.divInt p0.1.1 p0.1.2) (Rat.divInt p0.2.1 p0.2.2) (nearQ (Rat.divInt p1.1.1.1 p1.1.1.2) (Rat.divInt p1.1.2.1 p1.1.2.2) (Rat.divInt p1.2.1.1 p1.2.1.2) (Rat.divInt p1.2.2.1 p1.2.2.2) (Rat.divInt p0.1.1 p0.1.2) (Rat.divInt p0.2.1 p0.2.2)).1 (nearQ (Rat.divInt p1.1.1.1 p1.1.1.2) (Rat.divInt p1.1.2.1 p1.1.2.2) (Rat.divInt p1.2.1.1 p1.2.1.2) (Rat.divInt p1.2.2.1 p1.2.2.2) (Rat.divInt p0.1.1 p0.1.2) (Rat.divInt p0.2.1 p0.2.2)).2) else no3))
@[simp] theorem sDist2C_at (a b c d : Int) (e f g h i j k l : Int) : sDist2C [.agg [eQ a b, eQ c d], .agg [.agg [eQ e f, eQ g h], .agg [eQ i j, eQ k l]]] = (((I64 a ∧ I64 b) ∧ I64 c ∧ I64 d) ∧ (((I64 e ∧ I64 f) ∧ I64 g ∧ I64 h) ∧ ((I64 i ∧ I64 j) ∧ I64 k ∧ I64 l)), d3 (if (qOk a b ∧ qOk c d) ∧ segOk e f g h i j k l then oq (dist2Q (Rat.divInt a b) (Rat.divInt c d) (nearQ (Rat.divInt e f) (Rat.divInt g h) (Rat.divInt i j) (Rat.divInt k l) (Rat.divInt a b) (Rat.divInt c d)).1 (nearQ (Rat.divInt e f) (Rat.divInt g h) (Rat.divInt i j) (Rat.divInt k l) (Rat.divInt a b) (Rat.divInt c d)).2) else no3)) := ct2_at ((a, b), c, d) (((e, f), g, h), (i, j), k, l)
/-! l.toSeg -/
noncomputable def toSegC := ct1 ESeg (fun p0 => True) (fun p0 => [.agg [.agg [eQ p0.1.1.1 p0.1.1.2, eQ p0.1.2.1 p0.1.2.2], .agg [eQ p0.2.1.1 p0.2.1.2, eQ p0.2.2.1 p0.2.2.2]]])
@[simp] theorem toSegC_at (a b c d e f g h : Int) : toSegC [.agg [.agg [eQ a b, eQ c d], .agg [eQ e f, eQ g h]]] = (True, [.agg [.agg [eQ a b, eQ c d], .agg [eQ e f, eQ g h]]]) := ct1_at (((a, b), c, d), (e, f), g, h)
/-! l.eqV -/
noncomputable def eqVC := ct2 EV EV (fun p0 p1 => True) (fun p0 p1 => [.lit (.bool (decide (p0.1.1 = p1.1.1 ∧ p0.1.2 = p1.1.2 ∧ p0.2.1 = p1.2.1 ∧ p0.2.2 = p1.2.2)))])
@[simp] theorem eqVC_at (a b c d : Int) (e f g h : Int) : eqVC [.agg [eQ a b, eQ c d], .agg [eQ e f, eQ g h]] = (True, [.lit (.bool (decide (a = e ∧ b = f ∧ c = g ∧ d = h)))]) := ct2_at ((a, b), c, d) ((e, f), g, h)
/-! l.FnExactOnSeg -/
noncomputable def lwOnSegC := ct2 EV ESeg (fun p0 p1 => ((I64 p0.1.1 ∧ I64 p0.1.2) ∧ I64 p0.2.1 ∧ I64 p0.2.2) ∧ (((I64 p1.1.1.1 ∧ I64 p1.1.1.2) ∧ I64 p1.1.2.1 ∧ I64 p1.1.2.2) ∧ ((I64 p1.2.1.1 ∧ I64 p1.2.1.2) ∧ I64 p1.2.2.1 ∧ I64 p1.2.2.2))) (fun p0 p1 => [.lit (.bool true)])
@[simp] theorem lwOnSegC_at (a b c d : Int) (e f g h i j k l : Int) : lwOnSegC [.agg [eQ a b, eQ c d], .agg [.agg [eQ e f, eQ g h], .agg [eQ i j, eQ k l]]] = (((I64 a ∧ I64 b) ∧ I64 c ∧ I64 d) ∧ (((I64 e ∧ I64 f) ∧ I64 g ∧ I64 h) ∧ ((I64 i ∧ I64 j) ∧ I64 k ∧ I64 l)), [.lit (.bool true)]) := ct2_at ((a, b), c, d) (((e, f), g, h), (i, j), k, l)
/-! l.FnExactFoot -/
noncomputable def lwFootC := ct2 EV ESeg (fun p0 p1 => ((I64 p0.1.1 ∧ I64 p0.1.2) ∧ I64 p0.2.1 ∧ I64 p0.2.2) ∧ (((I64 p1.1.1.1 ∧ I64 p1.1.1.2) ∧ I64 p1.1.2.1 ∧ I64 p1.1.2.2) ∧ ((I64 p1.2.1.1 ∧ I64 p1.2.1.2) ∧ I64 p1.2.2.1 ∧ I64 p1.2.2.2))) (fun p0 p1 => [.lit (.bool true)])
@[simp] theorem lwFootC_at (a b c d : Int) (e f g h i j k l : Int) : lwFootC [.agg [eQ a b, eQ c d], .agg [.agg [eQ e f, eQ g h], .agg [eQ i j, eQ k l]]] = (((I64 a ∧ I64 b) ∧ I64 c ∧ I64 d) ∧ (((I64 e ∧ I64 f) ∧ I64 g ∧ I64 h) ∧ ((I64 i ∧ I64 j) ∧ I64 k ∧ I64 l)), [.lit (.bool true)]) := ct2_at ((a, b), c, d) (((e, f), g, h), (i, j), k, l)
/-! l.FnExactNear -/
noncomputable def lwNearC := ct2 EV ESeg (fun p0 p1 => ((I64 p0.1.1 ∧ I64 p0.1.2) ∧ I64 p0.2.1 ∧ I64 p0.2.2) ∧ (((I64 p1.1.1.1 ∧ I64 p1.1.1.2) ∧ I64 p1.1.2.1 ∧ I64 p1.1.2.2) ∧ ((I64 p1.2.1.1 ∧ I64 p1.2.1.2) ∧ I64 p1.2.2.1 ∧ I64 p1.2.2.2))) (fun p0 p1 => [.lit (.bool true)])
@[simp] theorem lwNearC_at (a b c d : Int) (e f g h i j k l : Int) : lwNearC [.agg [eQ a b, eQ c d], .agg [.agg [eQ e f, eQ g h], .agg [eQ i j, eQ k l]]] = (((I64 a ∧ I64 b) ∧ I64 c ∧ I64 d) ∧ (((I64 e ∧ I64 f) ∧ I64 g ∧ I64 h) ∧ ((I64 i ∧ I64 j) ∧ I64 k ∧ I64 l)), [.lit (.bool true)]) := ct2_at ((a, b), c, d) (((e, f), g, h), (i, j), k, l)
/-! l.FnExactDist2 -/
noncomputable def lwDist2C := ct2 EV ESeg (fun p0 p1 => ((I64 p0.1.1 ∧ I64 p0.1.2) ∧ I64 p0.2.1 ∧ I64 p0.2.2) ∧ (((I64 p1.1.1.1 ∧ I64 p1.1.1.2) ∧ I64 p1.1.2.1 ∧ I64 p1.1.2.2) ∧ ((I64 p1.2.1.1 ∧ I64 p1.2.1.2) ∧ I64 p1.2.2.1 ∧ I64 p1.2.2.2))) (fun p0 p1 => [.lit (.bool true)])
@[simp] theorem lwDist2C_at (a b c d : Int) (e f g h i j k l : Int) : lwDist2C [.agg [eQ a b, eQ c d], .agg [.agg [eQ e f, eQ g h], .agg [eQ i j, eQ k l]]] = (((I64 a ∧ I64 b) ∧ I64 c ∧ I64 d) ∧ (((I64 e ∧ I64 f) ∧ I64 g ∧ I64 h) ∧ ((I64 i ∧ I64 j) ∧ I64 k ∧ I64 l)), [.lit (.bool true)]) := ct2_at ((a, b), c, d) (((e, f), g, h), (i, j), k, l)
end Go.Proofs.Ytlniifhdimaliaa.Ae
