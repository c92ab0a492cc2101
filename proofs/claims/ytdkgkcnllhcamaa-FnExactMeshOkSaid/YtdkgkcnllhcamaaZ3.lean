/- Texts put together, in the order in which they build: M1, L0, L1, L2, L3, L4, L5, L6, L7, LA, L8, LB, L9, L10, L11, L12, M2, L13, L14, L15, L16, L20, L21, L22, L23, L24, L25, L26, L27, L28, L29, L30, L31, L32, L33, L34, L35, L36, L37, L38, L39, L40, L41, L50, L51, L52, L53, L54, L55, L56, L57, L58, L59, L60, L61, L62, Q1, L63, L64. No condition. -/
import Derived.Test.YtdkgkcnllhcamaaZ2
import Derived.Laws.Strings
set_option linter.unusedVariables false
set_option linter.unusedSimpArgs false
/-! Digits to the base 2 to the power of 32, and the numbers that they tell. No condition. -/
namespace Go.Proofs.Ytdkgkcnllhcamaa.Dig

/-- The base. -/
def B : Nat := 4294967296
theorem B_pos : 0 < B := by decide
theorem B_one : 1 < B := by decide

/-- The number that digits tell, the least one first. -/
def val : List Nat → Nat
  | [] => 0
  | d :: ds => d + B * val ds
/-- All are digits. -/
def Digs (ds : List Nat) : Prop := ∀ d ∈ ds, d < B
/-- The digits of a number, without zeros at their end. -/
def mag (n : Nat) : List Nat := if h : n = 0 then [] else (n % B) :: mag (n / B)
termination_by n
decreasing_by exact Nat.div_lt_self (Nat.pos_of_ne_zero h) (by decide)

theorem mag_zero : mag 0 = [] := by rw [mag]; rfl
theorem mag_pos {n : Nat} (h : n ≠ 0) : mag n = (n % B) :: mag (n / B) := by rw [mag]; rw [dif_neg h]

theorem val_mag (n : Nat) : val (mag n) = n := by
  induction n using Nat.strongRecOn with
  | ind n ih =>
    by_cases h : n = 0
    · subst h; rw [mag_zero]; rfl
    · rw [mag_pos h, val, ih (n / B) (Nat.div_lt_self (Nat.pos_of_ne_zero h) B_one)]
      exact Nat.mod_add_div n B
theorem mag_inj {a b : Nat} (h : mag a = mag b) : a = b := by rw [← val_mag a, h, val_mag]
theorem Digs.nil : Digs [] := fun _ h => by cases h
theorem Digs.cons {d : Nat} {ds : List Nat} (h : d < B) (hs : Digs ds) : Digs (d :: ds) := fun x hx => by
  rcases List.mem_cons.1 hx with rfl | hx
  · exact h
  · exact hs x hx
theorem Digs.head {d : Nat} {ds : List Nat} (h : Digs (d :: ds)) : d < B := h d List.mem_cons_self
theorem Digs.tail {d : Nat} {ds : List Nat} (h : Digs (d :: ds)) : Digs ds := fun x hx => h x (List.mem_cons_of_mem _ hx)
theorem Digs.append {a b : List Nat} (ha : Digs a) (hb : Digs b) : Digs (a ++ b) := fun x hx => by
  rcases List.mem_append.1 hx with hx | hx
  · exact ha x hx
  · exact hb x hx
theorem Digs.left {a b : List Nat} (h : Digs (a ++ b)) : Digs a := fun x hx => h x (List.mem_append.2 (.inl hx))
theorem Digs.right {a b : List Nat} (h : Digs (a ++ b)) : Digs b := fun x hx => h x (List.mem_append.2 (.inr hx))
theorem Digs.at {ds : List Nat} (h : Digs ds) {i d : Nat} (hi : ds[i]? = some d) : d < B := h d (List.mem_of_getElem? hi)
theorem Digs.take {ds : List Nat} (h : Digs ds) (i : Nat) : Digs (ds.take i) := fun x hx => h x (List.mem_of_mem_take hx)
theorem Digs.drop {ds : List Nat} (h : Digs ds) (i : Nat) : Digs (ds.drop i) := fun x hx => h x (List.mem_of_mem_drop hx)
theorem Digs.set {ds : List Nat} (h : Digs ds) (i : Nat) {d : Nat} (hd : d < B) : Digs (ds.set i d) := fun x hx => by
  rcases List.mem_or_eq_of_mem_set hx with hx | rfl
  · exact h x hx
  · exact hd
theorem Digs.zeros (n : Nat) : Digs (List.replicate n 0) := fun x hx => by
  rw [List.eq_of_mem_replicate hx]; exact B_pos
theorem mag_digs (n : Nat) : Digs (mag n) := by
  induction n using Nat.strongRecOn with
  | ind n ih =>
    by_cases h : n = 0
    · subst h; rw [mag_zero]; exact Digs.nil
    · rw [mag_pos h]
      exact (ih (n / B) (Nat.div_lt_self (Nat.pos_of_ne_zero h) B_one)).cons (Nat.mod_lt _ B_pos)

theorem val_append (a b : List Nat) : val (a ++ b) = val a + B ^ a.length * val b := by
  induction a with
  | nil => simp [val]
  | cons d a ih =>
    simp only [List.cons_append, val, ih, List.length_cons, Nat.pow_succ]
    rw [Nat.mul_add, ← Nat.mul_assoc, Nat.mul_comm B (B ^ a.length), Nat.add_assoc]
theorem val_zeros (n : Nat) : val (List.replicate n 0) = 0 := by
  induction n with
  | zero => rfl
  | succ n ih => rw [List.replicate_succ, val, ih, Nat.mul_zero]
theorem val_snoc (a : List Nat) (d : Nat) : val (a ++ [d]) = val a + B ^ a.length * d := by rw [val_append]; simp [val]
theorem val_lt {ds : List Nat} (h : Digs ds) : val ds < B ^ ds.length := by
  induction ds with
  | nil => simp [val]
  | cons d ds ih =>
    have h1 := ih h.tail
    have h2 := h.head
    simp only [val, List.length_cons, Nat.pow_succ]
    have : B * (val ds + 1) ≤ B * B ^ ds.length := Nat.mul_le_mul_left _ h1
    rw [Nat.mul_comm (B ^ ds.length) B]
    rw [Nat.mul_add] at this
    omega
theorem val_ge {ds : List Nat} {d : Nat} (h : d ≠ 0) : B ^ ds.length ≤ val (ds ++ [d]) := by
  rw [val_snoc]
  have : B ^ ds.length * 1 ≤ B ^ ds.length * d := Nat.mul_le_mul_left _ (Nat.pos_of_ne_zero h)
  omega

theorem val_take_drop (ds : List Nat) (i : Nat) (hi : i ≤ ds.length) : val ds = val (ds.take i) + B ^ i * val (ds.drop i) := by
  have := val_append (ds.take i) (ds.drop i)
  rw [List.take_append_drop, List.length_take, Nat.min_eq_left hi] at this
  exact this
theorem take_succ {α : Type} (ds : List α) (i : Nat) (d : α) (hi : ds[i]? = some d) : ds.take (i + 1) = ds.take i ++ [d] := by
  rw [List.take_add_one, hi]; rfl
theorem val_take_succ (ds : List Nat) (i d : Nat) (hi : ds[i]? = some d) : val (ds.take (i + 1)) = val (ds.take i) + B ^ i * d := by
  have h : i < ds.length := (List.getElem?_eq_some_iff.1 hi).1
  rw [take_succ ds i d hi, val_snoc, List.length_take, Nat.min_eq_left (Nat.le_of_lt h)]
theorem val_take_all (ds : List Nat) (i : Nat) (hi : ds.length ≤ i) : val (ds.take i) = val ds := by rw [List.take_of_length_le hi]

theorem val_take_getD (ds : List Nat) (i : Nat) : val (ds.take (i + 1)) = val (ds.take i) + B ^ i * ds.getD i 0 := by
  rcases Nat.lt_or_ge i ds.length with h | h
  · rw [List.getD_eq_getElem?_getD, List.getElem?_eq_getElem h, val_take_succ ds i _ (List.getElem?_eq_getElem h)]; rfl
  · rw [val_take_all _ _ (by omega), val_take_all _ _ h, List.getD_eq_getElem?_getD, List.getElem?_eq_none h]; simp
theorem getD_lt {ds : List Nat} (h : Digs ds) (i : Nat) : ds.getD i 0 < B := by
  rw [List.getD_eq_getElem?_getD]
  cases e : ds[i]? with
  | none => exact B_pos
  | some d => exact h.at e
theorem getD_out (ds : List Nat) (i : Nat) (h : ¬ i < ds.length) : ds.getD i 0 = 0 := by
  rw [List.getD_eq_getElem?_getD, List.getElem?_eq_none (by omega)]; rfl

theorem val_set : ∀ (ds : List Nat) (i d : Nat), i < ds.length → val (ds.set i d) + B ^ i * ds.getD i 0 = val ds + B ^ i * d
  | [], i, d, h => by simp at h
  | x :: ds, 0, d, h => by simp [val]; omega
  | x :: ds, i + 1, d, h => by
    have ih := val_set ds i d (by simpa using h)
    have h1 := congrArg (B * ·) ih
    simp only [Nat.mul_add] at h1
    simp only [List.set_cons_succ, val, List.getD_cons_succ, Nat.pow_succ]
    rw [Nat.mul_comm (B ^ i) B, Nat.mul_assoc, Nat.mul_assoc]
    omega

/-- Digits whose last is not 0 are those of their number. -/
theorem mag_val : ∀ (ds : List Nat), Digs ds → (∀ d, ds.getLast? = some d → d ≠ 0) → mag (val ds) = ds
  | [], _, _ => mag_zero
  | d :: ds, h, hl => by
    have hd := h.head
    have ih := mag_val ds h.tail (fun e he => hl e (by
      cases ds with
      | nil => cases he
      | cons x xs => simpa using he))
    have hne : val (d :: ds) ≠ 0 := by
      cases ds with
      | nil =>
        have := hl d rfl
        simp only [val]; omega
      | cons x xs =>
        simp only [val]
        intro e
        have h0 : val (x :: xs) = 0 := by
          have hB := B_pos
          rcases Nat.eq_zero_or_pos (val (x :: xs)) with h | h
          · exact h
          · have : 0 < B * val (x :: xs) := Nat.mul_pos hB h
            simp only [val] at this
            omega
        rw [h0, mag_zero] at ih
        cases ih
    rw [mag_pos hne]
    have e1 : val (d :: ds) % B = d := by simp only [val]; rw [Nat.add_mul_mod_self_left]; exact Nat.mod_eq_of_lt hd
    have e2 : val (d :: ds) / B = val ds := by
      simp only [val]
      rw [Nat.add_mul_div_left _ _ B_pos, Nat.div_eq_of_lt hd, Nat.zero_add]
    rw [e1, e2, ih]
theorem mag_last (n : Nat) (d : Nat) (h : (mag n).getLast? = some d) : d ≠ 0 := by
  induction n using Nat.strongRecOn with
  | ind n ih =>
    by_cases h0 : n = 0
    · subst h0; rw [mag_zero] at h; cases h
    · rw [mag_pos h0] at h
      by_cases h1 : n / B = 0
      · rw [h1, mag_zero] at h
        simp only [List.getLast?_singleton, Option.some.injEq] at h
        have := Nat.mod_add_div n B
        rw [h1] at this
        omega
      · have h2 := ih (n / B) (Nat.div_lt_self (Nat.pos_of_ne_zero h0) B_one)
        rw [mag_pos h1] at h h2
        exact h2 (by simpa using h)
theorem mag_val_snoc {ds : List Nat} {d : Nat} (h : Digs (ds ++ [d])) (hd : d ≠ 0) : mag (val (ds ++ [d])) = ds ++ [d] := mag_val _ h (fun e he => by
  simp only [List.getLast?_append, List.getLast?_singleton, Option.some_or, Option.some.injEq] at he
  subst he; exact hd)
theorem val_snoc_zero (ds : List Nat) : val (ds ++ [0]) = val ds := by rw [val_snoc]; simp

theorem mag_lt {n k : Nat} : (mag n).length ≤ k ↔ n < B ^ k := by
  constructor
  · intro h
    have := val_lt (mag_digs n)
    rw [val_mag] at this
    exact Nat.lt_of_lt_of_le this (Nat.pow_le_pow_right B_pos h)
  · intro h
    rcases Nat.lt_or_ge k (mag n).length with h1 | h1
    · exfalso
      rcases List.eq_nil_or_concat (mag n) with e | ⟨ds, d, e⟩
      · rw [e] at h1; simp at h1
      · rw [List.concat_eq_append] at e
        have hd : d ≠ 0 := mag_last n d (by rw [e]; simp)
        have h2 := val_ge (ds := ds) hd
        rw [← e, val_mag] at h2
        have h3 : k ≤ ds.length := by rw [e] at h1; simp at h1; omega
        have := Nat.pow_le_pow_right B_pos h3
        omega
    · exact h1
theorem mag_len_lt {a b : Nat} (h : (mag a).length < (mag b).length) : a < b := by
  have h1 : a < B ^ (mag a).length := mag_lt.1 (Nat.le_refl _)
  rcases Nat.lt_or_ge b (B ^ (mag a).length) with h2 | h2
  · have := mag_lt.2 h2; omega
  · omega
theorem mag_len_le {a b : Nat} (h : a ≤ b) : (mag a).length ≤ (mag b).length := by
  rcases Nat.lt_or_ge (mag b).length (mag a).length with h1 | h1
  · have := mag_len_lt h1; omega
  · exact h1
theorem mag_nil {n : Nat} : mag n = [] ↔ n = 0 := by
  constructor
  · intro h; rw [← val_mag n, h]; rfl
  · rintro rfl; exact mag_zero
theorem mag_len_zero {n : Nat} : (mag n).length = 0 ↔ n = 0 := by rw [List.length_eq_zero_iff, mag_nil]
theorem mag_small {n : Nat} (h : n < B) (h0 : n ≠ 0) : mag n = [n] := by
  rw [mag_pos h0, Nat.mod_eq_of_lt h, Nat.div_eq_of_lt h, mag_zero]
/-- Digits of the same number of places, up to the first from the top that differs. -/
theorem val_cmp {a b : List Nat} {i x y : Nat} (ha : Digs a) (hb : Digs b) (hl : a.length = b.length) (hx : a[i]? = some x) (hy : b[i]? = some y) (hs : a.drop (i + 1) = b.drop (i + 1)) (h : x < y) : val a < val b := by
  have hi : i < a.length := (List.getElem?_eq_some_iff.1 hx).1
  have h1 := val_take_drop a (i + 1) hi
  have h2 := val_take_drop b (i + 1) (by omega)
  have h3 := val_take_succ a i x hx
  have h4 := val_take_succ b i y hy
  have h5 := val_lt (ha.take i)
  rw [List.length_take, Nat.min_eq_left (Nat.le_of_lt hi)] at h5
  rw [h1, h2, h3, h4, hs]
  have : B ^ i * (x + 1) ≤ B ^ i * y := Nat.mul_le_mul_left _ h
  rw [Nat.mul_add] at this
  omega
/-- So many digits of a number. -/
def dig : Nat → Nat → List Nat
  | 0, _ => []
  | n + 1, x => (x % B) :: dig n (x / B)
theorem dig_len : ∀ (n x : Nat), (dig n x).length = n
  | 0, _ => rfl
  | n + 1, x => by simp [dig, dig_len n]
theorem dig_digs : ∀ (n x : Nat), Digs (dig n x)
  | 0, _ => Digs.nil
  | n + 1, x => (dig_digs n _).cons (Nat.mod_lt _ B_pos)
theorem dig_val : ∀ (ds : List Nat), Digs ds → dig ds.length (val ds) = ds
  | [], _ => rfl
  | d :: ds, h => by
    have hd := h.head
    have e1 : val (d :: ds) % B = d := by simp only [val]; rw [Nat.add_mul_mod_self_left]; exact Nat.mod_eq_of_lt hd
    have e2 : val (d :: ds) / B = val ds := by
      simp only [val]
      rw [Nat.add_mul_div_left _ _ B_pos, Nat.div_eq_of_lt hd, Nat.zero_add]
    simp only [List.length_cons, dig, e1, e2, dig_val ds h.tail]
theorem val_dig : ∀ (n x : Nat), x < B ^ n → val (dig n x) = x
  | 0, x, h => by simp only [Nat.pow_zero] at h; simp [dig, val]; omega
  | n + 1, x, h => by
    simp only [dig, val]
    rw [val_dig n (x / B) (by rw [Nat.div_lt_iff_lt_mul B_pos, ← Nat.pow_succ]; exact h)]
    exact Nat.mod_add_div x B
theorem dig_of {ds : List Nat} {n x : Nat} (h : Digs ds) (hl : ds.length = n) (hv : val ds = x) : dig n x = ds := by rw [← hl, ← hv]; exact dig_val ds h
theorem dig_take : ∀ (n x : Nat), (mag x).length ≤ n → (dig n x).take (mag x).length = mag x
  | 0, x, h => by
    have : mag x = [] := List.eq_nil_of_length_eq_zero (by omega)
    rw [this]; rfl
  | n + 1, x, h => by
    by_cases h0 : x = 0
    · subst h0; rw [mag_zero]; rfl
    · rw [mag_pos h0] at h ⊢
      simp only [List.length_cons, dig, List.take_succ_cons]
      rw [dig_take n (x / B) (by simpa using h)]
end Go.Proofs.Ytdkgkcnllhcamaa.Dig

/-! The words of our readings: steps for simp, digits as data, contracts, loops. No condition. -/
namespace Go.Proofs.Ytdkgkcnllhcamaa.Ae
open Go Go.RowKit Go.Proofs.Ytdkgkcnllhcamaa.Dig

/-! Steps for simp: what comes behind is looked at when it is its turn. -/
section
variable {P : Program} {mf : FuncId → Bool} {tb : FuncId → Option Ct}
def nf (s : St) : St := s
@[simp] theorem nf_mk (tm : List X) (ob : List (Option Ob)) : nf ⟨tm, ob⟩ = ⟨tm, ob⟩ := rfl
def Kseq (P : Program) (mf : FuncId → Bool) (tb : FuncId → Option Ct) (y : Code) (K : Exit → St → Prop) : Exit → St → Prop := fun e s => match e with
  | .normal => awp P mf tb y s K
  | e => K e s
def Kblk (i : Nat) (K : Exit → St → Prop) : Exit → St → Prop := fun e s => match e with
  | .exit j => if j = i then K .normal s else K (.exit j) s
  | e => K e s
def Knrm (K : Exit → St → Prop) : St → Prop := fun s => K .normal s
def Kops (P : Program) (mf : FuncId → Bool) (tb : FuncId → Option Ct) (ops : Array Oper) (l : List Oper) (K : St → Prop) : St → Prop := fun s => aops P mf tb ops l s K
def Klp (KN : St → Prop) (K : Exit → St → Prop) : Exit → St → Prop := fun e s => match e with
  | .normal => KN s
  | e => K e s
@[simp] theorem kseq_n {y : Code} {K : Exit → St → Prop} {s : St} : Kseq P mf tb y K .normal s = awp P mf tb y (nf s) K := rfl
@[simp] theorem kseq_e {y : Code} {K : Exit → St → Prop} {i : Nat} {s : St} : Kseq P mf tb y K (.exit i) s = K (.exit i) s := rfl
@[simp] theorem kseq_r {y : Code} {K : Exit → St → Prop} {s : St} : Kseq P mf tb y K .ret s = K .ret s := rfl
@[simp] theorem kblk_n {i : Nat} {K : Exit → St → Prop} {s : St} : Kblk i K .normal s = K .normal s := rfl
@[simp] theorem kblk_e {i j : Nat} {K : Exit → St → Prop} {s : St} : Kblk i K (.exit j) s = if j = i then K .normal s else K (.exit j) s := rfl
@[simp] theorem kblk_r {i : Nat} {K : Exit → St → Prop} {s : St} : Kblk i K .ret s = K .ret s := rfl
@[simp] theorem knrm {K : Exit → St → Prop} {s : St} : Knrm K s = K .normal s := rfl
@[simp] theorem kops {ops : Array Oper} {l : List Oper} {K : St → Prop} {s : St} : Kops P mf tb ops l K s = aops P mf tb ops l (nf s) K := rfl
@[simp] theorem klp_n {KN : St → Prop} {K : Exit → St → Prop} {s : St} : Klp KN K .normal s = KN s := rfl
@[simp] theorem klp_e {KN : St → Prop} {K : Exit → St → Prop} {i : Nat} {s : St} : Klp KN K (.exit i) s = K (.exit i) s := rfl
@[simp] theorem klp_r {KN : St → Prop} {K : Exit → St → Prop} {s : St} : Klp KN K .ret s = K .ret s := rfl
def fin (r : Out) (d : Option Nat) (s : St) (k : St → Prop) : Prop := r.pre ∧ k (s.apply d r)
def gstep (P : Program) (mf : FuncId → Bool) (tb : FuncId → Option Ct) (g : Gd) (o : Oper) (s : St) (k : St → Prop) : Prop := match g with
  | .go => fin (aop P mf tb s o) o.dst s k
  | .no => k (s.put o.dst .und)
  | .test t c b => (c = b → fin (aop P mf tb (s.put (some t) (.dat (.lit (.bool b)))) o) o.dst (s.put (some t) (.dat (.lit (.bool b)))) k) ∧ (c = !b → k ((s.put (some t) (.dat (.lit (.bool (!b))))).put o.dst .und))
  | .bad => False
def condm (P : Program) (mf : FuncId → Bool) (tb : FuncId → Option Ct) (v : X) (c : Operand) (x y : Code) (s : St) (k : Exit → St → Prop) : Prop := match v with
  | .dat (.lit (.bool v)) => (v = true → awp P mf tb x (refineC s c true) k) ∧ (v = false → awp P mf tb y (refineC s c false) k)
  | _ => False
@[congr] theorem awp_cg2 {c : Code} {K : Exit → St → Prop} {s s' : St} (h : s = s') : awp P mf tb c s K = awp P mf tb c s' K := by rw [h]
@[congr] theorem aops_cg2 {ops : Array Oper} {l : List Oper} {K : St → Prop} {s s' : St} (h : s = s') : aops P mf tb ops l s K = aops P mf tb ops l s' K := by rw [h]
@[congr] theorem fin_cg {r r' : Out} {d : Option Nat} {s : St} {k : St → Prop} (h : r = r') : fin r d s k = fin r' d s k := by rw [h]
@[congr] theorem gstep_cg {g g' : Gd} {o : Oper} {s : St} {k : St → Prop} (h : g = g') : gstep P mf tb g o s k = gstep P mf tb g' o s k := by rw [h]
@[congr] theorem condm_cg {v v' : X} {c : Operand} {x y : Code} {s : St} {k : Exit → St → Prop} (h : v = v') : condm P mf tb v c x y s k = condm P mf tb v' c x y s k := by rw [h]

@[simp] theorem w_skip {s : St} {K : Exit → St → Prop} : awp P mf tb .skip s K = K .normal s := rfl
@[simp] theorem w_exit {s : St} {i : Nat} {K : Exit → St → Prop} : awp P mf tb (.exit i) s K = K (.exit i) s := rfl
@[simp] theorem w_ret {s : St} {K : Exit → St → Prop} : awp P mf tb .ret s K = K .ret s := rfl
@[simp] theorem w_seq {x y : Code} {s : St} {K : Exit → St → Prop} : awp P mf tb (.seq x y) s K = awp P mf tb x (nf s) (Kseq P mf tb y K) := rfl
@[simp] theorem w_block {x : Code} {i : Nat} {s : St} {K : Exit → St → Prop} : awp P mf tb (.block i x) s K = awp P mf tb x (nf s) (Kblk i K) := rfl
@[simp] theorem w_cond {c : Operand} {x y : Code} {s : St} {K : Exit → St → Prop} : awp P mf tb (.cond c x y) s K = condm P mf tb (ev s c) c x y s K := rfl
/-- Rows may come up here. -/
def fresh (l : List Nat) (tm : List X) : Prop := l = [] ∨ NoRefs l tm
@[simp] theorem fresh_nil {tm : List X} : fresh [] tm = True := by simp [fresh]
@[simp] theorem fresh_cons {a : Nat} {l : List Nat} {tm : List X} : fresh (a :: l) tm = NoRefs (a :: l) tm := by simp [fresh]
def regn (P : Program) (mf : FuncId → Bool) (tb : FuncId → Option Ct) (p : Prop) (ops : Array Oper) (l : List Oper) (s : St) (K : St → Prop) : Prop := p ∧ aops P mf tb ops l s K
@[congr] theorem regn_cg {p p' : Prop} {ops : Array Oper} {l : List Oper} {s : St} {K : St → Prop} (h : p = p') : regn P mf tb p ops l s K = regn P mf tb p' ops l s K := by rw [h]
@[simp] theorem regn_true {ops : Array Oper} {l : List Oper} {s : St} {K : St → Prop} : regn P mf tb True ops l s K = aops P mf tb ops l (nf s) K := by simp [regn, nf]
@[simp] theorem w_region {i : Nat} {l : List Oper} {d : Bool} {s : St} {K : Exit → St → Prop} : awp P mf tb (.region i l.toArray d) s K = regn P (mfR mf i) tb (fresh (mkIds l) s.tm) l.toArray l s (Knrm K) := rfl
@[simp] theorem a_nil {ops : Array Oper} {s : St} {K : St → Prop} : aops P mf tb ops [] s K = K s := rfl
@[simp] theorem a_cons {ops : Array Oper} {o : Oper} {l : List Oper} {s : St} {K : St → Prop} : aops P mf tb ops (o :: l) s K = gstep P mf tb (gd ops s o) o s (Kops P mf tb ops l K) := by
  show astep P mf tb ops o s _ = _
  unfold astep gstep
  cases gd ops s o <;> rfl
@[simp] theorem g_go {o : Oper} {s : St} {k : St → Prop} : gstep P mf tb .go o s k = fin (aop P mf tb s o) o.dst s k := rfl
@[simp] theorem g_no {o : Oper} {s : St} {k : St → Prop} : gstep P mf tb .no o s k = k (s.put o.dst .und) := rfl
@[simp] theorem g_tt {t : Nat} {o : Oper} {s : St} {k : St → Prop} : gstep P mf tb (.test t true true) o s k = fin (aop P mf tb (s.put (some t) (.dat (.lit (.bool true)))) o) o.dst (s.put (some t) (.dat (.lit (.bool true)))) k := by simp [gstep]
@[simp] theorem g_ff {t : Nat} {o : Oper} {s : St} {k : St → Prop} : gstep P mf tb (.test t false false) o s k = fin (aop P mf tb (s.put (some t) (.dat (.lit (.bool false)))) o) o.dst (s.put (some t) (.dat (.lit (.bool false)))) k := by simp [gstep]
@[simp] theorem g_tf {t : Nat} {o : Oper} {s : St} {k : St → Prop} : gstep P mf tb (.test t true false) o s k = k ((s.put (some t) (.dat (.lit (.bool true)))).put o.dst .und) := by simp [gstep]
@[simp] theorem g_ft {t : Nat} {o : Oper} {s : St} {k : St → Prop} : gstep P mf tb (.test t false true) o s k = k ((s.put (some t) (.dat (.lit (.bool false)))).put o.dst .und) := by simp [gstep]
@[simp low] theorem g_test {t : Nat} {c b : Bool} {o : Oper} {s : St} {k : St → Prop} : gstep P mf tb (.test t c b) o s k = ((c = b → fin (aop P mf tb (s.put (some t) (.dat (.lit (.bool b)))) o) o.dst (s.put (some t) (.dat (.lit (.bool b)))) k) ∧ (c = !b → k ((s.put (some t) (.dat (.lit (.bool (!b))))).put o.dst .und))) := rfl
@[simp] theorem c_t {c : Operand} {x y : Code} {s : St} {k : Exit → St → Prop} : condm P mf tb (.dat (.lit (.bool true))) c x y s k = awp P mf tb x (nf (refineC s c true)) k := by simp [condm, nf]
@[simp] theorem c_f {c : Operand} {x y : Code} {s : St} {k : Exit → St → Prop} : condm P mf tb (.dat (.lit (.bool false))) c x y s k = awp P mf tb y (nf (refineC s c false)) k := by simp [condm, nf]
@[simp low] theorem c_v {v : Bool} {c : Operand} {x y : Code} {s : St} {k : Exit → St → Prop} : condm P mf tb (.dat (.lit (.bool v))) c x y s k = ((v = true → awp P mf tb x (nf (refineC s c true)) k) ∧ (v = false → awp P mf tb y (nf (refineC s c false)) k)) := rfl
@[simp] theorem f_t {x : X} {up : List (Nat × Option Ob)} {d : Nat} {tm : List X} {ob : List (Option Ob)} {k : St → Prop} : fin ⟨True, x, up⟩ (some d) ⟨tm, ob⟩ k = k (nf ⟨sX tm d x, St.ups ob up⟩) := by simp [fin, nf, St.apply, St.put, sX]
@[simp] theorem f_n {x : X} {up : List (Nat × Option Ob)} {tm : List X} {ob : List (Option Ob)} {k : St → Prop} : fin ⟨True, x, up⟩ none ⟨tm, ob⟩ k = k (nf ⟨tm, St.ups ob up⟩) := by simp [fin, nf, St.apply, St.put]
@[simp] theorem f_F {x : X} {up : List (Nat × Option Ob)} {d : Option Nat} {s : St} {k : St → Prop} : fin ⟨False, x, up⟩ d s k = False := by simp [fin]
@[simp low] theorem f_p {p : Prop} {x : X} {up : List (Nat × Option Ob)} {d : Nat} {tm : List X} {ob : List (Option Ob)} {k : St → Prop} : fin ⟨p, x, up⟩ (some d) ⟨tm, ob⟩ k = (p ∧ k (nf ⟨sX tm d x, St.ups ob up⟩)) := by simp [fin, nf, St.apply, St.put, sX]
@[simp low] theorem f_pn {p : Prop} {x : X} {up : List (Nat × Option Ob)} {tm : List X} {ob : List (Option Ob)} {k : St → Prop} : fin ⟨p, x, up⟩ none ⟨tm, ob⟩ k = (p ∧ k (nf ⟨tm, St.ups ob up⟩)) := by simp [fin, nf, St.apply, St.put]
@[simp] theorem s_get {tm : List X} {ob : List (Option Ob)} {t : Nat} : St.get ⟨tm, ob⟩ t = gX tm t := rfl
@[simp] theorem s_obj {tm : List X} {ob : List (Option Ob)} {o : Nat} : St.obj ⟨tm, ob⟩ o = gO ob o := rfl
@[simp] theorem s_put {tm : List X} {ob : List (Option Ob)} {t : Nat} {x : X} : St.put ⟨tm, ob⟩ (some t) x = ⟨sX tm t x, ob⟩ := rfl
@[simp] theorem s_putn {tm : List X} {ob : List (Option Ob)} {x : X} : St.put ⟨tm, ob⟩ none x = ⟨tm, ob⟩ := rfl
@[simp] theorem ups_n {ob : List (Option Ob)} : St.ups ob [] = ob := rfl
@[simp] theorem ups_c {ob : List (Option Ob)} {p : Nat × Option Ob} {l : List (Nat × Option Ob)} : St.ups ob (p :: l) = St.ups (sO ob p.1 p.2) l := rfl
@[simp] theorem ev_tmp (st : St) (t : Nat) : ev st (.tmp t) = st.get t := rfl
@[simp] theorem ev_int (st : St) (k : IntKind) (n : Int) : ev st (.const (.int k n)) = .dat (.lit (.int k n)) := by simp [ev, Value.oneCell']
@[simp] theorem ev_str (st : St) (s : ByteArray) : ev st (.const (.string s)) = .dat (.lit (.string s)) := by simp [ev, Value.oneCell']
@[simp] theorem ev_bool (st : St) (b : Bool) : ev st (.const (.bool b)) = .dat (.lit (.bool b)) := by simp [ev, Value.oneCell']
@[simp] theorem ev_nils (st : St) : ev st (.const (.slice none 0 0)) = .dat (.lit (.slice none 0 0)) := by simp [ev, Value.oneCell']
@[simp] theorem ev_nilp (st : St) : ev st (.const (.pointer none)) = .dat (.lit (.pointer none)) := by simp [ev, Value.oneCell']
@[simp] theorem ev_agg (st : St) (l : List Value) : ev st (.const (.agg l.toArray)) = if l.all Value.oneCell' = true then .dat (.agg (l.map .lit)) else .any := by simp [ev]
end
/-! Operations, one step each -/
def ix (xs : List D) (i : Nat) : Option D := xs[i]?
def lset (xs : List D) (i : Nat) (d : D) : List D := xs.set i d
def lsub (xs : List D) (lo hi : Nat) : List D := (xs.take hi).drop lo
def lwin (xs : List D) (lo n : Nat) : List D := (xs.drop lo).take n
section
variable {P : Program} {mf : FuncId → Bool} {tb : FuncId → Option Ct} {st : St} {d : Option Nat} {ty : TypeId} {pos : String} {af : Array Edge} {g : Option (Nat × Bool)}
def convA (P : Program) (a b : TypeId) (x : X) : Out := match P.underlying a, P.underlying b, x with
    | some _, some (.int k), .dat (.lit (.int _ n)) => .lit (.int k (k.wrap n))
    | _, _, _ => .bad
def nilA : X → Out
    | .obj ob p off => ⟨True, .obj ob p off, []⟩
    | .dat (.ptr d) => ⟨True, .dat (.ptr d), []⟩
    | _ => .bad
def boxA (st : St) (d : Option Nat) (x : X) : Out := match x, d with
    | .dat d, some s => ⟨st.obj s = none ∧ s < st.ob.length, .obj s [] 0, [(s, some (.box d))]⟩
    | _, _ => .bad
def allocA (P : Program) (st : St) (d : Option Nat) (t : TypeId) : Out := match (P.info? t).bind (·.zero), d with
    | some v, some s => ⟨(st.obj s = none ∧ s < st.ob.length) ∧ litOk P t v, .obj s [] 0, [(s, some (.box (litD P t v)))]⟩
    | _, _ => .bad
def fieldA (P : Program) (s : TypeId) (i : Nat) (x : X) : Out := match P.underlying s with
    | some (.struct fs) => match fs[i]? with
      | some f => match x with
        | .obj ob p off => ⟨P.cellsOf f.type ≠ 0, .obj ob (p ++ [i]) (off + f.offset), []⟩
        | .elt ob j p off => ⟨P.cellsOf f.type ≠ 0, .elt ob j (p ++ [i]) (off + f.offset), []⟩
        | .dat (.ptr (.agg ds)) => match ds[i]? with
          | some d => ⟨P.cellsOf f.type ≠ 0 ∧ f.offset = D.sizes (ds.take i), .dat (.ptr d), []⟩
          | none => .bad
        | _ => .bad
      | none => .bad
    | _ => .bad
def loadA (P : Program) (st : St) (t : TypeId) (x : X) : Out := match x with
    | .obj ob p off => match st.box? ob with
        | some d => match nav d p with
          | some (e, off') => ⟨off' = off ∧ P.cellsOf t = e.size ∧ isAggT P t = e.isAgg ∧ (P.underlying t).isSome ∧ (P.info? t).isSome, .dat e, []⟩
          | none => .bad
        | none => .bad
    | .elt ob j p off => match st.row? ob with
      | some (sz, _, xs) => match ix xs j with
        | some d => match nav d p with
          | some (e, off') => ⟨d.size = sz ∧ off' = off ∧ P.cellsOf t = e.size ∧ isAggT P t = e.isAgg ∧ (P.underlying t).isSome ∧ (P.info? t).isSome, .dat e, []⟩
          | none => .bad
        | none => .bad
      | none => .bad
    | .dat (.ptr d) => ⟨P.cellsOf t = d.size ∧ isAggT P t = d.isAgg ∧ (P.underlying t).isSome ∧ (P.info? t).isSome, .dat d, []⟩
    | _ => .bad
def storeA (P : Program) (st : St) (t : TypeId) (a v : X) : Out := match a, v with
    | .obj ob p off, .dat x => match st.wbox? ob with
      | some d => match nav d p with
        | some (e, off') => ⟨off' = off ∧ x.size = e.size ∧ P.cellsOf t = x.size ∧ (P.info? t).isSome, .und, [(ob, setBox (st.obj ob) (upd d p x))]⟩
        | none => .bad
      | _ => .bad
    | .elt ob j p off, .dat x => match st.obj ob with
      | some (.row sz e xs) => match ix xs j with
        | some d => match nav d p with
          | some (e', off') => ⟨d.size = sz ∧ off' = off ∧ x.size = e'.size ∧ P.cellsOf t = x.size ∧ (P.info? t).isSome, .und, [(ob, some (.row sz e (lset xs j (upd d p x))))]⟩
          | none => .bad
        | none => .bad
      | some (.prow sz e cp xs) => match ix xs j with
        | some d => match nav d p with
          | some (e', off') => ⟨d.size = sz ∧ off' = off ∧ x.size = e'.size ∧ P.cellsOf t = x.size ∧ (P.info? t).isSome, .und, [(ob, some (.prow sz e cp (lset xs j (upd d p x))))]⟩
          | none => .bad
        | none => .bad
      | _ => .bad
    | _, _ => .bad
def buildX (P : Program) (mf : FuncId → Bool) (st : St) (t : TypeId) (is : List Nat) (xs : List X) : Out := match mf (bld t) with
    | false => match datas xs with
      | some ds => ⟨(buildA P t is ds).1, .dat (buildA P t is ds).2, []⟩
      | none => .bad
    | true => match asDatas st xs with
      | some ps => ⟨(buildA P t is (ps.map (·.1))).1 ∧ allFreeze st (owners ps), .dat (buildA P t is (ps.map (·.1))).2, freezes st (owners ps)⟩
      | none => .bad
def extrA (i : Nat) (x : X) : Out := match x with
    | .tup rs => match rs[i]? with
      | some r => ⟨True, r.x, []⟩
      | none => .bad
    | _ => .bad
def idxA (P : Program) (st : St) (t : TypeId) (x i : X) : Out := match P.underlying t, i with
    | some (.slice e), .dat (.lit (.int _ n)) => match x with
      | .dat (.sl sz xs) => match ix xs n.toNat with
        | some d => ⟨0 ≤ n ∧ P.cellsOf e = sz ∧ (P.info? e).isSome, .dat (.ptr d), []⟩
        | none => .bad
      | .row ob => match st.row? ob with
        | some (sz, _, xs) => ⟨(0 ≤ n ∧ n < xs.length) ∧ P.cellsOf e = sz ∧ (P.info? e).isSome, .elt ob n.toNat [] 0, []⟩
        | none => .bad
      | .win ob lo m => match st.row? ob with
        | some (sz, _, xs) => ⟨(0 ≤ n ∧ n < m) ∧ lo + m ≤ xs.length ∧ P.cellsOf e = sz ∧ (P.info? e).isSome, .elt ob (lo + n.toNat) [] 0, []⟩
        | none => .bad
      | _ => .bad
    | some (.array m e), .dat (.lit (.int _ n)) => match x with
      | .obj ob p off => ⟨(0 ≤ n ∧ n < m) ∧ (P.info? e).isSome, .obj ob (p ++ [n.toNat]) (off + n.toNat * P.cellsOf e), []⟩
      | .elt ob j p off => ⟨(0 ≤ n ∧ n < m) ∧ (P.info? e).isSome, .elt ob j (p ++ [n.toNat]) (off + n.toNat * P.cellsOf e), []⟩
      | .dat (.ptr (.agg ds)) => match ds[n.toNat]? with
        | some d => ⟨(0 ≤ n ∧ n < m) ∧ (P.info? e).isSome ∧ n.toNat * P.cellsOf e = D.sizes (ds.take n.toNat), .dat (.ptr d), []⟩
        | none => .bad
      | _ => .bad
    | _, _ => .bad
def sliceX (P : Program) (st : St) (t : TypeId) (x : X) (lo hi : Option X) : Out := match P.underlying t, loB lo with
  | some (.slice e), some l => match x with
    | .dat (.sl sz xs) => match hiB xs.length hi with
      | some h => ⟨(0 ≤ l ∧ l ≤ h ∧ h ≤ xs.length) ∧ (P.info? e).isSome ∧ P.cellsOf e = sz, .dat (.sl sz (lsub xs l.toNat h.toNat)), []⟩
      | none => .bad
    | .row ob => match st.row? ob with
      | some (sz, _, xs) => match hiB xs.length hi with
        | some h => ⟨(0 ≤ l ∧ l ≤ h ∧ h ≤ xs.length) ∧ (P.info? e).isSome ∧ P.cellsOf e = sz, .win ob l.toNat (h - l).toNat, []⟩
        | none => .bad
      | none => .bad
    | .win ob k n => match st.row? ob with
      | some (sz, _, xs) => match hiB n hi with
        | some h => ⟨(0 ≤ l ∧ l ≤ h ∧ h ≤ n) ∧ k + n ≤ xs.length ∧ (P.info? e).isSome ∧ P.cellsOf e = sz, .win ob (k + l.toNat) (h - l).toNat, []⟩
        | none => .bad
      | none => .bad
    | _ => .bad
  | _, _ => .bad
def mkSl (P : Program) (st : St) (d : Option Nat) (t : TypeId) (l c : X) : Out := match d with
    | some k => match P.underlying t, l, c with
      | some (.slice e), .dat (.lit (.int _ n)), .dat (.lit (.int _ m)) => match (P.info? e).bind (·.zero) with
        | some z => ⟨(0 ≤ n ∧ n ≤ m) ∧ P.bytesOf e * m ≤ 140737488355328 ∧ m ≤ 9223372036854775807 ∧ z.cells.size = P.cellsOf e ∧ 0 < P.cellsOf e ∧ litOk P e z ∧ st.obj k = none ∧ k < st.ob.length,
            .row k, [(k, some (.row (P.cellsOf e) e (List.replicate n.toNat (litD P e z))))]⟩
        | none => .bad
      | _, _, _ => .bad
    | none => .bad
def bdSl (P : Program) (st : St) (d : Option Nat) (t : TypeId) (n : Nat) (is : List Nat) (xs : List X) : Out := match d with
    | some k => match P.underlying t, datas xs with
      | some (.slice e), some ds => match is with
        | [] => ⟨n = 0 ∧ (P.info? e).isSome ∧ st.obj k = none ∧ k < st.ob.length, .row k, [(k, some (.row (P.cellsOf e) e []))]⟩
        | _ :: _ => ⟨0 < n ∧ is = List.range n ∧ (∀ d ∈ ds, d.size = P.cellsOf e) ∧ n * P.cellsOf e ≤ 16777216 ∧ (∃ z, (P.info? e).bind (·.zero) = some z) ∧ 0 < P.cellsOf e, .dat (.sl (P.cellsOf e) ds), []⟩
      | _, _ => .bad
    | none => .bad
@[simp] theorem o_move {x : Operand} : aop P mf tb st ⟨d, .move x, ty, pos, af, g⟩ = ⟨True, ev st x, []⟩ := rfl
@[simp] theorem o_assign {x : Operand} : aop P mf tb st ⟨d, .assign x, ty, pos, af, g⟩ = ⟨True, ev st x, []⟩ := rfl
@[simp] theorem o_pick {c a b : Operand} : aop P mf tb st ⟨d, .pick c a b, ty, pos, af, g⟩ = pickA (ev st c) (ev st a) (ev st b) := rfl
@[simp] theorem o_bin {op : BinOp} {t t' : TypeId} {x y : Operand} : aop P mf tb st ⟨d, .binOp op t x y t', ty, pos, af, g⟩ = binA P op t (ev st x) (ev st y) := rfl
@[simp] theorem o_un {op : UnOp} {t : TypeId} {x : Operand} : aop P mf tb st ⟨d, .unOp op t x, ty, pos, af, g⟩ = unA op (ev st x) := rfl
@[simp] theorem o_conv {a b : TypeId} {x : Operand} : aop P mf tb st ⟨d, .convert a b x, ty, pos, af, g⟩ = convA P a b (ev st x) := rfl
@[simp] theorem o_index {t : TypeId} {x i : Operand} : aop P mf tb st ⟨d, .index t x i, ty, pos, af, g⟩ = strIdx P (P.underlying t) (ev st x) (ev st i) := rfl
@[simp] theorem o_nil {x : Operand} : aop P mf tb st ⟨d, .nilCheck x, ty, pos, af, g⟩ = nilA (ev st x) := rfl
@[simp] theorem o_box {t : TypeId} {x : Operand} : aop P mf tb st ⟨d, .box t x, ty, pos, af, g⟩ = boxA st d (ev st x) := rfl
@[simp] theorem o_alloc {t : TypeId} : aop P mf tb st ⟨d, .alloc t, ty, pos, af, g⟩ = allocA P st d t := rfl
@[simp] theorem o_field {s : TypeId} {a : Operand} {i : Nat} : aop P mf tb st ⟨d, .fieldAddr s a i, ty, pos, af, g⟩ = fieldA P s i (ev st a) := rfl
@[simp] theorem o_load {t : TypeId} {a : Operand} : aop P mf tb st ⟨d, .load t a, ty, pos, af, g⟩ = barIf (fl mf (ev st a)) (loadA P st t (ev st a)) := rfl
@[simp] theorem o_store {t : TypeId} {a v : Operand} : aop P mf tb st ⟨d, .store t a v, ty, pos, af, g⟩ = barIf (lateBad mf a (ev st a)) (storeA P st t (ev st a) (ev st v)) := rfl
@[simp] theorem o_build {t : TypeId} {l : List (Nat × Operand)} : aop P mf tb st ⟨d, .build t l.toArray, ty, pos, af, g⟩ = buildX P mf st t (l.map (·.1)) (l.map fun p => ev st p.2) := rfl
@[simp] theorem o_extr {i : Nat} {x : Operand} : aop P mf tb st ⟨d, .extract x i, ty, pos, af, g⟩ = extrA i (ev st x) := rfl
@[simp] theorem o_idx {t : TypeId} {x i : Operand} : aop P mf tb st ⟨d, .indexAddr t x i, ty, pos, af, g⟩ = barIf (fl mf (ev st x)) (idxA P st t (ev st x) (ev st i)) := by
  show barIf _ (match P.underlying t, ev st i with | some (.slice e), .dat (.lit (.int _ n)) => _ | some (.array m e), .dat (.lit (.int _ n)) => _ | _, _ => _) = _
  rfl
@[simp] theorem o_slice {t : TypeId} {x : Operand} {lo hi : Option Operand} : aop P mf tb st ⟨d, .slice t x lo hi none, ty, pos, af, g⟩ = barIf (fl mf (ev st x)) (sliceX P st t (ev st x) (lo.map (ev st)) (hi.map (ev st))) := rfl
@[simp] theorem o_make {t : TypeId} {l c : Operand} : aop P mf tb st ⟨d, .makeSlice t l c, ty, pos, af, g⟩ = mkSl P st d t (ev st l) (ev st c) := rfl
@[simp] theorem o_bsl {t : TypeId} {n : Nat} {l : List (Nat × Operand)} : aop P mf tb st ⟨d, .buildSlice t n l.toArray, ty, pos, af, g⟩ = bdSl P st d t n (l.map (·.1)) (l.map fun p => ev st p.2) := by
  show (match d with | some k => _ | none => _) = _
  unfold bdSl
  cases d with
  | none => rfl
  | some k =>
    simp only []
    cases l with
    | nil => rfl
    | cons p l => rfl
def lenX (P : Program) (st : St) (t : TypeId) (x : X) : Out := match P.underlying t with
  | some (.slice _) => lenA st x
  | _ => .bad
def callB (st : St) (r : Prop × List D) (ps : List (D × Option Nat)) : Out := match r.2.all D.isLit with
  | true => ⟨r.1, resX r.2, []⟩
  | false => ⟨r.1 ∧ allFreeze st (owners ps), resX r.2, freezes st (owners ps)⟩
def callM (st : St) (r : Prop × List Rv × List D) (ids : List Nat) (ps : List (Ar × Option Nat)) (n : Nat) : Out :=
  ⟨r.1 ∧ ids.Nodup ∧ r.2.2.length = n ∧ allFreeze st (owners ps), resM ids r.2.1, freezes st (owners ps) ++ setBoxes st ids r.2.2⟩
def callWB (st : St) (sz sz' : Nat) (e e' : TypeId) (l : List D) (r : Prop × Option Wr × List D) (o lo n : Nat) (ps : List (D × Option Nat)) : Out :=
  ⟨r.1 ∧ sz' = sz ∧ e' = e ∧ 0 < l.length ∧ lo + n ≤ l.length ∧ (0 < n ∨ lo = 0) ∧ r.2.2.length = l.length ∧ o ∉ owners ps ∧ allFreeze st (owners ps),
        resW o r.2.1, freezes st (owners ps) ++ [(o, setRow (st.obj o) r.2.2)]⟩
def callOB (st : St) (sz : Nat) (e : TypeId) (r : Prop × List D) (s : Nat) (ps : List (D × Option Nat)) : Out :=
  ⟨r.1 ∧ allFreeze st (owners ps) ∧ st.obj s = none ∧ s < st.ob.length, .row s, freezes st (owners ps) ++ [(s, some (.row sz e r.2))]⟩
def callX (mf : FuncId → Bool) (c : Option Ct) (st : St) (dst : Option Nat) (f : FuncId) (xs : List X) : Out := match c with
  | some (.data g) => callC (mf f) st g xs
  | some (.win sz e g gd) => match mf f, xs with
    | true, x :: r => match winOf st x with
      | some (o, lo, n) => match asDatas st r with
        | some ps => match st.wrow? o with
          | some (sz', e', l) => callWB st sz sz' e e' l (g l lo n (ps.map (·.1))) o lo n ps
          | none => .bad
        | none => .bad
      | none => callC true st gd (x :: r)
    | true, [] => .bad
    | false, xs => callC false st gd xs
  | some (.own sz e g) => match mf f with
    | true => match dst, asDatas st xs with
      | some s, some ps => callOB st sz e (g (ps.map (·.1))) s ps
      | _, _ => .bad
    | false => .bad
  | some (.mut md g) => match mf f with
    | false => .bad
    | true => match asArs st (refIds xs md) xs, boxesOf st (refIds xs md) with
      | some ps, some ds => callM st (g (ps.map (·.1)) ds) (refIds xs md) ps ds.length
      | _, _ => .bad
  | none => .bad
@[simp] theorem callC_f {g : List D → Prop × List D} {xs : List X} : callC false st g xs = match datas xs with
      | some ds => ⟨(g ds).1, resX (g ds).2, []⟩
      | none => .bad := rfl
@[simp] theorem callC_t {g : List D → Prop × List D} {xs : List X} : callC true st g xs = match asDatas st xs with
      | some ps => callB st (g (ps.map (·.1))) ps
      | none => .bad := by
  unfold callC callB
  simp only []
  cases asDatas st xs with
  | none => rfl
  | some ps => simp only []; cases (g (ps.map (·.1))).2.all D.isLit <;> rfl
@[simp] theorem o_call {f : FuncId} {l : List Operand} {ts : Array TypeId} : aop P mf tb st ⟨d, .call ⟨.value (.func f), l.toArray, ts⟩, ty, pos, af, g⟩ = callX mf (tb f) st d f (l.map (ev st)) := by
  show callA mf tb st d f _ = _
  unfold callA callX callW callWB callM callO callOB
  rcases tb f with _ | ⟨g⟩ | ⟨md, g⟩ | ⟨sz, e, g, gd⟩ | ⟨sz, e, g⟩ <;> simp <;> rfl
@[simp] theorem ev_func (st : St) (f : FuncId) : ev st (.func f) = .dat (.lit (.func (.func f) #[] #[])) := rfl
@[simp] theorem fnOf_lit (f : FuncId) : fnOf (.dat (.lit (.func (.func f) #[] #[]))) = some f := rfl
def callV (mf : FuncId → Bool) (tb : FuncId → Option Ct) (st : St) (dst : Option Nat) (fo : Option FuncId) (xs : List X) : Out := match fo with
  | some f => callX mf (tb f) st dst f xs
  | none => .bad
@[simp] theorem callV_some {mf : FuncId → Bool} {tb : FuncId → Option Ct} {st : St} {dst : Option Nat} {f : FuncId} {xs : List X} : callV mf tb st dst (some f) xs = callX mf (tb f) st dst f xs := rfl
@[simp] theorem o_callT {t : Nat} {l : List Operand} {ts : Array TypeId} : aop P mf tb st ⟨d, .call ⟨.value (.tmp t), l.toArray, ts⟩, ty, pos, af, g⟩ = callV mf tb st d (fnOf (ev st (.tmp t))) (l.map (ev st)) := by
  show (match fnOf (ev st (.tmp t)) with
    | some f => callA mf tb st d f (l.map (ev st))
    | none => .bad) = _
  cases h : fnOf (ev st (.tmp t)) with
  | none => rfl
  | some f => exact o_call (P := P) (f := f) (l := l) (ts := ts) (ty := ty) (pos := pos) (af := af) (g := g)
@[simp] theorem o_len {x : Operand} {t : TypeId} : aop P mf tb st ⟨d, .call ⟨.builtin .len, [x].toArray, [t].toArray⟩, ty, pos, af, g⟩ = barIf (fl mf (ev st x)) (lenX P st t (ev st x)) := by
  unfold lenX
  simp only [aop, List.getElem?_toArray, List.getElem?_cons_zero, Option.bind_some]
  have hb : ∀ b, barIf b .bad = .bad := fun b => by cases b <;> rfl
  rcases P.underlying t with _ | u
  · exact (hb _).symm
  · cases u <;> first | rfl | exact (hb _).symm
@[simp] theorem o_max {x y : Operand} {ts : Array TypeId} : aop P mf tb st ⟨d, .call ⟨.builtin .max, [x, y].toArray, ts⟩, ty, pos, af, g⟩ = mmA true (ev st x) (ev st y) := rfl
@[simp] theorem o_min {x y : Operand} {ts : Array TypeId} : aop P mf tb st ⟨d, .call ⟨.builtin .min, [x, y].toArray, ts⟩, ty, pos, af, g⟩ = mmA false (ev st x) (ev st y) := rfl
@[simp] theorem o_app {x y : Operand} {t : TypeId} : aop P mf tb st ⟨d, .call ⟨.builtin .append, [x, y].toArray, [t, t].toArray⟩, ty, pos, af, g⟩ = barIf (appBad mf x (ev st x)) (appendA P st d t (ev st x) (ev st y)) := by
  show (if t = t then _ else _) = _
  simp
end
section
variable {mf : FuncId → Bool}
@[simp] theorem fl_any : fl mf .any = false := rfl
@[simp] theorem fl_und : fl mf .und = false := rfl
@[simp] theorem fl_dat {d : D} : fl mf (.dat d) = false := rfl
@[simp] theorem fl_obj {o f : Nat} {p : List Nat} : fl mf (.obj o p f) = mf (cel o) := by simp [fl, X.refs]
@[simp] theorem fl_row {o : Nat} : fl mf (.row o) = mf (cel o) := by simp [fl, X.refs]
@[simp] theorem fl_elt {o i f : Nat} {p : List Nat} : fl mf (.elt o i p f) = mf (cel o) := by simp [fl, X.refs]
@[simp] theorem fl_win {o i f : Nat} : fl mf (.win o i f) = mf (cel o) := by simp [fl, X.refs]
end
/-! Whole numbers, one step each -/
def bAnd (k : IntKind) (x y : Int) : Int := k.wrap (BitVec.ofInt k.bits x &&& BitVec.ofInt k.bits y).toNat
def bOr (k : IntKind) (x y : Int) : Int := k.wrap (BitVec.ofInt k.bits x ||| BitVec.ofInt k.bits y).toNat
def bXor (k : IntKind) (x y : Int) : Int := k.wrap (BitVec.ofInt k.bits x ^^^ BitVec.ofInt k.bits y).toNat
def bAnn (k : IntKind) (x y : Int) : Int := k.wrap (BitVec.ofInt k.bits x &&& ~~~(BitVec.ofInt k.bits y)).toNat
def bNot (k : IntKind) (x : Int) : Int := k.wrap (BitVec.ofInt k.bits (if k.signed then -1 else k.max) ^^^ BitVec.ofInt k.bits x).toNat
section
variable {k : IntKind} {x y : Int}
@[simp] theorem i_add : intOp .add k x y = ⟨True, .dat (.lit (.int k (k.wrap (x + y)))), []⟩ := rfl
@[simp] theorem i_sub : intOp .sub k x y = ⟨True, .dat (.lit (.int k (k.wrap (x - y)))), []⟩ := rfl
@[simp] theorem i_mul : intOp .mul k x y = ⟨True, .dat (.lit (.int k (k.wrap (x * y)))), []⟩ := rfl
@[simp] theorem i_quo : intOp .quo k x y = ⟨y ≠ 0, .dat (.lit (.int k (k.wrap (x.tdiv y)))), []⟩ := rfl
@[simp] theorem i_rem : intOp .rem k x y = ⟨y ≠ 0, .dat (.lit (.int k (x.tmod y))), []⟩ := rfl
@[simp] theorem i_eql : intOp .eql k x y = ⟨True, .dat (.lit (.bool (decide (x = y)))), []⟩ := rfl
@[simp] theorem i_neq : intOp .neq k x y = ⟨True, .dat (.lit (.bool (!decide (x = y)))), []⟩ := rfl
@[simp] theorem i_lss : intOp .lss k x y = ⟨True, .dat (.lit (.bool (decide (x < y)))), []⟩ := rfl
@[simp] theorem i_leq : intOp .leq k x y = ⟨True, .dat (.lit (.bool (decide (x ≤ y)))), []⟩ := rfl
@[simp] theorem i_gtr : intOp .gtr k x y = ⟨True, .dat (.lit (.bool (decide (y < x)))), []⟩ := rfl
@[simp] theorem i_geq : intOp .geq k x y = ⟨True, .dat (.lit (.bool (decide (y ≤ x)))), []⟩ := rfl
@[simp] theorem i_and : intOp .and k x y = ⟨True, .dat (.lit (.int k (bAnd k x y))), []⟩ := rfl
@[simp] theorem i_or : intOp .or k x y = ⟨True, .dat (.lit (.int k (bOr k x y))), []⟩ := rfl
@[simp] theorem i_xor : intOp .xor k x y = ⟨True, .dat (.lit (.int k (bXor k x y))), []⟩ := rfl
@[simp] theorem i_ann : intOp .andNot k x y = ⟨True, .dat (.lit (.int k (bAnn k x y))), []⟩ := rfl
@[simp] theorem i_shl : intOp .shl k x y = ⟨0 ≤ y, .dat (.lit (.int k (k.wrap (x * 2 ^ min y.toNat k.bits)))), []⟩ := rfl
@[simp] theorem i_shr : intOp .shr k x y = ⟨0 ≤ y, .dat (.lit (.int k (x.fdiv (2 ^ min y.toNat k.bits)))), []⟩ := rfl
@[simp] theorem u_neg : unA .neg (.dat (.lit (.int k x))) = ⟨True, .dat (.lit (.int k (k.wrap (0 - x)))), []⟩ := rfl
@[simp] theorem u_xor : unA .xor (.dat (.lit (.int k x))) = ⟨True, .dat (.lit (.int k (bNot k x))), []⟩ := rfl
@[simp] theorem u_not {b : Bool} : unA .not (.dat (.lit (.bool b))) = ⟨True, .dat (.lit (.bool (!b))), []⟩ := rfl
end
theorem toNat_ofInt_nat (w n : Nat) (h : n < 2 ^ w) : (BitVec.ofInt w (n : Int)).toNat = n := by
  rw [BitVec.ofInt_natCast, BitVec.toNat_ofNat, Nat.mod_eq_of_lt h]
theorem bAnd32 (x y : Nat) (hx : x < 4294967296) (hy : y < 4294967296) : bAnd .u32 x y = ((x &&& y : Nat) : Int) := by
  unfold bAnd
  rw [BitVec.toNat_and, toNat_ofInt_nat _ _ hx, toNat_ofInt_nat _ _ hy]
  have := Nat.and_lt_two_pow (n := 32) x hy
  simp only [IntKind.wrap, IntKind.signed, IntKind.bits]; simp; omega
theorem bOr32 (x y : Nat) (hx : x < 4294967296) (hy : y < 4294967296) : bOr .u32 x y = ((x ||| y : Nat) : Int) := by
  unfold bOr
  rw [BitVec.toNat_or, toNat_ofInt_nat _ _ hx, toNat_ofInt_nat _ _ hy]
  have := Nat.or_lt_two_pow (n := 32) hx hy
  simp only [IntKind.wrap, IntKind.signed, IntKind.bits]; simp; omega
theorem bXor32 (x y : Nat) (hx : x < 4294967296) (hy : y < 4294967296) : bXor .u32 x y = ((x ^^^ y : Nat) : Int) := by
  unfold bXor
  rw [BitVec.toNat_xor, toNat_ofInt_nat _ _ hx, toNat_ofInt_nat _ _ hy]
  have := Nat.xor_lt_two_pow (n := 32) hx hy
  simp only [IntKind.wrap, IntKind.signed, IntKind.bits]; simp; omega
theorem bOr64 (x y : Nat) (hx : x < 18446744073709551616) (hy : y < 18446744073709551616) : bOr .u64 x y = ((x ||| y : Nat) : Int) := by
  unfold bOr
  rw [BitVec.toNat_or, toNat_ofInt_nat _ _ hx, toNat_ofInt_nat _ _ hy]
  have := Nat.or_lt_two_pow (n := 64) hx hy
  simp only [IntKind.wrap, IntKind.signed, IntKind.bits]; simp; omega
theorem bAnd64 (x y : Nat) (hx : x < 18446744073709551616) (hy : y < 18446744073709551616) : bAnd .u64 x y = ((x &&& y : Nat) : Int) := by
  unfold bAnd
  rw [BitVec.toNat_and, toNat_ofInt_nat _ _ hx, toNat_ofInt_nat _ _ hy]
  have := Nat.and_lt_two_pow (n := 64) x hy
  simp only [IntKind.wrap, IntKind.signed, IntKind.bits]; simp; omega
theorem bNot32 (x : Nat) (hx : x < 4294967296) : bNot .u32 x = ((4294967295 - x : Nat) : Int) := by
  have e1 : BitVec.ofInt 32 4294967295 = BitVec.allOnes 32 := by decide
  have e : bNot .u32 x = IntKind.u32.wrap ((BitVec.ofInt 32 4294967295 ^^^ BitVec.ofInt 32 (x : Int)).toNat : Int) := rfl
  rw [e, e1, BitVec.allOnes_xor, BitVec.toNat_not, toNat_ofInt_nat _ _ hx]
  simp only [IntKind.wrap, IntKind.signed, IntKind.bits]; simp; omega
@[simp] theorem fdiv_lit (n : Int) (m : Nat) : n.fdiv (no_index (OfNat.ofNat m)) = n / (OfNat.ofNat m) := Int.fdiv_eq_ediv_of_nonneg _ (Int.natCast_nonneg m)

attribute [simp] mfR rcel gd St.box? St.wbox? St.row? St.drow? setBox Out.bad Out.lit nav upd D.size D.sizes nsz nagg isAggT datas resX mkIds mkOp NoRefs X.refs lenA strIdx binA mmA pickA lenX callB callM callWB callOB callX winOf St.wrow? setRow resW convA nilA boxA allocA fieldA loadA storeA buildX extrA idxA sliceX mkSl bdSl RvSubs RvSub BoxSubs refineC loB hiB startAr endK retA resD litD litOk asDatas asData owners freezes freeze allFreeze St.mayFreeze D.isLit refIds asArs boxesOf setBoxes resM resWk endW Rv.to Rv.x buildA partsOk zeros putAll fits appendA elems onto Value.oneCell' bld cel regroup regs rega flatD flatDs lateBad barIf Rv.refs appBad
@[simp] theorem vc_int (k : IntKind) (n : Int) : (Value.int k n).cells = #[.int k n] := rfl
@[simp] theorem vc_bool (b : Bool) : (Value.bool b).cells = #[.bool b] := rfl
@[simp] theorem vc_float (k : FloatKind) (n : Nat) : (Value.float k n).cells = #[.float k n] := rfl
@[simp] theorem vc_string (s : ByteArray) : (Value.string s).cells = #[.string s] := rfl
@[simp] theorem vc_ptr (a : Option Addr) : (Value.pointer a).cells = #[.pointer a] := rfl
@[simp] theorem vc_slice (a : Option Addr) (l c : Nat) : (Value.slice a l c).cells = #[.slice a l c] := rfl
@[simp] theorem vc_map (a : Option Nat) : (Value.map a).cells = #[.map a] := rfl
@[simp] theorem vc_nilFunc : (Value.nilFunc).cells = #[.nilFunc] := rfl
@[simp] theorem vc_nilIface : (Value.nilIface).cells = #[.nilIface] := rfl
@[simp] theorem vc_agg (cs : Array Value) : (Value.agg cs).cells = cs := rfl
@[simp] theorem agg_lit (v : Value) : (D.lit v).isAgg = false := rfl
@[simp] theorem agg_agg (ds : List D) : (D.agg ds).isAgg = true := rfl
@[simp] theorem agg_sl (n : Nat) (ds : List D) : (D.sl n ds).isAgg = false := rfl
@[simp] theorem agg_ptr (d : D) : (D.ptr d).isAgg = false := rfl
@[simp] theorem start_mk (n : Nat) (xs : List Ar) (ds : List D) : start n xs ds = ⟨xs.map (startAr n) ++ nX (n - xs.length), nO n ++ ds.map fun d => some (.pbox d)⟩ := rfl
@[simp] theorem sub_nil (sz : Nat) : Sub (.lit (.slice none 0 0)) (.sl sz []) = True := by simp [Sub.nil]
@[simp] theorem sub_refl (d : D) : Sub d d ↔ True := ⟨fun _ => trivial, fun _ => Sub.refl d⟩

/-- A digit, and data of digits. -/
def dg (k : Nat) : D := .lit (.int .u32 (k : Int))
def eW (ds : List Nat) : D := .sl 1 (ds.map dg)
/-- A number's digits as data. -/
def eM (n : Nat) : D := eW (mag n)
theorem dg_inj {a b : Nat} (h : dg a = dg b) : a = b := by
  unfold dg at h; injection h with h; injection h with _ h; exact Int.ofNat.inj h
theorem map_dg_inj : ∀ {a b : List Nat}, a.map dg = b.map dg → a = b
  | [], [], _ => rfl
  | x :: a, y :: b, h => by
    simp only [List.map_cons, List.cons.injEq] at h
    rw [dg_inj h.1, map_dg_inj h.2]
  | [], _ :: _, h => by simp at h
  | _ :: _, [], h => by simp at h
theorem eW_inj {a b : List Nat} (h : eW a = eW b) : a = b := by
  unfold eW at h; injection h with _ h; exact map_dg_inj h
theorem eM_inj {a b : Nat} (h : eM a = eM b) : a = b := mag_inj (eW_inj h)
@[simp] theorem dg_size (k : Nat) : (dg k).size = 1 := rfl
@[simp] theorem dg_agg (k : Nat) : (dg k).isAgg = false := rfl
@[simp] theorem eW_size (k : List Nat) : (eW k).size = 1 := rfl
@[simp] theorem eW_agg (k : List Nat) : (eW k).isAgg = false := rfl
@[simp] theorem eM_size (k : Nat) : (eM k).size = 1 := rfl
@[simp] theorem eM_agg (k : Nat) : (eM k).isAgg = false := rfl
theorem dg_at (a : List Nat) (i : Nat) (h : i < a.length) : (a.map dg)[i]? = some (dg (a.getD i 0)) := by
  rw [List.getElem?_map, List.getElem?_eq_getElem h, List.getD_eq_getElem?_getD, List.getElem?_eq_getElem h]; rfl

theorem ix_dg (a : List Nat) (i : Nat) (h : i < a.length) : ix (a.map dg) i = some (dg (a.getD i 0)) := dg_at a i h

/-! Contracts: over inputs of a kind α, of which e tells the data. -/
section
variable {α : Type} {e : α → List D} {pre : α → Prop} {post : α → List D}
open Classical in
noncomputable def ctD (e : α → List D) (pre : α → Prop) (post : α → List D) : List D → Prop × List D := fun ds =>
  if h : ∃ a, e a = ds then (pre h.choose, post h.choose) else (False, [])
theorem ctD_at (inj : ∀ a b, e a = e b → a = b) (a : α) : ctD e pre post (e a) = (pre a, post a) := by
  unfold ctD
  have h : ∃ b, e b = e a := ⟨a, rfl⟩
  rw [dif_pos h, inj _ _ h.choose_spec]
theorem ctD_pre {ds : List D} (h : (ctD e pre post ds).1) : ∃ a, ds = e a ∧ pre a ∧ ctD e pre post ds = (pre a, post a) := by
  unfold ctD at h ⊢
  by_cases hh : ∃ a, e a = ds
  · rw [dif_pos hh] at h ⊢
    exact ⟨_, hh.choose_spec.symm, h, rfl⟩
  · rw [dif_neg hh] at h
    exact h.elim
end
section
variable {α : Type} {e : α → List Ar × List D} {pre : α → Prop} {post : α → List Rv × List D}
open Classical in
noncomputable def ctM (e : α → List Ar × List D) (pre : α → Prop) (post : α → List Rv × List D) : List Ar → List D → Prop × List Rv × List D := fun xs ds =>
  if h : ∃ a, e a = (xs, ds) then (pre h.choose, post h.choose) else (False, [], [])
theorem ctM_at (inj : ∀ a b, e a = e b → a = b) (a : α) : ctM e pre post (e a).1 (e a).2 = (pre a, post a) := by
  unfold ctM
  have h : ∃ b, e b = ((e a).1, (e a).2) := ⟨a, rfl⟩
  rw [dif_pos h, inj _ _ h.choose_spec]
theorem ctM_pre {xs : List Ar} {ds : List D} (h : (ctM e pre post xs ds).1) : ∃ a, xs = (e a).1 ∧ ds = (e a).2 ∧ pre a ∧ ctM e pre post xs ds = (pre a, post a) := by
  unfold ctM at h ⊢
  by_cases hh : ∃ a, e a = (xs, ds)
  · rw [dif_pos hh] at h ⊢
    have hs := hh.choose_spec
    exact ⟨_, (congrArg (·.1) hs).symm, (congrArg (·.2) hs).symm, h, rfl⟩
  · rw [dif_neg hh] at h
    exact h.elim
end

/-- Tables of contracts. -/
def tbl (l : List (FuncId × Ct)) (f : FuncId) : Option Ct := (l.find? (fun p => p.1 == f)).map (·.2)
variable {N : NR}
theorem tbl_nil : TbOK N Try.prog (tbl []) := fun f c h => by simp [tbl] at h
theorem tbl_cons {f : FuncId} {c : Ct} {l : List (FuncId × Ct)} (h : CtOK N Try.prog f c) (hc : callable Try.prog f = true) (hl : TbOK N Try.prog (tbl l)) : TbOK N Try.prog (tbl ((f, c) :: l)) := fun g d hg => by
  unfold tbl at hg
  rw [List.find?_cons] at hg
  by_cases e : f = g
  · subst e
    simp at hg
    subst hg
    exact ⟨h, hc⟩
  · have : ((f, c).1 == g) = false := by simpa using e
    rw [this] at hg
    exact hl g d hg
@[simp] theorem tbl_hit {f : FuncId} {c : Ct} {l : List (FuncId × Ct)} : tbl ((f, c) :: l) f = some c := by simp [tbl]
theorem tbl_skip {f g : FuncId} {c : Ct} {l : List (FuncId × Ct)} (h : (f == g) = false) : tbl ((f, c) :: l) g = tbl l g := by simp only [tbl, List.find?_cons, h]

/-- A function's contract out of its reading. -/
theorem rdD {α : Type} {e : α → List D} {pre : α → Prop} {post : α → List D} {f : FuncId} {fn : Func} {c : Code} {mf : FuncId → Bool} {tb : FuncId → Option Ct} (htb : TbOK N Try.prog tb) (hf : Try.prog.funcs[f]? = some fn) (hb : fn.body = some c) (hd : drawAll mf c = true)
    (h : ∀ a, pre a → (e a).length ≤ fn.ntmps ∧ awp Try.prog mf tb c (start fn.ntmps ((e a).map .dat) []) (endK Try.prog fn.ntmps fn.results.toList ((post a).map .dat) [])) : SpecD N Try.prog f (ctD e pre post) := by
  refine specD_of hf hb (fun ds hp => ?_)
  obtain ⟨a, rfl, h1, h2⟩ := ctD_pre hp
  rw [h2]
  exact ⟨(h a h1).1, awp_sound htb mo _ _ _ hd (h a h1).2⟩
theorem rdM {α : Type} {e : α → List Ar × List D} {pre : α → Prop} {post : α → List Rv × List D} {f : FuncId} {fn : Func} {c : Code} {mf : FuncId → Bool} {tb : FuncId → Option Ct} (htb : TbOK N Try.prog tb) (hf : Try.prog.funcs[f]? = some fn) (hb : fn.body = some c) (hd : drawAll mf c = true)
    (h : ∀ a, pre a → (e a).1.length ≤ fn.ntmps ∧ (post a).2.length = (e a).2.length ∧ awp Try.prog mf tb c (start fn.ntmps (e a).1 (e a).2) (endK Try.prog fn.ntmps fn.results.toList (post a).1 (post a).2)) : SpecM N Try.prog f (ctM e pre post) := by
  refine specM_of hf hb (fun xs ds hp => ?_)
  obtain ⟨a, rfl, rfl, h1, h2⟩ := ctM_pre hp
  rw [h2]
  exact ⟨(h a h1).1, (h a h1).2.1, awp_sound htb mo _ _ _ hd (h a h1).2.2⟩

/-- A loop's next round. -/
def Nx (I : Nat → St → Prop) (n : Nat) (s : St) : Prop := ∃ m s'', m < n ∧ Snd s s'' ∧ I m s''
theorem loop_go {P : Program} {mf : FuncId → Bool} {tb : FuncId → Option Ct} {x : Code} {st : St} {K : Exit → St → Prop} (I : Nat → St → Prop) {n : Nat} {s0 : St} (h0 : Snd st s0) (hn : I n s0)
    (hx : ∀ n s, I n s → ∀ KN : St → Prop, (∀ s', Nx I n s' → KN s') → awp P mf tb x s (Klp KN K)) : awp P mf tb (.loop x) st K :=
  ⟨I, ⟨n, s0, h0, hn⟩, fun n s hi => hx n s hi _ (fun s' h => h)⟩
theorem nx {I : Nat → St → Prop} {n m : Nat} {s s'' : St} (h : Snd s s'') (hi : I m s'') (hm : m < n) : Nx I n s := ⟨m, s'', hm, h, hi⟩
/-- To know less, part by part. -/
theorem leT_nil : LeT [] [] := trivial
theorem leT_any {x : X} {a b : List X} (h : LeT a b) : LeT (x :: a) (.any :: b) := ⟨.inl rfl, h⟩
theorem leT_same {x : X} {a b : List X} (h : LeT a b) : LeT (x :: a) (x :: b) := ⟨.inr rfl, h⟩

@[simp] theorem bits_u64 : IntKind.u64.bits = 64 := rfl
@[simp] theorem bits_i64 : IntKind.i64.bits = 64 := rfl
@[simp] theorem bits_u32 : IntKind.u32.bits = 32 := rfl
@[simp] theorem cells_u32 (n : Int) : (Value.int .u32 n).cells.size = 1 := rfl
theorem wrap_u64 (n : Int) : IntKind.u64.wrap n = n % 18446744073709551616 := by simp [IntKind.wrap, IntKind.signed, IntKind.bits]
theorem wrap_u32 (n : Int) : IntKind.u32.wrap n = n % 4294967296 := by simp [IntKind.wrap, IntKind.signed, IntKind.bits]
theorem wrap_i64 (n : Int) : IntKind.i64.wrap n = (n + 9223372036854775808) % 18446744073709551616 - 9223372036854775808 := IntKind.wrap_i64 n
theorem i64_id (n : Int) (h0 : -9223372036854775808 ≤ n) (h1 : n ≤ 9223372036854775807) : IntKind.i64.wrap n = n := by rw [wrap_i64]; omega
theorem u64_id (n : Int) (h0 : 0 ≤ n) (h1 : n ≤ 18446744073709551615) : IntKind.u64.wrap n = n := by rw [wrap_u64]; omega
theorem u32_id (n : Int) (h0 : 0 ≤ n) (h1 : n ≤ 4294967295) : IntKind.u32.wrap n = n := by rw [wrap_u32]; omega
theorem wrap_u64_nat (n : Nat) : IntKind.u64.wrap (n : Int) = ((n % 18446744073709551616 : Nat) : Int) := by rw [wrap_u64]; omega
theorem wrap_u32_nat (n : Nat) : IntKind.u32.wrap (n : Int) = ((n % 4294967296 : Nat) : Int) := by rw [wrap_u32]; omega
@[simp] theorem int_lt_succ (a : Int) : (a < a + 1) = True := by simp; omega
@[simp] theorem int_le_succ (a : Int) : (a ≤ a + 1) = True := by simp; omega
theorem maxLen_ge : 35184372088832 ≤ maxLen := by decide
/-- A sum's digit and what is carried. -/
theorem cut32 (e : Int) (t : Nat) (he : e = t) : ∃ c d : Nat, d < B ∧ d + B * c = t ∧ IntKind.u32.wrap e = d ∧ e / 4294967296 = c := by
  refine ⟨t / B, t % B, Nat.mod_lt _ B_pos, Nat.mod_add_div t B, ?_, ?_⟩
  · rw [wrap_u32, he]; show _ = ((t % 4294967296 : Nat) : Int); omega
  · rw [he]; show _ = ((t / 4294967296 : Nat) : Int); omega
end Go.Proofs.Ytdkgkcnllhcamaa.Ae

/-! impl.trimmed: digits without zeros at their end. No condition. -/
namespace Go.Proofs.Ytdkgkcnllhcamaa.Ae
open Go Go.RowKit Go.Proofs.Ytdkgkcnllhcamaa.Dig
variable {N : NR}

/-- Digits, whatever lies at their end. -/
structure Ds where
  ds : List Nat
  ok : Digs ds
theorem Ds.ext {a b : Ds} (h : a.ds = b.ds) : a = b := by cases a; cases b; simp at h; subst h; rfl
def trimE (a : Ds) : List D := [eW a.ds]
theorem trimE_inj (a b : Ds) (h : trimE a = trimE b) : a = b := Ds.ext (eW_inj (by simpa [trimE] using h))
noncomputable def trimC := ctD trimE (fun a => a.ds.length < 2 ^ 62) (fun a => [eM (val a.ds)])
theorem trimC_at (ds : List Nat) (h : Digs ds) : trimC [eW ds] = (ds.length < 2 ^ 62, [eM (val ds)]) := ctD_at trimE_inj ⟨ds, h⟩

def trimS (xs : List Nat) : St := ⟨[.dat (eW xs), .any, .any, .any, .any, .any, .any, .any, .any, .any, .any, .any, .any, .any, .any, .any, .any, .any, .any, .any, .any], [none, none, none, none, none, none, none, none, none, none, none, none, none, none, none, none, none, none, none, none, none]⟩
theorem trimC_at' (ds : List Nat) (h : Digs ds) : trimC [.sl 1 (ds.map dg)] = (ds.length < 2 ^ 62, [.sl 1 ((mag (val ds)).map dg)]) := trimC_at ds h
end Go.Proofs.Ytdkgkcnllhcamaa.Ae

/-! impl.addMag, impl.cmpMag: sums and comparisons of digits. No condition. -/
namespace Go.Proofs.Ytdkgkcnllhcamaa.Ae
open Go Go.RowKit Go.Proofs.Ytdkgkcnllhcamaa.Dig
variable {N : NR}

/-! Two numbers. -/
structure N2 where
  a : Nat
  b : Nat
def n2E (p : N2) : List D := [eM p.a, eM p.b]
theorem n2E_inj (p q : N2) (h : n2E p = n2E q) : p = q := by
  obtain ⟨a, b⟩ := p; obtain ⟨c, d⟩ := q
  simp only [n2E, List.cons.injEq, and_true] at h
  rw [eM_inj h.1, eM_inj h.2]
/-- Numbers of moderate size. -/
def Sm (n : Nat) : Prop := (mag n).length < 2 ^ 40
noncomputable def addC := ctD n2E (fun p => Sm p.a ∧ Sm p.b) (fun p => [eM (p.a + p.b)])
theorem addC_at (a b : Nat) : addC [eM a, eM b] = (Sm a ∧ Sm b, [eM (a + b)]) := ctD_at n2E_inj ⟨a, b⟩

def z32 : D := .lit (.int .u32 0)
def addS (a b : Nat) (os : List Nat) (c k : Nat) : St := ⟨[.dat (eM a), .dat (eM b), .any, .any, .any, .row 14, .dat (.lit (.int .u64 c)), .any, .any, .any, .any, .any, .any, .any, .any, .any, .dat (.lit (.int .i64 ((os.length + k : Nat) : Int))), .dat (.lit (.int .i64 os.length)), .any, .any, .any, .any, .any, .any, .any, .any, .any, .any, .any, .any, .any, .any, .any, .any, .any, .any, .any, .any, .any, .any, .any, .any, .any, .any, .any, .any, .any, .any, .any, .any, .any, .any], [none, none, none, none, none, none, none, none, none, none, none, none, none, none, some (.row 1 86 (os.map dg ++ List.replicate k z32)), none, none, none, none, none, none, none, none, none, none, none, none, none, none, none, none, none, none, none, none, none, none, none, none, none, none, none, none, none, none, none, none, none, none, none, none, none]⟩

end Go.Proofs.Ytdkgkcnllhcamaa.Ae

/-! impl.cmpMag: digits compared. No condition. -/
namespace Go.Proofs.Ytdkgkcnllhcamaa.Ae
open Go Go.RowKit Go.Proofs.Ytdkgkcnllhcamaa.Dig
variable {N : NR}

/-- What cmpMag answers. -/
noncomputable def cmpV (a b : Nat) : Int := if (mag a).length = (mag b).length then (if a < b then -1 else if b < a then 1 else 0) else ((mag a).length : Int) - (mag b).length
theorem cmpV_neg {a b : Nat} : cmpV a b < 0 ↔ a < b := by
  unfold cmpV
  split
  · repeat' split
    all_goals omega
  · rename_i h
    constructor
    · intro h1; exact mag_len_lt (by omega)
    · intro h1; have := mag_len_le (Nat.le_of_lt h1); omega
theorem cmpV_pos {a b : Nat} : 0 < cmpV a b ↔ b < a := by
  unfold cmpV
  split
  · repeat' split
    all_goals omega
  · rename_i h
    constructor
    · intro h1; exact mag_len_lt (by omega)
    · intro h1; have := mag_len_le (Nat.le_of_lt h1); omega
theorem cmpV_zero {a b : Nat} : cmpV a b = 0 ↔ a = b := by
  constructor
  · intro h
    have h1 := @cmpV_neg a b
    have h2 := @cmpV_pos a b
    omega
  · rintro rfl; unfold cmpV; simp
theorem cmpV_len {a b : Nat} (h : (mag a).length ≠ (mag b).length) : cmpV a b = ((mag a).length : Int) - (mag b).length := by unfold cmpV; rw [if_neg h]
noncomputable def cmpC := ctD n2E (fun p => Sm p.a ∧ Sm p.b) (fun p => [.lit (.int .i64 (cmpV p.a p.b))])
theorem cmpC_at (a b : Nat) : cmpC [eM a, eM b] = (Sm a ∧ Sm b, [.lit (.int .i64 (cmpV a b))]) := ctD_at n2E_inj ⟨a, b⟩
def cmpS (a b : Nat) (n : Nat) : St := ⟨[.dat (eM a), .dat (eM b), .any, .any, .any, .dat (.lit (.int .i64 ((n : Int) - 1))), .any, .any, .any, .any, .any, .any, .any, .any, .any, .any, .any, .any, .any, .any, .any, .any, .any, .any, .any, .any, .any, .any, .any, .any, .any, .any, .any, .any, .any, .any, .any, .any, .any, .any, .any, .any, .any], [none, none, none, none, none, none, none, none, none, none, none, none, none, none, none, none, none, none, none, none, none, none, none, none, none, none, none, none, none, none, none, none, none, none, none, none, none, none, none, none, none, none, none]⟩

theorem drop_step {a b : List Nat} {k : Nat} (ha : k < a.length) (hb : k < b.length) (h : a.drop (k + 1) = b.drop (k + 1)) (e : a.getD k 0 = b.getD k 0) : a.drop k = b.drop k := by
  rw [List.drop_eq_getElem_cons ha, List.drop_eq_getElem_cons hb, h]
  congr 1
  rw [List.getD_eq_getElem?_getD, List.getElem?_eq_getElem ha, List.getD_eq_getElem?_getD, List.getElem?_eq_getElem hb] at e
  exact e
theorem getD_some {a : List Nat} {k : Nat} (ha : k < a.length) : a[k]? = some (a.getD k 0) := by
  rw [List.getD_eq_getElem?_getD, List.getElem?_eq_getElem ha]; rfl

end Go.Proofs.Ytdkgkcnllhcamaa.Ae

/-! math/bits.Sub32, Add32 and impl.subMag: differences of digits. No condition. -/
namespace Go.Proofs.Ytdkgkcnllhcamaa.Ae
open Go Go.RowKit Go.Proofs.Ytdkgkcnllhcamaa.Dig
variable {N : NR}

/-- Three digits, of which the last is 0 or 1. -/
structure N3 where
  x : Nat
  y : Nat
  b : Nat
def n3E (p : N3) : List D := [dg p.x, dg p.y, dg p.b]
theorem n3E_inj (p q : N3) (h : n3E p = n3E q) : p = q := by
  obtain ⟨a, b, c⟩ := p; obtain ⟨d, e, f⟩ := q
  simp only [n3E, List.cons.injEq, and_true] at h
  rw [dg_inj h.1, dg_inj h.2.1, dg_inj h.2.2]
noncomputable def sub32C := ctD n3E (fun p => p.x < B ∧ p.y < B ∧ p.b ≤ 1) (fun p => [dg ((p.x + B - p.y - p.b) % B), dg (if p.x < p.y + p.b then 1 else 0)])
theorem sub32C_at (x y b : Nat) : sub32C [dg x, dg y, dg b] = ((x < B ∧ y < B ∧ b ≤ 1), [dg ((x + B - y - b) % B), dg (if x < y + b then 1 else 0)]) := ctD_at n3E_inj ⟨x, y, b⟩
noncomputable def add32C := ctD n3E (fun p => p.x < B ∧ p.y < B ∧ p.b ≤ 1) (fun p => [dg ((p.x + p.y + p.b) % B), dg ((p.x + p.y + p.b) / B)])
theorem add32C_at (x y b : Nat) : add32C [dg x, dg y, dg b] = ((x < B ∧ y < B ∧ b ≤ 1), [dg ((x + y + b) % B), dg ((x + y + b) / B)]) := ctD_at n3E_inj ⟨x, y, b⟩

theorem top_bit (n : Nat) (h : n < 2 ^ 32) : n.testBit 31 = decide (2147483648 ≤ n) := by
  rw [Nat.testBit_eq_decide_div_mod_eq]
  by_cases h1 : 2147483648 ≤ n
  · have : n / 2 ^ 31 = 1 := by omega
    simp [this, h1]
  · have : n / 2 ^ 31 = 0 := by omega
    simp [this, h1]
theorem div_top (n : Nat) (h : n < 2 ^ 32) : n / 2147483648 = if n.testBit 31 then 1 else 0 := by
  rw [top_bit n h]
  by_cases h1 : 2147483648 ≤ n
  · simp only [h1, decide_true, if_true]; omega
  · simp only [h1, decide_false]; simp; omega
theorem borrow_bits (x y b d : Nat) (hx : x < 4294967296) (hy : y < 4294967296) (hb : b ≤ 1) (hd : d = (x + 4294967296 - y - b) % 4294967296) :
    ((((4294967295 - x) &&& y) ||| ((4294967295 - (x ^^^ y)) &&& d)) / 2147483648) = if x < y + b then 1 else 0 := by
  have hxy : x ^^^ y < 2 ^ 32 := Nat.xor_lt_two_pow (n := 32) hx hy
  have hd' : d < 2 ^ 32 := by rw [hd]; exact Nat.mod_lt _ (by decide)
  have h1 : ((4294967295 - x) &&& y) < 2 ^ 32 := Nat.and_lt_two_pow (n := 32) _ hy
  have h2 : ((4294967295 - (x ^^^ y)) &&& d) < 2 ^ 32 := Nat.and_lt_two_pow (n := 32) _ hd'
  rw [div_top _ (Nat.or_lt_two_pow (n := 32) h1 h2)]
  have e1 : (4294967295 - x).testBit 31 = !x.testBit 31 := by
    rw [top_bit _ (by omega), top_bit _ hx]
    by_cases h : 2147483648 ≤ x
    · have : ¬ 2147483648 ≤ 4294967295 - x := by omega
      simp [h, this]
    · have : 2147483648 ≤ 4294967295 - x := by omega
      simp [h, this]
  have e2 : (4294967295 - (x ^^^ y)).testBit 31 = !(x ^^^ y).testBit 31 := by
    rw [top_bit _ (by omega), top_bit _ hxy]
    by_cases h : 2147483648 ≤ x ^^^ y
    · have : ¬ 2147483648 ≤ 4294967295 - (x ^^^ y) := by omega
      simp [h, this]
    · have : 2147483648 ≤ 4294967295 - (x ^^^ y) := by omega
      simp [h, this]
  rw [Nat.testBit_or, Nat.testBit_and, Nat.testBit_and, e1, e2, Nat.testBit_xor, top_bit x hx, top_bit y hy, top_bit d hd']
  by_cases c1 : 2147483648 ≤ x <;> by_cases c2 : 2147483648 ≤ y <;> by_cases c3 : 2147483648 ≤ d <;> by_cases c4 : x < y + b <;> simp [c1, c2, c3, c4] <;> omega

end Go.Proofs.Ytdkgkcnllhcamaa.Ae

/-! impl.subMag: differences of digits. No condition. -/
namespace Go.Proofs.Ytdkgkcnllhcamaa.Ae
open Go Go.RowKit Go.Proofs.Ytdkgkcnllhcamaa.Dig
variable {N : NR}

/-- A row that is written from the left: what lies at the place, and the row behind the store. -/
theorem ix_mid (os : List Nat) (z : D) (k : Nat) : ix (List.map dg os ++ List.replicate (k + 1) z) os.length = some z := by
  have h : os.length = (List.map dg os).length := by simp
  unfold ix; rw [h, List.getElem?_append_right (Nat.le_refl _), Nat.sub_self]; rfl
theorem lset_mid (os : List Nat) (z : D) (k : Nat) (v : D) : lset (List.map dg os ++ List.replicate (k + 1) z) os.length v = List.map dg os ++ v :: List.replicate k z := by
  have h : os.length = (List.map dg os).length := by simp
  rw [List.replicate_succ]; unfold lset; rw [h, List.set_append_right _ _ (Nat.le_refl _), Nat.sub_self]; rfl

noncomputable def subC := ctD n2E (fun p => Sm p.a ∧ Sm p.b ∧ p.b ≤ p.a) (fun p => [eM (p.a - p.b)])
theorem subC_at (a b : Nat) : subC [eM a, eM b] = (Sm a ∧ Sm b ∧ b ≤ a, [eM (a - b)]) := ctD_at n2E_inj ⟨a, b⟩
def subS (a b : Nat) (os : List Nat) (c k : Nat) : St := ⟨[.dat (eM a), .dat (eM b), .any, .any, .any, .row 12, .dat (.lit (.int .u32 c)), .any, .any, .any, .any, .any, .any, .dat (eM a), .dat (.lit (.int .i64 ((os.length + k : Nat) : Int))), .dat (.lit (.int .i64 os.length)), .any, .any, .any, .any, .any, .any, .any, .any, .any, .any, .any, .any, .any, .any, .any, .any, .any, .any, .any, .any, .any, .any, .any, .any, .any], [none, none, none, none, none, none, none, none, none, none, none, none, some (.row 1 86 (os.map dg ++ List.replicate k z32)), none, none, none, none, none, none, none, none, none, none, none, none, none, none, none, none, none, none, none, none, none, none, none, none, none, none, none, none]⟩

theorem borrow_eq (x y b : Nat) (hx : x < B) (hy : y < B) (hb : b ≤ 1) : (x + B - y - b) % B + y + b = x + B * (if x < y + b then 1 else 0) := by
  split
  · rw [Nat.mod_eq_of_lt (by omega)]; omega
  · have : x + B - y - b = (x - y - b) + B * 1 := by omega
    rw [this, Nat.add_mul_mod_self_left, Nat.mod_eq_of_lt (by omega)]; omega

end Go.Proofs.Ytdkgkcnllhcamaa.Ae

/-! impl.mulMag: products of digits. No condition. -/
namespace Go.Proofs.Ytdkgkcnllhcamaa.Ae
open Go Go.RowKit Go.Proofs.Ytdkgkcnllhcamaa.Dig
variable {N : NR}

/-- A row's beginning. -/
theorem ix_left (os : List Nat) (r : List D) (j : Nat) (h : j < os.length) : ix (List.map dg os ++ r) j = some (dg (os.getD j 0)) := by
  unfold ix; rw [List.getElem?_append_left (by simpa using h)]; exact dg_at os j h
theorem lset_left (os : List Nat) (r : List D) (j d : Nat) (h : j < os.length) : lset (List.map dg os ++ r) j (.lit (.int .u32 (d : Int))) = List.map dg (os.set j d) ++ r := by
  unfold lset; rw [List.set_append_left _ _ (by simpa using h), List.map_set]; rfl

noncomputable def mulC := ctD n2E (fun p => Sm p.a ∧ Sm p.b) (fun p => [eM (p.a * p.b)])
theorem mulC_at (a b : Nat) : mulC [eM a, eM b] = (Sm a ∧ Sm b, [eM (a * b)]) := ctD_at n2E_inj ⟨a, b⟩
def mulS (a b : Nat) (os : List Nat) (i k : Nat) : St := ⟨[.dat (eM a), .dat (eM b), .any, .any, .any, .row 16, .any, .any, .any, .any, .any, .any, .any, .any, .any, .any, .any, .dat (eM a), .dat (.lit (.int .i64 (mag a).length)), .dat (.lit (.int .i64 i)), .any, .any, .any, .any, .any, .any, .any, .any, .any, .any, .any, .any, .any, .any, .any, .any, .any, .any, .any, .any, .any, .any, .any, .any, .any, .any, .any, .any, .any, .any, .any, .any, .any, .any, .any, .any, .any, .any, .any, .any, .any, .any, .any, .any, .any, .any, .any], [none, none, none, none, none, none, none, none, none, none, none, none, none, none, none, none, some (.row 1 86 (os.map dg ++ List.replicate k z32)), none, none, none, none, none, none, none, none, none, none, none, none, none, none, none, none, none, none, none, none, none, none, none, none, none, none, none, none, none, none, none, none, none, none, none, none, none, none, none, none, none, none, none, none, none, none, none, none, none, none]⟩
def mulT (a b : Nat) (os : List Nat) (i k x c j : Nat) : St := ⟨[.dat (eM a), .dat (eM b), .any, .any, .any, .row 16, .dat (.lit (.int .i64 i)), .dat (.lit (.int .u32 x)), .dat (.lit (.int .u64 c)), .any, .any, .any, .any, .any, .any, .any, .any, .dat (eM a), .dat (.lit (.int .i64 (mag a).length)), .dat (.lit (.int .i64 i)), .any, .any, .any, .any, .dat (eM b), .dat (.lit (.int .i64 (mag b).length)), .dat (.lit (.int .i64 j)), .any, .any, .any, .any, .any, .any, .any, .any, .any, .any, .any, .any, .any, .any, .any, .any, .any, .any, .any, .any, .any, .any, .any, .any, .any, .any, .any, .any, .any, .any, .any, .any, .any, .any, .any, .any, .any, .any, .any, .any], [none, none, none, none, none, none, none, none, none, none, none, none, none, none, none, none, some (.row 1 86 (os.map dg ++ List.replicate k z32)), none, none, none, none, none, none, none, none, none, none, none, none, none, none, none, none, none, none, none, none, none, none, none, none, none, none, none, none, none, none, none, none, none, none, none, none, none, none, none, none, none, none, none, none, none, none, none, none, none, none]⟩

theorem mul_step (P Q x y o c d c' : Nat) (os os' : Nat) (h1 : os' + P * Q * o = os + P * Q * d) (h2 : d + B * c' = c + (x * y + o)) : os' + P * (Q * B) * c' = os + P * Q * c + P * x * (Q * y) := by
  have h3 := congrArg (P * Q * ·) h2
  simp only [Nat.mul_add] at h3
  have e1 : P * (Q * B) * c' = P * Q * (B * c') := by simp only [Nat.mul_assoc]
  have e2 : P * x * (Q * y) = P * Q * (x * y) := by simp only [Nat.mul_assoc, Nat.mul_left_comm]
  rw [e1, e2]
  omega

end Go.Proofs.Ytdkgkcnllhcamaa.Ae

/-! impl.shortMag: digits by one digit. No condition. -/
namespace Go.Proofs.Ytdkgkcnllhcamaa.Ae
open Go Go.RowKit Go.Proofs.Ytdkgkcnllhcamaa.Dig
variable {N : NR}

/-- A row that is written from the right. -/
theorem ix_rev (z : D) (k : Nat) (r : List D) : ix (List.replicate (k + 1) z ++ r) k = some z := by
  unfold ix; rw [List.getElem?_append_left (by simp)]; simp
theorem lset_rev (z : D) (k : Nat) (r : List D) (v : D) : lset (List.replicate (k + 1) z ++ r) k v = List.replicate k z ++ v :: r := by
  unfold lset
  rw [List.replicate_succ', List.append_assoc, List.set_append_right _ _ (by simp)]
  simp
theorem or_cut (r x : Nat) (hx : x < 4294967296) : (r * 4294967296) ||| x = r * 4294967296 + x := by
  have := Nat.two_pow_add_eq_or_of_lt (i := 32) hx r
  rw [Nat.mul_comm]
  exact this.symm
theorem tdiv_nat (a b : Nat) : Int.tdiv (a : Int) b = ((a / b : Nat) : Int) := rfl
theorem tmod_nat (a b : Nat) : Int.tmod (a : Int) b = ((a % b : Nat) : Int) := rfl
theorem drop_val {a : List Nat} {k : Nat} (h : k < a.length) : val (a.drop k) = a.getD k 0 + B * val (a.drop (k + 1)) := by
  rw [List.drop_eq_getElem_cons h, val, List.getD_eq_getElem?_getD, List.getElem?_eq_getElem h]; rfl

structure N2d where
  a : Nat
  b : Nat
def n2dE (p : N2d) : List D := [eM p.a, dg p.b]
theorem n2dE_inj (p q : N2d) (h : n2dE p = n2dE q) : p = q := by
  obtain ⟨a, b⟩ := p; obtain ⟨c, d⟩ := q
  simp only [n2dE, List.cons.injEq, and_true] at h
  rw [eM_inj h.1, dg_inj h.2]
noncomputable def shortC := ctD n2dE (fun p => Sm p.a ∧ 0 < p.b ∧ p.b < B) (fun p => [eM (p.a / p.b), dg (p.a % p.b)])
theorem shortC_at (a b : Nat) : shortC [eM a, dg b] = (Sm a ∧ 0 < b ∧ b < B, [eM (a / b), dg (a % b)]) := ctD_at n2dE_inj ⟨a, b⟩
def shortS (a b : Nat) (qs : List Nat) (r k : Nat) : St := ⟨[.dat (eM a), .dat (dg b), .any, .any, .any, .any, .row 11, .dat (.lit (.int .u64 r)), .dat (.lit (.int .i64 ((k : Int) - 1))), .any, .any, .any, .any, .any, .any, .any, .any, .any, .any, .any, .any, .any, .any, .any, .any, .any, .any, .any, .any, .any, .any, .any, .any, .any, .any, .any, .any, .any, .any, .any, .any, .any, .any], [none, none, none, none, none, none, none, none, none, none, none, some (.row 1 86 (List.replicate k z32 ++ qs.map dg)), none, none, none, none, none, none, none, none, none, none, none, none, none, none, none, none, none, none, none, none, none, none, none, none, none, none, none, none, none, none, none]⟩

end Go.Proofs.Ytdkgkcnllhcamaa.Ae

/-! To know less, and to number anew what is the call's own. No condition. -/
namespace Go.Proofs.Ytdkgkcnllhcamaa.Ae
open Go Go.RowKit

/-- What is the call's own: new number, old number, what it is. -/
def obs (n : Nat) (l : List (Nat × Nat × Ob)) : List (Option Ob) := l.foldr (fun p ob => ob.set p.1 (some p.2.2)) (nO n)
def rho : List (Nat × Nat × Ob) → Nat → Nat
  | [], o => o
  | p :: l, o => if o = p.1 then p.2.1 else rho l o
def LeTr (ρ : Nat → Nat) : List X → List X → Prop
  | [], [] => True
  | x :: a, y :: b => (y = .any ∨ x = y.ren ρ) ∧ LeTr ρ a b
  | _, _ => False
theorem leTr_len (ρ : Nat → Nat) : ∀ (a b : List X), LeTr ρ a b → b.length = a.length
  | [], [], _ => rfl
  | x :: a, y :: b, h => by simp [leTr_len ρ a b h.2]
  | [], _ :: _, h => h.elim
  | _ :: _, [], h => h.elim
theorem leTr_get (ρ : Nat → Nat) : ∀ (a b : List X), LeTr ρ a b → ∀ t, b.getD t .any = .any ∨ a.getD t .any = (b.getD t .any).ren ρ
  | [], [], _, t => .inl rfl
  | x :: a, y :: b, h, 0 => h.1
  | x :: a, y :: b, h, t + 1 => by simpa using leTr_get ρ a b h.2 t
  | [], _ :: _, h, _ => h.elim
  | _ :: _, [], h, _ => h.elim
theorem obs_get (n : Nat) : ∀ (l : List (Nat × Nat × Ob)) (o : Nat) (ob : Ob), (obs n l).getD o none = some ob → ∃ p ∈ l, p.1 = o ∧ p.2.1 = rho l o ∧ p.2.2 = ob
  | [], o, ob, h => by
    simp only [obs, List.foldr_nil, nO, List.getD_eq_getElem?_getD, List.getElem?_replicate] at h
    split at h <;> cases h
  | p :: l, o, ob, h => by
    have e : obs n (p :: l) = (obs n l).set p.1 (some p.2.2) := rfl
    rw [e, List.getD_eq_getElem?_getD, List.getElem?_set] at h
    by_cases hp : p.1 = o
    · rw [if_pos hp] at h
      split at h
      · simp at h
        exact ⟨p, List.mem_cons_self, hp, by simp [rho, hp], h⟩
      · cases h
    · rw [if_neg hp, ← List.getD_eq_getElem?_getD] at h
      obtain ⟨q, hq, h1, h2, h3⟩ := obs_get n l o ob h
      refine ⟨q, List.mem_cons_of_mem _ hq, h1, ?_, h3⟩
      rw [h2]
      have : ¬ o = p.1 := fun e => hp e.symm
      simp [rho, this]
def Ob.isP : Ob → Bool
  | .pbox _ => true
  | .prow _ _ _ _ => true
  | _ => false
/-- The variables that were handed over keep their numbers, and no two have one old number. -/
def obsOk (s : List (Option Ob)) : List (Nat × Nat × Ob) → Prop
  | [] => True
  | p :: l => gO s p.2.1 = some p.2.2 ∧ (p.2.2.isP = true → p.1 = p.2.1) ∧ (∀ q ∈ l, q.2.1 = p.2.1 → q.1 = p.1) ∧ obsOk s l
theorem obsOk_at {s : List (Option Ob)} : ∀ (l : List (Nat × Nat × Ob)), obsOk s l → ∀ p ∈ l, gO s p.2.1 = some p.2.2 ∧ (p.2.2.isP = true → p.1 = p.2.1)
  | [], _, p, hp => by cases hp
  | q :: l, h, p, hp => by
    rcases List.mem_cons.1 hp with rfl | hp
    · exact ⟨h.1, h.2.1⟩
    · exact obsOk_at l h.2.2.2 p hp
theorem obsOk_inj {s : List (Option Ob)} : ∀ (l : List (Nat × Nat × Ob)), obsOk s l → ∀ p ∈ l, ∀ q ∈ l, p.2.1 = q.2.1 → p.1 = q.1
  | [], _, p, hp, _, _, _ => by cases hp
  | r :: l, h, p, hp, q, hq, e => by
    rcases List.mem_cons.1 hp with rfl | hp' <;> rcases List.mem_cons.1 hq with rfl | hq'
    · rfl
    · exact (h.2.2.1 q hq' e.symm).symm
    · exact h.2.2.1 p hp' e
    · exact obsOk_inj l h.2.2.2 p hp' q hq' e
theorem snd_obs {s s' : St} {n : Nat} (l : List (Nat × Nat × Ob)) (e : s'.ob = obs n l) (ho : obsOk s.ob l) (h : LeTr (rho l) s.tm s'.tm) : Snd s s' :=
  Le.snd (ρ := rho l) ⟨leTr_len _ _ _ h, fun t => leTr_get _ _ _ h t, fun o ob hd => by
      unfold St.obj at hd ⊢
      rw [e] at hd
      obtain ⟨p, hp, h1, h2, h3⟩ := obs_get n l o ob hd
      rw [← h2, ← h3]
      exact (obsOk_at l ho p hp).1,
    fun o d hd => by
      unfold St.obj at hd
      rw [e] at hd
      obtain ⟨p, hp, h1, h2, h3⟩ := obs_get n l o _ hd
      rw [← h2, ← h1]
      exact ((obsOk_at l ho p hp).2 (by rw [h3]; rfl)).symm,
    fun o sz e' cp xs hd => by
      unfold St.obj at hd
      rw [e] at hd
      obtain ⟨p, hp, h1, h2, h3⟩ := obs_get n l o _ hd
      rw [← h2, ← h1]
      exact ((obsOk_at l ho p hp).2 (by rw [h3]; rfl)).symm,
    fun o o' ob ob' h1 h2 he => by
      unfold St.obj at h1 h2
      rw [e] at h1 h2
      obtain ⟨p, hp, p1, p2, _⟩ := obs_get n l o _ h1
      obtain ⟨q, hq, q1, q2, _⟩ := obs_get n l o' _ h2
      rw [← p1, ← q1]
      exact obsOk_inj l ho p hp q hq (by rw [p2, q2, he])⟩
attribute [simp] LeTr rho obsOk Ob.isP X.ren Rv.ren
end Go.Proofs.Ytdkgkcnllhcamaa.Ae

/-! impl.shiftMag: digits times a power of 2. No condition. -/
namespace Go.Proofs.Ytdkgkcnllhcamaa.Ae
open Go Go.RowKit Go.Proofs.Ytdkgkcnllhcamaa.Dig
variable {N : NR}

theorem or_low (c x s : Nat) (hc : c < 2 ^ s) : c ||| (x * 2 ^ s) = c + x * 2 ^ s := by
  have := Nat.two_pow_add_eq_or_of_lt (i := s) hc x
  rw [Nat.or_comm, Nat.mul_comm, ← this, Nat.add_comm]
def shE (p : N2) : List D := [eM p.a, .lit (.int .u64 p.b)]
theorem shE_inj (p q : N2) (h : shE p = shE q) : p = q := by
  obtain ⟨a, b⟩ := p; obtain ⟨c, d⟩ := q
  simp only [shE, List.cons.injEq, and_true] at h
  have h2 := h.2
  injection h2 with h2
  injection h2 with _ h2
  rw [eM_inj h.1, Int.ofNat.inj h2]
noncomputable def shiftC := ctD shE (fun p => Sm p.a ∧ p.b < 2 ^ 40) (fun p => [eM (p.a * 2 ^ p.b)])
theorem shiftC_at (a b : Nat) : shiftC [eM a, .lit (.int .u64 b)] = (Sm a ∧ b < 2 ^ 40, [eM (a * 2 ^ b)]) := ctD_at shE_inj ⟨a, b⟩
def shiftS (a b : Nat) (os : List Nat) (c i : Nat) : St := ⟨[.dat (eM a), .dat (.lit (.int .u64 b)), .any, .any, .any, .row 19, .dat (.lit (.int .u64 c)), .any, .any, .any, .any, .any, .any, .any, .any, .any, .any, .any, .any, .any, .dat (eM a), .dat (.lit (.int .i64 (mag a).length)), .dat (.lit (.int .i64 i)), .any, .any, .any, .any, .any, .any, .any, .any, .any, .any, .any, .any, .any, .any, .any, .any, .any, .any, .any, .any, .any, .any, .any, .any], [none, none, none, none, none, none, none, none, none, none, none, none, none, none, none, none, none, none, none, some (.row 1 86 (os.map dg)), none, none, none, none, none, none, none, none, none, none, none, none, none, none, none, none, none, none, none, none, none, none, none, none, none, none, none]⟩

end Go.Proofs.Ytdkgkcnllhcamaa.Ae

/-! Contracts of functions that write a slice they are handed, or whose result is a new slice; impl.trimmed of a slice of the call's own. No condition. -/
namespace Go.Proofs.Ytdkgkcnllhcamaa.Ae
open Go Go.RowKit Go.Proofs.Ytdkgkcnllhcamaa.Dig
variable {N : NR}

section
variable {α : Type} {e : α → List D × Nat × Nat × List D} {pre : α → Prop} {post : α → Option Wr × List D}
open Classical in
noncomputable def ctW (e : α → List D × Nat × Nat × List D) (pre : α → Prop) (post : α → Option Wr × List D) : List D → Nat → Nat → List D → Prop × Option Wr × List D := fun xs lo n ds =>
  if h : ∃ a, e a = (xs, lo, n, ds) then (pre h.choose, post h.choose) else (False, none, [])
theorem ctW_at (inj : ∀ a b, e a = e b → a = b) (a : α) : ctW e pre post (e a).1 (e a).2.1 (e a).2.2.1 (e a).2.2.2 = (pre a, post a) := by
  unfold ctW
  have h : ∃ b, e b = ((e a).1, (e a).2.1, (e a).2.2.1, (e a).2.2.2) := ⟨a, rfl⟩
  rw [dif_pos h, inj _ _ h.choose_spec]
theorem ctW_pre {xs : List D} {lo n : Nat} {ds : List D} (h : (ctW e pre post xs lo n ds).1) : ∃ a, e a = (xs, lo, n, ds) ∧ pre a ∧ ctW e pre post xs lo n ds = (pre a, post a) := by
  unfold ctW at h ⊢
  by_cases hh : ∃ a, e a = (xs, lo, n, ds)
  · rw [dif_pos hh] at h ⊢
    exact ⟨_, hh.choose_spec, h, rfl⟩
  · rw [dif_neg hh] at h
    exact h.elim
end
/-- A function's contract out of its reading: it writes a part of a slice. -/
theorem rdW {α : Type} {e : α → List D × Nat × Nat × List D} {pre : α → Prop} {post : α → Option Wr × List D} {f : FuncId} {fn : Func} {c : Code} {mf : FuncId → Bool} {tb : FuncId → Option Ct} {sz : Nat} {t : TypeId} (htb : TbOK N Try.prog tb) (hf : Try.prog.funcs[f]? = some fn) (hb : fn.body = some c) (hd : drawAll mf c = true)
    (h : ∀ a cp, pre a → 0 < (e a).1.length → (e a).2.1 + (e a).2.2.1 ≤ (e a).1.length → (0 < (e a).2.2.1 ∨ (e a).2.1 = 0) → (e a).2.2.2.length + 1 ≤ fn.ntmps ∧ (post a).2.length = (e a).1.length ∧
      awp Try.prog mf tb c (startW fn.ntmps (e a).2.1 (e a).2.2.1 (e a).2.2.2 sz t cp (e a).1) (endW Try.prog fn.ntmps fn.results.toList (post a).1 sz t cp (post a).2)) : SpecW N Try.prog f sz t (ctW e pre post) := by
  refine specW_of hf hb (fun xs lo n ds hp h0 hle hnl => ?_)
  obtain ⟨a, he, h1, h2⟩ := ctW_pre hp
  rw [h2]
  have hxs : xs = (e a).1 := by rw [he]
  have hlo : lo = (e a).2.1 := by rw [he]
  have hn : n = (e a).2.2.1 := by rw [he]
  have hds : ds = (e a).2.2.2 := by rw [he]
  subst hxs hlo hn hds
  exact ⟨(h a 0 h1 h0 hle hnl).1, (h a 0 h1 h0 hle hnl).2.1, fun cp => awp_sound htb mo _ _ _ hd (h a cp h1 h0 hle hnl).2.2⟩
/-- A function's contract out of its reading: its result is a new slice. -/
theorem rdO {α : Type} {e : α → List D} {pre : α → Prop} {post : α → List D} {f : FuncId} {fn : Func} {c : Code} {mf : FuncId → Bool} {tb : FuncId → Option Ct} {sz : Nat} {t : TypeId} (hsz : 0 < sz) (htb : TbOK N Try.prog tb) (hf : Try.prog.funcs[f]? = some fn) (hb : fn.body = some c) (hd : drawAll mf c = true)
    (h : ∀ a, pre a → (e a).length ≤ fn.ntmps ∧ (post a).all D.isLit = true ∧ awp Try.prog mf tb c (start fn.ntmps ((e a).map .dat) []) (endO fn.results.toList sz t (post a))) : SpecO N Try.prog f sz t (ctD e pre post) := by
  refine specO_of hf hb hsz (fun ds hp => ?_)
  obtain ⟨a, rfl, h1, h2⟩ := ctD_pre hp
  rw [h2]
  exact ⟨(h a h1).1, (h a h1).2.1, awp_sound htb mo _ _ _ hd (h a h1).2.2⟩
@[simp] theorem startW_mk (nt lo n : Nat) (ds : List D) (sz : Nat) (t : TypeId) (cp : Nat) (xs : List D) : startW nt lo n ds sz t cp xs = ⟨.win nt lo n :: (ds.map .dat ++ nX (nt - (ds.length + 1))), nO nt ++ [some (.prow sz t cp xs)]⟩ := rfl

/-! impl.trimmed of a part of a slice -/
structure Dw where
  xs : List Nat
  lo : Nat
  n : Nat
def dwE (p : Dw) : List D × Nat × Nat × List D := (p.xs.map dg, p.lo, p.n, [])
theorem dwE_inj (p q : Dw) (h : dwE p = dwE q) : p = q := by
  obtain ⟨a, b, c⟩ := p; obtain ⟨d, e, f⟩ := q
  simp only [dwE, Prod.mk.injEq] at h
  rw [map_dg_inj h.1, h.2.1, h.2.2.1]
def part (xs : List Nat) (lo n : Nat) : List Nat := (xs.drop lo).take n
theorem part_len (xs : List Nat) (lo n : Nat) (h : lo + n ≤ xs.length) : (part xs lo n).length = n := by simp [part]; omega
theorem part_snoc (xs : List Nat) (lo n : Nat) (h : lo + (n + 1) ≤ xs.length) : part xs lo (n + 1) = part xs lo n ++ [xs.getD (lo + n) 0] := by
  have e : (xs.drop lo)[n]? = some (xs.getD (lo + n) 0) := by
    rw [List.getElem?_drop, List.getD_eq_getElem?_getD, List.getElem?_eq_getElem (by omega)]; rfl
  unfold part
  rw [Dig.take_succ _ _ _ e]
theorem part_digs {xs : List Nat} (h : Digs xs) (lo n : Nat) : Digs (part xs lo n) := (h.drop lo).take n
noncomputable def trimW := ctW dwE (fun p => Digs p.xs ∧ p.xs.length < 2 ^ 62 ∧ p.lo = 0) (fun p => (some (.win p.lo (mag (val (part p.xs p.lo p.n))).length), p.xs.map dg))
theorem trimW_at (xs : List Nat) (lo n : Nat) : trimW (xs.map dg) lo n [] = ((Digs xs ∧ xs.length < 2 ^ 62 ∧ lo = 0), some (.win lo (mag (val (part xs lo n))).length), xs.map dg) := ctW_at dwE_inj ⟨xs, lo, n⟩
def trimT (xs : List Nat) (cp lo n : Nat) : St := ⟨[.win 21 lo n, .any, .any, .any, .any, .any, .any, .any, .any, .any, .any, .any, .any, .any, .any, .any, .any, .any, .any, .any, .any], [none, none, none, none, none, none, none, none, none, none, none, none, none, none, none, none, none, none, none, none, none, some (.prow 1 86 cp (xs.map dg))]⟩

end Go.Proofs.Ytdkgkcnllhcamaa.Ae

/-! impl.takeTimes, impl.giveBack: digits taken from others, and given back. No condition. -/
namespace Go.Proofs.Ytdkgkcnllhcamaa.Ae
open Go Go.RowKit Go.Proofs.Ytdkgkcnllhcamaa.Dig
variable {N : NR}

/-- A slice, a part of it, digits, a digit. -/
structure Tk where
  xs : List Nat
  lo : Nat
  n : Nat
  vs : List Nat
  t : Nat
def tkE (p : Tk) : List D × Nat × Nat × List D := (p.xs.map dg, p.lo, p.n, [eW p.vs, dg p.t])
theorem tkE_inj (p q : Tk) (h : tkE p = tkE q) : p = q := by
  obtain ⟨a, b, c, d, e⟩ := p; obtain ⟨a', b', c', d', e'⟩ := q
  simp only [tkE, Prod.mk.injEq, List.cons.injEq, and_true] at h
  rw [map_dg_inj h.1, h.2.1, h.2.2.1, eW_inj h.2.2.2.1, dg_inj h.2.2.2.2]
/-- The slice with another number in a part. -/
def put (xs : List Nat) (lo n x : Nat) : List Nat := xs.take lo ++ dig n x ++ xs.drop (lo + n)
def tkV (xs : List Nat) (lo n : Nat) (vs : List Nat) (t : Nat) : Nat := if val (part xs lo n) < t * val vs then val (part xs lo n) + B ^ n - t * val vs else val (part xs lo n) - t * val vs
noncomputable def takeW := ctW tkE (fun p => Digs p.xs ∧ Digs p.vs ∧ p.t < B ∧ p.vs.length < p.n ∧ p.lo + p.n ≤ p.xs.length ∧ p.xs.length < 2 ^ 41)
  (fun p => (some (.dat (.lit (.bool (decide (val (part p.xs p.lo p.n) < p.t * val p.vs))))), (put p.xs p.lo p.n (tkV p.xs p.lo p.n p.vs p.t)).map dg))
theorem takeW_at (xs : List Nat) (lo n : Nat) (vs : List Nat) (t : Nat) : takeW (xs.map dg) lo n [eW vs, dg t] = ((Digs xs ∧ Digs vs ∧ t < B ∧ vs.length < n ∧ lo + n ≤ xs.length ∧ xs.length < 2 ^ 41),
  some (.dat (.lit (.bool (decide (val (part xs lo n) < t * val vs))))), (put xs lo n (tkV xs lo n vs t)).map dg) := ctW_at tkE_inj ⟨xs, lo, n, vs, t⟩

theorem ix_at (L R : List Nat) (y : Nat) : ix (List.map dg (L ++ y :: R)) L.length = some (dg y) := by
  have h : L.length = (List.map dg L).length := by simp
  rw [List.map_append]; unfold ix; rw [h, List.getElem?_append_right (Nat.le_refl _), Nat.sub_self]; rfl
theorem lset_at (L R : List Nat) (y d : Nat) : lset (List.map dg (L ++ y :: R)) L.length (.lit (.int .u32 (d : Int))) = List.map dg (L ++ d :: R) := by
  have h : L.length = (List.map dg L).length := by simp
  rw [List.map_append, List.map_append]; unfold lset; rw [h, List.set_append_right _ _ (Nat.le_refl _), Nat.sub_self]; rfl

def takeS (lo n cp : Nat) (vs : List Nat) (t : Nat) (Z : List Nat) (c bo i : Nat) : St := ⟨[.win 48 lo n, .dat (eW vs), .dat (dg t), .any, .any, .any, .any, .dat (.lit (.int .u64 c)), .dat (.lit (.int .u32 bo)), .any, .win 48 lo n, .dat (.lit (.int .i64 n)), .dat (.lit (.int .i64 i)), .any, .any, .any, .any, .any, .any, .any, .any, .any, .any, .any, .any, .any, .any, .any, .any, .any, .any, .any, .any, .any, .any, .any, .any, .any, .any, .any, .any, .any, .any, .any, .any, .any, .any, .any], [none, none, none, none, none, none, none, none, none, none, none, none, none, none, none, none, none, none, none, none, none, none, none, none, none, none, none, none, none, none, none, none, none, none, none, none, none, none, none, none, none, none, none, none, none, none, none, none, some (.prow 1 86 cp (Z.map dg))]⟩

end Go.Proofs.Ytdkgkcnllhcamaa.Ae

/-! impl.giveBack: digits given back to others. No condition. -/
namespace Go.Proofs.Ytdkgkcnllhcamaa.Ae
open Go Go.RowKit Go.Proofs.Ytdkgkcnllhcamaa.Dig
variable {N : NR}

structure Gb where
  xs : List Nat
  lo : Nat
  n : Nat
  vs : List Nat
def gbE (p : Gb) : List D × Nat × Nat × List D := (p.xs.map dg, p.lo, p.n, [eW p.vs])
theorem gbE_inj (p q : Gb) (h : gbE p = gbE q) : p = q := by
  obtain ⟨a, b, c, d⟩ := p; obtain ⟨a', b', c', d'⟩ := q
  simp only [gbE, Prod.mk.injEq, List.cons.injEq, and_true] at h
  rw [map_dg_inj h.1, h.2.1, h.2.2.1, eW_inj h.2.2.2]
noncomputable def giveW := ctW gbE (fun p => Digs p.xs ∧ Digs p.vs ∧ p.vs.length ≤ p.n ∧ p.lo + p.n ≤ p.xs.length ∧ p.xs.length < 2 ^ 41)
  (fun p => (none, (put p.xs p.lo p.n ((val (part p.xs p.lo p.n) + val p.vs) % B ^ p.n)).map dg))
theorem giveW_at (xs : List Nat) (lo n : Nat) (vs : List Nat) : giveW (xs.map dg) lo n [eW vs] = ((Digs xs ∧ Digs vs ∧ vs.length ≤ n ∧ lo + n ≤ xs.length ∧ xs.length < 2 ^ 41),
  none, (put xs lo n ((val (part xs lo n) + val vs) % B ^ n)).map dg) := ctW_at gbE_inj ⟨xs, lo, n, vs⟩
def giveS (lo n cp : Nat) (vs : List Nat) (Z : List Nat) (c i : Nat) : St := ⟨[.win 34 lo n, .dat (eW vs), .any, .any, .dat (.lit (.int .u32 c)), .any, .any, .win 34 lo n, .dat (.lit (.int .i64 n)), .dat (.lit (.int .i64 i)), .any, .any, .any, .any, .any, .any, .any, .any, .any, .any, .any, .any, .any, .any, .any, .any, .any, .any, .any, .any, .any, .any, .any, .any], [none, none, none, none, none, none, none, none, none, none, none, none, none, none, none, none, none, none, none, none, none, none, none, none, none, none, none, none, none, none, none, none, none, none, some (.prow 1 86 cp (Z.map dg))]⟩

end Go.Proofs.Ytdkgkcnllhcamaa.Ae

/-! impl.shiftMag: its result is a new slice. No condition. -/
namespace Go.Proofs.Ytdkgkcnllhcamaa.Ae
open Go Go.RowKit Go.Proofs.Ytdkgkcnllhcamaa.Dig
variable {N : NR}

noncomputable def shiftO := ctD shE (fun p => Sm p.a ∧ p.b < 2 ^ 40) (fun p => (mag (p.a * 2 ^ p.b)).map dg)
theorem shiftO_at (a b : Nat) : shiftO [eM a, .lit (.int .u64 b)] = ((Sm a ∧ b < 2 ^ 40), (mag (a * 2 ^ b)).map dg) := ctD_at shE_inj ⟨a, b⟩

end Go.Proofs.Ytdkgkcnllhcamaa.Ae

/-! math/bits.Len32, LeadingZeros32. No condition. -/
namespace Go.Proofs.Ytdkgkcnllhcamaa.Ae
open Go Go.RowKit Go.Proofs.Ytdkgkcnllhcamaa.Dig
variable {N : NR}

/-- How many bits a number has. -/
def bl (x : Nat) : Nat := if x = 0 then 0 else Nat.log2 x + 1
theorem bl_shift (x k : Nat) (h : 2 ^ k ≤ x) : bl x = bl (x / 2 ^ k) + k := by
  have h0 : x ≠ 0 := by have := Nat.pow_pos (n := k) (show 0 < 2 by decide); omega
  have h1 : x / 2 ^ k ≠ 0 := by
    have := Nat.div_pos h (Nat.pow_pos (n := k) (by decide))
    omega
  unfold bl
  rw [if_neg h0, if_neg h1]
  have : Nat.log2 x = Nat.log2 (x / 2 ^ k) + k := by
    have e1 := Nat.log2_self_le h1
    have e2 := Nat.lt_log2_self (n := x / 2 ^ k)
    rw [Nat.log2_eq_iff h0]
    constructor
    · rw [Nat.pow_add]
      calc 2 ^ (x / 2 ^ k).log2 * 2 ^ k ≤ (x / 2 ^ k) * 2 ^ k := Nat.mul_le_mul_right _ e1
        _ ≤ x := Nat.div_mul_le_self _ _
    · have e3 : x < (x / 2 ^ k + 1) * 2 ^ k := by
        have := Nat.lt_div_mul_add (a := x) (b := 2 ^ k) (Nat.pow_pos (by decide))
        rw [Nat.add_mul]; omega
      calc x < (x / 2 ^ k + 1) * 2 ^ k := e3
        _ ≤ 2 ^ ((x / 2 ^ k).log2 + 1) * 2 ^ k := Nat.mul_le_mul_right _ e2
        _ = 2 ^ ((x / 2 ^ k).log2 + k + 1) := by rw [← Nat.pow_add]; congr 1; omega
  omega
theorem bl_le {x k : Nat} (h : x < 2 ^ k) : bl x ≤ k := by
  unfold bl
  split
  · omega
  · rename_i h0
    have := (Nat.log2_lt h0).2 h
    omega
theorem bl_lt {x : Nat} : x < 2 ^ bl x := by
  unfold bl
  split
  · rename_i h; subst h; decide
  · exact Nat.lt_log2_self
theorem bl_ge {x : Nat} (h : x ≠ 0) : 2 ^ (bl x - 1) ≤ x := by
  unfold bl
  rw [if_neg h]
  exact Nat.log2_self_le h
theorem tab_at {l : List UInt8} (h : l = (List.range 256).map (fun y => UInt8.ofNat (bl y))) (y : Nat) (hy : y < 256) : byteAt ⟨l.toArray⟩ y = bl y := by
  have h1 : (ByteArray.mk l.toArray)[y]? = some (UInt8.ofNat (bl y)) := by
    have hl : l.length = 256 := by rw [h, List.length_map, List.length_range]
    have hsz : (ByteArray.mk l.toArray).size = 256 := by show l.toArray.size = 256; simpa using hl
    rw [ByteArray.getElem?_lt' _ _ (by omega)]
    have : (ByteArray.mk l.toArray)[y] = l[y] := rfl
    rw [this]
    have h2 : l[y]? = some (UInt8.ofNat (bl y)) := by rw [h, List.getElem?_map, List.getElem?_range hy]; rfl
    rw [List.getElem?_eq_getElem (by omega)] at h2
    exact h2
  unfold byteAt
  rw [Int.toNat_natCast, h1, Option.getD_some]
  have : bl y ≤ 8 := bl_le (by omega)
  rw [UInt8.toNat_ofNat', Nat.mod_eq_of_lt (by omega)]

def d1E (x : Nat) : List D := [dg x]
theorem d1E_inj (p q : Nat) (h : d1E p = d1E q) : p = q := by simp only [d1E, List.cons.injEq, and_true] at h; exact dg_inj h
noncomputable def len32C := ctD d1E (fun x => x < B) (fun x => [.lit (.int .i64 (bl x))])
theorem len32C_at (x : Nat) : len32C [dg x] = (x < B, [.lit (.int .i64 (bl x))]) := ctD_at d1E_inj x
noncomputable def lz32C := ctD d1E (fun x => x < B) (fun x => [.lit (.int .i64 ((32 - bl x : Nat) : Int))])
theorem lz32C_at (x : Nat) : lz32C [dg x] = (x < B, [.lit (.int .i64 ((32 - bl x : Nat) : Int))]) := ctD_at d1E_inj x

end Go.Proofs.Ytdkgkcnllhcamaa.Ae

/-! Long division: what the guess of a digit is worth. No condition. -/
namespace Go.Proofs.Ytdkgkcnllhcamaa.Dig

/-- A divisor and the part of the dividend that it is held against, by their first digits. -/
structure Kn (W V P top v2 u0 u1 u2 : Nat) : Prop where
  P0 : 0 < P
  hV : ∃ l, l < P ∧ V = l + P * (v2 + B * top)
  hW : ∃ l, l < P ∧ W = l + P * (u2 + B * (u1 + B * u0))
  v2B : v2 < B
  u2B : u2 < B
  u1B : u1 < B
  t0 : 0 < top
  lt : W < B * V

variable {W V P top v2 u0 u1 u2 : Nat}
theorem Kn.V0 (h : Kn W V P top v2 u0 u1 u2) : P * B ≤ V := by
  obtain ⟨l, _, e⟩ := h.hV
  have h1 : P * (B * 1) ≤ P * (B * top) := Nat.mul_le_mul_left _ (Nat.mul_le_mul_left _ h.t0)
  rw [Nat.mul_one] at h1
  rw [e, Nat.mul_add]; omega
theorem Kn.Vpos (h : Kn W V P top v2 u0 u1 u2) : 0 < V := Nat.lt_of_lt_of_le (Nat.mul_pos h.P0 B_pos) h.V0
theorem Kn.start (h : Kn W V P top v2 u0 u1 u2) : W / V ≤ (u1 + B * u0) / top := by
  rw [Nat.le_div_iff_mul_le h.t0]
  obtain ⟨l, hl, e⟩ := h.hV
  obtain ⟨m, hm, e'⟩ := h.hW
  have h1 : W / V * V ≤ W := Nat.div_mul_le_self _ _
  have h2 : W < P * B * (u1 + B * u0 + 1) := by
    have h3 : P * (u2 + 1) ≤ P * B := Nat.mul_le_mul_left _ h.u2B
    rw [e', Nat.mul_add P, Nat.mul_add (P * B), Nat.mul_one, ← Nat.mul_assoc P B]
    rw [Nat.mul_add, Nat.mul_one] at h3
    omega
  have h4 : P * B * (W / V * top) ≤ W / V * V := by
    have : P * (B * top) ≤ V := by rw [e, Nat.mul_add]; omega
    have := Nat.mul_le_mul_left (W / V) this
    have e3 : P * B * (W / V * top) = W / V * (P * (B * top)) := by simp only [Nat.mul_assoc, Nat.mul_comm, Nat.mul_left_comm]
    omega
  have h5 : P * B * (W / V * top) < P * B * (u1 + B * u0 + 1) := by omega
  have := Nat.lt_of_mul_lt_mul_left h5
  omega
theorem Kn.q_lt (h : Kn W V P top v2 u0 u1 u2) : W / V < B := (Nat.div_lt_iff_lt_mul h.Vpos).2 h.lt
theorem Kn.dec (h : Kn W V P top v2 u0 u1 u2) {g r : Nat} (hi : g * top + r = u1 + B * u0) (hq : W / V ≤ g) (hc : B ≤ g ∨ r * B + u2 < g * v2) : 1 ≤ g ∧ (g - 1) * top + (r + top) = u1 + B * u0 ∧ W / V ≤ g - 1 := by
  have hlt : W / V < g := by
    rcases hc with hc | hc
    · have := h.q_lt; omega
    · rw [Nat.div_lt_iff_lt_mul h.Vpos]
      obtain ⟨l, hl, e⟩ := h.hV
      obtain ⟨m, hm, e'⟩ := h.hW
      have h1 : g * (P * (v2 + B * top)) ≤ g * V := Nat.mul_le_mul_left _ (by omega)
      have h2 : W < P * (u2 + B * (u1 + B * u0) + 1) := by rw [e', Nat.mul_add P _ 1]; omega
      have h3 : u2 + B * (u1 + B * u0) + 1 ≤ g * (v2 + B * top) := by
        rw [← hi, Nat.mul_add B, Nat.mul_add g]
        have e1 : B * (g * top) = g * (B * top) := Nat.mul_left_comm _ _ _
        rw [e1, Nat.mul_comm B r]
        omega
      have h4 : P * (u2 + B * (u1 + B * u0) + 1) ≤ P * (g * (v2 + B * top)) := Nat.mul_le_mul_left _ h3
      have h5 : P * (g * (v2 + B * top)) = g * (P * (v2 + B * top)) := Nat.mul_left_comm _ _ _
      omega
  generalize W / V = q at hlt hq ⊢
  refine ⟨by omega, ?_, by omega⟩
  obtain ⟨k, rfl⟩ : ∃ k, g = k + 1 := ⟨g - 1, by omega⟩
  rw [Nat.add_sub_cancel]
  rw [Nat.add_mul, Nat.one_mul] at hi
  omega
theorem Kn.u0_le (h : Kn W V P top v2 u0 u1 u2) : u0 ≤ top := by
  obtain ⟨l, hl, e⟩ := h.hV
  obtain ⟨m, hm, e'⟩ := h.hW
  have h1 : P * (B * (B * u0)) ≤ W := by
    rw [e', Nat.mul_add P, Nat.mul_add B, Nat.mul_add P]
    omega
  have h2 : V < P * (B * (top + 1)) := by
    have h3 : P * (v2 + 1) ≤ P * B := Nat.mul_le_mul_left _ h.v2B
    rw [Nat.mul_add, Nat.mul_one] at h3
    rw [e, Nat.mul_add B, Nat.mul_add P, Nat.mul_add P, Nat.mul_one]
    omega
  have h3 : B * V < B * (P * (B * (top + 1))) := Nat.mul_lt_mul_of_pos_left h2 B_pos
  have h4 := h.lt
  have e3 : B * (P * (B * (top + 1))) = P * (B * (B * (top + 1))) := Nat.mul_left_comm _ _ _
  have h5 : P * (B * (B * u0)) < P * (B * (B * (top + 1))) := by omega
  have h6 := Nat.lt_of_mul_lt_mul_left (Nat.lt_of_mul_lt_mul_left (Nat.lt_of_mul_lt_mul_left h5))
  omega
theorem Kn.done (h : Kn W V P top v2 u0 u1 u2) {g r : Nat} (hi : g * top + r = u1 + B * u0) (hc : ¬ (r < B ∧ (B ≤ g ∨ r * B + u2 < g * v2))) : g < B ∧ g ≤ W / V + 1 := by
  obtain ⟨l, hl, e⟩ := h.hV
  obtain ⟨m, hm, e'⟩ := h.hW
  by_cases hr : r < B
  · have hg : g < B := by
      rcases Nat.lt_or_ge g B with h1 | h1
      · exact h1
      · exact absurd ⟨hr, .inl h1⟩ hc
    have hv : g * v2 ≤ r * B + u2 := by
      rcases Nat.lt_or_ge (r * B + u2) (g * v2) with h1 | h1
      · exact absurd ⟨hr, .inr h1⟩ hc
      · exact h1
    refine ⟨hg, ?_⟩
    have h1 : g * V < W + V := by
      have h2 : g * (v2 + B * top) ≤ u2 + B * (u1 + B * u0) := by
        rw [← hi, Nat.mul_add B, Nat.mul_add g]
        have e1 : B * (g * top) = g * (B * top) := Nat.mul_left_comm _ _ _
        rw [e1, Nat.mul_comm B r]
        omega
      have h3 : P * (g * (v2 + B * top)) ≤ P * (u2 + B * (u1 + B * u0)) := Nat.mul_le_mul_left _ h2
      have h4 : g * V = g * l + P * (g * (v2 + B * top)) := by rw [e, Nat.mul_add, Nat.mul_left_comm g P]
      have h5 : g * l ≤ g * P := Nat.mul_le_mul_left _ (Nat.le_of_lt hl)
      have h6 : g * P < B * P := Nat.mul_lt_mul_of_pos_right hg h.P0
      have h7 := h.V0
      rw [Nat.mul_comm P B] at h7
      omega
    cases g with
    | zero => exact Nat.zero_le _
    | succ k =>
      have h2 : k * V ≤ W := by rw [Nat.add_mul, Nat.one_mul] at h1; omega
      have h3 := (Nat.le_div_iff_mul_le h.Vpos).2 h2
      exact Nat.succ_le_succ h3
  · have hu := h.u0_le
    have h1 := h.u1B
    have hg : g < B := by
      have h2 : B * u0 ≤ B * top := Nat.mul_le_mul_left _ hu
      have h3 : g * top < B * top := by omega
      exact Nat.lt_of_mul_lt_mul_right h3
    refine ⟨hg, ?_⟩
    have h2 : g * V ≤ W := by
      have h3 : l + P * v2 ≤ P * B := by
        have : P * (v2 + 1) ≤ P * B := Nat.mul_le_mul_left _ h.v2B
        rw [Nat.mul_add, Nat.mul_one] at this
        omega
      have h4 : g * (l + P * v2) ≤ r * (P * B) := Nat.mul_le_mul (by omega) h3
      have h5 : g * V = g * (l + P * v2) + P * B * (g * top) := by
        have e1 : P * B * (g * top) = g * (P * (B * top)) := by simp only [Nat.mul_assoc, Nat.mul_comm, Nat.mul_left_comm]
        rw [e, Nat.mul_add P, ← Nat.add_assoc, Nat.mul_add g, e1]
      have h6 : P * B * (g * top) + P * B * r = P * B * (u1 + B * u0) := by rw [← Nat.mul_add, hi]
      have h7 : P * B * (u1 + B * u0) ≤ W := by
        rw [e', Nat.mul_add P u2, ← Nat.mul_assoc P B]
        omega
      rw [Nat.mul_comm r] at h4
      omega
    exact Nat.le_succ_of_le ((Nat.le_div_iff_mul_le h.Vpos).2 h2)

theorem val_top2 {ds : List Nat} {n : Nat} (hl : ds.length = n + 2) : val ds = val (ds.take n) + B ^ n * (ds.getD n 0 + B * ds.getD (n + 1) 0) := by
  have h1 := val_take_getD ds n
  have h2 := val_take_getD ds (n + 1)
  rw [val_take_all ds (n + 1 + 1) (by omega), h1, Nat.pow_succ, Nat.mul_assoc, Nat.add_assoc, ← Nat.mul_add] at h2
  exact h2
theorem val_top3 {ds : List Nat} {n : Nat} (hl : ds.length = n + 3) : val ds = val (ds.take n) + B ^ n * (ds.getD n 0 + B * (ds.getD (n + 1) 0 + B * ds.getD (n + 2) 0)) := by
  have h1 := val_take_getD ds n
  have h2 := val_take_getD ds (n + 1)
  have h3 := val_take_getD ds (n + 2)
  rw [val_take_all ds (n + 2 + 1) (by omega)] at h3
  have e1 : B ^ (n + 1) = B ^ n * B := Nat.pow_succ ..
  have e2 : B ^ (n + 2) = B ^ n * B * B := by rw [Nat.pow_succ, e1]
  rw [h3, h2, h1, e1, e2]
  simp only [Nat.mul_add, Nat.mul_assoc, Nat.add_assoc]
theorem val_top1 {ds : List Nat} {n : Nat} (hl : ds.length = n + 1) : val ds = val (ds.take n) + B ^ n * ds.getD n 0 := by
  have h1 := val_take_getD ds n
  rwa [val_take_all ds (n + 1) (by omega)] at h1
/-- The rest behind a guess that is right or one too great. -/
theorem rest_of {W V M g : Nat} (hV : 0 < V) (hM : W < M) (hVM : V ≤ M) (h1 : W / V ≤ g) (h2 : g ≤ W / V + 1) :
    (W < g * V → g - 1 = W / V ∧ ((W + M - g * V) + V) % M = W % V) ∧ (¬ W < g * V → g = W / V ∧ W - g * V = W % V) := by
  have h3 := Nat.div_add_mod W V
  have h4 := Nat.mod_lt W hV
  rw [Nat.mul_comm] at h3
  generalize W / V = q at *
  generalize W % V = x at *
  have hcase : g = q ∨ g = q + 1 := by omega
  constructor
  · intro hlt
    rcases hcase with rfl | rfl
    · omega
    · refine ⟨by omega, ?_⟩
      rw [Nat.add_mul, Nat.one_mul]
      rw [Nat.add_mul, Nat.one_mul] at hlt
      have e1 : W + M - (q * V + V) + V = x + M * 1 := by omega
      rw [e1, Nat.add_mul_mod_self_left, Nat.mod_eq_of_lt (by omega)]
  · intro hge
    rcases hcase with rfl | rfl
    · exact ⟨rfl, by omega⟩
    · rw [Nat.add_mul, Nat.one_mul] at hge
      omega
end Go.Proofs.Ytdkgkcnllhcamaa.Dig

/-! impl.divMag: quotient and rest of digits. No condition. -/
namespace Go.Proofs.Ytdkgkcnllhcamaa.Ae
open Go Go.RowKit Go.Proofs.Ytdkgkcnllhcamaa.Dig
variable {N : NR}

def noD : List D → Prop × List D := fun _ => (False, [])
theorem noD_spec (f : FuncId) : SpecD N Try.prog f noD := fun ds h => h.elim
noncomputable def divC := ctD n2E (fun p => Sm p.a ∧ Sm p.b ∧ 0 < p.b) (fun p => [eM (p.a / p.b), eM (p.a % p.b)])
theorem divC_at (a b : Nat) : divC [eM a, eM b] = (Sm a ∧ Sm b ∧ 0 < b, [eM (a / b), eM (a % b)]) := ctD_at n2E_inj ⟨a, b⟩
def divMf : FuncId → Bool := fun f => f == 99999999 || f == 99999999 || f == 99999999 || f == 99999999
attribute [simp] divMf

/-- The divisor, shifted so that its first digit is great. -/
theorem norm_facts {b n bt sh : Nat} (hn : (mag b).length = n + 1) (hbt : bt = (mag b).getD n 0) (hsh : sh = 32 - bl bt) : sh ≤ 31 ∧ (mag (b * 2 ^ sh)).length = n + 1 ∧ 2147483648 ≤ (mag (b * 2 ^ sh)).getD n 0 := by
  have hbB : bt < 2 ^ 32 := by rw [hbt]; exact getD_lt (mag_digs b) n
  have hb0 : bt ≠ 0 := by
    have h1 : (mag b).getLast? = some bt := by
      rw [List.getLast?_eq_getElem?, hn, Nat.add_sub_cancel, hbt, List.getD_eq_getElem?_getD, List.getElem?_eq_getElem (by omega)]; rfl
    exact mag_last b bt h1
  have h1 : 1 ≤ bl bt := by unfold bl; rw [if_neg hb0]; omega
  have h2 : bl bt ≤ 32 := bl_le hbB
  have h3 := bl_lt (x := bt)
  have h4 := bl_ge hb0
  have hv := val_top1 hn
  rw [val_mag, ← hbt] at hv
  have hlow := val_lt ((mag_digs b).take n)
  rw [List.length_take, Nat.min_eq_left (by omega)] at hlow
  have hB : B = 2 ^ 32 := by decide
  have hup : b * 2 ^ sh < B ^ (n + 1) := by
    have e1 : b < B ^ n * 2 ^ bl bt := by
      have : B ^ n * (bt + 1) ≤ B ^ n * 2 ^ bl bt := Nat.mul_le_mul_left _ h3
      rw [Nat.mul_add, Nat.mul_one] at this
      omega
    have e2 : b * 2 ^ sh < B ^ n * 2 ^ bl bt * 2 ^ sh := Nat.mul_lt_mul_of_pos_right e1 (Nat.pow_pos (by decide))
    have e3 : B ^ n * 2 ^ bl bt * 2 ^ sh = B ^ (n + 1) := by rw [Nat.mul_assoc, ← Nat.pow_add, Nat.pow_succ]; congr 1; rw [hB]; congr 1; omega
    omega
  have hlo : B ^ n * 2147483648 ≤ b * 2 ^ sh := by
    have e1 : B ^ n * 2 ^ (bl bt - 1) ≤ b := by
      have : B ^ n * 2 ^ (bl bt - 1) ≤ B ^ n * bt := Nat.mul_le_mul_left _ h4
      omega
    have e2 : B ^ n * 2 ^ (bl bt - 1) * 2 ^ sh ≤ b * 2 ^ sh := Nat.mul_le_mul_right _ e1
    have e3 : B ^ n * 2 ^ (bl bt - 1) * 2 ^ sh = B ^ n * 2147483648 := by
      rw [Nat.mul_assoc, ← Nat.pow_add]; congr 1
      have : bl bt - 1 + sh = 31 := by omega
      rw [this]
    omega
  have hlen : (mag (b * 2 ^ sh)).length = n + 1 := by
    have e1 := mag_lt.2 hup
    rcases Nat.lt_or_ge (mag (b * 2 ^ sh)).length (n + 1) with e2 | e2
    · have e3 := mag_lt.1 (by omega : (mag (b * 2 ^ sh)).length ≤ n)
      have : B ^ n * 1 ≤ B ^ n * 2147483648 := Nat.mul_le_mul_left _ (by decide)
      omega
    · omega
  refine ⟨by omega, hlen, ?_⟩
  have hv2 := val_top1 hlen
  rw [val_mag] at hv2
  have hlow2 := val_lt ((mag_digs (b * 2 ^ sh)).take n)
  rw [List.length_take, Nat.min_eq_left (by omega)] at hlow2
  have h5 : B ^ n * 2147483648 < B ^ n * ((mag (b * 2 ^ sh)).getD n 0 + 1) := by rw [Nat.mul_add, Nat.mul_one]; omega
  have := Nat.lt_of_mul_lt_mul_left h5
  omega

/-! Parts of code. -/
def sq1 : Code → Code
  | .seq a _ => a
  | c => c
def sq2 : Code → Code
  | .seq _ b => b
  | c => c
def inB : Code → Code
  | .block _ c => c
  | c => c
def inL : Code → Code
  | .loop c => c
  | c => c
def divS1 (a b sh n : Nat) (us vs : List Nat) : St := ⟨[.dat (.sl 1 ((mag a).map dg)), .dat (.sl 1 ((mag b).map dg)), .any, .any, .any, .any, .any, .any, .dat (.lit (.int .u64 sh)), .dat (.lit (.int .i64 n)), .row 55, .row 58, .any, .any, .any, .any, .any, .any, .any, .any, .any, .any, .any, .any, .any, .any, .any, .any, .any, .any, .any, .any, .any, .any, .any, .any, .any, .any, .any, .any, .any, .any, .any, .any, .any, .any, .any, .any, .any, .any, .any, .any, .any, .any, .any, .any, .any, .any, .any, .any, .any, .any, .any, .any, .any, .any, .any, .any, .any, .any, .any, .any, .any, .any, .any, .any, .any, .any, .any, .any, .any, .any, .any, .any, .any, .any, .any, .any, .any, .any, .any, .any, .any, .any, .any, .any, .any, .any, .any, .any, .any, .any, .any, .any, .any, .any, .any, .any, .any, .any, .any, .any, .any, .any, .any, .any, .any, .any, .any, .any, .any, .any, .any, .any, .any, .any, .any, .any, .any, .any, .any, .any, .any, .any, .any, .any, .any, .any, .any, .any, .any, .any, .any, .any, .any, .any, .any, .any, .any, .any, .any, .any, .any, .any, .any, .any, .any, .any, .any, .any, .any, .any, .any, .any, .any, .any, .any, .any, .any, .any, .any, .any, .any, .any, .any, .any, .any, .any, .any, .any, .any, .any, .any, .any, .any, .any, .any, .any, .any, .any, .any, .any, .any, .any, .any, .any, .any, .any, .any, .any, .any, .any, .any, .any, .any, .any, .any], [none, none, none, none, none, none, none, none, none, none, none, none, none, none, none, none, none, none, none, none, none, none, none, none, none, none, none, none, none, none, none, none, none, none, none, none, none, none, none, none, none, none, none, none, none, none, none, none, none, none, none, none, none, none, none, some (.row 1 86 (us.map dg)), none, none, some (.row 1 86 (vs.map dg)), none, none, none, none, none, none, none, none, none, none, none, none, none, none, none, none, none, none, none, none, none, none, none, none, none, none, none, none, none, none, none, none, none, none, none, none, none, none, none, none, none, none, none, none, none, none, none, none, none, none, none, none, none, none, none, none, none, none, none, none, none, none, none, none, none, none, none, none, none, none, none, none, none, none, none, none, none, none, none, none, none, none, none, none, none, none, none, none, none, none, none, none, none, none, none, none, none, none, none, none, none, none, none, none, none, none, none, none, none, none, none, none, none, none, none, none, none, none, none, none, none, none, none, none, none, none, none, none, none, none, none, none, none, none, none, none, none, none, none, none, none, none, none, none, none, none, none, none]⟩
def divS2 (sh n : Nat) (us vs : List Nat) (top : Nat) (qs : List Nat) (k : Nat) : St := ⟨[.any, .any, .any, .any, .any, .any, .any, .any, .dat (.lit (.int .u64 sh)), .dat (.lit (.int .i64 n)), .row 55, .row 58, .dat (.lit (.int .u64 top)), .row 77, .dat (.lit (.int .i64 ((k : Int) - 1))), .any, .any, .any, .any, .any, .any, .any, .any, .any, .any, .any, .any, .any, .any, .any, .any, .any, .any, .any, .any, .any, .any, .any, .any, .any, .any, .any, .any, .any, .any, .any, .any, .any, .any, .any, .any, .any, .any, .any, .any, .any, .any, .any, .any, .any, .any, .any, .any, .any, .any, .any, .any, .any, .any, .any, .any, .any, .any, .any, .any, .any, .any, .any, .any, .any, .any, .any, .any, .any, .any, .any, .any, .any, .any, .any, .any, .any, .any, .any, .any, .any, .any, .any, .any, .any, .any, .any, .any, .any, .any, .any, .any, .any, .any, .any, .any, .any, .any, .any, .any, .any, .any, .any, .any, .any, .any, .any, .any, .any, .any, .any, .any, .any, .any, .any, .any, .any, .any, .any, .any, .any, .any, .any, .any, .any, .any, .any, .any, .any, .any, .any, .any, .any, .any, .any, .any, .any, .any, .any, .any, .any, .any, .any, .any, .any, .any, .any, .any, .any, .any, .any, .any, .any, .any, .any, .any, .any, .any, .any, .any, .any, .any, .any, .any, .any, .any, .any, .any, .any, .any, .any, .any, .any, .any, .any, .any, .any, .any, .any, .any, .any, .any, .any, .any, .any, .any, .any, .any, .any, .any, .any, .any], [none, none, none, none, none, none, none, none, none, none, none, none, none, none, none, none, none, none, none, none, none, none, none, none, none, none, none, none, none, none, none, none, none, none, none, none, none, none, none, none, none, none, none, none, none, none, none, none, none, none, none, none, none, none, none, some (.row 1 86 (us.map dg)), none, none, some (.frow 1 86 (vs.map dg)), none, none, none, none, none, none, none, none, none, none, none, none, none, none, none, none, none, none, some (.row 1 86 (List.replicate k z32 ++ qs.map dg)), none, none, none, none, none, none, none, none, none, none, none, none, none, none, none, none, none, none, none, none, none, none, none, none, none, none, none, none, none, none, none, none, none, none, none, none, none, none, none, none, none, none, none, none, none, none, none, none, none, none, none, none, none, none, none, none, none, none, none, none, none, none, none, none, none, none, none, none, none, none, none, none, none, none, none, none, none, none, none, none, none, none, none, none, none, none, none, none, none, none, none, none, none, none, none, none, none, none, none, none, none, none, none, none, none, none, none, none, none, none, none, none, none, none, none, none, none, none, none, none, none, none, none, none, none, none, none, none, none]⟩
def divSe (sh n : Nat) (us vs : List Nat) (top : Nat) (qs : List Nat) : St := ⟨[.any, .any, .any, .any, .any, .any, .any, .any, .dat (.lit (.int .u64 sh)), .dat (.lit (.int .i64 n)), .row 55, .row 58, .dat (.lit (.int .u64 top)), .row 77, .dat (.lit (.int .i64 (-1))), .any, .any, .any, .any, .any, .any, .any, .any, .any, .any, .any, .any, .any, .any, .any, .any, .any, .any, .any, .any, .any, .any, .any, .any, .any, .any, .any, .any, .any, .any, .any, .any, .any, .any, .any, .any, .any, .any, .any, .any, .any, .any, .any, .any, .any, .any, .any, .any, .any, .any, .any, .any, .any, .any, .any, .any, .any, .any, .any, .any, .any, .any, .any, .any, .any, .any, .any, .any, .dat (.lit (.int .i64 (-1))), .dat (.lit (.bool false)), .any, .any, .any, .any, .any, .any, .any, .any, .any, .any, .any, .any, .any, .any, .any, .any, .any, .any, .any, .any, .any, .any, .any, .any, .any, .any, .any, .any, .any, .any, .any, .any, .any, .any, .any, .any, .any, .any, .any, .any, .any, .any, .any, .any, .any, .any, .any, .any, .any, .any, .any, .any, .any, .any, .any, .any, .any, .any, .any, .any, .any, .any, .any, .any, .any, .any, .any, .any, .any, .any, .any, .any, .any, .any, .any, .any, .any, .any, .any, .any, .any, .any, .any, .any, .any, .any, .any, .any, .any, .any, .any, .any, .any, .any, .any, .any, .any, .any, .any, .any, .any, .any, .any, .any, .any, .any, .any, .any, .any, .any, .any, .any, .any, .any, .any, .any, .any, .any, .any, .any, .any, .any], [none, none, none, none, none, none, none, none, none, none, none, none, none, none, none, none, none, none, none, none, none, none, none, none, none, none, none, none, none, none, none, none, none, none, none, none, none, none, none, none, none, none, none, none, none, none, none, none, none, none, none, none, none, none, none, some (.row 1 86 (us.map dg)), none, none, some (.frow 1 86 (vs.map dg)), none, none, none, none, none, none, none, none, none, none, none, none, none, none, none, none, none, none, some (.row 1 86 (qs.map dg)), none, none, none, none, none, none, none, none, none, none, none, none, none, none, none, none, none, none, none, none, none, none, none, none, none, none, none, none, none, none, none, none, none, none, none, none, none, none, none, none, none, none, none, none, none, none, none, none, none, none, none, none, none, none, none, none, none, none, none, none, none, none, none, none, none, none, none, none, none, none, none, none, none, none, none, none, none, none, none, none, none, none, none, none, none, none, none, none, none, none, none, none, none, none, none, none, none, none, none, none, none, none, none, none, none, none, none, none, none, none, none, none, none, none, none, none, none, none, none, none, none, none, none, none, none, none, none, none, none]⟩
def divS3 (sh n : Nat) (us vs : List Nat) (top : Nat) (qs : List Nat) (k g r : Nat) : St := ⟨[.any, .any, .any, .any, .any, .any, .any, .any, .dat (.lit (.int .u64 sh)), .dat (.lit (.int .i64 n)), .row 55, .row 58, .dat (.lit (.int .u64 top)), .row 77, .dat (.lit (.int .i64 k)), .any, .dat (.lit (.int .u64 g)), .dat (.lit (.int .u64 r)), .any, .any, .any, .any, .any, .any, .any, .any, .any, .any, .any, .any, .any, .any, .any, .any, .any, .any, .any, .any, .any, .any, .any, .any, .any, .any, .any, .any, .any, .any, .any, .any, .any, .any, .any, .any, .any, .any, .any, .any, .any, .any, .any, .any, .any, .any, .any, .any, .any, .any, .any, .any, .any, .any, .any, .any, .any, .any, .any, .any, .any, .any, .any, .any, .any, .any, .any, .any, .any, .any, .any, .any, .any, .any, .any, .any, .any, .any, .any, .any, .any, .any, .any, .any, .any, .any, .any, .any, .any, .any, .any, .any, .any, .any, .any, .any, .any, .any, .any, .any, .any, .any, .any, .any, .any, .any, .any, .any, .any, .any, .any, .any, .any, .any, .any, .any, .any, .any, .any, .any, .any, .any, .any, .any, .any, .any, .any, .any, .any, .any, .any, .any, .any, .any, .any, .any, .any, .any, .any, .any, .any, .any, .any, .any, .any, .any, .any, .any, .any, .any, .any, .any, .any, .any, .any, .any, .any, .any, .any, .any, .any, .any, .any, .any, .any, .any, .any, .any, .any, .any, .any, .any, .any, .any, .any, .any, .any, .any, .any, .any, .any, .any, .any, .any, .any, .any, .any, .any, .any], [none, none, none, none, none, none, none, none, none, none, none, none, none, none, none, none, none, none, none, none, none, none, none, none, none, none, none, none, none, none, none, none, none, none, none, none, none, none, none, none, none, none, none, none, none, none, none, none, none, none, none, none, none, none, none, some (.row 1 86 (us.map dg)), none, none, some (.frow 1 86 (vs.map dg)), none, none, none, none, none, none, none, none, none, none, none, none, none, none, none, none, none, none, some (.row 1 86 (List.replicate (k + 1) z32 ++ qs.map dg)), none, none, none, none, none, none, none, none, none, none, none, none, none, none, none, none, none, none, none, none, none, none, none, none, none, none, none, none, none, none, none, none, none, none, none, none, none, none, none, none, none, none, none, none, none, none, none, none, none, none, none, none, none, none, none, none, none, none, none, none, none, none, none, none, none, none, none, none, none, none, none, none, none, none, none, none, none, none, none, none, none, none, none, none, none, none, none, none, none, none, none, none, none, none, none, none, none, none, none, none, none, none, none, none, none, none, none, none, none, none, none, none, none, none, none, none, none, none, none, none, none, none, none, none, none, none, none, none, none]⟩
end Go.Proofs.Ytdkgkcnllhcamaa.Ae

/-! impl.divMag: the loop that finds the digits of the quotient. No condition. -/
namespace Go.Proofs.Ytdkgkcnllhcamaa.Ae
open Go Go.RowKit Go.Proofs.Ytdkgkcnllhcamaa.Dig

/-- The first digits of the dividend's part and of the divisor. -/
theorem kn_of {us : List Nat} {V k n2 top : Nat} (hus : Digs us) (hk : k + (n2 + 3) ≤ us.length) (hV : (mag V).length = n2 + 2) (htop : top = (mag V).getD (n2 + 1) 0) (ht : 0 < top) (hlt : val (part us k (n2 + 3)) < B * V) :
    Kn (val (part us k (n2 + 3))) V (B ^ n2) top ((mag V).getD n2 0) (us.getD (k + n2 + 2) 0) (us.getD (k + n2 + 1) 0) (us.getD (k + n2) 0) := by
  have hpl := part_len us k (n2 + 3) hk
  have hpd := part_digs hus k (n2 + 3)
  have hg : ∀ j, j < n2 + 3 → (part us k (n2 + 3)).getD j 0 = us.getD (k + j) 0 := fun j hj => by
    unfold part
    rw [List.getD_eq_getElem?_getD, List.getElem?_take_of_lt hj, List.getElem?_drop, ← List.getD_eq_getElem?_getD]
  have h3 := val_top3 hpl
  have h2 := val_top2 hV
  rw [val_mag, ← htop] at h2
  rw [hg n2 (by omega), hg (n2 + 1) (by omega), hg (n2 + 2) (by omega)] at h3
  refine ⟨Nat.pow_pos B_pos, ⟨_, ?_, h2⟩, ⟨_, ?_, h3⟩, getD_lt (mag_digs V) _, getD_lt hus _, getD_lt hus _, ht, hlt⟩
  · have := val_lt ((mag_digs V).take n2)
    rwa [List.length_take, Nat.min_eq_left (by omega)] at this
  · have := val_lt (hpd.take n2)
    rwa [List.length_take, Nat.min_eq_left (by omega)] at this
/-- The part of the dividend that the next digit is found of. -/
theorem part_lt {us : List Nat} {V k n : Nat} (hus : Digs us) (hk : k < us.length) (hV : V < B ^ n) (h : val (us.drop (k + 1)) < V) : val (us.drop k) = val (part us k (n + 1)) ∧ val (us.drop (k + (n + 1))) = 0 ∧ val (part us k (n + 1)) < B * V := by
  have h1 : val (us.drop k) < B * V := by
    rw [drop_val hk]
    have h2 := getD_lt hus k
    have h3 : B * (val (us.drop (k + 1)) + 1) ≤ B * V := Nat.mul_le_mul_left _ h
    rw [Nat.mul_add, Nat.mul_one] at h3
    exact Nat.lt_of_lt_of_le (by rw [Nat.add_comm]; exact Nat.add_lt_add_left h2 _) h3
  have h2 : val (us.drop k) = val (part us k (n + 1)) + B ^ (n + 1) * val (us.drop (k + (n + 1))) := by
    rcases Nat.lt_or_ge (us.length - k) (n + 1) with h3 | h3
    · have e1 : part us k (n + 1) = us.drop k := by unfold part; rw [List.take_of_length_le (by simp; omega)]
      rw [e1, List.drop_eq_nil_of_le (by omega : us.length ≤ k + (n + 1))]
      rw [val, Nat.mul_zero, Nat.add_zero]
    · have := val_take_drop (us.drop k) (n + 1) (by simp; omega)
      rw [List.drop_drop] at this
      exact this
  have h6 : B * V ≤ B ^ (n + 1) := by rw [Nat.pow_succ, Nat.mul_comm]; exact Nat.mul_le_mul_right _ (Nat.le_of_lt hV)
  generalize B ^ (n + 1) = M at h2 h6
  generalize B * V = Z at *
  have h3 : val (us.drop (k + (n + 1))) = 0 := by
    rcases Nat.eq_zero_or_pos (val (us.drop (k + (n + 1)))) with h4 | h4
    · exact h4
    · have h5 : M * 1 ≤ M * val (us.drop (k + (n + 1))) := Nat.mul_le_mul_left _ h4
      omega
  rw [h3, Nat.mul_zero, Nat.add_zero] at h2
  exact ⟨h2, h3, by rw [← h2]; exact h1⟩
/-- What a slice tells behind a change of a part. -/
theorem put_val {us : List Nat} {k n x : Nat} (hus : Digs us) (hk : k + n ≤ us.length) (hx : x < B ^ n) : Digs (put us k n x) ∧ (put us k n x).length = us.length ∧ val (put us k n x) + B ^ k * val (part us k n) = val us + B ^ k * x ∧ val ((put us k n x).drop k) = x + B ^ n * val (us.drop (k + n)) ∧ part (put us k n x) k n = dig n x := by
  have hl : (us.take k).length = k := by simp; omega
  have hd : (us.take k ++ dig n x).length = k + n := by rw [List.length_append, hl, dig_len]
  have e1 : (put us k n x).drop k = dig n x ++ us.drop (k + n) := by
    unfold put
    rw [List.append_assoc]
    have : ∀ (X Y : List Nat), X.length = k → (X ++ Y).drop k = Y := fun X Y h => by rw [← h, List.drop_left]
    exact this _ _ hl
  have hv2 : val (us.drop k) = val (part us k n) + B ^ n * val (us.drop (k + n)) := by
    have := val_take_drop (us.drop k) n (by simp; omega)
    rw [List.drop_drop] at this
    exact this
  refine ⟨((hus.take k).append (dig_digs n x)).append (hus.drop _), by unfold put; rw [List.length_append, hd, List.length_drop]; omega, ?_, ?_, ?_⟩
  · unfold put
    rw [val_append, hd, val_append, hl, val_dig n x hx, Nat.pow_add]
    have h1 := val_take_drop us k (by omega)
    rw [h1, hv2, Nat.mul_add, Nat.mul_assoc]
    generalize B ^ k * (B ^ n * val (us.drop (k + n))) = z1
    generalize B ^ k * val (part us k n) = z2
    generalize B ^ k * x = z3
    omega
  · rw [e1, val_append, dig_len, val_dig n x hx]
  · unfold part
    rw [e1]
    have : ∀ (X Y : List Nat), X.length = n → (X ++ Y).take n = X := fun X Y h => by rw [← h, List.take_left]
    exact this _ _ (dig_len n x)

end Go.Proofs.Ytdkgkcnllhcamaa.Ae

/-! impl.divMag: behind the loop: the rest is shifted back. No condition. -/
namespace Go.Proofs.Ytdkgkcnllhcamaa.Ae
open Go Go.RowKit Go.Proofs.Ytdkgkcnllhcamaa.Dig

theorem mag_getD : ∀ (i n : Nat), (mag n).getD i 0 = n / B ^ i % B
  | i, 0 => by rw [mag_zero]; simp
  | 0, n + 1 => by rw [mag_pos (by omega)]; simp
  | i + 1, n + 1 => by
    rw [mag_pos (by omega), List.getD_cons_succ, mag_getD i, Nat.div_div_eq_div_mul, Nat.pow_succ, Nat.mul_comm B]
/-- A digit of a number that is shifted back, out of two of its digits. -/
theorem shr_digit (R sh i : Nat) (h : sh ≤ 31) : (R / 2 ^ sh) / B ^ i % B = ((R / B ^ (i + 1) % B) * B + R / B ^ i % B) / 2 ^ sh % B := by
  have hB : B = 2 ^ sh * 2 ^ (32 - sh) := by
    rw [← Nat.pow_add]
    have : sh + (32 - sh) = 32 := by omega
    rw [this]; rfl
  have hp : 0 < 2 ^ sh := Nat.pow_pos (by decide)
  rw [Nat.div_div_eq_div_mul, Nat.mul_comm, ← Nat.div_div_eq_div_mul]
  have e1 : R / B ^ (i + 1) = R / B ^ i / B := by rw [Nat.pow_succ, Nat.div_div_eq_div_mul]
  rw [e1]
  generalize R / B ^ i = z
  obtain ⟨x, hx⟩ : ∃ x, x = z % B := ⟨_, rfl⟩
  obtain ⟨y, hy⟩ : ∃ y, y = z / B % B := ⟨_, rfl⟩
  obtain ⟨t, ht⟩ : ∃ t, t = z / B / B := ⟨_, rfl⟩
  have hz : z = x + B * (y + B * t) := by
    rw [hx, hy, ht, Nat.mod_add_div, Nat.mod_add_div]
  rw [← hx, ← hy]
  have e2 : z = (y * B + x) + 2 ^ sh * (2 ^ (32 - sh) * (B * t)) := by
    have h1 : 2 ^ sh * (2 ^ (32 - sh) * (B * t)) = B * (B * t) := by rw [← Nat.mul_assoc, ← hB]
    rw [h1, hz, Nat.mul_add, Nat.mul_comm y]; omega
  conv => lhs; rw [e2]
  rw [Nat.add_mul_div_left _ _ hp]
  have e3 : 2 ^ (32 - sh) * (B * t) = B * (2 ^ (32 - sh) * t) := Nat.mul_left_comm _ _ _
  rw [e3, Nat.add_mul_mod_self_left]

def divS4 (sh : Nat) (us : List Nat) (n : Nat) (qs : List Nat) (i : Nat) : St := ⟨[.any, .any, .any, .any, .any, .any, .any, .any, .dat (.lit (.int .u64 sh)), .any, .any, .any, .any, .row 77, .any, .any, .any, .any, .win 55 0 n, .any, .any, .any, .any, .any, .any, .any, .any, .any, .any, .any, .any, .any, .any, .any, .any, .any, .any, .any, .any, .any, .any, .any, .any, .any, .any, .any, .any, .any, .any, .any, .any, .any, .any, .any, .any, .any, .any, .any, .any, .any, .any, .any, .any, .any, .any, .any, .any, .any, .any, .any, .any, .any, .any, .any, .any, .any, .any, .any, .any, .any, .any, .any, .any, .any, .any, .any, .any, .any, .any, .any, .any, .any, .any, .any, .any, .any, .any, .any, .any, .any, .any, .any, .any, .any, .any, .any, .any, .any, .any, .any, .any, .any, .any, .any, .any, .any, .any, .any, .any, .any, .any, .any, .any, .any, .any, .any, .any, .any, .any, .any, .any, .any, .any, .any, .any, .any, .any, .any, .any, .any, .any, .any, .any, .any, .any, .any, .any, .any, .any, .any, .any, .any, .any, .any, .any, .any, .any, .any, .any, .any, .any, .any, .any, .any, .any, .any, .any, .any, .any, .any, .any, .any, .any, .dat (.lit (.int .i64 n)), .dat (.lit (.int .i64 i)), .any, .any, .any, .any, .any, .any, .any, .any, .any, .any, .any, .any, .any, .any, .any, .any, .any, .any, .any, .any, .any, .any, .any, .any, .any, .any, .any, .any, .any, .any, .any, .any], [none, none, none, none, none, none, none, none, none, none, none, none, none, none, none, none, none, none, none, none, none, none, none, none, none, none, none, none, none, none, none, none, none, none, none, none, none, none, none, none, none, none, none, none, none, none, none, none, none, none, none, none, none, none, none, some (.row 1 86 (us.map dg)), none, none, none, none, none, none, none, none, none, none, none, none, none, none, none, none, none, none, none, none, none, some (.row 1 86 (qs.map dg)), none, none, none, none, none, none, none, none, none, none, none, none, none, none, none, none, none, none, none, none, none, none, none, none, none, none, none, none, none, none, none, none, none, none, none, none, none, none, none, none, none, none, none, none, none, none, none, none, none, none, none, none, none, none, none, none, none, none, none, none, none, none, none, none, none, none, none, none, none, none, none, none, none, none, none, none, none, none, none, none, none, none, none, none, none, none, none, none, none, none, none, none, none, none, none, none, none, none, none, none, none, none, none, none, none, none, none, none, none, none, none, none, none, none, none, none, none, none, none, none, none, none, none, none, none, none, none, none, none]⟩

end Go.Proofs.Ytdkgkcnllhcamaa.Ae

/-! impl.divMag: quotient and rest of digits. No condition. -/
namespace Go.Proofs.Ytdkgkcnllhcamaa.Ae
open Go Go.RowKit Go.Proofs.Ytdkgkcnllhcamaa.Dig
variable {N : NR}

end Go.Proofs.Ytdkgkcnllhcamaa.Ae

/-! spec.l1Trim, l1Mag, l1Abs, l1MagCmp. No condition. -/
namespace Go.Proofs.Ytdkgkcnllhcamaa.Ae
open Go Go.RowKit Go.Proofs.Ytdkgkcnllhcamaa.Dig
variable {N : NR}

def sTrimS (xs : List Nat) (n : Nat) : St := ⟨[.dat (eW xs), .any, .any, .dat (.lit (.int .i64 n)), .any, .any, .any, .any, .any, .any, .any, .any, .any, .any, .any, .any, .any, .any, .any, .any, .any], [none, none, none, none, none, none, none, none, none, none, none, none, none, none, none, none, none, none, none, none, none]⟩
/-! A number of one word. -/
structure N1 where
  a : Nat
def u64D (n : Nat) : D := .lit (.int .u64 n)
theorem u64D_inj {a b : Nat} (h : u64D a = u64D b) : a = b := by simp [u64D] at h; omega
def n1E (p : N1) : List D := [u64D p.a]
theorem n1E_inj (p q : N1) (h : n1E p = n1E q) : p = q := by
  obtain ⟨a⟩ := p; obtain ⟨c⟩ := q
  simp only [n1E, List.cons.injEq, and_true] at h
  rw [u64D_inj h]
noncomputable def magC := ctD n1E (fun p => p.a < 18446744073709551616) (fun p => [eM p.a])
theorem magC_at (a : Nat) : magC [u64D a] = (a < 18446744073709551616, [eM a]) := ctD_at n1E_inj ⟨a⟩
theorem magC_at' (a : Nat) : magC [.lit (.int .u64 a)] = (a < 18446744073709551616, [.sl 1 ((mag a).map dg)]) := magC_at a
theorem two_digits (x : Nat) : val [x % 4294967296, x / 4294967296] = x := by
  simp only [val, B, Nat.mul_zero, Nat.add_zero]; exact Nat.mod_add_div x 4294967296
/-! A whole number of one word. -/
structure Z1 where
  a : Int
def i64D (n : Int) : D := .lit (.int .i64 n)
theorem i64D_inj {a b : Int} (h : i64D a = i64D b) : a = b := by simp [i64D] at h; omega
def z1E (p : Z1) : List D := [i64D p.a]
theorem z1E_inj (p q : Z1) (h : z1E p = z1E q) : p = q := by
  obtain ⟨a⟩ := p; obtain ⟨c⟩ := q
  simp only [z1E, List.cons.injEq, and_true] at h
  rw [i64D_inj h]
def I64 (x : Int) : Prop := -9223372036854775808 ≤ x ∧ x ≤ 9223372036854775807
noncomputable def absC := ctD z1E (fun p => I64 p.a) (fun p => [u64D p.a.natAbs])
theorem absC_at (a : Int) : absC [i64D a] = (I64 a, [u64D a.natAbs]) := ctD_at z1E_inj ⟨a⟩
theorem absC_at' (a : Int) : absC [.lit (.int .i64 a)] = (I64 a, [.lit (.int .u64 (a.natAbs : Int))]) := absC_at a
theorem l1Abs_spec : SpecD N Try.prog 29 absC := by
  refine rdD (mf := fun f => false) tbl_nil (fn := Try.f29) (by kernel_rfl) rfl (by kernel_rfl) ?_
  rintro ⟨x⟩ hx
  have hx : -9223372036854775808 ≤ x ∧ x ≤ 9223372036854775807 := hx
  refine ⟨by show 1 ≤ 10; decide, ?_⟩
  simp only [z1E, i64D, u64D, Try.f29]
  generalize hy : ((x.natAbs : Nat) : Int) = y
  by_cases h : x < 0
  · have r1 : IntKind.u64.wrap (-IntKind.u64.wrap x) = y := by rw [wrap_u64, wrap_u64]; omega
    simp [h, r1]
  · have r1 : IntKind.u64.wrap x = y := by rw [wrap_u64]; omega
    simp [h, r1]
theorem l1Abs_ok : callable Try.prog 29 = true := by kernel_rfl

/-! Digits compared. -/
def sgnC (a b : Nat) : Int := if a < b then -1 else if b < a then 1 else 0
noncomputable def sCmpC := ctD n2E (fun p => Sm p.a ∧ Sm p.b) (fun p => [.lit (.int .i64 (sgnC p.a p.b))])
theorem sCmpC_at (a b : Nat) : sCmpC [eM a, eM b] = (Sm a ∧ Sm b, [.lit (.int .i64 (sgnC a b))]) := ctD_at n2E_inj ⟨a, b⟩
def sCmpS (a b : Nat) (n : Nat) : St := ⟨[.dat (eM a), .dat (eM b), .any, .any, .any, .dat (.lit (.int .i64 ((n : Int) - 1))), .any, .any, .any, .any, .any, .any, .any, .any, .any, .any, .any, .any, .any, .any, .any, .any, .any, .any, .any, .any, .any, .any, .any, .any, .any, .any, .any, .any, .any, .any, .any, .any, .any, .any, .any], [none, none, none, none, none, none, none, none, none, none, none, none, none, none, none, none, none, none, none, none, none, none, none, none, none, none, none, none, none, none, none, none, none, none, none, none, none, none, none, none, none]⟩
end Go.Proofs.Ytdkgkcnllhcamaa.Ae

/-! spec.l1MagAdd, l1MagSub. No condition. -/
namespace Go.Proofs.Ytdkgkcnllhcamaa.Ae
open Go Go.RowKit Go.Proofs.Ytdkgkcnllhcamaa.Dig
variable {N : NR}

/-- A row that is written from the left. -/
theorem lset_fwd (os : List Nat) (k : Nat) (v : D) : lset (List.map dg os ++ List.replicate (k + 1) z32) os.length v = List.map dg os ++ v :: List.replicate k z32 := by
  have h : os.length = (List.map dg os).length := by simp
  rw [List.replicate_succ]; unfold lset; rw [h, List.set_append_right _ _ (Nat.le_refl _), Nat.sub_self]; rfl
theorem ix_fwd (os : List Nat) (k : Nat) : ix (List.map dg os ++ List.replicate (k + 1) z32) os.length = some z32 := by
  have h : os.length = (List.map dg os).length := by simp
  unfold ix; rw [h, List.getElem?_append_right (Nat.le_refl _), Nat.sub_self]; rfl

@[simp] theorem z32_size : z32.size = 1 := rfl
def sAddS (p q : Nat) (os : List Nat) (c k : Nat) : St := ⟨[.dat (eM p), .dat (eM q), .any, .any, .any, .row 18, .dat (.lit (.int .u64 c)), .dat (.lit (.int .i64 os.length)), .any, .any, .any, .any, .any, .any, .any, .any, .any, .any, .any, .any, .any, .any, .any, .any, .any, .any, .any, .any, .any, .any, .any, .any, .any, .any, .any, .any, .any, .any, .any, .any, .any, .any, .any, .any, .any, .any, .any, .any, .any, .any, .any, .any, .any, .any, .any, .any, .any, .any], [none, none, none, none, none, none, none, none, none, none, none, none, none, none, none, none, none, none, some (.row 1 86 (os.map dg ++ List.replicate (k + 1) z32)), none, none, none, none, none, none, none, none, none, none, none, none, none, none, none, none, none, none, none, none, none, none, none, none, none, none, none, none, none, none, none, none, none, none, none, none, none, none, none]⟩

end Go.Proofs.Ytdkgkcnllhcamaa.Ae

/-! spec.l1MagSub. No condition. -/
namespace Go.Proofs.Ytdkgkcnllhcamaa.Ae
open Go Go.RowKit Go.Proofs.Ytdkgkcnllhcamaa.Dig
variable {N : NR}

/-- A difference's digit and what is borrowed, in one word. -/
theorem bor64 (x y c : Nat) (hx : x < 4294967296) (hy : y < 4294967296) (hc : c ≤ 1) : ∃ (t1 t2 : Int) (c' d : Nat), d < B ∧ c' ≤ 1 ∧ d + y + c = x + B * c' ∧ IntKind.u64.wrap ((x : Int) - c) = t1 ∧ IntKind.u64.wrap (t1 - y) = t2 ∧ IntKind.u32.wrap t2 = d ∧ t2 / 9223372036854775808 = c' ∧ (y = 0 → t2 = t1) := by
  obtain ⟨t1, h1⟩ : ∃ t1 : Int, t1 = ((x : Int) - c) % 18446744073709551616 := ⟨_, rfl⟩
  obtain ⟨t2, h2⟩ : ∃ t2 : Int, t2 = (t1 - y) % 18446744073709551616 := ⟨_, rfl⟩
  have e1 : IntKind.u64.wrap ((x : Int) - c) = t1 := by rw [wrap_u64, h1]
  have e2 : IntKind.u64.wrap (t1 - y) = t2 := by rw [wrap_u64, h2]
  have h3 : t2 = ((x : Int) - c - y) % 18446744073709551616 := by omega
  have e0 : y = 0 → t2 = t1 := by intro h; subst h; omega
  rcases Nat.lt_or_ge x (y + c) with h | h
  · refine ⟨t1, t2, 1, x + 4294967296 - y - c, by simp only [B]; omega, by omega, by simp only [B]; omega, e1, e2, ?_, ?_, e0⟩
    · rw [wrap_u32]; omega
    · omega
  · refine ⟨t1, t2, 0, x - y - c, by simp only [B]; omega, by omega, by simp only [B]; omega, e1, e2, ?_, ?_, e0⟩
    · rw [wrap_u32]; omega
    · omega
def sSubS (a b : Nat) (os : List Nat) (c k : Nat) : St := ⟨[.dat (eM a), .dat (eM b), .any, .any, .any, .row 11, .dat (.lit (.int .u64 c)), .dat (.lit (.int .i64 os.length)), .any, .any, .any, .any, .any, .any, .any, .any, .any, .any, .any, .any, .any, .any, .any, .any, .any, .any, .any, .any, .any, .any, .any, .any, .any, .any, .any, .any, .any, .any, .any, .any, .any, .any, .any, .any, .any], [none, none, none, none, none, none, none, none, none, none, none, some (.row 1 86 (os.map dg ++ List.replicate k z32)), none, none, none, none, none, none, none, none, none, none, none, none, none, none, none, none, none, none, none, none, none, none, none, none, none, none, none, none, none, none, none, none, none]⟩

end Go.Proofs.Ytdkgkcnllhcamaa.Ae

/-! spec.l1MagMul. No condition. -/
namespace Go.Proofs.Ytdkgkcnllhcamaa.Ae
open Go Go.RowKit Go.Proofs.Ytdkgkcnllhcamaa.Dig
variable {N : NR}

def sMulS (a b : Nat) (os : List Nat) (i k : Nat) : St := ⟨[.dat (eM a), .dat (eM b), .any, .any, .any, .row 15, .dat (.lit (.int .i64 i)), .any, .any, .any, .any, .any, .any, .any, .any, .any, .any, .any, .any, .any, .any, .any, .any, .any, .any, .any, .any, .any, .any, .any, .any, .any, .any, .any, .any, .any, .any, .any, .any, .any, .any, .any, .any, .any, .any, .any, .any, .any, .any, .any, .any, .any, .any, .any, .any, .any, .any, .any, .any, .any, .any, .any, .any, .any, .any, .any, .any, .any], [none, none, none, none, none, none, none, none, none, none, none, none, none, none, none, some (.row 1 86 (os.map dg ++ List.replicate k z32)), none, none, none, none, none, none, none, none, none, none, none, none, none, none, none, none, none, none, none, none, none, none, none, none, none, none, none, none, none, none, none, none, none, none, none, none, none, none, none, none, none, none, none, none, none, none, none, none, none, none, none, none]⟩
def sMulT (a b : Nat) (os : List Nat) (i k c j : Nat) : St := ⟨[.dat (eM a), .dat (eM b), .any, .any, .any, .row 15, .dat (.lit (.int .i64 i)), .dat (.lit (.int .u64 c)), .dat (.lit (.int .i64 j)), .any, .any, .any, .any, .any, .any, .any, .any, .any, .any, .any, .any, .any, .any, .any, .any, .any, .any, .any, .any, .any, .any, .any, .any, .any, .any, .any, .any, .any, .any, .any, .any, .any, .any, .any, .any, .any, .any, .any, .any, .any, .any, .any, .any, .any, .any, .any, .any, .any, .any, .any, .any, .any, .any, .any, .any, .any, .any, .any], [none, none, none, none, none, none, none, none, none, none, none, none, none, none, none, some (.row 1 86 (os.map dg ++ List.replicate k z32)), none, none, none, none, none, none, none, none, none, none, none, none, none, none, none, none, none, none, none, none, none, none, none, none, none, none, none, none, none, none, none, none, none, none, none, none, none, none, none, none, none, none, none, none, none, none, none, none, none, none, none, none]⟩

end Go.Proofs.Ytdkgkcnllhcamaa.Ae

/-! spec.l1MagDiv1. No condition. -/
namespace Go.Proofs.Ytdkgkcnllhcamaa.Ae
open Go Go.RowKit Go.Proofs.Ytdkgkcnllhcamaa.Dig
variable {N : NR}

noncomputable def div1C := ctD n2dE (fun p => Sm p.a ∧ 0 < p.b ∧ p.b < B) (fun p => [eM (p.a / p.b), eM (p.a % p.b)])
theorem div1C_at (a b : Nat) : div1C [eM a, dg b] = (Sm a ∧ 0 < b ∧ b < B, [eM (a / b), eM (a % b)]) := ctD_at n2dE_inj ⟨a, b⟩
def div1S (a b : Nat) (qs : List Nat) (r k : Nat) : St := ⟨[.dat (eM a), .dat (dg b), .any, .any, .any, .any, .row 12, .dat (.lit (.int .u64 r)), .dat (.lit (.int .i64 ((k : Int) - 1))), .any, .any, .any, .any, .any, .any, .any, .any, .any, .any, .any, .any, .any, .any, .any, .any, .any, .any, .any, .any, .any, .any, .any, .any, .any, .any, .any, .any, .any, .any, .any, .any, .any, .any, .any], [none, none, none, none, none, none, none, none, none, none, none, none, some (.row 1 86 (List.replicate k z32 ++ qs.map dg)), none, none, none, none, none, none, none, none, none, none, none, none, none, none, none, none, none, none, none, none, none, none, none, none, none, none, none, none, none, none, none]⟩

end Go.Proofs.Ytdkgkcnllhcamaa.Ae

/-! spec.l1Shl: its result is a new slice. No condition. -/
namespace Go.Proofs.Ytdkgkcnllhcamaa.Ae
open Go Go.RowKit Go.Proofs.Ytdkgkcnllhcamaa.Dig
variable {N : NR}

structure Sh3 where
  a : Nat
  s : Nat
  m : Nat
def sh3E (p : Sh3) : List D := [eM p.a, .lit (.int .u64 p.s), .lit (.int .i64 p.m)]
theorem sh3E_inj (p q : Sh3) (h : sh3E p = sh3E q) : p = q := by
  obtain ⟨a, b, m⟩ := p; obtain ⟨c, d, n⟩ := q
  simp only [sh3E, List.cons.injEq, and_true] at h
  have h2 := h.2.1
  injection h2 with h2
  injection h2 with _ h2
  have h3 := h.2.2
  injection h3 with h3
  injection h3 with _ h3
  rw [eM_inj h.1, Int.ofNat.inj h2, Int.ofNat.inj h3]
noncomputable def shlO := ctD sh3E (fun p => Sm p.a ∧ p.s < 32 ∧ p.m ≤ 1 ∧ (p.m = 0 → p.a * 2 ^ p.s < B ^ (mag p.a).length)) (fun p => (dig ((mag p.a).length + p.m) (p.a * 2 ^ p.s)).map dg)
theorem shlO_at (a s m : Nat) : shlO [eM a, .lit (.int .u64 s), .lit (.int .i64 m)] = ((Sm a ∧ s < 32 ∧ m ≤ 1 ∧ (m = 0 → a * 2 ^ s < B ^ (mag a).length)), (dig ((mag a).length + m) (a * 2 ^ s)).map dg) := ctD_at sh3E_inj ⟨a, s, m⟩
def shlS (a s m : Nat) (os : List Nat) (c k : Nat) : St := ⟨[.dat (eM a), .dat (.lit (.int .u64 s)), .dat (.lit (.int .i64 m)), .any, .any, .any, .any, .row 15, .dat (.lit (.int .u64 c)), .dat (.lit (.int .i64 os.length)), .any, .any, .any, .any, .any, .any, .any, .any, .any, .any, .any, .any, .any, .any, .any, .any, .any, .any, .any, .any, .any, .any, .any, .any, .any, .any, .any, .any, .any, .any, .any, .any, .any, .any, .any, .any, .any], [none, none, none, none, none, none, none, none, none, none, none, none, none, none, none, some (.row 1 86 (os.map dg ++ List.replicate (k + m) z32)), none, none, none, none, none, none, none, none, none, none, none, none, none, none, none, none, none, none, none, none, none, none, none, none, none, none, none, none, none, none, none]⟩

end Go.Proofs.Ytdkgkcnllhcamaa.Ae

/-! spec.l1MagDiv: the two inner loops that take and give back. No condition. -/
namespace Go.Proofs.Ytdkgkcnllhcamaa.Ae
open Go Go.RowKit Go.Proofs.Ytdkgkcnllhcamaa.Dig
variable {N : NR}

/-- A difference's digit and what is borrowed, in one word, the borrow taken last. -/
theorem bor64b (x y c : Nat) (hx : x < 4294967296) (hy : y < 4294967296) (hc : c ≤ 1) : ∃ (t1 t2 : Int) (c' d : Nat), d < B ∧ c' ≤ 1 ∧ d + y + c = x + B * c' ∧ IntKind.u64.wrap ((x : Int) - y) = t1 ∧ IntKind.u64.wrap (t1 - c) = t2 ∧ IntKind.u32.wrap t2 = d ∧ t2 / 9223372036854775808 = c' := by
  obtain ⟨t1, h1⟩ : ∃ t1 : Int, t1 = ((x : Int) - y) % 18446744073709551616 := ⟨_, rfl⟩
  obtain ⟨t2, h2⟩ : ∃ t2 : Int, t2 = (t1 - c) % 18446744073709551616 := ⟨_, rfl⟩
  have e1 : IntKind.u64.wrap ((x : Int) - y) = t1 := by rw [wrap_u64, h1]
  have e2 : IntKind.u64.wrap (t1 - c) = t2 := by rw [wrap_u64, h2]
  have h3 : t2 = ((x : Int) - c - y) % 18446744073709551616 := by omega
  rcases Nat.lt_or_ge x (y + c) with h | h
  · refine ⟨t1, t2, 1, x + 4294967296 - y - c, by simp only [B]; omega, by omega, by simp only [B]; omega, e1, e2, ?_, ?_⟩
    · rw [wrap_u32]; omega
    · omega
  · refine ⟨t1, t2, 0, x - y - c, by simp only [B]; omega, by omega, by simp only [B]; omega, e1, e2, ?_, ?_⟩
    · rw [wrap_u32]; omega
    · omega
theorem and_low (p : Nat) (hp : p < 18446744073709551616) : bAnd .u64 (p : Int) 4294967295 = ((p % 4294967296 : Nat) : Int) := by
  have := bAnd64 p 4294967295 hp (by omega)
  have h2 : p &&& 4294967295 = p % 4294967296 := Nat.and_two_pow_sub_one_eq_mod p 32
  rw [h2] at this
  exact this
theorem drop_cons {us : List Nat} {i : Nat} (h : i < us.length) : us.drop i = us.getD i 0 :: us.drop (i + 1) := by
  rw [List.drop_eq_getElem_cons h, List.getD_eq_getElem?_getD, List.getElem?_eq_getElem h]; rfl

/-! Parts of code. -/
def inC : Code → Code
  | .cond _ a _ => a
  | c => c
def sDivMf : FuncId → Bool := fun f => f == 99999999 || f == 99999999
attribute [simp] sDivMf

def sDv6 (s n : Nat) (vs us qs : List Nat) (k g c b i : Nat) : St := ⟨[.any, .any, .any, .any, .any, .any, .dat (.lit (.int .u64 s)), .dat (.lit (.int .i64 n)), .row 60, .row 63, .row 69, .dat (.lit (.int .i64 k)), .any, .dat (.lit (.int .u64 g)), .any, .any, .dat (.lit (.int .u64 c)), .dat (.lit (.int .u64 b)), .dat (.lit (.int .i64 i)), .any, .any, .any, .any, .any, .any, .any, .any, .any, .any, .any, .any, .any, .any, .any, .any, .any, .any, .any, .any, .any, .any, .any, .any, .any, .any, .any, .any, .any, .any, .any, .any, .any, .any, .any, .any, .any, .any, .any, .any, .any, .any, .any, .any, .any, .any, .any, .any, .any, .any, .any, .any, .any, .any, .any, .any, .any, .any, .any, .any, .any, .any, .any, .any, .any, .any, .any, .any, .any, .any, .any, .any, .any, .any, .any, .any, .any, .any, .any, .any, .any, .any, .any, .any, .any, .any, .any, .any, .any, .any, .any, .any, .any, .any, .any, .any, .any, .any, .any, .any, .any, .any, .any, .any, .any, .any, .any, .any, .any, .any, .any, .any, .any, .any, .any, .any, .any, .any, .any, .any, .any, .any, .any, .any, .any, .any, .any, .any, .any, .any, .any, .any, .any, .any, .any, .any, .any, .any, .any, .any, .any, .any, .any, .any, .any, .any, .any, .any, .any, .any, .any, .any, .any, .any, .any, .any, .any, .any, .any, .any, .any, .any, .any, .any, .any, .any, .any, .any, .any, .any, .any, .any, .any, .any, .any, .any, .any, .any, .any, .any, .any, .any, .any, .any, .any, .any, .any, .any, .any, .any, .any, .any, .any, .any, .any, .any, .any, .any, .any, .any, .any, .any, .any, .any, .any, .any, .any, .any, .any, .any, .any, .any, .any, .any, .any, .any, .any, .any, .any, .any, .any, .any, .any, .any, .any, .any, .any, .any, .any, .any, .any, .any, .any, .any, .any, .any, .any, .any, .any, .any, .any, .any, .any, .any, .any, .any, .any, .any, .any, .any, .any, .any, .any, .any, .any, .any, .any, .any, .any, .any, .any, .any, .any, .any, .any, .any, .any, .any, .any, .any, .any, .any, .any, .any, .any, .any, .any, .any, .any, .any, .any, .any], [none, none, none, none, none, none, none, none, none, none, none, none, none, none, none, none, none, none, none, none, none, none, none, none, none, none, none, none, none, none, none, none, none, none, none, none, none, none, none, none, none, none, none, none, none, none, none, none, none, none, none, none, none, none, none, none, none, none, none, none, some (.row 1 86 (vs.map dg)), none, none, some (.row 1 86 (us.map dg)), none, none, none, none, none, some (.row 1 86 (List.replicate (k + 1) z32 ++ qs.map dg)), none, none, none, none, none, none, none, none, none, none, none, none, none, none, none, none, none, none, none, none, none, none, none, none, none, none, none, none, none, none, none, none, none, none, none, none, none, none, none, none, none, none, none, none, none, none, none, none, none, none, none, none, none, none, none, none, none, none, none, none, none, none, none, none, none, none, none, none, none, none, none, none, none, none, none, none, none, none, none, none, none, none, none, none, none, none, none, none, none, none, none, none, none, none, none, none, none, none, none, none, none, none, none, none, none, none, none, none, none, none, none, none, none, none, none, none, none, none, none, none, none, none, none, none, none, none, none, none, none, none, none, none, none, none, none, none, none, none, none, none, none, none, none, none, none, none, none, none, none, none, none, none, none, none, none, none, none, none, none, none, none, none, none, none, none, none, none, none, none, none, none, none, none, none, none, none, none, none, none, none, none, none, none, none, none, none, none, none, none, none, none, none, none, none, none, none, none, none, none, none, none, none, none, none, none, none, none, none, none, none, none, none, none, none, none, none, none, none, none, none, none, none, none, none, none, none, none, none, none, none, none]⟩
def sDe6 (s n : Nat) (vs us qs : List Nat) (k g c b : Nat) : St := ⟨[.any, .any, .any, .any, .any, .any, .dat (.lit (.int .u64 s)), .dat (.lit (.int .i64 n)), .row 60, .row 63, .row 69, .dat (.lit (.int .i64 k)), .any, .dat (.lit (.int .u64 g)), .any, .any, .dat (.lit (.int .u64 c)), .dat (.lit (.int .u64 b)), .dat (.lit (.int .i64 n)), .any, .any, .any, .any, .any, .any, .any, .any, .any, .any, .any, .any, .any, .any, .any, .any, .any, .any, .any, .any, .any, .any, .any, .any, .any, .any, .any, .any, .any, .any, .any, .any, .any, .any, .any, .any, .any, .any, .any, .any, .any, .any, .any, .any, .any, .any, .any, .any, .any, .any, .any, .any, .any, .any, .any, .any, .any, .any, .any, .any, .any, .any, .any, .any, .any, .any, .any, .any, .any, .any, .any, .any, .any, .any, .any, .any, .any, .any, .any, .any, .any, .any, .any, .any, .any, .any, .any, .any, .any, .any, .any, .any, .any, .any, .any, .any, .any, .any, .any, .any, .any, .any, .any, .any, .any, .any, .any, .any, .any, .any, .any, .any, .any, .any, .any, .any, .any, .any, .any, .any, .any, .any, .any, .any, .any, .any, .any, .any, .any, .any, .any, .any, .any, .any, .any, .any, .dat (.lit (.int .i64 n)), .dat (.lit (.int .i64 n)), .dat (.lit (.bool false)), .any, .any, .any, .any, .any, .any, .any, .any, .any, .any, .any, .any, .any, .any, .any, .any, .any, .any, .any, .any, .any, .any, .any, .any, .any, .any, .any, .any, .any, .any, .any, .any, .any, .any, .any, .any, .any, .any, .any, .any, .any, .any, .any, .any, .any, .any, .any, .any, .any, .any, .any, .any, .any, .any, .any, .any, .any, .any, .any, .any, .any, .any, .any, .any, .any, .any, .any, .any, .any, .any, .any, .any, .any, .any, .any, .any, .any, .any, .any, .any, .any, .any, .any, .any, .any, .any, .any, .any, .any, .any, .any, .any, .any, .any, .any, .any, .any, .any, .any, .any, .any, .any, .any, .any, .any, .any, .any, .any, .any, .any, .any, .any, .any, .any, .any, .any, .any, .any, .any, .any, .any, .any, .any, .any, .any, .any, .any, .any, .any, .any, .any, .any, .any, .any, .any, .any, .any, .any, .any, .any, .any, .any, .any], [none, none, none, none, none, none, none, none, none, none, none, none, none, none, none, none, none, none, none, none, none, none, none, none, none, none, none, none, none, none, none, none, none, none, none, none, none, none, none, none, none, none, none, none, none, none, none, none, none, none, none, none, none, none, none, none, none, none, none, none, some (.row 1 86 (vs.map dg)), none, none, some (.row 1 86 (us.map dg)), none, none, none, none, none, some (.row 1 86 (List.replicate (k + 1) z32 ++ qs.map dg)), none, none, none, none, none, none, none, none, none, none, none, none, none, none, none, none, none, none, none, none, none, none, none, none, none, none, none, none, none, none, none, none, none, none, none, none, none, none, none, none, none, none, none, none, none, none, none, none, none, none, none, none, none, none, none, none, none, none, none, none, none, none, none, none, none, none, none, none, none, none, none, none, none, none, none, none, none, none, none, none, none, none, none, none, none, none, none, none, none, none, none, none, none, none, none, none, none, none, none, none, none, none, none, none, none, none, none, none, none, none, none, none, none, none, none, none, none, none, none, none, none, none, none, none, none, none, none, none, none, none, none, none, none, none, none, none, none, none, none, none, none, none, none, none, none, none, none, none, none, none, none, none, none, none, none, none, none, none, none, none, none, none, none, none, none, none, none, none, none, none, none, none, none, none, none, none, none, none, none, none, none, none, none, none, none, none, none, none, none, none, none, none, none, none, none, none, none, none, none, none, none, none, none, none, none, none, none, none, none, none, none, none, none, none, none, none, none, none, none, none, none, none, none, none, none, none, none, none, none, none, none]⟩
def sDv8 (s n : Nat) (vs us qs : List Nat) (k g c i : Nat) : St := ⟨[.any, .any, .any, .any, .any, .any, .dat (.lit (.int .u64 s)), .dat (.lit (.int .i64 n)), .row 60, .row 63, .row 69, .dat (.lit (.int .i64 k)), .any, .dat (.lit (.int .u64 g)), .any, .any, .any, .any, .any, .any, .any, .any, .dat (.lit (.int .u64 c)), .dat (.lit (.int .i64 i)), .any, .any, .any, .any, .any, .any, .any, .any, .any, .any, .any, .any, .any, .any, .any, .any, .any, .any, .any, .any, .any, .any, .any, .any, .any, .any, .any, .any, .any, .any, .any, .any, .any, .any, .any, .any, .any, .any, .any, .any, .any, .any, .any, .any, .any, .any, .any, .any, .any, .any, .any, .any, .any, .any, .any, .any, .any, .any, .any, .any, .any, .any, .any, .any, .any, .any, .any, .any, .any, .any, .any, .any, .any, .any, .any, .any, .any, .any, .any, .any, .any, .any, .any, .any, .any, .any, .any, .any, .any, .any, .any, .any, .any, .any, .any, .any, .any, .any, .any, .any, .any, .any, .any, .any, .any, .any, .any, .any, .any, .any, .any, .any, .any, .any, .any, .any, .any, .any, .any, .any, .any, .any, .any, .any, .any, .any, .any, .any, .any, .any, .any, .any, .any, .any, .any, .any, .any, .any, .any, .any, .any, .any, .any, .any, .any, .any, .any, .any, .any, .any, .any, .any, .any, .any, .any, .any, .any, .any, .any, .any, .any, .any, .any, .any, .any, .any, .any, .any, .any, .any, .any, .any, .any, .any, .any, .any, .any, .any, .any, .any, .any, .any, .any, .any, .any, .any, .any, .any, .any, .any, .any, .any, .any, .any, .any, .any, .any, .any, .any, .any, .any, .any, .any, .any, .any, .any, .any, .any, .any, .any, .any, .any, .any, .any, .any, .any, .any, .any, .any, .any, .any, .any, .any, .any, .any, .any, .any, .any, .any, .any, .any, .any, .any, .any, .any, .any, .any, .any, .any, .any, .any, .any, .any, .any, .any, .any, .any, .any, .any, .any, .any, .any, .any, .any, .any, .any, .any, .any, .any, .any, .any, .any, .any, .any, .any, .any, .any, .any, .any, .any, .any, .any, .any, .any, .any, .any, .any], [none, none, none, none, none, none, none, none, none, none, none, none, none, none, none, none, none, none, none, none, none, none, none, none, none, none, none, none, none, none, none, none, none, none, none, none, none, none, none, none, none, none, none, none, none, none, none, none, none, none, none, none, none, none, none, none, none, none, none, none, some (.row 1 86 (vs.map dg)), none, none, some (.row 1 86 (us.map dg)), none, none, none, none, none, some (.row 1 86 (List.replicate (k + 1) z32 ++ qs.map dg)), none, none, none, none, none, none, none, none, none, none, none, none, none, none, none, none, none, none, none, none, none, none, none, none, none, none, none, none, none, none, none, none, none, none, none, none, none, none, none, none, none, none, none, none, none, none, none, none, none, none, none, none, none, none, none, none, none, none, none, none, none, none, none, none, none, none, none, none, none, none, none, none, none, none, none, none, none, none, none, none, none, none, none, none, none, none, none, none, none, none, none, none, none, none, none, none, none, none, none, none, none, none, none, none, none, none, none, none, none, none, none, none, none, none, none, none, none, none, none, none, none, none, none, none, none, none, none, none, none, none, none, none, none, none, none, none, none, none, none, none, none, none, none, none, none, none, none, none, none, none, none, none, none, none, none, none, none, none, none, none, none, none, none, none, none, none, none, none, none, none, none, none, none, none, none, none, none, none, none, none, none, none, none, none, none, none, none, none, none, none, none, none, none, none, none, none, none, none, none, none, none, none, none, none, none, none, none, none, none, none, none, none, none, none, none, none, none, none, none, none, none, none, none, none, none, none, none, none, none, none, none]⟩

def sDe8 (s n : Nat) (vs us qs : List Nat) (k g c : Nat) : St := ⟨[.any, .any, .any, .any, .any, .any, .dat (.lit (.int .u64 s)), .dat (.lit (.int .i64 n)), .row 60, .row 63, .row 69, .dat (.lit (.int .i64 k)), .any, .dat (.lit (.int .u64 g)), .any, .any, .any, .any, .any, .any, .any, .any, .dat (.lit (.int .u64 c)), .dat (.lit (.int .i64 n)), .any, .any, .any, .any, .any, .any, .any, .any, .any, .any, .any, .any, .any, .any, .any, .any, .any, .any, .any, .any, .any, .any, .any, .any, .any, .any, .any, .any, .any, .any, .any, .any, .any, .any, .any, .any, .any, .any, .any, .any, .any, .any, .any, .any, .any, .any, .any, .any, .any, .any, .any, .any, .any, .any, .any, .any, .any, .any, .any, .any, .any, .any, .any, .any, .any, .any, .any, .any, .any, .any, .any, .any, .any, .any, .any, .any, .any, .any, .any, .any, .any, .any, .any, .any, .any, .any, .any, .any, .any, .any, .any, .any, .any, .any, .any, .any, .any, .any, .any, .any, .any, .any, .any, .any, .any, .any, .any, .any, .any, .any, .any, .any, .any, .any, .any, .any, .any, .any, .any, .any, .any, .any, .any, .any, .any, .any, .any, .any, .any, .any, .any, .any, .any, .any, .any, .any, .any, .any, .any, .any, .any, .any, .any, .any, .any, .any, .any, .any, .any, .any, .any, .any, .any, .any, .any, .any, .any, .any, .any, .any, .any, .any, .any, .any, .any, .any, .any, .any, .any, .any, .any, .any, .any, .any, .any, .any, .any, .any, .any, .any, .any, .any, .any, .any, .any, .any, .any, .any, .any, .any, .any, .dat (.lit (.int .i64 n)), .dat (.lit (.int .i64 n)), .dat (.lit (.bool false)), .any, .any, .any, .any, .any, .any, .any, .any, .any, .any, .any, .any, .any, .any, .any, .any, .any, .any, .any, .any, .any, .any, .any, .any, .any, .any, .any, .any, .any, .any, .any, .any, .any, .any, .any, .any, .any, .any, .any, .any, .any, .any, .any, .any, .any, .any, .any, .any, .any, .any, .any, .any, .any, .any, .any, .any, .any, .any, .any, .any, .any, .any, .any, .any, .any, .any, .any, .any, .any, .any, .any, .any, .any, .any, .any, .any, .any, .any, .any, .any, .any, .any, .any], [none, none, none, none, none, none, none, none, none, none, none, none, none, none, none, none, none, none, none, none, none, none, none, none, none, none, none, none, none, none, none, none, none, none, none, none, none, none, none, none, none, none, none, none, none, none, none, none, none, none, none, none, none, none, none, none, none, none, none, none, some (.row 1 86 (vs.map dg)), none, none, some (.row 1 86 (us.map dg)), none, none, none, none, none, some (.row 1 86 (List.replicate (k + 1) z32 ++ qs.map dg)), none, none, none, none, none, none, none, none, none, none, none, none, none, none, none, none, none, none, none, none, none, none, none, none, none, none, none, none, none, none, none, none, none, none, none, none, none, none, none, none, none, none, none, none, none, none, none, none, none, none, none, none, none, none, none, none, none, none, none, none, none, none, none, none, none, none, none, none, none, none, none, none, none, none, none, none, none, none, none, none, none, none, none, none, none, none, none, none, none, none, none, none, none, none, none, none, none, none, none, none, none, none, none, none, none, none, none, none, none, none, none, none, none, none, none, none, none, none, none, none, none, none, none, none, none, none, none, none, none, none, none, none, none, none, none, none, none, none, none, none, none, none, none, none, none, none, none, none, none, none, none, none, none, none, none, none, none, none, none, none, none, none, none, none, none, none, none, none, none, none, none, none, none, none, none, none, none, none, none, none, none, none, none, none, none, none, none, none, none, none, none, none, none, none, none, none, none, none, none, none, none, none, none, none, none, none, none, none, none, none, none, none, none, none, none, none, none, none, none, none, none, none, none, none, none, none, none, none, none, none, none]⟩

end Go.Proofs.Ytdkgkcnllhcamaa.Ae

/-! spec.l1MagDiv: what one round of the loop comes to, in numbers. No condition. -/
namespace Go.Proofs.Ytdkgkcnllhcamaa.Ae
open Go Go.RowKit Go.Proofs.Ytdkgkcnllhcamaa.Dig

/-- A slice with another number in a part, digit by digit. -/
theorem put_of {us os : List Nat} {k n d x : Nat} (hos : Digs os) (hd : d < B) (hl : os.length = n) (hk : k + n < us.length) (hv : val os + B ^ n * d = x) : us.take k ++ os ++ d :: us.drop (k + n + 1) = put us k (n + 1) x := by
  unfold put
  rw [dig_of (hos.append (Digs.nil.cons hd)) (by simp [hl]) (by rw [val_snoc, hl]; exact hv)]
  simp only [List.append_assoc, List.singleton_append, ← Nat.add_assoc]
theorem top_lt {os : List Nat} {n d : Nat} (hos : Digs os) (hd : d < B) (hl : os.length = n) : val os + B ^ n * d < B ^ (n + 1) := by
  have h1 := val_lt (hos.append (Digs.nil.cons hd))
  rw [val_snoc, List.length_append, List.length_singleton, hl] at h1
  exact h1
/-- What is taken, from the digits. -/
theorem taken {us os vs : List Nat} {k n d c b b' u0 g : Nat} (hos : Digs os) (hol : os.length = n) (hkn : k + n < us.length) (hu0 : u0 = us.getD (k + n) 0) (hsub : d + c + b = u0 + B * b') (hv : val os + g * val vs = val (part us k n) + B ^ n * (b + c)) :
    (val os + B ^ n * d) + g * val vs = val (part us k (n + 1)) + B ^ (n + 1) * b' := by
  rw [part_snoc us k n (by omega), val_snoc, part_len us k n (by omega), ← hu0, Nat.pow_succ, Nat.mul_assoc]
  have h1 := congrArg (B ^ n * ·) hsub
  simp only [Nat.mul_add] at h1 hv
  omega
/-- What is given back, from the digits. -/
theorem given {us os vs : List Nat} {k n d c e x : Nat} (hos : Digs os) (hd : d < B) (hol : os.length = n) (hkn : k + n < us.length) (hx : x = us.getD (k + n) 0) (hcut : d + B * e = x + c) (hv : val os + B ^ n * c = val (part us k n) + val vs) :
    val os + B ^ n * d = (val (part us k (n + 1)) + val vs) % B ^ (n + 1) := by
  have h0 := top_lt hos hd hol
  have h2 : (val os + B ^ n * d) + B ^ (n + 1) * e = val (part us k (n + 1)) + val vs := by
    rw [part_snoc us k n (by omega), val_snoc, part_len us k n (by omega), ← hx, Nat.pow_succ, Nat.mul_assoc]
    have h1 := congrArg (B ^ n * ·) hcut
    simp only [Nat.mul_add] at h1 hv
    omega
  rw [← h2, Nat.add_mul_mod_self_left, Nat.mod_eq_of_lt h0]
/-- The end of a round: a part of the dividend gives way to its rest. -/
theorem round_end {us us2 : List Nat} {k np V W q : Nat} (h1 : Digs us2) (h2 : us2.length = us.length) (hV0 : 0 < V) (h3 : q = W / V) (hz : val (us.drop (k + np)) = 0) (h4 : val us2 + B ^ k * W = val us + B ^ k * (W % V)) (h5 : val (us2.drop k) = W % V + B ^ np * val (us.drop (k + np))) :
    val (us2.drop k) < V ∧ val us2 + V * B ^ k * q = val us := by
  refine ⟨by rw [h5, hz, Nat.mul_zero, Nat.add_zero]; exact Nat.mod_lt _ hV0, ?_⟩
  have h6 := Nat.div_add_mod W V
  rw [← h3] at h6
  have h7 := congrArg (B ^ k * ·) h6
  simp only [Nat.mul_add] at h7
  have h8 : V * B ^ k * q = B ^ k * (V * q) := by simp only [Nat.mul_assoc, Nat.mul_comm, Nat.mul_left_comm]
  rw [h8]
  omega
theorem round0 {us : List Nat} {k np V W g X : Nat} (hus : Digs us) (hk : k + np ≤ us.length) (hW : W = val (part us k np)) (hV0 : 0 < V) (hWM : W < B ^ np) (hVM : V ≤ B ^ np) (hz : val (us.drop (k + np)) = 0) (hWg : W / V ≤ g) (hgW : g ≤ W / V + 1) (hXB : X < B ^ np) (hX : X + g * V = W) :
    Digs (put us k np X) ∧ (put us k np X).length = us.length ∧ val ((put us k np X).drop k) < V ∧ val (put us k np X) + V * B ^ k * g = val us := by
  obtain ⟨f1, f2⟩ := (rest_of hV0 hWM hVM hWg hgW).2 (by omega)
  obtain ⟨a1, a2, a3, a4, a5⟩ := put_val hus hk hXB
  have hX2 : X = W % V := by omega
  rw [← hW] at a3
  rw [hX2] at a1 a2 a3 a4 ⊢
  obtain ⟨r1, r2⟩ := round_end a1 a2 hV0 f1 hz a3 a4
  exact ⟨a1, a2, r1, r2⟩
theorem round1 {us : List Nat} {k np V W g X : Nat} (hus : Digs us) (hk : k + np ≤ us.length) (hW : W = val (part us k np)) (hV0 : 0 < V) (hWM : W < B ^ np) (hVM : V ≤ B ^ np) (hz : val (us.drop (k + np)) = 0) (hWg : W / V ≤ g) (hgW : g ≤ W / V + 1) (hXB : X < B ^ np) (hX : X + g * V = W + B ^ np) :
    1 ≤ g ∧ Digs (put us k np X) ∧ (put us k np X).length = us.length ∧ ∀ Y, Y = (val (part (put us k np X) k np) + V) % B ^ np → Digs (put (put us k np X) k np Y) ∧ (put (put us k np X) k np Y).length = us.length ∧ val ((put (put us k np X) k np Y).drop k) < V ∧ val (put (put us k np X) k np Y) + V * B ^ k * (g - 1) = val us := by
  have hWV : W < g * V := by omega
  obtain ⟨f1, f2⟩ := (rest_of hV0 hWM hVM hWg hgW).1 hWV
  obtain ⟨a1, a2, a3, a4, a5⟩ := put_val hus hk hXB
  have hX2 : W + B ^ np - g * V = X := by omega
  rw [hX2] at f2
  have hg0 : 1 ≤ g := by
    rcases Nat.eq_zero_or_pos g with h | h
    · rw [h, Nat.zero_mul] at hWV; omega
    · exact h
  refine ⟨hg0, a1, a2, ?_⟩
  rintro Y hY
  rw [a5, val_dig np _ hXB, f2] at hY
  have hYB : Y < B ^ np := by rw [hY]; exact Nat.lt_of_lt_of_le (Nat.mod_lt _ hV0) hVM
  obtain ⟨b1, b2, b3, b4, b5⟩ := put_val a1 (by omega : k + np ≤ (put us k np X).length) hYB
  have hdr2 : (put us k np X).drop (k + np) = us.drop (k + np) := by
    unfold put
    have : ∀ (P Q : List Nat), P.length = k + np → (P ++ Q).drop (k + np) = Q := fun P Q h => by rw [← h, List.drop_left]
    exact this _ _ (by rw [List.length_append, dig_len, List.length_take, Nat.min_eq_left (by omega)])
  rw [hdr2] at b4
  rw [a5, val_dig np _ hXB] at b3
  rw [← hW] at a3
  rw [hY] at b1 b2 b3 b4 ⊢
  obtain ⟨r1, r2⟩ := round_end b1 (by omega) hV0 f1 hz (by
    generalize B ^ k * X = z at *
    omega) b4
  exact ⟨b1, by omega, r1, r2⟩
end Go.Proofs.Ytdkgkcnllhcamaa.Ae

/-! spec.l1MagDiv: the end of a round of the loop that finds the digits of the quotient. No condition. -/
namespace Go.Proofs.Ytdkgkcnllhcamaa.Ae
open Go Go.RowKit Go.Proofs.Ytdkgkcnllhcamaa.Dig

def sDvS (s n : Nat) (vs us qs : List Nat) (k : Nat) : St := ⟨[.any, .any, .any, .any, .any, .any, .dat (.lit (.int .u64 s)), .dat (.lit (.int .i64 n)), .row 60, .row 63, .row 69, .dat (.lit (.int .i64 ((k : Int) - 1))), .any, .any, .any, .any, .any, .any, .any, .any, .any, .any, .any, .any, .any, .any, .any, .any, .any, .any, .any, .any, .any, .any, .any, .any, .any, .any, .any, .any, .any, .any, .any, .any, .any, .any, .any, .any, .any, .any, .any, .any, .any, .any, .any, .any, .any, .any, .any, .any, .any, .any, .any, .any, .any, .any, .any, .any, .any, .any, .any, .any, .any, .any, .any, .any, .any, .any, .any, .any, .any, .any, .any, .any, .any, .any, .any, .any, .any, .any, .any, .any, .any, .any, .any, .any, .any, .any, .any, .any, .any, .any, .any, .any, .any, .any, .any, .any, .any, .any, .any, .any, .any, .any, .any, .any, .any, .any, .any, .any, .any, .any, .any, .any, .any, .any, .any, .any, .any, .any, .any, .any, .any, .any, .any, .any, .any, .any, .any, .any, .any, .any, .any, .any, .any, .any, .any, .any, .any, .any, .any, .any, .any, .any, .any, .any, .any, .any, .any, .any, .any, .any, .any, .any, .any, .any, .any, .any, .any, .any, .any, .any, .any, .any, .any, .any, .any, .any, .any, .any, .any, .any, .any, .any, .any, .any, .any, .any, .any, .any, .any, .any, .any, .any, .any, .any, .any, .any, .any, .any, .any, .any, .any, .any, .any, .any, .any, .any, .any, .any, .any, .any, .any, .any, .any, .any, .any, .any, .any, .any, .any, .any, .any, .any, .any, .any, .any, .any, .any, .any, .any, .any, .any, .any, .any, .any, .any, .any, .any, .any, .any, .any, .any, .any, .any, .any, .any, .any, .any, .any, .any, .any, .any, .any, .any, .any, .any, .any, .any, .any, .any, .any, .any, .any, .any, .any, .any, .any, .any, .any, .any, .any, .any, .any, .any, .any, .any, .any, .any, .any, .any, .any, .any, .any, .any, .any, .any, .any, .any, .any, .any, .any, .any, .any, .any, .any, .any, .any, .any, .any, .any], [none, none, none, none, none, none, none, none, none, none, none, none, none, none, none, none, none, none, none, none, none, none, none, none, none, none, none, none, none, none, none, none, none, none, none, none, none, none, none, none, none, none, none, none, none, none, none, none, none, none, none, none, none, none, none, none, none, none, none, none, some (.row 1 86 (vs.map dg)), none, none, some (.row 1 86 (us.map dg)), none, none, none, none, none, some (.row 1 86 (List.replicate k z32 ++ qs.map dg)), none, none, none, none, none, none, none, none, none, none, none, none, none, none, none, none, none, none, none, none, none, none, none, none, none, none, none, none, none, none, none, none, none, none, none, none, none, none, none, none, none, none, none, none, none, none, none, none, none, none, none, none, none, none, none, none, none, none, none, none, none, none, none, none, none, none, none, none, none, none, none, none, none, none, none, none, none, none, none, none, none, none, none, none, none, none, none, none, none, none, none, none, none, none, none, none, none, none, none, none, none, none, none, none, none, none, none, none, none, none, none, none, none, none, none, none, none, none, none, none, none, none, none, none, none, none, none, none, none, none, none, none, none, none, none, none, none, none, none, none, none, none, none, none, none, none, none, none, none, none, none, none, none, none, none, none, none, none, none, none, none, none, none, none, none, none, none, none, none, none, none, none, none, none, none, none, none, none, none, none, none, none, none, none, none, none, none, none, none, none, none, none, none, none, none, none, none, none, none, none, none, none, none, none, none, none, none, none, none, none, none, none, none, none, none, none, none, none, none, none, none, none, none, none, none, none, none, none, none, none, none]⟩
def sDv4 (s n : Nat) (vs us qs : List Nat) (k g r m : Nat) : St := ⟨[.any, .any, .any, .any, .any, .any, .dat (.lit (.int .u64 s)), .dat (.lit (.int .i64 n)), .row 60, .row 63, .row 69, .dat (.lit (.int .i64 k)), .any, .dat (.lit (.int .u64 g)), .dat (.lit (.int .u64 r)), .dat (.lit (.int .i64 m)), .any, .any, .any, .any, .any, .any, .any, .any, .any, .any, .any, .any, .any, .any, .any, .any, .any, .any, .any, .any, .any, .any, .any, .any, .any, .any, .any, .any, .any, .any, .any, .any, .any, .any, .any, .any, .any, .any, .any, .any, .any, .any, .any, .any, .any, .any, .any, .any, .any, .any, .any, .any, .any, .any, .any, .any, .any, .any, .any, .any, .any, .any, .any, .any, .any, .any, .any, .any, .any, .any, .any, .any, .any, .any, .any, .any, .any, .any, .any, .any, .any, .any, .any, .any, .any, .any, .any, .any, .any, .any, .any, .any, .any, .any, .any, .any, .any, .any, .any, .any, .any, .any, .any, .any, .any, .any, .any, .any, .any, .any, .any, .any, .any, .any, .any, .any, .any, .any, .any, .any, .any, .any, .any, .any, .any, .any, .any, .any, .any, .any, .any, .any, .any, .any, .any, .any, .any, .any, .any, .any, .any, .any, .any, .any, .any, .any, .any, .any, .any, .any, .any, .any, .any, .any, .any, .any, .any, .any, .any, .any, .any, .any, .any, .any, .any, .any, .any, .any, .any, .any, .any, .any, .any, .any, .any, .any, .any, .any, .any, .any, .any, .any, .any, .any, .any, .any, .any, .any, .any, .any, .any, .any, .any, .any, .any, .any, .any, .any, .any, .any, .any, .any, .any, .any, .any, .any, .any, .any, .any, .any, .any, .any, .any, .any, .any, .any, .any, .any, .any, .any, .any, .any, .any, .any, .any, .any, .any, .any, .any, .any, .any, .any, .any, .any, .any, .any, .any, .any, .any, .any, .any, .any, .any, .any, .any, .any, .any, .any, .any, .any, .any, .any, .any, .any, .any, .any, .any, .any, .any, .any, .any, .any, .any, .any, .any, .any, .any, .any, .any, .any, .any, .any, .any, .any, .any, .any, .any, .any, .any, .any, .any, .any, .any, .any, .any], [none, none, none, none, none, none, none, none, none, none, none, none, none, none, none, none, none, none, none, none, none, none, none, none, none, none, none, none, none, none, none, none, none, none, none, none, none, none, none, none, none, none, none, none, none, none, none, none, none, none, none, none, none, none, none, none, none, none, none, none, some (.row 1 86 (vs.map dg)), none, none, some (.row 1 86 (us.map dg)), none, none, none, none, none, some (.row 1 86 (List.replicate (k + 1) z32 ++ qs.map dg)), none, none, none, none, none, none, none, none, none, none, none, none, none, none, none, none, none, none, none, none, none, none, none, none, none, none, none, none, none, none, none, none, none, none, none, none, none, none, none, none, none, none, none, none, none, none, none, none, none, none, none, none, none, none, none, none, none, none, none, none, none, none, none, none, none, none, none, none, none, none, none, none, none, none, none, none, none, none, none, none, none, none, none, none, none, none, none, none, none, none, none, none, none, none, none, none, none, none, none, none, none, none, none, none, none, none, none, none, none, none, none, none, none, none, none, none, none, none, none, none, none, none, none, none, none, none, none, none, none, none, none, none, none, none, none, none, none, none, none, none, none, none, none, none, none, none, none, none, none, none, none, none, none, none, none, none, none, none, none, none, none, none, none, none, none, none, none, none, none, none, none, none, none, none, none, none, none, none, none, none, none, none, none, none, none, none, none, none, none, none, none, none, none, none, none, none, none, none, none, none, none, none, none, none, none, none, none, none, none, none, none, none, none, none, none, none, none, none, none, none, none, none, none, none, none, none, none, none, none, none, none]⟩

end Go.Proofs.Ytdkgkcnllhcamaa.Ae

/-! spec.l1MagDiv: the loop that finds the digits of the quotient. No condition. -/
namespace Go.Proofs.Ytdkgkcnllhcamaa.Ae
open Go Go.RowKit Go.Proofs.Ytdkgkcnllhcamaa.Dig


end Go.Proofs.Ytdkgkcnllhcamaa.Ae

/-! spec.l1MagDiv: behind the loop: the rest is shifted back. No condition. -/
namespace Go.Proofs.Ytdkgkcnllhcamaa.Ae
open Go Go.RowKit Go.Proofs.Ytdkgkcnllhcamaa.Dig

theorem digs_getD : ∀ (ds : List Nat) (i : Nat), Digs ds → ds.getD i 0 = val ds / B ^ i % B
  | [], i, _ => by simp [val]
  | x :: xs, 0, h => by
    have := h.head
    simp only [val, List.getD_cons_zero, Nat.pow_zero, Nat.div_one, Nat.add_mul_mod_self_left]
    exact (Nat.mod_eq_of_lt this).symm
  | x :: xs, i + 1, h => by
    have h1 := h.head
    have h2 := digs_getD xs i h.tail
    rw [List.getD_cons_succ, h2, val, Nat.pow_succ, Nat.mul_comm (B ^ i) B, ← Nat.div_div_eq_div_mul, Nat.add_mul_div_left _ _ B_pos, Nat.div_eq_of_lt h1, Nat.zero_add]
theorem or_shift (x y s : Nat) (hx : x < B) (hs : s < 32) : x / 2 ^ s ||| (y * 2 ^ (32 - s)) % B = (y * B + x) / 2 ^ s % B := by
  have hB : B = 2 ^ (32 - s) * 2 ^ s := by
    rw [← Nat.pow_add]
    have : 32 - s + s = 32 := by omega
    rw [this]; rfl
  have hp : 0 < 2 ^ s := Nat.pow_pos (by decide)
  have h1 : x / 2 ^ s < 2 ^ (32 - s) := by rw [Nat.div_lt_iff_lt_mul hp, ← hB]; exact hx
  have h2 : (y * 2 ^ (32 - s)) % B = 2 ^ (32 - s) * (y % 2 ^ s) := by rw [hB, Nat.mul_comm y, Nat.mul_mod_mul_left]
  have h3 : (y * B + x) / 2 ^ s = y * 2 ^ (32 - s) + x / 2 ^ s := by
    rw [hB, ← Nat.mul_assoc, Nat.add_comm, Nat.mul_comm _ (2 ^ s), Nat.add_mul_div_left _ _ hp, Nat.add_comm]
  rw [h2, h3, Nat.or_comm, ← Nat.two_pow_add_eq_or_of_lt h1]
  have h4 : y % 2 ^ s < 2 ^ s := Nat.mod_lt _ hp
  have h5 : 2 ^ (32 - s) * (y % 2 ^ s) + x / 2 ^ s < B := by
    have : 2 ^ (32 - s) * (y % 2 ^ s + 1) ≤ 2 ^ (32 - s) * 2 ^ s := Nat.mul_le_mul_left _ h4
    rw [← hB, Nat.mul_add, Nat.mul_one] at this
    omega
  rw [Nat.add_mod, h2, Nat.mod_eq_of_lt (Nat.lt_of_le_of_lt (Nat.le_add_left _ _) h5), Nat.mod_eq_of_lt h5]

def sDvE (s n : Nat) (vs us qs : List Nat) : St := ⟨[.any, .any, .any, .any, .any, .any, .dat (.lit (.int .u64 s)), .dat (.lit (.int .i64 n)), .row 60, .row 63, .row 69, .dat (.lit (.int .i64 (-1))), .any, .any, .any, .any, .any, .any, .any, .any, .any, .any, .any, .any, .any, .any, .any, .any, .any, .any, .any, .any, .any, .any, .any, .any, .any, .any, .any, .any, .any, .any, .any, .any, .any, .any, .any, .any, .any, .any, .any, .any, .any, .any, .any, .any, .any, .any, .any, .any, .any, .any, .any, .any, .any, .any, .any, .any, .any, .any, .any, .any, .any, .any, .dat (.lit (.int .i64 (-1))), .dat (.lit (.bool false)), .any, .any, .any, .any, .any, .any, .any, .any, .any, .any, .any, .any, .any, .any, .any, .any, .any, .any, .any, .any, .any, .any, .any, .any, .any, .any, .any, .any, .any, .any, .any, .any, .any, .any, .any, .any, .any, .any, .any, .any, .any, .any, .any, .any, .any, .any, .any, .any, .any, .any, .any, .any, .any, .any, .any, .any, .any, .any, .any, .any, .any, .any, .any, .any, .any, .any, .any, .any, .any, .any, .any, .any, .any, .any, .any, .any, .any, .any, .any, .any, .any, .any, .any, .any, .any, .any, .any, .any, .any, .any, .any, .any, .any, .any, .any, .any, .any, .any, .any, .any, .any, .any, .any, .any, .any, .any, .any, .any, .any, .any, .any, .any, .any, .any, .any, .any, .any, .any, .any, .any, .any, .any, .any, .any, .any, .any, .any, .any, .any, .any, .any, .any, .any, .any, .any, .any, .any, .any, .any, .any, .any, .any, .any, .any, .any, .any, .any, .any, .any, .any, .any, .any, .any, .any, .any, .any, .any, .any, .any, .any, .any, .any, .any, .any, .any, .any, .any, .any, .any, .any, .any, .any, .any, .any, .any, .any, .any, .any, .any, .any, .any, .any, .any, .any, .any, .any, .any, .any, .any, .any, .any, .any, .any, .any, .any, .any, .any, .any, .any, .any, .any, .any, .any, .any, .any, .any, .any, .any, .any, .any, .any, .any, .any, .any, .any, .any, .any, .any, .any, .any, .any, .any, .any, .any, .any], [none, none, none, none, none, none, none, none, none, none, none, none, none, none, none, none, none, none, none, none, none, none, none, none, none, none, none, none, none, none, none, none, none, none, none, none, none, none, none, none, none, none, none, none, none, none, none, none, none, none, none, none, none, none, none, none, none, none, none, none, some (.row 1 86 (vs.map dg)), none, none, some (.row 1 86 (us.map dg)), none, none, none, none, none, some (.row 1 86 (qs.map dg)), none, none, none, none, none, none, none, none, none, none, none, none, none, none, none, none, none, none, none, none, none, none, none, none, none, none, none, none, none, none, none, none, none, none, none, none, none, none, none, none, none, none, none, none, none, none, none, none, none, none, none, none, none, none, none, none, none, none, none, none, none, none, none, none, none, none, none, none, none, none, none, none, none, none, none, none, none, none, none, none, none, none, none, none, none, none, none, none, none, none, none, none, none, none, none, none, none, none, none, none, none, none, none, none, none, none, none, none, none, none, none, none, none, none, none, none, none, none, none, none, none, none, none, none, none, none, none, none, none, none, none, none, none, none, none, none, none, none, none, none, none, none, none, none, none, none, none, none, none, none, none, none, none, none, none, none, none, none, none, none, none, none, none, none, none, none, none, none, none, none, none, none, none, none, none, none, none, none, none, none, none, none, none, none, none, none, none, none, none, none, none, none, none, none, none, none, none, none, none, none, none, none, none, none, none, none, none, none, none, none, none, none, none, none, none, none, none, none, none, none, none, none, none, none, none, none, none, none, none, none, none]⟩
def sDvR (s n : Nat) (vs us qs os : List Nat) (k : Nat) : St := ⟨[.any, .any, .any, .any, .any, .any, .dat (.lit (.int .u64 s)), .dat (.lit (.int .i64 n)), .any, .row 63, .row 69, .any, .any, .any, .any, .any, .any, .any, .any, .any, .any, .any, .any, .any, .any, .row 264, .dat (.lit (.int .i64 os.length)), .any, .any, .any, .any, .any, .any, .any, .any, .any, .any, .any, .any, .any, .any, .any, .any, .any, .any, .any, .any, .any, .any, .any, .any, .any, .any, .any, .any, .any, .any, .any, .any, .any, .any, .any, .any, .any, .any, .any, .any, .any, .any, .any, .any, .any, .any, .any, .any, .any, .any, .any, .any, .any, .any, .any, .any, .any, .any, .any, .any, .any, .any, .any, .any, .any, .any, .any, .any, .any, .any, .any, .any, .any, .any, .any, .any, .any, .any, .any, .any, .any, .any, .any, .any, .any, .any, .any, .any, .any, .any, .any, .any, .any, .any, .any, .any, .any, .any, .any, .any, .any, .any, .any, .any, .any, .any, .any, .any, .any, .any, .any, .any, .any, .any, .any, .any, .any, .any, .any, .any, .any, .any, .any, .any, .any, .any, .any, .any, .any, .any, .any, .any, .any, .any, .any, .any, .any, .any, .any, .any, .any, .any, .any, .any, .any, .any, .any, .any, .any, .any, .any, .any, .any, .any, .any, .any, .any, .any, .any, .any, .any, .any, .any, .any, .any, .any, .any, .any, .any, .any, .any, .any, .any, .any, .any, .any, .any, .any, .any, .any, .any, .any, .any, .any, .any, .any, .any, .any, .any, .any, .any, .any, .any, .any, .any, .any, .any, .any, .any, .any, .any, .any, .any, .any, .any, .any, .any, .any, .any, .any, .any, .any, .any, .any, .any, .any, .any, .any, .any, .any, .any, .any, .any, .any, .any, .any, .any, .any, .any, .any, .any, .any, .any, .any, .any, .any, .any, .any, .any, .any, .any, .any, .any, .any, .any, .any, .any, .any, .any, .any, .any, .any, .any, .any, .any, .any, .any, .any, .any, .any, .any, .any, .any, .any, .any, .any, .any, .any, .any, .any, .any, .any, .any, .any], [none, none, none, none, none, none, none, none, none, none, none, none, none, none, none, none, none, none, none, none, none, none, none, none, none, none, none, none, none, none, none, none, none, none, none, none, none, none, none, none, none, none, none, none, none, none, none, none, none, none, none, none, none, none, none, none, none, none, none, none, some (.row 1 86 (vs.map dg)), none, none, some (.row 1 86 (us.map dg)), none, none, none, none, none, some (.row 1 86 (qs.map dg)), none, none, none, none, none, none, none, none, none, none, none, none, none, none, none, none, none, none, none, none, none, none, none, none, none, none, none, none, none, none, none, none, none, none, none, none, none, none, none, none, none, none, none, none, none, none, none, none, none, none, none, none, none, none, none, none, none, none, none, none, none, none, none, none, none, none, none, none, none, none, none, none, none, none, none, none, none, none, none, none, none, none, none, none, none, none, none, none, none, none, none, none, none, none, none, none, none, none, none, none, none, none, none, none, none, none, none, none, none, none, none, none, none, none, none, none, none, none, none, none, none, none, none, none, none, none, none, none, none, none, none, none, none, none, none, none, none, none, none, none, none, none, none, none, none, none, none, none, none, none, none, none, none, none, none, none, none, none, none, none, none, none, none, none, none, none, none, none, none, none, none, none, none, none, none, none, none, none, none, none, none, none, none, none, none, none, none, none, none, none, none, none, none, none, some (.row 1 86 (os.map dg ++ List.replicate k z32)), none, none, none, none, none, none, none, none, none, none, none, none, none, none, none, none, none, none, none, none, none, none, none, none, none, none, none, none, none, none, none, none, none, none, none, none]⟩

end Go.Proofs.Ytdkgkcnllhcamaa.Ae

/-! spec.l1MagDiv: behind the first loop. No condition. -/
namespace Go.Proofs.Ytdkgkcnllhcamaa.Ae
open Go Go.RowKit Go.Proofs.Ytdkgkcnllhcamaa.Dig
variable {N : NR}

/-- The shift that makes the first digit great. -/
theorem shift_is {bt s : Nat} (h0 : bt ≠ 0) (h1 : 2147483648 ≤ bt * 2 ^ s) (h2 : bt * 2 ^ s < 4294967296) (hs : s ≤ 31) : s = 32 - bl bt := by
  have h3 := bl_lt (x := bt)
  have h4 := bl_ge h0
  have h5 : 1 ≤ bl bt := by unfold bl; rw [if_neg h0]; omega
  have h6 : bt * 2 ^ s < 2 ^ (bl bt + s) := by rw [Nat.pow_add]; exact Nat.mul_lt_mul_of_pos_right h3 (Nat.pow_pos (by decide))
  have h7 : 2 ^ (bl bt - 1 + s) ≤ bt * 2 ^ s := by rw [Nat.pow_add]; exact Nat.mul_le_mul_right _ h4
  have h8 : 2 ^ 31 < 2 ^ (bl bt + s) := Nat.lt_of_le_of_lt h1 h6
  have h9 : 2 ^ (bl bt - 1 + s) < 2 ^ 32 := Nat.lt_of_le_of_lt h7 h2
  have h10 := (Nat.pow_lt_pow_iff_right (by decide : 1 < 2)).1 h8
  have h11 := (Nat.pow_lt_pow_iff_right (by decide : 1 < 2)).1 h9
  omega
def sDv1 (a b s : Nat) : St := ⟨[.dat (.sl 1 ((mag a).map dg)), .dat (.sl 1 ((mag b).map dg)), .any, .any, .any, .any, .dat (.lit (.int .u64 s)), .any, .any, .any, .any, .any, .any, .any, .any, .any, .any, .any, .any, .any, .any, .any, .any, .any, .any, .any, .any, .any, .any, .any, .any, .any, .any, .any, .any, .any, .any, .any, .any, .any, .any, .any, .any, .any, .any, .any, .any, .any, .any, .any, .any, .any, .any, .any, .any, .any, .any, .any, .any, .any, .any, .any, .any, .any, .any, .any, .any, .any, .any, .any, .any, .any, .any, .any, .any, .any, .any, .any, .any, .any, .any, .any, .any, .any, .any, .any, .any, .any, .any, .any, .any, .any, .any, .any, .any, .any, .any, .any, .any, .any, .any, .any, .any, .any, .any, .any, .any, .any, .any, .any, .any, .any, .any, .any, .any, .any, .any, .any, .any, .any, .any, .any, .any, .any, .any, .any, .any, .any, .any, .any, .any, .any, .any, .any, .any, .any, .any, .any, .any, .any, .any, .any, .any, .any, .any, .any, .any, .any, .any, .any, .any, .any, .any, .any, .any, .any, .any, .any, .any, .any, .any, .any, .any, .any, .any, .any, .any, .any, .any, .any, .any, .any, .any, .any, .any, .any, .any, .any, .any, .any, .any, .any, .any, .any, .any, .any, .any, .any, .any, .any, .any, .any, .any, .any, .any, .any, .any, .any, .any, .any, .any, .any, .any, .any, .any, .any, .any, .any, .any, .any, .any, .any, .any, .any, .any, .any, .any, .any, .any, .any, .any, .any, .any, .any, .any, .any, .any, .any, .any, .any, .any, .any, .any, .any, .any, .any, .any, .any, .any, .any, .any, .any, .any, .any, .any, .any, .any, .any, .any, .any, .any, .any, .any, .any, .any, .any, .any, .any, .any, .any, .any, .any, .any, .any, .any, .any, .any, .any, .any, .any, .any, .any, .any, .any, .any, .any, .any, .any, .any, .any, .any, .any, .any, .any, .any, .any, .any, .any, .any, .any, .any, .any, .any, .any, .any, .any, .any, .any, .any, .any, .any], [none, none, none, none, none, none, none, none, none, none, none, none, none, none, none, none, none, none, none, none, none, none, none, none, none, none, none, none, none, none, none, none, none, none, none, none, none, none, none, none, none, none, none, none, none, none, none, none, none, none, none, none, none, none, none, none, none, none, none, none, none, none, none, none, none, none, none, none, none, none, none, none, none, none, none, none, none, none, none, none, none, none, none, none, none, none, none, none, none, none, none, none, none, none, none, none, none, none, none, none, none, none, none, none, none, none, none, none, none, none, none, none, none, none, none, none, none, none, none, none, none, none, none, none, none, none, none, none, none, none, none, none, none, none, none, none, none, none, none, none, none, none, none, none, none, none, none, none, none, none, none, none, none, none, none, none, none, none, none, none, none, none, none, none, none, none, none, none, none, none, none, none, none, none, none, none, none, none, none, none, none, none, none, none, none, none, none, none, none, none, none, none, none, none, none, none, none, none, none, none, none, none, none, none, none, none, none, none, none, none, none, none, none, none, none, none, none, none, none, none, none, none, none, none, none, none, none, none, none, none, none, none, none, none, none, none, none, none, none, none, none, none, none, none, none, none, none, none, none, none, none, none, none, none, none, none, none, none, none, none, none, none, none, none, none, none, none, none, none, none, none, none, none, none, none, none, none, none, none, none, none, none, none, none, none, none, none, none, none, none, none, none, none, none, none, none, none, none, none, none, none]⟩
theorem top_ne {b n bt : Nat} (hn : (mag b).length = n + 1) (hbt : bt = (mag b).getD n 0) : bt ≠ 0 := by
  have h1 : (mag b).getLast? = some bt := by
    rw [List.getLast?_eq_getElem?, hn, Nat.add_sub_cancel, hbt, List.getD_eq_getElem?_getD, List.getElem?_eq_getElem (by omega)]; rfl
  exact mag_last b bt h1
/-- The dividend's first part is less than the divisor. -/
theorem start_lt {U V la n1 k0 sh top : Nat} {us : List Nat} (hus : Digs us) (hvU : val us = U) (hul : us.length = la + 1) (hk : k0 + n1 = la) (hVl : (mag V).length = n1 + 1) (htop : top = (mag V).getD n1 0) (hVt : 2147483648 ≤ top) (hUlt : U < B ^ la * 2 ^ sh) (h2s : 2 ^ sh ≤ 2 ^ 31) : val (us.drop k0) < V := by
  obtain ⟨ut, hut⟩ : ∃ ut, ut = us.getD la 0 := ⟨_, rfl⟩
  have h1 := val_top1 hul
  rw [hvU, ← hut] at h1
  have hut2 : ut < 2 ^ sh := by
    have h2 : B ^ la * ut < B ^ la * 2 ^ sh := by omega
    exact Nat.lt_of_mul_lt_mul_left h2
  have hdl : (us.drop k0).length = n1 + 1 := by rw [List.length_drop]; omega
  have h3 := val_top1 hdl
  have h4 : (us.drop k0).getD n1 0 = ut := by
    rw [hut, List.getD_eq_getElem?_getD, List.getElem?_drop, List.getD_eq_getElem?_getD]
    congr 2
  rw [h4] at h3
  have h5 := val_lt ((hus.drop k0).take n1)
  rw [List.length_take, Nat.min_eq_left (by omega)] at h5
  have h6 := val_top1 hVl
  rw [val_mag, ← htop] at h6
  have h7 : B ^ n1 * (ut + 1) ≤ B ^ n1 * top := Nat.mul_le_mul_left _ (by omega)
  rw [Nat.mul_add, Nat.mul_one] at h7
  generalize B ^ n1 * ut = z1 at *
  generalize B ^ n1 * top = z2 at *
  generalize B ^ n1 = z3 at *
  omega

def sDv1e (a b s n n1 bt y : Nat) : St := ⟨[.dat (.sl 1 ((mag a).map dg)), .dat (.sl 1 ((mag b).map dg)), .any, .any, .any, .any, .dat (.lit (.int .u64 s)), .any, .any, .any, .any, .any, .any, .any, .any, .any, .any, .any, .any, .any, .any, .any, .any, .any, .any, .any, .any, .any, .any, .any, .any, .any, .any, .any, .any, .any, .any, .any, .any, .any, .any, .any, .any, .any, .any, .dat (.sl 1 ((mag b).map dg)), .dat (.sl 1 ((mag b).map dg)), .dat (.lit (.int .i64 n)), .dat (.lit (.int .i64 n1)), .dat (.ptr (.lit (.int .u32 bt))), .dat (.lit (.int .u32 bt)), .dat (.lit (.int .u64 s)), .dat (.lit (.int .u32 y)), .dat (.lit (.bool false)), .any, .any, .any, .any, .any, .any, .any, .any, .any, .any, .any, .any, .any, .any, .any, .any, .any, .any, .any, .any, .any, .any, .any, .any, .any, .any, .any, .any, .any, .any, .any, .any, .any, .any, .any, .any, .any, .any, .any, .any, .any, .any, .any, .any, .any, .any, .any, .any, .any, .any, .any, .any, .any, .any, .any, .any, .any, .any, .any, .any, .any, .any, .any, .any, .any, .any, .any, .any, .any, .any, .any, .any, .any, .any, .any, .any, .any, .any, .any, .any, .any, .any, .any, .any, .any, .any, .any, .any, .any, .any, .any, .any, .any, .any, .any, .any, .any, .any, .any, .any, .any, .any, .any, .any, .any, .any, .any, .any, .any, .any, .any, .any, .any, .any, .any, .any, .any, .any, .any, .any, .any, .any, .any, .any, .any, .any, .any, .any, .any, .any, .any, .any, .any, .any, .any, .any, .any, .any, .any, .any, .any, .any, .any, .any, .any, .any, .any, .any, .any, .any, .any, .any, .any, .any, .any, .any, .any, .any, .any, .any, .any, .any, .any, .any, .any, .any, .any, .any, .any, .any, .any, .any, .any, .any, .any, .any, .any, .any, .any, .any, .any, .any, .any, .any, .any, .any, .any, .any, .any, .any, .any, .any, .any, .any, .any, .any, .any, .any, .any, .any, .any, .any, .any, .any, .any, .any, .any, .any, .any, .any, .any, .any, .any, .any, .any, .any, .any, .any, .any, .any, .any, .any, .any, .any, .any, .any, .any, .any, .any, .any, .any, .any, .any, .any, .any, .any, .any, .any, .any, .any, .any, .any, .any, .any, .any, .any, .any], [none, none, none, none, none, none, none, none, none, none, none, none, none, none, none, none, none, none, none, none, none, none, none, none, none, none, none, none, none, none, none, none, none, none, none, none, none, none, none, none, none, none, none, none, none, none, none, none, none, none, none, none, none, none, none, none, none, none, none, none, none, none, none, none, none, none, none, none, none, none, none, none, none, none, none, none, none, none, none, none, none, none, none, none, none, none, none, none, none, none, none, none, none, none, none, none, none, none, none, none, none, none, none, none, none, none, none, none, none, none, none, none, none, none, none, none, none, none, none, none, none, none, none, none, none, none, none, none, none, none, none, none, none, none, none, none, none, none, none, none, none, none, none, none, none, none, none, none, none, none, none, none, none, none, none, none, none, none, none, none, none, none, none, none, none, none, none, none, none, none, none, none, none, none, none, none, none, none, none, none, none, none, none, none, none, none, none, none, none, none, none, none, none, none, none, none, none, none, none, none, none, none, none, none, none, none, none, none, none, none, none, none, none, none, none, none, none, none, none, none, none, none, none, none, none, none, none, none, none, none, none, none, none, none, none, none, none, none, none, none, none, none, none, none, none, none, none, none, none, none, none, none, none, none, none, none, none, none, none, none, none, none, none, none, none, none, none, none, none, none, none, none, none, none, none, none, none, none, none, none, none, none, none, none, none, none, none, none, none, none, none, none, none, none, none, none, none, none, none, none, none]⟩
end Go.Proofs.Ytdkgkcnllhcamaa.Ae

/-! spec.l1MagDiv: quotient and rest of digits. No condition. -/
namespace Go.Proofs.Ytdkgkcnllhcamaa.Ae
open Go Go.RowKit Go.Proofs.Ytdkgkcnllhcamaa.Dig
variable {N : NR}

end Go.Proofs.Ytdkgkcnllhcamaa.Ae

/-! spec: whole numbers of any size. No condition. -/
namespace Go.Proofs.Ytdkgkcnllhcamaa.Ae
open Go Go.RowKit Go.Proofs.Ytdkgkcnllhcamaa.Dig
variable {N : NR}

@[simp] theorem range1 : List.range 1 = [0] := rfl
@[simp] theorem range2 : List.range 2 = [0, 1] := rfl
@[simp] theorem range3 : List.range 3 = [0, 1, 2] := rfl
@[simp] theorem range4 : List.range 4 = [0, 1, 2, 3] := rfl
@[simp] theorem cells_z : (Value.agg #[Value.bool false, Value.slice none 0 0]).cells.size = 2 := by rfl
@[simp] theorem cells_q : (Value.agg #[Value.int .i64 0, Value.int .i64 0]).cells.size = 2 := by rfl
@[simp] theorem cells_r : (Value.agg #[Value.int .i64 0, Value.int .i64 0, Value.slice none 0 0]).cells.size = 3 := by rfl
theorem Sub.agg2 {a b a' b' : D} (ha : Sub a a') (hb : Sub b b') : Sub (.agg [a, b]) (.agg [a', b']) := Sub.agg rfl (fun i d d' h h' => by
  match i with
  | 0 => simp at h h'; subst h h'; exact ha
  | 1 => simp at h h'; subst h h'; exact hb
  | i + 2 => simp at h)
theorem Sub.agg3 {a b c a' b' c' : D} (ha : Sub a a') (hb : Sub b b') (hc : Sub c c') : Sub (.agg [a, b, c]) (.agg [a', b', c']) := Sub.agg rfl (fun i d d' h h' => by
  match i with
  | 0 => simp at h h'; subst h h'; exact ha
  | 1 => simp at h h'; subst h h'; exact hb
  | 2 => simp at h h'; subst h h'; exact hc
  | i + 3 => simp at h)
@[simp] theorem sub_z0 : Sub (.agg [.lit (.bool false), .lit (.slice none 0 0)]) (.agg [.lit (.bool false), .sl 1 []]) = True := by
  simp only [eq_iff_iff, iff_true]; exact Sub.agg2 (Sub.refl _) (Sub.nil 1)
/-- A whole number as the code holds it. -/
def eZ (z : Int) : D := .agg [.lit (.bool (decide (z < 0))), eM z.natAbs]
theorem eZ_inj {a b : Int} (h : eZ a = eZ b) : a = b := by
  simp only [eZ, D.agg.injEq, List.cons.injEq, and_true, D.lit.injEq, Value.bool.injEq, decide_eq_decide] at h
  have := eM_inj h.2
  omega
def zE (p : Z1) : List D := [eZ p.a]
theorem zE_inj (p q : Z1) (h : zE p = zE q) : p = q := by
  obtain ⟨a⟩ := p; obtain ⟨c⟩ := q
  simp only [zE, List.cons.injEq, and_true] at h
  rw [eZ_inj h]
structure Z2 where
  a : Int
  b : Int
def zzE (p : Z2) : List D := [eZ p.a, eZ p.b]
theorem zzE_inj (p q : Z2) (h : zzE p = zzE q) : p = q := by
  obtain ⟨a, b⟩ := p; obtain ⟨c, d⟩ := q
  simp only [zzE, List.cons.injEq, and_true] at h
  rw [eZ_inj h.1, eZ_inj h.2]
def SZ (z : Int) : Prop := Sm z.natAbs
theorem mag_len_pos {n : Nat} (h : 0 < n) : 0 < (mag n).length := by
  rcases Nat.eq_zero_or_pos (mag n).length with h1 | h1
  · rw [mag_len_zero] at h1; omega
  · exact h1

/-! spec.l1ZOf -/
noncomputable def zOfC := ctD z1E (fun p => I64 p.a) (fun p => [eZ p.a])
theorem zOfC_at (a : Int) : zOfC [i64D a] = (I64 a, [eZ a]) := ctD_at z1E_inj ⟨a⟩
/-! spec.l1ZNeg -/
noncomputable def zNegC := ctD zE (fun p => SZ p.a) (fun p => [eZ (-p.a)])
theorem zNegC_at (a : Int) : zNegC [eZ a] = (SZ a, [eZ (-a)]) := ctD_at zE_inj ⟨a⟩
/-! spec.l1ZAdd, l1ZSub -/
noncomputable def zAddC := ctD zzE (fun p => SZ p.a ∧ SZ p.b) (fun p => [eZ (p.a + p.b)])
theorem zAddC_at (a b : Int) : zAddC [eZ a, eZ b] = ((SZ a ∧ SZ b), [eZ (a + b)]) := ctD_at zzE_inj ⟨a, b⟩
noncomputable def zSubC := ctD zzE (fun p => SZ p.a ∧ SZ p.b) (fun p => [eZ (p.a - p.b)])
theorem zSubC_at (a b : Int) : zSubC [eZ a, eZ b] = ((SZ a ∧ SZ b), [eZ (a - b)]) := ctD_at zzE_inj ⟨a, b⟩
theorem SZ_neg {a : Int} : SZ (-a) ↔ SZ a := by unfold SZ; rw [Int.natAbs_neg]
@[simp] theorem eZ_size (z : Int) : (eZ z).size = 2 := rfl
@[simp] theorem eZ_agg (z : Int) : (eZ z).isAgg = true := rfl
/-! spec.l1ZMul, l1ZSign, l1ZCmp -/
noncomputable def zMulC := ctD zzE (fun p => SZ p.a ∧ SZ p.b) (fun p => [eZ (p.a * p.b)])
theorem zMulC_at (a b : Int) : zMulC [eZ a, eZ b] = ((SZ a ∧ SZ b), [eZ (a * b)]) := ctD_at zzE_inj ⟨a, b⟩
theorem mul_neg_iff {a b : Int} (ha : a ≠ 0) (hb : b ≠ 0) : a * b < 0 ↔ ((a < 0) ≠ (b < 0)) := by
  rcases Int.lt_trichotomy a 0 with h1 | h1 | h1
  · rcases Int.lt_trichotomy b 0 with h2 | h2 | h2
    · have := Int.mul_pos_of_neg_of_neg h1 h2
      simp [h1, h2]; omega
    · exact absurd h2 hb
    · have := Int.mul_neg_of_neg_of_pos h1 h2
      simp [h1, this]; omega
  · exact absurd h1 ha
  · rcases Int.lt_trichotomy b 0 with h2 | h2 | h2
    · have := Int.mul_neg_of_pos_of_neg h1 h2
      simp [h2, this]; omega
    · exact absurd h2 hb
    · have := Int.mul_pos h1 h2
      have h3 : ¬ a < 0 := by omega
      have h4 : ¬ b < 0 := by omega
      simp [h3, h4]; omega
noncomputable def zSignC := ctD zE (fun p => SZ p.a) (fun p => [i64D p.a.sign])
theorem zSignC_at (a : Int) : zSignC [eZ a] = (SZ a, [i64D a.sign]) := ctD_at zE_inj ⟨a⟩
noncomputable def zCmpC := ctD zzE (fun p => SZ p.a ∧ SZ p.b ∧ SZ (p.a - p.b)) (fun p => [i64D (p.a - p.b).sign])
theorem zCmpC_at (a b : Int) : zCmpC [eZ a, eZ b] = ((SZ a ∧ SZ b ∧ SZ (a - b)), [i64D (a - b).sign]) := ctD_at zzE_inj ⟨a, b⟩
end Go.Proofs.Ytdkgkcnllhcamaa.Ae

/-! spec: greatest common divisors, whole numbers of one word. No condition. -/
namespace Go.Proofs.Ytdkgkcnllhcamaa.Ae
open Go Go.RowKit Go.Proofs.Ytdkgkcnllhcamaa.Dig
variable {N : NR}

/-! spec.l1Gcd -/
def uuE (p : N2) : List D := [u64D p.a, u64D p.b]
theorem uuE_inj (p q : N2) (h : uuE p = uuE q) : p = q := by
  obtain ⟨a, b⟩ := p; obtain ⟨c, d⟩ := q
  simp only [uuE, List.cons.injEq, and_true] at h
  rw [u64D_inj h.1, u64D_inj h.2]
noncomputable def gcdC := ctD uuE (fun p => p.a < 18446744073709551616 ∧ p.b < 18446744073709551616) (fun p => [u64D (Nat.gcd p.a p.b)])
theorem gcdC_at (a b : Nat) : gcdC [u64D a, u64D b] = ((a < 18446744073709551616 ∧ b < 18446744073709551616), [u64D (Nat.gcd a b)]) := ctD_at uuE_inj ⟨a, b⟩
def gcdS (a b : Nat) : St := ⟨[.dat (.lit (.int .u64 a)), .dat (.lit (.int .u64 b)), .any, .any, .any, .any, .any, .any, .any, .any, .any, .any], [none, none, none, none, none, none, none, none, none, none, none, none]⟩
theorem l1Gcd_spec : SpecD N Try.prog 28 gcdC := by
  refine rdD (mf := fun f => false) tbl_nil (fn := Try.f28) (by kernel_rfl) rfl (by kernel_rfl) ?_
  rintro ⟨a, b⟩ ⟨ha, hb⟩
  have ha : a < 18446744073709551616 := ha
  have hb : b < 18446744073709551616 := hb
  refine ⟨by show 2 ≤ 12; decide, ?_⟩
  simp only [uuE, u64D, Try.f28]
  generalize hg : Nat.gcd a b = g
  simp
  refine loop_go (fun n st => ∃ x y : Nat, x < 18446744073709551616 ∧ y < 18446744073709551616 ∧ Nat.gcd x y = g ∧ n = y ∧ st = gcdS x y) (s0 := gcdS a b) (n := b) (snd_of (by simp [LeT, gcdS]) (by simp [gcdS])) ⟨a, b, ha, hb, hg, rfl, rfl⟩ ?_
  rintro y st ⟨x, _, hx, hy, hxy, rfl, rfl⟩ KN hN
  rcases Nat.eq_zero_or_pos y with h0 | h0
  · subst h0
    rw [Nat.gcd_zero_right] at hxy
    subst hxy
    simp [gcdS]
  · have h1 : ¬ y = 0 := by omega
    obtain ⟨r, hr⟩ : ∃ r, r = x % y := ⟨_, rfl⟩
    have hry : r < y := by rw [hr]; exact Nat.mod_lt _ h0
    have q1 := tmod_nat x y
    rw [← hr] at q1
    have q2 : IntKind.u64.wrap (r : Int) = r := by rw [wrap_u64]; omega
    simp [gcdS, h1, q1, q2]
    refine hN _ (nx (m := r) (s'' := gcdS y r) (snd_of (by simp [LeT, gcdS]) (by simp [gcdS])) ⟨y, r, hy, by omega, ?_, rfl, rfl⟩ hry)
    rw [hr, ← hxy, Nat.gcd_comm y, ← Nat.gcd_rec, Nat.gcd_comm]
theorem l1Gcd_ok : callable Try.prog 28 = true := by kernel_rfl

/-! spec.l1Small -/
noncomputable def smallC := ctD z1E (fun p => I64 p.a) (fun p => [.lit (.bool (decide (-2147483648 < p.a ∧ p.a < 2147483648)))])
theorem smallC_at (a : Int) : smallC [i64D a] = (I64 a, [.lit (.bool (decide (-2147483648 < a ∧ a < 2147483648)))]) := ctD_at z1E_inj ⟨a⟩
/-! spec.l1ZGcd -/
noncomputable def zGcdC := ctD zzE (fun p => SZ p.a ∧ SZ p.b) (fun p => [eZ (Int.gcd p.a p.b)])
theorem zGcdC_at (a b : Int) : zGcdC [eZ a, eZ b] = ((SZ a ∧ SZ b), [eZ (Int.gcd a b)]) := ctD_at zzE_inj ⟨a, b⟩
def zGcdS (a b : Int) (x y : Nat) : St := ⟨[.any, .any, .any, .any, .obj 4 [] 0, .dat (eM x), .dat (eM y), .any, .any, .any, .any, .any, .any, .any, .any, .any, .any, .any, .any, .any, .any, .any, .any, .any, .any, .any], [none, none, some (.box (eZ a)), some (.box (eZ b)), some (.box (.agg [.lit (.bool false), .lit (.slice none 0 0)])), none, none, none, none, none, none, none, none, none, none, none, none, none, none, none, none, none, none, none, none, none]⟩
theorem Sm_le {a b : Nat} (h : a ≤ b) (hb : Sm b) : Sm a := Nat.lt_of_le_of_lt (mag_len_le h) hb
/-! spec.l1ZInt -/
structure ZM where
  a : Int
  m : Nat
def zmE (p : ZM) : List D := [eZ p.a, u64D p.m]
theorem zmE_inj (p q : ZM) (h : zmE p = zmE q) : p = q := by
  obtain ⟨a, b⟩ := p; obtain ⟨c, d⟩ := q
  simp only [zmE, List.cons.injEq, and_true] at h
  rw [eZ_inj h.1, u64D_inj h.2]
noncomputable def zIntC := ctD zmE (fun p => SZ p.a ∧ p.m ≤ 9223372036854775807) (fun p => [i64D (if p.a.natAbs ≤ p.m then p.a else 0), .lit (.bool (decide (p.a.natAbs ≤ p.m)))])
theorem zIntC_at (a : Int) (m : Nat) : zIntC [eZ a, u64D m] = ((SZ a ∧ m ≤ 9223372036854775807), [i64D (if a.natAbs ≤ m then a else 0), .lit (.bool (decide (a.natAbs ≤ m)))]) := ctD_at zmE_inj ⟨a, m⟩
def zIntS (a : Int) (m x n : Nat) : St := ⟨[.any, .dat (.lit (.int .u64 m)), .obj 2 [] 0, .any, .any, .any, .dat (.lit (.int .u64 x)), .dat (.lit (.int .i64 ((n : Int) - 1))), .any, .any, .any, .any, .any, .any, .any, .any, .any, .any, .any, .any, .any, .any, .any, .any, .any, .any, .any, .any, .any, .any, .any, .any, .any, .any, .any, .any, .any, .any, .any], [none, none, some (.box (eZ a)), none, none, none, none, none, none, none, none, none, none, none, none, none, none, none, none, none, none, none, none, none, none, none, none, none, none, none, none, none, none, none, none, none, none, none, none]⟩
end Go.Proofs.Ytdkgkcnllhcamaa.Ae

/-! spec: fractions of any size: packed. No condition. -/
namespace Go.Proofs.Ytdkgkcnllhcamaa.Ae
open Go Go.RowKit Go.Proofs.Ytdkgkcnllhcamaa.Dig
variable {N : NR}

/-- A fraction as the reference holds it. -/
inductive SR where
  | small (n d : Int)
  | lit (n d : Int)
  | big (p q : Int)
def SR.num : SR → Int
  | small n _ => n
  | lit n _ => n
  | big p _ => p
def SR.den : SR → Int
  | small _ d => d
  | lit _ d => d
  | big _ q => q
def SR.isBig : SR → Bool
  | big _ _ => true
  | _ => false
def eR : SR → D
  | .small n d => .agg [i64D n, i64D d, .sl 2 []]
  | .lit n d => .agg [i64D n, i64D d, .lit (.slice none 0 0)]
  | .big p q => .agg [i64D 0, i64D 0, .sl 2 [eZ p, eZ q]]
theorem eR_inj : ∀ {a b : SR}, eR a = eR b → a = b
  | .small n d, .small n' d', h => by
    simp only [eR, D.agg.injEq, List.cons.injEq, and_true] at h
    rw [i64D_inj h.1, i64D_inj h.2]
  | .lit n d, .lit n' d', h => by
    simp only [eR, D.agg.injEq, List.cons.injEq, and_true] at h
    rw [i64D_inj h.1, i64D_inj h.2]
  | .big p q, .big p' q', h => by
    simp only [eR, D.agg.injEq, List.cons.injEq, and_true, true_and, D.sl.injEq] at h
    rw [eZ_inj h.1, eZ_inj h.2]
  | .small .., .lit .., h => by simp [eR] at h
  | .small .., .big .., h => by simp [eR] at h
  | .lit .., .small .., h => by simp [eR] at h
  | .lit .., .big .., h => by simp [eR] at h
  | .big .., .small .., h => by simp [eR] at h
  | .big .., .lit .., h => by simp [eR] at h
/-- Of moderate size; the second number above 0. -/
def WR : SR → Prop
  | .small n d => n.natAbs < 2147483648 ∧ 0 < d ∧ d < 2147483648
  | .lit n d => n.natAbs < 2147483648 ∧ 0 < d ∧ d < 2147483648
  | .big p q => SZ p ∧ SZ q ∧ 0 < q
def packR (p q : Int) : SR := if p.natAbs ≤ 2147483647 ∧ q.natAbs ≤ 2147483647 then .small p q else .big p q
theorem Sm_small {n : Nat} (h : n < 18446744073709551616) : Sm n := by
  have h1 : n < B ^ 2 := by simp only [B]; omega
  have := mag_lt.2 h1
  unfold Sm; omega

@[simp] theorem sub_r0 (n d : Int) : Sub (.agg [.lit (.int .i64 n), .lit (.int .i64 d), .lit (.slice none 0 0)]) (.agg [.lit (.int .i64 n), .lit (.int .i64 d), .sl 2 []]) = True := by
  simp only [eq_iff_iff, iff_true]; exact Sub.agg3 (Sub.refl _) (Sub.refl _) (Sub.nil 2)
@[simp] theorem eR_size (r : SR) : (eR r).size = 3 := by cases r <;> rfl
@[simp] theorem eR_isAgg (r : SR) : (eR r).isAgg = true := by cases r <;> rfl

/-! spec.l1rPack -/
noncomputable def packC := ctD zzE (fun p => SZ p.a ∧ SZ p.b) (fun p => [eR (packR p.a p.b)])
theorem packC_at (a b : Int) : packC [eZ a, eZ b] = ((SZ a ∧ SZ b), [eR (packR a b)]) := ctD_at zzE_inj ⟨a, b⟩
/-! spec.l1rOf -/
def ofR (n d : Int) : SR := if (-2147483648 < n ∧ n < 2147483648) ∧ -2147483648 < d ∧ d < 2147483648 then .small n d else packR (n / (Int.gcd n d : Int)) (d / (Int.gcd n d : Int))
theorem eZ_div {n : Int} {g : Nat} (hg : 0 < g) (h : (g : Int) ∣ n) : eZ (n / (g : Int)) = .agg [.lit (.bool (decide (n < 0))), eM (n.natAbs / g)] := by
  obtain ⟨k, rfl⟩ := h
  have h1 : (g : Int) * k / (g : Int) = k := Int.mul_ediv_cancel_left k (by omega)
  have h2 : ((g : Int) * k).natAbs / g = k.natAbs := by rw [Int.natAbs_mul, Int.natAbs_natCast, Nat.mul_div_cancel_left _ hg]
  have h3 : ((g : Int) * k < 0) ↔ (k < 0) := by
    constructor
    · intro h
      rcases Int.lt_trichotomy k 0 with h4 | h4 | h4
      · exact h4
      · rw [h4, Int.mul_zero] at h; omega
      · have := Int.mul_pos (by omega : (0 : Int) < g) h4; omega
    · intro h; exact Int.mul_neg_of_pos_of_neg (by omega) h
  rw [h1, h2]
  unfold eZ
  simp only [h3]
def iiE (p : Z2) : List D := [i64D p.a, i64D p.b]
theorem iiE_inj (p q : Z2) (h : iiE p = iiE q) : p = q := by
  obtain ⟨a, b⟩ := p; obtain ⟨c, d⟩ := q
  simp only [iiE, List.cons.injEq, and_true] at h
  rw [i64D_inj h.1, i64D_inj h.2]
noncomputable def ofC := ctD iiE (fun p => I64 p.a ∧ I64 p.b ∧ 0 < p.b) (fun p => [eR (ofR p.a p.b)])
theorem ofC_at (a b : Int) : ofC [i64D a, i64D b] = ((I64 a ∧ I64 b ∧ 0 < b), [eR (ofR a b)]) := ctD_at iiE_inj ⟨a, b⟩
noncomputable def ofTb : List (FuncId × Ct) := [(29, .data absC), (28, .data gcdC)]
theorem ofTb_ok : TbOK N Try.prog (tbl ofTb) := tbl_cons (c := .data absC) l1Abs_spec l1Abs_ok (tbl_cons (c := .data gcdC) l1Gcd_spec l1Gcd_ok tbl_nil)

@[simp] theorem ofTb2 : tbl ofTb 29 = some (.data absC) := rfl
@[simp] theorem ofTb3 : tbl ofTb 28 = some (.data gcdC) := rfl
end Go.Proofs.Ytdkgkcnllhcamaa.Ae

/-! spec: fractions of any size: sums, products. No condition. -/
namespace Go.Proofs.Ytdkgkcnllhcamaa.Ae
open Go Go.RowKit Go.Proofs.Ytdkgkcnllhcamaa.Dig
variable {N : NR}

structure R1 where
  a : SR
def rE (p : R1) : List D := [eR p.a]
theorem rE_inj (p q : R1) (h : rE p = rE q) : p = q := by
  obtain ⟨a⟩ := p; obtain ⟨c⟩ := q
  simp only [rE, List.cons.injEq, and_true] at h
  rw [eR_inj h]
structure R2 where
  a : SR
  b : SR
def rrE (p : R2) : List D := [eR p.a, eR p.b]
theorem rrE_inj (p q : R2) (h : rrE p = rrE q) : p = q := by
  obtain ⟨a, b⟩ := p; obtain ⟨c, d⟩ := q
  simp only [rrE, List.cons.injEq, and_true] at h
  rw [eR_inj h.1, eR_inj h.2]
theorem WR_SZ {r : SR} (h : WR r) : SZ r.num ∧ SZ r.den ∧ 0 < r.den := by
  cases r with
  | small n d => obtain ⟨h1, h2, h3⟩ := h; exact ⟨Sm_small (by show n.natAbs < _; omega), Sm_small (by show d.natAbs < _; omega), h2⟩
  | lit n d => obtain ⟨h1, h2, h3⟩ := h; exact ⟨Sm_small (by show n.natAbs < _; omega), Sm_small (by show d.natAbs < _; omega), h2⟩
  | big p q => exact h

/-! spec.l1rZ -/
noncomputable def rzC := ctD rE (fun p => WR p.a) (fun p => [eZ p.a.num, eZ p.a.den])
theorem rzC_at (a : SR) : rzC [eR a] = (WR a, [eZ a.num, eZ a.den]) := ctD_at rE_inj ⟨a⟩
/-! spec.l1rBig -/
def bigR (n d : Int) : SR := if n = 0 then .small 0 1 else if d < 0 then packR (-n / (Int.gcd n d : Int)) (-d / (Int.gcd n d : Int)) else packR (n / (Int.gcd n d : Int)) (d / (Int.gcd n d : Int))
noncomputable def bigC := ctD zzE (fun p => SZ p.a ∧ SZ p.b ∧ p.b ≠ 0) (fun p => [eR (bigR p.a p.b)])
theorem bigC_at (a b : Int) : bigC [eZ a, eZ b] = ((SZ a ∧ SZ b ∧ b ≠ 0), [eR (bigR a b)]) := ctD_at zzE_inj ⟨a, b⟩
theorem natAbs_div {n : Int} {g : Nat} (hg : 0 < g) (h : (g : Int) ∣ n) : (n / (g : Int)).natAbs = n.natAbs / g := by
  have := eZ_div hg h
  simp only [eZ, D.agg.injEq, List.cons.injEq, and_true] at this
  exact eM_inj this.2
theorem SZ_le {a b : Int} (h : a.natAbs ≤ b.natAbs) (hb : SZ b) : SZ a := Sm_le h hb
end Go.Proofs.Ytdkgkcnllhcamaa.Ae

/-! spec: fractions of any size: as two whole numbers. No condition. -/
namespace Go.Proofs.Ytdkgkcnllhcamaa.Ae
open Go Go.RowKit Go.Proofs.Ytdkgkcnllhcamaa.Dig
variable {N : NR}

end Go.Proofs.Ytdkgkcnllhcamaa.Ae

/-! spec: fractions of any size: sums, products. No condition. -/
namespace Go.Proofs.Ytdkgkcnllhcamaa.Ae
open Go Go.RowKit Go.Proofs.Ytdkgkcnllhcamaa.Dig
variable {N : NR}

theorem prod_bd {n d : Int} (hn : n.natAbs < 2147483648) (hd : 0 < d ∧ d < 2147483648) : -4611686018427387904 < n * d ∧ n * d < 4611686018427387904 := by
  have h1 : (n * d).natAbs ≤ 2147483647 * 2147483647 := by rw [Int.natAbs_mul]; exact Nat.mul_le_mul (by omega) (by omega)
  omega
theorem pos_bd {c d : Int} (hc : 0 < c ∧ c < 2147483648) (hd : 0 < d ∧ d < 2147483648) : 0 < c * d ∧ c * d < 4611686018427387904 :=
  ⟨Int.mul_pos hc.1 hd.1, (prod_bd (n := c) (by omega) hd).2⟩
theorem w_0 : IntKind.i64.wrap 0 = 0 := by rw [wrap_i64]; rfl
theorem w_2 : IntKind.i64.wrap 2 = 2 := by rw [wrap_i64]; rfl
theorem w_4 : IntKind.i64.wrap 4 = 4 := by rw [wrap_i64]; rfl

theorem eR_small (n d : Int) : eR (.small n d) = .agg [i64D n, i64D d, .sl 2 []] := rfl
theorem eR_lit (n d : Int) : eR (.lit n d) = .agg [i64D n, i64D d, .lit (.slice none 0 0)] := rfl
theorem eR_big (p q : Int) : eR (.big p q) = .agg [i64D 0, i64D 0, .sl 2 [eZ p, eZ q]] := rfl
def addR (a b : SR) : SR := if a.isBig || b.isBig then bigR (a.num * b.den + b.num * a.den) (a.den * b.den) else ofR (a.num * b.den + b.num * a.den) (a.den * b.den)
noncomputable def rAddC := ctD rrE (fun p => WR p.a ∧ WR p.b ∧ SZ (p.a.num * p.b.den) ∧ SZ (p.b.num * p.a.den) ∧ SZ (p.a.num * p.b.den + p.b.num * p.a.den) ∧ SZ (p.a.den * p.b.den)) (fun p => [eR (addR p.a p.b)])
theorem rAddC_at (a b : SR) : rAddC [eR a, eR b] = ((WR a ∧ WR b ∧ SZ (a.num * b.den) ∧ SZ (b.num * a.den) ∧ SZ (a.num * b.den + b.num * a.den) ∧ SZ (a.den * b.den)), [eR (addR a b)]) := ctD_at rrE_inj ⟨a, b⟩
end Go.Proofs.Ytdkgkcnllhcamaa.Ae

/-! spec: fractions of any size: products, quotients, signs. No condition. -/
namespace Go.Proofs.Ytdkgkcnllhcamaa.Ae
open Go Go.RowKit Go.Proofs.Ytdkgkcnllhcamaa.Dig
variable {N : NR}

def mulR (a b : SR) : SR := if a.isBig || b.isBig then bigR (a.num * b.num) (a.den * b.den) else ofR (a.num * b.num) (a.den * b.den)
noncomputable def rMulC := ctD rrE (fun p => WR p.a ∧ WR p.b ∧ SZ (p.a.num * p.b.num) ∧ SZ (p.a.den * p.b.den)) (fun p => [eR (mulR p.a p.b)])
theorem rMulC_at (a b : SR) : rMulC [eR a, eR b] = ((WR a ∧ WR b ∧ SZ (a.num * b.num) ∧ SZ (a.den * b.den)), [eR (mulR a b)]) := ctD_at rrE_inj ⟨a, b⟩
/-! spec.l1rNeg, l1rSub -/
def negR : SR → SR
  | .small n d => .small (-n) d
  | .lit n d => .small (-n) d
  | .big p q => .big (-p) q
noncomputable def rNegC := ctD rE (fun p => WR p.a) (fun p => [eR (negR p.a)])
theorem rNegC_at (a : SR) : rNegC [eR a] = (WR a, [eR (negR a)]) := ctD_at rE_inj ⟨a⟩
theorem negR_num (a : SR) : (negR a).num = -a.num := by cases a <;> rfl
theorem negR_den (a : SR) : (negR a).den = a.den := by cases a <;> rfl
theorem negR_WR {a : SR} (h : WR a) : WR (negR a) := by
  cases a with
  | small n d => obtain ⟨x1, x2, x3⟩ := h; exact ⟨by rw [Int.natAbs_neg]; exact x1, x2, x3⟩
  | lit n d => obtain ⟨x1, x2, x3⟩ := h; exact ⟨by rw [Int.natAbs_neg]; exact x1, x2, x3⟩
  | big p q => obtain ⟨x1, x2, x3⟩ := h; exact ⟨SZ_neg.2 x1, x2, x3⟩
def subR (a b : SR) : SR := addR a (negR b)
noncomputable def rSubC := ctD rrE (fun p => WR p.a ∧ WR p.b ∧ SZ (p.a.num * p.b.den) ∧ SZ (p.b.num * p.a.den) ∧ SZ (p.a.num * p.b.den - p.b.num * p.a.den) ∧ SZ (p.a.den * p.b.den)) (fun p => [eR (subR p.a p.b)])
theorem rSubC_at (a b : SR) : rSubC [eR a, eR b] = ((WR a ∧ WR b ∧ SZ (a.num * b.den) ∧ SZ (b.num * a.den) ∧ SZ (a.num * b.den - b.num * a.den) ∧ SZ (a.den * b.den)), [eR (subR a b)]) := ctD_at rrE_inj ⟨a, b⟩
/-! spec.l1rSign -/
noncomputable def rSignC := ctD rE (fun p => WR p.a) (fun p => [i64D p.a.num.sign])
theorem rSignC_at (a : SR) : rSignC [eR a] = (WR a, [i64D a.num.sign]) := ctD_at rE_inj ⟨a⟩
end Go.Proofs.Ytdkgkcnllhcamaa.Ae

/-! spec: fractions of any size: quotients, comparisons, floors, and fractions of two words. No condition. -/
namespace Go.Proofs.Ytdkgkcnllhcamaa.Ae
open Go Go.RowKit Go.Proofs.Ytdkgkcnllhcamaa.Dig
variable {N : NR}

theorem num_small (n d : Int) : (SR.small n d).num = n := rfl
theorem num_lit (n d : Int) : (SR.lit n d).num = n := rfl
theorem num_big (n d : Int) : (SR.big n d).num = n := rfl
theorem den_small (n d : Int) : (SR.small n d).den = d := rfl
theorem den_lit (n d : Int) : (SR.lit n d).den = d := rfl
theorem den_big (n d : Int) : (SR.big n d).den = d := rfl
/-! spec.l1rDiv -/
def invR (n d : Int) : SR := if n < 0 then .lit (-d) (-n) else .lit d n
def divR (a : SR) : SR → SR
  | .small n d => mulR a (invR n d)
  | .lit n d => mulR a (invR n d)
  | .big p q => bigR (a.num * q) (a.den * p)
noncomputable def rDivC := ctD rrE (fun p => WR p.a ∧ WR p.b ∧ p.b.num ≠ 0 ∧ SZ (p.a.num * p.b.den) ∧ SZ (p.a.den * p.b.num)) (fun p => [eR (divR p.a p.b)])
theorem rDivC_at (a b : SR) : rDivC [eR a, eR b] = ((WR a ∧ WR b ∧ b.num ≠ 0 ∧ SZ (a.num * b.den) ∧ SZ (a.den * b.num)), [eR (divR a b)]) := ctD_at rrE_inj ⟨a, b⟩
/-! spec.l1rCmp -/
noncomputable def rCmpC := ctD rrE (fun p => WR p.a ∧ WR p.b ∧ SZ (p.a.num * p.b.den) ∧ SZ (p.b.num * p.a.den) ∧ SZ (p.a.num * p.b.den - p.b.num * p.a.den)) (fun p => [i64D (p.a.num * p.b.den - p.b.num * p.a.den).sign])
theorem rCmpC_at (a b : SR) : rCmpC [eR a, eR b] = ((WR a ∧ WR b ∧ SZ (a.num * b.den) ∧ SZ (b.num * a.den) ∧ SZ (a.num * b.den - b.num * a.den)), [i64D (a.num * b.den - b.num * a.den).sign]) := ctD_at rrE_inj ⟨a, b⟩
/-! spec.l1rWhole, l1q -/
noncomputable def rWholeC := ctD zE (fun p => SZ p.a) (fun p => [eR (packR p.a 1)])
theorem rWholeC_at (a : Int) : rWholeC [eZ a] = (SZ a, [eR (packR a 1)]) := ctD_at zE_inj ⟨a⟩
/-- A fraction of two words. -/
def eQ (n d : Int) : D := .agg [i64D n, i64D d]
def qE (p : Z2) : List D := [eQ p.a p.b]
theorem qE_inj (p q : Z2) (h : qE p = qE q) : p = q := by
  obtain ⟨a, b⟩ := p; obtain ⟨c, d⟩ := q
  simp only [qE, eQ, List.cons.injEq, and_true, D.agg.injEq] at h
  rw [i64D_inj h.1, i64D_inj h.2]
noncomputable def l1qC := ctD qE (fun p => I64 p.a ∧ I64 p.b ∧ 0 < p.b) (fun p => [eR (ofR p.a p.b)])
theorem l1qC_at (a b : Int) : l1qC [eQ a b] = ((I64 a ∧ I64 b ∧ 0 < b), [eR (ofR a b)]) := ctD_at qE_inj ⟨a, b⟩
end Go.Proofs.Ytdkgkcnllhcamaa.Ae

/-! spec: fractions of any size: floors, and back to fractions of two words. No condition. -/
namespace Go.Proofs.Ytdkgkcnllhcamaa.Ae
open Go Go.RowKit Go.Proofs.Ytdkgkcnllhcamaa.Dig
variable {N : NR}

/-! spec.l1rFloor -/
noncomputable def rFloorC := ctD rE (fun p => WR p.a) (fun p => [eZ (p.a.num / p.a.den)])
theorem rFloorC_at (a : SR) : rFloorC [eR a] = (WR a, [eZ (a.num / a.den)]) := ctD_at rE_inj ⟨a⟩
/-- A whole quotient below a negative one. -/
theorem floor_neg {n d : Int} (hn : n < 0) (hd : 0 < d) : n / d = -((n.natAbs / d.natAbs + (if n.natAbs % d.natAbs = 0 then 0 else 1) : Nat) : Int) := by
  obtain ⟨m, rfl⟩ : ∃ m : Nat, n = -(m : Int) := ⟨n.natAbs, by omega⟩
  obtain ⟨e, rfl⟩ : ∃ e : Nat, d = (e : Int) := ⟨d.natAbs, by omega⟩
  have he : 0 < e := by omega
  rw [Int.natAbs_neg, Int.natAbs_natCast, Int.natAbs_natCast]
  have h1 := Nat.div_add_mod m e
  have h2 := Nat.mod_lt m he
  obtain ⟨q, hq⟩ : ∃ q, q = m / e := ⟨_, rfl⟩
  obtain ⟨r, hr⟩ : ∃ r, r = m % e := ⟨_, rfl⟩
  rw [← hq, ← hr] at h1
  rw [← hr] at h2
  rw [← hq, ← hr]
  by_cases h0 : r = 0
  · rw [if_pos h0, Nat.add_zero]
    have : -(m : Int) = (e : Int) * -(q : Int) := by rw [Int.mul_neg]; have : (m : Int) = (e : Int) * q := by rw [← Int.natCast_mul]; omega
                                                     omega
    rw [this, Int.mul_ediv_cancel_left _ (by omega)]
  · rw [if_neg h0]
    have h3 : (m : Int) = (e : Int) * q + r := by rw [← Int.natCast_mul]; omega
    have h4 : -(m : Int) = ((e : Int) - r) + (e : Int) * (-((q : Int) + 1)) := by rw [Int.mul_neg, Int.mul_add, Int.mul_one]; omega
    rw [h4, Int.add_mul_ediv_left _ _ (by omega : (e : Int) ≠ 0), Int.ediv_eq_zero_of_lt (by omega) (by omega)]
    omega
/-! spec.l1rQ -/
def qOfR (r : SR) : Int × Int × Bool := match r with
  | .big p q => if p.natAbs ≤ 1000000000000000000 ∧ q.natAbs ≤ 1000000000000000000 then (p, q, true) else (0, 0, false)
  | r => (r.num / (Int.gcd r.num r.den : Int), r.den / (Int.gcd r.num r.den : Int), true)
noncomputable def rQC := ctD rE (fun p => WR p.a) (fun p => [eQ (qOfR p.a).1 (qOfR p.a).2.1, .lit (.bool (qOfR p.a).2.2)])
theorem rQC_at (a : SR) : rQC [eR a] = (WR a, [eQ (qOfR a).1 (qOfR a).2.1, .lit (.bool (qOfR a).2.2)]) := ctD_at rE_inj ⟨a⟩
noncomputable def rQTb : List (FuncId × Ct) := [(29, .data absC), (28, .data gcdC)]
theorem rQTb_ok : TbOK N Try.prog (tbl rQTb) := tbl_cons (c := .data absC) l1Abs_spec l1Abs_ok (tbl_cons (c := .data gcdC) l1Gcd_spec l1Gcd_ok tbl_nil)

@[simp] theorem rQTb1 : tbl rQTb 29 = some (.data absC) := rfl
@[simp] theorem rQTb2 : tbl rQTb 28 = some (.data gcdC) := rfl
theorem tdiv_dvd {n : Int} {g : Nat} (hg : 0 < g) (h : (g : Int) ∣ n) : Int.tdiv n g = n / g := by
  obtain ⟨k, rfl⟩ := h
  rw [Int.mul_tdiv_cancel_left _ (by omega), Int.mul_ediv_cancel_left _ (by omega)]
end Go.Proofs.Ytdkgkcnllhcamaa.Ae

/-! impl.bigInt: put, SetInt64, newBigInt. No condition. -/
namespace Go.Proofs.Ytdkgkcnllhcamaa.Ae
open Go Go.RowKit Go.Proofs.Ytdkgkcnllhcamaa.Dig
variable {N : NR}

/-- What lies in a bigInt: a number, or what new makes. -/
inductive BC where
  | z (v : Int)
  | new
def eB : BC → D
  | .z v => eZ v
  | .new => .agg [.lit (.bool false), .lit (.slice none 0 0)]
theorem eB_inj : ∀ {a b : BC}, eB a = eB b → a = b
  | .z v, .z w, h => by rw [eZ_inj h]
  | .z v, .new, h => by simp [eB, eZ, eM, eW] at h
  | .new, .z w, h => by simp [eB, eZ, eM, eW] at h
  | .new, .new, _ => rfl

structure PutA where
  neg : Bool
  m : Nat
  c : BC
def putE (p : PutA) : List Ar × List D := ([.ref 0, .dat (.lit (.bool p.neg)), .dat (eM p.m)], [eB p.c])
theorem putE_inj (p q : PutA) (h : putE p = putE q) : p = q := by
  obtain ⟨a, b, c⟩ := p; obtain ⟨a', b', c'⟩ := q
  simp only [putE, Prod.mk.injEq, List.cons.injEq, and_true, true_and, Ar.dat.injEq, D.lit.injEq, Value.bool.injEq] at h
  rw [h.1.1, eM_inj h.1.2, eB_inj h.2]
def sg (neg : Bool) (m : Nat) : Int := if neg = true then -(m : Int) else m
noncomputable def putC := ctM putE (fun _ => True) (fun p => ([.ref 0], [eZ (sg p.neg p.m)]))
theorem putC_at (neg : Bool) (m : Nat) (c : BC) : putC [.ref 0, .dat (.lit (.bool neg)), .dat (eM m)] [eB c] = (True, [.ref 0], [eZ (sg neg m)]) := ctM_at putE_inj ⟨neg, m, c⟩
theorem putC_z (neg : Bool) (m : Nat) (v : Int) : putC [.ref 0, .dat (.lit (.bool neg)), .dat (.sl 1 ((mag m).map dg))] [.agg [.lit (.bool (decide (v < 0))), .sl 1 ((mag v.natAbs).map dg)]] = (True, [.ref 0], [eZ (sg neg m)]) := putC_at neg m (.z v)
theorem putC_n (neg : Bool) (m : Nat) : putC [.ref 0, .dat (.lit (.bool neg)), .dat (.sl 1 ((mag m).map dg))] [.agg [.lit (.bool false), .lit (.slice none 0 0)]] = (True, [.ref 0], [eZ (sg neg m)]) := putC_at neg m .new
def ptM : List Bool := [true, false, false]

/-! SetInt64 -/
structure SetA where
  n : Int
  c : BC
def setE (p : SetA) : List Ar × List D := ([.ref 0, .dat (i64D p.n)], [eB p.c])
theorem setE_inj (p q : SetA) (h : setE p = setE q) : p = q := by
  obtain ⟨a, b⟩ := p; obtain ⟨a', b'⟩ := q
  simp only [setE, Prod.mk.injEq, List.cons.injEq, and_true, true_and, Ar.dat.injEq] at h
  rw [i64D_inj h.1, eB_inj h.2]
noncomputable def setC := ctM setE (fun p => I64 p.n) (fun p => ([.ref 0], [eZ p.n]))
theorem setC_at (n : Int) (c : BC) : setC [.ref 0, .dat (i64D n)] [eB c] = (I64 n, [.ref 0], [eZ n]) := ctM_at setE_inj ⟨n, c⟩
end Go.Proofs.Ytdkgkcnllhcamaa.Ae

/-! impl.bigInt: SetInt64, newBigInt, Set, Neg, Abs. No condition. -/
namespace Go.Proofs.Ytdkgkcnllhcamaa.Ae
open Go Go.RowKit Go.Proofs.Ytdkgkcnllhcamaa.Dig
variable {N : NR}

def pMf : FuncId → Bool := fun f => f == 99999999 || f == 99999999
attribute [simp] pMf ptM
theorem setC_n (n : Int) : setC [.ref 0, .dat (.lit (.int .i64 n))] [.agg [.lit (.bool false), .lit (.slice none 0 0)]] = (I64 n, [.ref 0], [eZ n]) := setC_at n .new

/-! newBigInt -/
noncomputable def newC := ctD z1E (fun p => I64 p.a) (fun p => [.ptr (eZ p.a)])
theorem newC_at (a : Int) : newC [i64D a] = (I64 a, [.ptr (eZ a)]) := ctD_at z1E_inj ⟨a⟩
/-! Set, Neg, Abs -/
structure UnA where
  x : Int
  c : BC
def unE (p : UnA) : List Ar × List D := ([.ref 0, .dat (.ptr (eZ p.x))], [eB p.c])
theorem unE_inj (p q : UnA) (h : unE p = unE q) : p = q := by
  obtain ⟨a, b⟩ := p; obtain ⟨a', b'⟩ := q
  simp only [unE, Prod.mk.injEq, List.cons.injEq, and_true, true_and, Ar.dat.injEq, D.ptr.injEq] at h
  rw [eZ_inj h.1, eB_inj h.2]
noncomputable def copyC := ctM unE (fun p => SZ p.x) (fun p => ([.ref 0], [eZ p.x]))
noncomputable def negC := ctM unE (fun p => SZ p.x) (fun p => ([.ref 0], [eZ (-p.x)]))
noncomputable def absIC := ctM unE (fun p => SZ p.x) (fun p => ([.ref 0], [eZ p.x.natAbs]))
theorem sg_self (x : Int) : sg (decide (x < 0)) x.natAbs = x := by
  unfold sg
  by_cases h : x < 0
  · simp [h]; omega
  · simp [h]; omega
end Go.Proofs.Ytdkgkcnllhcamaa.Ae

/-! impl: abs64, gcd64. No condition. -/
namespace Go.Proofs.Ytdkgkcnllhcamaa.Ae
open Go Go.RowKit Go.Proofs.Ytdkgkcnllhcamaa.Dig
variable {N : NR}

theorem abs64_spec : SpecD N Try.prog 36 absC := by
  refine rdD (mf := fun f => false) tbl_nil (fn := Try.f36) (by kernel_rfl) rfl (by kernel_rfl) ?_
  rintro ⟨x⟩ hx
  have hx : -9223372036854775808 ≤ x ∧ x ≤ 9223372036854775807 := hx
  refine ⟨by show 1 ≤ 10; decide, ?_⟩
  simp only [z1E, i64D, u64D, Try.f36]
  generalize hy : ((x.natAbs : Nat) : Int) = y
  by_cases h : x < 0
  · have r1 : IntKind.u64.wrap (IntKind.i64.wrap (-x)) = y := by rw [wrap_u64, wrap_i64]; omega
    simp [h, r1]
  · have r1 : IntKind.u64.wrap x = y := by rw [wrap_u64]; omega
    simp [h, r1]
theorem abs64_ok : callable Try.prog 36 = true := by kernel_rfl

theorem gcd64_spec : SpecD N Try.prog 35 gcdC := by
  refine rdD (mf := fun f => false) tbl_nil (fn := Try.f35) (by kernel_rfl) rfl (by kernel_rfl) ?_
  rintro ⟨a, b⟩ ⟨ha, hb⟩
  have ha : a < 18446744073709551616 := ha
  have hb : b < 18446744073709551616 := hb
  refine ⟨by show 2 ≤ 12; decide, ?_⟩
  simp only [uuE, u64D, Try.f35]
  generalize hg : Nat.gcd a b = g
  simp
  refine loop_go (fun n st => ∃ x y : Nat, x < 18446744073709551616 ∧ y < 18446744073709551616 ∧ Nat.gcd x y = g ∧ n = y ∧ st = gcdS x y) (s0 := gcdS a b) (n := b) (snd_of (by simp [LeT, gcdS]) (by simp [gcdS])) ⟨a, b, ha, hb, hg, rfl, rfl⟩ ?_
  rintro y st ⟨x, _, hx, hy, hxy, rfl, rfl⟩ KN hN
  rcases Nat.eq_zero_or_pos y with h0 | h0
  · subst h0
    rw [Nat.gcd_zero_right] at hxy
    subst hxy
    simp [gcdS]
  · have h1 : ¬ y = 0 := by omega
    obtain ⟨r, hr⟩ : ∃ r, r = x % y := ⟨_, rfl⟩
    have hry : r < y := by rw [hr]; exact Nat.mod_lt _ h0
    have q1 := tmod_nat x y
    rw [← hr] at q1
    have q2 : IntKind.u64.wrap (r : Int) = r := by rw [wrap_u64]; omega
    simp [gcdS, h1, q1, q2]
    refine hN _ (nx (m := r) (s'' := gcdS y r) (snd_of (by simp [LeT, gcdS]) (by simp [gcdS])) ⟨y, r, hy, by omega, ?_, rfl, rfl⟩ hry)
    rw [hr, ← hxy, Nat.gcd_comm y, ← Nat.gcd_rec, Nat.gcd_comm]
theorem gcd64_ok : callable Try.prog 35 = true := by kernel_rfl

end Go.Proofs.Ytdkgkcnllhcamaa.Ae

/-! impl.bigInt: Add. No condition. -/
namespace Go.Proofs.Ytdkgkcnllhcamaa.Ae
open Go Go.RowKit Go.Proofs.Ytdkgkcnllhcamaa.Dig
variable {N : NR}

inductive BinA where
  | dd (x y : Int) (c : BC)
  | zd (x y : Int)
def BinA.x : BinA → Int
  | dd x _ _ => x
  | zd x _ => x
def BinA.y : BinA → Int
  | dd _ y _ => y
  | zd _ y => y
def binE : BinA → List Ar × List D
  | .dd x y c => ([.ref 0, .dat (.ptr (eZ x)), .dat (.ptr (eZ y))], [eB c])
  | .zd x y => ([.ref 0, .ref 0, .dat (.ptr (eZ y))], [eZ x])
theorem binE_inj : ∀ (p q : BinA), binE p = binE q → p = q
  | .dd a b c, .dd a' b' c', h => by
    simp only [binE, Prod.mk.injEq, List.cons.injEq, and_true, true_and, Ar.dat.injEq, D.ptr.injEq] at h
    rw [eZ_inj h.1.1, eZ_inj h.1.2, eB_inj h.2]
  | .zd a b, .zd a' b', h => by
    simp only [binE, Prod.mk.injEq, List.cons.injEq, and_true, true_and, Ar.dat.injEq, D.ptr.injEq] at h
    rw [eZ_inj h.1, eZ_inj h.2]
  | .dd .., .zd .., h => by simp [binE] at h
  | .zd .., .dd .., h => by simp [binE] at h
noncomputable def iAddC := ctM binE (fun p => SZ p.x ∧ SZ p.y) (fun p => ([.ref 0], [eZ (p.x + p.y)]))
end Go.Proofs.Ytdkgkcnllhcamaa.Ae

/-! impl.bigInt: Mul, QuoRem, Sign, Cmp. No condition. -/
namespace Go.Proofs.Ytdkgkcnllhcamaa.Ae
open Go Go.RowKit Go.Proofs.Ytdkgkcnllhcamaa.Dig
variable {N : NR}

noncomputable def iMulC := ctM binE (fun p => SZ p.x ∧ SZ p.y) (fun p => ([.ref 0], [eZ (p.x * p.y)]))
theorem sg_mul (a b : Int) : sg (decide (a < 0) != decide (b < 0)) (a.natAbs * b.natAbs) = a * b := by
  rw [← Int.natAbs_mul]
  by_cases h0 : a * b = 0
  · rw [h0]; unfold sg; split <;> rfl
  · have ha0 : a ≠ 0 := fun h => h0 (by rw [h, Int.zero_mul])
    have hb0 : b ≠ 0 := fun h => h0 (by rw [h, Int.mul_zero])
    have h1 := mul_neg_iff ha0 hb0
    unfold sg
    by_cases ha : a < 0 <;> by_cases hb : b < 0 <;> simp [ha, hb] at h1 <;> simp [ha, hb] <;> omega
/-! QuoRem -/
structure QrA where
  x : Int
  y : Int
  c : BC
  d : BC
def qrE (p : QrA) : List Ar × List D := ([.ref 0, .dat (.ptr (eZ p.x)), .dat (.ptr (eZ p.y)), .ref 1], [eB p.c, eB p.d])
theorem qrE_inj (p q : QrA) (h : qrE p = qrE q) : p = q := by
  obtain ⟨a, b, c, d⟩ := p; obtain ⟨a', b', c', d'⟩ := q
  simp only [qrE, Prod.mk.injEq, List.cons.injEq, and_true, true_and, Ar.dat.injEq, D.ptr.injEq] at h
  rw [eZ_inj h.1.1, eZ_inj h.1.2, eB_inj h.2.1, eB_inj h.2.2]
noncomputable def qrC := ctM qrE (fun p => SZ p.x ∧ SZ p.y ∧ p.y ≠ 0) (fun p => ([.ref 0, .ref 1], [eZ (Int.tdiv p.x p.y), eZ (Int.tmod p.x p.y)]))
theorem qrC_at (x y : Int) (c d : BC) : qrC [.ref 0, .dat (.ptr (eZ x)), .dat (.ptr (eZ y)), .ref 1] [eB c, eB d] = ((SZ x ∧ SZ y ∧ y ≠ 0), [.ref 0, .ref 1], [eZ (Int.tdiv x y), eZ (Int.tmod x y)]) := ctM_at qrE_inj ⟨x, y, c, d⟩
theorem sg_div (a b : Int) : sg (decide (a < 0) != decide (b < 0)) (a.natAbs / b.natAbs) = Int.tdiv a b := by
  by_cases ha : a < 0
  · obtain ⟨m, rfl⟩ : ∃ m : Nat, a = -(m : Int) := ⟨a.natAbs, by omega⟩
    by_cases hb : b < 0
    · obtain ⟨k, rfl⟩ : ∃ k : Nat, b = -(k : Int) := ⟨b.natAbs, by omega⟩
      rw [Int.neg_tdiv, Int.tdiv_neg, tdiv_nat, Int.natAbs_neg, Int.natAbs_neg, Int.natAbs_natCast, Int.natAbs_natCast, decide_eq_true ha, decide_eq_true hb]
      simp [sg]
    · obtain ⟨k, rfl⟩ : ∃ k : Nat, b = (k : Int) := ⟨b.natAbs, by omega⟩
      rw [Int.neg_tdiv, tdiv_nat, Int.natAbs_neg, Int.natAbs_natCast, Int.natAbs_natCast, decide_eq_true ha, decide_eq_false hb]
      simp [sg]
  · obtain ⟨m, rfl⟩ : ∃ m : Nat, a = (m : Int) := ⟨a.natAbs, by omega⟩
    by_cases hb : b < 0
    · obtain ⟨k, rfl⟩ : ∃ k : Nat, b = -(k : Int) := ⟨b.natAbs, by omega⟩
      rw [Int.tdiv_neg, tdiv_nat, Int.natAbs_neg, Int.natAbs_natCast, Int.natAbs_natCast, decide_eq_false ha, decide_eq_true hb]
      simp [sg]
    · obtain ⟨k, rfl⟩ : ∃ k : Nat, b = (k : Int) := ⟨b.natAbs, by omega⟩
      rw [tdiv_nat, Int.natAbs_natCast, Int.natAbs_natCast, decide_eq_false ha, decide_eq_false hb]
      simp [sg]
theorem sg_mod (a b : Int) : sg (decide (a < 0)) (a.natAbs % b.natAbs) = Int.tmod a b := by
  have hb : Int.tmod a b = Int.tmod a (b.natAbs : Int) := by
    by_cases hb : b < 0
    · obtain ⟨k, rfl⟩ : ∃ k : Nat, b = -(k : Int) := ⟨b.natAbs, by omega⟩
      rw [Int.tmod_neg, Int.natAbs_neg, Int.natAbs_natCast]
    · have : (b.natAbs : Int) = b := by omega
      rw [this]
  rw [hb]
  by_cases ha : a < 0
  · obtain ⟨m, rfl⟩ : ∃ m : Nat, a = -(m : Int) := ⟨a.natAbs, by omega⟩
    rw [Int.neg_tmod, tmod_nat, Int.natAbs_neg, Int.natAbs_natCast, decide_eq_true ha]
    simp [sg]
  · obtain ⟨m, rfl⟩ : ∃ m : Nat, a = (m : Int) := ⟨a.natAbs, by omega⟩
    rw [tmod_nat, Int.natAbs_natCast, decide_eq_false ha]
    simp [sg]
end Go.Proofs.Ytdkgkcnllhcamaa.Ae

/-! impl.bigInt: Sign, Cmp. No condition. -/
namespace Go.Proofs.Ytdkgkcnllhcamaa.Ae
open Go Go.RowKit Go.Proofs.Ytdkgkcnllhcamaa.Dig
variable {N : NR}

inductive SgA where
  | d (x : Int)
  | r (x : Int)
def SgA.x : SgA → Int
  | d x => x
  | r x => x
def sgE : SgA → List Ar × List D
  | .d x => ([.dat (.ptr (eZ x))], [])
  | .r x => ([.ref 0], [eZ x])
def SgA.back : SgA → List D
  | .d _ => []
  | .r x => [eZ x]
theorem sgE_inj : ∀ (p q : SgA), sgE p = sgE q → p = q
  | .d a, .d b, h => by
    simp only [sgE, Prod.mk.injEq, List.cons.injEq, and_true, Ar.dat.injEq, D.ptr.injEq] at h
    rw [eZ_inj h]
  | .r a, .r b, h => by
    simp only [sgE, Prod.mk.injEq, List.cons.injEq, and_true, true_and] at h
    rw [eZ_inj h]
  | .d _, .r _, h => by simp [sgE] at h
  | .r _, .d _, h => by simp [sgE] at h
noncomputable def iSignC := ctM sgE (fun _ => True) (fun p => ([.dat (i64D p.x.sign)], p.back))
theorem iSignC_d (x : Int) : iSignC [.dat (.ptr (eZ x))] [] = (True, [.dat (i64D x.sign)], []) := ctM_at sgE_inj (.d x)
theorem iSignC_r (x : Int) : iSignC [.ref 0] [eZ x] = (True, [.dat (i64D x.sign)], [eZ x]) := ctM_at sgE_inj (.r x)
/-! Cmp -/
def ppE (p : Z2) : List D := [.ptr (eZ p.a), .ptr (eZ p.b)]
theorem ppE_inj (p q : Z2) (h : ppE p = ppE q) : p = q := by
  obtain ⟨a, b⟩ := p; obtain ⟨c, d⟩ := q
  simp only [ppE, List.cons.injEq, and_true, D.ptr.injEq] at h
  rw [eZ_inj h.1, eZ_inj h.2]
noncomputable def iCmpC := ctD ppE (fun p => SZ p.a ∧ SZ p.b) (fun p => [i64D (p.a - p.b).sign])
theorem iCmpC_at (a b : Int) : iCmpC [.ptr (eZ a), .ptr (eZ b)] = ((SZ a ∧ SZ b), [i64D (a - b).sign]) := ctD_at ppE_inj ⟨a, b⟩
theorem cmpV_bd {a b : Nat} (ha : Sm a) (hb : Sm b) : -1099511627776 < cmpV a b ∧ cmpV a b < 1099511627776 := by
  unfold Sm at ha hb
  unfold cmpV
  split
  · repeat' split
    all_goals omega
  · omega
theorem clampS (v : Int) : (if (if 1 < v then 1 else v) < -1 then -1 else if 1 < v then 1 else v) = v.sign := by
  rcases Int.lt_trichotomy v 0 with h | h | h
  · have h1 : ¬ 1 < v := by omega
    rw [Int.sign_eq_neg_one_of_neg h, if_neg h1]
    split <;> omega
  · subst h; rfl
  · rw [Int.sign_eq_one_of_pos h]
    by_cases h1 : 1 < v
    · rw [if_pos h1]; rfl
    · rw [if_neg h1, if_neg (by omega)]; omega
theorem sign_bd (a : Int) : -1 ≤ a.sign ∧ a.sign ≤ 1 := by
  rcases Int.lt_trichotomy a 0 with h | h | h
  · rw [Int.sign_eq_neg_one_of_neg h]; omega
  · subst h; decide
  · rw [Int.sign_eq_one_of_pos h]; omega
end Go.Proofs.Ytdkgkcnllhcamaa.Ae

/-! impl.bigInt: Abs, Uint64. No condition. -/
namespace Go.Proofs.Ytdkgkcnllhcamaa.Ae
open Go Go.RowKit Go.Proofs.Ytdkgkcnllhcamaa.Dig
variable {N : NR}

/-! Uint64 -/
def pE (p : Z1) : List D := [.ptr (eZ p.a)]
theorem pE_inj (p q : Z1) (h : pE p = pE q) : p = q := by
  obtain ⟨a⟩ := p; obtain ⟨c⟩ := q
  simp only [pE, List.cons.injEq, and_true, D.ptr.injEq] at h
  rw [eZ_inj h]
noncomputable def u64C := ctD pE (fun p => SZ p.a) (fun p => [u64D (p.a.natAbs % 18446744073709551616)])
theorem u64C_at (a : Int) : u64C [.ptr (eZ a)] = (SZ a, [u64D (a.natAbs % 18446744073709551616)]) := ctD_at pE_inj ⟨a⟩
def u64S (xs : List Nat) (o i : Nat) : St := ⟨[.any, .any, .any, .dat (.lit (.int .u64 o)), .any, .any, .any, .any, .any, .any, .any, .any, .any, .any, .any, .any, .dat (.sl 1 (xs.map dg)), .dat (.lit (.int .i64 xs.length)), .dat (.lit (.int .i64 i)), .any, .any, .any, .any, .any, .any, .any, .any, .any, .any, .any, .any, .any], [none, none, none, none, none, none, none, none, none, none, none, none, none, none, none, none, none, none, none, none, none, none, none, none, none, none, none, none, none, none, none, none]⟩
end Go.Proofs.Ytdkgkcnllhcamaa.Ae

/-! impl.bigInt: Set, Neg. No condition. -/
namespace Go.Proofs.Ytdkgkcnllhcamaa.Ae
open Go Go.RowKit Go.Proofs.Ytdkgkcnllhcamaa.Dig
variable {N : NR}

theorem copyC_at (x : Int) (c : BC) : copyC [.ref 0, .dat (.ptr (eZ x))] [eB c] = (SZ x, [.ref 0], [eZ x]) := ctM_at unE_inj ⟨x, c⟩
theorem copyC_n (x : Int) : copyC [.ref 0, .dat (.ptr (eZ x))] [.agg [.lit (.bool false), .lit (.slice none 0 0)]] = (SZ x, [.ref 0], [eZ x]) := copyC_at x .new

/-! Neg: z may be x -/
inductive NgA where
  | d (x : Int) (c : BC)
  | r (x : Int)
def NgA.x : NgA → Int
  | d x _ => x
  | r x => x
def ngE : NgA → List Ar × List D
  | .d x c => ([.ref 0, .dat (.ptr (eZ x))], [eB c])
  | .r x => ([.ref 0, .ref 0], [eZ x])
theorem ngE_inj : ∀ (p q : NgA), ngE p = ngE q → p = q
  | .d a c, .d b c', h => by
    simp only [ngE, Prod.mk.injEq, List.cons.injEq, and_true, true_and, Ar.dat.injEq, D.ptr.injEq] at h
    rw [eZ_inj h.1, eB_inj h.2]
  | .r a, .r b, h => by
    simp only [ngE, Prod.mk.injEq, List.cons.injEq, and_true, true_and] at h
    rw [eZ_inj h]
  | .d _ _, .r _, h => by simp [ngE] at h
  | .r _, .d _ _, h => by simp [ngE] at h
noncomputable def ngC := ctM ngE (fun p => SZ p.x) (fun p => ([.ref 0], [eZ (-p.x)]))
theorem ngC_d (x : Int) (c : BC) : ngC [.ref 0, .dat (.ptr (eZ x))] [eB c] = (SZ x, [.ref 0], [eZ (-x)]) := ctM_at ngE_inj (.d x c)
theorem ngC_n (x : Int) : ngC [.ref 0, .dat (.ptr (eZ x))] [.agg [.lit (.bool false), .lit (.slice none 0 0)]] = (SZ x, [.ref 0], [eZ (-x)]) := ngC_d x .new
theorem ngC_r (x : Int) : ngC [.ref 0, .ref 0] [eZ x] = (SZ x, [.ref 0], [eZ (-x)]) := ctM_at ngE_inj (.r x)
theorem sg_neg (x : Int) : sg (!decide (x < 0)) x.natAbs = -x := by
  unfold sg
  by_cases h : x < 0
  · simp [h]; omega
  · simp [h]; omega
end Go.Proofs.Ytdkgkcnllhcamaa.Ae

/-! impl.bigInt: Uint64, Int64, IsInt64. No condition. -/
namespace Go.Proofs.Ytdkgkcnllhcamaa.Ae
open Go Go.RowKit Go.Proofs.Ytdkgkcnllhcamaa.Dig
variable {N : NR}

theorem lsub_dg (l : List Nat) (k : Nat) : lsub (l.map dg) 0 k = (l.take k).map dg := by
  unfold lsub
  rw [List.drop_zero, List.map_take]
theorem val_take2 (m : Nat) : val ((mag m).take 2) = m % 18446744073709551616 := by
  rcases Nat.lt_or_ge (mag m).length 2 with h | h
  · rw [List.take_of_length_le (by omega), val_mag]
    have := mag_lt.1 (by omega : (mag m).length ≤ 2)
    simp only [B] at this
    omega
  · have h1 := val_take_drop (mag m) 2 h
    rw [val_mag] at h1
    have h2 := val_lt ((mag_digs m).take 2)
    rw [List.length_take, Nat.min_eq_left h] at h2
    simp only [B] at h1 h2
    omega
end Go.Proofs.Ytdkgkcnllhcamaa.Ae

/-! impl.bigInt: Int64, IsInt64, Sub, Quo. No condition. -/
namespace Go.Proofs.Ytdkgkcnllhcamaa.Ae
open Go Go.RowKit Go.Proofs.Ytdkgkcnllhcamaa.Dig
variable {N : NR}

/-- Sign, where the number is only read. -/
noncomputable def sgDC := ctD pE (fun _ => True) (fun p => [i64D p.a.sign])
theorem sgDC_at (a : Int) : sgDC [.ptr (eZ a)] = (True, [i64D a.sign]) := ctD_at pE_inj ⟨a⟩
instance (a : Int) : Decidable (I64 a) := by unfold I64; infer_instance
@[simp] theorem eZ_lit (z : Int) : (eZ z).isLit = false := rfl
theorem SZ_I64 {a : Int} (h : I64 a) : SZ a := by
  unfold I64 at h
  exact Sm_small (by omega)
noncomputable def int64C := ctD pE (fun p => I64 p.a) (fun p => [i64D p.a])
theorem int64C_at (a : Int) : int64C [.ptr (eZ a)] = (I64 a, [i64D a]) := ctD_at pE_inj ⟨a⟩
noncomputable def isI64C := ctD pE (fun p => SZ p.a) (fun p => [.lit (.bool (decide (I64 p.a)))])
theorem isI64C_at (a : Int) : isI64C [.ptr (eZ a)] = (SZ a, [.lit (.bool (decide (I64 a)))]) := ctD_at pE_inj ⟨a⟩
end Go.Proofs.Ytdkgkcnllhcamaa.Ae

/-! impl.bigInt: Sub, Quo, DivMod, Div. No condition. -/
namespace Go.Proofs.Ytdkgkcnllhcamaa.Ae
open Go Go.RowKit Go.Proofs.Ytdkgkcnllhcamaa.Dig
variable {N : NR}

/-- What new makes. -/
theorem eB_new : eB .new = .agg [.lit (.bool false), .lit (.slice none 0 0)] := rfl
theorem eB_z (v : Int) : eB (.z v) = eZ v := rfl
@[simp] theorem eB_size (c : BC) : (eB c).size = 2 := by cases c <;> rfl
@[simp] theorem eB_agg (c : BC) : (eB c).isAgg = true := by cases c <;> rfl
@[simp] theorem eB_islit (c : BC) : (eB c).isLit = false := by cases c <;> rfl
theorem iAddC_dd (x y : Int) (c : BC) : iAddC [.ref 0, .dat (.ptr (eZ x)), .dat (.ptr (eZ y))] [eB c] = ((SZ x ∧ SZ y), [.ref 0], [eZ (x + y)]) := ctM_at binE_inj (.dd x y c)
theorem iAddC_zd (x y : Int) : iAddC [.ref 0, .ref 0, .dat (.ptr (eZ y))] [eZ x] = ((SZ x ∧ SZ y), [.ref 0], [eZ (x + y)]) := ctM_at binE_inj (.zd x y)
theorem iMulC_dd (x y : Int) (c : BC) : iMulC [.ref 0, .dat (.ptr (eZ x)), .dat (.ptr (eZ y))] [eB c] = ((SZ x ∧ SZ y), [.ref 0], [eZ (x * y)]) := ctM_at binE_inj (.dd x y c)
theorem iMulC_zd (x y : Int) : iMulC [.ref 0, .ref 0, .dat (.ptr (eZ y))] [eZ x] = ((SZ x ∧ SZ y), [.ref 0], [eZ (x * y)]) := ctM_at binE_inj (.zd x y)
noncomputable def iSubC := ctM binE (fun p => SZ p.x ∧ SZ p.y) (fun p => ([.ref 0], [eZ (p.x - p.y)]))
theorem iSubC_dd (x y : Int) (c : BC) : iSubC [.ref 0, .dat (.ptr (eZ x)), .dat (.ptr (eZ y))] [eB c] = ((SZ x ∧ SZ y), [.ref 0], [eZ (x - y)]) := ctM_at binE_inj (.dd x y c)
theorem iSubC_zd (x y : Int) : iSubC [.ref 0, .ref 0, .dat (.ptr (eZ y))] [eZ x] = ((SZ x ∧ SZ y), [.ref 0], [eZ (x - y)]) := ctM_at binE_inj (.zd x y)
/-! Quo -/
inductive QuA where
  | dd (x y : Int) (c : BC)
def QuA.x : QuA → Int
  | dd x _ _ => x
def QuA.y : QuA → Int
  | dd _ y _ => y
def quE : QuA → List Ar × List D
  | .dd x y c => ([.ref 0, .dat (.ptr (eZ x)), .dat (.ptr (eZ y))], [eB c])
theorem quE_inj : ∀ (p q : QuA), quE p = quE q → p = q
  | .dd a b c, .dd a' b' c', h => by
    simp only [quE, Prod.mk.injEq, List.cons.injEq, and_true, true_and, Ar.dat.injEq, D.ptr.injEq] at h
    rw [eZ_inj h.1.1, eZ_inj h.1.2, eB_inj h.2]
noncomputable def quC := ctM quE (fun p => SZ p.x ∧ SZ p.y ∧ p.y ≠ 0) (fun p => ([.ref 0], [eZ (Int.tdiv p.x p.y)]))
theorem quC_at (x y : Int) (c : BC) : quC [.ref 0, .dat (.ptr (eZ x)), .dat (.ptr (eZ y))] [eB c] = ((SZ x ∧ SZ y ∧ y ≠ 0), [.ref 0], [eZ (Int.tdiv x y)]) := ctM_at quE_inj (.dd x y c)
/-! DivMod, Div -/
noncomputable def dmC := ctM qrE (fun p => SZ p.x ∧ SZ p.y ∧ p.y ≠ 0) (fun p => ([.ref 0, .ref 1], [eZ (p.x / p.y), eZ (p.x % p.y)]))
theorem dmC_at (x y : Int) (c d : BC) : dmC [.ref 0, .dat (.ptr (eZ x)), .dat (.ptr (eZ y)), .ref 1] [eB c, eB d] = ((SZ x ∧ SZ y ∧ y ≠ 0), [.ref 0, .ref 1], [eZ (x / y), eZ (x % y)]) := ctM_at qrE_inj ⟨x, y, c, d⟩
theorem absIC_at (x : Int) (c : BC) : absIC [.ref 0, .dat (.ptr (eZ x))] [eB c] = (SZ x, [.ref 0], [eZ x.natAbs]) := ctM_at unE_inj ⟨x, c⟩
theorem SZ_tdiv {x y : Int} (h : SZ x) : SZ (Int.tdiv x y) := Sm_le (by rw [Int.natAbs_tdiv]; exact Nat.div_le_self _ _) h
theorem SZ_tmod {x y : Int} (h : SZ x) : SZ (Int.tmod x y) := Sm_le (by rw [Int.natAbs_tmod]; exact Nat.mod_le _ _) h
theorem SZ_abs {x : Int} (h : SZ x) : SZ (x.natAbs : Int) := by unfold SZ; rw [Int.natAbs_natCast]; exact h
theorem div_of_neg {x y : Int} (h0 : y ≠ 0) (h : Int.tmod x y < 0) : x / y = Int.tdiv x y - y.sign ∧ x % y = Int.tmod x y + y.natAbs := by
  have h1 : x < 0 := by
    rcases Int.lt_or_le x 0 with h' | h'
    · exact h'
    · exact absurd (Int.tmod_nonneg y h') (by omega)
  have h2 := Int.tdiv_eq_ediv (a := x) (b := y)
  have h3 := Int.tmod_eq_emod (a := x) (b := y)
  have h4 : ¬ (0 ≤ x ∨ y ∣ x) := by
    rintro (h' | h')
    · omega
    · rw [Int.tmod_eq_zero_of_dvd h'] at h; omega
  rw [if_neg h4] at h2 h3
  constructor <;> omega
theorem div_of_nn {x y : Int} (h : 0 ≤ Int.tmod x y) (h0 : y ≠ 0) : x / y = Int.tdiv x y ∧ x % y = Int.tmod x y := by
  have h2 := Int.tdiv_eq_ediv (a := x) (b := y)
  have h3 := Int.tmod_eq_emod (a := x) (b := y)
  by_cases h4 : 0 ≤ x ∨ y ∣ x
  · rw [if_pos h4] at h2 h3
    constructor <;> omega
  · rw [if_neg h4] at h3
    have h5 := Int.emod_lt x h0
    omega
noncomputable def idC := ctM quE (fun p => SZ p.x ∧ SZ p.y ∧ p.y ≠ 0) (fun p => ([.ref 0], [eZ (p.x / p.y)]))
theorem idC_at (x y : Int) (c : BC) : idC [.ref 0, .dat (.ptr (eZ x)), .dat (.ptr (eZ y))] [eB c] = ((SZ x ∧ SZ y ∧ y ≠ 0), [.ref 0], [eZ (x / y)]) := ctM_at quE_inj (.dd x y c)
end Go.Proofs.Ytdkgkcnllhcamaa.Ae

/-! impl.bigInt: GCD, Sqrt. No condition. -/
namespace Go.Proofs.Ytdkgkcnllhcamaa.Ae
open Go Go.RowKit Go.Proofs.Ytdkgkcnllhcamaa.Dig
variable {N : NR}

noncomputable def igC := ctM quE (fun p => SZ p.x ∧ SZ p.y) (fun p => ([.ref 0], [eZ (Int.gcd p.x p.y)]))
theorem igC_at (x y : Int) (c : BC) : igC [.ref 0, .dat (.ptr (eZ x)), .dat (.ptr (eZ y))] [eB c] = ((SZ x ∧ SZ y), [.ref 0], [eZ (Int.gcd x y)]) := ctM_at quE_inj (.dd x y c)
def gcS (c : BC) (x y : Int) : St := ⟨[.obj 30 [] 0, .any, .any, .any, .any, .any, .any, .obj 7 [] 0, .obj 8 [] 0, .any, .any, .any, .any, .any, .any, .any, .any, .any, .any, .any, .any, .any, .any, .any, .any, .any, .any, .any, .any, .any], [none, none, none, none, none, none, none, some (.fbox (eZ x)), some (.fbox (eZ y)), none, none, none, none, none, none, none, none, none, none, none, none, none, none, none, none, none, none, none, none, none, some (.pbox (eB c))]⟩
end Go.Proofs.Ytdkgkcnllhcamaa.Ae

/-! impl.bigInt: Sqrt. No condition. -/
namespace Go.Proofs.Ytdkgkcnllhcamaa.Ae
open Go Go.RowKit Go.Proofs.Ytdkgkcnllhcamaa.Dig
variable {N : NR}

theorem isq_ex : ∀ n : Nat, ∃ k, k * k ≤ n ∧ n < (k + 1) * (k + 1)
  | 0 => ⟨0, by omega, by omega⟩
  | n + 1 => by
    obtain ⟨k, h1, h2⟩ := isq_ex n
    by_cases h : (k + 1) * (k + 1) ≤ n + 1
    · refine ⟨k + 1, h, ?_⟩
      have : (k + 1 + 1) * (k + 1 + 1) = (k + 1) * (k + 1) + 2 * (k + 1) + 1 := by rw [Nat.add_mul, Nat.mul_add]; omega
      omega
    · exact ⟨k, by omega, by omega⟩
/-- The square root, rounded down. -/
noncomputable def isq (n : Nat) : Nat := (isq_ex n).choose
theorem isq_le (n : Nat) : isq n * isq n ≤ n := (isq_ex n).choose_spec.1
theorem isq_lt (n : Nat) : n < (isq n + 1) * (isq n + 1) := (isq_ex n).choose_spec.2
theorem isq_uniq {n k : Nat} (h1 : k * k ≤ n) (h2 : n < (k + 1) * (k + 1)) : isq n = k := by
  have a1 := isq_le n
  have a2 := isq_lt n
  rcases Nat.lt_trichotomy (isq n) k with h | h | h
  · have := Nat.mul_le_mul (show isq n + 1 ≤ k from h) (show isq n + 1 ≤ k from h); omega
  · exact h
  · have := Nat.mul_le_mul (show k + 1 ≤ isq n from h) (show k + 1 ≤ isq n from h); omega

noncomputable def sqrtC := ctM ngE (fun p => (mag p.x.natAbs).length ≤ 1000) (fun p => ([.ref 0], [eZ (isq p.x.natAbs)]))
theorem sqrtC_d (x : Int) (c : BC) : sqrtC [.ref 0, .dat (.ptr (eZ x))] [eB c] = ((mag x.natAbs).length ≤ 1000, [.ref 0], [eZ (isq x.natAbs)]) := ctM_at ngE_inj (.d x c)
theorem sqrtC_r (x : Int) : sqrtC [.ref 0, .ref 0] [eZ x] = ((mag x.natAbs).length ≤ 1000, [.ref 0], [eZ (isq x.natAbs)]) := ctM_at ngE_inj (.r x)
/-- The state of a round: out is still empty, or data. -/
def sqA (x0 : X) (c : D) (j : Int) : St := ⟨[.obj 39 [] 0, x0, .any, .any, .any, .row 8, .dat (.lit (.int .i64 j)), .any, .any, .any, .any, .any, .any, .any, .any, .any, .any, .any, .any, .any, .any, .any, .any, .any, .any, .any, .any, .any, .any, .any, .any, .any, .any, .any, .any, .any, .any, .any, .any], [none, none, none, none, none, none, none, none, some (.frow 1 86 []), none, none, none, none, none, none, none, none, none, none, none, none, none, none, none, none, none, none, none, none, none, none, none, none, none, none, none, none, none, none, some (.pbox c)]⟩
def sqB (x0 : X) (c : D) (o : Nat) (j : Int) : St := ⟨[.obj 39 [] 0, x0, .any, .any, .any, .dat (eM o), .dat (.lit (.int .i64 j)), .any, .any, .any, .any, .any, .any, .any, .any, .any, .any, .any, .any, .any, .any, .any, .any, .any, .any, .any, .any, .any, .any, .any, .any, .any, .any, .any, .any, .any, .any, .any, .any], [none, none, none, none, none, none, none, none, none, none, none, none, none, none, none, none, none, none, none, none, none, none, none, none, none, none, none, none, none, none, none, none, none, none, none, none, none, none, none, some (.pbox c)]⟩
/-- A bit more: what is known behind. -/
theorem sq_step {x o j : Nat} (h1 : o * o ≤ x) (h2 : x < (o + 2 ^ (j + 1)) * (o + 2 ^ (j + 1))) :
    ((o + 2 ^ j) * (o + 2 ^ j) ≤ x → (o + 2 ^ j) * (o + 2 ^ j) ≤ x ∧ x < (o + 2 ^ j + 2 ^ j) * (o + 2 ^ j + 2 ^ j)) ∧ (¬ (o + 2 ^ j) * (o + 2 ^ j) ≤ x → o * o ≤ x ∧ x < (o + 2 ^ j) * (o + 2 ^ j)) := by
  have e : o + 2 ^ (j + 1) = o + 2 ^ j + 2 ^ j := by rw [Nat.pow_succ]; omega
  rw [e] at h2
  exact ⟨fun h => ⟨h, h2⟩, fun h => ⟨h1, by omega⟩⟩
theorem Sm_mul {a b j : Nat} (ha : (mag a).length ≤ j) (hb : (mag b).length ≤ j) (hj : j ≤ 100000) : Sm (a * b) := by
  have h1 := mag_lt.1 ha
  have h2 := mag_lt.1 hb
  have h3 : a * b < B ^ (j + j) := by
    rw [Nat.pow_add]
    rcases Nat.eq_zero_or_pos b with h0 | h0
    · subst h0; rw [Nat.mul_zero]; exact Nat.mul_pos (Nat.pow_pos B_pos) (Nat.pow_pos B_pos)
    · exact Nat.mul_lt_mul'' h1 h2
  have := mag_lt.2 h3
  unfold Sm
  omega
theorem Sm_100 {a : Nat} (ha : (mag a).length ≤ 1002) : Sm a := by unfold Sm; omega
theorem pow32 (j k : Nat) (h : j < 32 * k) : 2 ^ j < B ^ k := by
  have : B ^ k = 2 ^ (32 * k) := by rw [Nat.pow_mul]; rfl
  rw [this]
  exact Nat.pow_lt_pow_right (by omega) h
theorem sq_len {x o j l : Nat} (hl : (mag x).length = l) (hx : l ≤ 1000) (h : o * o ≤ x) (hj : j ≤ 16 * l + 15) : (mag (o + 2 ^ j)).length ≤ 1001 ∧ (mag o).length ≤ 1000 := by
  have ho : o ≤ x := by
    rcases Nat.eq_zero_or_pos o with h0 | h0
    · omega
    · have := Nat.le_mul_of_pos_left o h0; omega
  have h1 := mag_len_le ho
  obtain ⟨m, hm⟩ : ∃ m, m = 1000 := ⟨_, rfl⟩
  have hxm : l ≤ m := by omega
  have key : (mag (o + 2 ^ j)).length ≤ m + 1 := by
    refine mag_lt.2 ?_
    have h2 := mag_lt.1 (show (mag o).length ≤ m by omega)
    have h3 : 2 ^ j < B ^ m := pow32 j m (by omega)
    have h4 : B ^ (m + 1) = B ^ m * B := Nat.pow_succ _ _
    have h5 : B ^ m * 2 ≤ B ^ m * B := Nat.mul_le_mul_left _ (by decide)
    rw [h4]
    generalize B ^ m * B = z1 at *
    generalize B ^ m = z at *
    generalize 2 ^ j = y at *
    omega
  exact ⟨by omega, by omega⟩
theorem cmpV_le {a b : Nat} : cmpV a b ≤ 0 ↔ a ≤ b := by
  have h1 := @cmpV_pos a b
  constructor
  · intro h
    rcases Nat.lt_or_ge b a with h' | h'
    · have := h1.2 h'; omega
    · exact h'
  · intro h
    rcases Int.lt_or_le 0 (cmpV a b) with h' | h'
    · have := h1.1 h'; omega
    · exact h'
def sqI (x0 : X) (c : D) (x l n : Nat) (st : St) : Prop := ∃ o, o * o ≤ x ∧ x < (o + 2 ^ n) * (o + 2 ^ n) ∧ n ≤ 16 * l + 16 ∧ ((o = 0 ∧ st = sqA x0 c ((n : Int) - 1)) ∨ st = sqB x0 c o ((n : Int) - 1))
theorem one_dg : D.sl 1 [.lit (.int .u32 1)] = eM 1 := by
  show _ = D.sl 1 ((mag 1).map dg)
  rw [mag_small (by decide) (by decide)]; rfl
end Go.Proofs.Ytdkgkcnllhcamaa.Ae

/-! Fractions: how many digits they take, and what a quotient in lowest terms is. No condition. -/
namespace Go.Proofs.Ytdkgkcnllhcamaa.Dig

/-- How many digits. -/
def ln (n : Nat) : Nat := (mag n).length
theorem ln_mono {a b : Nat} (h : a ≤ b) : ln a ≤ ln b := mag_len_le h
theorem ln_iff {n k : Nat} : ln n ≤ k ↔ n < B ^ k := mag_lt
theorem ln_mul (a b : Nat) : ln (a * b) ≤ ln a + ln b := by
  have h1 := ln_iff.1 (Nat.le_refl (ln a))
  have h2 := ln_iff.1 (Nat.le_refl (ln b))
  refine ln_iff.2 ?_
  rw [Nat.pow_add]
  exact Nat.mul_lt_mul'' h1 h2
theorem ln_add (a b : Nat) : ln (a + b) ≤ max (ln a) (ln b) + 1 := by
  refine ln_iff.2 ?_
  have h1 := ln_iff.1 (Nat.le_max_left (ln a) (ln b))
  have h2 := ln_iff.1 (Nat.le_max_right (ln a) (ln b))
  rw [Nat.pow_succ]
  have h3 : B ^ max (ln a) (ln b) * 2 ≤ B ^ max (ln a) (ln b) * B := Nat.mul_le_mul_left _ (by decide)
  generalize B ^ max (ln a) (ln b) * B = z1 at *
  generalize B ^ max (ln a) (ln b) = z at *
  omega
theorem ln_one : ln 1 = 1 := by unfold ln; rw [mag_small (by decide) (by decide)]; rfl
theorem ln_zero : ln 0 = 0 := by unfold ln; rw [mag_zero]; rfl
theorem ln_pos {n : Nat} (h : 0 < n) : 1 ≤ ln n := by
  rcases Nat.eq_zero_or_pos (ln n) with h0 | h0
  · unfold ln at h0; rw [mag_len_zero] at h0; omega
  · exact h0
theorem ln_i64 {n : Nat} (h : n < 18446744073709551616) : ln n ≤ 2 := ln_iff.2 (by simp only [B]; omega)

theorem natAbs_ediv_le (n g : Int) : (n / g).natAbs ≤ n.natAbs := by
  by_cases hg : g = 0
  · subst hg; simp
  · exact Int.natAbs_ediv_le_natAbs n g

theorem num_le (n d : Int) : (Rat.divInt n d).num.natAbs ≤ n.natAbs := by
  rw [Rat.num_divInt]
  refine Nat.le_trans (natAbs_ediv_le _ _) ?_
  rw [Int.natAbs_mul]
  have : d.sign.natAbs ≤ 1 := by
    rcases Int.lt_trichotomy d 0 with h | h | h
    · rw [Int.sign_eq_neg_one_of_neg h]; decide
    · subst h; decide
    · rw [Int.sign_eq_one_of_pos h]; decide
  calc d.sign.natAbs * n.natAbs ≤ 1 * n.natAbs := Nat.mul_le_mul_right _ this
    _ = n.natAbs := Nat.one_mul _
theorem den_le {n d : Int} (h : d ≠ 0) : (Rat.divInt n d).den ≤ d.natAbs := by
  rw [Rat.den_divInt, if_neg h]
  exact Nat.div_le_self _ _

/-- How many digits a fraction takes. -/
def qsz (q : Rat) : Nat := max (ln q.num.natAbs) (ln q.den)
theorem qsz_num (q : Rat) : ln q.num.natAbs ≤ qsz q := Nat.le_max_left _ _
theorem qsz_den (q : Rat) : ln q.den ≤ qsz q := Nat.le_max_right _ _
theorem qsz_pos (q : Rat) : 1 ≤ qsz q := Nat.le_trans (ln_pos q.den_pos) (qsz_den q)
theorem qsz_divInt {n d : Int} (h : d ≠ 0) : qsz (Rat.divInt n d) ≤ max (ln n.natAbs) (ln d.natAbs) :=
  Nat.max_le.2 ⟨Nat.le_trans (ln_mono (num_le n d)) (Nat.le_max_left _ _), Nat.le_trans (ln_mono (den_le h)) (Nat.le_max_right _ _)⟩
theorem dz (q : Rat) : (q.den : Int) ≠ 0 := by have := q.den_pos; omega
theorem add_divInt (a b : Rat) : a + b = Rat.divInt (a.num * b.den + b.num * a.den) (a.den * b.den) := by
  have := Rat.divInt_add_divInt a.num b.num (dz a) (dz b)
  rw [Rat.num_divInt_den, Rat.num_divInt_den] at this
  exact this
theorem mul_divInt (a b : Rat) : a * b = Rat.divInt (a.num * b.num) (a.den * b.den) := by
  have := Rat.divInt_mul_divInt a.num b.num (d₁ := a.den) (d₂ := b.den)
  rw [Rat.num_divInt_den, Rat.num_divInt_den] at this
  exact this
theorem neg_divInt (a : Rat) : -a = Rat.divInt (-a.num) a.den := by
  have h : Rat.divInt (-a).num (-a).den = -a := Rat.num_divInt_den _
  rw [Rat.neg_num, Rat.neg_den] at h
  exact h.symm
theorem inv_divInt (a : Rat) : a⁻¹ = Rat.divInt a.den a.num := Rat.inv_def a
theorem div_divInt (a b : Rat) : a / b = Rat.divInt (a.num * b.den) (a.den * b.num) := by
  rw [Rat.div_def, inv_divInt]
  have h := Rat.divInt_mul_divInt a.num b.den (d₁ := a.den) (d₂ := b.num)
  rw [Rat.num_divInt_den] at h
  exact h
theorem dd_ne (a b : Rat) : ((a.den : Int) * b.den) ≠ 0 := Int.mul_ne_zero (dz a) (dz b)
theorem ln_na_mul (a b : Int) : ln (a * b).natAbs ≤ ln a.natAbs + ln b.natAbs := by rw [Int.natAbs_mul]; exact ln_mul _ _
theorem ln_na_add (a b : Int) : ln (a + b).natAbs ≤ max (ln a.natAbs) (ln b.natAbs) + 1 := Nat.le_trans (ln_mono (Int.natAbs_add_le a b)) (ln_add _ _)
theorem ln_na_nat (n : Nat) : ln ((n : Int)).natAbs = ln n := by rw [Int.natAbs_natCast]
theorem add_parts (a b : Rat) : ln (a.num * b.den).natAbs ≤ qsz a + qsz b ∧ ln (b.num * a.den).natAbs ≤ qsz a + qsz b ∧ ln (a.num * b.den + b.num * a.den).natAbs ≤ qsz a + qsz b + 1 ∧ ln ((a.den : Int) * b.den).natAbs ≤ qsz a + qsz b := by
  have h1 := ln_na_mul a.num b.den
  have h2 := ln_na_mul b.num a.den
  have h3 := ln_na_add (a.num * b.den) (b.num * a.den)
  have h4 := ln_na_mul (a.den : Int) b.den
  rw [ln_na_nat] at h1 h2 h4
  rw [ln_na_nat] at h4
  have p1 := qsz_num a
  have p2 := qsz_num b
  have p3 := qsz_den a
  have p4 := qsz_den b
  omega
theorem qsz_add (a b : Rat) : qsz (a + b) ≤ qsz a + qsz b + 1 := by
  obtain ⟨h1, h2, h3, h4⟩ := add_parts a b
  have := qsz_divInt (n := a.num * b.den + b.num * a.den) (dd_ne a b)
  rw [← add_divInt] at this
  omega
theorem mul_parts (a b : Rat) : ln (a.num * b.num).natAbs ≤ qsz a + qsz b ∧ ln ((a.den : Int) * b.den).natAbs ≤ qsz a + qsz b := by
  have h1 := ln_na_mul a.num b.num
  have h4 := ln_na_mul (a.den : Int) b.den
  rw [ln_na_nat, ln_na_nat] at h4
  have p1 := qsz_num a
  have p2 := qsz_num b
  have p3 := qsz_den a
  have p4 := qsz_den b
  omega
theorem qsz_mul (a b : Rat) : qsz (a * b) ≤ qsz a + qsz b := by
  obtain ⟨h1, h2⟩ := mul_parts a b
  have := qsz_divInt (n := a.num * b.num) (dd_ne a b)
  rw [← mul_divInt] at this
  omega
theorem qsz_neg (a : Rat) : qsz (-a) = qsz a := by
  unfold qsz
  rw [Rat.neg_num, Rat.neg_den, Int.natAbs_neg]
theorem qsz_sub (a b : Rat) : qsz (a - b) ≤ qsz a + qsz b + 1 := by
  rw [Rat.sub_eq_add_neg]
  have := qsz_add a (-b)
  rw [qsz_neg] at this
  exact this
theorem num_ne {a : Rat} (h : a ≠ 0) : a.num ≠ 0 := fun h' => h (by rw [← Rat.num_divInt_den a, h']; exact Rat.zero_divInt _)
theorem qsz_inv {a : Rat} (h : a ≠ 0) : qsz a⁻¹ ≤ qsz a := by
  rw [inv_divInt]
  have := qsz_divInt (n := a.den) (num_ne h)
  rw [ln_na_nat] at this
  have p1 := qsz_num a
  have p3 := qsz_den a
  omega
theorem qsz_div {a b : Rat} (h : b ≠ 0) : qsz (a / b) ≤ qsz a + qsz b := by
  rw [Rat.div_def]
  have h1 := qsz_mul a b⁻¹
  have h2 := qsz_inv h
  omega

/-- A quotient in lowest terms, by the greatest common divisor. -/
theorem low_pos {a b : Int} (h : 0 < b) : Int.tdiv a (Int.gcd a b) = (Rat.divInt a b).num ∧ Int.tdiv b (Int.gcd a b) = (Rat.divInt a b).den := by
  rw [Rat.num_divInt, Rat.den_divInt, if_neg (by omega), Int.sign_eq_one_of_pos h, Int.one_mul, Int.gcd_comm b a]
  have h1 : (Int.gcd a b : Int) ∣ a := Int.gcd_dvd_left ..
  have h2 : (Int.gcd a b : Int) ∣ b := Int.gcd_dvd_right ..
  refine ⟨Int.tdiv_eq_ediv_of_dvd h1, ?_⟩
  rw [Int.tdiv_eq_ediv_of_dvd h2]
  obtain ⟨m, rfl⟩ : ∃ m : Nat, b = m := ⟨b.natAbs, by omega⟩
  rw [Int.natAbs_natCast, Int.natCast_ediv]
theorem low_neg {a b : Int} (h : b < 0) : Int.tdiv a (-(Int.gcd a b : Int)) = (Rat.divInt a b).num ∧ Int.tdiv b (-(Int.gcd a b : Int)) = (Rat.divInt a b).den := by
  rw [Rat.num_divInt, Rat.den_divInt, if_neg (by omega), Int.sign_eq_neg_one_of_neg h, Int.gcd_comm b a, Int.tdiv_neg, Int.tdiv_neg]
  have h1 : (Int.gcd a b : Int) ∣ a := Int.gcd_dvd_left ..
  have h2 : (Int.gcd a b : Int) ∣ b := Int.gcd_dvd_right ..
  rw [Int.tdiv_eq_ediv_of_dvd h1, Int.tdiv_eq_ediv_of_dvd h2]
  constructor
  · rw [Int.neg_one_mul, Int.neg_ediv_of_dvd h1]
  · obtain ⟨m, rfl⟩ : ∃ m : Nat, b = -(m : Int) := ⟨b.natAbs, by omega⟩
    rw [Int.natAbs_neg, Int.natAbs_natCast, Int.natCast_ediv]
    have h3 : (Int.gcd a (-(m : Int)) : Int) ∣ (m : Int) := by rw [Int.gcd_neg]; exact Int.gcd_dvd_right ..
    rw [Int.neg_ediv_of_dvd h3, Int.neg_neg]
end Go.Proofs.Ytdkgkcnllhcamaa.Dig

/-! impl.bigRat: SetFrac, Num, Denom, Neg, Inv, Add, Sub, Mul, Cmp, Sign, SetInt, newBigRat. No condition. -/
namespace Go.Proofs.Ytdkgkcnllhcamaa.Ae
open Go Go.RowKit Go.Proofs.Ytdkgkcnllhcamaa.Dig
variable {N : NR}

/-- What lies in a bigRat: a fraction in lowest terms, or what new makes. -/
def eBR (q : Rat) : D := .agg [eZ q.num, eZ q.den]
def eBN : D := .agg [eB .new, eB .new]
@[simp] theorem eBR_size (q : Rat) : (eBR q).size = 4 := rfl
@[simp] theorem eBR_agg (q : Rat) : (eBR q).isAgg = true := rfl
@[simp] theorem eBR_lit (q : Rat) : (eBR q).isLit = false := rfl
theorem eBR_inj {a b : Rat} (h : eBR a = eBR b) : a = b := by
  simp only [eBR, D.agg.injEq, List.cons.injEq, and_true] at h
  have h2 := eZ_inj h.2
  exact Rat.ext (eZ_inj h.1) (by omega)
/-- Numbers of moderate length: fewer than 2 to the 39 digits. -/
def MX : Nat := 549755813888
theorem SZ_ln {a : Int} : SZ a ↔ ln a.natAbs < 1099511627776 := Iff.rfl

structure ZZ where
  a : Int
  b : Int
def sfE (p : ZZ) : List Ar × List D := ([.ref 0, .dat (.ptr (eZ p.a)), .dat (.ptr (eZ p.b))], [eBN])
theorem sfE_inj (p q : ZZ) (h : sfE p = sfE q) : p = q := by
  obtain ⟨a, b⟩ := p; obtain ⟨a', b'⟩ := q
  simp only [sfE, Prod.mk.injEq, List.cons.injEq, and_true, true_and, Ar.dat.injEq, D.ptr.injEq] at h
  rw [eZ_inj h.1, eZ_inj h.2]
noncomputable def sfC := ctM sfE (fun p => SZ p.a ∧ SZ p.b ∧ p.b ≠ 0) (fun p => ([.ref 0], [eBR (Rat.divInt p.a p.b)]))
theorem sfC_at (a b : Int) : sfC [.ref 0, .dat (.ptr (eZ a)), .dat (.ptr (eZ b))] [eBN] = ((SZ a ∧ SZ b ∧ b ≠ 0), [.ref 0], [eBR (Rat.divInt a b)]) := ctM_at sfE_inj ⟨a, b⟩
theorem SZ_gcd {a b : Int} (hb : SZ b) (h0 : b ≠ 0) : SZ (Int.gcd a b) := by
  refine SZ_le ?_ hb
  rw [Int.natAbs_natCast]
  exact Nat.le_of_dvd (by omega) (Nat.gcd_dvd_right _ _)
/-! Num, Denom, Sign -/
structure Q1 where
  a : Rat
def pbE (p : Q1) : List D := [.ptr (eBR p.a)]
theorem pbE_inj (p q : Q1) (h : pbE p = pbE q) : p = q := by
  obtain ⟨a⟩ := p; obtain ⟨b⟩ := q
  simp only [pbE, List.cons.injEq, and_true, D.ptr.injEq] at h
  rw [eBR_inj h]
noncomputable def numC := ctD pbE (fun p => qsz p.a < 1099511627776) (fun p => [.ptr (eZ p.a.num)])
theorem numC_at (a : Rat) : numC [.ptr (eBR a)] = (qsz a < 1099511627776, [.ptr (eZ a.num)]) := ctD_at pbE_inj ⟨a⟩
noncomputable def denC := ctD pbE (fun p => qsz p.a < 1099511627776) (fun p => [.ptr (eZ p.a.den)])
theorem denC_at (a : Rat) : denC [.ptr (eBR a)] = (qsz a < 1099511627776, [.ptr (eZ a.den)]) := ctD_at pbE_inj ⟨a⟩
noncomputable def bsgC := ctD pbE (fun p => True) (fun p => [i64D p.a.num.sign])
theorem bsgC_at (a : Rat) : bsgC [.ptr (eBR a)] = (True, [i64D a.num.sign]) := ctD_at pbE_inj ⟨a⟩
theorem SZ_num {q : Rat} (h : qsz q < 1099511627776) : SZ q.num := Nat.lt_of_le_of_lt (qsz_num q) h
theorem SZ_den {q : Rat} (h : qsz q < 1099511627776) : SZ (q.den : Int) := by
  have := qsz_den q
  rw [SZ_ln, Int.natAbs_natCast]
  omega
end Go.Proofs.Ytdkgkcnllhcamaa.Ae

/-! impl.bigRat: Neg, Inv, Add, Sub, Mul, Cmp, SetInt, newBigRat. No condition. -/
namespace Go.Proofs.Ytdkgkcnllhcamaa.Ae
open Go Go.RowKit Go.Proofs.Ytdkgkcnllhcamaa.Dig
variable {N : NR}

def q1E (p : Q1) : List Ar × List D := ([.ref 0, .dat (.ptr (eBR p.a))], [eBN])
theorem q1E_inj (p q : Q1) (h : q1E p = q1E q) : p = q := by
  obtain ⟨a⟩ := p; obtain ⟨b⟩ := q
  simp only [q1E, Prod.mk.injEq, List.cons.injEq, and_true, true_and, Ar.dat.injEq, D.ptr.injEq] at h
  rw [eBR_inj h]
structure Q2 where
  a : Rat
  b : Rat
def q2E (p : Q2) : List Ar × List D := ([.ref 0, .dat (.ptr (eBR p.a)), .dat (.ptr (eBR p.b))], [eBN])
theorem q2E_inj (p q : Q2) (h : q2E p = q2E q) : p = q := by
  obtain ⟨a, b⟩ := p; obtain ⟨c, d⟩ := q
  simp only [q2E, Prod.mk.injEq, List.cons.injEq, and_true, true_and, Ar.dat.injEq, D.ptr.injEq] at h
  rw [eBR_inj h.1, eBR_inj h.2]
def brMf : FuncId → Bool := fun f => f == 99999999 || f == 99999999 || f == 99999999 || f == 99999999 || f == 99999999
attribute [simp] brMf
@[simp] theorem eBN_size : eBN.size = 4 := rfl
@[simp] theorem eBN_agg : eBN.isAgg = true := rfl
theorem eBN_eq : eBN = .agg [.agg [.lit (.bool false), .lit (.slice none 0 0)], .agg [.lit (.bool false), .lit (.slice none 0 0)]] := rfl
theorem sfC_n (a b : Int) : sfC [.ref 0, .dat (.ptr (eZ a)), .dat (.ptr (eZ b))] [.agg [.agg [.lit (.bool false), .lit (.slice none 0 0)], .agg [.lit (.bool false), .lit (.slice none 0 0)]]] = ((SZ a ∧ SZ b ∧ b ≠ 0), [.ref 0], [eBR (Rat.divInt a b)]) := sfC_at a b
theorem iMulC_n (x y : Int) : iMulC [.ref 0, .dat (.ptr (eZ x)), .dat (.ptr (eZ y))] [.agg [.lit (.bool false), .lit (.slice none 0 0)]] = ((SZ x ∧ SZ y), [.ref 0], [eZ (x * y)]) := iMulC_dd x y .new

noncomputable def bNegC := ctM q1E (fun p => qsz p.a < MX) (fun p => ([.ref 0], [eBR (-p.a)]))
theorem bNegC_at (a : Rat) : bNegC [.ref 0, .dat (.ptr (eBR a))] [eBN] = (qsz a < MX, [.ref 0], [eBR (-a)]) := ctM_at q1E_inj ⟨a⟩
noncomputable def bInvC := ctM q1E (fun p => qsz p.a < MX ∧ p.a ≠ 0) (fun p => ([.ref 0], [eBR p.a⁻¹]))
theorem bInvC_at (a : Rat) : bInvC [.ref 0, .dat (.ptr (eBR a))] [eBN] = ((qsz a < MX ∧ a ≠ 0), [.ref 0], [eBR a⁻¹]) := ctM_at q1E_inj ⟨a⟩
noncomputable def bMulC := ctM q2E (fun p => qsz p.a + qsz p.b < MX) (fun p => ([.ref 0], [eBR (p.a * p.b)]))
theorem bMulC_at (a b : Rat) : bMulC [.ref 0, .dat (.ptr (eBR a)), .dat (.ptr (eBR b))] [eBN] = (qsz a + qsz b < MX, [.ref 0], [eBR (a * b)]) := ctM_at q2E_inj ⟨a, b⟩
noncomputable def bAddC := ctM q2E (fun p => qsz p.a + qsz p.b < MX) (fun p => ([.ref 0], [eBR (p.a + p.b)]))
theorem bAddC_at (a b : Rat) : bAddC [.ref 0, .dat (.ptr (eBR a)), .dat (.ptr (eBR b))] [eBN] = (qsz a + qsz b < MX, [.ref 0], [eBR (a + b)]) := ctM_at q2E_inj ⟨a, b⟩
noncomputable def bSubC := ctM q2E (fun p => qsz p.a + qsz p.b < MX) (fun p => ([.ref 0], [eBR (p.a - p.b)]))
theorem bSubC_at (a b : Rat) : bSubC [.ref 0, .dat (.ptr (eBR a)), .dat (.ptr (eBR b))] [eBN] = (qsz a + qsz b < MX, [.ref 0], [eBR (a - b)]) := ctM_at q2E_inj ⟨a, b⟩
structure Q2c where
  a : Rat
  b : Rat
def bcE (p : Q2c) : List D := [.ptr (eBR p.a), .ptr (eBR p.b)]
theorem bcE_inj (p q : Q2c) (h : bcE p = bcE q) : p = q := by
  obtain ⟨a, b⟩ := p; obtain ⟨c, d⟩ := q
  simp only [bcE, List.cons.injEq, and_true, D.ptr.injEq] at h
  rw [eBR_inj h.1, eBR_inj h.2]
/-- How two fractions compare. -/
def qcmp (a b : Rat) : Int := (a.num * b.den - b.num * a.den).sign
noncomputable def bCmpC := ctD bcE (fun p => qsz p.a + qsz p.b < MX) (fun p => [i64D (qcmp p.a p.b)])
theorem bCmpC_at (a b : Rat) : bCmpC [.ptr (eBR a), .ptr (eBR b)] = (qsz a + qsz b < MX, [i64D (qcmp a b)]) := ctD_at bcE_inj ⟨a, b⟩
def siE (p : Z1) : List Ar × List D := ([.ref 0, .dat (.ptr (eZ p.a))], [eBN])
theorem siE_inj (p q : Z1) (h : siE p = siE q) : p = q := by
  obtain ⟨a⟩ := p; obtain ⟨b⟩ := q
  simp only [siE, Prod.mk.injEq, List.cons.injEq, and_true, true_and, Ar.dat.injEq, D.ptr.injEq] at h
  rw [eZ_inj h]
noncomputable def siC := ctM siE (fun p => SZ p.a) (fun p => ([.ref 0], [eBR (p.a : Rat)]))
theorem siC_at (a : Int) : siC [.ref 0, .dat (.ptr (eZ a))] [eBN] = (SZ a, [.ref 0], [eBR (a : Rat)]) := ctM_at siE_inj ⟨a⟩
noncomputable def nbrC := ctD iiE (fun p => I64 p.a ∧ I64 p.b ∧ p.b ≠ 0) (fun p => [.ptr (eBR (Rat.divInt p.a p.b))])
theorem nbrC_at (a b : Int) : nbrC [i64D a, i64D b] = ((I64 a ∧ I64 b ∧ b ≠ 0), [.ptr (eBR (Rat.divInt a b))]) := ctD_at iiE_inj ⟨a, b⟩
end Go.Proofs.Ytdkgkcnllhcamaa.Ae
