/- Of our texts what the law leans on, in the order in which they build: M2, L13, L14, L15, L16, L20, L21, L22, L23, L24, L25, L26, L27, L28, L29, L30, L31, L32, L33, L34, L35, L36, L37, L38, L39, L40, L41, L50, L51, L52, L53, L54, L55, L56, L57, L58. No condition. -/
import Derived.Test.YtpggfnggffedlaaZQ3
set_option linter.unusedVariables false
set_option linter.unusedSimpArgs false
namespace Go.Proofs.Ytpggfnggffedlaa.Dig
structure Kn (W V P top v2 u0 u1 u2 : Nat) : Prop where
  P0 : 0 < P
  hV : ∃ l, l < P ∧ V = l + P * (v2 + B * top)
  hW : ∃ l, l < P ∧ W = l + P * (u2 + B * (u1 + B * u0))
  v2B : v2 < B
  u2B : u2 < B
  u1B : u1 < B
  t0 : 0 < top
  lt : W < B * V
variable {W V P top v2 u0 u1 u2 : Nat}
theorem Kn.V0 (h : Kn W V P top v2 u0 u1 u2) : P * B ≤ V := by
  obtain ⟨l, _, e⟩ := h.hV
  have h1 : P * (B * 1) ≤ P * (B * top) := Nat.mul_le_mul_left _ (Nat.mul_le_mul_left _ h.t0)
  rw [Nat.mul_one] at h1
  rw [e, Nat.mul_add]; omega
theorem Kn.Vpos (h : Kn W V P top v2 u0 u1 u2) : 0 < V := Nat.lt_of_lt_of_le (Nat.mul_pos h.P0 B_pos) h.V0
theorem Kn.start (h : Kn W V P top v2 u0 u1 u2) : W / V ≤ (u1 + B * u0) / top := by
  rw [Nat.le_div_iff_mul_le h.t0]
  obtain ⟨l, hl, e⟩ := h.hV
  obtain ⟨m, hm, e'⟩ := h.hW
  have h1 : W / V * V ≤ W := Nat.div_mul_le_self _ _
  have h2 : W < P * B * (u1 + B * u0 + 1) := by
    have h3 : P * (u2 + 1) ≤ P * B := Nat.mul_le_mul_left _ h.u2B
    rw [e', Nat.mul_add P, Nat.mul_add (P * B), Nat.mul_one, ← Nat.mul_assoc P B]
    rw [Nat.mul_add, Nat.mul_one] at h3
    omega
  have h4 : P * B * (W / V * top) ≤ W / V * V := by
    have : P * (B * top) ≤ V := by rw [e, Nat.mul_add]; omega
    have := Nat.mul_le_mul_left (W / V) this
    have e3 : P * B * (W / V * top) = W / V * (P * (B * top)) := by simp only [Nat.mul_assoc, Nat.mul_comm, Nat.mul_left_comm]
    omega
  have h5 : P * B * (W / V * top) < P * B * (u1 + B * u0 + 1) := by omega
  have := Nat.lt_of_mul_lt_mul_left h5
  omega
theorem Kn.q_lt (h : Kn W V P top v2 u0 u1 u2) : W / V < B := (Nat.div_lt_iff_lt_mul h.Vpos).2 h.lt
theorem Kn.dec (h : Kn W V P top v2 u0 u1 u2) {g r : Nat} (hi : g * top + r = u1 + B * u0) (hq : W / V ≤ g) (hc : B ≤ g ∨ r * B + u2 < g * v2) : 1 ≤ g ∧ (g - 1) * top + (r + top) = u1 + B * u0 ∧ W / V ≤ g - 1 := by
  have hlt : W / V < g := by
    rcases hc with hc | hc
    · have := h.q_lt; omega
    · rw [Nat.div_lt_iff_lt_mul h.Vpos]
      obtain ⟨l, hl, e⟩ := h.hV
      obtain ⟨m, hm, e'⟩ := h.hW
      have h1 : g * (P * (v2 + B * top)) ≤ g * V := Nat.mul_le_mul_left _ (by omega)
      have h2 : W < P * (u2 + B * (u1 + B * u0) + 1) := by rw [e', Nat.mul_add P _ 1]; omega
      have h3 : u2 + B * (u1 + B * u0) + 1 ≤ g * (v2 + B * top) := by
        rw [← hi, Nat.mul_add B, Nat.mul_add g]
        have e1 : B * (g * top) = g * (B * top) := Nat.mul_left_comm _ _ _
        rw [e1, Nat.mul_comm B r]
        omega
      have h4 : P * (u2 + B * (u1 + B * u0) + 1) ≤ P * (g * (v2 + B * top)) := Nat.mul_le_mul_left _ h3
      have h5 : P * (g * (v2 + B * top)) = g * (P * (v2 + B * top)) := Nat.mul_left_comm _ _ _
      omega
  generalize W / V = q at hlt hq ⊢
  refine ⟨by omega, ?_, by omega⟩
  obtain ⟨k, rfl⟩ : ∃ k, g = k + 1 := ⟨g - 1, by omega⟩
  rw [Nat.add_sub_cancel]
  rw [Nat.add_mul, Nat.one_mul] at hi
  omega
theorem Kn.u0_le (h : Kn W V P top v2 u0 u1 u2) : u0 ≤ top := by
  obtain ⟨l, hl, e⟩ := h.hV
  obtain ⟨m, hm, e'⟩ := h.hW
  have h1 : P * (B * (B * u0)) ≤ W := by
    rw [e', Nat.mul_add P, Nat.mul_add B, Nat.mul_add P]
    omega
  have h2 : V < P * (B * (top + 1)) := by
    have h3 : P * (v2 + 1) ≤ P * B := Nat.mul_le_mul_left _ h.v2B
    rw [Nat.mul_add, Nat.mul_one] at h3
    rw [e, Nat.mul_add B, Nat.mul_add P, Nat.mul_add P, Nat.mul_one]
    omega
  have h3 : B * V < B * (P * (B * (top + 1))) := Nat.mul_lt_mul_of_pos_left h2 B_pos
  have h4 := h.lt
  have e3 : B * (P * (B * (top + 1))) = P * (B * (B * (top + 1))) := Nat.mul_left_comm _ _ _
  have h5 : P * (B * (B * u0)) < P * (B * (B * (top + 1))) := by omega
  have h6 := Nat.lt_of_mul_lt_mul_left (Nat.lt_of_mul_lt_mul_left (Nat.lt_of_mul_lt_mul_left h5))
  omega
theorem Kn.done (h : Kn W V P top v2 u0 u1 u2) {g r : Nat} (hi : g * top + r = u1 + B * u0) (hc : ¬ (r < B ∧ (B ≤ g ∨ r * B + u2 < g * v2))) : g < B ∧ g ≤ W / V + 1 := by
  obtain ⟨l, hl, e⟩ := h.hV
  obtain ⟨m, hm, e'⟩ := h.hW
  by_cases hr : r < B
  · have hg : g < B := by
      rcases Nat.lt_or_ge g B with h1 | h1
      · exact h1
      · exact absurd ⟨hr, .inl h1⟩ hc
    have hv : g * v2 ≤ r * B + u2 := by
      rcases Nat.lt_or_ge (r * B + u2) (g * v2) with h1 | h1
      · exact absurd ⟨hr, .inr h1⟩ hc
      · exact h1
    refine ⟨hg, ?_⟩
    have h1 : g * V < W + V := by
      have h2 : g * (v2 + B * top) ≤ u2 + B * (u1 + B * u0) := by
        rw [← hi, Nat.mul_add B, Nat.mul_add g]
        have e1 : B * (g * top) = g * (B * top) := Nat.mul_left_comm _ _ _
        rw [e1, Nat.mul_comm B r]
        omega
      have h3 : P * (g * (v2 + B * top)) ≤ P * (u2 + B * (u1 + B * u0)) := Nat.mul_le_mul_left _ h2
      have h4 : g * V = g * l + P * (g * (v2 + B * top)) := by rw [e, Nat.mul_add, Nat.mul_left_comm g P]
      have h5 : g * l ≤ g * P := Nat.mul_le_mul_left _ (Nat.le_of_lt hl)
      have h6 : g * P < B * P := Nat.mul_lt_mul_of_pos_right hg h.P0
      have h7 := h.V0
      rw [Nat.mul_comm P B] at h7
      omega
    cases g with
    | zero => exact Nat.zero_le _
    | succ k =>
      have h2 : k * V ≤ W := by rw [Nat.add_mul, Nat.one_mul] at h1; omega
      have h3 := (Nat.le_div_iff_mul_le h.Vpos).2 h2
      exact Nat.succ_le_succ h3
  · have hu := h.u0_le
    have h1 := h.u1B
    have hg : g < B := by
      have h2 : B * u0 ≤ B * top := Nat.mul_le_mul_left _ hu
      have h3 : g * top < B * top := by omega
      exact Nat.lt_of_mul_lt_mul_right h3
    refine ⟨hg, ?_⟩
    have h2 : g * V ≤ W := by
      have h3 : l + P * v2 ≤ P * B := by
        have : P * (v2 + 1) ≤ P * B := Nat.mul_le_mul_left _ h.v2B
        rw [Nat.mul_add, Nat.mul_one] at this
        omega
      have h4 : g * (l + P * v2) ≤ r * (P * B) := Nat.mul_le_mul (by omega) h3
      have h5 : g * V = g * (l + P * v2) + P * B * (g * top) := by
        have e1 : P * B * (g * top) = g * (P * (B * top)) := by simp only [Nat.mul_assoc, Nat.mul_comm, Nat.mul_left_comm]
        rw [e, Nat.mul_add P, ← Nat.add_assoc, Nat.mul_add g, e1]
      have h6 : P * B * (g * top) + P * B * r = P * B * (u1 + B * u0) := by rw [← Nat.mul_add, hi]
      have h7 : P * B * (u1 + B * u0) ≤ W := by
        rw [e', Nat.mul_add P u2, ← Nat.mul_assoc P B]
        omega
      rw [Nat.mul_comm r] at h4
      omega
    exact Nat.le_succ_of_le ((Nat.le_div_iff_mul_le h.Vpos).2 h2)
theorem val_top2 {ds : List Nat} {n : Nat} (hl : ds.length = n + 2) : val ds = val (ds.take n) + B ^ n * (ds.getD n 0 + B * ds.getD (n + 1) 0) := by
  have h1 := val_take_getD ds n
  have h2 := val_take_getD ds (n + 1)
  rw [val_take_all ds (n + 1 + 1) (by omega), h1, Nat.pow_succ, Nat.mul_assoc, Nat.add_assoc, ← Nat.mul_add] at h2
  exact h2
theorem val_top3 {ds : List Nat} {n : Nat} (hl : ds.length = n + 3) : val ds = val (ds.take n) + B ^ n * (ds.getD n 0 + B * (ds.getD (n + 1) 0 + B * ds.getD (n + 2) 0)) := by
  have h1 := val_take_getD ds n
  have h2 := val_take_getD ds (n + 1)
  have h3 := val_take_getD ds (n + 2)
  rw [val_take_all ds (n + 2 + 1) (by omega)] at h3
  have e1 : B ^ (n + 1) = B ^ n * B := Nat.pow_succ ..
  have e2 : B ^ (n + 2) = B ^ n * B * B := by rw [Nat.pow_succ, e1]
  rw [h3, h2, h1, e1, e2]
  simp only [Nat.mul_add, Nat.mul_assoc, Nat.add_assoc]
theorem val_top1 {ds : List Nat} {n : Nat} (hl : ds.length = n + 1) : val ds = val (ds.take n) + B ^ n * ds.getD n 0 := by
  have h1 := val_take_getD ds n
  rwa [val_take_all ds (n + 1) (by omega)] at h1
theorem rest_of {W V M g : Nat} (hV : 0 < V) (hM : W < M) (hVM : V ≤ M) (h1 : W / V ≤ g) (h2 : g ≤ W / V + 1) :
    (W < g * V → g - 1 = W / V ∧ ((W + M - g * V) + V) % M = W % V) ∧ (¬ W < g * V → g = W / V ∧ W - g * V = W % V) := by
  have h3 := Nat.div_add_mod W V
  have h4 := Nat.mod_lt W hV
  rw [Nat.mul_comm] at h3
  generalize W / V = q at *
  generalize W % V = x at *
  have hcase : g = q ∨ g = q + 1 := by omega
  constructor
  · intro hlt
    rcases hcase with rfl | rfl
    · omega
    · refine ⟨by omega, ?_⟩
      rw [Nat.add_mul, Nat.one_mul]
      rw [Nat.add_mul, Nat.one_mul] at hlt
      have e1 : W + M - (q * V + V) + V = x + M * 1 := by omega
      rw [e1, Nat.add_mul_mod_self_left, Nat.mod_eq_of_lt (by omega)]
  · intro hge
    rcases hcase with rfl | rfl
    · exact ⟨rfl, by omega⟩
    · rw [Nat.add_mul, Nat.one_mul] at hge
      omega
end Go.Proofs.Ytpggfnggffedlaa.Dig

namespace Go.Proofs.Ytpggfnggffedlaa.Ae
open Go Go.RowKit Go.Proofs.Ytpggfnggffedlaa.Dig
variable {N : NR}
def noD : List D → Prop × List D := fun _ => (False, [])
theorem noD_spec (f : FuncId) : SpecD N Try.prog f noD := fun ds h => h.elim
noncomputable def divC := ctD n2E (fun p => Sm p.a ∧ Sm p.b ∧ 0 < p.b) (fun p => [eM (p.a / p.b), eM (p.a % p.b)])
theorem divC_at (a b : Nat) : divC [eM a, eM b] = (Sm a ∧ Sm b ∧ 0 < b, [eM (a / b), eM (a % b)]) := ctD_at n2E_inj ⟨a, b⟩
def divMf : FuncId → Bool := fun f => f == 151 || f == 143 || f == 152 || f == 153
noncomputable def divTb : List (FuncId × Ct) := [(143, .win 1 195 trimW trimC), (137, .data cmpC), (149, .data shortC), (150, .data lz32C), (151, .own 1 195 shiftO), (152, .win 1 195 takeW noD), (153, .win 1 195 giveW noD)]
theorem divTb_ok : TbOK N Try.prog (tbl divTb) := tbl_cons trimB_ok trimmed_ok (tbl_cons (c := .data cmpC) cmpMag_spec cmpMag_ok (tbl_cons (c := .data shortC) shortMag_spec shortMag_ok (tbl_cons (c := .data lz32C) lz32_spec lz32_ok (tbl_cons (c := .own 1 195 shiftO) shiftMag_specO shiftMag_ok (tbl_cons (c := .win 1 195 takeW noD) ⟨takeTimes_specW, noD_spec _⟩ takeTimes_ok (tbl_cons (c := .win 1 195 giveW noD) ⟨giveBack_specW, noD_spec _⟩ giveBack_ok tbl_nil))))))
theorem dt1 : tbl divTb 143 = some (.win 1 195 trimW trimC) := rfl
theorem dt2 : tbl divTb 137 = some (.data cmpC) := rfl
theorem dt3 : tbl divTb 149 = some (.data shortC) := rfl
theorem dt4 : tbl divTb 150 = some (.data lz32C) := rfl
theorem dt5 : tbl divTb 151 = some (.own 1 195 shiftO) := rfl
theorem dt6 : tbl divTb 152 = some (.win 1 195 takeW noD) := rfl
theorem dt7 : tbl divTb 153 = some (.win 1 195 giveW noD) := rfl
attribute [simp] dt1 dt2 dt3 dt4 dt5 dt6 dt7 divMf
theorem norm_facts {b n bt sh : Nat} (hn : (mag b).length = n + 1) (hbt : bt = (mag b).getD n 0) (hsh : sh = 32 - bl bt) : sh ≤ 31 ∧ (mag (b * 2 ^ sh)).length = n + 1 ∧ 2147483648 ≤ (mag (b * 2 ^ sh)).getD n 0 := by
  have hbB : bt < 2 ^ 32 := by rw [hbt]; exact getD_lt (mag_digs b) n
  have hb0 : bt ≠ 0 := by
    have h1 : (mag b).getLast? = some bt := by
      rw [List.getLast?_eq_getElem?, hn, Nat.add_sub_cancel, hbt, List.getD_eq_getElem?_getD, List.getElem?_eq_getElem (by omega)]; rfl
    exact mag_last b bt h1
  have h1 : 1 ≤ bl bt := by unfold bl; rw [if_neg hb0]; omega
  have h2 : bl bt ≤ 32 := bl_le hbB
  have h3 := bl_lt (x := bt)
  have h4 := bl_ge hb0
  have hv := val_top1 hn
  rw [val_mag, ← hbt] at hv
  have hlow := val_lt ((mag_digs b).take n)
  rw [List.length_take, Nat.min_eq_left (by omega)] at hlow
  have hB : B = 2 ^ 32 := by decide
  have hup : b * 2 ^ sh < B ^ (n + 1) := by
    have e1 : b < B ^ n * 2 ^ bl bt := by
      have : B ^ n * (bt + 1) ≤ B ^ n * 2 ^ bl bt := Nat.mul_le_mul_left _ h3
      rw [Nat.mul_add, Nat.mul_one] at this
      omega
    have e2 : b * 2 ^ sh < B ^ n * 2 ^ bl bt * 2 ^ sh := Nat.mul_lt_mul_of_pos_right e1 (Nat.pow_pos (by decide))
    have e3 : B ^ n * 2 ^ bl bt * 2 ^ sh = B ^ (n + 1) := by rw [Nat.mul_assoc, ← Nat.pow_add, Nat.pow_succ]; congr 1; rw [hB]; congr 1; omega
    omega
  have hlo : B ^ n * 2147483648 ≤ b * 2 ^ sh := by
    have e1 : B ^ n * 2 ^ (bl bt - 1) ≤ b := by
      have : B ^ n * 2 ^ (bl bt - 1) ≤ B ^ n * bt := Nat.mul_le_mul_left _ h4
      omega
    have e2 : B ^ n * 2 ^ (bl bt - 1) * 2 ^ sh ≤ b * 2 ^ sh := Nat.mul_le_mul_right _ e1
    have e3 : B ^ n * 2 ^ (bl bt - 1) * 2 ^ sh = B ^ n * 2147483648 := by
      rw [Nat.mul_assoc, ← Nat.pow_add]; congr 1
      have : bl bt - 1 + sh = 31 := by omega
      rw [this]
    omega
  have hlen : (mag (b * 2 ^ sh)).length = n + 1 := by
    have e1 := mag_lt.2 hup
    rcases Nat.lt_or_ge (mag (b * 2 ^ sh)).length (n + 1) with e2 | e2
    · have e3 := mag_lt.1 (by omega : (mag (b * 2 ^ sh)).length ≤ n)
      have : B ^ n * 1 ≤ B ^ n * 2147483648 := Nat.mul_le_mul_left _ (by decide)
      omega
    · omega
  refine ⟨by omega, hlen, ?_⟩
  have hv2 := val_top1 hlen
  rw [val_mag] at hv2
  have hlow2 := val_lt ((mag_digs (b * 2 ^ sh)).take n)
  rw [List.length_take, Nat.min_eq_left (by omega)] at hlow2
  have h5 : B ^ n * 2147483648 < B ^ n * ((mag (b * 2 ^ sh)).getD n 0 + 1) := by rw [Nat.mul_add, Nat.mul_one]; omega
  have := Nat.lt_of_mul_lt_mul_left h5
  omega
def sq1 : Code → Code
  | .seq a _ => a
  | c => c
def sq2 : Code → Code
  | .seq _ b => b
  | c => c
def inB : Code → Code
  | .block _ c => c
  | c => c
def inL : Code → Code
  | .loop c => c
  | c => c
noncomputable def divB8 : Code := sq2 (sq2 (sq2 (sq2 (sq2 (sq2 (sq2 (sq2 (Try.f148.body.getD .skip))))))))
noncomputable def divB7 : Code := sq2 (sq2 (sq2 (sq2 (sq2 (sq2 (sq2 (Try.f148.body.getD .skip)))))))
noncomputable def divL2 : Code := inL (inB (sq2 (sq1 divB7)))
def divS1 (a b sh n : Nat) (us vs : List Nat) : St := ⟨[.dat (.sl 1 ((mag a).map dg)), .dat (.sl 1 ((mag b).map dg)), .any, .any, .any, .any, .any, .any, .dat (.lit (.int .u64 sh)), .dat (.lit (.int .i64 n)), .row 55, .row 58, .any, .any, .any, .any, .any, .any, .any, .any, .any, .any, .any, .any, .any, .any, .any, .any, .any, .any, .any, .any, .any, .any, .any, .any, .any, .any, .any, .any, .any, .any, .any, .any, .any, .any, .any, .any, .any, .any, .any, .any, .any, .any, .any, .any, .any, .any, .any, .any, .any, .any, .any, .any, .any, .any, .any, .any, .any, .any, .any, .any, .any, .any, .any, .any, .any, .any, .any, .any, .any, .any, .any, .any, .any, .any, .any, .any, .any, .any, .any, .any, .any, .any, .any, .any, .any, .any, .any, .any, .any, .any, .any, .any, .any, .any, .any, .any, .any, .any, .any, .any, .any, .any, .any, .any, .any, .any, .any, .any, .any, .any, .any, .any, .any, .any, .any, .any, .any, .any, .any, .any, .any, .any, .any, .any, .any, .any, .any, .any, .any, .any, .any, .any, .any, .any, .any, .any, .any, .any, .any, .any, .any, .any, .any, .any, .any, .any, .any, .any, .any, .any, .any, .any, .any, .any, .any, .any, .any, .any, .any, .any, .any, .any, .any, .any, .any, .any, .any, .any, .any, .any, .any, .any, .any, .any, .any, .any, .any, .any, .any, .any, .any, .any, .any, .any, .any, .any, .any, .any, .any, .any, .any, .any, .any, .any, .any], [none, none, none, none, none, none, none, none, none, none, none, none, none, none, none, none, none, none, none, none, none, none, none, none, none, none, none, none, none, none, none, none, none, none, none, none, none, none, none, none, none, none, none, none, none, none, none, none, none, none, none, none, none, none, none, some (.row 1 195 (us.map dg)), none, none, some (.row 1 195 (vs.map dg)), none, none, none, none, none, none, none, none, none, none, none, none, none, none, none, none, none, none, none, none, none, none, none, none, none, none, none, none, none, none, none, none, none, none, none, none, none, none, none, none, none, none, none, none, none, none, none, none, none, none, none, none, none, none, none, none, none, none, none, none, none, none, none, none, none, none, none, none, none, none, none, none, none, none, none, none, none, none, none, none, none, none, none, none, none, none, none, none, none, none, none, none, none, none, none, none, none, none, none, none, none, none, none, none, none, none, none, none, none, none, none, none, none, none, none, none, none, none, none, none, none, none, none, none, none, none, none, none, none, none, none, none, none, none, none, none, none, none, none, none, none, none, none, none, none, none, none, none]⟩
def divS2 (sh n : Nat) (us vs : List Nat) (top : Nat) (qs : List Nat) (k : Nat) : St := ⟨[.any, .any, .any, .any, .any, .any, .any, .any, .dat (.lit (.int .u64 sh)), .dat (.lit (.int .i64 n)), .row 55, .row 58, .dat (.lit (.int .u64 top)), .row 77, .dat (.lit (.int .i64 ((k : Int) - 1))), .any, .any, .any, .any, .any, .any, .any, .any, .any, .any, .any, .any, .any, .any, .any, .any, .any, .any, .any, .any, .any, .any, .any, .any, .any, .any, .any, .any, .any, .any, .any, .any, .any, .any, .any, .any, .any, .any, .any, .any, .any, .any, .any, .any, .any, .any, .any, .any, .any, .any, .any, .any, .any, .any, .any, .any, .any, .any, .any, .any, .any, .any, .any, .any, .any, .any, .any, .any, .any, .any, .any, .any, .any, .any, .any, .any, .any, .any, .any, .any, .any, .any, .any, .any, .any, .any, .any, .any, .any, .any, .any, .any, .any, .any, .any, .any, .any, .any, .any, .any, .any, .any, .any, .any, .any, .any, .any, .any, .any, .any, .any, .any, .any, .any, .any, .any, .any, .any, .any, .any, .any, .any, .any, .any, .any, .any, .any, .any, .any, .any, .any, .any, .any, .any, .any, .any, .any, .any, .any, .any, .any, .any, .any, .any, .any, .any, .any, .any, .any, .any, .any, .any, .any, .any, .any, .any, .any, .any, .any, .any, .any, .any, .any, .any, .any, .any, .any, .any, .any, .any, .any, .any, .any, .any, .any, .any, .any, .any, .any, .any, .any, .any, .any, .any, .any, .any, .any, .any, .any, .any, .any, .any], [none, none, none, none, none, none, none, none, none, none, none, none, none, none, none, none, none, none, none, none, none, none, none, none, none, none, none, none, none, none, none, none, none, none, none, none, none, none, none, none, none, none, none, none, none, none, none, none, none, none, none, none, none, none, none, some (.row 1 195 (us.map dg)), none, none, some (.frow 1 195 (vs.map dg)), none, none, none, none, none, none, none, none, none, none, none, none, none, none, none, none, none, none, some (.row 1 195 (List.replicate k z32 ++ qs.map dg)), none, none, none, none, none, none, none, none, none, none, none, none, none, none, none, none, none, none, none, none, none, none, none, none, none, none, none, none, none, none, none, none, none, none, none, none, none, none, none, none, none, none, none, none, none, none, none, none, none, none, none, none, none, none, none, none, none, none, none, none, none, none, none, none, none, none, none, none, none, none, none, none, none, none, none, none, none, none, none, none, none, none, none, none, none, none, none, none, none, none, none, none, none, none, none, none, none, none, none, none, none, none, none, none, none, none, none, none, none, none, none, none, none, none, none, none, none, none, none, none, none, none, none, none, none, none, none, none, none]⟩
def divSe (sh n : Nat) (us vs : List Nat) (top : Nat) (qs : List Nat) : St := ⟨[.any, .any, .any, .any, .any, .any, .any, .any, .dat (.lit (.int .u64 sh)), .dat (.lit (.int .i64 n)), .row 55, .row 58, .dat (.lit (.int .u64 top)), .row 77, .dat (.lit (.int .i64 (-1))), .any, .any, .any, .any, .any, .any, .any, .any, .any, .any, .any, .any, .any, .any, .any, .any, .any, .any, .any, .any, .any, .any, .any, .any, .any, .any, .any, .any, .any, .any, .any, .any, .any, .any, .any, .any, .any, .any, .any, .any, .any, .any, .any, .any, .any, .any, .any, .any, .any, .any, .any, .any, .any, .any, .any, .any, .any, .any, .any, .any, .any, .any, .any, .any, .any, .any, .any, .any, .dat (.lit (.int .i64 (-1))), .dat (.lit (.bool false)), .any, .any, .any, .any, .any, .any, .any, .any, .any, .any, .any, .any, .any, .any, .any, .any, .any, .any, .any, .any, .any, .any, .any, .any, .any, .any, .any, .any, .any, .any, .any, .any, .any, .any, .any, .any, .any, .any, .any, .any, .any, .any, .any, .any, .any, .any, .any, .any, .any, .any, .any, .any, .any, .any, .any, .any, .any, .any, .any, .any, .any, .any, .any, .any, .any, .any, .any, .any, .any, .any, .any, .any, .any, .any, .any, .any, .any, .any, .any, .any, .any, .any, .any, .any, .any, .any, .any, .any, .any, .any, .any, .any, .any, .any, .any, .any, .any, .any, .any, .any, .any, .any, .any, .any, .any, .any, .any, .any, .any, .any, .any, .any, .any, .any, .any, .any, .any, .any, .any, .any, .any, .any], [none, none, none, none, none, none, none, none, none, none, none, none, none, none, none, none, none, none, none, none, none, none, none, none, none, none, none, none, none, none, none, none, none, none, none, none, none, none, none, none, none, none, none, none, none, none, none, none, none, none, none, none, none, none, none, some (.row 1 195 (us.map dg)), none, none, some (.frow 1 195 (vs.map dg)), none, none, none, none, none, none, none, none, none, none, none, none, none, none, none, none, none, none, some (.row 1 195 (qs.map dg)), none, none, none, none, none, none, none, none, none, none, none, none, none, none, none, none, none, none, none, none, none, none, none, none, none, none, none, none, none, none, none, none, none, none, none, none, none, none, none, none, none, none, none, none, none, none, none, none, none, none, none, none, none, none, none, none, none, none, none, none, none, none, none, none, none, none, none, none, none, none, none, none, none, none, none, none, none, none, none, none, none, none, none, none, none, none, none, none, none, none, none, none, none, none, none, none, none, none, none, none, none, none, none, none, none, none, none, none, none, none, none, none, none, none, none, none, none, none, none, none, none, none, none, none, none, none, none, none, none]⟩
def divS3 (sh n : Nat) (us vs : List Nat) (top : Nat) (qs : List Nat) (k g r : Nat) : St := ⟨[.any, .any, .any, .any, .any, .any, .any, .any, .dat (.lit (.int .u64 sh)), .dat (.lit (.int .i64 n)), .row 55, .row 58, .dat (.lit (.int .u64 top)), .row 77, .dat (.lit (.int .i64 k)), .any, .dat (.lit (.int .u64 g)), .dat (.lit (.int .u64 r)), .any, .any, .any, .any, .any, .any, .any, .any, .any, .any, .any, .any, .any, .any, .any, .any, .any, .any, .any, .any, .any, .any, .any, .any, .any, .any, .any, .any, .any, .any, .any, .any, .any, .any, .any, .any, .any, .any, .any, .any, .any, .any, .any, .any, .any, .any, .any, .any, .any, .any, .any, .any, .any, .any, .any, .any, .any, .any, .any, .any, .any, .any, .any, .any, .any, .any, .any, .any, .any, .any, .any, .any, .any, .any, .any, .any, .any, .any, .any, .any, .any, .any, .any, .any, .any, .any, .any, .any, .any, .any, .any, .any, .any, .any, .any, .any, .any, .any, .any, .any, .any, .any, .any, .any, .any, .any, .any, .any, .any, .any, .any, .any, .any, .any, .any, .any, .any, .any, .any, .any, .any, .any, .any, .any, .any, .any, .any, .any, .any, .any, .any, .any, .any, .any, .any, .any, .any, .any, .any, .any, .any, .any, .any, .any, .any, .any, .any, .any, .any, .any, .any, .any, .any, .any, .any, .any, .any, .any, .any, .any, .any, .any, .any, .any, .any, .any, .any, .any, .any, .any, .any, .any, .any, .any, .any, .any, .any, .any, .any, .any, .any, .any, .any, .any, .any, .any, .any, .any, .any], [none, none, none, none, none, none, none, none, none, none, none, none, none, none, none, none, none, none, none, none, none, none, none, none, none, none, none, none, none, none, none, none, none, none, none, none, none, none, none, none, none, none, none, none, none, none, none, none, none, none, none, none, none, none, none, some (.row 1 195 (us.map dg)), none, none, some (.frow 1 195 (vs.map dg)), none, none, none, none, none, none, none, none, none, none, none, none, none, none, none, none, none, none, some (.row 1 195 (List.replicate (k + 1) z32 ++ qs.map dg)), none, none, none, none, none, none, none, none, none, none, none, none, none, none, none, none, none, none, none, none, none, none, none, none, none, none, none, none, none, none, none, none, none, none, none, none, none, none, none, none, none, none, none, none, none, none, none, none, none, none, none, none, none, none, none, none, none, none, none, none, none, none, none, none, none, none, none, none, none, none, none, none, none, none, none, none, none, none, none, none, none, none, none, none, none, none, none, none, none, none, none, none, none, none, none, none, none, none, none, none, none, none, none, none, none, none, none, none, none, none, none, none, none, none, none, none, none, none, none, none, none, none, none, none, none, none, none, none, none]⟩
end Go.Proofs.Ytpggfnggffedlaa.Ae

namespace Go.Proofs.Ytpggfnggffedlaa.Ae
open Go Go.RowKit Go.Proofs.Ytpggfnggffedlaa.Dig
theorem kn_of {us : List Nat} {V k n2 top : Nat} (hus : Digs us) (hk : k + (n2 + 3) ≤ us.length) (hV : (mag V).length = n2 + 2) (htop : top = (mag V).getD (n2 + 1) 0) (ht : 0 < top) (hlt : val (part us k (n2 + 3)) < B * V) :
    Kn (val (part us k (n2 + 3))) V (B ^ n2) top ((mag V).getD n2 0) (us.getD (k + n2 + 2) 0) (us.getD (k + n2 + 1) 0) (us.getD (k + n2) 0) := by
  have hpl := part_len us k (n2 + 3) hk
  have hpd := part_digs hus k (n2 + 3)
  have hg : ∀ j, j < n2 + 3 → (part us k (n2 + 3)).getD j 0 = us.getD (k + j) 0 := fun j hj => by
    unfold part
    rw [List.getD_eq_getElem?_getD, List.getElem?_take_of_lt hj, List.getElem?_drop, ← List.getD_eq_getElem?_getD]
  have h3 := val_top3 hpl
  have h2 := val_top2 hV
  rw [val_mag, ← htop] at h2
  rw [hg n2 (by omega), hg (n2 + 1) (by omega), hg (n2 + 2) (by omega)] at h3
  refine ⟨Nat.pow_pos B_pos, ⟨_, ?_, h2⟩, ⟨_, ?_, h3⟩, getD_lt (mag_digs V) _, getD_lt hus _, getD_lt hus _, ht, hlt⟩
  · have := val_lt ((mag_digs V).take n2)
    rwa [List.length_take, Nat.min_eq_left (by omega)] at this
  · have := val_lt (hpd.take n2)
    rwa [List.length_take, Nat.min_eq_left (by omega)] at this
theorem part_lt {us : List Nat} {V k n : Nat} (hus : Digs us) (hk : k < us.length) (hV : V < B ^ n) (h : val (us.drop (k + 1)) < V) : val (us.drop k) = val (part us k (n + 1)) ∧ val (us.drop (k + (n + 1))) = 0 ∧ val (part us k (n + 1)) < B * V := by
  have h1 : val (us.drop k) < B * V := by
    rw [drop_val hk]
    have h2 := getD_lt hus k
    have h3 : B * (val (us.drop (k + 1)) + 1) ≤ B * V := Nat.mul_le_mul_left _ h
    rw [Nat.mul_add, Nat.mul_one] at h3
    exact Nat.lt_of_lt_of_le (by rw [Nat.add_comm]; exact Nat.add_lt_add_left h2 _) h3
  have h2 : val (us.drop k) = val (part us k (n + 1)) + B ^ (n + 1) * val (us.drop (k + (n + 1))) := by
    rcases Nat.lt_or_ge (us.length - k) (n + 1) with h3 | h3
    · have e1 : part us k (n + 1) = us.drop k := by unfold part; rw [List.take_of_length_le (by simp; omega)]
      rw [e1, List.drop_eq_nil_of_le (by omega : us.length ≤ k + (n + 1))]
      rw [val, Nat.mul_zero, Nat.add_zero]
    · have := val_take_drop (us.drop k) (n + 1) (by simp; omega)
      rw [List.drop_drop] at this
      exact this
  have h6 : B * V ≤ B ^ (n + 1) := by rw [Nat.pow_succ, Nat.mul_comm]; exact Nat.mul_le_mul_right _ (Nat.le_of_lt hV)
  generalize B ^ (n + 1) = M at h2 h6
  generalize B * V = Z at *
  have h3 : val (us.drop (k + (n + 1))) = 0 := by
    rcases Nat.eq_zero_or_pos (val (us.drop (k + (n + 1)))) with h4 | h4
    · exact h4
    · have h5 : M * 1 ≤ M * val (us.drop (k + (n + 1))) := Nat.mul_le_mul_left _ h4
      omega
  rw [h3, Nat.mul_zero, Nat.add_zero] at h2
  exact ⟨h2, h3, by rw [← h2]; exact h1⟩
theorem put_val {us : List Nat} {k n x : Nat} (hus : Digs us) (hk : k + n ≤ us.length) (hx : x < B ^ n) : Digs (put us k n x) ∧ (put us k n x).length = us.length ∧ val (put us k n x) + B ^ k * val (part us k n) = val us + B ^ k * x ∧ val ((put us k n x).drop k) = x + B ^ n * val (us.drop (k + n)) ∧ part (put us k n x) k n = dig n x := by
  have hl : (us.take k).length = k := by simp; omega
  have hd : (us.take k ++ dig n x).length = k + n := by rw [List.length_append, hl, dig_len]
  have e1 : (put us k n x).drop k = dig n x ++ us.drop (k + n) := by
    unfold put
    rw [List.append_assoc]
    have : ∀ (X Y : List Nat), X.length = k → (X ++ Y).drop k = Y := fun X Y h => by rw [← h, List.drop_left]
    exact this _ _ hl
  have hv2 : val (us.drop k) = val (part us k n) + B ^ n * val (us.drop (k + n)) := by
    have := val_take_drop (us.drop k) n (by simp; omega)
    rw [List.drop_drop] at this
    exact this
  refine ⟨((hus.take k).append (dig_digs n x)).append (hus.drop _), by unfold put; rw [List.length_append, hd, List.length_drop]; omega, ?_, ?_, ?_⟩
  · unfold put
    rw [val_append, hd, val_append, hl, val_dig n x hx, Nat.pow_add]
    have h1 := val_take_drop us k (by omega)
    rw [h1, hv2, Nat.mul_add, Nat.mul_assoc]
    generalize B ^ k * (B ^ n * val (us.drop (k + n))) = z1
    generalize B ^ k * val (part us k n) = z2
    generalize B ^ k * x = z3
    omega
  · rw [e1, val_append, dig_len, val_dig n x hx]
  · unfold part
    rw [e1]
    have : ∀ (X Y : List Nat), X.length = n → (X ++ Y).take n = X := fun X Y h => by rw [← h, List.take_left]
    exact this _ _ (dig_len n x)
set_option maxRecDepth 100000 in
set_option maxHeartbeats 4000000 in
theorem div_step {sh n n1 V top k la : Nat} {us qs : List Nat} (hn2 : 2 ≤ n) (hn1 : n - 1 = n1) (hVl : (mag V).length = n1 + 1) (htop : top = (mag V).getD n1 0) (hVt : 2147483648 ≤ top) (htB : top < 4294967296) (hla : la < 2 ^ 40) (hus : Digs us) (hul : us.length = la + 1) (hkk : k + 1 + n ≤ la + 1) (hdr : val (us.drop (k + 1)) < V)
    (KN : St → Prop) (K : Exit → St → Prop) (hN : ∀ us' q, Digs us' → us'.length = la + 1 → q < B → val (us'.drop k) < V → val us' + V * B ^ k * q = val us → ∀ s', Snd s' (divS2 sh n us' (mag V) top (q :: qs) k) → KN s') :
    awp Try.prog divMf (tbl divTb) divL2 (divS2 sh n us (mag V) top qs (k + 1)) (Klp KN K) := by
  simp only [divL2, divB7, Try.f148, Option.getD, sq1, sq2, inB, inL]
  obtain ⟨n2, hn2'⟩ : ∃ n2, n = n2 + 2 := ⟨n - 2, by omega⟩
  have hkn : k + (n + 1) ≤ us.length := by omega
  obtain ⟨kn, hkn1⟩ : ∃ x, x = k + n := ⟨_, rfl⟩
  obtain ⟨kn1, hkn2⟩ : ∃ x, x = k + n2 + 1 := ⟨_, rfl⟩
  obtain ⟨kn2, hkn3⟩ : ∃ x, x = k + n2 := ⟨_, rfl⟩
  obtain ⟨knp, hkn4⟩ : ∃ x, x = k + n + 1 := ⟨_, rfl⟩
  obtain ⟨np, hnp⟩ : ∃ x, x = n + 1 := ⟨_, rfl⟩
  have p1 : IntKind.i64.wrap ((k : Int) + n) = kn := by rw [wrap_i64]; omega
  have p2 : IntKind.i64.wrap ((kn : Int) - 1) = kn1 := by rw [wrap_i64]; omega
  have p3 : IntKind.i64.wrap ((kn : Int) - 2) = kn2 := by rw [wrap_i64]; omega
  have p4 : IntKind.i64.wrap ((kn : Int) + 1) = knp := by rw [wrap_i64]; omega
  have p5 : ((knp : Int) - k).toNat = np := by omega
  obtain ⟨u0, hu0⟩ : ∃ x, x = us.getD kn 0 := ⟨_, rfl⟩
  obtain ⟨u1, hu1⟩ : ∃ x, x = us.getD kn1 0 := ⟨_, rfl⟩
  obtain ⟨u2, hu2⟩ : ∃ x, x = us.getD kn2 0 := ⟨_, rfl⟩
  obtain ⟨v2, hv2⟩ : ∃ x, x = (mag V).getD n2 0 := ⟨_, rfl⟩
  have hu0B : u0 < 4294967296 := by rw [hu0]; exact getD_lt hus _
  have hu1B : u1 < 4294967296 := by rw [hu1]; exact getD_lt hus _
  have hu2B : u2 < 4294967296 := by rw [hu2]; exact getD_lt hus _
  have hv2B : v2 < 4294967296 := by rw [hv2]; exact getD_lt (mag_digs V) _
  have i0 := ix_dg us kn (by omega)
  have i1 := ix_dg us kn1 (by omega)
  have i2 := ix_dg us kn2 (by omega)
  have i3 := ix_dg (mag V) n2 (by omega)
  rw [← hu0] at i0
  rw [← hu1] at i1
  rw [← hu2] at i2
  rw [← hv2] at i3
  obtain ⟨W, hW⟩ : ∃ W, W = val (part us k np) := ⟨_, rfl⟩
  have hnp2 : np = n2 + 3 := by omega
  have hVlt : V < B ^ n := mag_lt.1 (by omega)
  have hpt := part_lt hus (by omega : k < us.length) hVlt hdr
  rw [← hnp, ← hW] at hpt
  have kk : Kn W V (B ^ n2) top v2 u0 u1 u2 := by
    have := kn_of hus (by omega : k + (n2 + 3) ≤ us.length) (by omega : (mag V).length = n2 + 2) (top := top) (by rw [htop]; congr 1; omega) (by omega) (by rw [← hnp2, ← hW]; exact hpt.2.2)
    rw [← hnp2, ← hW, ← hv2] at this
    have e0 : k + n2 + 2 = kn := by omega
    rw [e0, ← hkn2, ← hkn3, ← hu0, ← hu1, ← hu2] at this
    exact this
  obtain ⟨head, hhead⟩ : ∃ h, h = u1 + B * u0 := ⟨_, rfl⟩
  have t1 : IntKind.u64.wrap (u0 : Int) = u0 := by rw [wrap_u64]; omega
  have t2 : IntKind.u64.wrap ((u0 : Int) * 4294967296) = (u0 : Int) * 4294967296 := by rw [wrap_u64]; omega
  have t3 : IntKind.u64.wrap (u1 : Int) = u1 := by rw [wrap_u64]; omega
  have t4 : bOr .u64 ((u0 : Int) * 4294967296) u1 = head := by
    have := bOr64 (u0 * 4294967296) u1 (by omega) (by omega)
    rw [or_cut u0 u1 hu1B] at this
    have e : u0 * 4294967296 + u1 = head := by rw [hhead]; simp only [B]; omega
    rw [e] at this
    rw [← this]; congr 1
  have hheadB : head < 18446744073709551616 := by rw [hhead]; simp only [B]; omega
  have ht0 : 0 < top := by omega
  obtain ⟨g0, hg0⟩ : ∃ g, g = head / top := ⟨_, rfl⟩
  obtain ⟨r0, hr0⟩ : ∃ g, g = head % top := ⟨_, rfl⟩
  have t5 := tdiv_nat head top
  rw [← hg0] at t5
  have t6 := tmod_nat head top
  rw [← hr0] at t6
  have hg0B : g0 < 17179869184 := by
    rw [hg0, Nat.div_lt_iff_lt_mul ht0]
    have : 17179869184 * 2147483648 ≤ 17179869184 * top := Nat.mul_le_mul_left _ hVt
    omega
  have hr0B : r0 < top := by rw [hr0]; exact Nat.mod_lt _ ht0
  have t7 : IntKind.u64.wrap (g0 : Int) = g0 := by rw [wrap_u64]; omega
  have t8 : ¬ top = 0 := by omega
  have t9 : (kn1 : Int) < us.length := by omega
  have t10 : (kn : Int) < us.length := by omega
  simp [divS2, p1, p2, i0, i1, dg, t1, t2, t3, t4, t5, t6, t7, t8, t9, t10]
  have hVm : val (mag V) = V := val_mag V
  have hV0 := kk.Vpos
  have p6 : (k : Int) ≤ knp := by omega
  have p7 : (knp : Int) ≤ us.length := by omega
  have p8 : k + np ≤ us.length := by omega
  have p9 : 0 < us.length := by omega
  have p10 : 0 < np := by omega
  have p11 : IntKind.i64.wrap ((k : Int) - 1) = (k : Int) - 1 := by rw [wrap_i64]; omega
  have p12 : IntKind.i64.wrap ((n : Int) - 2) = n2 := by rw [wrap_i64]; omega
  have p13 : (kn2 : Int) < us.length := by omega
  have hnV : (mag V).length < np := by omega
  have hVn : (mag V).length ≤ np := by omega
  have hul41 : us.length < 2 ^ 41 := by omega
  have hWM : W < B ^ np := by rw [hW]; have := val_lt (part_digs hus k np); rwa [part_len us k np p8] at this
  have hVM : V ≤ B ^ np := Nat.le_trans (Nat.le_of_lt hVlt) (Nat.pow_le_pow_right B_pos (by omega))
  have hz : val (us.drop (k + np)) = 0 := hpt.2.1
  -- the end of a round
  have hend : ∀ us2 q, Digs us2 → us2.length = us.length → q = W / V → val us2 + B ^ k * W = val us + B ^ k * (W % V) → val (us2.drop k) = W % V + B ^ np * val (us.drop (k + np)) → ∀ s', Snd s' (divS2 sh n us2 (mag V) top (q :: qs) k) → KN s' := by
    intro us2 q h1 h2 h3 h4 h5 s' hs
    refine hN us2 q h1 (by omega) (by rw [h3]; exact kk.q_lt) ?_ ?_ s' hs
    · rw [h5, hz, Nat.mul_zero, Nat.add_zero]; exact Nat.mod_lt _ hV0
    · have h6 := Nat.div_add_mod W V
      rw [← h3] at h6
      have h7 := congrArg (B ^ k * ·) h6
      simp only [Nat.mul_add] at h7
      have h8 : V * B ^ k * q = B ^ k * (V * q) := by simp only [Nat.mul_assoc, Nat.mul_comm, Nat.mul_left_comm]
      rw [h8]
      omega
  refine loop_go (fun m st => ∃ g r : Nat, g * top + r = head ∧ W / V ≤ g ∧ m = g ∧ g < 17179869184 ∧ r < 8589934592 ∧ st = divS3 sh n us (mag V) top qs k g r) (s0 := divS3 sh n us (mag V) top qs k g0 r0) (n := g0)
    (snd_of (by simp [LeT, divS3]) (by simp [divS3])) ⟨g0, r0, by rw [hg0, hr0, Nat.mul_comm]; exact Nat.div_add_mod _ _, by rw [hg0, hhead]; exact kk.start, rfl, hg0B, by omega, rfl⟩ ?_
  rintro g st ⟨_, r, hgr, hWg, rfl, hgB, hrB, rfl⟩ KM hM
  rw [hhead] at hgr
  clear t5 t6 t7 t1 t2 t3 t4 hg0 hr0 hg0B hr0B
  have y1 : IntKind.u64.wrap (v2 : Int) = v2 := by rw [wrap_u64]; omega
  have y2 : IntKind.u64.wrap (u2 : Int) = u2 := by rw [wrap_u64]; omega
  have hdec : r < B → (B ≤ g ∨ r * B + u2 < g * v2) → IntKind.u64.wrap ((g : Int) - 1) = ((g - 1 : Nat) : Int) ∧ IntKind.u64.wrap ((r : Int) + top) = ((r + top : Nat) : Int) ∧ ∀ s', Snd s' (divS3 sh n us (mag V) top qs k (g - 1) (r + top)) → KM s' := by
    intro h1 h2
    obtain ⟨h3, h4, h5⟩ := kk.dec hgr hWg h2
    simp only [B] at h1
    refine ⟨by rw [wrap_u64]; omega, by rw [wrap_u64]; omega, fun s' hs => hM s' (nx (m := g - 1) hs ⟨g - 1, r + top, by rw [hhead]; exact h4, h5, rfl, by omega, by omega, rfl⟩ (by omega))⟩
  clear hM
  by_cases hc : r < B ∧ (B ≤ g ∨ r * B + u2 < g * v2)
  · obtain ⟨d1, d2, d3⟩ := hdec hc.1 hc.2
    have hrB' : r < 4294967296 := hc.1
    have x1 : (r : Int) < 4294967296 := by omega
    generalize g - 1 = gm at *
    generalize r + top = rt at *
    by_cases c2 : B ≤ g
    · have x2 : (4294967296 : Int) ≤ g := by simp only [B] at c2; omega
      simp [divS3, x1, x2, d1, d2]
      exact d3 _ (snd_of (by simp [LeT, divS3]) (by simp [divS3]))
    · have x2 : ¬ (4294967296 : Int) ≤ g := by simp only [B] at c2; omega
      have hr1 : r * 4294967296 < 18446744073709551616 := by omega
      have hu1' : u2 < 18446744073709551616 := by omega
      have c3 : r * B + u2 < g * v2 := by rcases hc.2 with h | h; exact absurd h c2; exact h
      simp only [B] at c2 c3
      obtain ⟨gv, hgv⟩ : ∃ x, x = g * v2 := ⟨_, rfl⟩
      have hg1 : g ≤ 4294967295 := by omega
      have hv1 : v2 ≤ 4294967295 := by omega
      have hgvB : g * v2 ≤ 4294967295 * 4294967295 := Nat.mul_le_mul hg1 hv1
      rw [← hgv] at hgvB
      have y3 : (g : Int) * v2 = gv := by rw [hgv]; exact (Int.natCast_mul _ _).symm
      have y4 : IntKind.u64.wrap (gv : Int) = gv := by rw [wrap_u64]; omega
      have y5 : IntKind.u64.wrap ((r : Int) * 4294967296) = (r : Int) * 4294967296 := by rw [wrap_u64]; omega
      obtain ⟨ru, hru⟩ : ∃ x, x = r * 4294967296 + u2 := ⟨_, rfl⟩
      have y6 : bOr .u64 ((r : Int) * 4294967296) u2 = ru := by
        have := bOr64 (r * 4294967296) u2 hr1 hu1'
        rw [or_cut r u2 hu2B, ← hru] at this
        rw [← this]; congr 1
      have y7 : (ru : Int) < gv := by omega
      simp [divS3, x1, x2, d1, d2, p12, i3, p1, p3, i2, dg, y1, y2, y3, y4, y5, y6, y7, p13]
      exact ⟨by omega, d3 _ (snd_of (by simp [LeT, divS3]) (by simp [divS3]))⟩
  · clear hdec
    obtain ⟨hgB, hgW⟩ := kk.done hgr hc
    have hrest := rest_of hV0 hWM hVM hWg hgW
    have hgB' : g < 4294967296 := hgB
    have z1 : IntKind.u32.wrap (g : Int) = g := by rw [wrap_u32]; omega
    have tk := takeW_at us k np (mag V) g
    rw [← hW, hVm] at tk
    simp only [hus, mag_digs V, hgB, hnV, p8, hul41, and_self] at tk
    obtain ⟨us1, hus1⟩ : ∃ x, x = put us k np (tkV us k np (mag V) g) := ⟨_, rfl⟩
    rw [← hus1] at tk
    simp only [eW, dg] at tk
    have hk1 : (k : Int) < k + 1 + qs.length := by omega
    have hn2V : n2 < (mag V).length := by omega
    have hru : r < 4294967296 → ∃ gv ru : Nat, (g : Int) * v2 = gv ∧ IntKind.u64.wrap (gv : Int) = gv ∧ IntKind.u64.wrap ((r : Int) * 4294967296) = (r : Int) * 4294967296 ∧ bOr .u64 ((r : Int) * 4294967296) u2 = ru ∧ ¬ (ru : Int) < gv := by
      intro c1
      have hg1 : g ≤ 4294967295 := by omega
      have hv1 : v2 ≤ 4294967295 := by omega
      have hr1 : r * 4294967296 < 18446744073709551616 := by omega
      have hu1' : u2 < 18446744073709551616 := by omega
      have c3 : ¬ r * 4294967296 + u2 < g * v2 := fun h => hc ⟨c1, .inr h⟩
      have y5 : IntKind.u64.wrap ((r : Int) * 4294967296) = (r : Int) * 4294967296 := by rw [wrap_u64]; omega
      have hgvB : g * v2 ≤ 4294967295 * 4294967295 := Nat.mul_le_mul hg1 hv1
      refine ⟨g * v2, r * 4294967296 + u2, (Int.natCast_mul _ _).symm, by rw [wrap_u64]; omega, y5, ?_, by omega⟩
      have := bOr64 (r * 4294967296) u2 hr1 hu1'
      rw [or_cut r u2 hu2B] at this
      rw [← this]; congr 1
    have x2 : ¬ (4294967296 : Int) ≤ g := by omega
    by_cases hWV : W < g * V
    · obtain ⟨f1, f2⟩ := hrest.1 hWV
      have hx1 : tkV us k np (mag V) g = W + B ^ np - g * V := by unfold tkV; rw [← hW, hVm, if_pos hWV]
      have hlt1 : W + B ^ np - g * V < B ^ np := by
        generalize g * V = z at *
        generalize B ^ np = M at *
        omega
      rw [hx1] at hus1
      obtain ⟨a1, a2, a3, a4, a5⟩ := put_val hus p8 hlt1
      rw [← hus1] at a1 a2 a3 a4 a5
      rw [← hW] at a3
      have gb := giveW_at us1 k np (mag V)
      rw [a5, val_dig np _ hlt1, hVm, f2] at gb
      have p8' : k + np ≤ us1.length := by omega
      have hul41' : us1.length < 2 ^ 41 := by omega
      have hmod : W % V < B ^ np := Nat.lt_of_lt_of_le (Nat.mod_lt _ hV0) hVM
      obtain ⟨b1, b2, b3, b4, b5⟩ := put_val a1 p8' hmod
      obtain ⟨us2, hus2⟩ : ∃ x, x = put us1 k np (W % V) := ⟨_, rfl⟩
      rw [← hus2] at gb b1 b2 b3 b4 b5
      simp only [a1, mag_digs V, hVn, p8', hul41', and_self] at gb
      simp only [eW] at gb
      have hdr2 : val (us1.drop (k + np)) = val (us.drop (k + np)) := by
        have h1 : us1.drop (k + np) = us.drop (k + np) := by
          rw [hus1]
          unfold put
          have : ∀ (X Y : List Nat), X.length = k + np → (X ++ Y).drop (k + np) = Y := fun X Y h => by rw [← h, List.drop_left]
          exact this _ _ (by rw [List.length_append, dig_len, List.length_take, Nat.min_eq_left (by omega)])
        rw [h1]
      rw [hdr2] at b4
      rw [a5, val_dig np _ hlt1] at b3
      have hfin := hend us2 (g - 1) b1 (by omega) f1 (by
        generalize B ^ k * (W + B ^ np - g * V) = z at *
        omega) b4
      have z2 : IntKind.u64.wrap ((g : Int) - 1) = ((g - 1 : Nat) : Int) := by
        have : 1 ≤ g := by
          rcases Nat.eq_zero_or_pos g with h | h
          · rw [h, Nat.zero_mul] at hWV; omega
          · exact h
        rw [wrap_u64]; omega
      generalize hgm : g - 1 = gm at *
      have z3 : IntKind.u32.wrap (gm : Int) = gm := by rw [wrap_u32]; omega
      have p6' : (knp : Int) ≤ us1.length := by omega
      have p9' : 0 < us1.length := by omega
      by_cases c1 : r < 4294967296
      · have x1 : (r : Int) < 4294967296 := by omega
        obtain ⟨gv, ru, y3, y4, y5, y6, y7⟩ := hru c1
        simp [divS3, x1, x2, p12, i3, p3, i2, y1, y2, y3, y4, y5, y6, y7, p13, hn2V, p1, p4, p5, p6, p7, p8, p9, p10, p11, z1, z2, z3, tk, gb, hWV, p6', p8', p9', a2, b2, hk1, ix_rev, lset_rev, dg]
        exact ⟨⟨rfl, rfl⟩, hfin _ (snd_of (by simp [LeT, divS2]) (by simp [divS2, dg]))⟩
      · have x1 : ¬ (r : Int) < 4294967296 := by omega
        simp [divS3, x1, p1, p4, p5, p6, p7, p8, p9, p10, p11, z1, z2, z3, tk, gb, hWV, p6', p8', p9', a2, b2, hk1, ix_rev, lset_rev, dg]
        exact ⟨⟨rfl, rfl⟩, hfin _ (snd_of (by simp [LeT, divS2]) (by simp [divS2, dg]))⟩
    · obtain ⟨f1, f2⟩ := hrest.2 hWV
      have hx1 : tkV us k np (mag V) g = W % V := by unfold tkV; rw [← hW, hVm, if_neg hWV, f2]
      have hmod : W % V < B ^ np := Nat.lt_of_lt_of_le (Nat.mod_lt _ hV0) hVM
      rw [hx1] at hus1
      obtain ⟨a1, a2, a3, a4, a5⟩ := put_val hus p8 hmod
      rw [← hus1] at a1 a2 a3 a4 a5
      rw [← hW] at a3
      have hfin := hend us1 g a1 a2 f1 a3 a4
      by_cases c1 : r < 4294967296
      · have x1 : (r : Int) < 4294967296 := by omega
        obtain ⟨gv, ru, y3, y4, y5, y6, y7⟩ := hru c1
        simp [divS3, x1, x2, p12, i3, p3, i2, y1, y2, y3, y4, y5, y6, y7, p13, hn2V, p1, p4, p5, p6, p7, p8, p9, p10, p11, z1, tk, hWV, a2, hk1, ix_rev, lset_rev, dg]
        exact ⟨⟨rfl, rfl⟩, hfin _ (snd_of (by simp [LeT, divS2]) (by simp [divS2, dg]))⟩
      · have x1 : ¬ (r : Int) < 4294967296 := by omega
        simp [divS3, x1, p1, p4, p5, p6, p7, p8, p9, p10, p11, z1, tk, hWV, a2, hk1, ix_rev, lset_rev, dg]
        exact ⟨⟨rfl, rfl⟩, hfin _ (snd_of (by simp [LeT, divS2]) (by simp [divS2, dg]))⟩
end Go.Proofs.Ytpggfnggffedlaa.Ae

namespace Go.Proofs.Ytpggfnggffedlaa.Ae
open Go Go.RowKit Go.Proofs.Ytpggfnggffedlaa.Dig
theorem mag_getD : ∀ (i n : Nat), (mag n).getD i 0 = n / B ^ i % B
  | i, 0 => by rw [mag_zero]; simp
  | 0, n + 1 => by rw [mag_pos (by omega)]; simp
  | i + 1, n + 1 => by
    rw [mag_pos (by omega), List.getD_cons_succ, mag_getD i, Nat.div_div_eq_div_mul, Nat.pow_succ, Nat.mul_comm B]
theorem shr_digit (R sh i : Nat) (h : sh ≤ 31) : (R / 2 ^ sh) / B ^ i % B = ((R / B ^ (i + 1) % B) * B + R / B ^ i % B) / 2 ^ sh % B := by
  have hB : B = 2 ^ sh * 2 ^ (32 - sh) := by
    rw [← Nat.pow_add]
    have : sh + (32 - sh) = 32 := by omega
    rw [this]; rfl
  have hp : 0 < 2 ^ sh := Nat.pow_pos (by decide)
  rw [Nat.div_div_eq_div_mul, Nat.mul_comm, ← Nat.div_div_eq_div_mul]
  have e1 : R / B ^ (i + 1) = R / B ^ i / B := by rw [Nat.pow_succ, Nat.div_div_eq_div_mul]
  rw [e1]
  generalize R / B ^ i = z
  obtain ⟨x, hx⟩ : ∃ x, x = z % B := ⟨_, rfl⟩
  obtain ⟨y, hy⟩ : ∃ y, y = z / B % B := ⟨_, rfl⟩
  obtain ⟨t, ht⟩ : ∃ t, t = z / B / B := ⟨_, rfl⟩
  have hz : z = x + B * (y + B * t) := by
    rw [hx, hy, ht, Nat.mod_add_div, Nat.mod_add_div]
  rw [← hx, ← hy]
  have e2 : z = (y * B + x) + 2 ^ sh * (2 ^ (32 - sh) * (B * t)) := by
    have h1 : 2 ^ sh * (2 ^ (32 - sh) * (B * t)) = B * (B * t) := by rw [← Nat.mul_assoc, ← hB]
    rw [h1, hz, Nat.mul_add, Nat.mul_comm y]; omega
  conv => lhs; rw [e2]
  rw [Nat.add_mul_div_left _ _ hp]
  have e3 : 2 ^ (32 - sh) * (B * t) = B * (2 ^ (32 - sh) * t) := Nat.mul_left_comm _ _ _
  rw [e3, Nat.add_mul_mod_self_left]
def divS4 (sh : Nat) (us : List Nat) (n : Nat) (qs : List Nat) (i : Nat) : St := ⟨[.any, .any, .any, .any, .any, .any, .any, .any, .dat (.lit (.int .u64 sh)), .any, .any, .any, .any, .row 77, .any, .any, .any, .any, .win 55 0 n, .any, .any, .any, .any, .any, .any, .any, .any, .any, .any, .any, .any, .any, .any, .any, .any, .any, .any, .any, .any, .any, .any, .any, .any, .any, .any, .any, .any, .any, .any, .any, .any, .any, .any, .any, .any, .any, .any, .any, .any, .any, .any, .any, .any, .any, .any, .any, .any, .any, .any, .any, .any, .any, .any, .any, .any, .any, .any, .any, .any, .any, .any, .any, .any, .any, .any, .any, .any, .any, .any, .any, .any, .any, .any, .any, .any, .any, .any, .any, .any, .any, .any, .any, .any, .any, .any, .any, .any, .any, .any, .any, .any, .any, .any, .any, .any, .any, .any, .any, .any, .any, .any, .any, .any, .any, .any, .any, .any, .any, .any, .any, .any, .any, .any, .any, .any, .any, .any, .any, .any, .any, .any, .any, .any, .any, .any, .any, .any, .any, .any, .any, .any, .any, .any, .any, .any, .any, .any, .any, .any, .any, .any, .any, .any, .any, .any, .any, .any, .any, .any, .any, .any, .any, .any, .dat (.lit (.int .i64 n)), .dat (.lit (.int .i64 i)), .any, .any, .any, .any, .any, .any, .any, .any, .any, .any, .any, .any, .any, .any, .any, .any, .any, .any, .any, .any, .any, .any, .any, .any, .any, .any, .any, .any, .any, .any, .any, .any], [none, none, none, none, none, none, none, none, none, none, none, none, none, none, none, none, none, none, none, none, none, none, none, none, none, none, none, none, none, none, none, none, none, none, none, none, none, none, none, none, none, none, none, none, none, none, none, none, none, none, none, none, none, none, none, some (.row 1 195 (us.map dg)), none, none, none, none, none, none, none, none, none, none, none, none, none, none, none, none, none, none, none, none, none, some (.row 1 195 (qs.map dg)), none, none, none, none, none, none, none, none, none, none, none, none, none, none, none, none, none, none, none, none, none, none, none, none, none, none, none, none, none, none, none, none, none, none, none, none, none, none, none, none, none, none, none, none, none, none, none, none, none, none, none, none, none, none, none, none, none, none, none, none, none, none, none, none, none, none, none, none, none, none, none, none, none, none, none, none, none, none, none, none, none, none, none, none, none, none, none, none, none, none, none, none, none, none, none, none, none, none, none, none, none, none, none, none, none, none, none, none, none, none, none, none, none, none, none, none, none, none, none, none, none, none, none, none, none, none, none, none, none]⟩
set_option maxRecDepth 100000 in
set_option maxHeartbeats 4000000 in
theorem div_tail {sh n V top Q R : Nat} {us qs : List Nat} (hsh : sh ≤ 31) (hus : Digs us) (hqs : Digs qs) (hul : us.length < 2 ^ 41) (hql : qs.length < 2 ^ 41) (hu0 : 0 < us.length) (hq0 : 0 < qs.length) (hQ : val qs = Q) (hR : val us = R * 2 ^ sh) :
    awp Try.prog divMf (tbl divTb) divB8 (divSe sh n us (mag V) top qs) (endK Try.prog 207 [.tmp 4, .tmp 5] [.dat (.sl 1 ((mag Q).map dg)), .dat (.sl 1 ((mag R).map dg))] []) := by
  simp only [divB8, Try.f148, Option.getD, sq1, sq2, inB, inL]
  obtain ⟨Z, hZ⟩ : ∃ Z, Z = R * 2 ^ sh := ⟨_, rfl⟩
  rw [← hZ] at hR
  obtain ⟨m, hm⟩ : ∃ m, m = (mag Z).length := ⟨_, rfl⟩
  have hmu : m ≤ us.length := by rw [hm]; exact mag_lt.2 (by rw [← hR]; exact val_lt hus)
  have htk : us.take m = mag Z := by
    have h1 : dig us.length Z = us := dig_of hus rfl hR
    rw [hm]
    conv => lhs; rw [← h1]
    exact dig_take _ _ (by omega)
  have t1 := trimW_at us 0 us.length
  have hp1 : part us 0 us.length = us := by unfold part; rw [List.drop_zero, List.take_of_length_le (Nat.le_refl _)]
  have hul62 : us.length < 2 ^ 62 := by omega
  rw [hp1, hR, ← hm] at t1
  simp only [hus, hul62, and_self] at t1
  simp [divSe, t1, hu0]
  refine loop_go (fun j st => ∃ (os : List Nat), Digs os ∧ os.length + j = m ∧ val os = (Z / 2 ^ sh) % B ^ os.length ∧ st = divS4 sh (os ++ us.drop os.length) m qs os.length) (s0 := divS4 sh us m qs 0) (n := m)
    (snd_obs (n := 207) [(55, 55, .row 1 195 (us.map dg)), (77, 77, .row 1 195 (qs.map dg))] rfl (by simp) (by simp [divS4])) ⟨[], Digs.nil, by simp, by simp [val, Nat.mod_one], by simp⟩ ?_
  rintro j st ⟨os, hos, hol, hov, rfl⟩ KN hN
  have hp2 : 0 < 2 ^ sh := Nat.pow_pos (by decide)
  have hZR : Z / 2 ^ sh = R := by rw [hZ, Nat.mul_div_cancel _ hp2]
  cases j with
  | zero =>
    have hom : os.length = m := by omega
    have hRZ : R ≤ Z := by rw [hZ]; exact Nat.le_mul_of_pos_right _ hp2
    have hRm : R < B ^ m := Nat.lt_of_le_of_lt hRZ (by rw [hm]; exact mag_lt.1 (Nat.le_refl _))
    have hoR : val os = R := by rw [hov, hZR, hom, Nat.mod_eq_of_lt hRm]
    obtain ⟨cur, hcur⟩ : ∃ x, x = os ++ us.drop os.length := ⟨_, rfl⟩
    have hcl : cur.length = us.length := by rw [hcur, List.length_append, List.length_drop]; omega
    have hcd : Digs cur := by rw [hcur]; exact hos.append (hus.drop _)
    have hpc : part cur 0 m = os := by
      unfold part
      rw [List.drop_zero, hcur, ← hom, List.take_left]
    have t2 := trimW_at cur 0 m
    have hcl62 : cur.length < 2 ^ 62 := by omega
    rw [hpc, hoR] at t2
    simp only [hcd, hcl62, and_self] at t2
    have t3 := trimW_at qs 0 qs.length
    have hp3 : part qs 0 qs.length = qs := by unfold part; rw [List.drop_zero, List.take_of_length_le (Nat.le_refl _)]
    have hql62 : qs.length < 2 ^ 62 := by omega
    rw [hp3, hQ] at t3
    simp only [hqs, hql62, and_self] at t3
    have hmR : (mag R).length ≤ m := mag_lt.2 hRm
    have k1 : (cur.map dg).take (mag R).length = (mag R).map dg := by
      rw [← List.map_take]
      congr 1
      have h1 : dig os.length R = os := dig_of hos rfl hoR
      have h2 : cur.take (mag R).length = os.take (mag R).length := by rw [hcur, List.take_append_of_le_length (by omega)]
      rw [h2]
      conv => lhs; rw [← h1]
      exact dig_take _ _ (by omega)
    have hmQ : (mag Q).length ≤ qs.length := mag_lt.2 (by rw [← hQ]; exact val_lt hqs)
    have k2 : (qs.map dg).take (mag Q).length = (mag Q).map dg := by
      rw [← List.map_take]
      congr 1
      have h1 : dig qs.length Q = qs := dig_of hqs rfl hQ
      conv => lhs; rw [← h1]
      exact dig_take _ _ (by omega)
    have k3 : m ≤ cur.length := by omega
    have k4 : 0 < cur.length := by omega
    have k5 : ¬ (m : Int) < m := by omega
    rw [← hcur, hom]
    simp [divS4, t2, t3, hq0, k3, k4, k5]
    rw [k1, k2]
    exact ⟨hmQ, by omega, Sub.refl _, Sub.refl _⟩
  | succ j =>
    obtain ⟨x, hx⟩ : ∃ x, x = us.getD os.length 0 := ⟨_, rfl⟩
    have hom : os.length < m := by omega
    have hgm : ∀ i, i < m → us.getD i 0 = (mag Z).getD i 0 := fun i hi => by
      rw [← htk, List.getD_eq_getElem?_getD, List.getD_eq_getElem?_getD, List.getElem?_take_of_lt hi]
    have hxZ : x = Z / B ^ os.length % B := by rw [hx, hgm _ hom, mag_getD]
    have hxB : x < 4294967296 := by rw [hx]; exact getD_lt hus _
    obtain ⟨y, hy⟩ : ∃ y, y = (mag Z).getD (os.length + 1) 0 := ⟨_, rfl⟩
    have hyB : y < 4294967296 := by rw [hy]; exact getD_lt (mag_digs Z) _
    have hyZ : y = Z / B ^ (os.length + 1) % B := by rw [hy, mag_getD]
    have hR1 : us.drop os.length = x :: us.drop (os.length + 1) := by
      rw [List.drop_eq_getElem_cons (by omega : os.length < us.length), hx, List.getD_eq_getElem?_getD, List.getElem?_eq_getElem (by omega)]; rfl
    rw [hR1]
    have e1 := ix_at os (us.drop (os.length + 1)) x
    obtain ⟨h, hh⟩ : ∃ h, h = y * 4294967296 + x := ⟨_, rfl⟩
    obtain ⟨hs, hhs⟩ : ∃ hs, hs = h / 2 ^ sh := ⟨_, rfl⟩
    obtain ⟨c', d, hd, hcut, w1, _⟩ := cut32 (hs : Int) hs rfl
    have hdd : d = hs % B := by rw [← hcut, Nat.add_mul_mod_self_left]; exact (Nat.mod_eq_of_lt hd).symm
    have e2 := lset_at os (us.drop (os.length + 1)) x d
    have hdig : d = (Z / 2 ^ sh) / B ^ os.length % B := by
      rw [shr_digit Z sh os.length hsh, ← hyZ, ← hxZ, hdd, hhs, hh]
      simp only [B]
    have q1 : IntKind.u64.wrap ((y : Int) * 4294967296) = (y : Int) * 4294967296 := by rw [wrap_u64]; omega
    have q2 : IntKind.u64.wrap (x : Int) = x := by rw [wrap_u64]; omega
    have q3 : IntKind.u64.wrap (y : Int) = y := by rw [wrap_u64]; omega
    have q4 : bOr .u64 ((y : Int) * 4294967296) x = h := by
      have h1 : y * 4294967296 < 18446744073709551616 := by omega
      have h2 : x < 18446744073709551616 := by omega
      have := bOr64 (y * 4294967296) x h1 h2
      rw [or_cut y x hxB, ← hh] at this
      rw [← this]; congr 1
    have q5 : min sh 64 = sh := by omega
    have q6 : (h : Int).fdiv (2 ^ sh) = (hs : Int) := by
      have e : (2 : Int) ^ sh = ((2 ^ sh : Nat) : Int) := by simp
      rw [e, Int.fdiv_eq_ediv_of_nonneg _ (by omega), hhs]; exact (Int.natCast_ediv _ _).symm
    have q7 : IntKind.i64.wrap ((os.length : Int) + 1) = os.length + 1 := by rw [wrap_i64]; omega
    have q8 : (os.length : Int) < m := by omega
    have hnext : ∀ s', Snd s' (divS4 sh (os ++ d :: us.drop (os.length + 1)) m qs (os.length + 1)) → KN s' := by
      intro s' hs'
      refine hN _ (nx (m := j) (s'' := divS4 sh (os ++ d :: us.drop (os.length + 1)) m qs (os.length + 1)) hs' ⟨os ++ [d], hos.append (Digs.nil.cons hd), ?_, ?_, ?_⟩ (by omega))
      · simp only [List.length_append, List.length_singleton]; omega
      · rw [val_snoc, hov, List.length_append, List.length_singleton, Nat.pow_succ, Nat.mod_mul, hdig]
      · simp only [List.length_append, List.length_singleton, List.append_assoc, List.singleton_append]
    obtain ⟨cur, hcur⟩ : ∃ c, c = os ++ x :: us.drop (os.length + 1) := ⟨_, rfl⟩
    have hcl : cur.length = us.length := by rw [hcur, List.length_append, List.length_cons, List.length_drop]; omega
    have q9 : m ≤ cur.length := by omega
    by_cases hb : os.length + 1 < m
    · have q10 : (os.length : Int) + 1 < m := by omega
      have q11 : ((os.length : Int) + 1).toNat = os.length + 1 := by omega
      have e3 : ix (List.map dg cur) (os.length + 1) = some (dg y) := by
        have := ix_dg cur (os.length + 1) (by omega)
        rw [this]
        congr 1
        have h1 : cur.getD (os.length + 1) 0 = us.getD (os.length + 1) 0 := by
          rw [hcur, ← hR1, List.getD_eq_getElem?_getD, List.getElem?_append_right (by omega), List.getElem?_drop, List.getD_eq_getElem?_getD]
          congr 2; omega
        rw [h1, hgm _ hb, ← hy]
      have q12 : (0 : Int) ≤ (os.length : Int) + 1 := by omega
      rw [← hcur] at e1 e2 ⊢
      generalize hcur2 : os ++ d :: us.drop (os.length + 1) = cur2 at *
      simp [divS4, e1, e2, e3, dg, q1, q2, q3, q4, q5, q6, q7, q8, q9, q10, q11, q12, w1]
      exact hnext _ (snd_of (by simp [LeT, divS4]) (by simp [divS4]))
    · have q10 : ¬ (os.length : Int) + 1 < m := by omega
      have hy0 : y = 0 := by rw [hy]; exact getD_out _ _ (by omega)
      have q13 : bOr .u64 0 (x : Int) = h := by
        have := q4
        rw [hy0] at this
        simpa using this
      have q14 : IntKind.u64.wrap 0 = 0 := by rw [wrap_u64]; rfl
      rw [← hcur] at e1 e2 ⊢
      generalize hcur2 : os ++ d :: us.drop (os.length + 1) = cur2 at *
      simp [divS4, e1, e2, dg, q2, q13, q14, q5, q6, q7, q8, q9, q10, w1]
      exact hnext _ (snd_of (by simp [LeT, divS4]) (by simp [divS4]))
set_option maxRecDepth 100000 in
theorem div_exit {sh n top : Nat} {us vs qs : List Nat} (KN : St → Prop) (K' : Exit → St → Prop) (h : K' .normal (divSe sh n us vs top qs)) : awp Try.prog divMf (tbl divTb) divL2 (divS2 sh n us vs top qs 0) (Klp KN (Kblk 2 K')) := by
  simp only [divL2, divB7, Try.f148, Option.getD, sq1, sq2, inB, inL]
  simp [divS2]
  exact h
end Go.Proofs.Ytpggfnggffedlaa.Ae

namespace Go.Proofs.Ytpggfnggffedlaa.Ae
open Go Go.RowKit Go.Proofs.Ytpggfnggffedlaa.Dig
variable {N : NR}
set_option maxRecDepth 100000 in
set_option maxHeartbeats 4000000 in
theorem divMag_spec : SpecD N Try.prog 148 divC := by
  refine rdD (mf := divMf) divTb_ok (fn := Try.f148) (by kernel_rfl) rfl (by kernel_rfl) ?_
  rintro ⟨a, b⟩ ⟨ha, hb, hb0⟩
  refine ⟨by show 2 ≤ 207; decide, ?_⟩
  simp only [n2E, Try.f148]
  simp only [Sm] at ha hb
  have hb0 : 0 < b := hb0
  generalize hq : a / b = Q
  generalize hr : a % b = R
  have c1 := cmpC_at a b
  have c2 := @cmpV_neg a b
  simp only [Sm, ha, hb, and_self] at c1
  by_cases hab : a < b
  · have h1 : Q = 0 := by rw [← hq]; exact Nat.div_eq_of_lt hab
    have h2 : R = a := by rw [← hr]; exact Nat.mod_eq_of_lt hab
    have h3 : cmpV a b < 0 := c2.2 hab
    subst h1 h2
    simp only [eM, eW] at c1 ⊢
    simp [c1, h3, mag_zero]
    have := maxLen_ge
    omega
  · have h3 : ¬ cmpV a b < 0 := fun h => hab (c2.1 h)
    by_cases hl : (mag b).length = 1
    · obtain ⟨d, hd⟩ : ∃ d, mag b = [d] := List.length_eq_one_iff.1 hl
      have hbd : b = d := by have := val_mag b; rw [hd] at this; simp [val] at this; exact this.symm
      have hdB : d < B := by have := mag_digs b; rw [hd] at this; exact this.head
      have s1 := shortC_at a d
      rw [← hbd, hq, hr] at s1
      have hRB : R < B := by rw [← hr]; exact Nat.lt_trans (Nat.mod_lt _ hb0) (by rw [hbd]; exact hdB)
      have t1 := trimC_at' [R] (Digs.nil.cons hRB)
      have e1 : val [R] = R := by simp [val]
      rw [e1] at t1
      have e2 : ix (List.map dg (mag b)) 0 = some (dg b) := by rw [hd, hbd]; rfl
      have hbB : b < B := by rw [hbd]; exact hdB
      simp only [Sm, ha, hb0, hbB, and_self, dg] at s1
      simp only [List.map_cons, List.map_nil, dg] at t1
      simp only [eM, eW] at c1 s1 ⊢
      simp [c1, h3, hl, e2, dg, s1, t1]
    · obtain ⟨n, hn⟩ : ∃ n, n = (mag b).length := ⟨_, rfl⟩
      have hn0 : n ≠ 0 := by rw [hn]; exact fun h => by rw [mag_len_zero] at h; omega
      have hn2 : 2 ≤ n := by omega
      obtain ⟨bt, hbt⟩ : ∃ bt, bt = (mag b).getD (n - 1) 0 := ⟨_, rfl⟩
      obtain ⟨sh, hsh⟩ : ∃ sh, sh = 32 - bl bt := ⟨_, rfl⟩
      have hbtB : bt < B := by rw [hbt]; exact getD_lt (mag_digs b) _
      have e1 := ix_dg (mag b) (n - 1) (by omega)
      rw [← hbt] at e1
      have s1 := lz32C_at bt
      rw [← hsh] at s1
      simp only [hbtB, dg] at s1
      have hsh32 : sh ≤ 32 := by omega
      obtain ⟨U, hU⟩ : ∃ U, U = a * 2 ^ sh := ⟨_, rfl⟩
      obtain ⟨V, hV⟩ : ∃ V, V = b * 2 ^ sh := ⟨_, rfl⟩
      have s2 := shiftO_at a sh
      have s3 := shiftO_at b sh
      have hsh40 : sh < 2 ^ 40 := by omega
      rw [← hU] at s2
      rw [← hV] at s3
      simp only [Sm, ha, hb, hsh40, and_self] at s2 s3
      have r1 : IntKind.i64.wrap ((n : Int) - 1) = ((n - 1 : Nat) : Int) := by rw [wrap_i64]; omega
      have r2 : IntKind.u64.wrap (sh : Int) = sh := by rw [wrap_u64]; omega
      have hl' : ¬ (n : Int) = 1 := by omega
      simp only [eM, eW] at c1 s2 s3 ⊢
      generalize hn1 : n - 1 = n1 at *
      simp [c1, h3, hl', ← hn, e1, dg, r1, r2, s1, s2, s3]
      have hmx := maxLen_ge
      have hn1' : (mag b).length = n1 + 1 := by omega
      obtain ⟨hsh31, hVl, hVt⟩ := norm_facts hn1' hbt hsh
      rw [← hV] at hVl hVt
      have hUla : (mag a).length ≤ (mag U).length := mag_len_le (by rw [hU]; exact Nat.le_mul_of_pos_right _ (Nat.pow_pos (by decide)))
      have h2s : 2 ^ sh ≤ 2 ^ 31 := Nat.pow_le_pow_right (by decide) hsh31
      have hUlt : U < B ^ (mag a).length * 2 ^ sh := by
        rw [hU]; exact Nat.mul_lt_mul_of_pos_right (mag_lt.1 (Nat.le_refl _)) (Nat.pow_pos (by decide))
      have hUl2 : (mag U).length ≤ (mag a).length + 1 := by
        refine mag_lt.2 (Nat.lt_of_lt_of_le hUlt ?_)
        rw [Nat.pow_succ]; exact Nat.mul_le_mul_left _ (by simp only [B]; omega)
      refine loop_go (fun m st => ∃ us : List Nat, Digs us ∧ val us = U ∧ (mag a).length ≤ us.length ∧ us.length + m = (mag a).length + 1 ∧ st = divS1 a b sh n us (mag V)) (s0 := divS1 a b sh n (mag U) (mag V)) (n := (mag a).length + 1 - (mag U).length)
        (snd_of (by simp [LeT, divS1]) (by simp [divS1])) ⟨mag U, mag_digs U, val_mag U, hUla, by omega, rfl⟩ ?_
      rintro m st ⟨us, hus, hvU, hula, hul, rfl⟩ KN hN
      cases m with
      | succ m =>
        have q1 : (us.length : Int) ≤ (mag a).length := by omega
        simp [divS1, q1]
        refine ⟨by omega, hN _ (nx (m := m) (s'' := divS1 a b sh n (us ++ [0]) (mag V)) (snd_obs (n := 207) [(55, 66, .row 1 195 ((us ++ [0]).map dg)), (58, 58, .row 1 195 ((mag V).map dg))] rfl (by simp [dg]) (by simp [divS1])) ⟨us ++ [0], hus.append (Digs.nil.cons B_pos), by rw [val_snoc_zero]; exact hvU, by simp; omega, by simp; omega, rfl⟩ (by omega))⟩
      | zero =>
        have q1 : ¬ (us.length : Int) ≤ (mag a).length := by omega
        have e3 := ix_dg (mag V) n1 (by omega)
        obtain ⟨top, htop⟩ : ∃ top, top = (mag V).getD n1 0 := ⟨_, rfl⟩
        rw [← htop] at e3 hVt
        have htB : top < 4294967296 := by rw [htop]; exact getD_lt (mag_digs V) _
        have q2 : IntKind.u64.wrap (top : Int) = top := by rw [wrap_u64]; omega
        obtain ⟨k0, hk0⟩ : ∃ k0 : Nat, k0 = us.length - n := ⟨_, rfl⟩
        have hlanb : n ≤ (mag a).length := by rw [hn]; exact mag_len_le (by omega)
        have q3 : IntKind.i64.wrap ((us.length : Int) - n) = k0 := by rw [wrap_i64]; omega
        have q4 : IntKind.i64.wrap ((k0 : Int) - 1) = (k0 : Int) - 1 := by rw [wrap_i64]; omega
        simp [divS1, q1, r1, e3, dg, q2, q3, q4]
        refine ⟨by omega, by omega, ?_⟩
        have hV0 : 0 < V := by rw [hV]; exact Nat.mul_pos hb0 (Nat.pow_pos (by decide))
        have hla : (mag a).length = us.length - 1 := by omega
        have hstart : val (us.drop k0) < V := by
          have hul1 : us.length = (mag a).length + 1 := by omega
          obtain ⟨ut, hut⟩ : ∃ ut, ut = us.getD (mag a).length 0 := ⟨_, rfl⟩
          have h1 := val_top1 hul1
          rw [hvU, ← hut] at h1
          have hut2 : ut < 2 ^ sh := by
            have h2 : B ^ (mag a).length * ut < B ^ (mag a).length * 2 ^ sh := by omega
            exact Nat.lt_of_mul_lt_mul_left h2
          have hdl : (us.drop k0).length = n1 + 1 := by rw [List.length_drop]; omega
          have h3 := val_top1 hdl
          have h4 : (us.drop k0).getD n1 0 = ut := by
            rw [hut, List.getD_eq_getElem?_getD, List.getElem?_drop, List.getD_eq_getElem?_getD]
            congr 2; omega
          rw [h4] at h3
          have h5 := val_lt ((hus.drop k0).take n1)
          rw [List.length_take, Nat.min_eq_left (by omega)] at h5
          have h6 := val_top1 hVl
          rw [val_mag, ← htop] at h6
          have h7 : B ^ n1 * (ut + 1) ≤ B ^ n1 * top := Nat.mul_le_mul_left _ (by omega)
          rw [Nat.mul_add, Nat.mul_one] at h7
          generalize B ^ n1 * ut = z1 at *
          generalize B ^ n1 * top = z2 at *
          generalize B ^ n1 = z3 at *
          omega
        have hk0' : k0 + n = (mag a).length + 1 := by omega
        refine loop_go (fun k st => ∃ us qs : List Nat, Digs us ∧ Digs qs ∧ us.length = (mag a).length + 1 ∧ k + qs.length = k0 ∧ val (us.drop k) < V ∧ val us + V * (B ^ k * val qs) = U ∧ st = divS2 sh n us (mag V) top qs k) (s0 := divS2 sh n us (mag V) top [] k0) (n := k0)
          (Snd.trans (Snd.frz _ [58]) (snd_obs (n := 207) [(55, 55, .row 1 195 (us.map dg)), (58, 58, .frow 1 195 ((mag V).map dg)), (77, 77, .row 1 195 (List.replicate k0 z32 ++ []))] rfl (by simp [St.frz, z32]) (by simp [divS2, St.frz]))) ⟨us, [], hus, Digs.nil, by omega, by simp, hstart, by simp [val, hvU], rfl⟩ ?_
        clear hN hula hul KN hstart hvU hus q1 c1 e1 s1 s2 s3 r2 h3 c2 q3 hk0 hla us
        rintro k st ⟨us, qs, hus, hqs, hul, hkq, hdr, hval, rfl⟩ KN hN
        cases k with
        | zero =>
          rw [List.drop_zero] at hdr
          rw [Nat.pow_zero, Nat.one_mul] at hval
          have hp2 : 0 < 2 ^ sh := Nat.pow_pos (by decide)
          have hUV : U / V = Q := by rw [hU, hV, Nat.mul_div_mul_right _ _ hp2, hq]
          have hUVm : U % V = R * 2 ^ sh := by rw [hU, hV, Nat.mul_mod_mul_right, hr]
          have hQ : val qs = Q := by rw [← hUV, ← hval, Nat.add_mul_div_left _ _ hV0, Nat.div_eq_of_lt hdr, Nat.zero_add]
          have hR : val us = R * 2 ^ sh := by rw [← hUVm, ← hval, Nat.add_mul_mod_self_left, Nat.mod_eq_of_lt hdr]
          have ht := div_tail (sh := sh) (n := n) (V := V) (top := top) (Q := Q) (R := R) hsh31 hus hqs (by omega) (by omega) (by omega) (by omega) hQ hR
          simp only [divB8, Try.f148, Option.getD, sq2] at ht
          have hx := fun K' => div_exit (sh := sh) (n := n) (us := us) (vs := mag V) (top := top) (qs := qs) KN K'
          simp only [divL2, divB7, Try.f148, Option.getD, sq1, sq2, inB, inL] at hx
          exact hx _ ht
        | succ k =>
          have hst := div_step (sh := sh) (n := n) (n1 := n1) (V := V) (top := top) (k := k) (la := (mag a).length) (us := us) (qs := qs) hn2 hn1 hVl htop hVt htB ha hus hul (by omega) hdr KN
          simp only [divL2, divB7, Try.f148, Option.getD, sq1, sq2, inB, inL] at hst
          refine hst _ (fun us' q h1 h2 h3 h4 h5 s' hs => hN _ (nx (m := k) (s'' := divS2 sh n us' (mag V) top (q :: qs) k) hs ⟨us', q :: qs, h1, hqs.cons h3, h2, by simp; omega, h4, ?_, rfl⟩ (by omega)))
          rw [← hval, ← h5, val, Nat.pow_succ]
          simp only [Nat.mul_add, Nat.mul_assoc, Nat.add_assoc]
theorem divMag_ok : callable Try.prog 148 = true := by kernel_rfl
end Go.Proofs.Ytpggfnggffedlaa.Ae

namespace Go.Proofs.Ytpggfnggffedlaa.Ae
open Go Go.RowKit Go.Proofs.Ytpggfnggffedlaa.Dig
variable {N : NR}
def sTrimS (xs : List Nat) (n : Nat) : St := ⟨[.dat (eW xs), .any, .any, .dat (.lit (.int .i64 n)), .any, .any, .any, .any, .any, .any, .any, .any, .any, .any, .any, .any, .any, .any, .any, .any, .any], [none, none, none, none, none, none, none, none, none, none, none, none, none, none, none, none, none, none, none, none, none]⟩
theorem l1Trim_spec : SpecD N Try.prog 120 trimC := by
  refine rdD (mf := fun _ => false) tbl_nil (fn := Try.f120) (by kernel_rfl) rfl (by kernel_rfl) ?_
  rintro ⟨ds, hd⟩ hlen
  have hlen : ds.length < 2 ^ 62 := hlen
  refine ⟨by show 1 ≤ 21; decide, ?_⟩
  simp only [trimE, Try.f120]
  simp [eW]
  refine loop_go (fun n s => n ≤ ds.length ∧ val (ds.take n) = val ds ∧ s = sTrimS ds n) (s0 := sTrimS ds ds.length) (n := ds.length) (snd_of (by simp [LeT, sTrimS, eW]) rfl) ⟨Nat.le_refl _, by rw [List.take_length], rfl⟩ ?_
  rintro n s ⟨hn, hv, rfl⟩ KN hN
  cases n with
  | zero =>
    have e1 : mag (val ds) = [] := by rw [← hv]; simp [val, mag_zero]
    simp [sTrimS, eW, eM, e1, lsub]
  | succ m =>
    have e1 : IntKind.i64.wrap (m : Int) = m := by rw [wrap_i64]; omega
    have e2 : ix (ds.map dg) m = some (dg (ds.getD m 0)) := ix_dg _ _ (by omega)
    obtain ⟨y, hy⟩ : ∃ y, y = ds.getD m 0 := ⟨_, rfl⟩
    rw [← hy] at e2
    have hs : ds.take (m + 1) = ds.take m ++ [y] := by
      rw [hy]; exact Dig.take_succ _ _ _ (getD_some (by omega))
    have hv2 := hv
    rw [hs] at hv2
    have e3 : m + 1 ≤ ds.length := hn
    have e4 : lsub (ds.map dg) 0 (m + 1) = (ds.take (m + 1)).map dg := by simp [lsub]
    have e5 : (m : Int) < ds.length := by omega
    simp [sTrimS, eW, e1, e2, e3, e4, e5, dg]
    refine ⟨fun h => hN _ (nx (m := m) (s'' := sTrimS ds m) (snd_of (by simp [LeT, sTrimS, eW]) (by simp [sTrimS])) ⟨by omega, by rw [← hv2, h, val_snoc_zero], rfl⟩ (by omega)), fun h => ?_⟩
    have h5 : mag (val ds) = ds.take m ++ [y] := by
      rw [← hv2]
      exact mag_val_snoc (by rw [← hs]; exact hd.take _) h
    rw [eM, h5]
    simp [eW]
    exact ⟨by omega, by rw [← List.map_take, hs, List.map_append, List.map_take]; exact Sub.refl _⟩
theorem l1Trim_ok : callable Try.prog 120 = true := by kernel_rfl
structure N1 where
  a : Nat
def u64D (n : Nat) : D := .lit (.int .u64 n)
theorem u64D_inj {a b : Nat} (h : u64D a = u64D b) : a = b := by simp [u64D] at h; omega
def n1E (p : N1) : List D := [u64D p.a]
theorem n1E_inj (p q : N1) (h : n1E p = n1E q) : p = q := by
  obtain ⟨a⟩ := p; obtain ⟨c⟩ := q
  simp only [n1E, List.cons.injEq, and_true] at h
  rw [u64D_inj h]
noncomputable def magC := ctD n1E (fun p => p.a < 18446744073709551616) (fun p => [eM p.a])
theorem magC_at (a : Nat) : magC [u64D a] = (a < 18446744073709551616, [eM a]) := ctD_at n1E_inj ⟨a⟩
theorem magC_at' (a : Nat) : magC [.lit (.int .u64 a)] = (a < 18446744073709551616, [.sl 1 ((mag a).map dg)]) := magC_at a
theorem two_digits (x : Nat) : val [x % 4294967296, x / 4294967296] = x := by
  simp only [val, B, Nat.mul_zero, Nat.add_zero]; exact Nat.mod_add_div x 4294967296
theorem l1Mag_spec : SpecD N Try.prog 87 magC := by
  refine rdD (mf := fun f => f == 120) (tbl_cons (f := 120) (c := .data trimC) l1Trim_spec l1Trim_ok tbl_nil) (fn := Try.f87) (by kernel_rfl) rfl (by kernel_rfl) ?_
  rintro ⟨x⟩ hx
  have hx : x < 18446744073709551616 := hx
  refine ⟨by show 1 ≤ 10; decide, ?_⟩
  simp only [n1E, u64D, Try.f87]
  obtain ⟨l, hl⟩ : ∃ l, l = x % 4294967296 := ⟨_, rfl⟩
  obtain ⟨h, hh⟩ : ∃ h, h = x / 4294967296 := ⟨_, rfl⟩
  have r1 : IntKind.u32.wrap (x : Int) = l := by rw [wrap_u32]; omega
  have r2 : IntKind.u32.wrap ((x : Int) / 4294967296) = h := by rw [wrap_u32]; omega
  have hd : Digs [l, h] := (Digs.nil.cons (by simp only [B]; omega)).cons (by simp only [B]; omega)
  have t1 := trimC_at' [l, h] hd
  have hv : val [l, h] = x := by rw [hl, hh]; exact two_digits x
  rw [hv] at t1
  simp [dg] at t1
  simp [eM, eW, dg, r1, r2, t1]
  rfl
theorem l1Mag_ok : callable Try.prog 87 = true := by kernel_rfl
structure Z1 where
  a : Int
def i64D (n : Int) : D := .lit (.int .i64 n)
theorem i64D_inj {a b : Int} (h : i64D a = i64D b) : a = b := by simp [i64D] at h; omega
def z1E (p : Z1) : List D := [i64D p.a]
theorem z1E_inj (p q : Z1) (h : z1E p = z1E q) : p = q := by
  obtain ⟨a⟩ := p; obtain ⟨c⟩ := q
  simp only [z1E, List.cons.injEq, and_true] at h
  rw [i64D_inj h]
def I64 (x : Int) : Prop := -9223372036854775808 ≤ x ∧ x ≤ 9223372036854775807
noncomputable def absC := ctD z1E (fun p => I64 p.a) (fun p => [u64D p.a.natAbs])
theorem absC_at (a : Int) : absC [i64D a] = (I64 a, [u64D a.natAbs]) := ctD_at z1E_inj ⟨a⟩
theorem absC_at' (a : Int) : absC [.lit (.int .i64 a)] = (I64 a, [.lit (.int .u64 (a.natAbs : Int))]) := absC_at a
theorem l1Abs_spec : SpecD N Try.prog 88 absC := by
  refine rdD (mf := fun f => false) tbl_nil (fn := Try.f88) (by kernel_rfl) rfl (by kernel_rfl) ?_
  rintro ⟨x⟩ hx
  have hx : -9223372036854775808 ≤ x ∧ x ≤ 9223372036854775807 := hx
  refine ⟨by show 1 ≤ 10; decide, ?_⟩
  simp only [z1E, i64D, u64D, Try.f88]
  generalize hy : ((x.natAbs : Nat) : Int) = y
  by_cases h : x < 0
  · have r1 : IntKind.u64.wrap (-IntKind.u64.wrap x) = y := by rw [wrap_u64, wrap_u64]; omega
    simp [h, r1]
  · have r1 : IntKind.u64.wrap x = y := by rw [wrap_u64]; omega
    simp [h, r1]
theorem l1Abs_ok : callable Try.prog 88 = true := by kernel_rfl
def sgnC (a b : Nat) : Int := if a < b then -1 else if b < a then 1 else 0
noncomputable def sCmpC := ctD n2E (fun p => Sm p.a ∧ Sm p.b) (fun p => [.lit (.int .i64 (sgnC p.a p.b))])
theorem sCmpC_at (a b : Nat) : sCmpC [eM a, eM b] = (Sm a ∧ Sm b, [.lit (.int .i64 (sgnC a b))]) := ctD_at n2E_inj ⟨a, b⟩
def sCmpS (a b : Nat) (n : Nat) : St := ⟨[.dat (eM a), .dat (eM b), .any, .any, .any, .dat (.lit (.int .i64 ((n : Int) - 1))), .any, .any, .any, .any, .any, .any, .any, .any, .any, .any, .any, .any, .any, .any, .any, .any, .any, .any, .any, .any, .any, .any, .any, .any, .any, .any, .any, .any, .any, .any, .any, .any, .any, .any, .any], [none, none, none, none, none, none, none, none, none, none, none, none, none, none, none, none, none, none, none, none, none, none, none, none, none, none, none, none, none, none, none, none, none, none, none, none, none, none, none, none, none]⟩
theorem l1MagCmp_spec : SpecD N Try.prog 91 sCmpC := by
  refine rdD (mf := fun _ => false) tbl_nil (fn := Try.f91) (by kernel_rfl) rfl (by kernel_rfl) ?_
  rintro ⟨a, b⟩ ⟨ha, hb⟩
  refine ⟨by show 2 ≤ 41; decide, ?_⟩
  simp only [n2E, Try.f91]
  simp only [Sm] at ha hb
  have lt1 : a < b → sgnC a b = -1 := fun h => by unfold sgnC; rw [if_pos h]
  have lt2 : b < a → sgnC a b = 1 := fun h => by unfold sgnC; rw [if_neg (by omega), if_pos h]
  have lt3 : a = b → sgnC a b = 0 := fun h => by unfold sgnC; rw [if_neg (by omega), if_neg (by omega)]
  generalize sgnC a b = v at lt1 lt2 lt3 ⊢
  have r2 : IntKind.i64.wrap (((mag a).length : Int) - 1) = (mag a).length - 1 := by rw [wrap_i64]; omega
  have r3 : IntKind.i64.wrap (((mag b).length : Int) - 1) = (mag b).length - 1 := by rw [wrap_i64]; omega
  by_cases hl : (mag a).length = (mag b).length
  · simp [eM, eW, r3, hl]
    refine loop_go (fun n s => n ≤ (mag a).length ∧ (mag a).drop n = (mag b).drop n ∧ s = sCmpS a b n) (s0 := sCmpS a b (mag a).length) (n := (mag a).length)
      (snd_of (by simp [LeT, sCmpS, eM, eW, hl]) (by simp [sCmpS])) ⟨Nat.le_refl _, by rw [List.drop_eq_nil_of_le (Nat.le_refl _), List.drop_eq_nil_of_le (by omega)], rfl⟩ ?_
    rintro n s ⟨hn, hd, rfl⟩ KN hN
    cases n with
    | zero =>
      have e : a = b := mag_inj (by simpa using hd)
      simp [sCmpS, eM, eW, lt3 e]
    | succ k =>
      obtain ⟨x, hx⟩ : ∃ x, x = (mag a).getD k 0 := ⟨_, rfl⟩
      obtain ⟨y, hy⟩ : ∃ y, y = (mag b).getD k 0 := ⟨_, rfl⟩
      have hka : k < (mag a).length := by omega
      have hkb : k < (mag b).length := by omega
      have e1 := ix_dg _ _ hka
      have e2 := ix_dg _ _ hkb
      rw [← hx] at e1
      rw [← hy] at e2
      have r4 : IntKind.i64.wrap ((k : Int) - 1) = (k : Int) - 1 := by rw [wrap_i64]; omega
      have l1 : x < y → a < b := fun h => by
        have := val_cmp (mag_digs a) (mag_digs b) hl (by rw [getD_some hka, hx]) (by rw [getD_some hkb, hy]) hd h
        rwa [val_mag, val_mag] at this
      have l2 : y < x → b < a := fun h => by
        have := val_cmp (mag_digs b) (mag_digs a) hl.symm (by rw [getD_some hkb, hy]) (by rw [getD_some hka, hx]) hd.symm h
        rwa [val_mag, val_mag] at this
      simp [sCmpS, eM, eW, e1, e2, dg, r4]
      refine ⟨fun h => ⟨fun h' => ?_, fun h' => ?_⟩, fun h => ?_⟩
      · rw [lt1 (l1 (by omega))]; exact Sub.refl _
      · rw [lt2 (l2 (by omega))]; exact Sub.refl _
      · exact hN _ (nx (s'' := sCmpS a b k) (snd_of (by simp [LeT, sCmpS, eM, eW]) (by simp [sCmpS])) ⟨by omega, drop_step hka hkb hd (by rw [← hx, ← hy]; omega), rfl⟩ (by omega))
  · have h4 : ¬ ((mag a).length : Int) = (mag b).length := by omega
    have h1 : (mag a).length < (mag b).length → v = -1 := fun h => lt1 (mag_len_lt h)
    have h2 : (mag b).length < (mag a).length → v = 1 := fun h => lt2 (mag_len_lt h)
    by_cases h3 : (mag a).length < (mag b).length
    · simp [eM, eW, r2, hl, h3, h4, h1 h3]
    · simp [eM, eW, r2, hl, h3, h4, h2 (by omega)]
theorem l1MagCmp_ok : callable Try.prog 91 = true := by kernel_rfl
end Go.Proofs.Ytpggfnggffedlaa.Ae

namespace Go.Proofs.Ytpggfnggffedlaa.Ae
open Go Go.RowKit Go.Proofs.Ytpggfnggffedlaa.Dig
variable {N : NR}
theorem lset_fwd (os : List Nat) (k : Nat) (v : D) : lset (List.map dg os ++ List.replicate (k + 1) z32) os.length v = List.map dg os ++ v :: List.replicate k z32 := by
  have h : os.length = (List.map dg os).length := by simp
  rw [List.replicate_succ]; unfold lset; rw [h, List.set_append_right _ _ (Nat.le_refl _), Nat.sub_self]; rfl
theorem ix_fwd (os : List Nat) (k : Nat) : ix (List.map dg os ++ List.replicate (k + 1) z32) os.length = some z32 := by
  have h : os.length = (List.map dg os).length := by simp
  unfold ix; rw [h, List.getElem?_append_right (Nat.le_refl _), Nat.sub_self]; rfl
@[simp] theorem z32_size : z32.size = 1 := rfl
def sAddS (p q : Nat) (os : List Nat) (c k : Nat) : St := ⟨[.dat (eM p), .dat (eM q), .any, .any, .any, .row 18, .dat (.lit (.int .u64 c)), .dat (.lit (.int .i64 os.length)), .any, .any, .any, .any, .any, .any, .any, .any, .any, .any, .any, .any, .any, .any, .any, .any, .any, .any, .any, .any, .any, .any, .any, .any, .any, .any, .any, .any, .any, .any, .any, .any, .any, .any, .any, .any, .any, .any, .any, .any, .any, .any, .any, .any, .any, .any, .any, .any, .any, .any], [none, none, none, none, none, none, none, none, none, none, none, none, none, none, none, none, none, none, some (.row 1 195 (os.map dg ++ List.replicate (k + 1) z32)), none, none, none, none, none, none, none, none, none, none, none, none, none, none, none, none, none, none, none, none, none, none, none, none, none, none, none, none, none, none, none, none, none, none, none, none, none, none, none]⟩
theorem l1MagAdd_spec : SpecD N Try.prog 90 addC := by
  refine rdD (mf := fun f => f == 120) (tbl_cons (f := 120) (c := .data trimC) l1Trim_spec l1Trim_ok tbl_nil) (fn := Try.f90) (by kernel_rfl) rfl (by kernel_rfl) ?_
  rintro ⟨a, b⟩ ⟨ha, hb⟩
  refine ⟨by show 2 ≤ 58; decide, ?_⟩
  simp only [n2E, Try.f90]
  simp only [Sm] at ha hb
  generalize hr : a + b = r
  obtain ⟨p, q, hs, hle, hlt, hc⟩ : ∃ p q, p + q = r ∧ (mag q).length ≤ (mag p).length ∧ (mag p).length < 2 ^ 40 ∧ (((mag a).length < (mag b).length ∧ p = b ∧ q = a) ∨ (¬ (mag a).length < (mag b).length ∧ p = a ∧ q = b)) := by
    by_cases h : (mag a).length < (mag b).length
    · exact ⟨b, a, by omega, by omega, hb, .inl ⟨h, rfl, rfl⟩⟩
    · exact ⟨a, b, by omega, by omega, ha, .inr ⟨h, rfl, rfl⟩⟩
  have e0 : IntKind.i64.wrap ((mag p).length + 1) = (mag p).length + 1 := by rw [wrap_i64]; omega
  have hmx := maxLen_ge
  have e1 : (mag p).length + 1 ≤ maxLen := by omega
  rcases hc with ⟨h, h1, h2⟩ | ⟨h, h1, h2⟩
  all_goals
    subst h1 h2
    simp [eM, eW, h, e0, e1]
    refine ⟨by omega, ?_⟩
    refine loop_go (fun n s => ∃ (os : List Nat) (c : Nat), Digs os ∧ c ≤ 1 ∧ val os + B ^ os.length * c = val ((mag p).take os.length) + val ((mag q).take os.length) ∧ os.length + n = (mag p).length ∧ s = sAddS p q os c n) (s0 := sAddS p q [] 0 (mag p).length) (n := (mag p).length)
      (snd_of (by simp [LeT, sAddS, eM, eW]) (by simp [sAddS, z32])) ⟨[], 0, Digs.nil, by omega, by simp [val], by simp, rfl⟩ ?_
    rintro n s ⟨os, c, hos, hcc, hv, hl, rfl⟩ KN hN
    cases n with
    | zero =>
      have hl0 : (mag p).length = os.length := by omega
      rw [val_take_all _ _ (by omega), val_take_all _ _ (by omega), val_mag, val_mag, hs] at hv
      have hd : Digs (os ++ [c]) := hos.append (Digs.nil.cons (by simp only [B]; omega))
      have t1 := trimC_at' (os ++ [c]) hd
      rw [val_snoc, hv] at t1
      have e2 : os.length + 1 < 2 ^ 62 := by omega
      have e3 := lset_fwd os 0
      have e4 := ix_fwd os 0
      simp [z32] at e3 e4
      have r1 : IntKind.u32.wrap (c : Int) = c := by rw [wrap_u32]; omega
      simp [dg] at t1
      simp [sAddS, eM, eW, z32, dg, hl0, e3, e4, r1, t1]
      simpa using e2
    | succ k =>
      obtain ⟨x, hx⟩ : ∃ x, x = (mag p).getD os.length 0 := ⟨_, rfl⟩
      obtain ⟨y, hy⟩ : ∃ y, y = (mag q).getD os.length 0 := ⟨_, rfl⟩
      have hxB : x < 4294967296 := by rw [hx]; exact getD_lt (mag_digs p) _
      have hyB : y < 4294967296 := by rw [hy]; exact getD_lt (mag_digs q) _
      have r1 : IntKind.u64.wrap (x : Int) = x := by rw [wrap_u64]; omega
      have r2 : IntKind.u64.wrap (y : Int) = y := by rw [wrap_u64]; omega
      have r3 : IntKind.u64.wrap ((c : Int) + x) = c + x := by rw [wrap_u64]; omega
      have r4 : IntKind.u64.wrap ((c : Int) + x + y) = c + x + y := by rw [wrap_u64]; omega
      have r6 : IntKind.i64.wrap ((os.length : Int) + 1) = os.length + 1 := by rw [wrap_i64]; omega
      have r7 : os.length < (mag p).length := by omega
      have f1 := ix_dg _ _ r7
      rw [← hx] at f1
      have step : ∀ (c' d : Nat), d < B → d + B * c' = c + x + y → ∀ s', Snd s' (sAddS p q (os ++ [d]) c' k) → KN s' := by
        intro c' d hd ht s' hs
        refine hN _ (nx hs ⟨_, _, hos.append (Digs.nil.cons hd), ?_, ?_, ?_, rfl⟩ (by omega))
        · simp only [B] at ht; omega
        · rw [val_snoc, List.length_append, List.length_singleton, val_take_getD, val_take_getD, ← hx, ← hy, Nat.pow_succ, Nat.mul_assoc, Nat.add_assoc, ← Nat.mul_add, ht]
          simp only [Nat.mul_add]
          omega
        · rw [List.length_append, List.length_singleton]; omega
      have e0 := lset_fwd os (k + 1)
      have e9 := ix_fwd os (k + 1)
      have fin : ∀ (e : Int), e = ((c + x + y : Nat) : Int) → ∃ c' d : Nat, IntKind.u32.wrap e = d ∧ e / 4294967296 = c' ∧ ∀ s', Snd s' (sAddS p q (os ++ [d]) c' k) → KN s' := fun e he => by
        obtain ⟨c', d, h1, h2, h3, h4⟩ := cut32 e _ he
        exact ⟨c', d, h3, h4, step c' d h1 h2⟩
      by_cases hb' : os.length < (mag q).length
      · have f2 := ix_dg _ _ hb'
        rw [← hy] at f2
        obtain ⟨c', d, h1, h2, h3⟩ := fin (c + x + y) (by omega)
        simp [sAddS, eM, eW, hb', f1, f2, e0, e9, dg, r1, r2, r3, r4, r6, r7, h1, h2]
        exact ⟨by omega, h3 _ (snd_of (by simp [LeT, sAddS, eM, eW]) (by simp [sAddS, dg]))⟩
      · have hy0 : y = 0 := by rw [hy]; exact getD_out _ _ hb'
        obtain ⟨c', d, h1, h2, h3⟩ := fin (c + x) (by omega)
        simp [sAddS, eM, eW, hb', f1, e0, e9, dg, r1, r2, r3, r4, r6, r7, h1, h2]
        exact ⟨by omega, h3 _ (snd_of (by simp [LeT, sAddS, eM, eW]) (by simp [sAddS, dg]))⟩
theorem l1MagAdd_ok : callable Try.prog 90 = true := by kernel_rfl
end Go.Proofs.Ytpggfnggffedlaa.Ae

namespace Go.Proofs.Ytpggfnggffedlaa.Ae
open Go Go.RowKit Go.Proofs.Ytpggfnggffedlaa.Dig
variable {N : NR}
theorem bor64 (x y c : Nat) (hx : x < 4294967296) (hy : y < 4294967296) (hc : c ≤ 1) : ∃ (t1 t2 : Int) (c' d : Nat), d < B ∧ c' ≤ 1 ∧ d + y + c = x + B * c' ∧ IntKind.u64.wrap ((x : Int) - c) = t1 ∧ IntKind.u64.wrap (t1 - y) = t2 ∧ IntKind.u32.wrap t2 = d ∧ t2 / 9223372036854775808 = c' ∧ (y = 0 → t2 = t1) := by
  obtain ⟨t1, h1⟩ : ∃ t1 : Int, t1 = ((x : Int) - c) % 18446744073709551616 := ⟨_, rfl⟩
  obtain ⟨t2, h2⟩ : ∃ t2 : Int, t2 = (t1 - y) % 18446744073709551616 := ⟨_, rfl⟩
  have e1 : IntKind.u64.wrap ((x : Int) - c) = t1 := by rw [wrap_u64, h1]
  have e2 : IntKind.u64.wrap (t1 - y) = t2 := by rw [wrap_u64, h2]
  have h3 : t2 = ((x : Int) - c - y) % 18446744073709551616 := by omega
  have e0 : y = 0 → t2 = t1 := by intro h; subst h; omega
  rcases Nat.lt_or_ge x (y + c) with h | h
  · refine ⟨t1, t2, 1, x + 4294967296 - y - c, by simp only [B]; omega, by omega, by simp only [B]; omega, e1, e2, ?_, ?_, e0⟩
    · rw [wrap_u32]; omega
    · omega
  · refine ⟨t1, t2, 0, x - y - c, by simp only [B]; omega, by omega, by simp only [B]; omega, e1, e2, ?_, ?_, e0⟩
    · rw [wrap_u32]; omega
    · omega
def sSubS (a b : Nat) (os : List Nat) (c k : Nat) : St := ⟨[.dat (eM a), .dat (eM b), .any, .any, .any, .row 11, .dat (.lit (.int .u64 c)), .dat (.lit (.int .i64 os.length)), .any, .any, .any, .any, .any, .any, .any, .any, .any, .any, .any, .any, .any, .any, .any, .any, .any, .any, .any, .any, .any, .any, .any, .any, .any, .any, .any, .any, .any, .any, .any, .any, .any, .any, .any, .any, .any], [none, none, none, none, none, none, none, none, none, none, none, some (.row 1 195 (os.map dg ++ List.replicate k z32)), none, none, none, none, none, none, none, none, none, none, none, none, none, none, none, none, none, none, none, none, none, none, none, none, none, none, none, none, none, none, none, none, none]⟩
theorem l1MagSub_spec : SpecD N Try.prog 92 subC := by
  refine rdD (mf := fun f => f == 120) (tbl_cons (f := 120) (c := .data trimC) l1Trim_spec l1Trim_ok tbl_nil) (fn := Try.f92) (by kernel_rfl) rfl (by kernel_rfl) ?_
  rintro ⟨a, b⟩ ⟨ha, hb, hab⟩
  refine ⟨by show 2 ≤ 45; decide, ?_⟩
  simp only [n2E, Try.f92]
  simp only [Sm] at ha hb
  have hab : b ≤ a := hab
  have hle : (mag b).length ≤ (mag a).length := mag_len_le hab
  simp [eM, eW]
  refine ⟨by omega, ?_⟩
  refine loop_go (fun n s => ∃ (os : List Nat) (c : Nat), Digs os ∧ c ≤ 1 ∧ val os + val ((mag b).take os.length) = val ((mag a).take os.length) + B ^ os.length * c ∧ os.length + n = (mag a).length ∧ s = sSubS a b os c n) (s0 := sSubS a b [] 0 (mag a).length) (n := (mag a).length)
    (snd_of (by simp [LeT, sSubS, eM, eW]) (by simp [sSubS, z32])) ⟨[], 0, Digs.nil, by omega, by simp [val], by simp, rfl⟩ ?_
  rintro n s ⟨os, c, hos, hc, hv, hl, rfl⟩ KN hN
  cases n with
  | zero =>
    have hl0 : (mag a).length = os.length := by omega
    have e1 : val os = a - b := by
      have hvl := val_lt hos
      rw [val_take_all _ _ (by omega), val_take_all _ _ (by omega), val_mag, val_mag] at hv
      rcases Nat.le_one_iff_eq_zero_or_eq_one.1 hc with rfl | rfl
      · omega
      · omega
    have e2 : os.length < 2 ^ 62 := by omega
    simp [sSubS, eM, eW, hl0, trimC_at' os hos, e1]
    simpa using e2
  | succ k =>
    obtain ⟨x, hx⟩ : ∃ x, x = (mag a).getD os.length 0 := ⟨_, rfl⟩
    obtain ⟨y, hy⟩ : ∃ y, y = (mag b).getD os.length 0 := ⟨_, rfl⟩
    have hxB : x < 4294967296 := by rw [hx]; exact getD_lt (mag_digs a) _
    have hyB : y < 4294967296 := by rw [hy]; exact getD_lt (mag_digs b) _
    have ha' : os.length < (mag a).length := by omega
    have e1 := ix_dg _ _ ha'
    rw [← hx] at e1
    have r1 : IntKind.u64.wrap (x : Int) = x := by rw [wrap_u64]; omega
    have r2 : IntKind.u64.wrap (y : Int) = y := by rw [wrap_u64]; omega
    have r6 : IntKind.i64.wrap ((os.length : Int) + 1) = os.length + 1 := by rw [wrap_i64]; omega
    obtain ⟨t1, t2, c', d, hd, hc', hcut, q1, q2, q3, q4, q5⟩ := bor64 x y c hxB hyB hc
    have step : ∀ s', Snd s' (sSubS a b (os ++ [d]) c' k) → KN s' := by
      intro s' hs
      refine hN _ (nx hs ⟨_, _, hos.append (Digs.nil.cons hd), hc', ?_, ?_, rfl⟩ (by omega))
      · rw [val_snoc, List.length_append, List.length_singleton, val_take_getD, val_take_getD, ← hx, ← hy, Nat.pow_succ, Nat.mul_assoc]
        have h1 := congrArg (B ^ os.length * ·) hcut
        simp only [Nat.mul_add] at h1
        omega
      · rw [List.length_append, List.length_singleton]; omega
    have e0 := lset_fwd os k
    have e9 := ix_fwd os k
    by_cases hb' : os.length < (mag b).length
    · have e2 := ix_dg _ _ hb'
      rw [← hy] at e2
      simp [sSubS, eM, eW, ha', hb', e1, e2, e0, e9, dg, r1, r2, r6, q1, q2, q3, q4]
      refine ⟨by omega, ?_⟩
      exact step _ (snd_of (by simp [LeT, sSubS, eM, eW]) (by simp [sSubS, dg]))
    · have hy0 : y = 0 := by rw [hy]; exact getD_out _ _ hb'
      have q6 := q5 hy0
      subst q6
      simp [sSubS, eM, eW, ha', hb', e1, e0, e9, dg, r1, r6, q1, q3, q4]
      refine ⟨by omega, ?_⟩
      exact step _ (snd_of (by simp [LeT, sSubS, eM, eW]) (by simp [sSubS, dg]))
theorem l1MagSub_ok : callable Try.prog 92 = true := by kernel_rfl
end Go.Proofs.Ytpggfnggffedlaa.Ae

namespace Go.Proofs.Ytpggfnggffedlaa.Ae
open Go Go.RowKit Go.Proofs.Ytpggfnggffedlaa.Dig
variable {N : NR}
def sMulS (a b : Nat) (os : List Nat) (i k : Nat) : St := ⟨[.dat (eM a), .dat (eM b), .any, .any, .any, .row 15, .dat (.lit (.int .i64 i)), .any, .any, .any, .any, .any, .any, .any, .any, .any, .any, .any, .any, .any, .any, .any, .any, .any, .any, .any, .any, .any, .any, .any, .any, .any, .any, .any, .any, .any, .any, .any, .any, .any, .any, .any, .any, .any, .any, .any, .any, .any, .any, .any, .any, .any, .any, .any, .any, .any, .any, .any, .any, .any, .any, .any, .any, .any, .any, .any, .any, .any], [none, none, none, none, none, none, none, none, none, none, none, none, none, none, none, some (.row 1 195 (os.map dg ++ List.replicate k z32)), none, none, none, none, none, none, none, none, none, none, none, none, none, none, none, none, none, none, none, none, none, none, none, none, none, none, none, none, none, none, none, none, none, none, none, none, none, none, none, none, none, none, none, none, none, none, none, none, none, none, none, none]⟩
def sMulT (a b : Nat) (os : List Nat) (i k c j : Nat) : St := ⟨[.dat (eM a), .dat (eM b), .any, .any, .any, .row 15, .dat (.lit (.int .i64 i)), .dat (.lit (.int .u64 c)), .dat (.lit (.int .i64 j)), .any, .any, .any, .any, .any, .any, .any, .any, .any, .any, .any, .any, .any, .any, .any, .any, .any, .any, .any, .any, .any, .any, .any, .any, .any, .any, .any, .any, .any, .any, .any, .any, .any, .any, .any, .any, .any, .any, .any, .any, .any, .any, .any, .any, .any, .any, .any, .any, .any, .any, .any, .any, .any, .any, .any, .any, .any, .any, .any], [none, none, none, none, none, none, none, none, none, none, none, none, none, none, none, some (.row 1 195 (os.map dg ++ List.replicate k z32)), none, none, none, none, none, none, none, none, none, none, none, none, none, none, none, none, none, none, none, none, none, none, none, none, none, none, none, none, none, none, none, none, none, none, none, none, none, none, none, none, none, none, none, none, none, none, none, none, none, none, none, none]⟩
theorem l1MagMul_spec : SpecD N Try.prog 89 mulC := by
  refine rdD (mf := fun f => f == 120) (tbl_cons (f := 120) (c := .data trimC) l1Trim_spec l1Trim_ok tbl_nil) (fn := Try.f89) (by kernel_rfl) rfl (by kernel_rfl) ?_
  rintro ⟨a, b⟩ ⟨ha, hb⟩
  refine ⟨by show 2 ≤ 68; decide, ?_⟩
  simp only [n2E, Try.f89]
  simp only [Sm] at ha hb
  have r1 : IntKind.i64.wrap (((mag a).length : Int) + (mag b).length) = ((mag a).length + (mag b).length : Nat) := by rw [wrap_i64]; omega
  have r0 : (((mag a).length : Int) + (mag b).length).toNat = (mag a).length + (mag b).length := by omega
  simp [eM, eW, r1, r0]
  refine ⟨by omega, ?_⟩
  refine loop_go (fun n s => ∃ (os : List Nat) (i : Nat), Digs os ∧ os.length = i + (mag b).length ∧ i + n = (mag a).length ∧ val os = val ((mag a).take i) * b ∧ s = sMulS a b os i n) (s0 := sMulS a b (List.replicate (mag b).length 0) 0 (mag a).length) (n := (mag a).length)
    (snd_of (by simp [LeT, sMulS, eM, eW]) (by
      have e : List.map dg (List.replicate (mag b).length 0) ++ List.replicate (mag a).length z32 = List.replicate ((mag a).length + (mag b).length) (D.lit (.int .u32 0)) := by
        rw [List.map_replicate, Nat.add_comm]; exact List.replicate_append_replicate
      simp only [sMulS, e])) ⟨_, 0, Digs.zeros _, by simp, by simp, by simp [val_zeros, val], rfl⟩ ?_
  rintro n s ⟨os, i, hos, hol, hl, hv, rfl⟩ KN hN
  cases n with
  | zero =>
    have e1 : val os = a * b := by rw [hv, val_take_all _ _ (by omega), val_mag]
    have e2 : os.length < 2 ^ 62 := by omega
    have e3 : (i : Int) = (mag a).length := by omega
    simp [sMulS, eM, eW, trimC_at' os hos, e1, e3]
    simpa using e2
  | succ k =>
    obtain ⟨x, hx⟩ : ∃ x, x = (mag a).getD i 0 := ⟨_, rfl⟩
    have hxB : x < 4294967296 := by rw [hx]; exact getD_lt (mag_digs a) _
    have hia : i < (mag a).length := by omega
    have e1 := ix_dg _ _ hia
    rw [← hx] at e1
    have r6 : IntKind.i64.wrap ((i : Int) + 1) = i + 1 := by rw [wrap_i64]; omega
    have r7 : (i : Int) < (mag a).length := by omega
    simp [sMulS, eM, eW, e1, r7, dg]
    refine loop_go (fun n s => ∃ (os' : List Nat) (j c : Nat), Digs os' ∧ os'.length = i + (mag b).length ∧ j + n = (mag b).length ∧ c < B ∧ val os' + B ^ i * B ^ j * c = val os + B ^ i * x * val ((mag b).take j) ∧ s = sMulT a b os' i (k + 1) c j) (s0 := sMulT a b os i (k + 1) 0 0) (n := (mag b).length)
      (snd_of (by simp [LeT, sMulT, eM, eW]) (by simp [sMulT, dg, List.replicate_succ])) ⟨os, 0, 0, hos, hol, by simp, B_pos, by simp [val], rfl⟩ ?_
    rintro m s ⟨os', j, c, hos', hol', hjl, hc, hv', rfl⟩ KM hM
    cases m with
    | zero =>
      have e2 : (j : Int) = (mag b).length := by omega
      have r8 : IntKind.i64.wrap ((i : Int) + (mag b).length) = (os'.length : Int) := by rw [wrap_i64]; omega
      have r9 : IntKind.u32.wrap (c : Int) = c := by
        simp only [B] at hc
        rw [wrap_u32]; omega
      have r10 : (os'.length : Int) < os'.length + (k + 1) := by omega
      simp [sMulT, eM, eW, e2, r6, r8, r9, r10, ix_mid, lset_mid]
      refine hN _ (nx (s'' := sMulS a b (os' ++ [c]) (i + 1) k) (snd_of (by simp [LeT, sMulS, eM, eW]) (by simp [sMulS, dg])) ⟨_, _, hos'.append (Digs.nil.cons hc), ?_, ?_, ?_, rfl⟩ (by omega))
      · simp only [List.length_append, List.length_singleton]; omega
      · omega
      · have hv2 := hv'
        rw [val_take_all _ _ (by omega : (mag b).length ≤ j), val_mag, hv] at hv2
        rw [val_snoc, hol', Nat.pow_add, val_take_getD, ← hx, Nat.add_mul]
        have : j = (mag b).length := by omega
        rw [← this]
        exact hv2
    | succ m =>
      obtain ⟨y, hy⟩ : ∃ y, y = (mag b).getD j 0 := ⟨_, rfl⟩
      have hyB : y < B := by rw [hy]; exact getD_lt (mag_digs b) _
      have hjb : j < (mag b).length := by omega
      have e2 := ix_dg _ _ hjb
      rw [← hy] at e2
      have hij : i + j < os'.length := by omega
      obtain ⟨o, ho⟩ : ∃ o, o = os'.getD (i + j) 0 := ⟨_, rfl⟩
      have hoB : o < B := by rw [ho]; exact getD_lt hos' _
      have e3 := ix_left os' (List.replicate (k + 1) z32) (i + j) hij
      rw [← ho] at e3
      have hxy : x * y ≤ 4294967295 * 4294967295 := by
        simp only [B] at hyB
        exact Nat.mul_le_mul (by omega) (by omega)
      simp only [B] at hyB hoB hc
      have q1 : IntKind.u64.wrap (x : Int) = x := by rw [wrap_u64]; omega
      have q2 : IntKind.u64.wrap (y : Int) = y := by rw [wrap_u64]; omega
      have q3 : IntKind.u64.wrap (o : Int) = o := by rw [wrap_u64]; omega
      obtain ⟨p, hp⟩ : ∃ p, p = x * y := ⟨_, rfl⟩
      have hp' : (x : Int) * y = p := by rw [hp]; exact (Int.natCast_mul _ _).symm
      have q4 : IntKind.u64.wrap (p : Int) = p := by rw [wrap_u64]; omega
      have q5 : IntKind.u64.wrap ((p : Int) + o) = p + o := by rw [wrap_u64]; omega
      have q6 : IntKind.u64.wrap ((p : Int) + o + c) = p + o + c := by rw [wrap_u64]; omega
      have q7 : IntKind.i64.wrap ((i : Int) + j) = i + j := by rw [wrap_i64]; omega
      have q8 : ((i : Int) + j).toNat = i + j := by omega
      have q9 : (j : Int) < (mag b).length := by omega
      have q10 : IntKind.i64.wrap ((j : Int) + 1) = j + 1 := by rw [wrap_i64]; omega
      have q11 : (i : Int) + j < os'.length + (k + 1) := by omega
      have q12 : (0 : Int) ≤ i + j := by omega
      obtain ⟨c', d, hd, hcut, w1, w2⟩ := cut32 ((p : Int) + o + c) (c + (p + o)) (by omega)
      have e4 := lset_left os' (List.replicate (k + 1) z32) (i + j) d hij
      simp [sMulT, eM, eW, e1, hia, hjb, e2, e3, e4, dg, q1, q2, q3, hp', q4, q5, q6, q7, q8, q9, q10, q11, q12, w1, w2]
      refine hM _ (nx (m := m) (s'' := sMulT a b (os'.set (i + j) d) i (k + 1) c' (j + 1)) (snd_of (by simp [LeT, sMulT, eM, eW]) (by simp [sMulT, dg])) ⟨_, _, _, hos'.set _ hd, by rw [List.length_set]; exact hol', by omega, ?_, ?_, rfl⟩ (by omega))
      · simp only [B] at hd hcut ⊢; omega
      · have h1 := val_set os' (i + j) d hij
        rw [← ho, Nat.pow_add] at h1
        rw [hp] at hcut
        rw [val_take_getD, ← hy, Nat.pow_succ, Nat.mul_add]
        have h2 := mul_step (B ^ i) (B ^ j) x y o c d c' _ _ h1 hcut
        omega
theorem l1MagMul_ok : callable Try.prog 89 = true := by kernel_rfl
end Go.Proofs.Ytpggfnggffedlaa.Ae

namespace Go.Proofs.Ytpggfnggffedlaa.Ae
open Go Go.RowKit Go.Proofs.Ytpggfnggffedlaa.Dig
variable {N : NR}
noncomputable def div1C := ctD n2dE (fun p => Sm p.a ∧ 0 < p.b ∧ p.b < B) (fun p => [eM (p.a / p.b), eM (p.a % p.b)])
theorem div1C_at (a b : Nat) : div1C [eM a, dg b] = (Sm a ∧ 0 < b ∧ b < B, [eM (a / b), eM (a % b)]) := ctD_at n2dE_inj ⟨a, b⟩
def div1S (a b : Nat) (qs : List Nat) (r k : Nat) : St := ⟨[.dat (eM a), .dat (dg b), .any, .any, .any, .any, .row 12, .dat (.lit (.int .u64 r)), .dat (.lit (.int .i64 ((k : Int) - 1))), .any, .any, .any, .any, .any, .any, .any, .any, .any, .any, .any, .any, .any, .any, .any, .any, .any, .any, .any, .any, .any, .any, .any, .any, .any, .any, .any, .any, .any, .any, .any, .any, .any, .any, .any], [none, none, none, none, none, none, none, none, none, none, none, none, some (.row 1 195 (List.replicate k z32 ++ qs.map dg)), none, none, none, none, none, none, none, none, none, none, none, none, none, none, none, none, none, none, none, none, none, none, none, none, none, none, none, none, none, none, none]⟩
theorem l1MagDiv1_spec : SpecD N Try.prog 121 div1C := by
  refine rdD (mf := fun f => f == 120) (tbl_cons (f := 120) (c := .data trimC) l1Trim_spec l1Trim_ok (tbl_cons (f := 87) (c := .data magC) l1Mag_spec l1Mag_ok tbl_nil)) (fn := Try.f121) (by kernel_rfl) rfl (by kernel_rfl) ?_
  rintro ⟨a, b⟩ ⟨ha, hb0, hb⟩
  refine ⟨by show 2 ≤ 44; decide, ?_⟩
  simp only [n2dE, Try.f121]
  generalize hq0 : a / b = q0
  generalize hm0 : a % b = m0
  simp only [Sm] at ha hb0 hb
  have r1 : IntKind.i64.wrap (((mag a).length : Int) - 1) = ((mag a).length : Int) - 1 := by rw [wrap_i64]; omega
  simp [eM, eW, dg, r1]
  refine ⟨by omega, ?_⟩
  refine loop_go (fun n s => ∃ (qs : List Nat) (r : Nat), Digs qs ∧ r < b ∧ qs.length + n = (mag a).length ∧ val ((mag a).drop n) = val qs * b + r ∧ s = div1S a b qs r n) (s0 := div1S a b [] 0 (mag a).length) (n := (mag a).length)
    (snd_of (by simp [LeT, div1S, eM, eW, dg]) (by simp [div1S, z32])) ⟨[], 0, Digs.nil, hb0, by simp, by rw [List.drop_eq_nil_of_le (Nat.le_refl _)]; simp [val], rfl⟩ ?_
  rintro n s ⟨qs, r, hqs, hr, hl, hv, rfl⟩ KN hN
  simp only [B] at hb
  cases n with
  | zero =>
    rw [List.drop_zero, val_mag, Nat.mul_comm] at hv
    have e1 : q0 = val qs := by rw [← hq0]; rw [hv, Nat.mul_add_div hb0, Nat.div_eq_of_lt hr, Nat.add_zero]
    have e2 : m0 = r := by rw [← hm0]; rw [hv, Nat.mul_add_mod, Nat.mod_eq_of_lt hr]
    have e3 : qs.length < 2 ^ 62 := by omega
    have m1 := magC_at' r
    have t2 : tbl [(120, Ct.data trimC), (87, .data magC)] 87 = some (.data magC) := rfl
    have t1 := trimC_at' qs hqs
    simp [dg] at t1
    simp [div1S, eM, eW, dg, t1, t2, m1, e1, e2]
    exact ⟨by simpa using e3, by omega⟩
  | succ k =>
    obtain ⟨x, hx⟩ : ∃ x, x = (mag a).getD k 0 := ⟨_, rfl⟩
    have hxB : x < 4294967296 := by rw [hx]; exact getD_lt (mag_digs a) _
    have hk : k < (mag a).length := by omega
    have e1 := ix_dg _ _ hk
    rw [← hx] at e1
    have hrb : r * 4294967296 ≤ 4294967294 * 4294967296 := Nat.mul_le_mul_right _ (by omega)
    obtain ⟨h, hh⟩ : ∃ h, h = r * 4294967296 + x := ⟨_, rfl⟩
    have q1 : IntKind.u64.wrap ((r : Int) * 4294967296) = (r : Int) * 4294967296 := by rw [wrap_u64]; omega
    have q2 : IntKind.u64.wrap (x : Int) = x := by rw [wrap_u64]; omega
    have q3 : bOr .u64 ((r : Int) * 4294967296) x = h := by
      have := bOr64 (r * 4294967296) x (by omega) (by omega)
      rw [or_cut r x hxB, ← hh] at this
      rw [← this]; congr 1
    have q4 : IntKind.u64.wrap (b : Int) = b := by rw [wrap_u64]; omega
    obtain ⟨q, hq⟩ : ∃ q, q = h / b := ⟨_, rfl⟩
    obtain ⟨r', hr'⟩ : ∃ r', r' = h % b := ⟨_, rfl⟩
    have hqB : q < 4294967296 := by
      rw [hq, Nat.div_lt_iff_lt_mul hb0, hh]
      have : (r + 1) * 4294967296 ≤ b * 4294967296 := Nat.mul_le_mul_right _ hr
      omega
    have q5 := tdiv_nat h b
    rw [← hq] at q5
    have q6 := tmod_nat h b
    rw [← hr'] at q6
    have q7 : IntKind.u64.wrap (q : Int) = q := by rw [wrap_u64]; omega
    have q8 : IntKind.u32.wrap (q : Int) = q := by rw [wrap_u32]; omega
    have q9 : IntKind.i64.wrap ((k : Int) - 1) = (k : Int) - 1 := by rw [wrap_i64]; omega
    have q10 : (b : Int) ≠ 0 := by omega
    have q11 : (k : Int) < k + 1 + qs.length := by omega
    have hb1 : ¬ b = 0 := by omega
    simp [div1S, eM, eW, e1, dg, q1, q2, q3, q4, q5, q6, q7, q8, q9, q11, hb1, ix_rev, lset_rev]
    refine hN _ (nx (m := k) (s'' := div1S a b (q :: qs) r' k) (snd_of (by simp [LeT, div1S, eM, eW, dg]) (by simp [div1S, dg])) ⟨_, _, hqs.cons hqB, by rw [hr']; exact Nat.mod_lt _ hb0, by simp; omega, ?_, rfl⟩ (by omega))
    rw [drop_val hk, ← hx, hv, val, Nat.add_mul, hq, hr']
    have h1 := Nat.div_add_mod h b
    rw [Nat.mul_comm] at h1
    have h2 : B * (val qs * b + r) = B * val qs * b + B * r := by rw [Nat.mul_add, Nat.mul_assoc]
    simp only [B] at *
    omega
theorem l1MagDiv1_ok : callable Try.prog 121 = true := by kernel_rfl
end Go.Proofs.Ytpggfnggffedlaa.Ae

namespace Go.Proofs.Ytpggfnggffedlaa.Ae
open Go Go.RowKit Go.Proofs.Ytpggfnggffedlaa.Dig
variable {N : NR}
structure Sh3 where
  a : Nat
  s : Nat
  m : Nat
def sh3E (p : Sh3) : List D := [eM p.a, .lit (.int .u64 p.s), .lit (.int .i64 p.m)]
theorem sh3E_inj (p q : Sh3) (h : sh3E p = sh3E q) : p = q := by
  obtain ⟨a, b, m⟩ := p; obtain ⟨c, d, n⟩ := q
  simp only [sh3E, List.cons.injEq, and_true] at h
  have h2 := h.2.1
  injection h2 with h2
  injection h2 with _ h2
  have h3 := h.2.2
  injection h3 with h3
  injection h3 with _ h3
  rw [eM_inj h.1, Int.ofNat.inj h2, Int.ofNat.inj h3]
noncomputable def shlO := ctD sh3E (fun p => Sm p.a ∧ p.s < 32 ∧ p.m ≤ 1 ∧ (p.m = 0 → p.a * 2 ^ p.s < B ^ (mag p.a).length)) (fun p => (dig ((mag p.a).length + p.m) (p.a * 2 ^ p.s)).map dg)
theorem shlO_at (a s m : Nat) : shlO [eM a, .lit (.int .u64 s), .lit (.int .i64 m)] = ((Sm a ∧ s < 32 ∧ m ≤ 1 ∧ (m = 0 → a * 2 ^ s < B ^ (mag a).length)), (dig ((mag a).length + m) (a * 2 ^ s)).map dg) := ctD_at sh3E_inj ⟨a, s, m⟩
def shlS (a s m : Nat) (os : List Nat) (c k : Nat) : St := ⟨[.dat (eM a), .dat (.lit (.int .u64 s)), .dat (.lit (.int .i64 m)), .any, .any, .any, .any, .row 15, .dat (.lit (.int .u64 c)), .dat (.lit (.int .i64 os.length)), .any, .any, .any, .any, .any, .any, .any, .any, .any, .any, .any, .any, .any, .any, .any, .any, .any, .any, .any, .any, .any, .any, .any, .any, .any, .any, .any, .any, .any, .any, .any, .any, .any, .any, .any, .any, .any], [none, none, none, none, none, none, none, none, none, none, none, none, none, none, none, some (.row 1 195 (os.map dg ++ List.replicate (k + m) z32)), none, none, none, none, none, none, none, none, none, none, none, none, none, none, none, none, none, none, none, none, none, none, none, none, none, none, none, none, none, none, none]⟩
theorem l1Shl_specO : SpecO N Try.prog 122 1 195 shlO := by
  refine rdO (by decide) (mf := fun f => false) tbl_nil (fn := Try.f122) (by kernel_rfl) rfl (by kernel_rfl) ?_
  rintro ⟨a, s, m⟩ ⟨ha, hs32, hm, hm0⟩
  refine ⟨by show 3 ≤ 47; decide, List.all_eq_true.2 (fun d hd => by obtain ⟨k, _, rfl⟩ := List.mem_map.1 hd; rfl), ?_⟩
  simp only [sh3E, Try.f122]
  have hs32 : s < 32 := hs32
  have hm : m ≤ 1 := hm
  have hm0 : m = 0 → a * 2 ^ s < B ^ (mag a).length := hm0
  simp only [Sm] at ha
  have r5 : IntKind.i64.wrap (((mag a).length : Int) + m) = (mag a).length + m := by rw [wrap_i64]; omega
  have r55 : (((mag a).length : Int) + m).toNat = (mag a).length + m := by omega
  have h2s : 2 ^ s ≤ 2 ^ 31 := Nat.pow_le_pow_right (by decide) (by omega)
  generalize hos : (dig ((mag a).length + m) (a * 2 ^ s)).map dg = res
  simp [eM, eW, r5, r55]
  refine ⟨by omega, ?_⟩
  refine loop_go (fun n st => ∃ (os : List Nat) (c : Nat), Digs os ∧ os.length + n = (mag a).length ∧ c < 2 ^ s ∧ val os + B ^ os.length * c = 2 ^ s * val ((mag a).take os.length) ∧ st = shlS a s m os c n) (s0 := shlS a s m [] 0 (mag a).length) (n := (mag a).length)
    (snd_of (by simp [LeT, shlS, eM, eW]) (by simp [shlS, z32])) ⟨_, 0, Digs.nil, by simp, Nat.pow_pos (by decide), by simp [val], rfl⟩ ?_
  rintro n st ⟨os, c, hod, hl, hc, hv, rfl⟩ KN hN
  cases n with
  | zero =>
    have hl0 : (mag a).length = os.length := by omega
    have e4 : IntKind.u32.wrap (c : Int) = c := by rw [wrap_u32]; omega
    have hcB : c < B := by simp only [B]; omega
    have hv2 := hv
    rw [val_take_all _ _ (by omega), val_mag, Nat.mul_comm (2 ^ s) a] at hv2
    rcases Nat.le_one_iff_eq_zero_or_eq_one.1 hm with rfl | rfl
    · have h1 := hm0 rfl

      rw [hl0] at h1
      have hc0 : c = 0 := by
        rcases Nat.eq_zero_or_pos c with h | h
        · exact h
        · have : B ^ os.length * 1 ≤ B ^ os.length * c := Nat.mul_le_mul_left _ h
          generalize B ^ os.length = M at *
          omega
      have h2 : dig os.length (a * 2 ^ s) = os := dig_of hod rfl (by rw [hc0] at hv2; omega)
      rw [hl0, Nat.add_zero, h2] at hos
      simp [shlS, eM, eW, hl0]
      exact ⟨6, 15, _, rfl, rfl, .inl ⟨rfl, hos⟩⟩
    · have h2 : dig (os.length + 1) (a * 2 ^ s) = os ++ [c] := dig_of (hod.append (Digs.nil.cons hcB)) (by simp) (by rw [val_snoc, hv2])
      rw [hl0, h2] at hos
      have e3 := lset_fwd os 0
      have e5 := ix_fwd os 0
      simp [z32] at e3 e5
      simp [shlS, eM, eW, hl0, z32, e3, e4, e5]
      exact ⟨6, 15, _, rfl, rfl, .inl ⟨rfl, by rw [← hos]; simp [dg]⟩⟩
  | succ k =>
    obtain ⟨x, hx⟩ : ∃ x, x = (mag a).getD os.length 0 := ⟨_, rfl⟩
    have hxB : x < 4294967296 := by rw [hx]; exact getD_lt (mag_digs a) _
    have hi : os.length < (mag a).length := by omega
    have e1 := ix_dg _ _ hi
    rw [← hx] at e1
    have q0 : IntKind.u64.wrap (x : Int) = x := by rw [wrap_u64]; omega
    have q1 : min s 64 = s := by omega
    obtain ⟨y, hy⟩ : ∃ y, y = x * 2 ^ s := ⟨_, rfl⟩
    have hyB : y ≤ 4294967295 * 2 ^ 31 := by rw [hy]; exact Nat.mul_le_mul (by omega) h2s
    have q2 : IntKind.u64.wrap ((x : Int) * 2 ^ s) = y := by
      have : (x : Int) * 2 ^ s = y := by rw [hy]; simp
      rw [this, wrap_u64]; omega
    obtain ⟨h, hh⟩ : ∃ h, h = c + y := ⟨_, rfl⟩
    have q3 : bOr .u64 (y : Int) c = h := by
      rw [bOr64 y c (by omega) (by omega), Nat.or_comm, hy, or_low c x s hc, hh, hy]
    obtain ⟨c', d, hd, hcut, w1, w2⟩ := cut32 (h : Int) h rfl
    have q4 : IntKind.i64.wrap ((os.length : Int) + 1) = os.length + 1 := by rw [wrap_i64]; omega
    have e0 := lset_fwd os (k + m)
    have e9 := ix_fwd os (k + m)
    have e8 : k + 1 + m = k + m + 1 := by omega
    simp [shlS, eM, eW, e1, dg, q0, q1, q2, q3, q4, hi, w1, w2, e8, e0, e9]
    have hmx := maxLen_ge
    refine ⟨by omega, hN _ (nx (m := k) (s'' := shlS a s m (os ++ [d]) c' k) (snd_of (by simp [LeT, shlS, eM, eW]) (by simp [shlS, dg])) ⟨_, _, hod.append (Digs.nil.cons hd), ?_, ?_, ?_, rfl⟩ (by omega))⟩
    · simp only [List.length_append, List.length_singleton]; omega
    · have h1 : h < 2 ^ s * 4294967296 := by
        have h3 : (x + 1) * 2 ^ s ≤ 4294967296 * 2 ^ s := Nat.mul_le_mul_right _ hxB
        rw [Nat.add_mul, ← hy] at h3
        omega
      have h2 : B * c' < B * 2 ^ s := by simp only [B] at *; omega
      exact Nat.lt_of_mul_lt_mul_left h2
    · rw [val_snoc, List.length_append, List.length_singleton, Nat.pow_succ, Nat.mul_assoc, Nat.add_assoc, ← Nat.mul_add, hcut, hh, hy, val_take_getD, ← hx]
      have h3 : B ^ os.length * (x * 2 ^ s) = 2 ^ s * (B ^ os.length * x) := by
        simp only [Nat.mul_assoc, Nat.mul_comm, Nat.mul_left_comm]
      rw [Nat.mul_add, Nat.mul_add, h3]
      omega
theorem l1Shl_ok : callable Try.prog 122 = true := by kernel_rfl
end Go.Proofs.Ytpggfnggffedlaa.Ae

namespace Go.Proofs.Ytpggfnggffedlaa.Ae
open Go Go.RowKit Go.Proofs.Ytpggfnggffedlaa.Dig
variable {N : NR}
theorem bor64b (x y c : Nat) (hx : x < 4294967296) (hy : y < 4294967296) (hc : c ≤ 1) : ∃ (t1 t2 : Int) (c' d : Nat), d < B ∧ c' ≤ 1 ∧ d + y + c = x + B * c' ∧ IntKind.u64.wrap ((x : Int) - y) = t1 ∧ IntKind.u64.wrap (t1 - c) = t2 ∧ IntKind.u32.wrap t2 = d ∧ t2 / 9223372036854775808 = c' := by
  obtain ⟨t1, h1⟩ : ∃ t1 : Int, t1 = ((x : Int) - y) % 18446744073709551616 := ⟨_, rfl⟩
  obtain ⟨t2, h2⟩ : ∃ t2 : Int, t2 = (t1 - c) % 18446744073709551616 := ⟨_, rfl⟩
  have e1 : IntKind.u64.wrap ((x : Int) - y) = t1 := by rw [wrap_u64, h1]
  have e2 : IntKind.u64.wrap (t1 - c) = t2 := by rw [wrap_u64, h2]
  have h3 : t2 = ((x : Int) - c - y) % 18446744073709551616 := by omega
  rcases Nat.lt_or_ge x (y + c) with h | h
  · refine ⟨t1, t2, 1, x + 4294967296 - y - c, by simp only [B]; omega, by omega, by simp only [B]; omega, e1, e2, ?_, ?_⟩
    · rw [wrap_u32]; omega
    · omega
  · refine ⟨t1, t2, 0, x - y - c, by simp only [B]; omega, by omega, by simp only [B]; omega, e1, e2, ?_, ?_⟩
    · rw [wrap_u32]; omega
    · omega
theorem and_low (p : Nat) (hp : p < 18446744073709551616) : bAnd .u64 (p : Int) 4294967295 = ((p % 4294967296 : Nat) : Int) := by
  have := bAnd64 p 4294967295 hp (by omega)
  have h2 : p &&& 4294967295 = p % 4294967296 := Nat.and_two_pow_sub_one_eq_mod p 32
  rw [h2] at this
  exact this
theorem drop_cons {us : List Nat} {i : Nat} (h : i < us.length) : us.drop i = us.getD i 0 :: us.drop (i + 1) := by
  rw [List.drop_eq_getElem_cons h, List.getD_eq_getElem?_getD, List.getElem?_eq_getElem h]; rfl
def inC : Code → Code
  | .cond _ a _ => a
  | c => c
noncomputable def sdB : Code := Try.f97.body.getD .skip
noncomputable def sdM : Code := inL (inB (sq2 (sq1 (sq2 (sq2 (sq2 (sq2 (sq2 (sq2 (sq2 (sq2 (sq2 sdB))))))))))))
noncomputable def sdX : Code := inB (sq1 (sq2 sdM))
noncomputable def sdL6 : Code := inL (inB (sq2 (sq1 (sq2 (sq2 (sq2 (sq2 (sq2 (sq2 sdX)))))))))
noncomputable def sdL8 : Code := inL (inB (sq2 (sq1 (sq2 (sq2 (inC (sq2 (sq1 (sq2 (sq2 (sq2 (sq2 (sq2 (sq2 (sq2 (sq2 (sq2 sdX)))))))))))))))))
def sDivMf : FuncId → Bool := fun f => f == 120 || f == 122
noncomputable def sDivTb : List (FuncId × Ct) := [(120, .data trimC), (91, .data sCmpC), (121, .data div1C), (122, .own 1 195 shlO)]
theorem sDivTb_ok : TbOK N Try.prog (tbl sDivTb) := tbl_cons (c := .data trimC) l1Trim_spec l1Trim_ok (tbl_cons (c := .data sCmpC) l1MagCmp_spec l1MagCmp_ok (tbl_cons (c := .data div1C) l1MagDiv1_spec l1MagDiv1_ok (tbl_cons (c := .own 1 195 shlO) l1Shl_specO l1Shl_ok tbl_nil)))
theorem sdt1 : tbl sDivTb 120 = some (.data trimC) := rfl
theorem sdt2 : tbl sDivTb 91 = some (.data sCmpC) := rfl
theorem sdt3 : tbl sDivTb 121 = some (.data div1C) := rfl
theorem sdt4 : tbl sDivTb 122 = some (.own 1 195 shlO) := rfl
attribute [simp] sdt1 sdt2 sdt3 sdt4 sDivMf
def sDv6 (s n : Nat) (vs us qs : List Nat) (k g c b i : Nat) : St := ⟨[.any, .any, .any, .any, .any, .any, .dat (.lit (.int .u64 s)), .dat (.lit (.int .i64 n)), .row 60, .row 63, .row 69, .dat (.lit (.int .i64 k)), .any, .dat (.lit (.int .u64 g)), .any, .any, .dat (.lit (.int .u64 c)), .dat (.lit (.int .u64 b)), .dat (.lit (.int .i64 i)), .any, .any, .any, .any, .any, .any, .any, .any, .any, .any, .any, .any, .any, .any, .any, .any, .any, .any, .any, .any, .any, .any, .any, .any, .any, .any, .any, .any, .any, .any, .any, .any, .any, .any, .any, .any, .any, .any, .any, .any, .any, .any, .any, .any, .any, .any, .any, .any, .any, .any, .any, .any, .any, .any, .any, .any, .any, .any, .any, .any, .any, .any, .any, .any, .any, .any, .any, .any, .any, .any, .any, .any, .any, .any, .any, .any, .any, .any, .any, .any, .any, .any, .any, .any, .any, .any, .any, .any, .any, .any, .any, .any, .any, .any, .any, .any, .any, .any, .any, .any, .any, .any, .any, .any, .any, .any, .any, .any, .any, .any, .any, .any, .any, .any, .any, .any, .any, .any, .any, .any, .any, .any, .any, .any, .any, .any, .any, .any, .any, .any, .any, .any, .any, .any, .any, .any, .any, .any, .any, .any, .any, .any, .any, .any, .any, .any, .any, .any, .any, .any, .any, .any, .any, .any, .any, .any, .any, .any, .any, .any, .any, .any, .any, .any, .any, .any, .any, .any, .any, .any, .any, .any, .any, .any, .any, .any, .any, .any, .any, .any, .any, .any, .any, .any, .any, .any, .any, .any, .any, .any, .any, .any, .any, .any, .any, .any, .any, .any, .any, .any, .any, .any, .any, .any, .any, .any, .any, .any, .any, .any, .any, .any, .any, .any, .any, .any, .any, .any, .any, .any, .any, .any, .any, .any, .any, .any, .any, .any, .any, .any, .any, .any, .any, .any, .any, .any, .any, .any, .any, .any, .any, .any, .any, .any, .any, .any, .any, .any, .any, .any, .any, .any, .any, .any, .any, .any, .any, .any, .any, .any, .any, .any, .any, .any, .any, .any, .any, .any, .any, .any, .any, .any, .any, .any, .any, .any, .any, .any, .any, .any, .any, .any], [none, none, none, none, none, none, none, none, none, none, none, none, none, none, none, none, none, none, none, none, none, none, none, none, none, none, none, none, none, none, none, none, none, none, none, none, none, none, none, none, none, none, none, none, none, none, none, none, none, none, none, none, none, none, none, none, none, none, none, none, some (.row 1 195 (vs.map dg)), none, none, some (.row 1 195 (us.map dg)), none, none, none, none, none, some (.row 1 195 (List.replicate (k + 1) z32 ++ qs.map dg)), none, none, none, none, none, none, none, none, none, none, none, none, none, none, none, none, none, none, none, none, none, none, none, none, none, none, none, none, none, none, none, none, none, none, none, none, none, none, none, none, none, none, none, none, none, none, none, none, none, none, none, none, none, none, none, none, none, none, none, none, none, none, none, none, none, none, none, none, none, none, none, none, none, none, none, none, none, none, none, none, none, none, none, none, none, none, none, none, none, none, none, none, none, none, none, none, none, none, none, none, none, none, none, none, none, none, none, none, none, none, none, none, none, none, none, none, none, none, none, none, none, none, none, none, none, none, none, none, none, none, none, none, none, none, none, none, none, none, none, none, none, none, none, none, none, none, none, none, none, none, none, none, none, none, none, none, none, none, none, none, none, none, none, none, none, none, none, none, none, none, none, none, none, none, none, none, none, none, none, none, none, none, none, none, none, none, none, none, none, none, none, none, none, none, none, none, none, none, none, none, none, none, none, none, none, none, none, none, none, none, none, none, none, none, none, none, none, none, none, none, none, none, none, none, none, none, none, none, none, none, none]⟩
def sDe6 (s n : Nat) (vs us qs : List Nat) (k g c b : Nat) : St := ⟨[.any, .any, .any, .any, .any, .any, .dat (.lit (.int .u64 s)), .dat (.lit (.int .i64 n)), .row 60, .row 63, .row 69, .dat (.lit (.int .i64 k)), .any, .dat (.lit (.int .u64 g)), .any, .any, .dat (.lit (.int .u64 c)), .dat (.lit (.int .u64 b)), .dat (.lit (.int .i64 n)), .any, .any, .any, .any, .any, .any, .any, .any, .any, .any, .any, .any, .any, .any, .any, .any, .any, .any, .any, .any, .any, .any, .any, .any, .any, .any, .any, .any, .any, .any, .any, .any, .any, .any, .any, .any, .any, .any, .any, .any, .any, .any, .any, .any, .any, .any, .any, .any, .any, .any, .any, .any, .any, .any, .any, .any, .any, .any, .any, .any, .any, .any, .any, .any, .any, .any, .any, .any, .any, .any, .any, .any, .any, .any, .any, .any, .any, .any, .any, .any, .any, .any, .any, .any, .any, .any, .any, .any, .any, .any, .any, .any, .any, .any, .any, .any, .any, .any, .any, .any, .any, .any, .any, .any, .any, .any, .any, .any, .any, .any, .any, .any, .any, .any, .any, .any, .any, .any, .any, .any, .any, .any, .any, .any, .any, .any, .any, .any, .any, .any, .any, .any, .any, .any, .any, .any, .dat (.lit (.int .i64 n)), .dat (.lit (.int .i64 n)), .dat (.lit (.bool false)), .any, .any, .any, .any, .any, .any, .any, .any, .any, .any, .any, .any, .any, .any, .any, .any, .any, .any, .any, .any, .any, .any, .any, .any, .any, .any, .any, .any, .any, .any, .any, .any, .any, .any, .any, .any, .any, .any, .any, .any, .any, .any, .any, .any, .any, .any, .any, .any, .any, .any, .any, .any, .any, .any, .any, .any, .any, .any, .any, .any, .any, .any, .any, .any, .any, .any, .any, .any, .any, .any, .any, .any, .any, .any, .any, .any, .any, .any, .any, .any, .any, .any, .any, .any, .any, .any, .any, .any, .any, .any, .any, .any, .any, .any, .any, .any, .any, .any, .any, .any, .any, .any, .any, .any, .any, .any, .any, .any, .any, .any, .any, .any, .any, .any, .any, .any, .any, .any, .any, .any, .any, .any, .any, .any, .any, .any, .any, .any, .any, .any, .any, .any, .any, .any, .any, .any, .any, .any, .any, .any, .any, .any, .any], [none, none, none, none, none, none, none, none, none, none, none, none, none, none, none, none, none, none, none, none, none, none, none, none, none, none, none, none, none, none, none, none, none, none, none, none, none, none, none, none, none, none, none, none, none, none, none, none, none, none, none, none, none, none, none, none, none, none, none, none, some (.row 1 195 (vs.map dg)), none, none, some (.row 1 195 (us.map dg)), none, none, none, none, none, some (.row 1 195 (List.replicate (k + 1) z32 ++ qs.map dg)), none, none, none, none, none, none, none, none, none, none, none, none, none, none, none, none, none, none, none, none, none, none, none, none, none, none, none, none, none, none, none, none, none, none, none, none, none, none, none, none, none, none, none, none, none, none, none, none, none, none, none, none, none, none, none, none, none, none, none, none, none, none, none, none, none, none, none, none, none, none, none, none, none, none, none, none, none, none, none, none, none, none, none, none, none, none, none, none, none, none, none, none, none, none, none, none, none, none, none, none, none, none, none, none, none, none, none, none, none, none, none, none, none, none, none, none, none, none, none, none, none, none, none, none, none, none, none, none, none, none, none, none, none, none, none, none, none, none, none, none, none, none, none, none, none, none, none, none, none, none, none, none, none, none, none, none, none, none, none, none, none, none, none, none, none, none, none, none, none, none, none, none, none, none, none, none, none, none, none, none, none, none, none, none, none, none, none, none, none, none, none, none, none, none, none, none, none, none, none, none, none, none, none, none, none, none, none, none, none, none, none, none, none, none, none, none, none, none, none, none, none, none, none, none, none, none, none, none, none, none, none]⟩
def sDv8 (s n : Nat) (vs us qs : List Nat) (k g c i : Nat) : St := ⟨[.any, .any, .any, .any, .any, .any, .dat (.lit (.int .u64 s)), .dat (.lit (.int .i64 n)), .row 60, .row 63, .row 69, .dat (.lit (.int .i64 k)), .any, .dat (.lit (.int .u64 g)), .any, .any, .any, .any, .any, .any, .any, .any, .dat (.lit (.int .u64 c)), .dat (.lit (.int .i64 i)), .any, .any, .any, .any, .any, .any, .any, .any, .any, .any, .any, .any, .any, .any, .any, .any, .any, .any, .any, .any, .any, .any, .any, .any, .any, .any, .any, .any, .any, .any, .any, .any, .any, .any, .any, .any, .any, .any, .any, .any, .any, .any, .any, .any, .any, .any, .any, .any, .any, .any, .any, .any, .any, .any, .any, .any, .any, .any, .any, .any, .any, .any, .any, .any, .any, .any, .any, .any, .any, .any, .any, .any, .any, .any, .any, .any, .any, .any, .any, .any, .any, .any, .any, .any, .any, .any, .any, .any, .any, .any, .any, .any, .any, .any, .any, .any, .any, .any, .any, .any, .any, .any, .any, .any, .any, .any, .any, .any, .any, .any, .any, .any, .any, .any, .any, .any, .any, .any, .any, .any, .any, .any, .any, .any, .any, .any, .any, .any, .any, .any, .any, .any, .any, .any, .any, .any, .any, .any, .any, .any, .any, .any, .any, .any, .any, .any, .any, .any, .any, .any, .any, .any, .any, .any, .any, .any, .any, .any, .any, .any, .any, .any, .any, .any, .any, .any, .any, .any, .any, .any, .any, .any, .any, .any, .any, .any, .any, .any, .any, .any, .any, .any, .any, .any, .any, .any, .any, .any, .any, .any, .any, .any, .any, .any, .any, .any, .any, .any, .any, .any, .any, .any, .any, .any, .any, .any, .any, .any, .any, .any, .any, .any, .any, .any, .any, .any, .any, .any, .any, .any, .any, .any, .any, .any, .any, .any, .any, .any, .any, .any, .any, .any, .any, .any, .any, .any, .any, .any, .any, .any, .any, .any, .any, .any, .any, .any, .any, .any, .any, .any, .any, .any, .any, .any, .any, .any, .any, .any, .any, .any, .any, .any, .any, .any, .any, .any, .any, .any, .any, .any, .any, .any, .any, .any, .any, .any, .any], [none, none, none, none, none, none, none, none, none, none, none, none, none, none, none, none, none, none, none, none, none, none, none, none, none, none, none, none, none, none, none, none, none, none, none, none, none, none, none, none, none, none, none, none, none, none, none, none, none, none, none, none, none, none, none, none, none, none, none, none, some (.row 1 195 (vs.map dg)), none, none, some (.row 1 195 (us.map dg)), none, none, none, none, none, some (.row 1 195 (List.replicate (k + 1) z32 ++ qs.map dg)), none, none, none, none, none, none, none, none, none, none, none, none, none, none, none, none, none, none, none, none, none, none, none, none, none, none, none, none, none, none, none, none, none, none, none, none, none, none, none, none, none, none, none, none, none, none, none, none, none, none, none, none, none, none, none, none, none, none, none, none, none, none, none, none, none, none, none, none, none, none, none, none, none, none, none, none, none, none, none, none, none, none, none, none, none, none, none, none, none, none, none, none, none, none, none, none, none, none, none, none, none, none, none, none, none, none, none, none, none, none, none, none, none, none, none, none, none, none, none, none, none, none, none, none, none, none, none, none, none, none, none, none, none, none, none, none, none, none, none, none, none, none, none, none, none, none, none, none, none, none, none, none, none, none, none, none, none, none, none, none, none, none, none, none, none, none, none, none, none, none, none, none, none, none, none, none, none, none, none, none, none, none, none, none, none, none, none, none, none, none, none, none, none, none, none, none, none, none, none, none, none, none, none, none, none, none, none, none, none, none, none, none, none, none, none, none, none, none, none, none, none, none, none, none, none, none, none, none, none, none, none]⟩
def sDe8 (s n : Nat) (vs us qs : List Nat) (k g c : Nat) : St := ⟨[.any, .any, .any, .any, .any, .any, .dat (.lit (.int .u64 s)), .dat (.lit (.int .i64 n)), .row 60, .row 63, .row 69, .dat (.lit (.int .i64 k)), .any, .dat (.lit (.int .u64 g)), .any, .any, .any, .any, .any, .any, .any, .any, .dat (.lit (.int .u64 c)), .dat (.lit (.int .i64 n)), .any, .any, .any, .any, .any, .any, .any, .any, .any, .any, .any, .any, .any, .any, .any, .any, .any, .any, .any, .any, .any, .any, .any, .any, .any, .any, .any, .any, .any, .any, .any, .any, .any, .any, .any, .any, .any, .any, .any, .any, .any, .any, .any, .any, .any, .any, .any, .any, .any, .any, .any, .any, .any, .any, .any, .any, .any, .any, .any, .any, .any, .any, .any, .any, .any, .any, .any, .any, .any, .any, .any, .any, .any, .any, .any, .any, .any, .any, .any, .any, .any, .any, .any, .any, .any, .any, .any, .any, .any, .any, .any, .any, .any, .any, .any, .any, .any, .any, .any, .any, .any, .any, .any, .any, .any, .any, .any, .any, .any, .any, .any, .any, .any, .any, .any, .any, .any, .any, .any, .any, .any, .any, .any, .any, .any, .any, .any, .any, .any, .any, .any, .any, .any, .any, .any, .any, .any, .any, .any, .any, .any, .any, .any, .any, .any, .any, .any, .any, .any, .any, .any, .any, .any, .any, .any, .any, .any, .any, .any, .any, .any, .any, .any, .any, .any, .any, .any, .any, .any, .any, .any, .any, .any, .any, .any, .any, .any, .any, .any, .any, .any, .any, .any, .any, .any, .any, .any, .any, .any, .any, .any, .dat (.lit (.int .i64 n)), .dat (.lit (.int .i64 n)), .dat (.lit (.bool false)), .any, .any, .any, .any, .any, .any, .any, .any, .any, .any, .any, .any, .any, .any, .any, .any, .any, .any, .any, .any, .any, .any, .any, .any, .any, .any, .any, .any, .any, .any, .any, .any, .any, .any, .any, .any, .any, .any, .any, .any, .any, .any, .any, .any, .any, .any, .any, .any, .any, .any, .any, .any, .any, .any, .any, .any, .any, .any, .any, .any, .any, .any, .any, .any, .any, .any, .any, .any, .any, .any, .any, .any, .any, .any, .any, .any, .any, .any, .any, .any, .any, .any, .any], [none, none, none, none, none, none, none, none, none, none, none, none, none, none, none, none, none, none, none, none, none, none, none, none, none, none, none, none, none, none, none, none, none, none, none, none, none, none, none, none, none, none, none, none, none, none, none, none, none, none, none, none, none, none, none, none, none, none, none, none, some (.row 1 195 (vs.map dg)), none, none, some (.row 1 195 (us.map dg)), none, none, none, none, none, some (.row 1 195 (List.replicate (k + 1) z32 ++ qs.map dg)), none, none, none, none, none, none, none, none, none, none, none, none, none, none, none, none, none, none, none, none, none, none, none, none, none, none, none, none, none, none, none, none, none, none, none, none, none, none, none, none, none, none, none, none, none, none, none, none, none, none, none, none, none, none, none, none, none, none, none, none, none, none, none, none, none, none, none, none, none, none, none, none, none, none, none, none, none, none, none, none, none, none, none, none, none, none, none, none, none, none, none, none, none, none, none, none, none, none, none, none, none, none, none, none, none, none, none, none, none, none, none, none, none, none, none, none, none, none, none, none, none, none, none, none, none, none, none, none, none, none, none, none, none, none, none, none, none, none, none, none, none, none, none, none, none, none, none, none, none, none, none, none, none, none, none, none, none, none, none, none, none, none, none, none, none, none, none, none, none, none, none, none, none, none, none, none, none, none, none, none, none, none, none, none, none, none, none, none, none, none, none, none, none, none, none, none, none, none, none, none, none, none, none, none, none, none, none, none, none, none, none, none, none, none, none, none, none, none, none, none, none, none, none, none, none, none, none, none, none, none, none]⟩
set_option maxRecDepth 100000 in
set_option maxHeartbeats 4000000 in
theorem sSub6 {s n : Nat} {vs us qs : List Nat} {k g : Nat} (hvs : Digs vs) (hus : Digs us) (hvl : vs.length = n) (hkn : k + n < us.length) (hul : us.length < 2 ^ 41) (hg : g < 4294967296) (st : St) (h0 : Snd st (sDv6 s n vs us qs k g 0 0 0)) (K : Exit → St → Prop)
    (hK : ∀ os c b, Digs os → os.length = n → c < 4294967296 → b ≤ 1 → val os + g * val vs = val (part us k n) + B ^ n * (b + c) → ∀ Z, Z = us.take k ++ os ++ us.drop (k + n) → K .normal (sDe6 s n vs Z qs k g c b)) :
    awp Try.prog sDivMf (tbl sDivTb) (.loop sdL6) st (Kblk 6 K) := by
  simp only [sdL6, sdX, sdM, sdB, Try.f97, Option.getD, sq1, sq2, inB, inL]
  refine loop_go (fun m st => ∃ (os : List Nat) (c b : Nat), Digs os ∧ c < 4294967296 ∧ b ≤ 1 ∧ os.length + m = n ∧ val os + g * val (vs.take os.length) = val (part us k os.length) + B ^ os.length * (b + c) ∧
      st = sDv6 s n vs (us.take k ++ os ++ us.drop (k + os.length)) qs k g c b os.length) (n := n) h0 ⟨[], 0, 0, Digs.nil, by omega, by omega, by simp, by simp [val, part], by simp⟩ ?_
  rintro m st ⟨os, c, b, hos, hc, hb, hl, hv, rfl⟩ KN hN
  cases m with
  | zero =>
    have hln : os.length = n := by omega
    rw [hln, ← hvl, List.take_length, hvl] at hv
    have hfin := hK os c b hos hln hc hb hv _ rfl
    rw [hln]
    generalize us.take k ++ os ++ us.drop (k + n) = Z at hfin ⊢
    simp only [sDe6] at hfin
    simp [sDv6]
    exact hfin
  | succ m =>
    obtain ⟨x, hxx⟩ : ∃ x, x = us.getD (k + os.length) 0 := ⟨_, rfl⟩
    obtain ⟨v, hvv⟩ : ∃ v, v = vs.getD os.length 0 := ⟨_, rfl⟩
    have hxB : x < 4294967296 := by rw [hxx]; exact getD_lt hus _
    have hvB : v < 4294967296 := by rw [hvv]; exact getD_lt hvs _
    have hvl2 : os.length < vs.length := by omega
    have hR : us.drop (k + os.length) = x :: us.drop (k + os.length + 1) := by rw [hxx]; exact drop_cons (by omega)
    have hL : (us.take k ++ os).length = k + os.length := by simp; omega
    generalize hLL : us.take k ++ os = L at *
    rw [hR]
    have e1 := ix_at L (us.drop (k + os.length + 1)) x
    have hgv : g * v ≤ 4294967295 * 4294967295 := Nat.mul_le_mul (by omega) (by omega)
    obtain ⟨p, hp⟩ : ∃ p, p = g * v + c := ⟨_, rfl⟩
    have hpB : p < 18446744073709551616 := by omega
    obtain ⟨c', lp, hlp, hcut, w1, w2⟩ := cut32 (p : Int) p rfl
    have hlp2 : lp = p % 4294967296 := by simp only [B] at *; omega
    have w3 := and_low p hpB
    rw [← hlp2] at w3
    have hlpB : lp < 4294967296 := hlp
    obtain ⟨t1, t2, b', d, hdB, hb', hsub, q5, q6, q7, q8⟩ := bor64b x lp b hxB hlpB hb
    have e2 := lset_at L (us.drop (k + os.length + 1)) x d
    have q1 : IntKind.u64.wrap (v : Int) = v := by rw [wrap_u64]; omega
    have q2 : IntKind.u64.wrap (x : Int) = x := by rw [wrap_u64]; omega
    obtain ⟨gv, hgv'⟩ : ∃ gv, gv = g * v := ⟨_, rfl⟩
    have q3 : (g : Int) * v = gv := by rw [hgv']; exact (Int.natCast_mul _ _).symm
    have q4 : IntKind.u64.wrap (gv : Int) = gv := by rw [wrap_u64]; omega
    have q9 : IntKind.u64.wrap ((gv : Int) + c) = p := by rw [wrap_u64]; omega
    have q10 : IntKind.i64.wrap ((os.length : Int) + 1) = os.length + 1 := by rw [wrap_i64]; omega
    have q11 : IntKind.i64.wrap ((os.length : Int) + k) = L.length := by rw [wrap_i64]; omega
    have q12 : (os.length : Int) < n := by omega
    have e3 := ix_dg vs _ hvl2
    rw [← hvv] at e3
    have hnext : ∀ s', Snd s' (sDv6 s n vs (L ++ d :: us.drop (k + os.length + 1)) qs k g c' b' (os.length + 1)) → KN s' := by
      intro s' hs
      refine hN _ (nx (m := m) hs ⟨os ++ [d], c', b', hos.append (Digs.nil.cons hdB), ?_, hb', ?_, ?_, ?_⟩ (by omega))
      · simp only [B] at hcut; omega
      · simp only [List.length_append, List.length_singleton]; omega
      · rw [val_snoc, List.length_append, List.length_singleton, val_take_getD, ← hvv, part_snoc us k _ (by omega), val_snoc, part_len us k _ (by omega), ← hxx, Nat.pow_succ]
        have h1 := congrArg (B ^ os.length * ·) hsub
        have h2 := congrArg (B ^ os.length * ·) (hcut.trans hp)
        simp only [Nat.mul_add] at h1 h2 hv ⊢
        have h3 : g * (B ^ os.length * v) = B ^ os.length * (g * v) := by simp only [Nat.mul_left_comm]
        have h4 : B ^ os.length * B * b' = B ^ os.length * (B * b') := Nat.mul_assoc _ _ _
        have h5 : B ^ os.length * B * c' = B ^ os.length * (B * c') := Nat.mul_assoc _ _ _
        rw [h3, h4, h5]
        omega
      · rw [← hLL, List.length_append, List.length_singleton, ← Nat.add_assoc]
        simp only [List.append_assoc, List.singleton_append]
    have hZl : (L ++ x :: us.drop (k + os.length + 1)).length = us.length := by
      rw [List.length_append, List.length_cons, List.length_drop, hL]; omega
    have hZl2 : (L ++ d :: us.drop (k + os.length + 1)).length = us.length := by
      rw [List.length_append, List.length_cons, List.length_drop, hL]; omega
    generalize hZ : L ++ x :: us.drop (k + os.length + 1) = Z at *
    generalize hZ' : L ++ d :: us.drop (k + os.length + 1) = Z' at *
    have q13 : L.length < Z.length := by omega
    generalize L.length = ll at *
    simp [sDv6, dg, hvl2, e3, e1, e2, q1, q2, q3, q4, q5, q6, q7, q8, q9, q10, q11, q12, q13, w1, w2, w3]
    exact hnext _ (snd_of (by simp [LeT, sDv6]) (by simp [sDv6]))
set_option maxRecDepth 100000 in
set_option maxHeartbeats 4000000 in
theorem sAdd8 {s n : Nat} {vs us qs : List Nat} {k g : Nat} (hvs : Digs vs) (hus : Digs us) (hvl : vs.length = n) (hkn : k + n < us.length) (hul : us.length < 2 ^ 41) (st : St) (h0 : Snd st (sDv8 s n vs us qs k g 0 0)) (K : Exit → St → Prop)
    (hK : ∀ os c, Digs os → os.length = n → c ≤ 1 → val os + B ^ n * c = val (part us k n) + val vs → ∀ Z, Z = us.take k ++ os ++ us.drop (k + n) → K .normal (sDe8 s n vs Z qs k g c)) :
    awp Try.prog sDivMf (tbl sDivTb) (.loop sdL8) st (Kblk 8 K) := by
  simp only [sdL8, sdX, sdM, sdB, Try.f97, Option.getD, sq1, sq2, inB, inL, inC]
  refine loop_go (fun m st => ∃ (os : List Nat) (c : Nat), Digs os ∧ c ≤ 1 ∧ os.length + m = n ∧ val os + B ^ os.length * c = val (part us k os.length) + val (vs.take os.length) ∧
      st = sDv8 s n vs (us.take k ++ os ++ us.drop (k + os.length)) qs k g c os.length) (n := n) h0 ⟨[], 0, Digs.nil, by omega, by simp, by simp [val, part], by simp⟩ ?_
  rintro m st ⟨os, c, hos, hc, hl, hv, rfl⟩ KN hN
  cases m with
  | zero =>
    have hln : os.length = n := by omega
    rw [hln, ← hvl, List.take_length, hvl] at hv
    have hfin := hK os c hos hln hc hv _ rfl
    rw [hln]
    generalize us.take k ++ os ++ us.drop (k + n) = Z at hfin ⊢
    simp only [sDe8] at hfin
    simp [sDv8]
    exact hfin
  | succ m =>
    obtain ⟨x, hxx⟩ : ∃ x, x = us.getD (k + os.length) 0 := ⟨_, rfl⟩
    obtain ⟨v, hvv⟩ : ∃ v, v = vs.getD os.length 0 := ⟨_, rfl⟩
    have hxB : x < 4294967296 := by rw [hxx]; exact getD_lt hus _
    have hvB : v < 4294967296 := by rw [hvv]; exact getD_lt hvs _
    have hvl2 : os.length < vs.length := by omega
    have hR : us.drop (k + os.length) = x :: us.drop (k + os.length + 1) := by rw [hxx]; exact drop_cons (by omega)
    have hL : (us.take k ++ os).length = k + os.length := by simp; omega
    generalize hLL : us.take k ++ os = L at *
    rw [hR]
    have e1 := ix_at L (us.drop (k + os.length + 1)) x
    obtain ⟨c', d, hdB, hcut, w1, w2⟩ := cut32 ((x : Int) + v + c) (x + v + c) (by omega)
    have e2 := lset_at L (us.drop (k + os.length + 1)) x d
    have q1 : IntKind.u64.wrap (v : Int) = v := by rw [wrap_u64]; omega
    have q2 : IntKind.u64.wrap (x : Int) = x := by rw [wrap_u64]; omega
    have q4 : IntKind.u64.wrap ((x : Int) + v) = x + v := by rw [wrap_u64]; omega
    have q9 : IntKind.u64.wrap ((x : Int) + v + c) = x + v + c := by rw [wrap_u64]; omega
    have q10 : IntKind.i64.wrap ((os.length : Int) + 1) = os.length + 1 := by rw [wrap_i64]; omega
    have q11 : IntKind.i64.wrap ((os.length : Int) + k) = L.length := by rw [wrap_i64]; omega
    have q12 : (os.length : Int) < n := by omega
    have e3 := ix_dg vs _ hvl2
    rw [← hvv] at e3
    have hnext : ∀ s', Snd s' (sDv8 s n vs (L ++ d :: us.drop (k + os.length + 1)) qs k g c' (os.length + 1)) → KN s' := by
      intro s' hs
      refine hN _ (nx (m := m) hs ⟨os ++ [d], c', hos.append (Digs.nil.cons hdB), ?_, ?_, ?_, ?_⟩ (by omega))
      · simp only [B] at hcut; omega
      · simp only [List.length_append, List.length_singleton]; omega
      · rw [val_snoc, List.length_append, List.length_singleton, val_take_getD, ← hvv, part_snoc us k _ (by omega), val_snoc, part_len us k _ (by omega), ← hxx, Nat.pow_succ]
        have h1 := congrArg (B ^ os.length * ·) hcut
        simp only [Nat.mul_add] at h1
        have h5 : B ^ os.length * B * c' = B ^ os.length * (B * c') := Nat.mul_assoc _ _ _
        rw [h5]
        omega
      · rw [← hLL, List.length_append, List.length_singleton, ← Nat.add_assoc]
        simp only [List.append_assoc, List.singleton_append]
    have hZl : (L ++ x :: us.drop (k + os.length + 1)).length = us.length := by
      rw [List.length_append, List.length_cons, List.length_drop, hL]; omega
    have hZl2 : (L ++ d :: us.drop (k + os.length + 1)).length = us.length := by
      rw [List.length_append, List.length_cons, List.length_drop, hL]; omega
    generalize hZ : L ++ x :: us.drop (k + os.length + 1) = Z at *
    generalize hZ' : L ++ d :: us.drop (k + os.length + 1) = Z' at *
    have q13 : L.length < Z.length := by omega
    generalize L.length = ll at *
    simp [sDv8, dg, hvl2, e3, e1, e2, q1, q2, q4, q9, q10, q11, q12, q13, w1, w2]
    exact hnext _ (snd_of (by simp [LeT, sDv8]) (by simp [sDv8]))
end Go.Proofs.Ytpggfnggffedlaa.Ae

namespace Go.Proofs.Ytpggfnggffedlaa.Ae
open Go Go.RowKit Go.Proofs.Ytpggfnggffedlaa.Dig
theorem put_of {us os : List Nat} {k n d x : Nat} (hos : Digs os) (hd : d < B) (hl : os.length = n) (hk : k + n < us.length) (hv : val os + B ^ n * d = x) : us.take k ++ os ++ d :: us.drop (k + n + 1) = put us k (n + 1) x := by
  unfold put
  rw [dig_of (hos.append (Digs.nil.cons hd)) (by simp [hl]) (by rw [val_snoc, hl]; exact hv)]
  simp only [List.append_assoc, List.singleton_append, ← Nat.add_assoc]
theorem top_lt {os : List Nat} {n d : Nat} (hos : Digs os) (hd : d < B) (hl : os.length = n) : val os + B ^ n * d < B ^ (n + 1) := by
  have h1 := val_lt (hos.append (Digs.nil.cons hd))
  rw [val_snoc, List.length_append, List.length_singleton, hl] at h1
  exact h1
theorem taken {us os vs : List Nat} {k n d c b b' u0 g : Nat} (hos : Digs os) (hol : os.length = n) (hkn : k + n < us.length) (hu0 : u0 = us.getD (k + n) 0) (hsub : d + c + b = u0 + B * b') (hv : val os + g * val vs = val (part us k n) + B ^ n * (b + c)) :
    (val os + B ^ n * d) + g * val vs = val (part us k (n + 1)) + B ^ (n + 1) * b' := by
  rw [part_snoc us k n (by omega), val_snoc, part_len us k n (by omega), ← hu0, Nat.pow_succ, Nat.mul_assoc]
  have h1 := congrArg (B ^ n * ·) hsub
  simp only [Nat.mul_add] at h1 hv
  omega
theorem given {us os vs : List Nat} {k n d c e x : Nat} (hos : Digs os) (hd : d < B) (hol : os.length = n) (hkn : k + n < us.length) (hx : x = us.getD (k + n) 0) (hcut : d + B * e = x + c) (hv : val os + B ^ n * c = val (part us k n) + val vs) :
    val os + B ^ n * d = (val (part us k (n + 1)) + val vs) % B ^ (n + 1) := by
  have h0 := top_lt hos hd hol
  have h2 : (val os + B ^ n * d) + B ^ (n + 1) * e = val (part us k (n + 1)) + val vs := by
    rw [part_snoc us k n (by omega), val_snoc, part_len us k n (by omega), ← hx, Nat.pow_succ, Nat.mul_assoc]
    have h1 := congrArg (B ^ n * ·) hcut
    simp only [Nat.mul_add] at h1 hv
    omega
  rw [← h2, Nat.add_mul_mod_self_left, Nat.mod_eq_of_lt h0]
theorem round_end {us us2 : List Nat} {k np V W q : Nat} (h1 : Digs us2) (h2 : us2.length = us.length) (hV0 : 0 < V) (h3 : q = W / V) (hz : val (us.drop (k + np)) = 0) (h4 : val us2 + B ^ k * W = val us + B ^ k * (W % V)) (h5 : val (us2.drop k) = W % V + B ^ np * val (us.drop (k + np))) :
    val (us2.drop k) < V ∧ val us2 + V * B ^ k * q = val us := by
  refine ⟨by rw [h5, hz, Nat.mul_zero, Nat.add_zero]; exact Nat.mod_lt _ hV0, ?_⟩
  have h6 := Nat.div_add_mod W V
  rw [← h3] at h6
  have h7 := congrArg (B ^ k * ·) h6
  simp only [Nat.mul_add] at h7
  have h8 : V * B ^ k * q = B ^ k * (V * q) := by simp only [Nat.mul_assoc, Nat.mul_comm, Nat.mul_left_comm]
  rw [h8]
  omega
theorem round0 {us : List Nat} {k np V W g X : Nat} (hus : Digs us) (hk : k + np ≤ us.length) (hW : W = val (part us k np)) (hV0 : 0 < V) (hWM : W < B ^ np) (hVM : V ≤ B ^ np) (hz : val (us.drop (k + np)) = 0) (hWg : W / V ≤ g) (hgW : g ≤ W / V + 1) (hXB : X < B ^ np) (hX : X + g * V = W) :
    Digs (put us k np X) ∧ (put us k np X).length = us.length ∧ val ((put us k np X).drop k) < V ∧ val (put us k np X) + V * B ^ k * g = val us := by
  obtain ⟨f1, f2⟩ := (rest_of hV0 hWM hVM hWg hgW).2 (by omega)
  obtain ⟨a1, a2, a3, a4, a5⟩ := put_val hus hk hXB
  have hX2 : X = W % V := by omega
  rw [← hW] at a3
  rw [hX2] at a1 a2 a3 a4 ⊢
  obtain ⟨r1, r2⟩ := round_end a1 a2 hV0 f1 hz a3 a4
  exact ⟨a1, a2, r1, r2⟩
theorem round1 {us : List Nat} {k np V W g X : Nat} (hus : Digs us) (hk : k + np ≤ us.length) (hW : W = val (part us k np)) (hV0 : 0 < V) (hWM : W < B ^ np) (hVM : V ≤ B ^ np) (hz : val (us.drop (k + np)) = 0) (hWg : W / V ≤ g) (hgW : g ≤ W / V + 1) (hXB : X < B ^ np) (hX : X + g * V = W + B ^ np) :
    1 ≤ g ∧ Digs (put us k np X) ∧ (put us k np X).length = us.length ∧ ∀ Y, Y = (val (part (put us k np X) k np) + V) % B ^ np → Digs (put (put us k np X) k np Y) ∧ (put (put us k np X) k np Y).length = us.length ∧ val ((put (put us k np X) k np Y).drop k) < V ∧ val (put (put us k np X) k np Y) + V * B ^ k * (g - 1) = val us := by
  have hWV : W < g * V := by omega
  obtain ⟨f1, f2⟩ := (rest_of hV0 hWM hVM hWg hgW).1 hWV
  obtain ⟨a1, a2, a3, a4, a5⟩ := put_val hus hk hXB
  have hX2 : W + B ^ np - g * V = X := by omega
  rw [hX2] at f2
  have hg0 : 1 ≤ g := by
    rcases Nat.eq_zero_or_pos g with h | h
    · rw [h, Nat.zero_mul] at hWV; omega
    · exact h
  refine ⟨hg0, a1, a2, ?_⟩
  rintro Y hY
  rw [a5, val_dig np _ hXB, f2] at hY
  have hYB : Y < B ^ np := by rw [hY]; exact Nat.lt_of_lt_of_le (Nat.mod_lt _ hV0) hVM
  obtain ⟨b1, b2, b3, b4, b5⟩ := put_val a1 (by omega : k + np ≤ (put us k np X).length) hYB
  have hdr2 : (put us k np X).drop (k + np) = us.drop (k + np) := by
    unfold put
    have : ∀ (P Q : List Nat), P.length = k + np → (P ++ Q).drop (k + np) = Q := fun P Q h => by rw [← h, List.drop_left]
    exact this _ _ (by rw [List.length_append, dig_len, List.length_take, Nat.min_eq_left (by omega)])
  rw [hdr2] at b4
  rw [a5, val_dig np _ hXB] at b3
  rw [← hW] at a3
  rw [hY] at b1 b2 b3 b4 ⊢
  obtain ⟨r1, r2⟩ := round_end b1 (by omega) hV0 f1 hz (by
    generalize B ^ k * X = z at *
    omega) b4
  exact ⟨b1, by omega, r1, r2⟩
end Go.Proofs.Ytpggfnggffedlaa.Ae

namespace Go.Proofs.Ytpggfnggffedlaa.Ae
open Go Go.RowKit Go.Proofs.Ytpggfnggffedlaa.Dig
def sDvS (s n : Nat) (vs us qs : List Nat) (k : Nat) : St := ⟨[.any, .any, .any, .any, .any, .any, .dat (.lit (.int .u64 s)), .dat (.lit (.int .i64 n)), .row 60, .row 63, .row 69, .dat (.lit (.int .i64 ((k : Int) - 1))), .any, .any, .any, .any, .any, .any, .any, .any, .any, .any, .any, .any, .any, .any, .any, .any, .any, .any, .any, .any, .any, .any, .any, .any, .any, .any, .any, .any, .any, .any, .any, .any, .any, .any, .any, .any, .any, .any, .any, .any, .any, .any, .any, .any, .any, .any, .any, .any, .any, .any, .any, .any, .any, .any, .any, .any, .any, .any, .any, .any, .any, .any, .any, .any, .any, .any, .any, .any, .any, .any, .any, .any, .any, .any, .any, .any, .any, .any, .any, .any, .any, .any, .any, .any, .any, .any, .any, .any, .any, .any, .any, .any, .any, .any, .any, .any, .any, .any, .any, .any, .any, .any, .any, .any, .any, .any, .any, .any, .any, .any, .any, .any, .any, .any, .any, .any, .any, .any, .any, .any, .any, .any, .any, .any, .any, .any, .any, .any, .any, .any, .any, .any, .any, .any, .any, .any, .any, .any, .any, .any, .any, .any, .any, .any, .any, .any, .any, .any, .any, .any, .any, .any, .any, .any, .any, .any, .any, .any, .any, .any, .any, .any, .any, .any, .any, .any, .any, .any, .any, .any, .any, .any, .any, .any, .any, .any, .any, .any, .any, .any, .any, .any, .any, .any, .any, .any, .any, .any, .any, .any, .any, .any, .any, .any, .any, .any, .any, .any, .any, .any, .any, .any, .any, .any, .any, .any, .any, .any, .any, .any, .any, .any, .any, .any, .any, .any, .any, .any, .any, .any, .any, .any, .any, .any, .any, .any, .any, .any, .any, .any, .any, .any, .any, .any, .any, .any, .any, .any, .any, .any, .any, .any, .any, .any, .any, .any, .any, .any, .any, .any, .any, .any, .any, .any, .any, .any, .any, .any, .any, .any, .any, .any, .any, .any, .any, .any, .any, .any, .any, .any, .any, .any, .any, .any, .any, .any, .any, .any, .any, .any, .any, .any, .any, .any, .any, .any, .any, .any, .any], [none, none, none, none, none, none, none, none, none, none, none, none, none, none, none, none, none, none, none, none, none, none, none, none, none, none, none, none, none, none, none, none, none, none, none, none, none, none, none, none, none, none, none, none, none, none, none, none, none, none, none, none, none, none, none, none, none, none, none, none, some (.row 1 195 (vs.map dg)), none, none, some (.row 1 195 (us.map dg)), none, none, none, none, none, some (.row 1 195 (List.replicate k z32 ++ qs.map dg)), none, none, none, none, none, none, none, none, none, none, none, none, none, none, none, none, none, none, none, none, none, none, none, none, none, none, none, none, none, none, none, none, none, none, none, none, none, none, none, none, none, none, none, none, none, none, none, none, none, none, none, none, none, none, none, none, none, none, none, none, none, none, none, none, none, none, none, none, none, none, none, none, none, none, none, none, none, none, none, none, none, none, none, none, none, none, none, none, none, none, none, none, none, none, none, none, none, none, none, none, none, none, none, none, none, none, none, none, none, none, none, none, none, none, none, none, none, none, none, none, none, none, none, none, none, none, none, none, none, none, none, none, none, none, none, none, none, none, none, none, none, none, none, none, none, none, none, none, none, none, none, none, none, none, none, none, none, none, none, none, none, none, none, none, none, none, none, none, none, none, none, none, none, none, none, none, none, none, none, none, none, none, none, none, none, none, none, none, none, none, none, none, none, none, none, none, none, none, none, none, none, none, none, none, none, none, none, none, none, none, none, none, none, none, none, none, none, none, none, none, none, none, none, none, none, none, none, none, none, none, none]⟩
def sDv4 (s n : Nat) (vs us qs : List Nat) (k g r m : Nat) : St := ⟨[.any, .any, .any, .any, .any, .any, .dat (.lit (.int .u64 s)), .dat (.lit (.int .i64 n)), .row 60, .row 63, .row 69, .dat (.lit (.int .i64 k)), .any, .dat (.lit (.int .u64 g)), .dat (.lit (.int .u64 r)), .dat (.lit (.int .i64 m)), .any, .any, .any, .any, .any, .any, .any, .any, .any, .any, .any, .any, .any, .any, .any, .any, .any, .any, .any, .any, .any, .any, .any, .any, .any, .any, .any, .any, .any, .any, .any, .any, .any, .any, .any, .any, .any, .any, .any, .any, .any, .any, .any, .any, .any, .any, .any, .any, .any, .any, .any, .any, .any, .any, .any, .any, .any, .any, .any, .any, .any, .any, .any, .any, .any, .any, .any, .any, .any, .any, .any, .any, .any, .any, .any, .any, .any, .any, .any, .any, .any, .any, .any, .any, .any, .any, .any, .any, .any, .any, .any, .any, .any, .any, .any, .any, .any, .any, .any, .any, .any, .any, .any, .any, .any, .any, .any, .any, .any, .any, .any, .any, .any, .any, .any, .any, .any, .any, .any, .any, .any, .any, .any, .any, .any, .any, .any, .any, .any, .any, .any, .any, .any, .any, .any, .any, .any, .any, .any, .any, .any, .any, .any, .any, .any, .any, .any, .any, .any, .any, .any, .any, .any, .any, .any, .any, .any, .any, .any, .any, .any, .any, .any, .any, .any, .any, .any, .any, .any, .any, .any, .any, .any, .any, .any, .any, .any, .any, .any, .any, .any, .any, .any, .any, .any, .any, .any, .any, .any, .any, .any, .any, .any, .any, .any, .any, .any, .any, .any, .any, .any, .any, .any, .any, .any, .any, .any, .any, .any, .any, .any, .any, .any, .any, .any, .any, .any, .any, .any, .any, .any, .any, .any, .any, .any, .any, .any, .any, .any, .any, .any, .any, .any, .any, .any, .any, .any, .any, .any, .any, .any, .any, .any, .any, .any, .any, .any, .any, .any, .any, .any, .any, .any, .any, .any, .any, .any, .any, .any, .any, .any, .any, .any, .any, .any, .any, .any, .any, .any, .any, .any, .any, .any, .any, .any, .any, .any, .any, .any, .any, .any, .any, .any, .any, .any], [none, none, none, none, none, none, none, none, none, none, none, none, none, none, none, none, none, none, none, none, none, none, none, none, none, none, none, none, none, none, none, none, none, none, none, none, none, none, none, none, none, none, none, none, none, none, none, none, none, none, none, none, none, none, none, none, none, none, none, none, some (.row 1 195 (vs.map dg)), none, none, some (.row 1 195 (us.map dg)), none, none, none, none, none, some (.row 1 195 (List.replicate (k + 1) z32 ++ qs.map dg)), none, none, none, none, none, none, none, none, none, none, none, none, none, none, none, none, none, none, none, none, none, none, none, none, none, none, none, none, none, none, none, none, none, none, none, none, none, none, none, none, none, none, none, none, none, none, none, none, none, none, none, none, none, none, none, none, none, none, none, none, none, none, none, none, none, none, none, none, none, none, none, none, none, none, none, none, none, none, none, none, none, none, none, none, none, none, none, none, none, none, none, none, none, none, none, none, none, none, none, none, none, none, none, none, none, none, none, none, none, none, none, none, none, none, none, none, none, none, none, none, none, none, none, none, none, none, none, none, none, none, none, none, none, none, none, none, none, none, none, none, none, none, none, none, none, none, none, none, none, none, none, none, none, none, none, none, none, none, none, none, none, none, none, none, none, none, none, none, none, none, none, none, none, none, none, none, none, none, none, none, none, none, none, none, none, none, none, none, none, none, none, none, none, none, none, none, none, none, none, none, none, none, none, none, none, none, none, none, none, none, none, none, none, none, none, none, none, none, none, none, none, none, none, none, none, none, none, none, none, none, none]⟩
noncomputable def sdT : Code := sq2 (sq2 (sq2 (sq2 (sq2 (sq2 (sq2 sdX))))))
noncomputable def sdZ : Code := sq2 (sq2 sdM)
set_option maxRecDepth 100000 in
set_option maxHeartbeats 4000000 in
theorem sDiv_end {s n V k g W u0 : Nat} {us qs : List Nat} (hVl : (mag V).length = n) (hus : Digs us) (hul : us.length < 2 ^ 41) (hkn : k + n < us.length) (hu0 : u0 = us.getD (k + n) 0) (hgB : g < 4294967296) (hW : W = val (part us k (n + 1))) (hV0 : 0 < V) (hVM : V ≤ B ^ (n + 1)) (hz : val (us.drop (k + (n + 1))) = 0) (hWg : W / V ≤ g) (hgW : g ≤ W / V + 1) (hgs : g - 1 = g - 1)
    (KN : St → Prop) (K : Exit → St → Prop) (hN : ∀ us' q, Digs us' → us'.length = us.length → val (us'.drop k) < V → q ≤ g → val us' + V * B ^ k * q = val us → ∀ s', Snd s' (sDvS s n (mag V) us' (q :: qs) k) → KN s')
    (st : St) (h0 : Snd st (sDv6 s n (mag V) us qs k g 0 0 0)) :
    awp Try.prog sDivMf (tbl sDivTb) (.loop sdL6) st (Kblk 6 (Kseq Try.prog sDivMf (tbl sDivTb) sdT (Kblk 3 (Kseq Try.prog sDivMf (tbl sDivTb) sdZ (Klp KN K))))) := by
  have hVm : val (mag V) = V := val_mag V
  have hWM : W < B ^ (n + 1) := by rw [hW]; have := val_lt (part_digs hus k (n + 1)); rwa [part_len us k (n + 1) (by omega)] at this
  refine sSub6 (mag_digs V) hus hVl hkn hul hgB st h0 _ ?_
  intro os c b hos hol hcB hbB hv Z hZ
  have hu0B : u0 < 4294967296 := by rw [hu0]; exact getD_lt hus _
  obtain ⟨t1, t2, b', d, hdB, hb', hsub, q5, q6, q7, q8⟩ := bor64b u0 c b hu0B hcB hbB
  have hX := taken hos hol hkn hu0 hsub hv
  have hXB := top_lt hos hdB hol
  rw [hVm, ← hW] at hX
  obtain ⟨kn, hkn1⟩ : ∃ x, x = k + n := ⟨_, rfl⟩
  have hkd : us.drop (k + n) = u0 :: us.drop (k + n + 1) := by rw [hu0]; exact drop_cons hkn
  have hLl : (us.take k ++ os).length = kn := by simp; omega
  have e1 := ix_at (us.take k ++ os) (us.drop (k + n + 1)) u0
  have e2 := lset_at (us.take k ++ os) (us.drop (k + n + 1)) u0 d
  rw [← hkd, ← hZ, hLl] at e1
  rw [← hkd, ← hZ, hLl] at e2
  have hZl : Z.length = us.length := by rw [hZ, List.length_append, hLl, List.length_drop]; omega
  have hus1 := put_of (us := us) (k := k) hos hdB hol hkn rfl
  rw [hus1] at e2
  generalize val os + B ^ n * d = X at hX hXB e2
  have z0 : IntKind.u64.wrap (u0 : Int) = u0 := by rw [wrap_u64]; omega
  have z5 : kn < Z.length := by omega
  have p1 : IntKind.i64.wrap ((k : Int) + n) = kn := by rw [wrap_i64]; omega
  have p11 : IntKind.i64.wrap ((k : Int) - 1) = (k : Int) - 1 := by rw [wrap_i64]; omega
  have hk1 : (k : Int) < k + 1 + qs.length := by omega
  have hknp : k + (n + 1) ≤ us.length := by omega
  clear hus1 hkd hLl hZ hsub hv hos
  simp only [kseq_n]
  rcases Nat.le_one_iff_eq_zero_or_eq_one.1 hb' with rfl | rfl
  · rw [Nat.mul_zero, Nat.add_zero] at hX
    obtain ⟨a1, a2, a3, a4⟩ := round0 hus hknp hW hV0 hWM hVM hz hWg hgW hXB hX
    have hfin := hN _ g a1 a2 a3 (Nat.le_refl _) a4
    generalize put us k (n + 1) X = us1 at *
    have z1 : IntKind.u32.wrap (g : Int) = g := by rw [wrap_u32]; omega
    clear a3 a4 hN hXB hX hWg hgW hz hVM hWM hW hV0
    simp at q8
    simp only [sdT, sdZ, sdX, sdM, sdB, Try.f97, Option.getD, sq1, sq2, inB, inL, inC]
    simp [sDe6, p1, e1, e2, dg, z0, z1, z5, q5, q6, q7, q8, p11, hk1, ix_rev, lset_rev]
    exact hfin _ (snd_of (by simp [LeT, sDvS]) (by simp [sDvS, dg]))
  · rw [Nat.mul_one] at hX
    obtain ⟨hg1, a1, a2, a3⟩ := round1 hus hknp hW hV0 hWM hVM hz hWg hgW hXB hX
    have hN1 := fun us' => hN us' (g - 1)
    have hg2 : g - 1 ≤ g := by omega
    have hg3 : g - 1 < 4294967296 := by omega
    have z2 : IntKind.u64.wrap ((g : Int) - 1) = ((g - 1 : Nat) : Int) := by rw [wrap_u64]; omega
    clear hN hXB hX hWg hgW hz hVM hWM hW hV0
    generalize put us k (n + 1) X = us1 at *
    generalize g - 1 = gm at *
    have h8 := fun st h0 K hK => sAdd8 (s := s) (n := n) (vs := mag V) (us := us1) (qs := qs) (k := k) (g := gm) (mag_digs V) a1 hVl (by omega) (by omega) st h0 K hK
    simp at q8
    simp only [sdT, sdZ, sdL8, sdX, sdM, sdB, Try.f97, Option.getD, sq1, sq2, inB, inL, inC] at h8 ⊢
    simp [sDe6, p1, e1, e2, dg, z0, z2, z5, q5, q6, q7, q8]
    refine h8 _ (snd_of (by simp [LeT, sDv8]) (by simp [sDv8])) _ ?_
    clear h8 e1 e2 q5 q6 q7 q8 z0 z2
    intro os2 c2 hos2 hol2 hc2 hv2 Z2 hZ2
    obtain ⟨x1, hx1⟩ : ∃ x1, x1 = us1.getD (k + n) 0 := ⟨_, rfl⟩
    have hx1B : x1 < 4294967296 := by rw [hx1]; exact getD_lt a1 _
    obtain ⟨c3, d2, hd2B, hcut2, w1, _⟩ := cut32 ((x1 : Int) + c2) (x1 + c2) (by omega)
    have hkn2 : k + n < us1.length := by omega
    have hY := given hos2 hd2B hol2 hkn2 hx1 hcut2 hv2
    rw [hVm] at hY
    have hkd1 : us1.drop (k + n) = x1 :: us1.drop (k + n + 1) := by rw [hx1]; exact drop_cons hkn2
    have hLl2 : (us1.take k ++ os2).length = kn := by simp; omega
    have e3 := ix_at (us1.take k ++ os2) (us1.drop (k + n + 1)) x1
    have e4 := lset_at (us1.take k ++ os2) (us1.drop (k + n + 1)) x1 d2
    rw [← hkd1, ← hZ2, hLl2] at e3
    rw [← hkd1, ← hZ2, hLl2] at e4
    have hZl2 : Z2.length = us.length := by rw [hZ2, List.length_append, hLl2, List.length_drop]; omega
    have hus2 := put_of (us := us1) (k := k) hos2 hd2B hol2 hkn2 rfl
    rw [hus2] at e4
    obtain ⟨b1, b2, b3, b4⟩ := a3 _ hY
    have hfin := hN1 _ b1 b2 b3 hg2 b4
    have z3 : IntKind.u32.wrap (gm : Int) = gm := by rw [wrap_u32]; omega
    have z4 : IntKind.u32.wrap (c2 : Int) = c2 := by rw [wrap_u32]; omega
    have z6 : kn < Z2.length := by omega
    generalize val os2 + B ^ n * d2 = Y at *
    generalize put us1 k (n + 1) Y = us2 at *
    clear a3 hus2 hkd1 hLl2 hZ2 hcut2 hv2 hos2 hN1
    simp [sDe8, p1, e3, e4, dg, z3, z4, z6, w1, p11, hk1, ix_rev, lset_rev]
    exact hfin _ (snd_of (by simp [LeT, sDvS]) (by simp [sDvS, dg]))
end Go.Proofs.Ytpggfnggffedlaa.Ae

namespace Go.Proofs.Ytpggfnggffedlaa.Ae
open Go Go.RowKit Go.Proofs.Ytpggfnggffedlaa.Dig
set_option maxRecDepth 100000 in
set_option maxHeartbeats 4000000 in
theorem sDiv_step {s n n1 V top k la : Nat} {us qs : List Nat} (hn2 : 2 ≤ n) (hn1 : n - 1 = n1) (hVl : (mag V).length = n1 + 1) (htop : top = (mag V).getD n1 0) (hVt : 2147483648 ≤ top) (htB : top < 4294967296) (hla : la < 2 ^ 40) (hus : Digs us) (hul : us.length = la + 1) (hkk : k + 1 + n ≤ la + 1) (hdr : val (us.drop (k + 1)) < V)
    (KN : St → Prop) (K : Exit → St → Prop) (hN : ∀ us' q, Digs us' → us'.length = la + 1 → q < B → val (us'.drop k) < V → val us' + V * B ^ k * q = val us → ∀ s', Snd s' (sDvS s n (mag V) us' (q :: qs) k) → KN s') :
    awp Try.prog sDivMf (tbl sDivTb) sdM (sDvS s n (mag V) us qs (k + 1)) (Klp KN K) := by
  simp only [sdX, sdM, sdB, Try.f97, Option.getD, sq1, sq2, inB, inL, inC]
  obtain ⟨n2, hn2'⟩ : ∃ n2, n = n2 + 2 := ⟨n - 2, by omega⟩
  have hkn : k + (n + 1) ≤ us.length := by omega
  obtain ⟨kn, hkn1⟩ : ∃ x, x = k + n := ⟨_, rfl⟩
  obtain ⟨kn1, hkn2⟩ : ∃ x, x = k + n2 + 1 := ⟨_, rfl⟩
  obtain ⟨kn2, hkn3⟩ : ∃ x, x = k + n2 := ⟨_, rfl⟩
  obtain ⟨knp, hkn4⟩ : ∃ x, x = k + n + 1 := ⟨_, rfl⟩
  obtain ⟨np, hnp⟩ : ∃ x, x = n + 1 := ⟨_, rfl⟩
  have p1 : IntKind.i64.wrap ((k : Int) + n) = kn := by rw [wrap_i64]; omega
  have p2 : IntKind.i64.wrap ((kn : Int) - 1) = kn1 := by rw [wrap_i64]; omega
  have p3 : IntKind.i64.wrap ((kn : Int) - 2) = kn2 := by rw [wrap_i64]; omega
  have p4 : IntKind.i64.wrap ((kn : Int) + 1) = knp := by rw [wrap_i64]; omega
  have p5 : ((knp : Int) - k).toNat = np := by omega
  obtain ⟨u0, hu0⟩ : ∃ x, x = us.getD kn 0 := ⟨_, rfl⟩
  obtain ⟨u1, hu1⟩ : ∃ x, x = us.getD kn1 0 := ⟨_, rfl⟩
  obtain ⟨u2, hu2⟩ : ∃ x, x = us.getD kn2 0 := ⟨_, rfl⟩
  obtain ⟨v2, hv2⟩ : ∃ x, x = (mag V).getD n2 0 := ⟨_, rfl⟩
  have hu0B : u0 < 4294967296 := by rw [hu0]; exact getD_lt hus _
  have hu1B : u1 < 4294967296 := by rw [hu1]; exact getD_lt hus _
  have hu2B : u2 < 4294967296 := by rw [hu2]; exact getD_lt hus _
  have hv2B : v2 < 4294967296 := by rw [hv2]; exact getD_lt (mag_digs V) _
  have i0 := ix_dg us kn (by omega)
  have i1 := ix_dg us kn1 (by omega)
  have i2 := ix_dg us kn2 (by omega)
  have i3 := ix_dg (mag V) n2 (by omega)
  rw [← hu0] at i0
  rw [← hu1] at i1
  rw [← hu2] at i2
  rw [← hv2] at i3
  obtain ⟨W, hW⟩ : ∃ W, W = val (part us k np) := ⟨_, rfl⟩
  have hnp2 : np = n2 + 3 := by omega
  have hVlt : V < B ^ n := mag_lt.1 (by omega)
  have hpt := part_lt hus (by omega : k < us.length) hVlt hdr
  rw [← hnp, ← hW] at hpt
  have kk : Kn W V (B ^ n2) top v2 u0 u1 u2 := by
    have := kn_of hus (by omega : k + (n2 + 3) ≤ us.length) (by omega : (mag V).length = n2 + 2) (top := top) (by rw [htop]; congr 1; omega) (by omega) (by rw [← hnp2, ← hW]; exact hpt.2.2)
    rw [← hnp2, ← hW, ← hv2] at this
    have e0 : k + n2 + 2 = kn := by omega
    rw [e0, ← hkn2, ← hkn3, ← hu0, ← hu1, ← hu2] at this
    exact this
  obtain ⟨head, hhead⟩ : ∃ h, h = u1 + B * u0 := ⟨_, rfl⟩
  have t1 : IntKind.u64.wrap (u0 : Int) = u0 := by rw [wrap_u64]; omega
  have t2 : IntKind.u64.wrap ((u0 : Int) * 4294967296) = (u0 : Int) * 4294967296 := by rw [wrap_u64]; omega
  have t3 : IntKind.u64.wrap (u1 : Int) = u1 := by rw [wrap_u64]; omega
  have t4 : bOr .u64 ((u0 : Int) * 4294967296) u1 = head := by
    have := bOr64 (u0 * 4294967296) u1 (by omega) (by omega)
    rw [or_cut u0 u1 hu1B] at this
    have e : u0 * 4294967296 + u1 = head := by rw [hhead]; simp only [B]; omega
    rw [e] at this
    rw [← this]; congr 1
  have hheadB : head < 18446744073709551616 := by rw [hhead]; simp only [B]; omega
  have ht0 : 0 < top := by omega
  obtain ⟨g0, hg0⟩ : ∃ g, g = head / top := ⟨_, rfl⟩
  obtain ⟨r0, hr0⟩ : ∃ g, g = head % top := ⟨_, rfl⟩
  have t5 := tdiv_nat head top
  rw [← hg0] at t5
  have t6 := tmod_nat head top
  rw [← hr0] at t6
  have hg0B : g0 < 17179869184 := by
    rw [hg0, Nat.div_lt_iff_lt_mul ht0]
    have : 17179869184 * 2147483648 ≤ 17179869184 * top := Nat.mul_le_mul_left _ hVt
    omega
  have hr0B : r0 < top := by rw [hr0]; exact Nat.mod_lt _ ht0
  have t7 : IntKind.u64.wrap (g0 : Int) = g0 := by rw [wrap_u64]; omega
  have t8 : ¬ top = 0 := by omega
  have t9 : (kn1 : Int) < us.length := by omega
  have t10 : (kn : Int) < us.length := by omega
  have p14 : IntKind.i64.wrap ((n : Int) - 1) = n1 := by rw [wrap_i64]; omega
  have i4 := ix_dg (mag V) n1 (by omega)
  rw [← htop] at i4
  have t11 : IntKind.u64.wrap (top : Int) = top := by rw [wrap_u64]; omega
  have t12 : IntKind.u64.wrap (r0 : Int) = r0 := by rw [wrap_u64]; omega
  have t13 : n1 < (mag V).length := by omega
  simp [sDvS, p1, p2, p14, i0, i1, i4, dg, t1, t2, t3, t4, t5, t6, t7, t8, t9, t10, t11, t12, t13]
  have hVm : val (mag V) = V := val_mag V
  have hV0 := kk.Vpos
  have p6 : (k : Int) ≤ knp := by omega
  have p7 : (knp : Int) ≤ us.length := by omega
  have p8 : k + np ≤ us.length := by omega
  have p9 : 0 < us.length := by omega
  have p10 : 0 < np := by omega
  have p11 : IntKind.i64.wrap ((k : Int) - 1) = (k : Int) - 1 := by rw [wrap_i64]; omega
  have p12 : IntKind.i64.wrap ((n : Int) - 2) = n2 := by rw [wrap_i64]; omega
  have p13 : (kn2 : Int) < us.length := by omega
  have hnV : (mag V).length < np := by omega
  have hVn : (mag V).length ≤ np := by omega
  have hul41 : us.length < 2 ^ 41 := by omega
  have hWM : W < B ^ np := by rw [hW]; have := val_lt (part_digs hus k np); rwa [part_len us k np p8] at this
  have hVM : V ≤ B ^ np := Nat.le_trans (Nat.le_of_lt hVlt) (Nat.pow_le_pow_right B_pos (by omega))
  have hz : val (us.drop (k + np)) = 0 := hpt.2.1
  have hN2 : ∀ g, W / V ≤ g → g < 4294967296 → ∀ us' q, Digs us' → us'.length = us.length → val (us'.drop k) < V → q ≤ g → val us' + V * B ^ k * q = val us → ∀ s', Snd s' (sDvS s n (mag V) us' (q :: qs) k) → KN s' := by
    intro g _ hgB us' q h1 h2 h3 h4 h5 s' hs
    exact hN us' q h1 (by omega) (by simp only [B]; omega) h3 h5 s' hs
  have hen := fun g hgB hWg hgW st h0 => sDiv_end (s := s) (n := n) (V := V) (k := k) (g := g) (W := W) (u0 := u0) (us := us) (qs := qs) (by omega) hus hul41 (by omega) (by rw [hu0, hkn1]) hgB (by rw [hW, hnp]) hV0 (by rw [← hnp]; exact hVM) (by rw [← hnp]; exact hz) hWg hgW rfl KN K (hN2 g hWg hgB) st h0
  clear hN2 hN
  simp only [sdL6, sdT, sdZ, sdX, sdM, sdB, Try.f97, Option.getD, sq1, sq2, inB, inL, inC] at hen
  refine loop_go (fun m st => ∃ g r j : Nat, g * top + r = head ∧ W / V ≤ g ∧ m = g ∧ g < 17179869184 ∧ r < 8589934592 ∧ j * top ≤ r ∧ j ≤ 2 ∧ st = sDv4 s n (mag V) us qs k g r j) (s0 := sDv4 s n (mag V) us qs k g0 r0 0) (n := g0)
    (snd_of (by simp [LeT, sDv4]) (by simp [sDv4])) ⟨g0, r0, 0, by rw [hg0, hr0, Nat.mul_comm]; exact Nat.div_add_mod _ _, by rw [hg0, hhead]; exact kk.start, rfl, hg0B, by omega, by omega, by omega, rfl⟩ ?_
  rintro g st ⟨_, r, j, hgr, hWg, rfl, hgB, hrB, hjr, hj2, rfl⟩ KM hM
  rw [hhead] at hgr
  clear t5 t6 t7 t1 t2 t3 t4 hg0 hr0 hg0B hr0B t12
  have y1 : IntKind.u64.wrap (v2 : Int) = v2 := by rw [wrap_u64]; omega
  have y2 : IntKind.u64.wrap (u2 : Int) = u2 := by rw [wrap_u64]; omega
  have y0 : (j : Int) < 3 := by omega
  have y8 : IntKind.i64.wrap ((j : Int) + 1) = j + 1 := by rw [wrap_i64]; omega
  have hdec : r < B → (B ≤ g ∨ r * B + u2 < g * v2) → IntKind.u64.wrap ((g : Int) - 1) = ((g - 1 : Nat) : Int) ∧ IntKind.u64.wrap ((r : Int) + top) = ((r + top : Nat) : Int) ∧ ∀ s', Snd s' (sDv4 s n (mag V) us qs k (g - 1) (r + top) (j + 1)) → KM s' := by
    intro h1 h2
    obtain ⟨h3, h4, h5⟩ := kk.dec hgr hWg h2
    simp only [B] at h1
    have hj1 : j ≤ 1 := by
      rcases Nat.lt_or_ge j 2 with h | h
      · omega
      · have : 2 * top ≤ j * top := Nat.mul_le_mul_right _ h
        omega
    have hj3 : (j + 1) * top ≤ r + top := by rw [Nat.add_mul, Nat.one_mul]; omega
    refine ⟨by rw [wrap_u64]; omega, by rw [wrap_u64]; omega, fun s' hs => hM s' (nx (m := g - 1) hs ⟨g - 1, r + top, j + 1, by rw [hhead]; exact h4, h5, rfl, by omega, by omega, hj3, by omega, rfl⟩ (by omega))⟩
  clear hM
  have hn2V : n2 < (mag V).length := by omega
  by_cases hc : r < B ∧ (B ≤ g ∨ r * B + u2 < g * v2)
  · obtain ⟨d1, d2, d3⟩ := hdec hc.1 hc.2
    have hrB' : r < 4294967296 := hc.1
    have x1 : (r : Int) < 4294967296 := by omega
    generalize g - 1 = gm at *
    generalize r + top = rt at *
    by_cases c2 : B ≤ g
    · have x2 : (4294967296 : Int) ≤ g := by simp only [B] at c2; omega
      simp [sDv4, y0, y8, x1, x2, d1, d2, p14, i4, dg, t11, t13]
      exact d3 _ (snd_of (by simp [LeT, sDv4]) (by simp [sDv4]))
    · have x2 : ¬ (4294967296 : Int) ≤ g := by simp only [B] at c2; omega
      have hr1 : r * 4294967296 < 18446744073709551616 := by omega
      have hu1' : u2 < 18446744073709551616 := by omega
      have c3 : r * B + u2 < g * v2 := by rcases hc.2 with h | h; exact absurd h c2; exact h
      simp only [B] at c2 c3
      obtain ⟨gv, hgv⟩ : ∃ x, x = g * v2 := ⟨_, rfl⟩
      have hg1 : g ≤ 4294967295 := by omega
      have hv1 : v2 ≤ 4294967295 := by omega
      have hgvB : g * v2 ≤ 4294967295 * 4294967295 := Nat.mul_le_mul hg1 hv1
      rw [← hgv] at hgvB
      have y3 : (g : Int) * v2 = gv := by rw [hgv]; exact (Int.natCast_mul _ _).symm
      have y4 : IntKind.u64.wrap (gv : Int) = gv := by rw [wrap_u64]; omega
      have y5 : IntKind.u64.wrap ((r : Int) * 4294967296) = (r : Int) * 4294967296 := by rw [wrap_u64]; omega
      obtain ⟨ru, hru⟩ : ∃ x, x = r * 4294967296 + u2 := ⟨_, rfl⟩
      have y6 : bOr .u64 ((r : Int) * 4294967296) u2 = ru := by
        have := bOr64 (r * 4294967296) u2 hr1 hu1'
        rw [or_cut r u2 hu2B, ← hru] at this
        rw [← this]; congr 1
      have y7 : (ru : Int) < gv := by omega
      simp [sDv4, y0, y8, x1, x2, d1, d2, p12, i3, p1, p3, i2, dg, y1, y2, y3, y4, y5, y6, y7, p13, p14, i4, t11, t13, hn2V]
      exact d3 _ (snd_of (by simp [LeT, sDv4]) (by simp [sDv4]))
  · clear hdec
    obtain ⟨hgB, hgW⟩ := kk.done hgr hc
    have hgB' : g < 4294967296 := hgB
    have x2 : ¬ (4294967296 : Int) ≤ g := by omega
    have hru : r < 4294967296 → ∃ gv ru : Nat, (g : Int) * v2 = gv ∧ IntKind.u64.wrap (gv : Int) = gv ∧ IntKind.u64.wrap ((r : Int) * 4294967296) = (r : Int) * 4294967296 ∧ bOr .u64 ((r : Int) * 4294967296) u2 = ru ∧ ¬ (ru : Int) < gv := by
      intro c1
      have hg1 : g ≤ 4294967295 := by omega
      have hv1 : v2 ≤ 4294967295 := by omega
      have hr1 : r * 4294967296 < 18446744073709551616 := by omega
      have hu1' : u2 < 18446744073709551616 := by omega
      have c3 : ¬ r * 4294967296 + u2 < g * v2 := fun h => hc ⟨c1, .inr h⟩
      have y5 : IntKind.u64.wrap ((r : Int) * 4294967296) = (r : Int) * 4294967296 := by rw [wrap_u64]; omega
      have hgvB : g * v2 ≤ 4294967295 * 4294967295 := Nat.mul_le_mul hg1 hv1
      refine ⟨g * v2, r * 4294967296 + u2, (Int.natCast_mul _ _).symm, by rw [wrap_u64]; omega, y5, ?_, by omega⟩
      have := bOr64 (r * 4294967296) u2 hr1 hu1'
      rw [or_cut r u2 hu2B] at this
      rw [← this]; congr 1
    by_cases c1 : r < 4294967296
    have x1 : (r : Int) < 4294967296 := by omega
    obtain ⟨gv, ru, y3, y4, y5, y6, y7⟩ := hru c1
    simp [sDv4, y0, x1, x2, p12, i3, p1, p3, i2, y1, y2, y3, y4, y5, y6, y7, p13, hn2V, dg]
    rotate_left
    have x1 : ¬ (r : Int) < 4294967296 := by omega
    simp [sDv4, y0, x1]
    all_goals exact hen g hgB' hWg hgW _ (snd_of (by simp [LeT, sDv6]) (by simp [sDv6]))
end Go.Proofs.Ytpggfnggffedlaa.Ae

namespace Go.Proofs.Ytpggfnggffedlaa.Ae
open Go Go.RowKit Go.Proofs.Ytpggfnggffedlaa.Dig
theorem digs_getD : ∀ (ds : List Nat) (i : Nat), Digs ds → ds.getD i 0 = val ds / B ^ i % B
  | [], i, _ => by simp [val]
  | x :: xs, 0, h => by
    have := h.head
    simp only [val, List.getD_cons_zero, Nat.pow_zero, Nat.div_one, Nat.add_mul_mod_self_left]
    exact (Nat.mod_eq_of_lt this).symm
  | x :: xs, i + 1, h => by
    have h1 := h.head
    have h2 := digs_getD xs i h.tail
    rw [List.getD_cons_succ, h2, val, Nat.pow_succ, Nat.mul_comm (B ^ i) B, ← Nat.div_div_eq_div_mul, Nat.add_mul_div_left _ _ B_pos, Nat.div_eq_of_lt h1, Nat.zero_add]
theorem or_shift (x y s : Nat) (hx : x < B) (hs : s < 32) : x / 2 ^ s ||| (y * 2 ^ (32 - s)) % B = (y * B + x) / 2 ^ s % B := by
  have hB : B = 2 ^ (32 - s) * 2 ^ s := by
    rw [← Nat.pow_add]
    have : 32 - s + s = 32 := by omega
    rw [this]; rfl
  have hp : 0 < 2 ^ s := Nat.pow_pos (by decide)
  have h1 : x / 2 ^ s < 2 ^ (32 - s) := by rw [Nat.div_lt_iff_lt_mul hp, ← hB]; exact hx
  have h2 : (y * 2 ^ (32 - s)) % B = 2 ^ (32 - s) * (y % 2 ^ s) := by rw [hB, Nat.mul_comm y, Nat.mul_mod_mul_left]
  have h3 : (y * B + x) / 2 ^ s = y * 2 ^ (32 - s) + x / 2 ^ s := by
    rw [hB, ← Nat.mul_assoc, Nat.add_comm, Nat.mul_comm _ (2 ^ s), Nat.add_mul_div_left _ _ hp, Nat.add_comm]
  rw [h2, h3, Nat.or_comm, ← Nat.two_pow_add_eq_or_of_lt h1]
  have h4 : y % 2 ^ s < 2 ^ s := Nat.mod_lt _ hp
  have h5 : 2 ^ (32 - s) * (y % 2 ^ s) + x / 2 ^ s < B := by
    have : 2 ^ (32 - s) * (y % 2 ^ s + 1) ≤ 2 ^ (32 - s) * 2 ^ s := Nat.mul_le_mul_left _ h4
    rw [← hB, Nat.mul_add, Nat.mul_one] at this
    omega
  rw [Nat.add_mod, h2, Nat.mod_eq_of_lt (Nat.lt_of_le_of_lt (Nat.le_add_left _ _) h5), Nat.mod_eq_of_lt h5]
noncomputable def sdTail : Code := sq2 (sq2 (sq2 (sq2 (sq2 (sq2 (sq2 (sq2 (sq2 (sq2 sdB)))))))))
def sDvE (s n : Nat) (vs us qs : List Nat) : St := ⟨[.any, .any, .any, .any, .any, .any, .dat (.lit (.int .u64 s)), .dat (.lit (.int .i64 n)), .row 60, .row 63, .row 69, .dat (.lit (.int .i64 (-1))), .any, .any, .any, .any, .any, .any, .any, .any, .any, .any, .any, .any, .any, .any, .any, .any, .any, .any, .any, .any, .any, .any, .any, .any, .any, .any, .any, .any, .any, .any, .any, .any, .any, .any, .any, .any, .any, .any, .any, .any, .any, .any, .any, .any, .any, .any, .any, .any, .any, .any, .any, .any, .any, .any, .any, .any, .any, .any, .any, .any, .any, .any, .dat (.lit (.int .i64 (-1))), .dat (.lit (.bool false)), .any, .any, .any, .any, .any, .any, .any, .any, .any, .any, .any, .any, .any, .any, .any, .any, .any, .any, .any, .any, .any, .any, .any, .any, .any, .any, .any, .any, .any, .any, .any, .any, .any, .any, .any, .any, .any, .any, .any, .any, .any, .any, .any, .any, .any, .any, .any, .any, .any, .any, .any, .any, .any, .any, .any, .any, .any, .any, .any, .any, .any, .any, .any, .any, .any, .any, .any, .any, .any, .any, .any, .any, .any, .any, .any, .any, .any, .any, .any, .any, .any, .any, .any, .any, .any, .any, .any, .any, .any, .any, .any, .any, .any, .any, .any, .any, .any, .any, .any, .any, .any, .any, .any, .any, .any, .any, .any, .any, .any, .any, .any, .any, .any, .any, .any, .any, .any, .any, .any, .any, .any, .any, .any, .any, .any, .any, .any, .any, .any, .any, .any, .any, .any, .any, .any, .any, .any, .any, .any, .any, .any, .any, .any, .any, .any, .any, .any, .any, .any, .any, .any, .any, .any, .any, .any, .any, .any, .any, .any, .any, .any, .any, .any, .any, .any, .any, .any, .any, .any, .any, .any, .any, .any, .any, .any, .any, .any, .any, .any, .any, .any, .any, .any, .any, .any, .any, .any, .any, .any, .any, .any, .any, .any, .any, .any, .any, .any, .any, .any, .any, .any, .any, .any, .any, .any, .any, .any, .any, .any, .any, .any, .any, .any, .any, .any, .any, .any, .any, .any, .any, .any, .any, .any, .any, .any], [none, none, none, none, none, none, none, none, none, none, none, none, none, none, none, none, none, none, none, none, none, none, none, none, none, none, none, none, none, none, none, none, none, none, none, none, none, none, none, none, none, none, none, none, none, none, none, none, none, none, none, none, none, none, none, none, none, none, none, none, some (.row 1 195 (vs.map dg)), none, none, some (.row 1 195 (us.map dg)), none, none, none, none, none, some (.row 1 195 (qs.map dg)), none, none, none, none, none, none, none, none, none, none, none, none, none, none, none, none, none, none, none, none, none, none, none, none, none, none, none, none, none, none, none, none, none, none, none, none, none, none, none, none, none, none, none, none, none, none, none, none, none, none, none, none, none, none, none, none, none, none, none, none, none, none, none, none, none, none, none, none, none, none, none, none, none, none, none, none, none, none, none, none, none, none, none, none, none, none, none, none, none, none, none, none, none, none, none, none, none, none, none, none, none, none, none, none, none, none, none, none, none, none, none, none, none, none, none, none, none, none, none, none, none, none, none, none, none, none, none, none, none, none, none, none, none, none, none, none, none, none, none, none, none, none, none, none, none, none, none, none, none, none, none, none, none, none, none, none, none, none, none, none, none, none, none, none, none, none, none, none, none, none, none, none, none, none, none, none, none, none, none, none, none, none, none, none, none, none, none, none, none, none, none, none, none, none, none, none, none, none, none, none, none, none, none, none, none, none, none, none, none, none, none, none, none, none, none, none, none, none, none, none, none, none, none, none, none, none, none, none, none, none, none]⟩
def sDvR (s n : Nat) (vs us qs os : List Nat) (k : Nat) : St := ⟨[.any, .any, .any, .any, .any, .any, .dat (.lit (.int .u64 s)), .dat (.lit (.int .i64 n)), .any, .row 63, .row 69, .any, .any, .any, .any, .any, .any, .any, .any, .any, .any, .any, .any, .any, .any, .row 264, .dat (.lit (.int .i64 os.length)), .any, .any, .any, .any, .any, .any, .any, .any, .any, .any, .any, .any, .any, .any, .any, .any, .any, .any, .any, .any, .any, .any, .any, .any, .any, .any, .any, .any, .any, .any, .any, .any, .any, .any, .any, .any, .any, .any, .any, .any, .any, .any, .any, .any, .any, .any, .any, .any, .any, .any, .any, .any, .any, .any, .any, .any, .any, .any, .any, .any, .any, .any, .any, .any, .any, .any, .any, .any, .any, .any, .any, .any, .any, .any, .any, .any, .any, .any, .any, .any, .any, .any, .any, .any, .any, .any, .any, .any, .any, .any, .any, .any, .any, .any, .any, .any, .any, .any, .any, .any, .any, .any, .any, .any, .any, .any, .any, .any, .any, .any, .any, .any, .any, .any, .any, .any, .any, .any, .any, .any, .any, .any, .any, .any, .any, .any, .any, .any, .any, .any, .any, .any, .any, .any, .any, .any, .any, .any, .any, .any, .any, .any, .any, .any, .any, .any, .any, .any, .any, .any, .any, .any, .any, .any, .any, .any, .any, .any, .any, .any, .any, .any, .any, .any, .any, .any, .any, .any, .any, .any, .any, .any, .any, .any, .any, .any, .any, .any, .any, .any, .any, .any, .any, .any, .any, .any, .any, .any, .any, .any, .any, .any, .any, .any, .any, .any, .any, .any, .any, .any, .any, .any, .any, .any, .any, .any, .any, .any, .any, .any, .any, .any, .any, .any, .any, .any, .any, .any, .any, .any, .any, .any, .any, .any, .any, .any, .any, .any, .any, .any, .any, .any, .any, .any, .any, .any, .any, .any, .any, .any, .any, .any, .any, .any, .any, .any, .any, .any, .any, .any, .any, .any, .any, .any, .any, .any, .any, .any, .any, .any, .any, .any, .any, .any, .any, .any, .any, .any, .any, .any, .any, .any, .any, .any], [none, none, none, none, none, none, none, none, none, none, none, none, none, none, none, none, none, none, none, none, none, none, none, none, none, none, none, none, none, none, none, none, none, none, none, none, none, none, none, none, none, none, none, none, none, none, none, none, none, none, none, none, none, none, none, none, none, none, none, none, some (.row 1 195 (vs.map dg)), none, none, some (.row 1 195 (us.map dg)), none, none, none, none, none, some (.row 1 195 (qs.map dg)), none, none, none, none, none, none, none, none, none, none, none, none, none, none, none, none, none, none, none, none, none, none, none, none, none, none, none, none, none, none, none, none, none, none, none, none, none, none, none, none, none, none, none, none, none, none, none, none, none, none, none, none, none, none, none, none, none, none, none, none, none, none, none, none, none, none, none, none, none, none, none, none, none, none, none, none, none, none, none, none, none, none, none, none, none, none, none, none, none, none, none, none, none, none, none, none, none, none, none, none, none, none, none, none, none, none, none, none, none, none, none, none, none, none, none, none, none, none, none, none, none, none, none, none, none, none, none, none, none, none, none, none, none, none, none, none, none, none, none, none, none, none, none, none, none, none, none, none, none, none, none, none, none, none, none, none, none, none, none, none, none, none, none, none, none, none, none, none, none, none, none, none, none, none, none, none, none, none, none, none, none, none, none, none, none, none, none, none, none, none, none, none, none, none, some (.row 1 195 (os.map dg ++ List.replicate k z32)), none, none, none, none, none, none, none, none, none, none, none, none, none, none, none, none, none, none, none, none, none, none, none, none, none, none, none, none, none, none, none, none, none, none, none, none]⟩
set_option maxRecDepth 100000 in
set_option maxHeartbeats 4000000 in
theorem sDiv_tail {s n Q R : Nat} {us qs vs : List Nat} (hs : s ≤ 31) (hus : Digs us) (hqs : Digs qs) (hul : us.length < 2 ^ 41) (hql : qs.length < 2 ^ 41) (hn : n < us.length) (hQ : val qs = Q) (hR : val us = R * 2 ^ s) (hRn : val us < B ^ n) :
    awp Try.prog sDivMf (tbl sDivTb) sdTail (sDvE s n vs us qs) (endK Try.prog 301 [.tmp 4, .tmp 5] [.dat (.sl 1 ((mag Q).map dg)), .dat (.sl 1 ((mag R).map dg))] []) := by
  simp only [sdTail, sdB, Try.f97, Option.getD, sq1, sq2, inB, inL]
  obtain ⟨Z, hZ⟩ : ∃ Z, Z = val us := ⟨_, rfl⟩
  have hp2 : 0 < 2 ^ s := Nat.pow_pos (by decide)
  have hZR : Z / 2 ^ s = R := by rw [hZ, hR, Nat.mul_div_cancel _ hp2]
  have hmx := maxLen_ge
  have e1 : n ≤ maxLen := by omega
  simp [sDvE, e1]
  refine ⟨by omega, ?_⟩
  refine loop_go (fun j st => ∃ (os : List Nat), Digs os ∧ os.length + j = n ∧ val os = (Z / 2 ^ s) % B ^ os.length ∧ st = sDvR s n vs us qs os j) (s0 := sDvR s n vs us qs [] n) (n := n)
    (snd_of (by simp [LeT, sDvR]) (by simp [sDvR, z32])) ⟨[], Digs.nil, by simp, by simp [val, Nat.mod_one], rfl⟩ ?_
  rintro j st ⟨os, hos, hol, hov, rfl⟩ KN hN
  cases j with
  | zero =>
    have hon : os.length = n := by omega
    have hRZ : R ≤ Z := by rw [hZ, hR]; exact Nat.le_mul_of_pos_right _ hp2
    have hoR : val os = R := by rw [hov, hZR, hon, Nat.mod_eq_of_lt (by omega)]
    have t2 := trimC_at' os hos
    have t3 := trimC_at' qs hqs
    rw [hoR] at t2
    rw [hQ] at t3
    have c1 : os.length < 2 ^ 62 := by omega
    have c2 : qs.length < 2 ^ 62 := by omega
    simp only [c1] at t2
    simp only [c2] at t3
    simp [sDvR, hon, t2, t3]
  | succ j =>
    obtain ⟨x, hx⟩ : ∃ x, x = us.getD os.length 0 := ⟨_, rfl⟩
    obtain ⟨y, hy⟩ : ∃ y, y = us.getD (os.length + 1) 0 := ⟨_, rfl⟩
    have hxZ : x = Z / B ^ os.length % B := by rw [hx, hZ]; exact digs_getD _ _ hus
    have hyZ : y = Z / B ^ (os.length + 1) % B := by rw [hy, hZ]; exact digs_getD _ _ hus
    have hxB : x < 4294967296 := by rw [hx]; exact getD_lt hus _
    have hyB : y < 4294967296 := by rw [hy]; exact getD_lt hus _
    have i1 := ix_dg us os.length (by omega)
    have i2 := ix_dg us (os.length + 1) (by omega)
    rw [← hx] at i1
    rw [← hy] at i2
    have hdig := shr_digit Z s os.length hs
    rw [← hyZ, ← hxZ] at hdig
    obtain ⟨d1, hd1⟩ : ∃ d, d = x / 2 ^ s := ⟨_, rfl⟩
    have hd1B : d1 < 4294967296 := by rw [hd1]; exact Nat.lt_of_le_of_lt (Nat.div_le_self _ _) hxB
    have e0 := lset_fwd os j
    have e9 := ix_fwd os j
    have q6 : (x : Int).fdiv (2 ^ s) = (d1 : Int) := by
      have e : (2 : Int) ^ s = ((2 ^ s : Nat) : Int) := by simp
      rw [e, Int.fdiv_eq_ediv_of_nonneg _ (by omega), hd1]; exact (Int.natCast_ediv _ _).symm
    have q5 : min s 32 = s := by omega
    have q7 : IntKind.i64.wrap ((os.length : Int) + 1) = os.length + 1 := by rw [wrap_i64]; omega
    have q8 : (os.length : Int) < n := by omega
    have q9 : os.length < us.length := by omega
    have hnext : ∀ d, d < B → d = (y * B + x) / 2 ^ s % B → ∀ s', Snd s' (sDvR s n vs us qs (os ++ [d]) j) → KN s' := by
      intro d hd h1 s' hs'
      refine hN _ (nx (m := j) hs' ⟨os ++ [d], hos.append (Digs.nil.cons hd), ?_, ?_, rfl⟩ (by omega))
      · simp only [List.length_append, List.length_singleton]; omega
      · rw [val_snoc, hov, List.length_append, List.length_singleton, Nat.pow_succ, Nat.mod_mul, hdig, h1]
    rcases Nat.eq_zero_or_pos s with h0 | h0
    · subst h0
      have hd1x : d1 = x := by rw [hd1]; simp
      subst hd1x
      have hfin := hnext d1 hd1B (by
        rw [Nat.pow_zero, Nat.div_one, Nat.mul_comm, Nat.mul_add_mod]; exact (Nat.mod_eq_of_lt hd1B).symm)
      simp [sDvR, i1, e0, e9, dg, q7, q8, q9]
      exact ⟨by omega, hfin _ (snd_of (by simp [LeT, sDvR]) (by simp [sDvR, dg]))⟩
    · obtain ⟨d, hd⟩ : ∃ d, d = d1 ||| (y * 2 ^ (32 - s)) % 4294967296 := ⟨_, rfl⟩
      have hd2 := or_shift x y s hxB (by omega)
      rw [← hd1] at hd2
      have hd3 : d = (y * B + x) / 2 ^ s % B := by rw [← hd2, hd]; rfl
      have hdB : d < B := by rw [hd3]; exact Nat.mod_lt _ B_pos
      have hfin := hnext d hdB hd3
      obtain ⟨s2, hs2⟩ : ∃ s2, s2 = 32 - s := ⟨_, rfl⟩
      have q10 : IntKind.u64.wrap (32 - (s : Int)) = s2 := by rw [wrap_u64]; omega
      have q11 : min s2 32 = s2 := by omega
      obtain ⟨y2, hy2⟩ : ∃ y2, y2 = y * 2 ^ s2 := ⟨_, rfl⟩
      obtain ⟨y3, hy3⟩ : ∃ y3, y3 = y2 % 4294967296 := ⟨_, rfl⟩
      have q12 : IntKind.u32.wrap ((y : Int) * 2 ^ s2) = y3 := by
        have : (y : Int) * 2 ^ s2 = y2 := by rw [hy2]; simp
        rw [this, wrap_u32]; omega
      have q13 : bOr .u32 (d1 : Int) y3 = d := by
        rw [bOr32 d1 y3 hd1B (by omega), hd, hy3, hy2, hs2]
      have q14 : (0 : Int) < s := by omega
      have q15 : os.length + 1 < us.length := by omega
      have e7 : ix (List.map dg os ++ D.lit (.int .u32 (d1 : Int)) :: List.replicate j z32) os.length = some (.lit (.int .u32 (d1 : Int))) := by
        have h : os.length = (List.map dg os).length := by simp
        unfold ix; rw [h, List.getElem?_append_right (Nat.le_refl _), Nat.sub_self]; rfl
      have e8 : ∀ v, lset (List.map dg os ++ D.lit (.int .u32 (d1 : Int)) :: List.replicate j z32) os.length v = List.map dg os ++ v :: List.replicate j z32 := fun v => by
        have h : os.length = (List.map dg os).length := by simp
        unfold lset; rw [h, List.set_append_right _ _ (Nat.le_refl _), Nat.sub_self]; rfl
      simp [sDvR, i1, i2, e0, e9, e7, e8, dg, q5, q6, q7, q8, q9, q10, q11, q12, q13, q14, q15, h0]
      exact ⟨by omega, by omega, by omega, hfin _ (snd_of (by simp [LeT, sDvR]) (by simp [sDvR, dg]))⟩
end Go.Proofs.Ytpggfnggffedlaa.Ae

namespace Go.Proofs.Ytpggfnggffedlaa.Ae
open Go Go.RowKit Go.Proofs.Ytpggfnggffedlaa.Dig
variable {N : NR}
theorem shift_is {bt s : Nat} (h0 : bt ≠ 0) (h1 : 2147483648 ≤ bt * 2 ^ s) (h2 : bt * 2 ^ s < 4294967296) (hs : s ≤ 31) : s = 32 - bl bt := by
  have h3 := bl_lt (x := bt)
  have h4 := bl_ge h0
  have h5 : 1 ≤ bl bt := by unfold bl; rw [if_neg h0]; omega
  have h6 : bt * 2 ^ s < 2 ^ (bl bt + s) := by rw [Nat.pow_add]; exact Nat.mul_lt_mul_of_pos_right h3 (Nat.pow_pos (by decide))
  have h7 : 2 ^ (bl bt - 1 + s) ≤ bt * 2 ^ s := by rw [Nat.pow_add]; exact Nat.mul_le_mul_right _ h4
  have h8 : 2 ^ 31 < 2 ^ (bl bt + s) := Nat.lt_of_le_of_lt h1 h6
  have h9 : 2 ^ (bl bt - 1 + s) < 2 ^ 32 := Nat.lt_of_le_of_lt h7 h2
  have h10 := (Nat.pow_lt_pow_iff_right (by decide : 1 < 2)).1 h8
  have h11 := (Nat.pow_lt_pow_iff_right (by decide : 1 < 2)).1 h9
  omega
def sDv1 (a b s : Nat) : St := ⟨[.dat (.sl 1 ((mag a).map dg)), .dat (.sl 1 ((mag b).map dg)), .any, .any, .any, .any, .dat (.lit (.int .u64 s)), .any, .any, .any, .any, .any, .any, .any, .any, .any, .any, .any, .any, .any, .any, .any, .any, .any, .any, .any, .any, .any, .any, .any, .any, .any, .any, .any, .any, .any, .any, .any, .any, .any, .any, .any, .any, .any, .any, .any, .any, .any, .any, .any, .any, .any, .any, .any, .any, .any, .any, .any, .any, .any, .any, .any, .any, .any, .any, .any, .any, .any, .any, .any, .any, .any, .any, .any, .any, .any, .any, .any, .any, .any, .any, .any, .any, .any, .any, .any, .any, .any, .any, .any, .any, .any, .any, .any, .any, .any, .any, .any, .any, .any, .any, .any, .any, .any, .any, .any, .any, .any, .any, .any, .any, .any, .any, .any, .any, .any, .any, .any, .any, .any, .any, .any, .any, .any, .any, .any, .any, .any, .any, .any, .any, .any, .any, .any, .any, .any, .any, .any, .any, .any, .any, .any, .any, .any, .any, .any, .any, .any, .any, .any, .any, .any, .any, .any, .any, .any, .any, .any, .any, .any, .any, .any, .any, .any, .any, .any, .any, .any, .any, .any, .any, .any, .any, .any, .any, .any, .any, .any, .any, .any, .any, .any, .any, .any, .any, .any, .any, .any, .any, .any, .any, .any, .any, .any, .any, .any, .any, .any, .any, .any, .any, .any, .any, .any, .any, .any, .any, .any, .any, .any, .any, .any, .any, .any, .any, .any, .any, .any, .any, .any, .any, .any, .any, .any, .any, .any, .any, .any, .any, .any, .any, .any, .any, .any, .any, .any, .any, .any, .any, .any, .any, .any, .any, .any, .any, .any, .any, .any, .any, .any, .any, .any, .any, .any, .any, .any, .any, .any, .any, .any, .any, .any, .any, .any, .any, .any, .any, .any, .any, .any, .any, .any, .any, .any, .any, .any, .any, .any, .any, .any, .any, .any, .any, .any, .any, .any, .any, .any, .any, .any, .any, .any, .any, .any, .any, .any, .any, .any, .any, .any, .any], [none, none, none, none, none, none, none, none, none, none, none, none, none, none, none, none, none, none, none, none, none, none, none, none, none, none, none, none, none, none, none, none, none, none, none, none, none, none, none, none, none, none, none, none, none, none, none, none, none, none, none, none, none, none, none, none, none, none, none, none, none, none, none, none, none, none, none, none, none, none, none, none, none, none, none, none, none, none, none, none, none, none, none, none, none, none, none, none, none, none, none, none, none, none, none, none, none, none, none, none, none, none, none, none, none, none, none, none, none, none, none, none, none, none, none, none, none, none, none, none, none, none, none, none, none, none, none, none, none, none, none, none, none, none, none, none, none, none, none, none, none, none, none, none, none, none, none, none, none, none, none, none, none, none, none, none, none, none, none, none, none, none, none, none, none, none, none, none, none, none, none, none, none, none, none, none, none, none, none, none, none, none, none, none, none, none, none, none, none, none, none, none, none, none, none, none, none, none, none, none, none, none, none, none, none, none, none, none, none, none, none, none, none, none, none, none, none, none, none, none, none, none, none, none, none, none, none, none, none, none, none, none, none, none, none, none, none, none, none, none, none, none, none, none, none, none, none, none, none, none, none, none, none, none, none, none, none, none, none, none, none, none, none, none, none, none, none, none, none, none, none, none, none, none, none, none, none, none, none, none, none, none, none, none, none, none, none, none, none, none, none, none, none, none, none, none, none, none, none, none, none]⟩
set_option maxRecDepth 100000 in
theorem sDiv_exit {s n : Nat} {us vs qs : List Nat} (KN : St → Prop) (K' : Exit → St → Prop) (h : K' .normal (sDvE s n vs us qs)) : awp Try.prog sDivMf (tbl sDivTb) sdM (sDvS s n vs us qs 0) (Klp KN (Kblk 2 K')) := by
  simp only [sdM, sdB, Try.f97, Option.getD, sq1, sq2, inB, inL]
  simp [sDvS]
  exact h
theorem top_ne {b n bt : Nat} (hn : (mag b).length = n + 1) (hbt : bt = (mag b).getD n 0) : bt ≠ 0 := by
  have h1 : (mag b).getLast? = some bt := by
    rw [List.getLast?_eq_getElem?, hn, Nat.add_sub_cancel, hbt, List.getD_eq_getElem?_getD, List.getElem?_eq_getElem (by omega)]; rfl
  exact mag_last b bt h1
theorem start_lt {U V la n1 k0 sh top : Nat} {us : List Nat} (hus : Digs us) (hvU : val us = U) (hul : us.length = la + 1) (hk : k0 + n1 = la) (hVl : (mag V).length = n1 + 1) (htop : top = (mag V).getD n1 0) (hVt : 2147483648 ≤ top) (hUlt : U < B ^ la * 2 ^ sh) (h2s : 2 ^ sh ≤ 2 ^ 31) : val (us.drop k0) < V := by
  obtain ⟨ut, hut⟩ : ∃ ut, ut = us.getD la 0 := ⟨_, rfl⟩
  have h1 := val_top1 hul
  rw [hvU, ← hut] at h1
  have hut2 : ut < 2 ^ sh := by
    have h2 : B ^ la * ut < B ^ la * 2 ^ sh := by omega
    exact Nat.lt_of_mul_lt_mul_left h2
  have hdl : (us.drop k0).length = n1 + 1 := by rw [List.length_drop]; omega
  have h3 := val_top1 hdl
  have h4 : (us.drop k0).getD n1 0 = ut := by
    rw [hut, List.getD_eq_getElem?_getD, List.getElem?_drop, List.getD_eq_getElem?_getD]
    congr 2
  rw [h4] at h3
  have h5 := val_lt ((hus.drop k0).take n1)
  rw [List.length_take, Nat.min_eq_left (by omega)] at h5
  have h6 := val_top1 hVl
  rw [val_mag, ← htop] at h6
  have h7 : B ^ n1 * (ut + 1) ≤ B ^ n1 * top := Nat.mul_le_mul_left _ (by omega)
  rw [Nat.mul_add, Nat.mul_one] at h7
  generalize B ^ n1 * ut = z1 at *
  generalize B ^ n1 * top = z2 at *
  generalize B ^ n1 = z3 at *
  omega
noncomputable def sdR8 : Code := sq2 (sq2 (sq2 (sq2 (sq2 sdB))))
def sDv1e (a b s n n1 bt y : Nat) : St := ⟨[.dat (.sl 1 ((mag a).map dg)), .dat (.sl 1 ((mag b).map dg)), .any, .any, .any, .any, .dat (.lit (.int .u64 s)), .any, .any, .any, .any, .any, .any, .any, .any, .any, .any, .any, .any, .any, .any, .any, .any, .any, .any, .any, .any, .any, .any, .any, .any, .any, .any, .any, .any, .any, .any, .any, .any, .any, .any, .any, .any, .any, .any, .dat (.sl 1 ((mag b).map dg)), .dat (.sl 1 ((mag b).map dg)), .dat (.lit (.int .i64 n)), .dat (.lit (.int .i64 n1)), .dat (.ptr (.lit (.int .u32 bt))), .dat (.lit (.int .u32 bt)), .dat (.lit (.int .u64 s)), .dat (.lit (.int .u32 y)), .dat (.lit (.bool false)), .any, .any, .any, .any, .any, .any, .any, .any, .any, .any, .any, .any, .any, .any, .any, .any, .any, .any, .any, .any, .any, .any, .any, .any, .any, .any, .any, .any, .any, .any, .any, .any, .any, .any, .any, .any, .any, .any, .any, .any, .any, .any, .any, .any, .any, .any, .any, .any, .any, .any, .any, .any, .any, .any, .any, .any, .any, .any, .any, .any, .any, .any, .any, .any, .any, .any, .any, .any, .any, .any, .any, .any, .any, .any, .any, .any, .any, .any, .any, .any, .any, .any, .any, .any, .any, .any, .any, .any, .any, .any, .any, .any, .any, .any, .any, .any, .any, .any, .any, .any, .any, .any, .any, .any, .any, .any, .any, .any, .any, .any, .any, .any, .any, .any, .any, .any, .any, .any, .any, .any, .any, .any, .any, .any, .any, .any, .any, .any, .any, .any, .any, .any, .any, .any, .any, .any, .any, .any, .any, .any, .any, .any, .any, .any, .any, .any, .any, .any, .any, .any, .any, .any, .any, .any, .any, .any, .any, .any, .any, .any, .any, .any, .any, .any, .any, .any, .any, .any, .any, .any, .any, .any, .any, .any, .any, .any, .any, .any, .any, .any, .any, .any, .any, .any, .any, .any, .any, .any, .any, .any, .any, .any, .any, .any, .any, .any, .any, .any, .any, .any, .any, .any, .any, .any, .any, .any, .any, .any, .any, .any, .any, .any, .any, .any, .any, .any, .any, .any, .any, .any, .any, .any, .any, .any, .any, .any, .any, .any, .any, .any, .any, .any, .any, .any, .any, .any, .any, .any, .any, .any, .any, .any, .any, .any, .any, .any, .any], [none, none, none, none, none, none, none, none, none, none, none, none, none, none, none, none, none, none, none, none, none, none, none, none, none, none, none, none, none, none, none, none, none, none, none, none, none, none, none, none, none, none, none, none, none, none, none, none, none, none, none, none, none, none, none, none, none, none, none, none, none, none, none, none, none, none, none, none, none, none, none, none, none, none, none, none, none, none, none, none, none, none, none, none, none, none, none, none, none, none, none, none, none, none, none, none, none, none, none, none, none, none, none, none, none, none, none, none, none, none, none, none, none, none, none, none, none, none, none, none, none, none, none, none, none, none, none, none, none, none, none, none, none, none, none, none, none, none, none, none, none, none, none, none, none, none, none, none, none, none, none, none, none, none, none, none, none, none, none, none, none, none, none, none, none, none, none, none, none, none, none, none, none, none, none, none, none, none, none, none, none, none, none, none, none, none, none, none, none, none, none, none, none, none, none, none, none, none, none, none, none, none, none, none, none, none, none, none, none, none, none, none, none, none, none, none, none, none, none, none, none, none, none, none, none, none, none, none, none, none, none, none, none, none, none, none, none, none, none, none, none, none, none, none, none, none, none, none, none, none, none, none, none, none, none, none, none, none, none, none, none, none, none, none, none, none, none, none, none, none, none, none, none, none, none, none, none, none, none, none, none, none, none, none, none, none, none, none, none, none, none, none, none, none, none, none, none, none, none, none, none]⟩
set_option maxRecDepth 100000 in
set_option maxHeartbeats 4000000 in
theorem sDiv_main {a b s n n1 bt y Q R : Nat} (ha : (mag a).length < 2 ^ 40) (hb : (mag b).length < 2 ^ 40) (hb0 : 0 < b) (hq : a / b = Q) (hr : a % b = R) (hab : ¬ a < b) (hn : n = (mag b).length) (hn2 : 2 ≤ n) (hn1 : n - 1 = n1) (hn1' : (mag b).length = n1 + 1) (hbt : bt = (mag b).getD n1 0) (hbt0 : bt ≠ 0) (hs31 : s ≤ 31) (hsB : bt * 2 ^ s < 4294967296) (hy : y = bt * 2 ^ s) (hlt : ¬ y < 2147483648) :
    awp Try.prog sDivMf (tbl sDivTb) sdR8 (sDv1e a b s n n1 bt y) (endK Try.prog 301 [.tmp 4, .tmp 5] [.dat (.sl 1 ((mag Q).map dg)), .dat (.sl 1 ((mag R).map dg))] []) := by
    have hsh := shift_is hbt0 (by omega) hsB hs31
    obtain ⟨_, hVl, hVt⟩ := norm_facts hn1' hbt hsh
    obtain ⟨U, hU⟩ : ∃ U, U = a * 2 ^ s := ⟨_, rfl⟩
    obtain ⟨V, hV⟩ : ∃ V, V = b * 2 ^ s := ⟨_, rfl⟩
    rw [← hV] at hVl hVt
    have s2 := shlO_at a s 1
    have s3 := shlO_at b s 0
    rw [← hU] at s2
    rw [← hV] at s3
    have hVn : V < B ^ n := mag_lt.1 (by omega)
    have hs32 : s < 32 := by omega
    have hdV : dig ((mag b).length + 0) V = mag V := by
      have h1 := dig_of (n := (mag V).length) (mag_digs V) rfl (val_mag V)
      rw [← h1]
      congr 1
      omega
    rw [hdV] at s3
    simp [Sm, eM, eW, ha, hb, ← hn, hVn, hs32] at s2 s3
    have hmx := maxLen_ge
    have h2s : 2 ^ s ≤ 2 ^ 31 := Nat.pow_le_pow_right (by decide) hs31
    have hUlt : U < B ^ (mag a).length * 2 ^ s := by
      rw [hU]; exact Nat.mul_lt_mul_of_pos_right (mag_lt.1 (Nat.le_refl _)) (Nat.pow_pos (by decide))
    obtain ⟨la, hla⟩ : ∃ la, la = (mag a).length := ⟨_, rfl⟩
    have hlan : n ≤ la := by rw [hn, hla]; exact mag_len_le (by omega)
    rw [← hla] at s2 hUlt ha
    obtain ⟨us, hus'⟩ : ∃ us, us = dig (la + 1) U := ⟨_, rfl⟩
    have hus : Digs us := by rw [hus']; exact dig_digs _ _
    have hul : us.length = la + 1 := by rw [hus']; exact dig_len _ _
    have hvU : val us = U := by
      rw [hus']; refine val_dig _ _ (Nat.lt_of_lt_of_le hUlt ?_)
      rw [Nat.pow_succ]; exact Nat.mul_le_mul_left _ (Nat.le_trans h2s (by decide))
    rw [← hus'] at s2
    obtain ⟨k0, hk0⟩ : ∃ k0, k0 = la - n + 1 := ⟨_, rfl⟩
    have q4 : IntKind.i64.wrap ((la : Int) - n) = (k0 : Int) - 1 := by rw [wrap_i64]; omega
    have q5 : IntKind.i64.wrap (k0 : Int) = k0 := by rw [wrap_i64]; omega
    simp only [sdR8, sdB, Try.f97, Option.getD, sq2]
    simp [sDv1e, ← hn, ← hla, q4, q5, s2, s3]
    refine ⟨by omega, by omega, ?_⟩
    have hV0 : 0 < V := by rw [hV]; exact Nat.mul_pos hb0 (Nat.pow_pos (by decide))
    obtain ⟨top, htop⟩ : ∃ top, top = (mag V).getD n1 0 := ⟨_, rfl⟩
    rw [← htop] at hVt
    have htB : top < 4294967296 := by rw [htop]; exact getD_lt (mag_digs V) _
    have hstart := start_lt (k0 := k0) hus hvU hul (by omega) hVl htop hVt hUlt h2s
    refine loop_go (fun k st => ∃ us qs : List Nat, Digs us ∧ Digs qs ∧ us.length = la + 1 ∧ k + qs.length = k0 ∧ val (us.drop k) < V ∧ val us + V * (B ^ k * val qs) = U ∧ st = sDvS s n (mag V) us qs k) (s0 := sDvS s n (mag V) us [] k0) (n := k0)
      (snd_of (by simp [LeT, sDvS]) (by simp [sDvS, z32])) ⟨us, [], hus, Digs.nil, hul, by simp, hstart, by simp [val, hvU], rfl⟩ ?_
    clear hstart hvU hus hul hus' s2 s3 q5 hlt us
    rintro k st ⟨us, qs, hus, hqs, hul, hkq, hdr, hval, rfl⟩ KN hN
    cases k with
    | zero =>
      rw [List.drop_zero] at hdr
      rw [Nat.pow_zero, Nat.one_mul] at hval
      have hp2 : 0 < 2 ^ s := Nat.pow_pos (by decide)
      have hUV : U / V = Q := by rw [hU, hV, Nat.mul_div_mul_right _ _ hp2, hq]
      have hUVm : U % V = R * 2 ^ s := by rw [hU, hV, Nat.mul_mod_mul_right, hr]
      have hQ : val qs = Q := by rw [← hUV, ← hval, Nat.add_mul_div_left _ _ hV0, Nat.div_eq_of_lt hdr, Nat.zero_add]
      have hR : val us = R * 2 ^ s := by rw [← hUVm, ← hval, Nat.add_mul_mod_self_left, Nat.mod_eq_of_lt hdr]
      have ht := sDiv_tail (s := s) (n := n) (vs := mag V) (Q := Q) (R := R) hs31 hus hqs (by omega) (by omega) (by omega) hQ hR (Nat.lt_trans hdr hVn)
      simp only [sdTail, sdB, Try.f97, Option.getD, sq2] at ht
      have hx := fun K' => sDiv_exit (s := s) (n := n) (us := us) (vs := mag V) (qs := qs) KN K'
      simp only [sdM, sdB, Try.f97, Option.getD, sq1, sq2, inB, inL] at hx
      exact hx _ ht
    | succ k =>
      have hst := sDiv_step (s := s) (n := n) (n1 := n1) (V := V) (top := top) (k := k) (la := la) (us := us) (qs := qs) hn2 hn1 hVl htop hVt htB ha hus hul (by omega) hdr KN
      simp only [sdM, sdB, Try.f97, Option.getD, sq1, sq2, inB, inL] at hst
      refine hst _ (fun us' q h1 h2 h3 h4 h5 s' hs => hN _ (nx (m := k) (s'' := sDvS s n (mag V) us' (q :: qs) k) hs ⟨us', q :: qs, h1, hqs.cons h3, h2, by simp; omega, h4, ?_, rfl⟩ (by omega)))
      rw [← hval, ← h5, val, Nat.pow_succ]
      simp only [Nat.mul_add, Nat.mul_assoc, Nat.add_assoc]
end Go.Proofs.Ytpggfnggffedlaa.Ae

namespace Go.Proofs.Ytpggfnggffedlaa.Ae
open Go Go.RowKit Go.Proofs.Ytpggfnggffedlaa.Dig
variable {N : NR}
noncomputable def sdL1 : Code := inL (inB (sq1 (sq2 (sq2 (sq2 (sq2 sdB))))))
set_option maxRecDepth 100000 in
theorem sDiv_exit1 {a b s n n1 bt y : Nat} (hn : n = (mag b).length) (hlb : n1 < n) (r1 : IntKind.i64.wrap ((n : Int) - 1) = n1) (e1 : ix (List.map dg (mag b)) n1 = some (dg bt)) (q1 : IntKind.u32.wrap ((bt : Int) * 2 ^ s) = y) (q2 : min s 32 = s) (q3 : ¬ (y : Int) < 2147483648)
    (KN : St → Prop) (K' : Exit → St → Prop) (h : K' .normal (sDv1e a b s n n1 bt y)) : awp Try.prog sDivMf (tbl sDivTb) sdL1 (sDv1 a b s) (Klp KN (Kblk 0 K')) := by
  simp only [sdL1, sdB, Try.f97, Option.getD, sq1, sq2, inB, inL]
  simp [sDv1, ← hn, r1, hlb, e1, dg, q1, q2, q3]
  exact h
set_option maxRecDepth 100000 in
set_option maxHeartbeats 4000000 in
theorem l1MagDiv_spec : SpecD N Try.prog 97 divC := by
  refine rdD (mf := sDivMf) sDivTb_ok (fn := Try.f97) (by kernel_rfl) rfl (by kernel_rfl) ?_
  rintro ⟨a, b⟩ ⟨ha, hb, hb0⟩
  refine ⟨by show 2 ≤ 301; decide, ?_⟩
  simp only [n2E, Try.f97]
  simp only [Sm] at ha hb
  have hb0 : 0 < b := hb0
  generalize hq : a / b = Q
  generalize hr : a % b = R
  have c1 := sCmpC_at a b
  simp only [Sm, ha, hb, and_self] at c1
  by_cases hab : a < b
  · have h1 : Q = 0 := by rw [← hq]; exact Nat.div_eq_of_lt hab
    have h2 : R = a := by rw [← hr]; exact Nat.mod_eq_of_lt hab
    have h3 : sgnC a b = -1 := by unfold sgnC; rw [if_pos hab]
    subst h1 h2
    rw [h3] at c1
    simp only [eM, eW] at c1 ⊢
    simp [c1, mag_zero]
    have := maxLen_ge
    omega
  · have h3 : ¬ sgnC a b < 0 := by unfold sgnC; rw [if_neg hab]; split <;> omega
    generalize sgnC a b = cv at c1 h3
    by_cases hl : (mag b).length = 1
    · obtain ⟨d, hd⟩ : ∃ d, mag b = [d] := List.length_eq_one_iff.1 hl
      have hbd : b = d := by have := val_mag b; rw [hd] at this; simp [val] at this; exact this.symm
      have hdB : d < B := by have := mag_digs b; rw [hd] at this; exact this.head
      have s1 := div1C_at a d
      rw [← hbd, hq, hr] at s1
      have e2 : ix (List.map dg (mag b)) 0 = some (dg b) := by rw [hd, hbd]; rfl
      have hbB : b < B := by rw [hbd]; exact hdB
      simp only [Sm, ha, hb0, hbB, and_self, dg] at s1
      simp only [eM, eW] at c1 s1 ⊢
      simp [c1, h3, hl, e2, dg, s1]
    · obtain ⟨n, hn⟩ : ∃ n, n = (mag b).length := ⟨_, rfl⟩
      have hn0 : n ≠ 0 := by rw [hn]; exact fun h => by rw [mag_len_zero] at h; omega
      have hn2 : 2 ≤ n := by omega
      obtain ⟨n1, hn1⟩ : ∃ n1, n - 1 = n1 := ⟨_, rfl⟩
      have hn1' : (mag b).length = n1 + 1 := by omega
      obtain ⟨bt, hbt⟩ : ∃ bt, bt = (mag b).getD n1 0 := ⟨_, rfl⟩
      have hbtB : bt < 4294967296 := by rw [hbt]; exact getD_lt (mag_digs b) _
      have hbt0 := top_ne hn1' hbt
      have e1 := ix_dg (mag b) n1 (by omega)
      rw [← hbt] at e1
      have r1 : IntKind.i64.wrap ((n : Int) - 1) = n1 := by rw [wrap_i64]; omega
      have hl' : ¬ (n : Int) = 1 := by omega
      have hlb : n1 < n := by omega
      simp only [eM, eW] at c1 ⊢
      simp [c1, h3, hl', ← hn]
      refine loop_go (fun m st => ∃ s : Nat, s + m = 32 ∧ s ≤ 31 ∧ bt * 2 ^ s < 4294967296 ∧ st = sDv1 a b s) (s0 := sDv1 a b 0) (n := 32)
        (snd_of (by simp [LeT, sDv1]) (by simp [sDv1])) ⟨0, by omega, by omega, by simpa using hbtB, rfl⟩ ?_
      rintro m st ⟨s, hsm, hs31, hsB, rfl⟩ KN hN
      obtain ⟨y, hy⟩ : ∃ y, y = bt * 2 ^ s := ⟨_, rfl⟩
      have q1 : IntKind.u32.wrap ((bt : Int) * 2 ^ s) = y := by
        have : (bt : Int) * 2 ^ s = y := by rw [hy]; simp
        rw [this, wrap_u32]; omega
      have q2 : min s 32 = s := by omega
      by_cases hlt : y < 2147483648
      · have q3 : (y : Int) < 2147483648 := by omega
        have q4 : IntKind.u64.wrap ((s : Int) + 1) = s + 1 := by rw [wrap_u64]; omega
        have hs30 : s ≤ 30 := by
          rcases Nat.lt_or_ge s 31 with h | h
          · omega
          · have : s = 31 := by omega
            have h5 : 1 * 2 ^ s ≤ bt * 2 ^ s := Nat.mul_le_mul_right _ (by omega)
            rw [this] at h5
            rw [this] at hy
            omega
        simp [sDv1, ← hn, r1, hlb, e1, dg, q1, q2, q3, q4]
        refine hN _ (nx (m := m - 1) (s'' := sDv1 a b (s + 1)) (snd_of (by simp [LeT, sDv1]) (by simp [sDv1])) ⟨s + 1, by omega, by omega, by rw [Nat.pow_succ, ← Nat.mul_assoc, ← hy]; omega, rfl⟩ (by omega))
      · have q3 : ¬ (y : Int) < 2147483648 := by omega
        clear hN
        have hm := sDiv_main (a := a) (b := b) (s := s) (n := n) (n1 := n1) (bt := bt) (y := y) ha hb hb0 hq hr hab hn hn2 hn1 hn1' hbt hbt0 hs31 hsB hy hlt
        simp only [sdR8, sdB, Try.f97, Option.getD, sq2, sDv1e] at hm
        have hx := fun K' => sDiv_exit1 (a := a) (b := b) (s := s) (n := n) (n1 := n1) (bt := bt) (y := y) hn hlb r1 e1 q1 q2 q3 KN K'
        simp only [sdL1, sdB, Try.f97, Option.getD, sq1, sq2, inB, inL, sDv1e] at hx
        exact hx _ hm
theorem l1MagDiv_ok : callable Try.prog 97 = true := by kernel_rfl
end Go.Proofs.Ytpggfnggffedlaa.Ae

namespace Go.Proofs.Ytpggfnggffedlaa.Ae
open Go Go.RowKit Go.Proofs.Ytpggfnggffedlaa.Dig
variable {N : NR}
@[simp] theorem range1 : List.range 1 = [0] := rfl
@[simp] theorem range2 : List.range 2 = [0, 1] := rfl
@[simp] theorem range3 : List.range 3 = [0, 1, 2] := rfl
@[simp] theorem range4 : List.range 4 = [0, 1, 2, 3] := rfl
@[simp] theorem cells_z : (Value.agg #[Value.bool false, Value.slice none 0 0]).cells.size = 2 := by rfl
@[simp] theorem cells_q : (Value.agg #[Value.int .i64 0, Value.int .i64 0]).cells.size = 2 := by rfl
@[simp] theorem cells_r : (Value.agg #[Value.int .i64 0, Value.int .i64 0, Value.slice none 0 0]).cells.size = 3 := by rfl
theorem Sub.agg2 {a b a' b' : D} (ha : Sub a a') (hb : Sub b b') : Sub (.agg [a, b]) (.agg [a', b']) := Sub.agg rfl (fun i d d' h h' => by
  match i with
  | 0 => simp at h h'; subst h h'; exact ha
  | 1 => simp at h h'; subst h h'; exact hb
  | i + 2 => simp at h)
theorem Sub.agg3 {a b c a' b' c' : D} (ha : Sub a a') (hb : Sub b b') (hc : Sub c c') : Sub (.agg [a, b, c]) (.agg [a', b', c']) := Sub.agg rfl (fun i d d' h h' => by
  match i with
  | 0 => simp at h h'; subst h h'; exact ha
  | 1 => simp at h h'; subst h h'; exact hb
  | 2 => simp at h h'; subst h h'; exact hc
  | i + 3 => simp at h)
@[simp] theorem sub_z0 : Sub (.agg [.lit (.bool false), .lit (.slice none 0 0)]) (.agg [.lit (.bool false), .sl 1 []]) = True := by
  simp only [eq_iff_iff, iff_true]; exact Sub.agg2 (Sub.refl _) (Sub.nil 1)
def eZ (z : Int) : D := .agg [.lit (.bool (decide (z < 0))), eM z.natAbs]
theorem eZ_inj {a b : Int} (h : eZ a = eZ b) : a = b := by
  simp only [eZ, D.agg.injEq, List.cons.injEq, and_true, D.lit.injEq, Value.bool.injEq, decide_eq_decide] at h
  have := eM_inj h.2
  omega
def zE (p : Z1) : List D := [eZ p.a]
theorem zE_inj (p q : Z1) (h : zE p = zE q) : p = q := by
  obtain ⟨a⟩ := p; obtain ⟨c⟩ := q
  simp only [zE, List.cons.injEq, and_true] at h
  rw [eZ_inj h]
structure Z2 where
  a : Int
  b : Int
def zzE (p : Z2) : List D := [eZ p.a, eZ p.b]
theorem zzE_inj (p q : Z2) (h : zzE p = zzE q) : p = q := by
  obtain ⟨a, b⟩ := p; obtain ⟨c, d⟩ := q
  simp only [zzE, List.cons.injEq, and_true] at h
  rw [eZ_inj h.1, eZ_inj h.2]
def SZ (z : Int) : Prop := Sm z.natAbs
theorem mag_len_pos {n : Nat} (h : 0 < n) : 0 < (mag n).length := by
  rcases Nat.eq_zero_or_pos (mag n).length with h1 | h1
  · rw [mag_len_zero] at h1; omega
  · exact h1
noncomputable def zOfC := ctD z1E (fun p => I64 p.a) (fun p => [eZ p.a])
theorem zOfC_at (a : Int) : zOfC [i64D a] = (I64 a, [eZ a]) := ctD_at z1E_inj ⟨a⟩
theorem l1ZOf_spec : SpecD N Try.prog 57 zOfC := by
  refine rdD (mf := fun f => false) (tbl_cons (f := 88) (c := .data absC) l1Abs_spec l1Abs_ok (tbl_cons (f := 87) (c := .data magC) l1Mag_spec l1Mag_ok tbl_nil)) (fn := Try.f57) (by kernel_rfl) rfl (by kernel_rfl) ?_
  rintro ⟨x⟩ hx
  have hx : I64 x := hx
  refine ⟨by show 1 ≤ 9; decide, ?_⟩
  have t1 := absC_at' x
  have t2 := magC_at' x.natAbs
  have t3 : tbl [(88, Ct.data absC), (87, .data magC)] 87 = some (.data magC) := rfl
  have t4 : tbl [(88, Ct.data absC), (87, .data magC)] 88 = some (.data absC) := rfl
  have hb : x.natAbs < 18446744073709551616 := by unfold I64 at hx; omega
  simp only [z1E, i64D, eZ, Try.f57]
  generalize x.natAbs = y at *
  simp [hx, hb] at t1 t2
  simp [eM, eW, t1, t2, t3, t4]
theorem l1ZOf_ok : callable Try.prog 57 = true := by kernel_rfl
noncomputable def zNegC := ctD zE (fun p => SZ p.a) (fun p => [eZ (-p.a)])
theorem zNegC_at (a : Int) : zNegC [eZ a] = (SZ a, [eZ (-a)]) := ctD_at zE_inj ⟨a⟩
theorem l1ZNeg_spec : SpecD N Try.prog 60 zNegC := by
  refine rdD (mf := fun f => false) tbl_nil (fn := Try.f60) (by kernel_rfl) rfl (by kernel_rfl) ?_
  rintro ⟨x⟩ hx
  have hx : SZ x := hx
  refine ⟨by show 1 ≤ 15; decide, ?_⟩
  simp only [zE, Try.f60]
  rcases Int.lt_trichotomy x 0 with h | h | h
  · have h1 : ¬ 0 < x := by omega
    simp [eZ, eM, eW, h, h1]
  · subst h
    simp [eZ, eM, eW, mag_zero]
  · have h1 : ¬ x < 0 := by omega
    have h2 := mag_len_pos (n := x.natAbs) (by omega)
    simp [eZ, eM, eW, h, h1, h2]
theorem l1ZNeg_ok : callable Try.prog 60 = true := by kernel_rfl
noncomputable def zAddC := ctD zzE (fun p => SZ p.a ∧ SZ p.b) (fun p => [eZ (p.a + p.b)])
theorem zAddC_at (a b : Int) : zAddC [eZ a, eZ b] = ((SZ a ∧ SZ b), [eZ (a + b)]) := ctD_at zzE_inj ⟨a, b⟩
noncomputable def zAddTb : List (FuncId × Ct) := [(90, .data addC), (91, .data sCmpC), (92, .data subC)]
theorem zAddTb_ok : TbOK N Try.prog (tbl zAddTb) := tbl_cons (c := .data addC) l1MagAdd_spec l1MagAdd_ok (tbl_cons (c := .data sCmpC) l1MagCmp_spec l1MagCmp_ok (tbl_cons (c := .data subC) l1MagSub_spec l1MagSub_ok tbl_nil))
@[simp] theorem zAddTb1 : tbl zAddTb 90 = some (.data addC) := rfl
@[simp] theorem zAddTb2 : tbl zAddTb 91 = some (.data sCmpC) := rfl
@[simp] theorem zAddTb3 : tbl zAddTb 92 = some (.data subC) := rfl
theorem l1ZAdd_spec : SpecD N Try.prog 59 zAddC := by
  refine rdD (mf := fun f => false) zAddTb_ok (fn := Try.f59) (by kernel_rfl) rfl (by kernel_rfl) ?_
  rintro ⟨a, b⟩ ⟨hsa, hsb⟩
  have hsa : Sm a.natAbs := hsa
  have hsb : Sm b.natAbs := hsb
  refine ⟨by show 2 ≤ 52; decide, ?_⟩
  simp only [zzE, eZ, Try.f59]
  have c1 := addC_at a.natAbs b.natAbs
  have c2 := sCmpC_at a.natAbs b.natAbs
  have c3 := subC_at a.natAbs b.natAbs
  have c4 := subC_at b.natAbs a.natAbs
  simp only [hsa, hsb, and_self, true_and] at c1 c2 c3 c4
  by_cases hab : (a < 0 ↔ b < 0)
  · have e : a.natAbs + b.natAbs = (a + b).natAbs := by omega
    rw [e] at c1
    by_cases ha : a < 0
    · have hb : b < 0 := hab.1 ha
      have hc : a + b < 0 := by omega
      have h2 := mag_len_pos (n := (a + b).natAbs) (by omega)
      generalize a.natAbs = p at *
      generalize b.natAbs = q at *
      generalize (a + b).natAbs = r at *
      simp only [eM, eW] at c1 c2 c3 c4 ⊢
      simp [ha, hb, hc, c1, h2]
    · have hb : ¬ b < 0 := fun h => ha (hab.2 h)
      have hc : ¬ a + b < 0 := by omega
      generalize a.natAbs = p at *
      generalize b.natAbs = q at *
      generalize (a + b).natAbs = r at *
      simp only [eM, eW] at c1 c2 c3 c4 ⊢
      simp [ha, hb, hc, c1]
  · by_cases ha : a < 0
    · have hb : ¬ b < 0 := fun h => hab ⟨fun _ => h, fun _ => ha⟩
      rcases Nat.lt_trichotomy a.natAbs b.natAbs with h | h | h
      · have hs : sgnC a.natAbs b.natAbs = -1 := by unfold sgnC; rw [if_pos h]
        have e : b.natAbs - a.natAbs = (a + b).natAbs := by omega
        have hc : ¬ a + b < 0 := by omega
        have hle : a.natAbs ≤ b.natAbs := by omega
        rw [hs] at c2
        simp only [hle] at c4
        rw [e] at c4
        generalize a.natAbs = p at *
        generalize b.natAbs = q at *
        generalize (a + b).natAbs = r at *
        simp only [eM, eW] at c1 c2 c3 c4 ⊢
        simp [ha, hb, hc, c2, c4]
      · have hs : sgnC a.natAbs b.natAbs = 0 := by unfold sgnC; rw [if_neg (by omega), if_neg (by omega)]
        have e : (a + b).natAbs = 0 := by omega
        have hc : ¬ a + b < 0 := by omega
        rw [hs] at c2
        rw [e]
        generalize a.natAbs = p at *
        generalize b.natAbs = q at *
        simp only [eM, eW] at c1 c2 c3 c4 ⊢
        simp [ha, hb, hc, c2, mag_zero]
      · have hs : sgnC a.natAbs b.natAbs = 1 := by unfold sgnC; rw [if_neg (by omega), if_pos h]
        have e : a.natAbs - b.natAbs = (a + b).natAbs := by omega
        have hc : a + b < 0 := by omega
        have hle : b.natAbs ≤ a.natAbs := by omega
        rw [hs] at c2
        simp only [hle] at c3
        rw [e] at c3
        generalize a.natAbs = p at *
        generalize b.natAbs = q at *
        generalize (a + b).natAbs = r at *
        simp only [eM, eW] at c1 c2 c3 c4 ⊢
        simp [ha, hb, hc, c2, c3]
    · have hb : b < 0 := Decidable.byContradiction fun h => hab ⟨fun h1 => absurd h1 ha, fun h1 => absurd h1 h⟩
      rcases Nat.lt_trichotomy a.natAbs b.natAbs with h | h | h
      · have hs : sgnC a.natAbs b.natAbs = -1 := by unfold sgnC; rw [if_pos h]
        have e : b.natAbs - a.natAbs = (a + b).natAbs := by omega
        have hc : a + b < 0 := by omega
        have hle : a.natAbs ≤ b.natAbs := by omega
        rw [hs] at c2
        simp only [hle] at c4
        rw [e] at c4
        generalize a.natAbs = p at *
        generalize b.natAbs = q at *
        generalize (a + b).natAbs = r at *
        simp only [eM, eW] at c1 c2 c3 c4 ⊢
        simp [ha, hb, hc, c2, c4]
      · have hs : sgnC a.natAbs b.natAbs = 0 := by unfold sgnC; rw [if_neg (by omega), if_neg (by omega)]
        have e : (a + b).natAbs = 0 := by omega
        have hc : ¬ a + b < 0 := by omega
        rw [hs] at c2
        rw [e]
        generalize a.natAbs = p at *
        generalize b.natAbs = q at *
        simp only [eM, eW] at c1 c2 c3 c4 ⊢
        simp [ha, hb, hc, c2, mag_zero]
      · have hs : sgnC a.natAbs b.natAbs = 1 := by unfold sgnC; rw [if_neg (by omega), if_pos h]
        have e : a.natAbs - b.natAbs = (a + b).natAbs := by omega
        have hc : ¬ a + b < 0 := by omega
        have hle : b.natAbs ≤ a.natAbs := by omega
        rw [hs] at c2
        simp only [hle] at c3
        rw [e] at c3
        generalize a.natAbs = p at *
        generalize b.natAbs = q at *
        generalize (a + b).natAbs = r at *
        simp only [eM, eW] at c1 c2 c3 c4 ⊢
        simp [ha, hb, hc, c2, c3]
theorem l1ZAdd_ok : callable Try.prog 59 = true := by kernel_rfl
theorem SZ_neg {a : Int} : SZ (-a) ↔ SZ a := by unfold SZ; rw [Int.natAbs_neg]
@[simp] theorem eZ_size (z : Int) : (eZ z).size = 2 := rfl
@[simp] theorem eZ_agg (z : Int) : (eZ z).isAgg = true := rfl
noncomputable def zMulC := ctD zzE (fun p => SZ p.a ∧ SZ p.b) (fun p => [eZ (p.a * p.b)])
theorem zMulC_at (a b : Int) : zMulC [eZ a, eZ b] = ((SZ a ∧ SZ b), [eZ (a * b)]) := ctD_at zzE_inj ⟨a, b⟩
theorem mul_neg_iff {a b : Int} (ha : a ≠ 0) (hb : b ≠ 0) : a * b < 0 ↔ ((a < 0) ≠ (b < 0)) := by
  rcases Int.lt_trichotomy a 0 with h1 | h1 | h1
  · rcases Int.lt_trichotomy b 0 with h2 | h2 | h2
    · have := Int.mul_pos_of_neg_of_neg h1 h2
      simp [h1, h2]; omega
    · exact absurd h2 hb
    · have := Int.mul_neg_of_neg_of_pos h1 h2
      simp [h1, this]; omega
  · exact absurd h1 ha
  · rcases Int.lt_trichotomy b 0 with h2 | h2 | h2
    · have := Int.mul_neg_of_pos_of_neg h1 h2
      simp [h2, this]; omega
    · exact absurd h2 hb
    · have := Int.mul_pos h1 h2
      have h3 : ¬ a < 0 := by omega
      have h4 : ¬ b < 0 := by omega
      simp [h3, h4]; omega
theorem l1ZMul_spec : SpecD N Try.prog 58 zMulC := by
  refine rdD (mf := fun f => false) (tbl_cons (f := 89) (c := .data mulC) l1MagMul_spec l1MagMul_ok tbl_nil) (fn := Try.f58) (by kernel_rfl) rfl (by kernel_rfl) ?_
  rintro ⟨a, b⟩ ⟨hsa, hsb⟩
  have hsa : Sm a.natAbs := hsa
  have hsb : Sm b.natAbs := hsb
  refine ⟨by show 2 ≤ 23; decide, ?_⟩
  simp only [zzE, eZ, Try.f58]
  have c1 := mulC_at a.natAbs b.natAbs
  simp only [hsa, hsb, and_self] at c1
  rw [← Int.natAbs_mul] at c1
  by_cases h0 : a * b = 0
  · have h1 : ¬ a * b < 0 := by omega
    have h2 : (a * b).natAbs = 0 := by omega
    rw [h2] at c1
    rw [h2]
    generalize a * b = z at *
    generalize a.natAbs = p at *
    generalize b.natAbs = q at *
    simp only [eM, eW, mag_zero] at c1 ⊢
    by_cases ha : a < 0 <;> by_cases hb : b < 0 <;> simp [ha, hb, h1, c1]
  · have ha0 : a ≠ 0 := fun h => h0 (by rw [h, Int.zero_mul])
    have hb0 : b ≠ 0 := fun h => h0 (by rw [h, Int.mul_zero])
    have h1 := mul_neg_iff ha0 hb0
    have h2 := mag_len_pos (n := (a * b).natAbs) (by omega)
    have hd : decide (a * b < 0) = (decide (a < 0) != decide (b < 0)) := by
      rw [Bool.eq_iff_iff]; simp only [decide_eq_true_eq, h1]
      by_cases ha : a < 0 <;> by_cases hb : b < 0 <;> simp [ha, hb]
    rw [hd]
    generalize (a * b).natAbs = r at *
    generalize a.natAbs = p at *
    generalize b.natAbs = q at *
    simp only [eM, eW] at c1 ⊢
    by_cases ha : a < 0 <;> by_cases hb : b < 0 <;> simp [ha, hb, c1, h2]
theorem l1ZMul_ok : callable Try.prog 58 = true := by kernel_rfl
end Go.Proofs.Ytpggfnggffedlaa.Ae

namespace Go.Proofs.Ytpggfnggffedlaa.Ae
open Go Go.RowKit Go.Proofs.Ytpggfnggffedlaa.Dig
variable {N : NR}
def uuE (p : N2) : List D := [u64D p.a, u64D p.b]
theorem uuE_inj (p q : N2) (h : uuE p = uuE q) : p = q := by
  obtain ⟨a, b⟩ := p; obtain ⟨c, d⟩ := q
  simp only [uuE, List.cons.injEq, and_true] at h
  rw [u64D_inj h.1, u64D_inj h.2]
noncomputable def gcdC := ctD uuE (fun p => p.a < 18446744073709551616 ∧ p.b < 18446744073709551616) (fun p => [u64D (Nat.gcd p.a p.b)])
theorem gcdC_at (a b : Nat) : gcdC [u64D a, u64D b] = ((a < 18446744073709551616 ∧ b < 18446744073709551616), [u64D (Nat.gcd a b)]) := ctD_at uuE_inj ⟨a, b⟩
def gcdS (a b : Nat) : St := ⟨[.dat (.lit (.int .u64 a)), .dat (.lit (.int .u64 b)), .any, .any, .any, .any, .any, .any, .any, .any, .any, .any], [none, none, none, none, none, none, none, none, none, none, none, none]⟩
theorem l1Gcd_spec : SpecD N Try.prog 93 gcdC := by
  refine rdD (mf := fun f => false) tbl_nil (fn := Try.f93) (by kernel_rfl) rfl (by kernel_rfl) ?_
  rintro ⟨a, b⟩ ⟨ha, hb⟩
  have ha : a < 18446744073709551616 := ha
  have hb : b < 18446744073709551616 := hb
  refine ⟨by show 2 ≤ 12; decide, ?_⟩
  simp only [uuE, u64D, Try.f93]
  generalize hg : Nat.gcd a b = g
  simp
  refine loop_go (fun n st => ∃ x y : Nat, x < 18446744073709551616 ∧ y < 18446744073709551616 ∧ Nat.gcd x y = g ∧ n = y ∧ st = gcdS x y) (s0 := gcdS a b) (n := b) (snd_of (by simp [LeT, gcdS]) (by simp [gcdS])) ⟨a, b, ha, hb, hg, rfl, rfl⟩ ?_
  rintro y st ⟨x, _, hx, hy, hxy, rfl, rfl⟩ KN hN
  rcases Nat.eq_zero_or_pos y with h0 | h0
  · subst h0
    rw [Nat.gcd_zero_right] at hxy
    subst hxy
    simp [gcdS]
  · have h1 : ¬ y = 0 := by omega
    obtain ⟨r, hr⟩ : ∃ r, r = x % y := ⟨_, rfl⟩
    have hry : r < y := by rw [hr]; exact Nat.mod_lt _ h0
    have q1 := tmod_nat x y
    rw [← hr] at q1
    have q2 : IntKind.u64.wrap (r : Int) = r := by rw [wrap_u64]; omega
    simp [gcdS, h1, q1, q2]
    refine hN _ (nx (m := r) (s'' := gcdS y r) (snd_of (by simp [LeT, gcdS]) (by simp [gcdS])) ⟨y, r, hy, by omega, ?_, rfl, rfl⟩ hry)
    rw [hr, ← hxy, Nat.gcd_comm y, ← Nat.gcd_rec, Nat.gcd_comm]
theorem l1Gcd_ok : callable Try.prog 93 = true := by kernel_rfl
noncomputable def zGcdC := ctD zzE (fun p => SZ p.a ∧ SZ p.b) (fun p => [eZ (Int.gcd p.a p.b)])
theorem zGcdC_at (a b : Int) : zGcdC [eZ a, eZ b] = ((SZ a ∧ SZ b), [eZ (Int.gcd a b)]) := ctD_at zzE_inj ⟨a, b⟩
def zGcdS (a b : Int) (x y : Nat) : St := ⟨[.any, .any, .any, .any, .obj 4 [] 0, .dat (eM x), .dat (eM y), .any, .any, .any, .any, .any, .any, .any, .any, .any, .any, .any, .any, .any, .any, .any, .any, .any, .any, .any], [none, none, some (.box (eZ a)), some (.box (eZ b)), some (.box (.agg [.lit (.bool false), .lit (.slice none 0 0)])), none, none, none, none, none, none, none, none, none, none, none, none, none, none, none, none, none, none, none, none, none]⟩
theorem Sm_le {a b : Nat} (h : a ≤ b) (hb : Sm b) : Sm a := Nat.lt_of_le_of_lt (mag_len_le h) hb
theorem l1ZGcd_spec : SpecD N Try.prog 96 zGcdC := by
  refine rdD (mf := fun f => false) (tbl_cons (f := 97) (c := .data divC) l1MagDiv_spec l1MagDiv_ok tbl_nil) (fn := Try.f96) (by kernel_rfl) rfl (by kernel_rfl) ?_
  rintro ⟨a, b⟩ ⟨ha, hb⟩
  have ha : Sm a.natAbs := ha
  have hb : Sm b.natAbs := hb
  refine ⟨by show 2 ≤ 26; decide, ?_⟩
  simp only [zzE, Try.f96]
  generalize hg : Int.gcd a b = g
  have hg' : Nat.gcd a.natAbs b.natAbs = g := hg
  simp [eZ, eM, eW]
  refine loop_go (fun n st => ∃ x y : Nat, Sm x ∧ Sm y ∧ Nat.gcd x y = g ∧ n = y ∧ st = zGcdS a b x y) (s0 := zGcdS a b a.natAbs b.natAbs) (n := b.natAbs) (snd_of (by simp [LeT, zGcdS, eZ, eM, eW]) (by simp [zGcdS, eZ, eM, eW])) ⟨_, _, ha, hb, hg', rfl, rfl⟩ ?_
  rintro y st ⟨x, _, hx, hy, hxy, rfl, rfl⟩ KN hN
  rcases Nat.eq_zero_or_pos y with h0 | h0
  · subst h0
    rw [Nat.gcd_zero_right] at hxy
    subst hxy
    have hx0 : ¬ ((x : Nat) : Int) < 0 := by omega
    simp [zGcdS, eZ, eM, eW, mag_zero, hx0]
  · have h1 := mag_len_pos h0
    obtain ⟨r, hr⟩ : ∃ r, r = x % y := ⟨_, rfl⟩
    obtain ⟨q, hq⟩ : ∃ q, q = x / y := ⟨_, rfl⟩
    have hry : r < y := by rw [hr]; exact Nat.mod_lt _ h0
    have c1 := divC_at x y
    rw [← hr, ← hq] at c1
    simp only [hx, hy, h0, and_self, eM, eW] at c1
    simp [zGcdS, eZ, eM, eW, h1, c1]
    refine hN _ (nx (m := r) (s'' := zGcdS a b y r) (snd_of (by simp [LeT, zGcdS, eZ, eM, eW]) (by simp [zGcdS, eZ, eM, eW])) ⟨y, r, hy, Sm_le (Nat.le_of_lt hry) hy, ?_, rfl, rfl⟩ hry)
    rw [hr, ← hxy, Nat.gcd_comm y, ← Nat.gcd_rec, Nat.gcd_comm]
theorem l1ZGcd_ok : callable Try.prog 96 = true := by kernel_rfl
structure ZM where
  a : Int
  m : Nat
def zmE (p : ZM) : List D := [eZ p.a, u64D p.m]
theorem zmE_inj (p q : ZM) (h : zmE p = zmE q) : p = q := by
  obtain ⟨a, b⟩ := p; obtain ⟨c, d⟩ := q
  simp only [zmE, List.cons.injEq, and_true] at h
  rw [eZ_inj h.1, u64D_inj h.2]
noncomputable def zIntC := ctD zmE (fun p => SZ p.a ∧ p.m ≤ 9223372036854775807) (fun p => [i64D (if p.a.natAbs ≤ p.m then p.a else 0), .lit (.bool (decide (p.a.natAbs ≤ p.m)))])
theorem zIntC_at (a : Int) (m : Nat) : zIntC [eZ a, u64D m] = ((SZ a ∧ m ≤ 9223372036854775807), [i64D (if a.natAbs ≤ m then a else 0), .lit (.bool (decide (a.natAbs ≤ m)))]) := ctD_at zmE_inj ⟨a, m⟩
def zIntS (a : Int) (m x n : Nat) : St := ⟨[.any, .dat (.lit (.int .u64 m)), .obj 2 [] 0, .any, .any, .any, .dat (.lit (.int .u64 x)), .dat (.lit (.int .i64 ((n : Int) - 1))), .any, .any, .any, .any, .any, .any, .any, .any, .any, .any, .any, .any, .any, .any, .any, .any, .any, .any, .any, .any, .any, .any, .any, .any, .any, .any, .any, .any, .any, .any, .any], [none, none, some (.box (eZ a)), none, none, none, none, none, none, none, none, none, none, none, none, none, none, none, none, none, none, none, none, none, none, none, none, none, none, none, none, none, none, none, none, none, none, none, none]⟩
theorem l1ZInt_spec : SpecD N Try.prog 95 zIntC := by
  refine rdD (mf := fun f => false) tbl_nil (fn := Try.f95) (by kernel_rfl) rfl (by kernel_rfl) ?_
  rintro ⟨a, m⟩ ⟨ha, hm⟩
  have ha : Sm a.natAbs := ha
  have hm : m ≤ 9223372036854775807 := hm
  refine ⟨by show 2 ≤ 39; decide, ?_⟩
  simp only [zmE, u64D, i64D, Try.f95]
  by_cases hl : 2 < (mag a.natAbs).length
  · have h1 : ¬ a.natAbs ≤ m := by
      intro h2
      have h3 : a.natAbs < B ^ 2 := by simp only [B]; omega
      have := mag_lt.2 h3
      omega
    have hl' : (2 : Int) < (mag a.natAbs).length := by omega
    simp [eZ, eM, eW, h1, hl']
  · have hl' : ¬ (2 : Int) < (mag a.natAbs).length := by omega
    have r1 : IntKind.i64.wrap (((mag a.natAbs).length : Int) - 1) = (mag a.natAbs).length - 1 := by rw [wrap_i64]; omega
    simp [eZ, eM, eW, hl', r1]
    refine loop_go (fun n st => n ≤ (mag a.natAbs).length ∧ st = zIntS a m (val ((mag a.natAbs).drop n)) n) (s0 := zIntS a m 0 (mag a.natAbs).length) (n := (mag a.natAbs).length) (snd_of (by simp [LeT, zIntS, eZ, eM, eW]) (by simp [zIntS, eZ, eM, eW])) ⟨Nat.le_refl _, by rw [List.drop_eq_nil_of_le (Nat.le_refl _)]; rfl⟩ ?_
    rintro n st ⟨hn, rfl⟩ KN hN
    cases n with
    | zero =>
      rw [List.drop_zero, val_mag]
      have hB : a.natAbs < 18446744073709551616 := by
        have := mag_lt.1 (by omega : (mag a.natAbs).length ≤ 2)
        simp only [B] at this; omega
      obtain ⟨v, hv⟩ : ∃ v, v = a.natAbs := ⟨_, rfl⟩
      by_cases hle : v ≤ m
      · have q1 : ¬ (m : Int) < v := by omega
        have q2 : IntKind.i64.wrap (v : Int) = v := by rw [wrap_i64]; omega
        by_cases hneg : a < 0
        · have q3 : IntKind.i64.wrap (-(v : Int)) = a := by rw [wrap_i64]; omega
          rw [← hv]
          simp [zIntS, eZ, eM, eW, ← hv, hle, hneg, q1, q2, q3]
        · have q3 : (v : Int) = a := by omega
          rw [← hv]
          simp only [q3] at q1 q2
          simp [zIntS, eZ, eM, eW, ← hv, hle, hneg, q1, q2, q3]
      · have q1 : (m : Int) < v := by omega
        rw [← hv]
        simp [zIntS, eZ, eM, eW, ← hv, hle, q1]
    | succ k =>
      obtain ⟨d, hd⟩ : ∃ d, d = (mag a.natAbs).getD k 0 := ⟨_, rfl⟩
      have hdB : d < 4294967296 := by rw [hd]; exact getD_lt (mag_digs _) _
      have hk : k < (mag a.natAbs).length := by omega
      have e1 := ix_dg _ _ hk
      rw [← hd] at e1
      obtain ⟨x, hx⟩ : ∃ x, x = val ((mag a.natAbs).drop (k + 1)) := ⟨_, rfl⟩
      have hxB : x < 4294967296 := by
        have h1 := val_lt ((mag_digs a.natAbs).drop (k + 1))
        rw [← hx] at h1
        have h2 : ((mag a.natAbs).drop (k + 1)).length ≤ 1 := by rw [List.length_drop]; omega
        have h3 : B ^ ((mag a.natAbs).drop (k + 1)).length ≤ B ^ 1 := Nat.pow_le_pow_right B_pos h2
        simp only [Nat.pow_one] at h3
        exact Nat.lt_of_lt_of_le h1 h3
      have hnx := drop_val hk
      rw [← hd, ← hx] at hnx
      obtain ⟨x2, hx2⟩ : ∃ x2, x2 = val ((mag a.natAbs).drop k) := ⟨_, rfl⟩
      rw [← hx2] at hnx
      have q2 : IntKind.u64.wrap (d : Int) = d := by rw [wrap_u64]; omega
      have q3 : IntKind.u64.wrap ((x : Int) * 4294967296) = (x : Int) * 4294967296 := by rw [wrap_u64]; omega
      have q4 : bOr .u64 ((x : Int) * 4294967296) d = x2 := by
        have := bOr64 (x * 4294967296) d (by omega) (by omega)
        rw [or_cut x d hdB] at this
        have h2 : x * 4294967296 + d = x2 := by rw [hnx]; simp only [B]; omega
        rw [h2] at this
        rw [← this]; congr 1
      have q5 : IntKind.i64.wrap ((k : Int) - 1) = (k : Int) - 1 := by rw [wrap_i64]; omega
      rw [← hx]
      simp [zIntS, eZ, eM, eW, hk, e1, dg, q2, q3, q4, q5]
      exact hN _ (nx (m := k) (s'' := zIntS a m x2 k) (snd_of (by simp [LeT, zIntS, eZ, eM, eW]) (by simp [zIntS, eZ, eM, eW])) ⟨by omega, by rw [hx2]⟩ (by omega))
theorem l1ZInt_ok : callable Try.prog 95 = true := by kernel_rfl
end Go.Proofs.Ytpggfnggffedlaa.Ae

namespace Go.Proofs.Ytpggfnggffedlaa.Ae
open Go Go.RowKit Go.Proofs.Ytpggfnggffedlaa.Dig
variable {N : NR}
inductive SR where
  | small (n d : Int)
  | lit (n d : Int)
  | big (p q : Int)
def SR.num : SR → Int
  | small n _ => n
  | lit n _ => n
  | big p _ => p
def SR.den : SR → Int
  | small _ d => d
  | lit _ d => d
  | big _ q => q
def eR : SR → D
  | .small n d => .agg [i64D n, i64D d, .sl 2 []]
  | .lit n d => .agg [i64D n, i64D d, .lit (.slice none 0 0)]
  | .big p q => .agg [i64D 0, i64D 0, .sl 2 [eZ p, eZ q]]
theorem eR_inj : ∀ {a b : SR}, eR a = eR b → a = b
  | .small n d, .small n' d', h => by
    simp only [eR, D.agg.injEq, List.cons.injEq, and_true] at h
    rw [i64D_inj h.1, i64D_inj h.2]
  | .lit n d, .lit n' d', h => by
    simp only [eR, D.agg.injEq, List.cons.injEq, and_true] at h
    rw [i64D_inj h.1, i64D_inj h.2]
  | .big p q, .big p' q', h => by
    simp only [eR, D.agg.injEq, List.cons.injEq, and_true, true_and, D.sl.injEq] at h
    rw [eZ_inj h.1, eZ_inj h.2]
  | .small .., .lit .., h => by simp [eR] at h
  | .small .., .big .., h => by simp [eR] at h
  | .lit .., .small .., h => by simp [eR] at h
  | .lit .., .big .., h => by simp [eR] at h
  | .big .., .small .., h => by simp [eR] at h
  | .big .., .lit .., h => by simp [eR] at h
def WR : SR → Prop
  | .small n d => n.natAbs < 2147483648 ∧ 0 < d ∧ d < 2147483648
  | .lit n d => n.natAbs < 2147483648 ∧ 0 < d ∧ d < 2147483648
  | .big p q => SZ p ∧ SZ q ∧ 0 < q
def packR (p q : Int) : SR := if p.natAbs ≤ 2147483647 ∧ q.natAbs ≤ 2147483647 then .small p q else .big p q
theorem Sm_small {n : Nat} (h : n < 18446744073709551616) : Sm n := by
  have h1 : n < B ^ 2 := by simp only [B]; omega
  have := mag_lt.2 h1
  unfold Sm; omega
@[simp] theorem sub_r0 (n d : Int) : Sub (.agg [.lit (.int .i64 n), .lit (.int .i64 d), .lit (.slice none 0 0)]) (.agg [.lit (.int .i64 n), .lit (.int .i64 d), .sl 2 []]) = True := by
  simp only [eq_iff_iff, iff_true]; exact Sub.agg3 (Sub.refl _) (Sub.refl _) (Sub.nil 2)
@[simp] theorem eR_size (r : SR) : (eR r).size = 3 := by cases r <;> rfl
@[simp] theorem eR_isAgg (r : SR) : (eR r).isAgg = true := by cases r <;> rfl
noncomputable def packC := ctD zzE (fun p => SZ p.a ∧ SZ p.b) (fun p => [eR (packR p.a p.b)])
theorem packC_at (a b : Int) : packC [eZ a, eZ b] = ((SZ a ∧ SZ b), [eR (packR a b)]) := ctD_at zzE_inj ⟨a, b⟩
theorem l1rPack_spec : SpecD N Try.prog 98 packC := by
  refine rdD (mf := fun f => f == bld 113) (tbl_cons (f := 95) (c := .data zIntC) l1ZInt_spec l1ZInt_ok tbl_nil) (fn := Try.f98) (by kernel_rfl) rfl (by kernel_rfl) ?_
  rintro ⟨a, b⟩ ⟨ha, hb⟩
  have ha : SZ a := ha
  have hb : SZ b := hb
  refine ⟨by show 2 ≤ 30; decide, ?_⟩
  simp only [zzE, Try.f98]
  have c1 := zIntC_at a 2147483647
  have c2 := zIntC_at b 2147483647
  simp only [ha, hb, u64D, i64D] at c1 c2
  unfold packR
  by_cases h1 : a.natAbs ≤ 2147483647 <;> by_cases h2 : b.natAbs ≤ 2147483647 <;> simp [h1, h2] at c1 c2 <;> simp [c1, c2, h1, h2, eR, i64D]
theorem l1rPack_ok : callable Try.prog 98 = true := by kernel_rfl
theorem eZ_div {n : Int} {g : Nat} (hg : 0 < g) (h : (g : Int) ∣ n) : eZ (n / (g : Int)) = .agg [.lit (.bool (decide (n < 0))), eM (n.natAbs / g)] := by
  obtain ⟨k, rfl⟩ := h
  have h1 : (g : Int) * k / (g : Int) = k := Int.mul_ediv_cancel_left k (by omega)
  have h2 : ((g : Int) * k).natAbs / g = k.natAbs := by rw [Int.natAbs_mul, Int.natAbs_natCast, Nat.mul_div_cancel_left _ hg]
  have h3 : ((g : Int) * k < 0) ↔ (k < 0) := by
    constructor
    · intro h
      rcases Int.lt_trichotomy k 0 with h4 | h4 | h4
      · exact h4
      · rw [h4, Int.mul_zero] at h; omega
      · have := Int.mul_pos (by omega : (0 : Int) < g) h4; omega
    · intro h; exact Int.mul_neg_of_pos_of_neg (by omega) h
  rw [h1, h2]
  unfold eZ
  simp only [h3]
def iiE (p : Z2) : List D := [i64D p.a, i64D p.b]
theorem iiE_inj (p q : Z2) (h : iiE p = iiE q) : p = q := by
  obtain ⟨a, b⟩ := p; obtain ⟨c, d⟩ := q
  simp only [iiE, List.cons.injEq, and_true] at h
  rw [i64D_inj h.1, i64D_inj h.2]
end Go.Proofs.Ytpggfnggffedlaa.Ae

namespace Go.Proofs.Ytpggfnggffedlaa.Ae
open Go Go.RowKit Go.Proofs.Ytpggfnggffedlaa.Dig
variable {N : NR}
structure R1 where
  a : SR
def rE (p : R1) : List D := [eR p.a]
theorem rE_inj (p q : R1) (h : rE p = rE q) : p = q := by
  obtain ⟨a⟩ := p; obtain ⟨c⟩ := q
  simp only [rE, List.cons.injEq, and_true] at h
  rw [eR_inj h]
noncomputable def rzC := ctD rE (fun p => WR p.a) (fun p => [eZ p.a.num, eZ p.a.den])
theorem rzC_at (a : SR) : rzC [eR a] = (WR a, [eZ a.num, eZ a.den]) := ctD_at rE_inj ⟨a⟩
def bigR (n d : Int) : SR := if n = 0 then .small 0 1 else if d < 0 then packR (-n / (Int.gcd n d : Int)) (-d / (Int.gcd n d : Int)) else packR (n / (Int.gcd n d : Int)) (d / (Int.gcd n d : Int))
noncomputable def bigC := ctD zzE (fun p => SZ p.a ∧ SZ p.b ∧ p.b ≠ 0) (fun p => [eR (bigR p.a p.b)])
theorem bigC_at (a b : Int) : bigC [eZ a, eZ b] = ((SZ a ∧ SZ b ∧ b ≠ 0), [eR (bigR a b)]) := ctD_at zzE_inj ⟨a, b⟩
noncomputable def bigTb : List (FuncId × Ct) := [(60, .data zNegC), (96, .data zGcdC), (97, .data divC), (98, .data packC)]
theorem bigTb_ok : TbOK N Try.prog (tbl bigTb) := tbl_cons (c := .data zNegC) l1ZNeg_spec l1ZNeg_ok (tbl_cons (c := .data zGcdC) l1ZGcd_spec l1ZGcd_ok (tbl_cons (c := .data divC) l1MagDiv_spec l1MagDiv_ok (tbl_cons (c := .data packC) l1rPack_spec l1rPack_ok tbl_nil)))
@[simp] theorem bigTb1 : tbl bigTb 60 = some (.data zNegC) := rfl
@[simp] theorem bigTb2 : tbl bigTb 96 = some (.data zGcdC) := rfl
@[simp] theorem bigTb3 : tbl bigTb 97 = some (.data divC) := rfl
@[simp] theorem bigTb4 : tbl bigTb 98 = some (.data packC) := rfl
theorem natAbs_div {n : Int} {g : Nat} (hg : 0 < g) (h : (g : Int) ∣ n) : (n / (g : Int)).natAbs = n.natAbs / g := by
  have := eZ_div hg h
  simp only [eZ, D.agg.injEq, List.cons.injEq, and_true] at this
  exact eM_inj this.2
theorem SZ_le {a b : Int} (h : a.natAbs ≤ b.natAbs) (hb : SZ b) : SZ a := Sm_le h hb
theorem l1rBig_spec : SpecD N Try.prog 62 bigC := by
  refine rdD (mf := fun f => false) bigTb_ok (fn := Try.f62) (by kernel_rfl) rfl (by kernel_rfl) ?_
  rintro ⟨n, d⟩ ⟨hn, hd, hd0⟩
  have hn : SZ n := hn
  have hd : SZ d := hd
  have hd0 : d ≠ 0 := hd0
  refine ⟨by show 2 ≤ 47; decide, ?_⟩
  simp only [zzE, Try.f62]
  by_cases hn0 : n = 0
  · have e : bigR n d = .small 0 1 := by unfold bigR; rw [if_pos hn0]
    rw [e]
    subst hn0
    simp [eZ, eM, eW, mag_zero, eR, i64D]
  · have hlen := mag_len_pos (n := n.natAbs) (by omega)
    have hne : mag n.natAbs ≠ [] := fun h => by rw [h] at hlen; simp at hlen
    -- the part behind the signs
    have key : ∀ n' d' : Int, SZ n' → SZ d' → n' ≠ 0 → 0 < d' → ∃ (g p q : Nat), 0 < g ∧ zGcdC [eZ n', eZ d'] = (True, [.agg [.lit (.bool false), .sl 1 ((mag g).map dg)]]) ∧ divC [.sl 1 ((mag n'.natAbs).map dg), .sl 1 ((mag g).map dg)] = (True, [.sl 1 ((mag p).map dg), eM (n'.natAbs % g)]) ∧
        divC [.sl 1 ((mag d'.natAbs).map dg), .sl 1 ((mag g).map dg)] = (True, [.sl 1 ((mag q).map dg), eM (d'.natAbs % g)]) ∧ packC [.agg [.lit (.bool (decide (n' < 0))), .sl 1 ((mag p).map dg)], .agg [.lit (.bool false), .sl 1 ((mag q).map dg)]] = (True, [eR (packR (n' / (Int.gcd n' d' : Int)) (d' / (Int.gcd n' d' : Int)))]) := by
      intro n' d' h1 h2 h3 h4
      obtain ⟨g, hg⟩ : ∃ g, g = Int.gcd n' d' := ⟨_, rfl⟩
      have hg0 : 0 < g := by rw [hg]; exact Int.gcd_pos_of_ne_zero_right _ (by omega)
      have hg1 : (g : Int) ∣ n' := by rw [hg]; exact Int.gcd_dvd_left ..
      have hg2 : (g : Int) ∣ d' := by rw [hg]; exact Int.gcd_dvd_right ..
      have hgd : g ≤ d'.natAbs := Nat.le_of_dvd (by omega) (by have := Int.natAbs_dvd_natAbs.2 hg2; simpa using this)
      have c1 := zGcdC_at n' d'
      have c2 := divC_at n'.natAbs g
      have c3 := divC_at d'.natAbs g
      have c4 := packC_at (n' / (g : Int)) (d' / (g : Int))
      have hsg : Sm g := Sm_le hgd h2
      have hs1 : SZ (n' / (g : Int)) := SZ_le (by rw [natAbs_div hg0 hg1]; exact Nat.div_le_self _ _) h1
      have hs2 : SZ (d' / (g : Int)) := SZ_le (by rw [natAbs_div hg0 hg2]; exact Nat.div_le_self _ _) h2
      rw [eZ_div hg0 hg1, eZ_div hg0 hg2] at c4
      have hdn : ¬ d' < 0 := by omega
      have hgn : ¬ ((g : Nat) : Int) < 0 := by omega
      rw [← hg] at c1
      have h1' : Sm n'.natAbs := h1
      have h2' : Sm d'.natAbs := h2
      refine ⟨g, n'.natAbs / g, d'.natAbs / g, hg0, ?_, ?_, ?_, ?_⟩
      · rw [c1]; simp only [h1, h2, and_self, eZ, hgn, decide_false, Int.natAbs_natCast, eM, eW]
      · simp only [eM, eW] at c2 ⊢; rw [c2]; simp only [h1', hsg, hg0, and_self]
      · simp only [eM, eW] at c3 ⊢; rw [c3]; simp only [h2', hsg, hg0, and_self]
      · rw [← hg]; simp only [eM, eW, hdn, decide_false] at c4; rw [c4]; simp only [hs1, hs2, and_self]
    by_cases hdn : d < 0
    · have e : bigR n d = packR (-n / (Int.gcd (-n) (-d) : Int)) (-d / (Int.gcd (-n) (-d) : Int)) := by unfold bigR; rw [if_neg hn0, if_pos hdn, Int.neg_gcd, Int.gcd_neg]
      rw [e]
      have c1 := zNegC_at n
      have c2 := zNegC_at d
      simp only [hn, hd] at c1 c2
      obtain ⟨g, p, q, hg0, k1, k2, k3, k4⟩ := key (-n) (-d) (SZ_neg.2 hn) (SZ_neg.2 hd) (by omega) (by omega)
      have c1' : zNegC [eZ n] = (True, [eZ (-n)]) := c1
      have hdn' : ¬ -d < 0 := by omega
      generalize packR _ _ = res at *
      have e3 : decide (-n < 0) = decide (0 < n) := by simp
      simp only [eZ, eM, eW, hdn', decide_false, hdn, decide_true, e3, Int.natAbs_neg] at c1 c2 k1 k2 k3 k4 ⊢
      simp [hne, c1, c2, k1, k2, k3, k4]
    · have e : bigR n d = packR (n / (Int.gcd n d : Int)) (d / (Int.gcd n d : Int)) := by unfold bigR; rw [if_neg hn0, if_neg hdn]
      rw [e]
      obtain ⟨g, p, q, hg0, k1, k2, k3, k4⟩ := key n d hn hd hn0 (by omega)
      generalize packR _ _ = res at *
      simp only [eZ, eM, eW, hdn, decide_false] at k1 ⊢
      simp [hne, k1, k2, k3, k4]
theorem l1rBig_ok : callable Try.prog 62 = true := by kernel_rfl
end Go.Proofs.Ytpggfnggffedlaa.Ae

namespace Go.Proofs.Ytpggfnggffedlaa.Ae
open Go Go.RowKit Go.Proofs.Ytpggfnggffedlaa.Dig
variable {N : NR}
theorem l1rZ_spec : SpecD N Try.prog 94 rzC := by
  refine rdD (mf := fun f => f == cel 2 || f == cel 3) (tbl_cons (f := 57) (c := .data zOfC) l1ZOf_spec l1ZOf_ok tbl_nil) (fn := Try.f94) (by kernel_rfl) rfl (by kernel_rfl) ?_
  rintro ⟨a⟩ ha
  have ha : WR a := ha
  refine ⟨by show 1 ≤ 22; decide, ?_⟩
  simp only [rE, Try.f94]
  cases a with
  | small n d =>
    obtain ⟨h1, h2, h3⟩ := ha
    have c1 := zOfC_at n
    have c2 := zOfC_at d
    have i1 : I64 n := by unfold I64; omega
    have i2 : I64 d := by unfold I64; omega
    simp only [i1, i2, i64D] at c1 c2
    simp [eR, i64D, SR.num, SR.den, c1, c2]
  | lit n d =>
    obtain ⟨h1, h2, h3⟩ := ha
    have c1 := zOfC_at n
    have c2 := zOfC_at d
    have i1 : I64 n := by unfold I64; omega
    have i2 : I64 d := by unfold I64; omega
    simp only [i1, i2, i64D] at c1 c2
    simp [eR, i64D, SR.num, SR.den, c1, c2]
  | big p q =>
    have e0 : ix [eZ p, eZ q] 0 = some (eZ p) := rfl
    have e1 : ix [eZ p, eZ q] 1 = some (eZ q) := rfl
    simp [eR, i64D, SR.num, SR.den, e0, e1]
theorem l1rZ_ok : callable Try.prog 94 = true := by kernel_rfl
end Go.Proofs.Ytpggfnggffedlaa.Ae

namespace Go.Proofs.Ytpggfnggffedlaa.Ae
open Go Go.RowKit Go.Proofs.Ytpggfnggffedlaa.Dig
variable {N : NR}
theorem eR_small (n d : Int) : eR (.small n d) = .agg [i64D n, i64D d, .sl 2 []] := rfl
theorem eR_lit (n d : Int) : eR (.lit n d) = .agg [i64D n, i64D d, .lit (.slice none 0 0)] := rfl
theorem eR_big (p q : Int) : eR (.big p q) = .agg [i64D 0, i64D 0, .sl 2 [eZ p, eZ q]] := rfl
end Go.Proofs.Ytpggfnggffedlaa.Ae

namespace Go.Proofs.Ytpggfnggffedlaa.Ae
open Go Go.RowKit Go.Proofs.Ytpggfnggffedlaa.Dig
variable {N : NR}
end Go.Proofs.Ytpggfnggffedlaa.Ae

namespace Go.Proofs.Ytpggfnggffedlaa.Ae
open Go Go.RowKit Go.Proofs.Ytpggfnggffedlaa.Dig
variable {N : NR}
def eQ (n d : Int) : D := .agg [i64D n, i64D d]
end Go.Proofs.Ytpggfnggffedlaa.Ae

namespace Go.Proofs.Ytpggfnggffedlaa.Ae
open Go Go.RowKit Go.Proofs.Ytpggfnggffedlaa.Dig
variable {N : NR}
def qOfR (r : SR) : Int × Int × Bool := match r with
  | .big p q => if p.natAbs ≤ 1000000000000000000 ∧ q.natAbs ≤ 1000000000000000000 then (p, q, true) else (0, 0, false)
  | r => (r.num / (Int.gcd r.num r.den : Int), r.den / (Int.gcd r.num r.den : Int), true)
noncomputable def rQC := ctD rE (fun p => WR p.a) (fun p => [eQ (qOfR p.a).1 (qOfR p.a).2.1, .lit (.bool (qOfR p.a).2.2)])
theorem rQC_at (a : SR) : rQC [eR a] = (WR a, [eQ (qOfR a).1 (qOfR a).2.1, .lit (.bool (qOfR a).2.2)]) := ctD_at rE_inj ⟨a⟩
noncomputable def rQTb : List (FuncId × Ct) := [(88, .data absC), (93, .data gcdC), (94, .data rzC), (95, .data zIntC)]
theorem rQTb_ok : TbOK N Try.prog (tbl rQTb) := tbl_cons (c := .data absC) l1Abs_spec l1Abs_ok (tbl_cons (c := .data gcdC) l1Gcd_spec l1Gcd_ok (tbl_cons (c := .data rzC) l1rZ_spec l1rZ_ok (tbl_cons (c := .data zIntC) l1ZInt_spec l1ZInt_ok tbl_nil)))
@[simp] theorem rQTb1 : tbl rQTb 88 = some (.data absC) := rfl
@[simp] theorem rQTb2 : tbl rQTb 93 = some (.data gcdC) := rfl
@[simp] theorem rQTb3 : tbl rQTb 94 = some (.data rzC) := rfl
@[simp] theorem rQTb4 : tbl rQTb 95 = some (.data zIntC) := rfl
theorem tdiv_dvd {n : Int} {g : Nat} (hg : 0 < g) (h : (g : Int) ∣ n) : Int.tdiv n g = n / g := by
  obtain ⟨k, rfl⟩ := h
  rw [Int.mul_tdiv_cancel_left _ (by omega), Int.mul_ediv_cancel_left _ (by omega)]
theorem l1rQ_spec : SpecD N Try.prog 61 rQC := by
  refine rdD (mf := fun f => false) rQTb_ok (fn := Try.f61) (by kernel_rfl) rfl (by kernel_rfl) ?_
  rintro ⟨a⟩ ha
  have ha : WR a := ha
  refine ⟨by show 1 ≤ 58; decide, ?_⟩
  simp only [rE, Try.f61]
  have c1 := rzC_at a
  simp only [ha] at c1
  rcases a with ⟨n, d⟩ | ⟨n, d⟩ | ⟨n, d⟩
  case small | lit =>
    obtain ⟨x1, x2, x3⟩ := ha
    have i1 : I64 n := by unfold I64; omega
    obtain ⟨g, hg⟩ : ∃ g, g = Int.gcd n d := ⟨_, rfl⟩
    have hg0 : 0 < g := by rw [hg]; exact Int.gcd_pos_of_ne_zero_right _ (by omega)
    have hg1 : (g : Int) ∣ n := by rw [hg]; exact Int.gcd_dvd_left ..
    have hg2 : (g : Int) ∣ d := by rw [hg]; exact Int.gcd_dvd_right ..
    have hgd : (g : Int) ≤ d := Int.le_of_dvd x2 hg2
    have hgn : Nat.gcd n.natAbs d.natAbs = g := hg.symm
    have c2 := absC_at n
    have c3 := gcdC_at n.natAbs d.natAbs
    rw [hgn] at c3
    have hn1 : n.natAbs < 18446744073709551616 := by omega
    have hd1 : d.natAbs < 18446744073709551616 := by omega
    simp only [i1, hn1, hd1, and_self, u64D, i64D] at c2 c3
    have w1 : IntKind.u64.wrap d = (d.natAbs : Int) := by rw [wrap_u64]; omega
    have w2 : IntKind.i64.wrap (g : Int) = g := i64_id _ (by omega) (by omega)
    have t1 := tdiv_dvd hg0 hg1
    have t2 := tdiv_dvd hg0 hg2
    have b1 : (n / (g : Int)).natAbs ≤ n.natAbs := by rw [natAbs_div hg0 hg1]; exact Nat.div_le_self _ _
    have b2 : (d / (g : Int)).natAbs ≤ d.natAbs := by rw [natAbs_div hg0 hg2]; exact Nat.div_le_self _ _
    have w3 : IntKind.i64.wrap (n / (g : Int)) = n / (g : Int) := i64_id _ (by omega) (by omega)
    have w4 : IntKind.i64.wrap (d / (g : Int)) = d / (g : Int) := i64_id _ (by omega) (by omega)
    have hgz : ¬ g = 0 := by omega
    simp only [qOfR, SR.num, SR.den, ← hg]
    generalize n / (g : Int) = ng at *
    generalize d / (g : Int) = dg' at *
    generalize n.natAbs = na at *
    generalize d.natAbs = da at *
    simp [eR_small, eR_lit, eQ, i64D, c2, c3, w1, w2, w3, w4, t1, t2, hgz]
  case big =>
    obtain ⟨x1, x2, x3⟩ := ha
    simp only [SR.num, SR.den, eR_big, i64D] at c1
    have c2 := zIntC_at n 1000000000000000000
    have c3 := zIntC_at d 1000000000000000000
    simp only [x1, x2, u64D, i64D] at c2 c3
    by_cases h1 : n.natAbs ≤ 1000000000000000000 <;> by_cases h2 : d.natAbs ≤ 1000000000000000000 <;> simp [h1, h2] at c2 c3 <;> simp [qOfR, eR_big, eQ, i64D, c1, c2, c3, h1, h2]
theorem l1rQ_ok : callable Try.prog 61 = true := by kernel_rfl
end Go.Proofs.Ytpggfnggffedlaa.Ae

namespace Go.Proofs.Ytpggfnggffedlaa.Ae
open Go Go.RowKit Go.Proofs.Ytpggfnggffedlaa.Dig
variable {N : NR}
inductive BC where
  | z (v : Int)
  | new
def eB : BC → D
  | .z v => eZ v
  | .new => .agg [.lit (.bool false), .lit (.slice none 0 0)]
theorem eB_inj : ∀ {a b : BC}, eB a = eB b → a = b
  | .z v, .z w, h => by rw [eZ_inj h]
  | .z v, .new, h => by simp [eB, eZ, eM, eW] at h
  | .new, .z w, h => by simp [eB, eZ, eM, eW] at h
  | .new, .new, _ => rfl
structure PutA where
  neg : Bool
  m : Nat
  c : BC
def putE (p : PutA) : List Ar × List D := ([.ref 0, .dat (.lit (.bool p.neg)), .dat (eM p.m)], [eB p.c])
theorem putE_inj (p q : PutA) (h : putE p = putE q) : p = q := by
  obtain ⟨a, b, c⟩ := p; obtain ⟨a', b', c'⟩ := q
  simp only [putE, Prod.mk.injEq, List.cons.injEq, and_true, true_and, Ar.dat.injEq, D.lit.injEq, Value.bool.injEq] at h
  rw [h.1.1, eM_inj h.1.2, eB_inj h.2]
def sg (neg : Bool) (m : Nat) : Int := if neg = true then -(m : Int) else m
noncomputable def putC := ctM putE (fun _ => True) (fun p => ([.ref 0], [eZ (sg p.neg p.m)]))
theorem put_spec : SpecM N Try.prog 131 putC := by
  refine rdM (mf := fun f => false) tbl_nil (fn := Try.f131) (by kernel_rfl) rfl (by kernel_rfl) ?_
  rintro ⟨neg, m, c⟩ _
  refine ⟨by show 3 ≤ 21; decide, rfl, ?_⟩
  simp only [putE, Try.f131]
  rcases Nat.eq_zero_or_pos m with h0 | h0
  · subst h0
    have e : sg neg 0 = 0 := by unfold sg; split <;> rfl
    rw [e]
    cases c <;> cases neg <;> simp [eB, eZ, eM, eW, mag_zero]
  · have h1 := mag_len_pos h0
    have h2 : ¬ ((m : Nat) : Int) < 0 := by omega
    cases c <;> cases neg <;> simp [eB, eZ, eM, eW, sg, h0, h1, h2]
theorem put_ok : callable Try.prog 131 = true := by kernel_rfl
theorem putC_at (neg : Bool) (m : Nat) (c : BC) : putC [.ref 0, .dat (.lit (.bool neg)), .dat (eM m)] [eB c] = (True, [.ref 0], [eZ (sg neg m)]) := ctM_at putE_inj ⟨neg, m, c⟩
theorem putC_z (neg : Bool) (m : Nat) (v : Int) : putC [.ref 0, .dat (.lit (.bool neg)), .dat (.sl 1 ((mag m).map dg))] [.agg [.lit (.bool (decide (v < 0))), .sl 1 ((mag v.natAbs).map dg)]] = (True, [.ref 0], [eZ (sg neg m)]) := putC_at neg m (.z v)
theorem putC_n (neg : Bool) (m : Nat) : putC [.ref 0, .dat (.lit (.bool neg)), .dat (.sl 1 ((mag m).map dg))] [.agg [.lit (.bool false), .lit (.slice none 0 0)]] = (True, [.ref 0], [eZ (sg neg m)]) := putC_at neg m .new
def ptM : List Bool := [true, false, false]
structure SetA where
  n : Int
  c : BC
def setE (p : SetA) : List Ar × List D := ([.ref 0, .dat (i64D p.n)], [eB p.c])
theorem setE_inj (p q : SetA) (h : setE p = setE q) : p = q := by
  obtain ⟨a, b⟩ := p; obtain ⟨a', b'⟩ := q
  simp only [setE, Prod.mk.injEq, List.cons.injEq, and_true, true_and, Ar.dat.injEq] at h
  rw [i64D_inj h.1, eB_inj h.2]
noncomputable def setC := ctM setE (fun p => I64 p.n) (fun p => ([.ref 0], [eZ p.n]))
theorem setC_at (n : Int) (c : BC) : setC [.ref 0, .dat (i64D n)] [eB c] = (I64 n, [.ref 0], [eZ n]) := ctM_at setE_inj ⟨n, c⟩
end Go.Proofs.Ytpggfnggffedlaa.Ae

namespace Go.Proofs.Ytpggfnggffedlaa.Ae
open Go Go.RowKit Go.Proofs.Ytpggfnggffedlaa.Dig
variable {N : NR}
noncomputable def pTb : List (FuncId × Ct) := [(143, .data trimC), (131, .mut ptM putC)]
theorem pTb_ok : TbOK N Try.prog (tbl pTb) := tbl_cons (c := .data trimC) trimmed_spec trimmed_ok (tbl_cons (c := .mut ptM putC) put_spec put_ok tbl_nil)
@[simp] theorem pTb1 : tbl pTb 143 = some (.data trimC) := rfl
@[simp] theorem pTb2 : tbl pTb 131 = some (.mut ptM putC) := rfl
def pMf : FuncId → Bool := fun f => f == 143 || f == 131
attribute [simp] pMf ptM
theorem SetInt64_spec : SpecM N Try.prog 139 setC := by
  refine rdM (mf := pMf) pTb_ok (fn := Try.f139) (by kernel_rfl) rfl (by kernel_rfl) ?_
  rintro ⟨n, c⟩ hn
  have hn : I64 n := hn
  refine ⟨by show 2 ≤ 23; decide, rfl, ?_⟩
  simp only [setE, i64D, Try.f139]
  unfold I64 at hn
  obtain ⟨m, hm⟩ : ∃ m, m = n.natAbs := ⟨_, rfl⟩
  obtain ⟨l, hl⟩ : ∃ l, l = m % 4294967296 := ⟨_, rfl⟩
  obtain ⟨h, hh⟩ : ∃ h, h = m / 4294967296 := ⟨_, rfl⟩
  have r1 : IntKind.u32.wrap (m : Int) = l := by rw [wrap_u32]; omega
  have r2 : IntKind.u32.wrap ((m : Int) / 4294967296) = h := by rw [wrap_u32]; omega
  have hd : Digs [l, h] := (Digs.nil.cons (by simp only [B]; omega)).cons (by simp only [B]; omega)
  have t1 := trimC_at' [l, h] hd
  have hv : val [l, h] = m := by rw [hl, hh]; exact two_digits m
  rw [hv] at t1
  simp [dg] at t1
  by_cases h0 : n < 0
  · have w1 : IntKind.u64.wrap (-IntKind.u64.wrap n) = m := by rw [wrap_u64, wrap_u64]; omega
    have e : sg true m = n := by unfold sg; rw [if_pos rfl]; omega
    have p1 := fun v => putC_z true m v
    have p2 := putC_n true m
    rw [e] at p1 p2

    cases c <;> simp [eB, eZ, eM, eW, dg, h0, w1, r1, r2, t1, p1, p2]
  · have w1 : IntKind.u64.wrap n = m := by rw [wrap_u64]; omega
    have e : sg false m = n := by unfold sg; rw [if_neg (by simp)]; omega
    have p1 := fun v => putC_z false m v
    have p2 := putC_n false m
    rw [e] at p1 p2
    cases c <;> simp [eB, eZ, eM, eW, dg, h0, w1, r1, r2, t1, p1, p2]
theorem SetInt64_ok : callable Try.prog 139 = true := by kernel_rfl
theorem setC_n (n : Int) : setC [.ref 0, .dat (.lit (.int .i64 n))] [.agg [.lit (.bool false), .lit (.slice none 0 0)]] = (I64 n, [.ref 0], [eZ n]) := setC_at n .new
noncomputable def newC := ctD z1E (fun p => I64 p.a) (fun p => [.ptr (eZ p.a)])
theorem newC_at (a : Int) : newC [i64D a] = (I64 a, [.ptr (eZ a)]) := ctD_at z1E_inj ⟨a⟩
theorem newBigInt_spec : SpecD N Try.prog 113 newC := by
  refine rdD (mf := fun f => f == 139) (tbl_cons (f := 139) (c := .mut [true, false] setC) SetInt64_spec SetInt64_ok tbl_nil) (fn := Try.f113) (by kernel_rfl) rfl (by kernel_rfl) ?_
  rintro ⟨n⟩ hn
  have hn : I64 n := hn
  refine ⟨by show 1 ≤ 6; decide, ?_⟩
  simp only [z1E, i64D, Try.f113]
  have c1 := setC_n n
  simp only [hn] at c1
  simp [c1]
theorem newBigInt_ok : callable Try.prog 113 = true := by kernel_rfl
structure UnA where
  x : Int
  c : BC
def unE (p : UnA) : List Ar × List D := ([.ref 0, .dat (.ptr (eZ p.x))], [eB p.c])
theorem unE_inj (p q : UnA) (h : unE p = unE q) : p = q := by
  obtain ⟨a, b⟩ := p; obtain ⟨a', b'⟩ := q
  simp only [unE, Prod.mk.injEq, List.cons.injEq, and_true, true_and, Ar.dat.injEq, D.ptr.injEq] at h
  rw [eZ_inj h.1, eB_inj h.2]
noncomputable def copyC := ctM unE (fun p => SZ p.x) (fun p => ([.ref 0], [eZ p.x]))
noncomputable def absIC := ctM unE (fun p => SZ p.x) (fun p => ([.ref 0], [eZ p.x.natAbs]))
theorem sg_self (x : Int) : sg (decide (x < 0)) x.natAbs = x := by
  unfold sg
  by_cases h : x < 0
  · simp [h]; omega
  · simp [h]; omega
end Go.Proofs.Ytpggfnggffedlaa.Ae

namespace Go.Proofs.Ytpggfnggffedlaa.Ae
open Go Go.RowKit Go.Proofs.Ytpggfnggffedlaa.Dig
variable {N : NR}
theorem abs64_spec : SpecD N Try.prog 105 absC := by
  refine rdD (mf := fun f => false) tbl_nil (fn := Try.f105) (by kernel_rfl) rfl (by kernel_rfl) ?_
  rintro ⟨x⟩ hx
  have hx : -9223372036854775808 ≤ x ∧ x ≤ 9223372036854775807 := hx
  refine ⟨by show 1 ≤ 10; decide, ?_⟩
  simp only [z1E, i64D, u64D, Try.f105]
  generalize hy : ((x.natAbs : Nat) : Int) = y
  by_cases h : x < 0
  · have r1 : IntKind.u64.wrap (IntKind.i64.wrap (-x)) = y := by rw [wrap_u64, wrap_i64]; omega
    simp [h, r1]
  · have r1 : IntKind.u64.wrap x = y := by rw [wrap_u64]; omega
    simp [h, r1]
theorem abs64_ok : callable Try.prog 105 = true := by kernel_rfl
theorem gcd64_spec : SpecD N Try.prog 104 gcdC := by
  refine rdD (mf := fun f => false) tbl_nil (fn := Try.f104) (by kernel_rfl) rfl (by kernel_rfl) ?_
  rintro ⟨a, b⟩ ⟨ha, hb⟩
  have ha : a < 18446744073709551616 := ha
  have hb : b < 18446744073709551616 := hb
  refine ⟨by show 2 ≤ 12; decide, ?_⟩
  simp only [uuE, u64D, Try.f104]
  generalize hg : Nat.gcd a b = g
  simp
  refine loop_go (fun n st => ∃ x y : Nat, x < 18446744073709551616 ∧ y < 18446744073709551616 ∧ Nat.gcd x y = g ∧ n = y ∧ st = gcdS x y) (s0 := gcdS a b) (n := b) (snd_of (by simp [LeT, gcdS]) (by simp [gcdS])) ⟨a, b, ha, hb, hg, rfl, rfl⟩ ?_
  rintro y st ⟨x, _, hx, hy, hxy, rfl, rfl⟩ KN hN
  rcases Nat.eq_zero_or_pos y with h0 | h0
  · subst h0
    rw [Nat.gcd_zero_right] at hxy
    subst hxy
    simp [gcdS]
  · have h1 : ¬ y = 0 := by omega
    obtain ⟨r, hr⟩ : ∃ r, r = x % y := ⟨_, rfl⟩
    have hry : r < y := by rw [hr]; exact Nat.mod_lt _ h0
    have q1 := tmod_nat x y
    rw [← hr] at q1
    have q2 : IntKind.u64.wrap (r : Int) = r := by rw [wrap_u64]; omega
    simp [gcdS, h1, q1, q2]
    refine hN _ (nx (m := r) (s'' := gcdS y r) (snd_of (by simp [LeT, gcdS]) (by simp [gcdS])) ⟨y, r, hy, by omega, ?_, rfl, rfl⟩ hry)
    rw [hr, ← hxy, Nat.gcd_comm y, ← Nat.gcd_rec, Nat.gcd_comm]
theorem gcd64_ok : callable Try.prog 104 = true := by kernel_rfl
end Go.Proofs.Ytpggfnggffedlaa.Ae

namespace Go.Proofs.Ytpggfnggffedlaa.Ae
open Go Go.RowKit Go.Proofs.Ytpggfnggffedlaa.Dig
variable {N : NR}
inductive BinA where
  | dd (x y : Int) (c : BC)
  | zd (x y : Int)
def BinA.x : BinA → Int
  | dd x _ _ => x
  | zd x _ => x
def BinA.y : BinA → Int
  | dd _ y _ => y
  | zd _ y => y
def binE : BinA → List Ar × List D
  | .dd x y c => ([.ref 0, .dat (.ptr (eZ x)), .dat (.ptr (eZ y))], [eB c])
  | .zd x y => ([.ref 0, .ref 0, .dat (.ptr (eZ y))], [eZ x])
theorem binE_inj : ∀ (p q : BinA), binE p = binE q → p = q
  | .dd a b c, .dd a' b' c', h => by
    simp only [binE, Prod.mk.injEq, List.cons.injEq, and_true, true_and, Ar.dat.injEq, D.ptr.injEq] at h
    rw [eZ_inj h.1.1, eZ_inj h.1.2, eB_inj h.2]
  | .zd a b, .zd a' b', h => by
    simp only [binE, Prod.mk.injEq, List.cons.injEq, and_true, true_and, Ar.dat.injEq, D.ptr.injEq] at h
    rw [eZ_inj h.1, eZ_inj h.2]
  | .dd .., .zd .., h => by simp [binE] at h
  | .zd .., .dd .., h => by simp [binE] at h
noncomputable def iAddC := ctM binE (fun p => SZ p.x ∧ SZ p.y) (fun p => ([.ref 0], [eZ (p.x + p.y)]))
noncomputable def iTb : List (FuncId × Ct) := [(136, .data addC), (137, .data cmpC), (138, .data subC), (132, .data mulC), (131, .mut ptM putC)]
theorem iTb_ok : TbOK N Try.prog (tbl iTb) := tbl_cons (c := .data addC) addMag_spec addMag_ok (tbl_cons (c := .data cmpC) cmpMag_spec cmpMag_ok (tbl_cons (c := .data subC) subMag_spec subMag_ok (tbl_cons (c := .data mulC) mulMag_spec mulMag_ok (tbl_cons (c := .mut ptM putC) put_spec put_ok tbl_nil))))
@[simp] theorem iTb1 : tbl iTb 136 = some (.data addC) := rfl
@[simp] theorem iTb2 : tbl iTb 137 = some (.data cmpC) := rfl
@[simp] theorem iTb3 : tbl iTb 138 = some (.data subC) := rfl
@[simp] theorem iTb4 : tbl iTb 132 = some (.data mulC) := rfl
@[simp] theorem iTb5 : tbl iTb 131 = some (.mut ptM putC) := rfl
set_option maxHeartbeats 4000000 in
theorem Add_spec : SpecM N Try.prog 112 iAddC := by
  refine rdM (mf := fun f => f == 131) iTb_ok (fn := Try.f112) (by kernel_rfl) rfl (by kernel_rfl) ?_
  rintro p ⟨hsa, hsb⟩
  refine ⟨by cases p <;> (show 3 ≤ 73; decide), by cases p <;> rfl, ?_⟩
  obtain ⟨a, b, ha0, hb0, hp⟩ : ∃ a b, p.x = a ∧ p.y = b ∧ ((∃ c, p = .dd a b c) ∨ p = .zd a b) := by
    cases p with
    | dd x y c => exact ⟨x, y, rfl, rfl, .inl ⟨c, rfl⟩⟩
    | zd x y => exact ⟨x, y, rfl, rfl, .inr rfl⟩
  rw [ha0, hb0]
  rw [ha0] at hsa
  rw [hb0] at hsb
  have hsa : Sm a.natAbs := hsa
  have hsb : Sm b.natAbs := hsb
  simp only [Try.f112]
  have c1 := addC_at a.natAbs b.natAbs
  have c2 := cmpC_at a.natAbs b.natAbs
  have c3 := subC_at a.natAbs b.natAbs
  have c4 := subC_at b.natAbs a.natAbs
  simp only [hsa, hsb, and_self, true_and] at c1 c2 c3 c4
  have k1 := @cmpV_neg a.natAbs b.natAbs
  generalize cmpV a.natAbs b.natAbs = cv at c2 k1
  clear ha0 hb0
  -- what put is handed
  have fin : ∀ (neg : Bool) (m : Nat), sg neg m = a + b → (∀ v : Int, putC [.ref 0, .dat (.lit (.bool neg)), .dat (.sl 1 ((mag m).map dg))] [.agg [.lit (.bool (decide (v < 0))), .sl 1 ((mag v.natAbs).map dg)]] = (True, [.ref 0], [eZ (a + b)])) ∧ putC [.ref 0, .dat (.lit (.bool neg)), .dat (.sl 1 ((mag m).map dg))] [.agg [.lit (.bool false), .lit (.slice none 0 0)]] = (True, [.ref 0], [eZ (a + b)]) := by
    intro neg m h
    rw [← h]
    exact ⟨fun v => putC_z neg m v, putC_n neg m⟩
  by_cases ha : a < 0 <;> by_cases hb : b < 0
  · obtain ⟨p1, p2⟩ := fin true (a.natAbs + b.natAbs) (by unfold sg; rw [if_pos rfl]; omega)
    have pa := p1 a
    simp only [eM, eW, ha, decide_true] at c1 pa p1
    rcases hp with ⟨c, rfl⟩ | rfl
    · cases c <;> simp [binE, eB, eZ, eM, eW, ha, hb, c1, p1, p2]
    · simp [binE, eB, eZ, eM, eW, ha, hb, c1, pa]
  · by_cases hc : cv < 0
    · have hlt : a.natAbs < b.natAbs := k1.1 hc
      have hle : a.natAbs ≤ b.natAbs := by omega
      obtain ⟨p1, p2⟩ := fin false (b.natAbs - a.natAbs) (by unfold sg; simp; omega)
      have pa := p1 a
      simp only [hle] at c4
      simp only [eM, eW, ha, decide_true, decide_false] at c2 c4 pa p1
      have hc' : ¬ (0 ≤ cv) := by omega
      rcases hp with ⟨c, rfl⟩ | rfl
      · cases c <;> simp [binE, eB, eZ, eM, eW, ha, hb, hc', c2, c4, p1, p2]
      · simp [binE, eB, eZ, eM, eW, ha, hb, hc', c2, c4, pa]
    · have hle : b.natAbs ≤ a.natAbs := by
        rcases Nat.lt_or_ge a.natAbs b.natAbs with h | h
        · exact absurd (k1.2 h) hc
        · exact h
      obtain ⟨p1, p2⟩ := fin true (a.natAbs - b.natAbs) (by unfold sg; simp; omega)
      have pa := p1 a
      simp only [hle] at c3
      simp only [eM, eW, ha, decide_true, decide_false] at c2 c3 pa p1
      have hc' : 0 ≤ cv := by omega
      rcases hp with ⟨c, rfl⟩ | rfl
      · cases c <;> simp [binE, eB, eZ, eM, eW, ha, hb, hc', c2, c3, p1, p2]
      · simp [binE, eB, eZ, eM, eW, ha, hb, hc', c2, c3, pa]
  · by_cases hc : cv < 0
    · have hlt : a.natAbs < b.natAbs := k1.1 hc
      have hle : a.natAbs ≤ b.natAbs := by omega
      obtain ⟨p1, p2⟩ := fin true (b.natAbs - a.natAbs) (by unfold sg; simp; omega)
      have pa := p1 a
      simp only [hle] at c4
      simp only [eM, eW, ha, decide_true, decide_false] at c2 c4 pa p1
      have hc' : ¬ (0 ≤ cv) := by omega
      rcases hp with ⟨c, rfl⟩ | rfl
      · cases c <;> simp [binE, eB, eZ, eM, eW, ha, hb, hc', c2, c4, p1, p2]
      · simp [binE, eB, eZ, eM, eW, ha, hb, hc', c2, c4, pa]
    · have hle : b.natAbs ≤ a.natAbs := by
        rcases Nat.lt_or_ge a.natAbs b.natAbs with h | h
        · exact absurd (k1.2 h) hc
        · exact h
      obtain ⟨p1, p2⟩ := fin false (a.natAbs - b.natAbs) (by unfold sg; simp; omega)
      have pa := p1 a
      simp only [hle] at c3
      simp only [eM, eW, ha, decide_true, decide_false] at c2 c3 pa p1
      have hc' : 0 ≤ cv := by omega
      rcases hp with ⟨c, rfl⟩ | rfl
      · cases c <;> simp [binE, eB, eZ, eM, eW, ha, hb, hc', c2, c3, p1, p2]
      · simp [binE, eB, eZ, eM, eW, ha, hb, hc', c2, c3, pa]
  · obtain ⟨p1, p2⟩ := fin false (a.natAbs + b.natAbs) (by unfold sg; rw [if_neg (by simp)]; omega)
    have pa := p1 a
    simp only [eM, eW, ha, decide_false] at c1 pa p1
    rcases hp with ⟨c, rfl⟩ | rfl
    · cases c <;> simp [binE, eB, eZ, eM, eW, ha, hb, c1, p1, p2]
    · simp [binE, eB, eZ, eM, eW, ha, hb, c1, pa]
theorem Add_ok : callable Try.prog 112 = true := by kernel_rfl
end Go.Proofs.Ytpggfnggffedlaa.Ae

namespace Go.Proofs.Ytpggfnggffedlaa.Ae
open Go Go.RowKit Go.Proofs.Ytpggfnggffedlaa.Dig
variable {N : NR}
noncomputable def iMulC := ctM binE (fun p => SZ p.x ∧ SZ p.y) (fun p => ([.ref 0], [eZ (p.x * p.y)]))
theorem sg_mul (a b : Int) : sg (decide (a < 0) != decide (b < 0)) (a.natAbs * b.natAbs) = a * b := by
  rw [← Int.natAbs_mul]
  by_cases h0 : a * b = 0
  · rw [h0]; unfold sg; split <;> rfl
  · have ha0 : a ≠ 0 := fun h => h0 (by rw [h, Int.zero_mul])
    have hb0 : b ≠ 0 := fun h => h0 (by rw [h, Int.mul_zero])
    have h1 := mul_neg_iff ha0 hb0
    unfold sg
    by_cases ha : a < 0 <;> by_cases hb : b < 0 <;> simp [ha, hb] at h1 <;> simp [ha, hb] <;> omega
set_option maxHeartbeats 4000000 in
theorem Mul_spec : SpecM N Try.prog 110 iMulC := by
  refine rdM (mf := fun f => f == 131) iTb_ok (fn := Try.f110) (by kernel_rfl) rfl (by kernel_rfl) ?_
  rintro p ⟨hsa, hsb⟩
  refine ⟨by cases p <;> (show 3 ≤ 27; decide), by cases p <;> rfl, ?_⟩
  obtain ⟨a, b, ha0, hb0, hp⟩ : ∃ a b, p.x = a ∧ p.y = b ∧ ((∃ c, p = .dd a b c) ∨ p = .zd a b) := by
    cases p with
    | dd x y c => exact ⟨x, y, rfl, rfl, .inl ⟨c, rfl⟩⟩
    | zd x y => exact ⟨x, y, rfl, rfl, .inr rfl⟩
  rw [ha0, hb0]
  rw [ha0] at hsa
  rw [hb0] at hsb
  have hsa : Sm a.natAbs := hsa
  have hsb : Sm b.natAbs := hsb
  simp only [Try.f110]
  have c1 := mulC_at a.natAbs b.natAbs
  simp only [hsa, hsb, and_self] at c1
  clear ha0 hb0
  have p1 := fun v : Int => putC_z (decide (a < 0) != decide (b < 0)) (a.natAbs * b.natAbs) v
  have p2 := putC_n (decide (a < 0) != decide (b < 0)) (a.natAbs * b.natAbs)
  rw [sg_mul] at p1 p2
  have pa := p1 a
  simp only [eM, eW] at c1
  generalize a * b = ab at *
  generalize a.natAbs * b.natAbs = m at *
  by_cases ha : a < 0 <;> by_cases hb : b < 0 <;> simp [ha, hb] at p1 p2 pa
  all_goals
    rcases hp with ⟨c, rfl⟩ | rfl
    · cases c <;> simp [binE, eB, eZ, eM, eW, ha, hb, c1, p1, p2]
    · simp [binE, eB, eZ, eM, eW, ha, hb, c1, pa]
theorem Mul_ok : callable Try.prog 110 = true := by kernel_rfl
structure QrA where
  x : Int
  y : Int
  c : BC
  d : BC
def qrE (p : QrA) : List Ar × List D := ([.ref 0, .dat (.ptr (eZ p.x)), .dat (.ptr (eZ p.y)), .ref 1], [eB p.c, eB p.d])
theorem qrE_inj (p q : QrA) (h : qrE p = qrE q) : p = q := by
  obtain ⟨a, b, c, d⟩ := p; obtain ⟨a', b', c', d'⟩ := q
  simp only [qrE, Prod.mk.injEq, List.cons.injEq, and_true, true_and, Ar.dat.injEq, D.ptr.injEq] at h
  rw [eZ_inj h.1.1, eZ_inj h.1.2, eB_inj h.2.1, eB_inj h.2.2]
noncomputable def qrC := ctM qrE (fun p => SZ p.x ∧ SZ p.y ∧ p.y ≠ 0) (fun p => ([.ref 0, .ref 1], [eZ (Int.tdiv p.x p.y), eZ (Int.tmod p.x p.y)]))
theorem qrC_at (x y : Int) (c d : BC) : qrC [.ref 0, .dat (.ptr (eZ x)), .dat (.ptr (eZ y)), .ref 1] [eB c, eB d] = ((SZ x ∧ SZ y ∧ y ≠ 0), [.ref 0, .ref 1], [eZ (Int.tdiv x y), eZ (Int.tmod x y)]) := ctM_at qrE_inj ⟨x, y, c, d⟩
theorem sg_div (a b : Int) : sg (decide (a < 0) != decide (b < 0)) (a.natAbs / b.natAbs) = Int.tdiv a b := by
  by_cases ha : a < 0
  · obtain ⟨m, rfl⟩ : ∃ m : Nat, a = -(m : Int) := ⟨a.natAbs, by omega⟩
    by_cases hb : b < 0
    · obtain ⟨k, rfl⟩ : ∃ k : Nat, b = -(k : Int) := ⟨b.natAbs, by omega⟩
      rw [Int.neg_tdiv, Int.tdiv_neg, tdiv_nat, Int.natAbs_neg, Int.natAbs_neg, Int.natAbs_natCast, Int.natAbs_natCast, decide_eq_true ha, decide_eq_true hb]
      simp [sg]
    · obtain ⟨k, rfl⟩ : ∃ k : Nat, b = (k : Int) := ⟨b.natAbs, by omega⟩
      rw [Int.neg_tdiv, tdiv_nat, Int.natAbs_neg, Int.natAbs_natCast, Int.natAbs_natCast, decide_eq_true ha, decide_eq_false hb]
      simp [sg]
  · obtain ⟨m, rfl⟩ : ∃ m : Nat, a = (m : Int) := ⟨a.natAbs, by omega⟩
    by_cases hb : b < 0
    · obtain ⟨k, rfl⟩ : ∃ k : Nat, b = -(k : Int) := ⟨b.natAbs, by omega⟩
      rw [Int.tdiv_neg, tdiv_nat, Int.natAbs_neg, Int.natAbs_natCast, Int.natAbs_natCast, decide_eq_false ha, decide_eq_true hb]
      simp [sg]
    · obtain ⟨k, rfl⟩ : ∃ k : Nat, b = (k : Int) := ⟨b.natAbs, by omega⟩
      rw [tdiv_nat, Int.natAbs_natCast, Int.natAbs_natCast, decide_eq_false ha, decide_eq_false hb]
      simp [sg]
theorem sg_mod (a b : Int) : sg (decide (a < 0)) (a.natAbs % b.natAbs) = Int.tmod a b := by
  have hb : Int.tmod a b = Int.tmod a (b.natAbs : Int) := by
    by_cases hb : b < 0
    · obtain ⟨k, rfl⟩ : ∃ k : Nat, b = -(k : Int) := ⟨b.natAbs, by omega⟩
      rw [Int.tmod_neg, Int.natAbs_neg, Int.natAbs_natCast]
    · have : (b.natAbs : Int) = b := by omega
      rw [this]
  rw [hb]
  by_cases ha : a < 0
  · obtain ⟨m, rfl⟩ : ∃ m : Nat, a = -(m : Int) := ⟨a.natAbs, by omega⟩
    rw [Int.neg_tmod, tmod_nat, Int.natAbs_neg, Int.natAbs_natCast, decide_eq_true ha]
    simp [sg]
  · obtain ⟨m, rfl⟩ : ∃ m : Nat, a = (m : Int) := ⟨a.natAbs, by omega⟩
    rw [tmod_nat, Int.natAbs_natCast, decide_eq_false ha]
    simp [sg]
noncomputable def qrTb : List (FuncId × Ct) := [(148, .data divC), (131, .mut ptM putC)]
theorem qrTb_ok : TbOK N Try.prog (tbl qrTb) := tbl_cons (c := .data divC) divMag_spec divMag_ok (tbl_cons (c := .mut ptM putC) put_spec put_ok tbl_nil)
@[simp] theorem qrTb1 : tbl qrTb 148 = some (.data divC) := rfl
@[simp] theorem qrTb2 : tbl qrTb 131 = some (.mut ptM putC) := rfl
set_option maxHeartbeats 4000000 in
theorem QuoRem_spec : SpecM N Try.prog 145 qrC := by
  refine rdM (mf := fun f => f == 131) qrTb_ok (fn := Try.f145) (by kernel_rfl) rfl (by kernel_rfl) ?_
  rintro ⟨a, b, c, d⟩ ⟨hsa, hsb, h0⟩
  have hsa : Sm a.natAbs := hsa
  have hsb : Sm b.natAbs := hsb
  have h0 : b ≠ 0 := h0
  refine ⟨by show 4 ≤ 44; decide, rfl, ?_⟩
  simp only [qrE, Try.f145]
  have c1 := divC_at a.natAbs b.natAbs
  have hb0 : 0 < b.natAbs := by omega
  simp only [hsa, hsb, hb0, and_self] at c1
  have p1 := fun v : Int => putC_z (decide (a < 0) != decide (b < 0)) (a.natAbs / b.natAbs) v
  have p2 := putC_n (decide (a < 0) != decide (b < 0)) (a.natAbs / b.natAbs)
  have p3 := fun v : Int => putC_z (decide (a < 0)) (a.natAbs % b.natAbs) v
  have p4 := putC_n (decide (a < 0)) (a.natAbs % b.natAbs)
  rw [sg_div] at p1 p2
  rw [sg_mod] at p3 p4
  simp only [eM, eW] at c1
  generalize Int.tdiv a b = tq at *
  generalize Int.tmod a b = tr at *
  generalize a.natAbs / b.natAbs = m at *
  generalize a.natAbs % b.natAbs = k at *
  by_cases ha : a < 0 <;> by_cases hb : b < 0 <;> simp [ha, hb] at p1 p2 p3 p4
  all_goals cases c <;> cases d <;> simp [eB, eZ, eM, eW, ha, hb, c1, p1, p2, p3, p4]
theorem QuoRem_ok : callable Try.prog 145 = true := by kernel_rfl
end Go.Proofs.Ytpggfnggffedlaa.Ae

namespace Go.Proofs.Ytpggfnggffedlaa.Ae
open Go Go.RowKit Go.Proofs.Ytpggfnggffedlaa.Dig
variable {N : NR}
inductive SgA where
  | d (x : Int)
  | r (x : Int)
def SgA.x : SgA → Int
  | d x => x
  | r x => x
theorem Sign_ok : callable Try.prog 130 = true := by kernel_rfl
end Go.Proofs.Ytpggfnggffedlaa.Ae

namespace Go.Proofs.Ytpggfnggffedlaa.Ae
open Go Go.RowKit Go.Proofs.Ytpggfnggffedlaa.Dig
variable {N : NR}
theorem Abs_spec : SpecM N Try.prog 144 absIC := by
  refine rdM (mf := pMf) pTb_ok (fn := Try.f144) (by kernel_rfl) rfl (by kernel_rfl) ?_
  rintro ⟨x, c⟩ hx
  have hx : Sm x.natAbs := hx
  simp only [Sm] at hx
  refine ⟨by show 2 ≤ 13; decide, rfl, ?_⟩
  simp only [unE, Try.f144]
  have e : sg false x.natAbs = (x.natAbs : Int) := by unfold sg; rw [if_neg (by simp)]
  have p1 := fun v => putC_z false x.natAbs v
  have p2 := putC_n false x.natAbs
  rw [e] at p1 p2
  have hmx := maxLen_ge
  cases c <;> simp [eB, eZ, eM, eW, p1, p2] <;> omega
theorem Abs_ok : callable Try.prog 144 = true := by kernel_rfl
def pE (p : Z1) : List D := [.ptr (eZ p.a)]
theorem pE_inj (p q : Z1) (h : pE p = pE q) : p = q := by
  obtain ⟨a⟩ := p; obtain ⟨c⟩ := q
  simp only [pE, List.cons.injEq, and_true, D.ptr.injEq] at h
  rw [eZ_inj h]
noncomputable def u64C := ctD pE (fun p => SZ p.a) (fun p => [u64D (p.a.natAbs % 18446744073709551616)])
theorem u64C_at (a : Int) : u64C [.ptr (eZ a)] = (SZ a, [u64D (a.natAbs % 18446744073709551616)]) := ctD_at pE_inj ⟨a⟩
def u64S (xs : List Nat) (o i : Nat) : St := ⟨[.any, .any, .any, .dat (.lit (.int .u64 o)), .any, .any, .any, .any, .any, .any, .any, .any, .any, .any, .any, .any, .dat (.sl 1 (xs.map dg)), .dat (.lit (.int .i64 xs.length)), .dat (.lit (.int .i64 i)), .any, .any, .any, .any, .any, .any, .any, .any, .any, .any, .any, .any, .any], [none, none, none, none, none, none, none, none, none, none, none, none, none, none, none, none, none, none, none, none, none, none, none, none, none, none, none, none, none, none, none, none]⟩
end Go.Proofs.Ytpggfnggffedlaa.Ae

namespace Go.Proofs.Ytpggfnggffedlaa.Ae
open Go Go.RowKit Go.Proofs.Ytpggfnggffedlaa.Dig
variable {N : NR}
theorem Set_spec : SpecM N Try.prog 128 copyC := by
  refine rdM (mf := fun f => pMf f || f == cel 10) pTb_ok (fn := Try.f128) (by kernel_rfl) rfl (by kernel_rfl) ?_
  rintro ⟨x, c⟩ hx
  have hx : Sm x.natAbs := hx
  simp only [Sm] at hx
  refine ⟨by show 2 ≤ 17; decide, rfl, ?_⟩
  simp only [unE, Try.f128]
  have p1 := fun v => putC_z (decide (x < 0)) x.natAbs v
  have p2 := putC_n (decide (x < 0)) x.natAbs
  rw [sg_self] at p1 p2
  have hmx := maxLen_ge
  cases c <;> simp [eB, eZ, eM, eW, p1, p2] <;> omega
theorem Set_ok : callable Try.prog 128 = true := by kernel_rfl
theorem copyC_at (x : Int) (c : BC) : copyC [.ref 0, .dat (.ptr (eZ x))] [eB c] = (SZ x, [.ref 0], [eZ x]) := ctM_at unE_inj ⟨x, c⟩
theorem copyC_n (x : Int) : copyC [.ref 0, .dat (.ptr (eZ x))] [.agg [.lit (.bool false), .lit (.slice none 0 0)]] = (SZ x, [.ref 0], [eZ x]) := copyC_at x .new
inductive NgA where
  | d (x : Int) (c : BC)
  | r (x : Int)
def NgA.x : NgA → Int
  | d x _ => x
  | r x => x
def ngE : NgA → List Ar × List D
  | .d x c => ([.ref 0, .dat (.ptr (eZ x))], [eB c])
  | .r x => ([.ref 0, .ref 0], [eZ x])
theorem ngE_inj : ∀ (p q : NgA), ngE p = ngE q → p = q
  | .d a c, .d b c', h => by
    simp only [ngE, Prod.mk.injEq, List.cons.injEq, and_true, true_and, Ar.dat.injEq, D.ptr.injEq] at h
    rw [eZ_inj h.1, eB_inj h.2]
  | .r a, .r b, h => by
    simp only [ngE, Prod.mk.injEq, List.cons.injEq, and_true, true_and] at h
    rw [eZ_inj h]
  | .d _ _, .r _, h => by simp [ngE] at h
  | .r _, .d _ _, h => by simp [ngE] at h
noncomputable def ngC := ctM ngE (fun p => SZ p.x) (fun p => ([.ref 0], [eZ (-p.x)]))
theorem ngC_d (x : Int) (c : BC) : ngC [.ref 0, .dat (.ptr (eZ x))] [eB c] = (SZ x, [.ref 0], [eZ (-x)]) := ctM_at ngE_inj (.d x c)
theorem ngC_n (x : Int) : ngC [.ref 0, .dat (.ptr (eZ x))] [.agg [.lit (.bool false), .lit (.slice none 0 0)]] = (SZ x, [.ref 0], [eZ (-x)]) := ngC_d x .new
theorem ngC_r (x : Int) : ngC [.ref 0, .ref 0] [eZ x] = (SZ x, [.ref 0], [eZ (-x)]) := ctM_at ngE_inj (.r x)
theorem sg_neg (x : Int) : sg (!decide (x < 0)) x.natAbs = -x := by
  unfold sg
  by_cases h : x < 0
  · simp [h]; omega
  · simp [h]; omega
theorem Neg_spec : SpecM N Try.prog 134 ngC := by
  refine rdM (mf := fun f => pMf f || f == cel 11) pTb_ok (fn := Try.f134) (by kernel_rfl) rfl (by kernel_rfl) ?_
  rintro p hx
  refine ⟨by cases p <;> (show 2 ≤ 18; decide), by cases p <;> rfl, ?_⟩
  obtain ⟨x, hpx, hp⟩ : ∃ x, p.x = x ∧ ((∃ c, p = .d x c) ∨ p = .r x) := by
    cases p with
    | d x c => exact ⟨x, rfl, .inl ⟨c, rfl⟩⟩
    | r x => exact ⟨x, rfl, .inr rfl⟩
  rw [hpx]
  rw [hpx] at hx
  have hx : Sm x.natAbs := hx
  simp only [Sm] at hx
  simp only [Try.f134]
  have p1 := fun v => putC_z (!decide (x < 0)) x.natAbs v
  have p2 := putC_n (!decide (x < 0)) x.natAbs
  rw [sg_neg] at p1 p2
  have hmx := maxLen_ge
  rcases hp with ⟨c, rfl⟩ | rfl
  · cases c <;> simp [ngE, eB, eZ, eM, eW, p1, p2] <;> omega
  · simp [ngE, eB, eZ, eM, eW, p1, p2] <;> omega
theorem Neg_ok : callable Try.prog 134 = true := by kernel_rfl
end Go.Proofs.Ytpggfnggffedlaa.Ae

namespace Go.Proofs.Ytpggfnggffedlaa.Ae
open Go Go.RowKit Go.Proofs.Ytpggfnggffedlaa.Dig
variable {N : NR}
theorem lsub_dg (l : List Nat) (k : Nat) : lsub (l.map dg) 0 k = (l.take k).map dg := by
  unfold lsub
  rw [List.drop_zero, List.map_take]
theorem val_take2 (m : Nat) : val ((mag m).take 2) = m % 18446744073709551616 := by
  rcases Nat.lt_or_ge (mag m).length 2 with h | h
  · rw [List.take_of_length_le (by omega), val_mag]
    have := mag_lt.1 (by omega : (mag m).length ≤ 2)
    simp only [B] at this
    omega
  · have h1 := val_take_drop (mag m) 2 h
    rw [val_mag] at h1
    have h2 := val_lt ((mag_digs m).take 2)
    rw [List.length_take, Nat.min_eq_left h] at h2
    simp only [B] at h1 h2
    omega
theorem Uint64_spec : SpecD N Try.prog 129 u64C := by
  refine rdD (mf := fun f => false) tbl_nil (fn := Try.f129) (by kernel_rfl) rfl (by kernel_rfl) ?_
  rintro ⟨a⟩ ha
  have ha : Sm a.natAbs := ha
  simp only [Sm] at ha
  refine ⟨by show 1 ≤ 32; decide, ?_⟩
  simp only [pE, u64D, Try.f129]
  have hv := val_take2 a.natAbs
  generalize a.natAbs % 18446744073709551616 = res at *
  obtain ⟨k, hk⟩ : ∃ k, k = min (mag a.natAbs).length 2 := ⟨_, rfl⟩
  have hmin : (if (2 : Int) < (mag a.natAbs).length then 2 else ((mag a.natAbs).length : Int)) = (k : Int) := by split <;> omega
  have hkl : (k : Int) ≤ (mag a.natAbs).length := by omega
  have hls := lsub_dg (mag a.natAbs) k
  have htk : (mag a.natAbs).take k = (mag a.natAbs).take 2 := by
    rcases Nat.lt_or_ge (mag a.natAbs).length 2 with h | h
    · rw [List.take_of_length_le (by omega), List.take_of_length_le (by omega)]
    · rw [show k = 2 by omega]
  rw [htk] at hls
  have hxd : Digs ((mag a.natAbs).take 2) := (mag_digs _).take _
  have hxl : ((mag a.natAbs).take 2).length ≤ 2 := by rw [List.length_take]; omega
  have hxk : ((mag a.natAbs).take 2).length = k := by rw [List.length_take]; omega
  generalize (mag a.natAbs).take 2 = xs at *
  have hln : ((xs.length : Nat) : Int) = k := by omega
  simp [eZ, eM, eW, hmin, hkl, hls, hln]
  rw [← hln]
  refine loop_go (fun n st => ∃ i o : Nat, n = xs.length - i ∧ i ≤ xs.length ∧ o = val (xs.take i) ∧ st = u64S xs o i) (s0 := u64S xs 0 0) (n := xs.length) (snd_of (by simp [LeT, u64S]) (by simp [u64S])) ⟨0, 0, rfl, Nat.zero_le _, rfl, rfl⟩ ?_
  rintro n st ⟨i, o, hn, hi, ho, rfl⟩ KN hN
  by_cases h : i < xs.length
  · have e1 := ix_dg xs i h
    obtain ⟨x, hx⟩ : ∃ x, x = xs.getD i 0 := ⟨_, rfl⟩
    have hxB : x < 4294967296 := by rw [hx]; exact getD_lt hxd _
    have hs := val_take_succ xs i x (by rw [hx, List.getD_eq_getElem?_getD, List.getElem?_eq_getElem h]; rfl)
    rw [← ho] at hs
    rw [← hx] at e1
    have w1 : IntKind.u64.wrap (x : Int) = x := by rw [wrap_u64]; omega
    obtain ⟨o', ho'⟩ : ∃ o', o' = val (xs.take (i + 1)) := ⟨_, rfl⟩
    rw [← ho'] at hs
    have hkeep : ∀ s, Snd s (u64S xs o' (i + 1)) → KN s := fun s hs => hN _ (nx (m := xs.length - (i + 1)) (s'' := u64S xs o' (i + 1)) hs ⟨i + 1, o', rfl, h, ho', rfl⟩ (by omega))
    rcases i with _ | _ | i
    · have hl : 0 < xs.length := h
      have ho0 : o = 0 := by rw [ho]; rfl
      subst ho0
      have hb := bOr64 0 x (by omega) (by omega)
      rw [Nat.zero_or] at hb
      have : x = o' := by rw [hs, Nat.pow_zero]; omega
      subst this
      simp at hb
      have w2 : IntKind.i64.wrap 0 = 0 := by rw [wrap_i64]; rfl
      have w3 : IntKind.i64.wrap 1 = 1 := by rw [wrap_i64]; rfl
      simp [u64S, hl, e1, dg, w1, w2, w3, hb]
      exact hkeep _ (snd_of (by simp [LeT, u64S]) (by simp [u64S]))
    · have hl : 1 < xs.length := h
      have hoB : o < 4294967296 := by
        have h1 := val_lt (hxd.take 1)
        rw [List.length_take, Nat.min_eq_left (by omega)] at h1
        have : o = val (xs.take 1) := ho
        simp only [B] at h1
        omega
      have hsx : o + x * 4294967296 = o' := by simp only [B] at hs; omega
      have hb := bOr64 o (x * 4294967296) (by omega) (by omega)
      have hor : o ||| x * 4294967296 = o' := by rw [Nat.or_comm, or_cut x o hoB]; omega
      rw [hor] at hb
      have w2 : IntKind.i64.wrap 32 = 32 := by rw [wrap_i64]; rfl
      have w3 : IntKind.i64.wrap 2 = 2 := by rw [wrap_i64]; rfl
      have w4 : IntKind.u64.wrap ((x : Int) * 4294967296) = ((x * 4294967296 : Nat) : Int) := by rw [wrap_u64]; omega
      have hl' : (1 : Int) < xs.length := by omega
      rw [Int.natCast_mul] at hb
      have hb : bOr .u64 (o : Int) ((x : Int) * 4294967296) = o' := hb
      simp [u64S, hl', e1, dg, w1, w2, w3, w4, hb]
      refine hkeep _ ?_
      exact snd_of (by simp [LeT, u64S]) (by simp [u64S])
    · exact absurd h (by omega)
  · have h0 : i = xs.length := by omega
    subst h0
    rw [List.take_length, hv] at ho
    subst ho
    simp [u64S]
theorem Uint64_ok : callable Try.prog 129 = true := by kernel_rfl
end Go.Proofs.Ytpggfnggffedlaa.Ae
