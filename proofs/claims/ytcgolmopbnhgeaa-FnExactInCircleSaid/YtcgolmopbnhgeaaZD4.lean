/- Of our texts what the law leans on, in the order in which they build: L26, L27, L28, L29, L30, L31, L32, L33, L34, L35, L36, L37, L38, L39, L40, L41, L50, L51, L52, L53, L54, L55, L56, L57, L58, L59, L60, L61, L62, Q1, L63, L64, S1, S2, L65, L66, L67, L68, L69, S3, L70, S4, S5, T1, T2, T3, T4, T5, Q2, T6, T30, T31, T61. No condition. -/
import Derived.Test.YtcgolmopbnhgeaaZD3
import Derived.Below
import Derived.OpenShut
set_option linter.unusedVariables false
set_option linter.unusedSimpArgs false
namespace Go.Proofs.Ytcgolmopbnhgeaa.Ae
open Go Go.RowKit Go.Proofs.Ytcgolmopbnhgeaa.Dig
variable {N : NR}
theorem bor64b (x y c : Nat) (hx : x < 4294967296) (hy : y < 4294967296) (hc : c ≤ 1) : ∃ (t1 t2 : Int) (c' d : Nat), d < B ∧ c' ≤ 1 ∧ d + y + c = x + B * c' ∧ IntKind.u64.wrap ((x : Int) - y) = t1 ∧ IntKind.u64.wrap (t1 - c) = t2 ∧ IntKind.u32.wrap t2 = d ∧ t2 / 9223372036854775808 = c' := by
  obtain ⟨t1, h1⟩ : ∃ t1 : Int, t1 = ((x : Int) - y) % 18446744073709551616 := ⟨_, rfl⟩
  obtain ⟨t2, h2⟩ : ∃ t2 : Int, t2 = (t1 - c) % 18446744073709551616 := ⟨_, rfl⟩
  have e1 : IntKind.u64.wrap ((x : Int) - y) = t1 := by rw [wrap_u64, h1]
  have e2 : IntKind.u64.wrap (t1 - c) = t2 := by rw [wrap_u64, h2]
  have h3 : t2 = ((x : Int) - c - y) % 18446744073709551616 := by omega
  rcases Nat.lt_or_ge x (y + c) with h | h
  · refine ⟨t1, t2, 1, x + 4294967296 - y - c, by simp only [B]; omega, by omega, by simp only [B]; omega, e1, e2, ?_, ?_⟩
    · rw [wrap_u32]; omega
    · omega
  · refine ⟨t1, t2, 0, x - y - c, by simp only [B]; omega, by omega, by simp only [B]; omega, e1, e2, ?_, ?_⟩
    · rw [wrap_u32]; omega
    · omega
theorem and_low (p : Nat) (hp : p < 18446744073709551616) : bAnd .u64 (p : Int) 4294967295 = ((p % 4294967296 : Nat) : Int) := by
  have := bAnd64 p 4294967295 hp (by omega)
  have h2 : p &&& 4294967295 = p % 4294967296 := Nat.and_two_pow_sub_one_eq_mod p 32
  rw [h2] at this
  exact this
theorem drop_cons {us : List Nat} {i : Nat} (h : i < us.length) : us.drop i = us.getD i 0 :: us.drop (i + 1) := by
  rw [List.drop_eq_getElem_cons h, List.getD_eq_getElem?_getD, List.getElem?_eq_getElem h]; rfl
def inC : Code → Code
  | .cond _ a _ => a
  | c => c
noncomputable def sdB : Code := Try.f107.body.getD .skip
noncomputable def sdM : Code := inL (inB (sq2 (sq1 (sq2 (sq2 (sq2 (sq2 (sq2 (sq2 (sq2 (sq2 (sq2 sdB))))))))))))
noncomputable def sdX : Code := inB (sq1 (sq2 sdM))
noncomputable def sdL6 : Code := inL (inB (sq2 (sq1 (sq2 (sq2 (sq2 (sq2 (sq2 (sq2 sdX)))))))))
noncomputable def sdL8 : Code := inL (inB (sq2 (sq1 (sq2 (sq2 (inC (sq2 (sq1 (sq2 (sq2 (sq2 (sq2 (sq2 (sq2 (sq2 (sq2 (sq2 sdX)))))))))))))))))
def sDivMf : FuncId → Bool := fun f => f == 101 || f == 126
noncomputable def sDivTb : List (FuncId × Ct) := [(101, .data trimC), (123, .data sCmpC), (125, .data div1C), (126, .own 1 125 shlO)]
theorem sDivTb_ok : TbOK N Try.prog (tbl sDivTb) := tbl_cons (c := .data trimC) l1Trim_spec l1Trim_ok (tbl_cons (c := .data sCmpC) l1MagCmp_spec l1MagCmp_ok (tbl_cons (c := .data div1C) l1MagDiv1_spec l1MagDiv1_ok (tbl_cons (c := .own 1 125 shlO) l1Shl_specO l1Shl_ok tbl_nil)))
theorem sdt1 : tbl sDivTb 101 = some (.data trimC) := rfl
theorem sdt2 : tbl sDivTb 123 = some (.data sCmpC) := rfl
theorem sdt3 : tbl sDivTb 125 = some (.data div1C) := rfl
theorem sdt4 : tbl sDivTb 126 = some (.own 1 125 shlO) := rfl
attribute [simp] sdt1 sdt2 sdt3 sdt4 sDivMf
def sDv6 (s n : Nat) (vs us qs : List Nat) (k g c b i : Nat) : St := ⟨[.any, .any, .any, .any, .any, .any, .dat (.lit (.int .u64 s)), .dat (.lit (.int .i64 n)), .row 60, .row 63, .row 69, .dat (.lit (.int .i64 k)), .any, .dat (.lit (.int .u64 g)), .any, .any, .dat (.lit (.int .u64 c)), .dat (.lit (.int .u64 b)), .dat (.lit (.int .i64 i)), .any, .any, .any, .any, .any, .any, .any, .any, .any, .any, .any, .any, .any, .any, .any, .any, .any, .any, .any, .any, .any, .any, .any, .any, .any, .any, .any, .any, .any, .any, .any, .any, .any, .any, .any, .any, .any, .any, .any, .any, .any, .any, .any, .any, .any, .any, .any, .any, .any, .any, .any, .any, .any, .any, .any, .any, .any, .any, .any, .any, .any, .any, .any, .any, .any, .any, .any, .any, .any, .any, .any, .any, .any, .any, .any, .any, .any, .any, .any, .any, .any, .any, .any, .any, .any, .any, .any, .any, .any, .any, .any, .any, .any, .any, .any, .any, .any, .any, .any, .any, .any, .any, .any, .any, .any, .any, .any, .any, .any, .any, .any, .any, .any, .any, .any, .any, .any, .any, .any, .any, .any, .any, .any, .any, .any, .any, .any, .any, .any, .any, .any, .any, .any, .any, .any, .any, .any, .any, .any, .any, .any, .any, .any, .any, .any, .any, .any, .any, .any, .any, .any, .any, .any, .any, .any, .any, .any, .any, .any, .any, .any, .any, .any, .any, .any, .any, .any, .any, .any, .any, .any, .any, .any, .any, .any, .any, .any, .any, .any, .any, .any, .any, .any, .any, .any, .any, .any, .any, .any, .any, .any, .any, .any, .any, .any, .any, .any, .any, .any, .any, .any, .any, .any, .any, .any, .any, .any, .any, .any, .any, .any, .any, .any, .any, .any, .any, .any, .any, .any, .any, .any, .any, .any, .any, .any, .any, .any, .any, .any, .any, .any, .any, .any, .any, .any, .any, .any, .any, .any, .any, .any, .any, .any, .any, .any, .any, .any, .any, .any, .any, .any, .any, .any, .any, .any, .any, .any, .any, .any, .any, .any, .any, .any, .any, .any, .any, .any, .any, .any, .any, .any, .any, .any, .any, .any, .any, .any, .any, .any, .any, .any, .any], [none, none, none, none, none, none, none, none, none, none, none, none, none, none, none, none, none, none, none, none, none, none, none, none, none, none, none, none, none, none, none, none, none, none, none, none, none, none, none, none, none, none, none, none, none, none, none, none, none, none, none, none, none, none, none, none, none, none, none, none, some (.row 1 125 (vs.map dg)), none, none, some (.row 1 125 (us.map dg)), none, none, none, none, none, some (.row 1 125 (List.replicate (k + 1) z32 ++ qs.map dg)), none, none, none, none, none, none, none, none, none, none, none, none, none, none, none, none, none, none, none, none, none, none, none, none, none, none, none, none, none, none, none, none, none, none, none, none, none, none, none, none, none, none, none, none, none, none, none, none, none, none, none, none, none, none, none, none, none, none, none, none, none, none, none, none, none, none, none, none, none, none, none, none, none, none, none, none, none, none, none, none, none, none, none, none, none, none, none, none, none, none, none, none, none, none, none, none, none, none, none, none, none, none, none, none, none, none, none, none, none, none, none, none, none, none, none, none, none, none, none, none, none, none, none, none, none, none, none, none, none, none, none, none, none, none, none, none, none, none, none, none, none, none, none, none, none, none, none, none, none, none, none, none, none, none, none, none, none, none, none, none, none, none, none, none, none, none, none, none, none, none, none, none, none, none, none, none, none, none, none, none, none, none, none, none, none, none, none, none, none, none, none, none, none, none, none, none, none, none, none, none, none, none, none, none, none, none, none, none, none, none, none, none, none, none, none, none, none, none, none, none, none, none, none, none, none, none, none, none, none, none, none]⟩
def sDe6 (s n : Nat) (vs us qs : List Nat) (k g c b : Nat) : St := ⟨[.any, .any, .any, .any, .any, .any, .dat (.lit (.int .u64 s)), .dat (.lit (.int .i64 n)), .row 60, .row 63, .row 69, .dat (.lit (.int .i64 k)), .any, .dat (.lit (.int .u64 g)), .any, .any, .dat (.lit (.int .u64 c)), .dat (.lit (.int .u64 b)), .dat (.lit (.int .i64 n)), .any, .any, .any, .any, .any, .any, .any, .any, .any, .any, .any, .any, .any, .any, .any, .any, .any, .any, .any, .any, .any, .any, .any, .any, .any, .any, .any, .any, .any, .any, .any, .any, .any, .any, .any, .any, .any, .any, .any, .any, .any, .any, .any, .any, .any, .any, .any, .any, .any, .any, .any, .any, .any, .any, .any, .any, .any, .any, .any, .any, .any, .any, .any, .any, .any, .any, .any, .any, .any, .any, .any, .any, .any, .any, .any, .any, .any, .any, .any, .any, .any, .any, .any, .any, .any, .any, .any, .any, .any, .any, .any, .any, .any, .any, .any, .any, .any, .any, .any, .any, .any, .any, .any, .any, .any, .any, .any, .any, .any, .any, .any, .any, .any, .any, .any, .any, .any, .any, .any, .any, .any, .any, .any, .any, .any, .any, .any, .any, .any, .any, .any, .any, .any, .any, .any, .any, .dat (.lit (.int .i64 n)), .dat (.lit (.int .i64 n)), .dat (.lit (.bool false)), .any, .any, .any, .any, .any, .any, .any, .any, .any, .any, .any, .any, .any, .any, .any, .any, .any, .any, .any, .any, .any, .any, .any, .any, .any, .any, .any, .any, .any, .any, .any, .any, .any, .any, .any, .any, .any, .any, .any, .any, .any, .any, .any, .any, .any, .any, .any, .any, .any, .any, .any, .any, .any, .any, .any, .any, .any, .any, .any, .any, .any, .any, .any, .any, .any, .any, .any, .any, .any, .any, .any, .any, .any, .any, .any, .any, .any, .any, .any, .any, .any, .any, .any, .any, .any, .any, .any, .any, .any, .any, .any, .any, .any, .any, .any, .any, .any, .any, .any, .any, .any, .any, .any, .any, .any, .any, .any, .any, .any, .any, .any, .any, .any, .any, .any, .any, .any, .any, .any, .any, .any, .any, .any, .any, .any, .any, .any, .any, .any, .any, .any, .any, .any, .any, .any, .any, .any, .any, .any, .any, .any, .any, .any], [none, none, none, none, none, none, none, none, none, none, none, none, none, none, none, none, none, none, none, none, none, none, none, none, none, none, none, none, none, none, none, none, none, none, none, none, none, none, none, none, none, none, none, none, none, none, none, none, none, none, none, none, none, none, none, none, none, none, none, none, some (.row 1 125 (vs.map dg)), none, none, some (.row 1 125 (us.map dg)), none, none, none, none, none, some (.row 1 125 (List.replicate (k + 1) z32 ++ qs.map dg)), none, none, none, none, none, none, none, none, none, none, none, none, none, none, none, none, none, none, none, none, none, none, none, none, none, none, none, none, none, none, none, none, none, none, none, none, none, none, none, none, none, none, none, none, none, none, none, none, none, none, none, none, none, none, none, none, none, none, none, none, none, none, none, none, none, none, none, none, none, none, none, none, none, none, none, none, none, none, none, none, none, none, none, none, none, none, none, none, none, none, none, none, none, none, none, none, none, none, none, none, none, none, none, none, none, none, none, none, none, none, none, none, none, none, none, none, none, none, none, none, none, none, none, none, none, none, none, none, none, none, none, none, none, none, none, none, none, none, none, none, none, none, none, none, none, none, none, none, none, none, none, none, none, none, none, none, none, none, none, none, none, none, none, none, none, none, none, none, none, none, none, none, none, none, none, none, none, none, none, none, none, none, none, none, none, none, none, none, none, none, none, none, none, none, none, none, none, none, none, none, none, none, none, none, none, none, none, none, none, none, none, none, none, none, none, none, none, none, none, none, none, none, none, none, none, none, none, none, none, none, none]⟩
def sDv8 (s n : Nat) (vs us qs : List Nat) (k g c i : Nat) : St := ⟨[.any, .any, .any, .any, .any, .any, .dat (.lit (.int .u64 s)), .dat (.lit (.int .i64 n)), .row 60, .row 63, .row 69, .dat (.lit (.int .i64 k)), .any, .dat (.lit (.int .u64 g)), .any, .any, .any, .any, .any, .any, .any, .any, .dat (.lit (.int .u64 c)), .dat (.lit (.int .i64 i)), .any, .any, .any, .any, .any, .any, .any, .any, .any, .any, .any, .any, .any, .any, .any, .any, .any, .any, .any, .any, .any, .any, .any, .any, .any, .any, .any, .any, .any, .any, .any, .any, .any, .any, .any, .any, .any, .any, .any, .any, .any, .any, .any, .any, .any, .any, .any, .any, .any, .any, .any, .any, .any, .any, .any, .any, .any, .any, .any, .any, .any, .any, .any, .any, .any, .any, .any, .any, .any, .any, .any, .any, .any, .any, .any, .any, .any, .any, .any, .any, .any, .any, .any, .any, .any, .any, .any, .any, .any, .any, .any, .any, .any, .any, .any, .any, .any, .any, .any, .any, .any, .any, .any, .any, .any, .any, .any, .any, .any, .any, .any, .any, .any, .any, .any, .any, .any, .any, .any, .any, .any, .any, .any, .any, .any, .any, .any, .any, .any, .any, .any, .any, .any, .any, .any, .any, .any, .any, .any, .any, .any, .any, .any, .any, .any, .any, .any, .any, .any, .any, .any, .any, .any, .any, .any, .any, .any, .any, .any, .any, .any, .any, .any, .any, .any, .any, .any, .any, .any, .any, .any, .any, .any, .any, .any, .any, .any, .any, .any, .any, .any, .any, .any, .any, .any, .any, .any, .any, .any, .any, .any, .any, .any, .any, .any, .any, .any, .any, .any, .any, .any, .any, .any, .any, .any, .any, .any, .any, .any, .any, .any, .any, .any, .any, .any, .any, .any, .any, .any, .any, .any, .any, .any, .any, .any, .any, .any, .any, .any, .any, .any, .any, .any, .any, .any, .any, .any, .any, .any, .any, .any, .any, .any, .any, .any, .any, .any, .any, .any, .any, .any, .any, .any, .any, .any, .any, .any, .any, .any, .any, .any, .any, .any, .any, .any, .any, .any, .any, .any, .any, .any, .any, .any, .any, .any, .any, .any], [none, none, none, none, none, none, none, none, none, none, none, none, none, none, none, none, none, none, none, none, none, none, none, none, none, none, none, none, none, none, none, none, none, none, none, none, none, none, none, none, none, none, none, none, none, none, none, none, none, none, none, none, none, none, none, none, none, none, none, none, some (.row 1 125 (vs.map dg)), none, none, some (.row 1 125 (us.map dg)), none, none, none, none, none, some (.row 1 125 (List.replicate (k + 1) z32 ++ qs.map dg)), none, none, none, none, none, none, none, none, none, none, none, none, none, none, none, none, none, none, none, none, none, none, none, none, none, none, none, none, none, none, none, none, none, none, none, none, none, none, none, none, none, none, none, none, none, none, none, none, none, none, none, none, none, none, none, none, none, none, none, none, none, none, none, none, none, none, none, none, none, none, none, none, none, none, none, none, none, none, none, none, none, none, none, none, none, none, none, none, none, none, none, none, none, none, none, none, none, none, none, none, none, none, none, none, none, none, none, none, none, none, none, none, none, none, none, none, none, none, none, none, none, none, none, none, none, none, none, none, none, none, none, none, none, none, none, none, none, none, none, none, none, none, none, none, none, none, none, none, none, none, none, none, none, none, none, none, none, none, none, none, none, none, none, none, none, none, none, none, none, none, none, none, none, none, none, none, none, none, none, none, none, none, none, none, none, none, none, none, none, none, none, none, none, none, none, none, none, none, none, none, none, none, none, none, none, none, none, none, none, none, none, none, none, none, none, none, none, none, none, none, none, none, none, none, none, none, none, none, none, none, none]⟩
def sDe8 (s n : Nat) (vs us qs : List Nat) (k g c : Nat) : St := ⟨[.any, .any, .any, .any, .any, .any, .dat (.lit (.int .u64 s)), .dat (.lit (.int .i64 n)), .row 60, .row 63, .row 69, .dat (.lit (.int .i64 k)), .any, .dat (.lit (.int .u64 g)), .any, .any, .any, .any, .any, .any, .any, .any, .dat (.lit (.int .u64 c)), .dat (.lit (.int .i64 n)), .any, .any, .any, .any, .any, .any, .any, .any, .any, .any, .any, .any, .any, .any, .any, .any, .any, .any, .any, .any, .any, .any, .any, .any, .any, .any, .any, .any, .any, .any, .any, .any, .any, .any, .any, .any, .any, .any, .any, .any, .any, .any, .any, .any, .any, .any, .any, .any, .any, .any, .any, .any, .any, .any, .any, .any, .any, .any, .any, .any, .any, .any, .any, .any, .any, .any, .any, .any, .any, .any, .any, .any, .any, .any, .any, .any, .any, .any, .any, .any, .any, .any, .any, .any, .any, .any, .any, .any, .any, .any, .any, .any, .any, .any, .any, .any, .any, .any, .any, .any, .any, .any, .any, .any, .any, .any, .any, .any, .any, .any, .any, .any, .any, .any, .any, .any, .any, .any, .any, .any, .any, .any, .any, .any, .any, .any, .any, .any, .any, .any, .any, .any, .any, .any, .any, .any, .any, .any, .any, .any, .any, .any, .any, .any, .any, .any, .any, .any, .any, .any, .any, .any, .any, .any, .any, .any, .any, .any, .any, .any, .any, .any, .any, .any, .any, .any, .any, .any, .any, .any, .any, .any, .any, .any, .any, .any, .any, .any, .any, .any, .any, .any, .any, .any, .any, .any, .any, .any, .any, .any, .any, .dat (.lit (.int .i64 n)), .dat (.lit (.int .i64 n)), .dat (.lit (.bool false)), .any, .any, .any, .any, .any, .any, .any, .any, .any, .any, .any, .any, .any, .any, .any, .any, .any, .any, .any, .any, .any, .any, .any, .any, .any, .any, .any, .any, .any, .any, .any, .any, .any, .any, .any, .any, .any, .any, .any, .any, .any, .any, .any, .any, .any, .any, .any, .any, .any, .any, .any, .any, .any, .any, .any, .any, .any, .any, .any, .any, .any, .any, .any, .any, .any, .any, .any, .any, .any, .any, .any, .any, .any, .any, .any, .any, .any, .any, .any, .any, .any, .any, .any], [none, none, none, none, none, none, none, none, none, none, none, none, none, none, none, none, none, none, none, none, none, none, none, none, none, none, none, none, none, none, none, none, none, none, none, none, none, none, none, none, none, none, none, none, none, none, none, none, none, none, none, none, none, none, none, none, none, none, none, none, some (.row 1 125 (vs.map dg)), none, none, some (.row 1 125 (us.map dg)), none, none, none, none, none, some (.row 1 125 (List.replicate (k + 1) z32 ++ qs.map dg)), none, none, none, none, none, none, none, none, none, none, none, none, none, none, none, none, none, none, none, none, none, none, none, none, none, none, none, none, none, none, none, none, none, none, none, none, none, none, none, none, none, none, none, none, none, none, none, none, none, none, none, none, none, none, none, none, none, none, none, none, none, none, none, none, none, none, none, none, none, none, none, none, none, none, none, none, none, none, none, none, none, none, none, none, none, none, none, none, none, none, none, none, none, none, none, none, none, none, none, none, none, none, none, none, none, none, none, none, none, none, none, none, none, none, none, none, none, none, none, none, none, none, none, none, none, none, none, none, none, none, none, none, none, none, none, none, none, none, none, none, none, none, none, none, none, none, none, none, none, none, none, none, none, none, none, none, none, none, none, none, none, none, none, none, none, none, none, none, none, none, none, none, none, none, none, none, none, none, none, none, none, none, none, none, none, none, none, none, none, none, none, none, none, none, none, none, none, none, none, none, none, none, none, none, none, none, none, none, none, none, none, none, none, none, none, none, none, none, none, none, none, none, none, none, none, none, none, none, none, none, none]⟩
set_option maxRecDepth 100000 in
set_option maxHeartbeats 4000000 in
theorem sSub6 {s n : Nat} {vs us qs : List Nat} {k g : Nat} (hvs : Digs vs) (hus : Digs us) (hvl : vs.length = n) (hkn : k + n < us.length) (hul : us.length < 2 ^ 41) (hg : g < 4294967296) (st : St) (h0 : Snd st (sDv6 s n vs us qs k g 0 0 0)) (K : Exit → St → Prop)
    (hK : ∀ os c b, Digs os → os.length = n → c < 4294967296 → b ≤ 1 → val os + g * val vs = val (part us k n) + B ^ n * (b + c) → ∀ Z, Z = us.take k ++ os ++ us.drop (k + n) → K .normal (sDe6 s n vs Z qs k g c b)) :
    awp Try.prog sDivMf (tbl sDivTb) (.loop sdL6) st (Kblk 6 K) := by
  simp only [sdL6, sdX, sdM, sdB, Try.f107, Option.getD, sq1, sq2, inB, inL]
  refine loop_go (fun m st => ∃ (os : List Nat) (c b : Nat), Digs os ∧ c < 4294967296 ∧ b ≤ 1 ∧ os.length + m = n ∧ val os + g * val (vs.take os.length) = val (part us k os.length) + B ^ os.length * (b + c) ∧
      st = sDv6 s n vs (us.take k ++ os ++ us.drop (k + os.length)) qs k g c b os.length) (n := n) h0 ⟨[], 0, 0, Digs.nil, by omega, by omega, by simp, by simp [val, part], by simp⟩ ?_
  rintro m st ⟨os, c, b, hos, hc, hb, hl, hv, rfl⟩ KN hN
  cases m with
  | zero =>
    have hln : os.length = n := by omega
    rw [hln, ← hvl, List.take_length, hvl] at hv
    have hfin := hK os c b hos hln hc hb hv _ rfl
    rw [hln]
    generalize us.take k ++ os ++ us.drop (k + n) = Z at hfin ⊢
    simp only [sDe6] at hfin
    simp [sDv6]
    exact hfin
  | succ m =>
    obtain ⟨x, hxx⟩ : ∃ x, x = us.getD (k + os.length) 0 := ⟨_, rfl⟩
    obtain ⟨v, hvv⟩ : ∃ v, v = vs.getD os.length 0 := ⟨_, rfl⟩
    have hxB : x < 4294967296 := by rw [hxx]; exact getD_lt hus _
    have hvB : v < 4294967296 := by rw [hvv]; exact getD_lt hvs _
    have hvl2 : os.length < vs.length := by omega
    have hR : us.drop (k + os.length) = x :: us.drop (k + os.length + 1) := by rw [hxx]; exact drop_cons (by omega)
    have hL : (us.take k ++ os).length = k + os.length := by simp; omega
    generalize hLL : us.take k ++ os = L at *
    rw [hR]
    have e1 := ix_at L (us.drop (k + os.length + 1)) x
    have hgv : g * v ≤ 4294967295 * 4294967295 := Nat.mul_le_mul (by omega) (by omega)
    obtain ⟨p, hp⟩ : ∃ p, p = g * v + c := ⟨_, rfl⟩
    have hpB : p < 18446744073709551616 := by omega
    obtain ⟨c', lp, hlp, hcut, w1, w2⟩ := cut32 (p : Int) p rfl
    have hlp2 : lp = p % 4294967296 := by simp only [B] at *; omega
    have w3 := and_low p hpB
    rw [← hlp2] at w3
    have hlpB : lp < 4294967296 := hlp
    obtain ⟨t1, t2, b', d, hdB, hb', hsub, q5, q6, q7, q8⟩ := bor64b x lp b hxB hlpB hb
    have e2 := lset_at L (us.drop (k + os.length + 1)) x d
    have q1 : IntKind.u64.wrap (v : Int) = v := by rw [wrap_u64]; omega
    have q2 : IntKind.u64.wrap (x : Int) = x := by rw [wrap_u64]; omega
    obtain ⟨gv, hgv'⟩ : ∃ gv, gv = g * v := ⟨_, rfl⟩
    have q3 : (g : Int) * v = gv := by rw [hgv']; exact (Int.natCast_mul _ _).symm
    have q4 : IntKind.u64.wrap (gv : Int) = gv := by rw [wrap_u64]; omega
    have q9 : IntKind.u64.wrap ((gv : Int) + c) = p := by rw [wrap_u64]; omega
    have q10 : IntKind.i64.wrap ((os.length : Int) + 1) = os.length + 1 := by rw [wrap_i64]; omega
    have q11 : IntKind.i64.wrap ((os.length : Int) + k) = L.length := by rw [wrap_i64]; omega
    have q12 : (os.length : Int) < n := by omega
    have e3 := ix_dg vs _ hvl2
    rw [← hvv] at e3
    have hnext : ∀ s', Snd s' (sDv6 s n vs (L ++ d :: us.drop (k + os.length + 1)) qs k g c' b' (os.length + 1)) → KN s' := by
      intro s' hs
      refine hN _ (nx (m := m) hs ⟨os ++ [d], c', b', hos.append (Digs.nil.cons hdB), ?_, hb', ?_, ?_, ?_⟩ (by omega))
      · simp only [B] at hcut; omega
      · simp only [List.length_append, List.length_singleton]; omega
      · rw [val_snoc, List.length_append, List.length_singleton, val_take_getD, ← hvv, part_snoc us k _ (by omega), val_snoc, part_len us k _ (by omega), ← hxx, Nat.pow_succ]
        have h1 := congrArg (B ^ os.length * ·) hsub
        have h2 := congrArg (B ^ os.length * ·) (hcut.trans hp)
        simp only [Nat.mul_add] at h1 h2 hv ⊢
        have h3 : g * (B ^ os.length * v) = B ^ os.length * (g * v) := by simp only [Nat.mul_left_comm]
        have h4 : B ^ os.length * B * b' = B ^ os.length * (B * b') := Nat.mul_assoc _ _ _
        have h5 : B ^ os.length * B * c' = B ^ os.length * (B * c') := Nat.mul_assoc _ _ _
        rw [h3, h4, h5]
        omega
      · rw [← hLL, List.length_append, List.length_singleton, ← Nat.add_assoc]
        simp only [List.append_assoc, List.singleton_append]
    have hZl : (L ++ x :: us.drop (k + os.length + 1)).length = us.length := by
      rw [List.length_append, List.length_cons, List.length_drop, hL]; omega
    have hZl2 : (L ++ d :: us.drop (k + os.length + 1)).length = us.length := by
      rw [List.length_append, List.length_cons, List.length_drop, hL]; omega
    generalize hZ : L ++ x :: us.drop (k + os.length + 1) = Z at *
    generalize hZ' : L ++ d :: us.drop (k + os.length + 1) = Z' at *
    have q13 : L.length < Z.length := by omega
    generalize L.length = ll at *
    simp [sDv6, dg, hvl2, e3, e1, e2, q1, q2, q3, q4, q5, q6, q7, q8, q9, q10, q11, q12, q13, w1, w2, w3]
    exact hnext _ (snd_of (by simp [LeT, sDv6]) (by simp [sDv6]))
set_option maxRecDepth 100000 in
set_option maxHeartbeats 4000000 in
theorem sAdd8 {s n : Nat} {vs us qs : List Nat} {k g : Nat} (hvs : Digs vs) (hus : Digs us) (hvl : vs.length = n) (hkn : k + n < us.length) (hul : us.length < 2 ^ 41) (st : St) (h0 : Snd st (sDv8 s n vs us qs k g 0 0)) (K : Exit → St → Prop)
    (hK : ∀ os c, Digs os → os.length = n → c ≤ 1 → val os + B ^ n * c = val (part us k n) + val vs → ∀ Z, Z = us.take k ++ os ++ us.drop (k + n) → K .normal (sDe8 s n vs Z qs k g c)) :
    awp Try.prog sDivMf (tbl sDivTb) (.loop sdL8) st (Kblk 8 K) := by
  simp only [sdL8, sdX, sdM, sdB, Try.f107, Option.getD, sq1, sq2, inB, inL, inC]
  refine loop_go (fun m st => ∃ (os : List Nat) (c : Nat), Digs os ∧ c ≤ 1 ∧ os.length + m = n ∧ val os + B ^ os.length * c = val (part us k os.length) + val (vs.take os.length) ∧
      st = sDv8 s n vs (us.take k ++ os ++ us.drop (k + os.length)) qs k g c os.length) (n := n) h0 ⟨[], 0, Digs.nil, by omega, by simp, by simp [val, part], by simp⟩ ?_
  rintro m st ⟨os, c, hos, hc, hl, hv, rfl⟩ KN hN
  cases m with
  | zero =>
    have hln : os.length = n := by omega
    rw [hln, ← hvl, List.take_length, hvl] at hv
    have hfin := hK os c hos hln hc hv _ rfl
    rw [hln]
    generalize us.take k ++ os ++ us.drop (k + n) = Z at hfin ⊢
    simp only [sDe8] at hfin
    simp [sDv8]
    exact hfin
  | succ m =>
    obtain ⟨x, hxx⟩ : ∃ x, x = us.getD (k + os.length) 0 := ⟨_, rfl⟩
    obtain ⟨v, hvv⟩ : ∃ v, v = vs.getD os.length 0 := ⟨_, rfl⟩
    have hxB : x < 4294967296 := by rw [hxx]; exact getD_lt hus _
    have hvB : v < 4294967296 := by rw [hvv]; exact getD_lt hvs _
    have hvl2 : os.length < vs.length := by omega
    have hR : us.drop (k + os.length) = x :: us.drop (k + os.length + 1) := by rw [hxx]; exact drop_cons (by omega)
    have hL : (us.take k ++ os).length = k + os.length := by simp; omega
    generalize hLL : us.take k ++ os = L at *
    rw [hR]
    have e1 := ix_at L (us.drop (k + os.length + 1)) x
    obtain ⟨c', d, hdB, hcut, w1, w2⟩ := cut32 ((x : Int) + v + c) (x + v + c) (by omega)
    have e2 := lset_at L (us.drop (k + os.length + 1)) x d
    have q1 : IntKind.u64.wrap (v : Int) = v := by rw [wrap_u64]; omega
    have q2 : IntKind.u64.wrap (x : Int) = x := by rw [wrap_u64]; omega
    have q4 : IntKind.u64.wrap ((x : Int) + v) = x + v := by rw [wrap_u64]; omega
    have q9 : IntKind.u64.wrap ((x : Int) + v + c) = x + v + c := by rw [wrap_u64]; omega
    have q10 : IntKind.i64.wrap ((os.length : Int) + 1) = os.length + 1 := by rw [wrap_i64]; omega
    have q11 : IntKind.i64.wrap ((os.length : Int) + k) = L.length := by rw [wrap_i64]; omega
    have q12 : (os.length : Int) < n := by omega
    have e3 := ix_dg vs _ hvl2
    rw [← hvv] at e3
    have hnext : ∀ s', Snd s' (sDv8 s n vs (L ++ d :: us.drop (k + os.length + 1)) qs k g c' (os.length + 1)) → KN s' := by
      intro s' hs
      refine hN _ (nx (m := m) hs ⟨os ++ [d], c', hos.append (Digs.nil.cons hdB), ?_, ?_, ?_, ?_⟩ (by omega))
      · simp only [B] at hcut; omega
      · simp only [List.length_append, List.length_singleton]; omega
      · rw [val_snoc, List.length_append, List.length_singleton, val_take_getD, ← hvv, part_snoc us k _ (by omega), val_snoc, part_len us k _ (by omega), ← hxx, Nat.pow_succ]
        have h1 := congrArg (B ^ os.length * ·) hcut
        simp only [Nat.mul_add] at h1
        have h5 : B ^ os.length * B * c' = B ^ os.length * (B * c') := Nat.mul_assoc _ _ _
        rw [h5]
        omega
      · rw [← hLL, List.length_append, List.length_singleton, ← Nat.add_assoc]
        simp only [List.append_assoc, List.singleton_append]
    have hZl : (L ++ x :: us.drop (k + os.length + 1)).length = us.length := by
      rw [List.length_append, List.length_cons, List.length_drop, hL]; omega
    have hZl2 : (L ++ d :: us.drop (k + os.length + 1)).length = us.length := by
      rw [List.length_append, List.length_cons, List.length_drop, hL]; omega
    generalize hZ : L ++ x :: us.drop (k + os.length + 1) = Z at *
    generalize hZ' : L ++ d :: us.drop (k + os.length + 1) = Z' at *
    have q13 : L.length < Z.length := by omega
    generalize L.length = ll at *
    simp [sDv8, dg, hvl2, e3, e1, e2, q1, q2, q4, q9, q10, q11, q12, q13, w1, w2]
    exact hnext _ (snd_of (by simp [LeT, sDv8]) (by simp [sDv8]))
end Go.Proofs.Ytcgolmopbnhgeaa.Ae

namespace Go.Proofs.Ytcgolmopbnhgeaa.Ae
open Go Go.RowKit Go.Proofs.Ytcgolmopbnhgeaa.Dig
theorem put_of {us os : List Nat} {k n d x : Nat} (hos : Digs os) (hd : d < B) (hl : os.length = n) (hk : k + n < us.length) (hv : val os + B ^ n * d = x) : us.take k ++ os ++ d :: us.drop (k + n + 1) = put us k (n + 1) x := by
  unfold put
  rw [dig_of (hos.append (Digs.nil.cons hd)) (by simp [hl]) (by rw [val_snoc, hl]; exact hv)]
  simp only [List.append_assoc, List.singleton_append, ← Nat.add_assoc]
theorem top_lt {os : List Nat} {n d : Nat} (hos : Digs os) (hd : d < B) (hl : os.length = n) : val os + B ^ n * d < B ^ (n + 1) := by
  have h1 := val_lt (hos.append (Digs.nil.cons hd))
  rw [val_snoc, List.length_append, List.length_singleton, hl] at h1
  exact h1
theorem taken {us os vs : List Nat} {k n d c b b' u0 g : Nat} (hos : Digs os) (hol : os.length = n) (hkn : k + n < us.length) (hu0 : u0 = us.getD (k + n) 0) (hsub : d + c + b = u0 + B * b') (hv : val os + g * val vs = val (part us k n) + B ^ n * (b + c)) :
    (val os + B ^ n * d) + g * val vs = val (part us k (n + 1)) + B ^ (n + 1) * b' := by
  rw [part_snoc us k n (by omega), val_snoc, part_len us k n (by omega), ← hu0, Nat.pow_succ, Nat.mul_assoc]
  have h1 := congrArg (B ^ n * ·) hsub
  simp only [Nat.mul_add] at h1 hv
  omega
theorem given {us os vs : List Nat} {k n d c e x : Nat} (hos : Digs os) (hd : d < B) (hol : os.length = n) (hkn : k + n < us.length) (hx : x = us.getD (k + n) 0) (hcut : d + B * e = x + c) (hv : val os + B ^ n * c = val (part us k n) + val vs) :
    val os + B ^ n * d = (val (part us k (n + 1)) + val vs) % B ^ (n + 1) := by
  have h0 := top_lt hos hd hol
  have h2 : (val os + B ^ n * d) + B ^ (n + 1) * e = val (part us k (n + 1)) + val vs := by
    rw [part_snoc us k n (by omega), val_snoc, part_len us k n (by omega), ← hx, Nat.pow_succ, Nat.mul_assoc]
    have h1 := congrArg (B ^ n * ·) hcut
    simp only [Nat.mul_add] at h1 hv
    omega
  rw [← h2, Nat.add_mul_mod_self_left, Nat.mod_eq_of_lt h0]
theorem round_end {us us2 : List Nat} {k np V W q : Nat} (h1 : Digs us2) (h2 : us2.length = us.length) (hV0 : 0 < V) (h3 : q = W / V) (hz : val (us.drop (k + np)) = 0) (h4 : val us2 + B ^ k * W = val us + B ^ k * (W % V)) (h5 : val (us2.drop k) = W % V + B ^ np * val (us.drop (k + np))) :
    val (us2.drop k) < V ∧ val us2 + V * B ^ k * q = val us := by
  refine ⟨by rw [h5, hz, Nat.mul_zero, Nat.add_zero]; exact Nat.mod_lt _ hV0, ?_⟩
  have h6 := Nat.div_add_mod W V
  rw [← h3] at h6
  have h7 := congrArg (B ^ k * ·) h6
  simp only [Nat.mul_add] at h7
  have h8 : V * B ^ k * q = B ^ k * (V * q) := by simp only [Nat.mul_assoc, Nat.mul_comm, Nat.mul_left_comm]
  rw [h8]
  omega
theorem round0 {us : List Nat} {k np V W g X : Nat} (hus : Digs us) (hk : k + np ≤ us.length) (hW : W = val (part us k np)) (hV0 : 0 < V) (hWM : W < B ^ np) (hVM : V ≤ B ^ np) (hz : val (us.drop (k + np)) = 0) (hWg : W / V ≤ g) (hgW : g ≤ W / V + 1) (hXB : X < B ^ np) (hX : X + g * V = W) :
    Digs (put us k np X) ∧ (put us k np X).length = us.length ∧ val ((put us k np X).drop k) < V ∧ val (put us k np X) + V * B ^ k * g = val us := by
  obtain ⟨f1, f2⟩ := (rest_of hV0 hWM hVM hWg hgW).2 (by omega)
  obtain ⟨a1, a2, a3, a4, a5⟩ := put_val hus hk hXB
  have hX2 : X = W % V := by omega
  rw [← hW] at a3
  rw [hX2] at a1 a2 a3 a4 ⊢
  obtain ⟨r1, r2⟩ := round_end a1 a2 hV0 f1 hz a3 a4
  exact ⟨a1, a2, r1, r2⟩
theorem round1 {us : List Nat} {k np V W g X : Nat} (hus : Digs us) (hk : k + np ≤ us.length) (hW : W = val (part us k np)) (hV0 : 0 < V) (hWM : W < B ^ np) (hVM : V ≤ B ^ np) (hz : val (us.drop (k + np)) = 0) (hWg : W / V ≤ g) (hgW : g ≤ W / V + 1) (hXB : X < B ^ np) (hX : X + g * V = W + B ^ np) :
    1 ≤ g ∧ Digs (put us k np X) ∧ (put us k np X).length = us.length ∧ ∀ Y, Y = (val (part (put us k np X) k np) + V) % B ^ np → Digs (put (put us k np X) k np Y) ∧ (put (put us k np X) k np Y).length = us.length ∧ val ((put (put us k np X) k np Y).drop k) < V ∧ val (put (put us k np X) k np Y) + V * B ^ k * (g - 1) = val us := by
  have hWV : W < g * V := by omega
  obtain ⟨f1, f2⟩ := (rest_of hV0 hWM hVM hWg hgW).1 hWV
  obtain ⟨a1, a2, a3, a4, a5⟩ := put_val hus hk hXB
  have hX2 : W + B ^ np - g * V = X := by omega
  rw [hX2] at f2
  have hg0 : 1 ≤ g := by
    rcases Nat.eq_zero_or_pos g with h | h
    · rw [h, Nat.zero_mul] at hWV; omega
    · exact h
  refine ⟨hg0, a1, a2, ?_⟩
  rintro Y hY
  rw [a5, val_dig np _ hXB, f2] at hY
  have hYB : Y < B ^ np := by rw [hY]; exact Nat.lt_of_lt_of_le (Nat.mod_lt _ hV0) hVM
  obtain ⟨b1, b2, b3, b4, b5⟩ := put_val a1 (by omega : k + np ≤ (put us k np X).length) hYB
  have hdr2 : (put us k np X).drop (k + np) = us.drop (k + np) := by
    unfold put
    have : ∀ (P Q : List Nat), P.length = k + np → (P ++ Q).drop (k + np) = Q := fun P Q h => by rw [← h, List.drop_left]
    exact this _ _ (by rw [List.length_append, dig_len, List.length_take, Nat.min_eq_left (by omega)])
  rw [hdr2] at b4
  rw [a5, val_dig np _ hXB] at b3
  rw [← hW] at a3
  rw [hY] at b1 b2 b3 b4 ⊢
  obtain ⟨r1, r2⟩ := round_end b1 (by omega) hV0 f1 hz (by
    generalize B ^ k * X = z at *
    omega) b4
  exact ⟨b1, by omega, r1, r2⟩
end Go.Proofs.Ytcgolmopbnhgeaa.Ae

namespace Go.Proofs.Ytcgolmopbnhgeaa.Ae
open Go Go.RowKit Go.Proofs.Ytcgolmopbnhgeaa.Dig
def sDvS (s n : Nat) (vs us qs : List Nat) (k : Nat) : St := ⟨[.any, .any, .any, .any, .any, .any, .dat (.lit (.int .u64 s)), .dat (.lit (.int .i64 n)), .row 60, .row 63, .row 69, .dat (.lit (.int .i64 ((k : Int) - 1))), .any, .any, .any, .any, .any, .any, .any, .any, .any, .any, .any, .any, .any, .any, .any, .any, .any, .any, .any, .any, .any, .any, .any, .any, .any, .any, .any, .any, .any, .any, .any, .any, .any, .any, .any, .any, .any, .any, .any, .any, .any, .any, .any, .any, .any, .any, .any, .any, .any, .any, .any, .any, .any, .any, .any, .any, .any, .any, .any, .any, .any, .any, .any, .any, .any, .any, .any, .any, .any, .any, .any, .any, .any, .any, .any, .any, .any, .any, .any, .any, .any, .any, .any, .any, .any, .any, .any, .any, .any, .any, .any, .any, .any, .any, .any, .any, .any, .any, .any, .any, .any, .any, .any, .any, .any, .any, .any, .any, .any, .any, .any, .any, .any, .any, .any, .any, .any, .any, .any, .any, .any, .any, .any, .any, .any, .any, .any, .any, .any, .any, .any, .any, .any, .any, .any, .any, .any, .any, .any, .any, .any, .any, .any, .any, .any, .any, .any, .any, .any, .any, .any, .any, .any, .any, .any, .any, .any, .any, .any, .any, .any, .any, .any, .any, .any, .any, .any, .any, .any, .any, .any, .any, .any, .any, .any, .any, .any, .any, .any, .any, .any, .any, .any, .any, .any, .any, .any, .any, .any, .any, .any, .any, .any, .any, .any, .any, .any, .any, .any, .any, .any, .any, .any, .any, .any, .any, .any, .any, .any, .any, .any, .any, .any, .any, .any, .any, .any, .any, .any, .any, .any, .any, .any, .any, .any, .any, .any, .any, .any, .any, .any, .any, .any, .any, .any, .any, .any, .any, .any, .any, .any, .any, .any, .any, .any, .any, .any, .any, .any, .any, .any, .any, .any, .any, .any, .any, .any, .any, .any, .any, .any, .any, .any, .any, .any, .any, .any, .any, .any, .any, .any, .any, .any, .any, .any, .any, .any, .any, .any, .any, .any, .any, .any, .any, .any, .any, .any, .any, .any], [none, none, none, none, none, none, none, none, none, none, none, none, none, none, none, none, none, none, none, none, none, none, none, none, none, none, none, none, none, none, none, none, none, none, none, none, none, none, none, none, none, none, none, none, none, none, none, none, none, none, none, none, none, none, none, none, none, none, none, none, some (.row 1 125 (vs.map dg)), none, none, some (.row 1 125 (us.map dg)), none, none, none, none, none, some (.row 1 125 (List.replicate k z32 ++ qs.map dg)), none, none, none, none, none, none, none, none, none, none, none, none, none, none, none, none, none, none, none, none, none, none, none, none, none, none, none, none, none, none, none, none, none, none, none, none, none, none, none, none, none, none, none, none, none, none, none, none, none, none, none, none, none, none, none, none, none, none, none, none, none, none, none, none, none, none, none, none, none, none, none, none, none, none, none, none, none, none, none, none, none, none, none, none, none, none, none, none, none, none, none, none, none, none, none, none, none, none, none, none, none, none, none, none, none, none, none, none, none, none, none, none, none, none, none, none, none, none, none, none, none, none, none, none, none, none, none, none, none, none, none, none, none, none, none, none, none, none, none, none, none, none, none, none, none, none, none, none, none, none, none, none, none, none, none, none, none, none, none, none, none, none, none, none, none, none, none, none, none, none, none, none, none, none, none, none, none, none, none, none, none, none, none, none, none, none, none, none, none, none, none, none, none, none, none, none, none, none, none, none, none, none, none, none, none, none, none, none, none, none, none, none, none, none, none, none, none, none, none, none, none, none, none, none, none, none, none, none, none, none, none]⟩
def sDv4 (s n : Nat) (vs us qs : List Nat) (k g r m : Nat) : St := ⟨[.any, .any, .any, .any, .any, .any, .dat (.lit (.int .u64 s)), .dat (.lit (.int .i64 n)), .row 60, .row 63, .row 69, .dat (.lit (.int .i64 k)), .any, .dat (.lit (.int .u64 g)), .dat (.lit (.int .u64 r)), .dat (.lit (.int .i64 m)), .any, .any, .any, .any, .any, .any, .any, .any, .any, .any, .any, .any, .any, .any, .any, .any, .any, .any, .any, .any, .any, .any, .any, .any, .any, .any, .any, .any, .any, .any, .any, .any, .any, .any, .any, .any, .any, .any, .any, .any, .any, .any, .any, .any, .any, .any, .any, .any, .any, .any, .any, .any, .any, .any, .any, .any, .any, .any, .any, .any, .any, .any, .any, .any, .any, .any, .any, .any, .any, .any, .any, .any, .any, .any, .any, .any, .any, .any, .any, .any, .any, .any, .any, .any, .any, .any, .any, .any, .any, .any, .any, .any, .any, .any, .any, .any, .any, .any, .any, .any, .any, .any, .any, .any, .any, .any, .any, .any, .any, .any, .any, .any, .any, .any, .any, .any, .any, .any, .any, .any, .any, .any, .any, .any, .any, .any, .any, .any, .any, .any, .any, .any, .any, .any, .any, .any, .any, .any, .any, .any, .any, .any, .any, .any, .any, .any, .any, .any, .any, .any, .any, .any, .any, .any, .any, .any, .any, .any, .any, .any, .any, .any, .any, .any, .any, .any, .any, .any, .any, .any, .any, .any, .any, .any, .any, .any, .any, .any, .any, .any, .any, .any, .any, .any, .any, .any, .any, .any, .any, .any, .any, .any, .any, .any, .any, .any, .any, .any, .any, .any, .any, .any, .any, .any, .any, .any, .any, .any, .any, .any, .any, .any, .any, .any, .any, .any, .any, .any, .any, .any, .any, .any, .any, .any, .any, .any, .any, .any, .any, .any, .any, .any, .any, .any, .any, .any, .any, .any, .any, .any, .any, .any, .any, .any, .any, .any, .any, .any, .any, .any, .any, .any, .any, .any, .any, .any, .any, .any, .any, .any, .any, .any, .any, .any, .any, .any, .any, .any, .any, .any, .any, .any, .any, .any, .any, .any, .any, .any, .any, .any, .any, .any, .any, .any, .any], [none, none, none, none, none, none, none, none, none, none, none, none, none, none, none, none, none, none, none, none, none, none, none, none, none, none, none, none, none, none, none, none, none, none, none, none, none, none, none, none, none, none, none, none, none, none, none, none, none, none, none, none, none, none, none, none, none, none, none, none, some (.row 1 125 (vs.map dg)), none, none, some (.row 1 125 (us.map dg)), none, none, none, none, none, some (.row 1 125 (List.replicate (k + 1) z32 ++ qs.map dg)), none, none, none, none, none, none, none, none, none, none, none, none, none, none, none, none, none, none, none, none, none, none, none, none, none, none, none, none, none, none, none, none, none, none, none, none, none, none, none, none, none, none, none, none, none, none, none, none, none, none, none, none, none, none, none, none, none, none, none, none, none, none, none, none, none, none, none, none, none, none, none, none, none, none, none, none, none, none, none, none, none, none, none, none, none, none, none, none, none, none, none, none, none, none, none, none, none, none, none, none, none, none, none, none, none, none, none, none, none, none, none, none, none, none, none, none, none, none, none, none, none, none, none, none, none, none, none, none, none, none, none, none, none, none, none, none, none, none, none, none, none, none, none, none, none, none, none, none, none, none, none, none, none, none, none, none, none, none, none, none, none, none, none, none, none, none, none, none, none, none, none, none, none, none, none, none, none, none, none, none, none, none, none, none, none, none, none, none, none, none, none, none, none, none, none, none, none, none, none, none, none, none, none, none, none, none, none, none, none, none, none, none, none, none, none, none, none, none, none, none, none, none, none, none, none, none, none, none, none, none, none]⟩
noncomputable def sdT : Code := sq2 (sq2 (sq2 (sq2 (sq2 (sq2 (sq2 sdX))))))
noncomputable def sdZ : Code := sq2 (sq2 sdM)
set_option maxRecDepth 100000 in
set_option maxHeartbeats 4000000 in
theorem sDiv_end {s n V k g W u0 : Nat} {us qs : List Nat} (hVl : (mag V).length = n) (hus : Digs us) (hul : us.length < 2 ^ 41) (hkn : k + n < us.length) (hu0 : u0 = us.getD (k + n) 0) (hgB : g < 4294967296) (hW : W = val (part us k (n + 1))) (hV0 : 0 < V) (hVM : V ≤ B ^ (n + 1)) (hz : val (us.drop (k + (n + 1))) = 0) (hWg : W / V ≤ g) (hgW : g ≤ W / V + 1) (hgs : g - 1 = g - 1)
    (KN : St → Prop) (K : Exit → St → Prop) (hN : ∀ us' q, Digs us' → us'.length = us.length → val (us'.drop k) < V → q ≤ g → val us' + V * B ^ k * q = val us → ∀ s', Snd s' (sDvS s n (mag V) us' (q :: qs) k) → KN s')
    (st : St) (h0 : Snd st (sDv6 s n (mag V) us qs k g 0 0 0)) :
    awp Try.prog sDivMf (tbl sDivTb) (.loop sdL6) st (Kblk 6 (Kseq Try.prog sDivMf (tbl sDivTb) sdT (Kblk 3 (Kseq Try.prog sDivMf (tbl sDivTb) sdZ (Klp KN K))))) := by
  have hVm : val (mag V) = V := val_mag V
  have hWM : W < B ^ (n + 1) := by rw [hW]; have := val_lt (part_digs hus k (n + 1)); rwa [part_len us k (n + 1) (by omega)] at this
  refine sSub6 (mag_digs V) hus hVl hkn hul hgB st h0 _ ?_
  intro os c b hos hol hcB hbB hv Z hZ
  have hu0B : u0 < 4294967296 := by rw [hu0]; exact getD_lt hus _
  obtain ⟨t1, t2, b', d, hdB, hb', hsub, q5, q6, q7, q8⟩ := bor64b u0 c b hu0B hcB hbB
  have hX := taken hos hol hkn hu0 hsub hv
  have hXB := top_lt hos hdB hol
  rw [hVm, ← hW] at hX
  obtain ⟨kn, hkn1⟩ : ∃ x, x = k + n := ⟨_, rfl⟩
  have hkd : us.drop (k + n) = u0 :: us.drop (k + n + 1) := by rw [hu0]; exact drop_cons hkn
  have hLl : (us.take k ++ os).length = kn := by simp; omega
  have e1 := ix_at (us.take k ++ os) (us.drop (k + n + 1)) u0
  have e2 := lset_at (us.take k ++ os) (us.drop (k + n + 1)) u0 d
  rw [← hkd, ← hZ, hLl] at e1
  rw [← hkd, ← hZ, hLl] at e2
  have hZl : Z.length = us.length := by rw [hZ, List.length_append, hLl, List.length_drop]; omega
  have hus1 := put_of (us := us) (k := k) hos hdB hol hkn rfl
  rw [hus1] at e2
  generalize val os + B ^ n * d = X at hX hXB e2
  have z0 : IntKind.u64.wrap (u0 : Int) = u0 := by rw [wrap_u64]; omega
  have z5 : kn < Z.length := by omega
  have p1 : IntKind.i64.wrap ((k : Int) + n) = kn := by rw [wrap_i64]; omega
  have p11 : IntKind.i64.wrap ((k : Int) - 1) = (k : Int) - 1 := by rw [wrap_i64]; omega
  have hk1 : (k : Int) < k + 1 + qs.length := by omega
  have hknp : k + (n + 1) ≤ us.length := by omega
  clear hus1 hkd hLl hZ hsub hv hos
  simp only [kseq_n]
  rcases Nat.le_one_iff_eq_zero_or_eq_one.1 hb' with rfl | rfl
  · rw [Nat.mul_zero, Nat.add_zero] at hX
    obtain ⟨a1, a2, a3, a4⟩ := round0 hus hknp hW hV0 hWM hVM hz hWg hgW hXB hX
    have hfin := hN _ g a1 a2 a3 (Nat.le_refl _) a4
    generalize put us k (n + 1) X = us1 at *
    have z1 : IntKind.u32.wrap (g : Int) = g := by rw [wrap_u32]; omega
    clear a3 a4 hN hXB hX hWg hgW hz hVM hWM hW hV0
    simp at q8
    simp only [sdT, sdZ, sdX, sdM, sdB, Try.f107, Option.getD, sq1, sq2, inB, inL, inC]
    simp [sDe6, p1, e1, e2, dg, z0, z1, z5, q5, q6, q7, q8, p11, hk1, ix_rev, lset_rev]
    exact hfin _ (snd_of (by simp [LeT, sDvS]) (by simp [sDvS, dg]))
  · rw [Nat.mul_one] at hX
    obtain ⟨hg1, a1, a2, a3⟩ := round1 hus hknp hW hV0 hWM hVM hz hWg hgW hXB hX
    have hN1 := fun us' => hN us' (g - 1)
    have hg2 : g - 1 ≤ g := by omega
    have hg3 : g - 1 < 4294967296 := by omega
    have z2 : IntKind.u64.wrap ((g : Int) - 1) = ((g - 1 : Nat) : Int) := by rw [wrap_u64]; omega
    clear hN hXB hX hWg hgW hz hVM hWM hW hV0
    generalize put us k (n + 1) X = us1 at *
    generalize g - 1 = gm at *
    have h8 := fun st h0 K hK => sAdd8 (s := s) (n := n) (vs := mag V) (us := us1) (qs := qs) (k := k) (g := gm) (mag_digs V) a1 hVl (by omega) (by omega) st h0 K hK
    simp at q8
    simp only [sdT, sdZ, sdL8, sdX, sdM, sdB, Try.f107, Option.getD, sq1, sq2, inB, inL, inC] at h8 ⊢
    simp [sDe6, p1, e1, e2, dg, z0, z2, z5, q5, q6, q7, q8]
    refine h8 _ (snd_of (by simp [LeT, sDv8]) (by simp [sDv8])) _ ?_
    clear h8 e1 e2 q5 q6 q7 q8 z0 z2
    intro os2 c2 hos2 hol2 hc2 hv2 Z2 hZ2
    obtain ⟨x1, hx1⟩ : ∃ x1, x1 = us1.getD (k + n) 0 := ⟨_, rfl⟩
    have hx1B : x1 < 4294967296 := by rw [hx1]; exact getD_lt a1 _
    obtain ⟨c3, d2, hd2B, hcut2, w1, _⟩ := cut32 ((x1 : Int) + c2) (x1 + c2) (by omega)
    have hkn2 : k + n < us1.length := by omega
    have hY := given hos2 hd2B hol2 hkn2 hx1 hcut2 hv2
    rw [hVm] at hY
    have hkd1 : us1.drop (k + n) = x1 :: us1.drop (k + n + 1) := by rw [hx1]; exact drop_cons hkn2
    have hLl2 : (us1.take k ++ os2).length = kn := by simp; omega
    have e3 := ix_at (us1.take k ++ os2) (us1.drop (k + n + 1)) x1
    have e4 := lset_at (us1.take k ++ os2) (us1.drop (k + n + 1)) x1 d2
    rw [← hkd1, ← hZ2, hLl2] at e3
    rw [← hkd1, ← hZ2, hLl2] at e4
    have hZl2 : Z2.length = us.length := by rw [hZ2, List.length_append, hLl2, List.length_drop]; omega
    have hus2 := put_of (us := us1) (k := k) hos2 hd2B hol2 hkn2 rfl
    rw [hus2] at e4
    obtain ⟨b1, b2, b3, b4⟩ := a3 _ hY
    have hfin := hN1 _ b1 b2 b3 hg2 b4
    have z3 : IntKind.u32.wrap (gm : Int) = gm := by rw [wrap_u32]; omega
    have z4 : IntKind.u32.wrap (c2 : Int) = c2 := by rw [wrap_u32]; omega
    have z6 : kn < Z2.length := by omega
    generalize val os2 + B ^ n * d2 = Y at *
    generalize put us1 k (n + 1) Y = us2 at *
    clear a3 hus2 hkd1 hLl2 hZ2 hcut2 hv2 hos2 hN1
    simp [sDe8, p1, e3, e4, dg, z3, z4, z6, w1, p11, hk1, ix_rev, lset_rev]
    exact hfin _ (snd_of (by simp [LeT, sDvS]) (by simp [sDvS, dg]))
end Go.Proofs.Ytcgolmopbnhgeaa.Ae

namespace Go.Proofs.Ytcgolmopbnhgeaa.Ae
open Go Go.RowKit Go.Proofs.Ytcgolmopbnhgeaa.Dig
set_option maxRecDepth 100000 in
set_option maxHeartbeats 4000000 in
theorem sDiv_step {s n n1 V top k la : Nat} {us qs : List Nat} (hn2 : 2 ≤ n) (hn1 : n - 1 = n1) (hVl : (mag V).length = n1 + 1) (htop : top = (mag V).getD n1 0) (hVt : 2147483648 ≤ top) (htB : top < 4294967296) (hla : la < 2 ^ 40) (hus : Digs us) (hul : us.length = la + 1) (hkk : k + 1 + n ≤ la + 1) (hdr : val (us.drop (k + 1)) < V)
    (KN : St → Prop) (K : Exit → St → Prop) (hN : ∀ us' q, Digs us' → us'.length = la + 1 → q < B → val (us'.drop k) < V → val us' + V * B ^ k * q = val us → ∀ s', Snd s' (sDvS s n (mag V) us' (q :: qs) k) → KN s') :
    awp Try.prog sDivMf (tbl sDivTb) sdM (sDvS s n (mag V) us qs (k + 1)) (Klp KN K) := by
  simp only [sdX, sdM, sdB, Try.f107, Option.getD, sq1, sq2, inB, inL, inC]
  obtain ⟨n2, hn2'⟩ : ∃ n2, n = n2 + 2 := ⟨n - 2, by omega⟩
  have hkn : k + (n + 1) ≤ us.length := by omega
  obtain ⟨kn, hkn1⟩ : ∃ x, x = k + n := ⟨_, rfl⟩
  obtain ⟨kn1, hkn2⟩ : ∃ x, x = k + n2 + 1 := ⟨_, rfl⟩
  obtain ⟨kn2, hkn3⟩ : ∃ x, x = k + n2 := ⟨_, rfl⟩
  obtain ⟨knp, hkn4⟩ : ∃ x, x = k + n + 1 := ⟨_, rfl⟩
  obtain ⟨np, hnp⟩ : ∃ x, x = n + 1 := ⟨_, rfl⟩
  have p1 : IntKind.i64.wrap ((k : Int) + n) = kn := by rw [wrap_i64]; omega
  have p2 : IntKind.i64.wrap ((kn : Int) - 1) = kn1 := by rw [wrap_i64]; omega
  have p3 : IntKind.i64.wrap ((kn : Int) - 2) = kn2 := by rw [wrap_i64]; omega
  have p4 : IntKind.i64.wrap ((kn : Int) + 1) = knp := by rw [wrap_i64]; omega
  have p5 : ((knp : Int) - k).toNat = np := by omega
  obtain ⟨u0, hu0⟩ : ∃ x, x = us.getD kn 0 := ⟨_, rfl⟩
  obtain ⟨u1, hu1⟩ : ∃ x, x = us.getD kn1 0 := ⟨_, rfl⟩
  obtain ⟨u2, hu2⟩ : ∃ x, x = us.getD kn2 0 := ⟨_, rfl⟩
  obtain ⟨v2, hv2⟩ : ∃ x, x = (mag V).getD n2 0 := ⟨_, rfl⟩
  have hu0B : u0 < 4294967296 := by rw [hu0]; exact getD_lt hus _
  have hu1B : u1 < 4294967296 := by rw [hu1]; exact getD_lt hus _
  have hu2B : u2 < 4294967296 := by rw [hu2]; exact getD_lt hus _
  have hv2B : v2 < 4294967296 := by rw [hv2]; exact getD_lt (mag_digs V) _
  have i0 := ix_dg us kn (by omega)
  have i1 := ix_dg us kn1 (by omega)
  have i2 := ix_dg us kn2 (by omega)
  have i3 := ix_dg (mag V) n2 (by omega)
  rw [← hu0] at i0
  rw [← hu1] at i1
  rw [← hu2] at i2
  rw [← hv2] at i3
  obtain ⟨W, hW⟩ : ∃ W, W = val (part us k np) := ⟨_, rfl⟩
  have hnp2 : np = n2 + 3 := by omega
  have hVlt : V < B ^ n := mag_lt.1 (by omega)
  have hpt := part_lt hus (by omega : k < us.length) hVlt hdr
  rw [← hnp, ← hW] at hpt
  have kk : Kn W V (B ^ n2) top v2 u0 u1 u2 := by
    have := kn_of hus (by omega : k + (n2 + 3) ≤ us.length) (by omega : (mag V).length = n2 + 2) (top := top) (by rw [htop]; congr 1; omega) (by omega) (by rw [← hnp2, ← hW]; exact hpt.2.2)
    rw [← hnp2, ← hW, ← hv2] at this
    have e0 : k + n2 + 2 = kn := by omega
    rw [e0, ← hkn2, ← hkn3, ← hu0, ← hu1, ← hu2] at this
    exact this
  obtain ⟨head, hhead⟩ : ∃ h, h = u1 + B * u0 := ⟨_, rfl⟩
  have t1 : IntKind.u64.wrap (u0 : Int) = u0 := by rw [wrap_u64]; omega
  have t2 : IntKind.u64.wrap ((u0 : Int) * 4294967296) = (u0 : Int) * 4294967296 := by rw [wrap_u64]; omega
  have t3 : IntKind.u64.wrap (u1 : Int) = u1 := by rw [wrap_u64]; omega
  have t4 : bOr .u64 ((u0 : Int) * 4294967296) u1 = head := by
    have := bOr64 (u0 * 4294967296) u1 (by omega) (by omega)
    rw [or_cut u0 u1 hu1B] at this
    have e : u0 * 4294967296 + u1 = head := by rw [hhead]; simp only [B]; omega
    rw [e] at this
    rw [← this]; congr 1
  have hheadB : head < 18446744073709551616 := by rw [hhead]; simp only [B]; omega
  have ht0 : 0 < top := by omega
  obtain ⟨g0, hg0⟩ : ∃ g, g = head / top := ⟨_, rfl⟩
  obtain ⟨r0, hr0⟩ : ∃ g, g = head % top := ⟨_, rfl⟩
  have t5 := tdiv_nat head top
  rw [← hg0] at t5
  have t6 := tmod_nat head top
  rw [← hr0] at t6
  have hg0B : g0 < 17179869184 := by
    rw [hg0, Nat.div_lt_iff_lt_mul ht0]
    have : 17179869184 * 2147483648 ≤ 17179869184 * top := Nat.mul_le_mul_left _ hVt
    omega
  have hr0B : r0 < top := by rw [hr0]; exact Nat.mod_lt _ ht0
  have t7 : IntKind.u64.wrap (g0 : Int) = g0 := by rw [wrap_u64]; omega
  have t8 : ¬ top = 0 := by omega
  have t9 : (kn1 : Int) < us.length := by omega
  have t10 : (kn : Int) < us.length := by omega
  have p14 : IntKind.i64.wrap ((n : Int) - 1) = n1 := by rw [wrap_i64]; omega
  have i4 := ix_dg (mag V) n1 (by omega)
  rw [← htop] at i4
  have t11 : IntKind.u64.wrap (top : Int) = top := by rw [wrap_u64]; omega
  have t12 : IntKind.u64.wrap (r0 : Int) = r0 := by rw [wrap_u64]; omega
  have t13 : n1 < (mag V).length := by omega
  simp [sDvS, p1, p2, p14, i0, i1, i4, dg, t1, t2, t3, t4, t5, t6, t7, t8, t9, t10, t11, t12, t13]
  have hVm : val (mag V) = V := val_mag V
  have hV0 := kk.Vpos
  have p6 : (k : Int) ≤ knp := by omega
  have p7 : (knp : Int) ≤ us.length := by omega
  have p8 : k + np ≤ us.length := by omega
  have p9 : 0 < us.length := by omega
  have p10 : 0 < np := by omega
  have p11 : IntKind.i64.wrap ((k : Int) - 1) = (k : Int) - 1 := by rw [wrap_i64]; omega
  have p12 : IntKind.i64.wrap ((n : Int) - 2) = n2 := by rw [wrap_i64]; omega
  have p13 : (kn2 : Int) < us.length := by omega
  have hnV : (mag V).length < np := by omega
  have hVn : (mag V).length ≤ np := by omega
  have hul41 : us.length < 2 ^ 41 := by omega
  have hWM : W < B ^ np := by rw [hW]; have := val_lt (part_digs hus k np); rwa [part_len us k np p8] at this
  have hVM : V ≤ B ^ np := Nat.le_trans (Nat.le_of_lt hVlt) (Nat.pow_le_pow_right B_pos (by omega))
  have hz : val (us.drop (k + np)) = 0 := hpt.2.1
  have hN2 : ∀ g, W / V ≤ g → g < 4294967296 → ∀ us' q, Digs us' → us'.length = us.length → val (us'.drop k) < V → q ≤ g → val us' + V * B ^ k * q = val us → ∀ s', Snd s' (sDvS s n (mag V) us' (q :: qs) k) → KN s' := by
    intro g _ hgB us' q h1 h2 h3 h4 h5 s' hs
    exact hN us' q h1 (by omega) (by simp only [B]; omega) h3 h5 s' hs
  have hen := fun g hgB hWg hgW st h0 => sDiv_end (s := s) (n := n) (V := V) (k := k) (g := g) (W := W) (u0 := u0) (us := us) (qs := qs) (by omega) hus hul41 (by omega) (by rw [hu0, hkn1]) hgB (by rw [hW, hnp]) hV0 (by rw [← hnp]; exact hVM) (by rw [← hnp]; exact hz) hWg hgW rfl KN K (hN2 g hWg hgB) st h0
  clear hN2 hN
  simp only [sdL6, sdT, sdZ, sdX, sdM, sdB, Try.f107, Option.getD, sq1, sq2, inB, inL, inC] at hen
  refine loop_go (fun m st => ∃ g r j : Nat, g * top + r = head ∧ W / V ≤ g ∧ m = g ∧ g < 17179869184 ∧ r < 8589934592 ∧ j * top ≤ r ∧ j ≤ 2 ∧ st = sDv4 s n (mag V) us qs k g r j) (s0 := sDv4 s n (mag V) us qs k g0 r0 0) (n := g0)
    (snd_of (by simp [LeT, sDv4]) (by simp [sDv4])) ⟨g0, r0, 0, by rw [hg0, hr0, Nat.mul_comm]; exact Nat.div_add_mod _ _, by rw [hg0, hhead]; exact kk.start, rfl, hg0B, by omega, by omega, by omega, rfl⟩ ?_
  rintro g st ⟨_, r, j, hgr, hWg, rfl, hgB, hrB, hjr, hj2, rfl⟩ KM hM
  rw [hhead] at hgr
  clear t5 t6 t7 t1 t2 t3 t4 hg0 hr0 hg0B hr0B t12
  have y1 : IntKind.u64.wrap (v2 : Int) = v2 := by rw [wrap_u64]; omega
  have y2 : IntKind.u64.wrap (u2 : Int) = u2 := by rw [wrap_u64]; omega
  have y0 : (j : Int) < 3 := by omega
  have y8 : IntKind.i64.wrap ((j : Int) + 1) = j + 1 := by rw [wrap_i64]; omega
  have hdec : r < B → (B ≤ g ∨ r * B + u2 < g * v2) → IntKind.u64.wrap ((g : Int) - 1) = ((g - 1 : Nat) : Int) ∧ IntKind.u64.wrap ((r : Int) + top) = ((r + top : Nat) : Int) ∧ ∀ s', Snd s' (sDv4 s n (mag V) us qs k (g - 1) (r + top) (j + 1)) → KM s' := by
    intro h1 h2
    obtain ⟨h3, h4, h5⟩ := kk.dec hgr hWg h2
    simp only [B] at h1
    have hj1 : j ≤ 1 := by
      rcases Nat.lt_or_ge j 2 with h | h
      · omega
      · have : 2 * top ≤ j * top := Nat.mul_le_mul_right _ h
        omega
    have hj3 : (j + 1) * top ≤ r + top := by rw [Nat.add_mul, Nat.one_mul]; omega
    refine ⟨by rw [wrap_u64]; omega, by rw [wrap_u64]; omega, fun s' hs => hM s' (nx (m := g - 1) hs ⟨g - 1, r + top, j + 1, by rw [hhead]; exact h4, h5, rfl, by omega, by omega, hj3, by omega, rfl⟩ (by omega))⟩
  clear hM
  have hn2V : n2 < (mag V).length := by omega
  by_cases hc : r < B ∧ (B ≤ g ∨ r * B + u2 < g * v2)
  · obtain ⟨d1, d2, d3⟩ := hdec hc.1 hc.2
    have hrB' : r < 4294967296 := hc.1
    have x1 : (r : Int) < 4294967296 := by omega
    generalize g - 1 = gm at *
    generalize r + top = rt at *
    by_cases c2 : B ≤ g
    · have x2 : (4294967296 : Int) ≤ g := by simp only [B] at c2; omega
      simp [sDv4, y0, y8, x1, x2, d1, d2, p14, i4, dg, t11, t13]
      exact d3 _ (snd_of (by simp [LeT, sDv4]) (by simp [sDv4]))
    · have x2 : ¬ (4294967296 : Int) ≤ g := by simp only [B] at c2; omega
      have hr1 : r * 4294967296 < 18446744073709551616 := by omega
      have hu1' : u2 < 18446744073709551616 := by omega
      have c3 : r * B + u2 < g * v2 := by rcases hc.2 with h | h; exact absurd h c2; exact h
      simp only [B] at c2 c3
      obtain ⟨gv, hgv⟩ : ∃ x, x = g * v2 := ⟨_, rfl⟩
      have hg1 : g ≤ 4294967295 := by omega
      have hv1 : v2 ≤ 4294967295 := by omega
      have hgvB : g * v2 ≤ 4294967295 * 4294967295 := Nat.mul_le_mul hg1 hv1
      rw [← hgv] at hgvB
      have y3 : (g : Int) * v2 = gv := by rw [hgv]; exact (Int.natCast_mul _ _).symm
      have y4 : IntKind.u64.wrap (gv : Int) = gv := by rw [wrap_u64]; omega
      have y5 : IntKind.u64.wrap ((r : Int) * 4294967296) = (r : Int) * 4294967296 := by rw [wrap_u64]; omega
      obtain ⟨ru, hru⟩ : ∃ x, x = r * 4294967296 + u2 := ⟨_, rfl⟩
      have y6 : bOr .u64 ((r : Int) * 4294967296) u2 = ru := by
        have := bOr64 (r * 4294967296) u2 hr1 hu1'
        rw [or_cut r u2 hu2B, ← hru] at this
        rw [← this]; congr 1
      have y7 : (ru : Int) < gv := by omega
      simp [sDv4, y0, y8, x1, x2, d1, d2, p12, i3, p1, p3, i2, dg, y1, y2, y3, y4, y5, y6, y7, p13, p14, i4, t11, t13, hn2V]
      exact d3 _ (snd_of (by simp [LeT, sDv4]) (by simp [sDv4]))
  · clear hdec
    obtain ⟨hgB, hgW⟩ := kk.done hgr hc
    have hgB' : g < 4294967296 := hgB
    have x2 : ¬ (4294967296 : Int) ≤ g := by omega
    have hru : r < 4294967296 → ∃ gv ru : Nat, (g : Int) * v2 = gv ∧ IntKind.u64.wrap (gv : Int) = gv ∧ IntKind.u64.wrap ((r : Int) * 4294967296) = (r : Int) * 4294967296 ∧ bOr .u64 ((r : Int) * 4294967296) u2 = ru ∧ ¬ (ru : Int) < gv := by
      intro c1
      have hg1 : g ≤ 4294967295 := by omega
      have hv1 : v2 ≤ 4294967295 := by omega
      have hr1 : r * 4294967296 < 18446744073709551616 := by omega
      have hu1' : u2 < 18446744073709551616 := by omega
      have c3 : ¬ r * 4294967296 + u2 < g * v2 := fun h => hc ⟨c1, .inr h⟩
      have y5 : IntKind.u64.wrap ((r : Int) * 4294967296) = (r : Int) * 4294967296 := by rw [wrap_u64]; omega
      have hgvB : g * v2 ≤ 4294967295 * 4294967295 := Nat.mul_le_mul hg1 hv1
      refine ⟨g * v2, r * 4294967296 + u2, (Int.natCast_mul _ _).symm, by rw [wrap_u64]; omega, y5, ?_, by omega⟩
      have := bOr64 (r * 4294967296) u2 hr1 hu1'
      rw [or_cut r u2 hu2B] at this
      rw [← this]; congr 1
    by_cases c1 : r < 4294967296
    have x1 : (r : Int) < 4294967296 := by omega
    obtain ⟨gv, ru, y3, y4, y5, y6, y7⟩ := hru c1
    simp [sDv4, y0, x1, x2, p12, i3, p1, p3, i2, y1, y2, y3, y4, y5, y6, y7, p13, hn2V, dg]
    rotate_left
    have x1 : ¬ (r : Int) < 4294967296 := by omega
    simp [sDv4, y0, x1]
    all_goals exact hen g hgB' hWg hgW _ (snd_of (by simp [LeT, sDv6]) (by simp [sDv6]))
end Go.Proofs.Ytcgolmopbnhgeaa.Ae

namespace Go.Proofs.Ytcgolmopbnhgeaa.Ae
open Go Go.RowKit Go.Proofs.Ytcgolmopbnhgeaa.Dig
theorem digs_getD : ∀ (ds : List Nat) (i : Nat), Digs ds → ds.getD i 0 = val ds / B ^ i % B
  | [], i, _ => by simp [val]
  | x :: xs, 0, h => by
    have := h.head
    simp only [val, List.getD_cons_zero, Nat.pow_zero, Nat.div_one, Nat.add_mul_mod_self_left]
    exact (Nat.mod_eq_of_lt this).symm
  | x :: xs, i + 1, h => by
    have h1 := h.head
    have h2 := digs_getD xs i h.tail
    rw [List.getD_cons_succ, h2, val, Nat.pow_succ, Nat.mul_comm (B ^ i) B, ← Nat.div_div_eq_div_mul, Nat.add_mul_div_left _ _ B_pos, Nat.div_eq_of_lt h1, Nat.zero_add]
theorem or_shift (x y s : Nat) (hx : x < B) (hs : s < 32) : x / 2 ^ s ||| (y * 2 ^ (32 - s)) % B = (y * B + x) / 2 ^ s % B := by
  have hB : B = 2 ^ (32 - s) * 2 ^ s := by
    rw [← Nat.pow_add]
    have : 32 - s + s = 32 := by omega
    rw [this]; rfl
  have hp : 0 < 2 ^ s := Nat.pow_pos (by decide)
  have h1 : x / 2 ^ s < 2 ^ (32 - s) := by rw [Nat.div_lt_iff_lt_mul hp, ← hB]; exact hx
  have h2 : (y * 2 ^ (32 - s)) % B = 2 ^ (32 - s) * (y % 2 ^ s) := by rw [hB, Nat.mul_comm y, Nat.mul_mod_mul_left]
  have h3 : (y * B + x) / 2 ^ s = y * 2 ^ (32 - s) + x / 2 ^ s := by
    rw [hB, ← Nat.mul_assoc, Nat.add_comm, Nat.mul_comm _ (2 ^ s), Nat.add_mul_div_left _ _ hp, Nat.add_comm]
  rw [h2, h3, Nat.or_comm, ← Nat.two_pow_add_eq_or_of_lt h1]
  have h4 : y % 2 ^ s < 2 ^ s := Nat.mod_lt _ hp
  have h5 : 2 ^ (32 - s) * (y % 2 ^ s) + x / 2 ^ s < B := by
    have : 2 ^ (32 - s) * (y % 2 ^ s + 1) ≤ 2 ^ (32 - s) * 2 ^ s := Nat.mul_le_mul_left _ h4
    rw [← hB, Nat.mul_add, Nat.mul_one] at this
    omega
  rw [Nat.add_mod, h2, Nat.mod_eq_of_lt (Nat.lt_of_le_of_lt (Nat.le_add_left _ _) h5), Nat.mod_eq_of_lt h5]
noncomputable def sdTail : Code := sq2 (sq2 (sq2 (sq2 (sq2 (sq2 (sq2 (sq2 (sq2 (sq2 sdB)))))))))
def sDvE (s n : Nat) (vs us qs : List Nat) : St := ⟨[.any, .any, .any, .any, .any, .any, .dat (.lit (.int .u64 s)), .dat (.lit (.int .i64 n)), .row 60, .row 63, .row 69, .dat (.lit (.int .i64 (-1))), .any, .any, .any, .any, .any, .any, .any, .any, .any, .any, .any, .any, .any, .any, .any, .any, .any, .any, .any, .any, .any, .any, .any, .any, .any, .any, .any, .any, .any, .any, .any, .any, .any, .any, .any, .any, .any, .any, .any, .any, .any, .any, .any, .any, .any, .any, .any, .any, .any, .any, .any, .any, .any, .any, .any, .any, .any, .any, .any, .any, .any, .any, .dat (.lit (.int .i64 (-1))), .dat (.lit (.bool false)), .any, .any, .any, .any, .any, .any, .any, .any, .any, .any, .any, .any, .any, .any, .any, .any, .any, .any, .any, .any, .any, .any, .any, .any, .any, .any, .any, .any, .any, .any, .any, .any, .any, .any, .any, .any, .any, .any, .any, .any, .any, .any, .any, .any, .any, .any, .any, .any, .any, .any, .any, .any, .any, .any, .any, .any, .any, .any, .any, .any, .any, .any, .any, .any, .any, .any, .any, .any, .any, .any, .any, .any, .any, .any, .any, .any, .any, .any, .any, .any, .any, .any, .any, .any, .any, .any, .any, .any, .any, .any, .any, .any, .any, .any, .any, .any, .any, .any, .any, .any, .any, .any, .any, .any, .any, .any, .any, .any, .any, .any, .any, .any, .any, .any, .any, .any, .any, .any, .any, .any, .any, .any, .any, .any, .any, .any, .any, .any, .any, .any, .any, .any, .any, .any, .any, .any, .any, .any, .any, .any, .any, .any, .any, .any, .any, .any, .any, .any, .any, .any, .any, .any, .any, .any, .any, .any, .any, .any, .any, .any, .any, .any, .any, .any, .any, .any, .any, .any, .any, .any, .any, .any, .any, .any, .any, .any, .any, .any, .any, .any, .any, .any, .any, .any, .any, .any, .any, .any, .any, .any, .any, .any, .any, .any, .any, .any, .any, .any, .any, .any, .any, .any, .any, .any, .any, .any, .any, .any, .any, .any, .any, .any, .any, .any, .any, .any, .any, .any, .any, .any, .any, .any, .any, .any, .any], [none, none, none, none, none, none, none, none, none, none, none, none, none, none, none, none, none, none, none, none, none, none, none, none, none, none, none, none, none, none, none, none, none, none, none, none, none, none, none, none, none, none, none, none, none, none, none, none, none, none, none, none, none, none, none, none, none, none, none, none, some (.row 1 125 (vs.map dg)), none, none, some (.row 1 125 (us.map dg)), none, none, none, none, none, some (.row 1 125 (qs.map dg)), none, none, none, none, none, none, none, none, none, none, none, none, none, none, none, none, none, none, none, none, none, none, none, none, none, none, none, none, none, none, none, none, none, none, none, none, none, none, none, none, none, none, none, none, none, none, none, none, none, none, none, none, none, none, none, none, none, none, none, none, none, none, none, none, none, none, none, none, none, none, none, none, none, none, none, none, none, none, none, none, none, none, none, none, none, none, none, none, none, none, none, none, none, none, none, none, none, none, none, none, none, none, none, none, none, none, none, none, none, none, none, none, none, none, none, none, none, none, none, none, none, none, none, none, none, none, none, none, none, none, none, none, none, none, none, none, none, none, none, none, none, none, none, none, none, none, none, none, none, none, none, none, none, none, none, none, none, none, none, none, none, none, none, none, none, none, none, none, none, none, none, none, none, none, none, none, none, none, none, none, none, none, none, none, none, none, none, none, none, none, none, none, none, none, none, none, none, none, none, none, none, none, none, none, none, none, none, none, none, none, none, none, none, none, none, none, none, none, none, none, none, none, none, none, none, none, none, none, none, none, none]⟩
def sDvR (s n : Nat) (vs us qs os : List Nat) (k : Nat) : St := ⟨[.any, .any, .any, .any, .any, .any, .dat (.lit (.int .u64 s)), .dat (.lit (.int .i64 n)), .any, .row 63, .row 69, .any, .any, .any, .any, .any, .any, .any, .any, .any, .any, .any, .any, .any, .any, .row 264, .dat (.lit (.int .i64 os.length)), .any, .any, .any, .any, .any, .any, .any, .any, .any, .any, .any, .any, .any, .any, .any, .any, .any, .any, .any, .any, .any, .any, .any, .any, .any, .any, .any, .any, .any, .any, .any, .any, .any, .any, .any, .any, .any, .any, .any, .any, .any, .any, .any, .any, .any, .any, .any, .any, .any, .any, .any, .any, .any, .any, .any, .any, .any, .any, .any, .any, .any, .any, .any, .any, .any, .any, .any, .any, .any, .any, .any, .any, .any, .any, .any, .any, .any, .any, .any, .any, .any, .any, .any, .any, .any, .any, .any, .any, .any, .any, .any, .any, .any, .any, .any, .any, .any, .any, .any, .any, .any, .any, .any, .any, .any, .any, .any, .any, .any, .any, .any, .any, .any, .any, .any, .any, .any, .any, .any, .any, .any, .any, .any, .any, .any, .any, .any, .any, .any, .any, .any, .any, .any, .any, .any, .any, .any, .any, .any, .any, .any, .any, .any, .any, .any, .any, .any, .any, .any, .any, .any, .any, .any, .any, .any, .any, .any, .any, .any, .any, .any, .any, .any, .any, .any, .any, .any, .any, .any, .any, .any, .any, .any, .any, .any, .any, .any, .any, .any, .any, .any, .any, .any, .any, .any, .any, .any, .any, .any, .any, .any, .any, .any, .any, .any, .any, .any, .any, .any, .any, .any, .any, .any, .any, .any, .any, .any, .any, .any, .any, .any, .any, .any, .any, .any, .any, .any, .any, .any, .any, .any, .any, .any, .any, .any, .any, .any, .any, .any, .any, .any, .any, .any, .any, .any, .any, .any, .any, .any, .any, .any, .any, .any, .any, .any, .any, .any, .any, .any, .any, .any, .any, .any, .any, .any, .any, .any, .any, .any, .any, .any, .any, .any, .any, .any, .any, .any, .any, .any, .any, .any, .any, .any, .any], [none, none, none, none, none, none, none, none, none, none, none, none, none, none, none, none, none, none, none, none, none, none, none, none, none, none, none, none, none, none, none, none, none, none, none, none, none, none, none, none, none, none, none, none, none, none, none, none, none, none, none, none, none, none, none, none, none, none, none, none, some (.row 1 125 (vs.map dg)), none, none, some (.row 1 125 (us.map dg)), none, none, none, none, none, some (.row 1 125 (qs.map dg)), none, none, none, none, none, none, none, none, none, none, none, none, none, none, none, none, none, none, none, none, none, none, none, none, none, none, none, none, none, none, none, none, none, none, none, none, none, none, none, none, none, none, none, none, none, none, none, none, none, none, none, none, none, none, none, none, none, none, none, none, none, none, none, none, none, none, none, none, none, none, none, none, none, none, none, none, none, none, none, none, none, none, none, none, none, none, none, none, none, none, none, none, none, none, none, none, none, none, none, none, none, none, none, none, none, none, none, none, none, none, none, none, none, none, none, none, none, none, none, none, none, none, none, none, none, none, none, none, none, none, none, none, none, none, none, none, none, none, none, none, none, none, none, none, none, none, none, none, none, none, none, none, none, none, none, none, none, none, none, none, none, none, none, none, none, none, none, none, none, none, none, none, none, none, none, none, none, none, none, none, none, none, none, none, none, none, none, none, none, none, none, none, none, none, some (.row 1 125 (os.map dg ++ List.replicate k z32)), none, none, none, none, none, none, none, none, none, none, none, none, none, none, none, none, none, none, none, none, none, none, none, none, none, none, none, none, none, none, none, none, none, none, none, none]⟩
set_option maxRecDepth 100000 in
set_option maxHeartbeats 4000000 in
theorem sDiv_tail {s n Q R : Nat} {us qs vs : List Nat} (hs : s ≤ 31) (hus : Digs us) (hqs : Digs qs) (hul : us.length < 2 ^ 41) (hql : qs.length < 2 ^ 41) (hn : n < us.length) (hQ : val qs = Q) (hR : val us = R * 2 ^ s) (hRn : val us < B ^ n) :
    awp Try.prog sDivMf (tbl sDivTb) sdTail (sDvE s n vs us qs) (endK Try.prog 301 [.tmp 4, .tmp 5] [.dat (.sl 1 ((mag Q).map dg)), .dat (.sl 1 ((mag R).map dg))] []) := by
  simp only [sdTail, sdB, Try.f107, Option.getD, sq1, sq2, inB, inL]
  obtain ⟨Z, hZ⟩ : ∃ Z, Z = val us := ⟨_, rfl⟩
  have hp2 : 0 < 2 ^ s := Nat.pow_pos (by decide)
  have hZR : Z / 2 ^ s = R := by rw [hZ, hR, Nat.mul_div_cancel _ hp2]
  have hmx := maxLen_ge
  have e1 : n ≤ maxLen := by omega
  simp [sDvE, e1]
  refine ⟨by omega, ?_⟩
  refine loop_go (fun j st => ∃ (os : List Nat), Digs os ∧ os.length + j = n ∧ val os = (Z / 2 ^ s) % B ^ os.length ∧ st = sDvR s n vs us qs os j) (s0 := sDvR s n vs us qs [] n) (n := n)
    (snd_of (by simp [LeT, sDvR]) (by simp [sDvR, z32])) ⟨[], Digs.nil, by simp, by simp [val, Nat.mod_one], rfl⟩ ?_
  rintro j st ⟨os, hos, hol, hov, rfl⟩ KN hN
  cases j with
  | zero =>
    have hon : os.length = n := by omega
    have hRZ : R ≤ Z := by rw [hZ, hR]; exact Nat.le_mul_of_pos_right _ hp2
    have hoR : val os = R := by rw [hov, hZR, hon, Nat.mod_eq_of_lt (by omega)]
    have t2 := trimC_at' os hos
    have t3 := trimC_at' qs hqs
    rw [hoR] at t2
    rw [hQ] at t3
    have c1 : os.length < 2 ^ 62 := by omega
    have c2 : qs.length < 2 ^ 62 := by omega
    simp only [c1] at t2
    simp only [c2] at t3
    simp [sDvR, hon, t2, t3]
  | succ j =>
    obtain ⟨x, hx⟩ : ∃ x, x = us.getD os.length 0 := ⟨_, rfl⟩
    obtain ⟨y, hy⟩ : ∃ y, y = us.getD (os.length + 1) 0 := ⟨_, rfl⟩
    have hxZ : x = Z / B ^ os.length % B := by rw [hx, hZ]; exact digs_getD _ _ hus
    have hyZ : y = Z / B ^ (os.length + 1) % B := by rw [hy, hZ]; exact digs_getD _ _ hus
    have hxB : x < 4294967296 := by rw [hx]; exact getD_lt hus _
    have hyB : y < 4294967296 := by rw [hy]; exact getD_lt hus _
    have i1 := ix_dg us os.length (by omega)
    have i2 := ix_dg us (os.length + 1) (by omega)
    rw [← hx] at i1
    rw [← hy] at i2
    have hdig := shr_digit Z s os.length hs
    rw [← hyZ, ← hxZ] at hdig
    obtain ⟨d1, hd1⟩ : ∃ d, d = x / 2 ^ s := ⟨_, rfl⟩
    have hd1B : d1 < 4294967296 := by rw [hd1]; exact Nat.lt_of_le_of_lt (Nat.div_le_self _ _) hxB
    have e0 := lset_fwd os j
    have e9 := ix_fwd os j
    have q6 : (x : Int).fdiv (2 ^ s) = (d1 : Int) := by
      have e : (2 : Int) ^ s = ((2 ^ s : Nat) : Int) := by simp
      rw [e, Int.fdiv_eq_ediv_of_nonneg _ (by omega), hd1]; exact (Int.natCast_ediv _ _).symm
    have q5 : min s 32 = s := by omega
    have q7 : IntKind.i64.wrap ((os.length : Int) + 1) = os.length + 1 := by rw [wrap_i64]; omega
    have q8 : (os.length : Int) < n := by omega
    have q9 : os.length < us.length := by omega
    have hnext : ∀ d, d < B → d = (y * B + x) / 2 ^ s % B → ∀ s', Snd s' (sDvR s n vs us qs (os ++ [d]) j) → KN s' := by
      intro d hd h1 s' hs'
      refine hN _ (nx (m := j) hs' ⟨os ++ [d], hos.append (Digs.nil.cons hd), ?_, ?_, rfl⟩ (by omega))
      · simp only [List.length_append, List.length_singleton]; omega
      · rw [val_snoc, hov, List.length_append, List.length_singleton, Nat.pow_succ, Nat.mod_mul, hdig, h1]
    rcases Nat.eq_zero_or_pos s with h0 | h0
    · subst h0
      have hd1x : d1 = x := by rw [hd1]; simp
      subst hd1x
      have hfin := hnext d1 hd1B (by
        rw [Nat.pow_zero, Nat.div_one, Nat.mul_comm, Nat.mul_add_mod]; exact (Nat.mod_eq_of_lt hd1B).symm)
      simp [sDvR, i1, e0, e9, dg, q7, q8, q9]
      exact ⟨by omega, hfin _ (snd_of (by simp [LeT, sDvR]) (by simp [sDvR, dg]))⟩
    · obtain ⟨d, hd⟩ : ∃ d, d = d1 ||| (y * 2 ^ (32 - s)) % 4294967296 := ⟨_, rfl⟩
      have hd2 := or_shift x y s hxB (by omega)
      rw [← hd1] at hd2
      have hd3 : d = (y * B + x) / 2 ^ s % B := by rw [← hd2, hd]; rfl
      have hdB : d < B := by rw [hd3]; exact Nat.mod_lt _ B_pos
      have hfin := hnext d hdB hd3
      obtain ⟨s2, hs2⟩ : ∃ s2, s2 = 32 - s := ⟨_, rfl⟩
      have q10 : IntKind.u64.wrap (32 - (s : Int)) = s2 := by rw [wrap_u64]; omega
      have q11 : min s2 32 = s2 := by omega
      obtain ⟨y2, hy2⟩ : ∃ y2, y2 = y * 2 ^ s2 := ⟨_, rfl⟩
      obtain ⟨y3, hy3⟩ : ∃ y3, y3 = y2 % 4294967296 := ⟨_, rfl⟩
      have q12 : IntKind.u32.wrap ((y : Int) * 2 ^ s2) = y3 := by
        have : (y : Int) * 2 ^ s2 = y2 := by rw [hy2]; simp
        rw [this, wrap_u32]; omega
      have q13 : bOr .u32 (d1 : Int) y3 = d := by
        rw [bOr32 d1 y3 hd1B (by omega), hd, hy3, hy2, hs2]
      have q14 : (0 : Int) < s := by omega
      have q15 : os.length + 1 < us.length := by omega
      have e7 : ix (List.map dg os ++ D.lit (.int .u32 (d1 : Int)) :: List.replicate j z32) os.length = some (.lit (.int .u32 (d1 : Int))) := by
        have h : os.length = (List.map dg os).length := by simp
        unfold ix; rw [h, List.getElem?_append_right (Nat.le_refl _), Nat.sub_self]; rfl
      have e8 : ∀ v, lset (List.map dg os ++ D.lit (.int .u32 (d1 : Int)) :: List.replicate j z32) os.length v = List.map dg os ++ v :: List.replicate j z32 := fun v => by
        have h : os.length = (List.map dg os).length := by simp
        unfold lset; rw [h, List.set_append_right _ _ (Nat.le_refl _), Nat.sub_self]; rfl
      simp [sDvR, i1, i2, e0, e9, e7, e8, dg, q5, q6, q7, q8, q9, q10, q11, q12, q13, q14, q15, h0]
      exact ⟨by omega, by omega, by omega, hfin _ (snd_of (by simp [LeT, sDvR]) (by simp [sDvR, dg]))⟩
end Go.Proofs.Ytcgolmopbnhgeaa.Ae

namespace Go.Proofs.Ytcgolmopbnhgeaa.Ae
open Go Go.RowKit Go.Proofs.Ytcgolmopbnhgeaa.Dig
variable {N : NR}
theorem shift_is {bt s : Nat} (h0 : bt ≠ 0) (h1 : 2147483648 ≤ bt * 2 ^ s) (h2 : bt * 2 ^ s < 4294967296) (hs : s ≤ 31) : s = 32 - bl bt := by
  have h3 := bl_lt (x := bt)
  have h4 := bl_ge h0
  have h5 : 1 ≤ bl bt := by unfold bl; rw [if_neg h0]; omega
  have h6 : bt * 2 ^ s < 2 ^ (bl bt + s) := by rw [Nat.pow_add]; exact Nat.mul_lt_mul_of_pos_right h3 (Nat.pow_pos (by decide))
  have h7 : 2 ^ (bl bt - 1 + s) ≤ bt * 2 ^ s := by rw [Nat.pow_add]; exact Nat.mul_le_mul_right _ h4
  have h8 : 2 ^ 31 < 2 ^ (bl bt + s) := Nat.lt_of_le_of_lt h1 h6
  have h9 : 2 ^ (bl bt - 1 + s) < 2 ^ 32 := Nat.lt_of_le_of_lt h7 h2
  have h10 := (Nat.pow_lt_pow_iff_right (by decide : 1 < 2)).1 h8
  have h11 := (Nat.pow_lt_pow_iff_right (by decide : 1 < 2)).1 h9
  omega
def sDv1 (a b s : Nat) : St := ⟨[.dat (.sl 1 ((mag a).map dg)), .dat (.sl 1 ((mag b).map dg)), .any, .any, .any, .any, .dat (.lit (.int .u64 s)), .any, .any, .any, .any, .any, .any, .any, .any, .any, .any, .any, .any, .any, .any, .any, .any, .any, .any, .any, .any, .any, .any, .any, .any, .any, .any, .any, .any, .any, .any, .any, .any, .any, .any, .any, .any, .any, .any, .any, .any, .any, .any, .any, .any, .any, .any, .any, .any, .any, .any, .any, .any, .any, .any, .any, .any, .any, .any, .any, .any, .any, .any, .any, .any, .any, .any, .any, .any, .any, .any, .any, .any, .any, .any, .any, .any, .any, .any, .any, .any, .any, .any, .any, .any, .any, .any, .any, .any, .any, .any, .any, .any, .any, .any, .any, .any, .any, .any, .any, .any, .any, .any, .any, .any, .any, .any, .any, .any, .any, .any, .any, .any, .any, .any, .any, .any, .any, .any, .any, .any, .any, .any, .any, .any, .any, .any, .any, .any, .any, .any, .any, .any, .any, .any, .any, .any, .any, .any, .any, .any, .any, .any, .any, .any, .any, .any, .any, .any, .any, .any, .any, .any, .any, .any, .any, .any, .any, .any, .any, .any, .any, .any, .any, .any, .any, .any, .any, .any, .any, .any, .any, .any, .any, .any, .any, .any, .any, .any, .any, .any, .any, .any, .any, .any, .any, .any, .any, .any, .any, .any, .any, .any, .any, .any, .any, .any, .any, .any, .any, .any, .any, .any, .any, .any, .any, .any, .any, .any, .any, .any, .any, .any, .any, .any, .any, .any, .any, .any, .any, .any, .any, .any, .any, .any, .any, .any, .any, .any, .any, .any, .any, .any, .any, .any, .any, .any, .any, .any, .any, .any, .any, .any, .any, .any, .any, .any, .any, .any, .any, .any, .any, .any, .any, .any, .any, .any, .any, .any, .any, .any, .any, .any, .any, .any, .any, .any, .any, .any, .any, .any, .any, .any, .any, .any, .any, .any, .any, .any, .any, .any, .any, .any, .any, .any, .any, .any, .any, .any, .any, .any, .any, .any, .any, .any], [none, none, none, none, none, none, none, none, none, none, none, none, none, none, none, none, none, none, none, none, none, none, none, none, none, none, none, none, none, none, none, none, none, none, none, none, none, none, none, none, none, none, none, none, none, none, none, none, none, none, none, none, none, none, none, none, none, none, none, none, none, none, none, none, none, none, none, none, none, none, none, none, none, none, none, none, none, none, none, none, none, none, none, none, none, none, none, none, none, none, none, none, none, none, none, none, none, none, none, none, none, none, none, none, none, none, none, none, none, none, none, none, none, none, none, none, none, none, none, none, none, none, none, none, none, none, none, none, none, none, none, none, none, none, none, none, none, none, none, none, none, none, none, none, none, none, none, none, none, none, none, none, none, none, none, none, none, none, none, none, none, none, none, none, none, none, none, none, none, none, none, none, none, none, none, none, none, none, none, none, none, none, none, none, none, none, none, none, none, none, none, none, none, none, none, none, none, none, none, none, none, none, none, none, none, none, none, none, none, none, none, none, none, none, none, none, none, none, none, none, none, none, none, none, none, none, none, none, none, none, none, none, none, none, none, none, none, none, none, none, none, none, none, none, none, none, none, none, none, none, none, none, none, none, none, none, none, none, none, none, none, none, none, none, none, none, none, none, none, none, none, none, none, none, none, none, none, none, none, none, none, none, none, none, none, none, none, none, none, none, none, none, none, none, none, none, none, none, none, none, none]⟩
set_option maxRecDepth 100000 in
theorem sDiv_exit {s n : Nat} {us vs qs : List Nat} (KN : St → Prop) (K' : Exit → St → Prop) (h : K' .normal (sDvE s n vs us qs)) : awp Try.prog sDivMf (tbl sDivTb) sdM (sDvS s n vs us qs 0) (Klp KN (Kblk 2 K')) := by
  simp only [sdM, sdB, Try.f107, Option.getD, sq1, sq2, inB, inL]
  simp [sDvS]
  exact h
theorem top_ne {b n bt : Nat} (hn : (mag b).length = n + 1) (hbt : bt = (mag b).getD n 0) : bt ≠ 0 := by
  have h1 : (mag b).getLast? = some bt := by
    rw [List.getLast?_eq_getElem?, hn, Nat.add_sub_cancel, hbt, List.getD_eq_getElem?_getD, List.getElem?_eq_getElem (by omega)]; rfl
  exact mag_last b bt h1
theorem start_lt {U V la n1 k0 sh top : Nat} {us : List Nat} (hus : Digs us) (hvU : val us = U) (hul : us.length = la + 1) (hk : k0 + n1 = la) (hVl : (mag V).length = n1 + 1) (htop : top = (mag V).getD n1 0) (hVt : 2147483648 ≤ top) (hUlt : U < B ^ la * 2 ^ sh) (h2s : 2 ^ sh ≤ 2 ^ 31) : val (us.drop k0) < V := by
  obtain ⟨ut, hut⟩ : ∃ ut, ut = us.getD la 0 := ⟨_, rfl⟩
  have h1 := val_top1 hul
  rw [hvU, ← hut] at h1
  have hut2 : ut < 2 ^ sh := by
    have h2 : B ^ la * ut < B ^ la * 2 ^ sh := by omega
    exact Nat.lt_of_mul_lt_mul_left h2
  have hdl : (us.drop k0).length = n1 + 1 := by rw [List.length_drop]; omega
  have h3 := val_top1 hdl
  have h4 : (us.drop k0).getD n1 0 = ut := by
    rw [hut, List.getD_eq_getElem?_getD, List.getElem?_drop, List.getD_eq_getElem?_getD]
    congr 2
  rw [h4] at h3
  have h5 := val_lt ((hus.drop k0).take n1)
  rw [List.length_take, Nat.min_eq_left (by omega)] at h5
  have h6 := val_top1 hVl
  rw [val_mag, ← htop] at h6
  have h7 : B ^ n1 * (ut + 1) ≤ B ^ n1 * top := Nat.mul_le_mul_left _ (by omega)
  rw [Nat.mul_add, Nat.mul_one] at h7
  generalize B ^ n1 * ut = z1 at *
  generalize B ^ n1 * top = z2 at *
  generalize B ^ n1 = z3 at *
  omega
noncomputable def sdR8 : Code := sq2 (sq2 (sq2 (sq2 (sq2 sdB))))
def sDv1e (a b s n n1 bt y : Nat) : St := ⟨[.dat (.sl 1 ((mag a).map dg)), .dat (.sl 1 ((mag b).map dg)), .any, .any, .any, .any, .dat (.lit (.int .u64 s)), .any, .any, .any, .any, .any, .any, .any, .any, .any, .any, .any, .any, .any, .any, .any, .any, .any, .any, .any, .any, .any, .any, .any, .any, .any, .any, .any, .any, .any, .any, .any, .any, .any, .any, .any, .any, .any, .any, .dat (.sl 1 ((mag b).map dg)), .dat (.sl 1 ((mag b).map dg)), .dat (.lit (.int .i64 n)), .dat (.lit (.int .i64 n1)), .dat (.ptr (.lit (.int .u32 bt))), .dat (.lit (.int .u32 bt)), .dat (.lit (.int .u64 s)), .dat (.lit (.int .u32 y)), .dat (.lit (.bool false)), .any, .any, .any, .any, .any, .any, .any, .any, .any, .any, .any, .any, .any, .any, .any, .any, .any, .any, .any, .any, .any, .any, .any, .any, .any, .any, .any, .any, .any, .any, .any, .any, .any, .any, .any, .any, .any, .any, .any, .any, .any, .any, .any, .any, .any, .any, .any, .any, .any, .any, .any, .any, .any, .any, .any, .any, .any, .any, .any, .any, .any, .any, .any, .any, .any, .any, .any, .any, .any, .any, .any, .any, .any, .any, .any, .any, .any, .any, .any, .any, .any, .any, .any, .any, .any, .any, .any, .any, .any, .any, .any, .any, .any, .any, .any, .any, .any, .any, .any, .any, .any, .any, .any, .any, .any, .any, .any, .any, .any, .any, .any, .any, .any, .any, .any, .any, .any, .any, .any, .any, .any, .any, .any, .any, .any, .any, .any, .any, .any, .any, .any, .any, .any, .any, .any, .any, .any, .any, .any, .any, .any, .any, .any, .any, .any, .any, .any, .any, .any, .any, .any, .any, .any, .any, .any, .any, .any, .any, .any, .any, .any, .any, .any, .any, .any, .any, .any, .any, .any, .any, .any, .any, .any, .any, .any, .any, .any, .any, .any, .any, .any, .any, .any, .any, .any, .any, .any, .any, .any, .any, .any, .any, .any, .any, .any, .any, .any, .any, .any, .any, .any, .any, .any, .any, .any, .any, .any, .any, .any, .any, .any, .any, .any, .any, .any, .any, .any, .any, .any, .any, .any, .any, .any, .any, .any, .any, .any, .any, .any, .any, .any, .any, .any, .any, .any, .any, .any, .any, .any, .any, .any, .any, .any, .any, .any, .any, .any], [none, none, none, none, none, none, none, none, none, none, none, none, none, none, none, none, none, none, none, none, none, none, none, none, none, none, none, none, none, none, none, none, none, none, none, none, none, none, none, none, none, none, none, none, none, none, none, none, none, none, none, none, none, none, none, none, none, none, none, none, none, none, none, none, none, none, none, none, none, none, none, none, none, none, none, none, none, none, none, none, none, none, none, none, none, none, none, none, none, none, none, none, none, none, none, none, none, none, none, none, none, none, none, none, none, none, none, none, none, none, none, none, none, none, none, none, none, none, none, none, none, none, none, none, none, none, none, none, none, none, none, none, none, none, none, none, none, none, none, none, none, none, none, none, none, none, none, none, none, none, none, none, none, none, none, none, none, none, none, none, none, none, none, none, none, none, none, none, none, none, none, none, none, none, none, none, none, none, none, none, none, none, none, none, none, none, none, none, none, none, none, none, none, none, none, none, none, none, none, none, none, none, none, none, none, none, none, none, none, none, none, none, none, none, none, none, none, none, none, none, none, none, none, none, none, none, none, none, none, none, none, none, none, none, none, none, none, none, none, none, none, none, none, none, none, none, none, none, none, none, none, none, none, none, none, none, none, none, none, none, none, none, none, none, none, none, none, none, none, none, none, none, none, none, none, none, none, none, none, none, none, none, none, none, none, none, none, none, none, none, none, none, none, none, none, none, none, none, none, none, none]⟩
set_option maxRecDepth 100000 in
set_option maxHeartbeats 4000000 in
theorem sDiv_main {a b s n n1 bt y Q R : Nat} (ha : (mag a).length < 2 ^ 40) (hb : (mag b).length < 2 ^ 40) (hb0 : 0 < b) (hq : a / b = Q) (hr : a % b = R) (hab : ¬ a < b) (hn : n = (mag b).length) (hn2 : 2 ≤ n) (hn1 : n - 1 = n1) (hn1' : (mag b).length = n1 + 1) (hbt : bt = (mag b).getD n1 0) (hbt0 : bt ≠ 0) (hs31 : s ≤ 31) (hsB : bt * 2 ^ s < 4294967296) (hy : y = bt * 2 ^ s) (hlt : ¬ y < 2147483648) :
    awp Try.prog sDivMf (tbl sDivTb) sdR8 (sDv1e a b s n n1 bt y) (endK Try.prog 301 [.tmp 4, .tmp 5] [.dat (.sl 1 ((mag Q).map dg)), .dat (.sl 1 ((mag R).map dg))] []) := by
    have hsh := shift_is hbt0 (by omega) hsB hs31
    obtain ⟨_, hVl, hVt⟩ := norm_facts hn1' hbt hsh
    obtain ⟨U, hU⟩ : ∃ U, U = a * 2 ^ s := ⟨_, rfl⟩
    obtain ⟨V, hV⟩ : ∃ V, V = b * 2 ^ s := ⟨_, rfl⟩
    rw [← hV] at hVl hVt
    have s2 := shlO_at a s 1
    have s3 := shlO_at b s 0
    rw [← hU] at s2
    rw [← hV] at s3
    have hVn : V < B ^ n := mag_lt.1 (by omega)
    have hs32 : s < 32 := by omega
    have hdV : dig ((mag b).length + 0) V = mag V := by
      have h1 := dig_of (n := (mag V).length) (mag_digs V) rfl (val_mag V)
      rw [← h1]
      congr 1
      omega
    rw [hdV] at s3
    simp [Sm, eM, eW, ha, hb, ← hn, hVn, hs32] at s2 s3
    have hmx := maxLen_ge
    have h2s : 2 ^ s ≤ 2 ^ 31 := Nat.pow_le_pow_right (by decide) hs31
    have hUlt : U < B ^ (mag a).length * 2 ^ s := by
      rw [hU]; exact Nat.mul_lt_mul_of_pos_right (mag_lt.1 (Nat.le_refl _)) (Nat.pow_pos (by decide))
    obtain ⟨la, hla⟩ : ∃ la, la = (mag a).length := ⟨_, rfl⟩
    have hlan : n ≤ la := by rw [hn, hla]; exact mag_len_le (by omega)
    rw [← hla] at s2 hUlt ha
    obtain ⟨us, hus'⟩ : ∃ us, us = dig (la + 1) U := ⟨_, rfl⟩
    have hus : Digs us := by rw [hus']; exact dig_digs _ _
    have hul : us.length = la + 1 := by rw [hus']; exact dig_len _ _
    have hvU : val us = U := by
      rw [hus']; refine val_dig _ _ (Nat.lt_of_lt_of_le hUlt ?_)
      rw [Nat.pow_succ]; exact Nat.mul_le_mul_left _ (Nat.le_trans h2s (by decide))
    rw [← hus'] at s2
    obtain ⟨k0, hk0⟩ : ∃ k0, k0 = la - n + 1 := ⟨_, rfl⟩
    have q4 : IntKind.i64.wrap ((la : Int) - n) = (k0 : Int) - 1 := by rw [wrap_i64]; omega
    have q5 : IntKind.i64.wrap (k0 : Int) = k0 := by rw [wrap_i64]; omega
    simp only [sdR8, sdB, Try.f107, Option.getD, sq2]
    simp [sDv1e, ← hn, ← hla, q4, q5, s2, s3]
    refine ⟨by omega, by omega, ?_⟩
    have hV0 : 0 < V := by rw [hV]; exact Nat.mul_pos hb0 (Nat.pow_pos (by decide))
    obtain ⟨top, htop⟩ : ∃ top, top = (mag V).getD n1 0 := ⟨_, rfl⟩
    rw [← htop] at hVt
    have htB : top < 4294967296 := by rw [htop]; exact getD_lt (mag_digs V) _
    have hstart := start_lt (k0 := k0) hus hvU hul (by omega) hVl htop hVt hUlt h2s
    refine loop_go (fun k st => ∃ us qs : List Nat, Digs us ∧ Digs qs ∧ us.length = la + 1 ∧ k + qs.length = k0 ∧ val (us.drop k) < V ∧ val us + V * (B ^ k * val qs) = U ∧ st = sDvS s n (mag V) us qs k) (s0 := sDvS s n (mag V) us [] k0) (n := k0)
      (snd_of (by simp [LeT, sDvS]) (by simp [sDvS, z32])) ⟨us, [], hus, Digs.nil, hul, by simp, hstart, by simp [val, hvU], rfl⟩ ?_
    clear hstart hvU hus hul hus' s2 s3 q5 hlt us
    rintro k st ⟨us, qs, hus, hqs, hul, hkq, hdr, hval, rfl⟩ KN hN
    cases k with
    | zero =>
      rw [List.drop_zero] at hdr
      rw [Nat.pow_zero, Nat.one_mul] at hval
      have hp2 : 0 < 2 ^ s := Nat.pow_pos (by decide)
      have hUV : U / V = Q := by rw [hU, hV, Nat.mul_div_mul_right _ _ hp2, hq]
      have hUVm : U % V = R * 2 ^ s := by rw [hU, hV, Nat.mul_mod_mul_right, hr]
      have hQ : val qs = Q := by rw [← hUV, ← hval, Nat.add_mul_div_left _ _ hV0, Nat.div_eq_of_lt hdr, Nat.zero_add]
      have hR : val us = R * 2 ^ s := by rw [← hUVm, ← hval, Nat.add_mul_mod_self_left, Nat.mod_eq_of_lt hdr]
      have ht := sDiv_tail (s := s) (n := n) (vs := mag V) (Q := Q) (R := R) hs31 hus hqs (by omega) (by omega) (by omega) hQ hR (Nat.lt_trans hdr hVn)
      simp only [sdTail, sdB, Try.f107, Option.getD, sq2] at ht
      have hx := fun K' => sDiv_exit (s := s) (n := n) (us := us) (vs := mag V) (qs := qs) KN K'
      simp only [sdM, sdB, Try.f107, Option.getD, sq1, sq2, inB, inL] at hx
      exact hx _ ht
    | succ k =>
      have hst := sDiv_step (s := s) (n := n) (n1 := n1) (V := V) (top := top) (k := k) (la := la) (us := us) (qs := qs) hn2 hn1 hVl htop hVt htB ha hus hul (by omega) hdr KN
      simp only [sdM, sdB, Try.f107, Option.getD, sq1, sq2, inB, inL] at hst
      refine hst _ (fun us' q h1 h2 h3 h4 h5 s' hs => hN _ (nx (m := k) (s'' := sDvS s n (mag V) us' (q :: qs) k) hs ⟨us', q :: qs, h1, hqs.cons h3, h2, by simp; omega, h4, ?_, rfl⟩ (by omega)))
      rw [← hval, ← h5, val, Nat.pow_succ]
      simp only [Nat.mul_add, Nat.mul_assoc, Nat.add_assoc]
end Go.Proofs.Ytcgolmopbnhgeaa.Ae

namespace Go.Proofs.Ytcgolmopbnhgeaa.Ae
open Go Go.RowKit Go.Proofs.Ytcgolmopbnhgeaa.Dig
variable {N : NR}
noncomputable def sdL1 : Code := inL (inB (sq1 (sq2 (sq2 (sq2 (sq2 sdB))))))
set_option maxRecDepth 100000 in
theorem sDiv_exit1 {a b s n n1 bt y : Nat} (hn : n = (mag b).length) (hlb : n1 < n) (r1 : IntKind.i64.wrap ((n : Int) - 1) = n1) (e1 : ix (List.map dg (mag b)) n1 = some (dg bt)) (q1 : IntKind.u32.wrap ((bt : Int) * 2 ^ s) = y) (q2 : min s 32 = s) (q3 : ¬ (y : Int) < 2147483648)
    (KN : St → Prop) (K' : Exit → St → Prop) (h : K' .normal (sDv1e a b s n n1 bt y)) : awp Try.prog sDivMf (tbl sDivTb) sdL1 (sDv1 a b s) (Klp KN (Kblk 0 K')) := by
  simp only [sdL1, sdB, Try.f107, Option.getD, sq1, sq2, inB, inL]
  simp [sDv1, ← hn, r1, hlb, e1, dg, q1, q2, q3]
  exact h
set_option maxRecDepth 100000 in
set_option maxHeartbeats 4000000 in
theorem l1MagDiv_spec : SpecD N Try.prog 107 divC := by
  refine rdD (mf := sDivMf) sDivTb_ok (fn := Try.f107) (by kernel_rfl) rfl (by kernel_rfl) ?_
  rintro ⟨a, b⟩ ⟨ha, hb, hb0⟩
  refine ⟨by show 2 ≤ 301; decide, ?_⟩
  simp only [n2E, Try.f107]
  simp only [Sm] at ha hb
  have hb0 : 0 < b := hb0
  generalize hq : a / b = Q
  generalize hr : a % b = R
  have c1 := sCmpC_at a b
  simp only [Sm, ha, hb, and_self] at c1
  by_cases hab : a < b
  · have h1 : Q = 0 := by rw [← hq]; exact Nat.div_eq_of_lt hab
    have h2 : R = a := by rw [← hr]; exact Nat.mod_eq_of_lt hab
    have h3 : sgnC a b = -1 := by unfold sgnC; rw [if_pos hab]
    subst h1 h2
    rw [h3] at c1
    simp only [eM, eW] at c1 ⊢
    simp [c1, mag_zero]
    have := maxLen_ge
    omega
  · have h3 : ¬ sgnC a b < 0 := by unfold sgnC; rw [if_neg hab]; split <;> omega
    generalize sgnC a b = cv at c1 h3
    by_cases hl : (mag b).length = 1
    · obtain ⟨d, hd⟩ : ∃ d, mag b = [d] := List.length_eq_one_iff.1 hl
      have hbd : b = d := by have := val_mag b; rw [hd] at this; simp [val] at this; exact this.symm
      have hdB : d < B := by have := mag_digs b; rw [hd] at this; exact this.head
      have s1 := div1C_at a d
      rw [← hbd, hq, hr] at s1
      have e2 : ix (List.map dg (mag b)) 0 = some (dg b) := by rw [hd, hbd]; rfl
      have hbB : b < B := by rw [hbd]; exact hdB
      simp only [Sm, ha, hb0, hbB, and_self, dg] at s1
      simp only [eM, eW] at c1 s1 ⊢
      simp [c1, h3, hl, e2, dg, s1]
    · obtain ⟨n, hn⟩ : ∃ n, n = (mag b).length := ⟨_, rfl⟩
      have hn0 : n ≠ 0 := by rw [hn]; exact fun h => by rw [mag_len_zero] at h; omega
      have hn2 : 2 ≤ n := by omega
      obtain ⟨n1, hn1⟩ : ∃ n1, n - 1 = n1 := ⟨_, rfl⟩
      have hn1' : (mag b).length = n1 + 1 := by omega
      obtain ⟨bt, hbt⟩ : ∃ bt, bt = (mag b).getD n1 0 := ⟨_, rfl⟩
      have hbtB : bt < 4294967296 := by rw [hbt]; exact getD_lt (mag_digs b) _
      have hbt0 := top_ne hn1' hbt
      have e1 := ix_dg (mag b) n1 (by omega)
      rw [← hbt] at e1
      have r1 : IntKind.i64.wrap ((n : Int) - 1) = n1 := by rw [wrap_i64]; omega
      have hl' : ¬ (n : Int) = 1 := by omega
      have hlb : n1 < n := by omega
      simp only [eM, eW] at c1 ⊢
      simp [c1, h3, hl', ← hn]
      refine loop_go (fun m st => ∃ s : Nat, s + m = 32 ∧ s ≤ 31 ∧ bt * 2 ^ s < 4294967296 ∧ st = sDv1 a b s) (s0 := sDv1 a b 0) (n := 32)
        (snd_of (by simp [LeT, sDv1]) (by simp [sDv1])) ⟨0, by omega, by omega, by simpa using hbtB, rfl⟩ ?_
      rintro m st ⟨s, hsm, hs31, hsB, rfl⟩ KN hN
      obtain ⟨y, hy⟩ : ∃ y, y = bt * 2 ^ s := ⟨_, rfl⟩
      have q1 : IntKind.u32.wrap ((bt : Int) * 2 ^ s) = y := by
        have : (bt : Int) * 2 ^ s = y := by rw [hy]; simp
        rw [this, wrap_u32]; omega
      have q2 : min s 32 = s := by omega
      by_cases hlt : y < 2147483648
      · have q3 : (y : Int) < 2147483648 := by omega
        have q4 : IntKind.u64.wrap ((s : Int) + 1) = s + 1 := by rw [wrap_u64]; omega
        have hs30 : s ≤ 30 := by
          rcases Nat.lt_or_ge s 31 with h | h
          · omega
          · have : s = 31 := by omega
            have h5 : 1 * 2 ^ s ≤ bt * 2 ^ s := Nat.mul_le_mul_right _ (by omega)
            rw [this] at h5
            rw [this] at hy
            omega
        simp [sDv1, ← hn, r1, hlb, e1, dg, q1, q2, q3, q4]
        refine hN _ (nx (m := m - 1) (s'' := sDv1 a b (s + 1)) (snd_of (by simp [LeT, sDv1]) (by simp [sDv1])) ⟨s + 1, by omega, by omega, by rw [Nat.pow_succ, ← Nat.mul_assoc, ← hy]; omega, rfl⟩ (by omega))
      · have q3 : ¬ (y : Int) < 2147483648 := by omega
        clear hN
        have hm := sDiv_main (a := a) (b := b) (s := s) (n := n) (n1 := n1) (bt := bt) (y := y) ha hb hb0 hq hr hab hn hn2 hn1 hn1' hbt hbt0 hs31 hsB hy hlt
        simp only [sdR8, sdB, Try.f107, Option.getD, sq2, sDv1e] at hm
        have hx := fun K' => sDiv_exit1 (a := a) (b := b) (s := s) (n := n) (n1 := n1) (bt := bt) (y := y) hn hlb r1 e1 q1 q2 q3 KN K'
        simp only [sdL1, sdB, Try.f107, Option.getD, sq1, sq2, inB, inL, sDv1e] at hx
        exact hx _ hm
theorem l1MagDiv_ok : callable Try.prog 107 = true := by kernel_rfl
end Go.Proofs.Ytcgolmopbnhgeaa.Ae

namespace Go.Proofs.Ytcgolmopbnhgeaa.Ae
open Go Go.RowKit Go.Proofs.Ytcgolmopbnhgeaa.Dig
variable {N : NR}
@[simp] theorem range1 : List.range 1 = [0] := rfl
@[simp] theorem range2 : List.range 2 = [0, 1] := rfl
@[simp] theorem range3 : List.range 3 = [0, 1, 2] := rfl
@[simp] theorem range4 : List.range 4 = [0, 1, 2, 3] := rfl
@[simp] theorem cells_z : (Value.agg #[Value.bool false, Value.slice none 0 0]).cells.size = 2 := by rfl
@[simp] theorem cells_q : (Value.agg #[Value.int .i64 0, Value.int .i64 0]).cells.size = 2 := by rfl
@[simp] theorem cells_r : (Value.agg #[Value.int .i64 0, Value.int .i64 0, Value.slice none 0 0]).cells.size = 3 := by rfl
theorem Sub.agg2 {a b a' b' : D} (ha : Sub a a') (hb : Sub b b') : Sub (.agg [a, b]) (.agg [a', b']) := Sub.agg rfl (fun i d d' h h' => by
  match i with
  | 0 => simp at h h'; subst h h'; exact ha
  | 1 => simp at h h'; subst h h'; exact hb
  | i + 2 => simp at h)
theorem Sub.agg3 {a b c a' b' c' : D} (ha : Sub a a') (hb : Sub b b') (hc : Sub c c') : Sub (.agg [a, b, c]) (.agg [a', b', c']) := Sub.agg rfl (fun i d d' h h' => by
  match i with
  | 0 => simp at h h'; subst h h'; exact ha
  | 1 => simp at h h'; subst h h'; exact hb
  | 2 => simp at h h'; subst h h'; exact hc
  | i + 3 => simp at h)
@[simp] theorem sub_z0 : Sub (.agg [.lit (.bool false), .lit (.slice none 0 0)]) (.agg [.lit (.bool false), .sl 1 []]) = True := by
  simp only [eq_iff_iff, iff_true]; exact Sub.agg2 (Sub.refl _) (Sub.nil 1)
def eZ (z : Int) : D := .agg [.lit (.bool (decide (z < 0))), eM z.natAbs]
theorem eZ_inj {a b : Int} (h : eZ a = eZ b) : a = b := by
  simp only [eZ, D.agg.injEq, List.cons.injEq, and_true, D.lit.injEq, Value.bool.injEq, decide_eq_decide] at h
  have := eM_inj h.2
  omega
def zE (p : Z1) : List D := [eZ p.a]
theorem zE_inj (p q : Z1) (h : zE p = zE q) : p = q := by
  obtain ⟨a⟩ := p; obtain ⟨c⟩ := q
  simp only [zE, List.cons.injEq, and_true] at h
  rw [eZ_inj h]
structure Z2 where
  a : Int
  b : Int
def zzE (p : Z2) : List D := [eZ p.a, eZ p.b]
theorem zzE_inj (p q : Z2) (h : zzE p = zzE q) : p = q := by
  obtain ⟨a, b⟩ := p; obtain ⟨c, d⟩ := q
  simp only [zzE, List.cons.injEq, and_true] at h
  rw [eZ_inj h.1, eZ_inj h.2]
def SZ (z : Int) : Prop := Sm z.natAbs
theorem mag_len_pos {n : Nat} (h : 0 < n) : 0 < (mag n).length := by
  rcases Nat.eq_zero_or_pos (mag n).length with h1 | h1
  · rw [mag_len_zero] at h1; omega
  · exact h1
noncomputable def zOfC := ctD z1E (fun p => I64 p.a) (fun p => [eZ p.a])
theorem zOfC_at (a : Int) : zOfC [i64D a] = (I64 a, [eZ a]) := ctD_at z1E_inj ⟨a⟩
theorem l1ZOf_spec : SpecD N Try.prog 28 zOfC := by
  refine rdD (mf := fun f => false) (tbl_cons (f := 66) (c := .data absC) l1Abs_spec l1Abs_ok (tbl_cons (f := 68) (c := .data magC) l1Mag_spec l1Mag_ok tbl_nil)) (fn := Try.f28) (by kernel_rfl) rfl (by kernel_rfl) ?_
  rintro ⟨x⟩ hx
  have hx : I64 x := hx
  refine ⟨by show 1 ≤ 9; decide, ?_⟩
  have t1 := absC_at' x
  have t2 := magC_at' x.natAbs
  have t3 : tbl [(66, Ct.data absC), (68, .data magC)] 68 = some (.data magC) := rfl
  have t4 : tbl [(66, Ct.data absC), (68, .data magC)] 66 = some (.data absC) := rfl
  have hb : x.natAbs < 18446744073709551616 := by unfold I64 at hx; omega
  simp only [z1E, i64D, eZ, Try.f28]
  generalize x.natAbs = y at *
  simp [hx, hb] at t1 t2
  simp [eM, eW, t1, t2, t3, t4]
theorem l1ZOf_ok : callable Try.prog 28 = true := by kernel_rfl
noncomputable def zNegC := ctD zE (fun p => SZ p.a) (fun p => [eZ (-p.a)])
theorem zNegC_at (a : Int) : zNegC [eZ a] = (SZ a, [eZ (-a)]) := ctD_at zE_inj ⟨a⟩
theorem l1ZNeg_spec : SpecD N Try.prog 103 zNegC := by
  refine rdD (mf := fun f => false) tbl_nil (fn := Try.f103) (by kernel_rfl) rfl (by kernel_rfl) ?_
  rintro ⟨x⟩ hx
  have hx : SZ x := hx
  refine ⟨by show 1 ≤ 15; decide, ?_⟩
  simp only [zE, Try.f103]
  rcases Int.lt_trichotomy x 0 with h | h | h
  · have h1 : ¬ 0 < x := by omega
    simp [eZ, eM, eW, h, h1]
  · subst h
    simp [eZ, eM, eW, mag_zero]
  · have h1 : ¬ x < 0 := by omega
    have h2 := mag_len_pos (n := x.natAbs) (by omega)
    simp [eZ, eM, eW, h, h1, h2]
theorem l1ZNeg_ok : callable Try.prog 103 = true := by kernel_rfl
noncomputable def zAddC := ctD zzE (fun p => SZ p.a ∧ SZ p.b) (fun p => [eZ (p.a + p.b)])
theorem zAddC_at (a b : Int) : zAddC [eZ a, eZ b] = ((SZ a ∧ SZ b), [eZ (a + b)]) := ctD_at zzE_inj ⟨a, b⟩
noncomputable def zAddTb : List (FuncId × Ct) := [(122, .data addC), (123, .data sCmpC), (124, .data subC)]
theorem zAddTb_ok : TbOK N Try.prog (tbl zAddTb) := tbl_cons (c := .data addC) l1MagAdd_spec l1MagAdd_ok (tbl_cons (c := .data sCmpC) l1MagCmp_spec l1MagCmp_ok (tbl_cons (c := .data subC) l1MagSub_spec l1MagSub_ok tbl_nil))
@[simp] theorem zAddTb1 : tbl zAddTb 122 = some (.data addC) := rfl
@[simp] theorem zAddTb2 : tbl zAddTb 123 = some (.data sCmpC) := rfl
@[simp] theorem zAddTb3 : tbl zAddTb 124 = some (.data subC) := rfl
theorem l1ZAdd_spec : SpecD N Try.prog 102 zAddC := by
  refine rdD (mf := fun f => false) zAddTb_ok (fn := Try.f102) (by kernel_rfl) rfl (by kernel_rfl) ?_
  rintro ⟨a, b⟩ ⟨hsa, hsb⟩
  have hsa : Sm a.natAbs := hsa
  have hsb : Sm b.natAbs := hsb
  refine ⟨by show 2 ≤ 52; decide, ?_⟩
  simp only [zzE, eZ, Try.f102]
  have c1 := addC_at a.natAbs b.natAbs
  have c2 := sCmpC_at a.natAbs b.natAbs
  have c3 := subC_at a.natAbs b.natAbs
  have c4 := subC_at b.natAbs a.natAbs
  simp only [hsa, hsb, and_self, true_and] at c1 c2 c3 c4
  by_cases hab : (a < 0 ↔ b < 0)
  · have e : a.natAbs + b.natAbs = (a + b).natAbs := by omega
    rw [e] at c1
    by_cases ha : a < 0
    · have hb : b < 0 := hab.1 ha
      have hc : a + b < 0 := by omega
      have h2 := mag_len_pos (n := (a + b).natAbs) (by omega)
      generalize a.natAbs = p at *
      generalize b.natAbs = q at *
      generalize (a + b).natAbs = r at *
      simp only [eM, eW] at c1 c2 c3 c4 ⊢
      simp [ha, hb, hc, c1, h2]
    · have hb : ¬ b < 0 := fun h => ha (hab.2 h)
      have hc : ¬ a + b < 0 := by omega
      generalize a.natAbs = p at *
      generalize b.natAbs = q at *
      generalize (a + b).natAbs = r at *
      simp only [eM, eW] at c1 c2 c3 c4 ⊢
      simp [ha, hb, hc, c1]
  · by_cases ha : a < 0
    · have hb : ¬ b < 0 := fun h => hab ⟨fun _ => h, fun _ => ha⟩
      rcases Nat.lt_trichotomy a.natAbs b.natAbs with h | h | h
      · have hs : sgnC a.natAbs b.natAbs = -1 := by unfold sgnC; rw [if_pos h]
        have e : b.natAbs - a.natAbs = (a + b).natAbs := by omega
        have hc : ¬ a + b < 0 := by omega
        have hle : a.natAbs ≤ b.natAbs := by omega
        rw [hs] at c2
        simp only [hle] at c4
        rw [e] at c4
        generalize a.natAbs = p at *
        generalize b.natAbs = q at *
        generalize (a + b).natAbs = r at *
        simp only [eM, eW] at c1 c2 c3 c4 ⊢
        simp [ha, hb, hc, c2, c4]
      · have hs : sgnC a.natAbs b.natAbs = 0 := by unfold sgnC; rw [if_neg (by omega), if_neg (by omega)]
        have e : (a + b).natAbs = 0 := by omega
        have hc : ¬ a + b < 0 := by omega
        rw [hs] at c2
        rw [e]
        generalize a.natAbs = p at *
        generalize b.natAbs = q at *
        simp only [eM, eW] at c1 c2 c3 c4 ⊢
        simp [ha, hb, hc, c2, mag_zero]
      · have hs : sgnC a.natAbs b.natAbs = 1 := by unfold sgnC; rw [if_neg (by omega), if_pos h]
        have e : a.natAbs - b.natAbs = (a + b).natAbs := by omega
        have hc : a + b < 0 := by omega
        have hle : b.natAbs ≤ a.natAbs := by omega
        rw [hs] at c2
        simp only [hle] at c3
        rw [e] at c3
        generalize a.natAbs = p at *
        generalize b.natAbs = q at *
        generalize (a + b).natAbs = r at *
        simp only [eM, eW] at c1 c2 c3 c4 ⊢
        simp [ha, hb, hc, c2, c3]
    · have hb : b < 0 := Decidable.byContradiction fun h => hab ⟨fun h1 => absurd h1 ha, fun h1 => absurd h1 h⟩
      rcases Nat.lt_trichotomy a.natAbs b.natAbs with h | h | h
      · have hs : sgnC a.natAbs b.natAbs = -1 := by unfold sgnC; rw [if_pos h]
        have e : b.natAbs - a.natAbs = (a + b).natAbs := by omega
        have hc : a + b < 0 := by omega
        have hle : a.natAbs ≤ b.natAbs := by omega
        rw [hs] at c2
        simp only [hle] at c4
        rw [e] at c4
        generalize a.natAbs = p at *
        generalize b.natAbs = q at *
        generalize (a + b).natAbs = r at *
        simp only [eM, eW] at c1 c2 c3 c4 ⊢
        simp [ha, hb, hc, c2, c4]
      · have hs : sgnC a.natAbs b.natAbs = 0 := by unfold sgnC; rw [if_neg (by omega), if_neg (by omega)]
        have e : (a + b).natAbs = 0 := by omega
        have hc : ¬ a + b < 0 := by omega
        rw [hs] at c2
        rw [e]
        generalize a.natAbs = p at *
        generalize b.natAbs = q at *
        simp only [eM, eW] at c1 c2 c3 c4 ⊢
        simp [ha, hb, hc, c2, mag_zero]
      · have hs : sgnC a.natAbs b.natAbs = 1 := by unfold sgnC; rw [if_neg (by omega), if_pos h]
        have e : a.natAbs - b.natAbs = (a + b).natAbs := by omega
        have hc : ¬ a + b < 0 := by omega
        have hle : b.natAbs ≤ a.natAbs := by omega
        rw [hs] at c2
        simp only [hle] at c3
        rw [e] at c3
        generalize a.natAbs = p at *
        generalize b.natAbs = q at *
        generalize (a + b).natAbs = r at *
        simp only [eM, eW] at c1 c2 c3 c4 ⊢
        simp [ha, hb, hc, c2, c3]
theorem l1ZAdd_ok : callable Try.prog 102 = true := by kernel_rfl
noncomputable def zSubC := ctD zzE (fun p => SZ p.a ∧ SZ p.b) (fun p => [eZ (p.a - p.b)])
theorem zSubC_at (a b : Int) : zSubC [eZ a, eZ b] = ((SZ a ∧ SZ b), [eZ (a - b)]) := ctD_at zzE_inj ⟨a, b⟩
theorem SZ_neg {a : Int} : SZ (-a) ↔ SZ a := by unfold SZ; rw [Int.natAbs_neg]
@[simp] theorem eZ_size (z : Int) : (eZ z).size = 2 := rfl
@[simp] theorem eZ_agg (z : Int) : (eZ z).isAgg = true := rfl
theorem l1ZSub_spec : SpecD N Try.prog 70 zSubC := by
  refine rdD (mf := fun f => false) (tbl_cons (f := 103) (c := .data zNegC) l1ZNeg_spec l1ZNeg_ok (tbl_cons (f := 102) (c := .data zAddC) l1ZAdd_spec l1ZAdd_ok tbl_nil)) (fn := Try.f70) (by kernel_rfl) rfl (by kernel_rfl) ?_
  rintro ⟨a, b⟩ ⟨hsa, hsb⟩
  have hsa : SZ a := hsa
  have hsb : SZ b := hsb
  refine ⟨by show 2 ≤ 9; decide, ?_⟩
  simp only [zzE, Try.f70]
  have c1 := zNegC_at b
  have c2 := zAddC_at a (-b)
  simp [SZ_neg, hsa, hsb, ← Int.sub_eq_add_neg] at c1 c2
  have t1 : tbl [(103, Ct.data zNegC), (102, .data zAddC)] 103 = some (.data zNegC) := rfl
  have t2 : tbl [(103, Ct.data zNegC), (102, .data zAddC)] 102 = some (.data zAddC) := rfl
  simp [c1, c2, t1, t2]
theorem l1ZSub_ok : callable Try.prog 70 = true := by kernel_rfl
noncomputable def zMulC := ctD zzE (fun p => SZ p.a ∧ SZ p.b) (fun p => [eZ (p.a * p.b)])
theorem zMulC_at (a b : Int) : zMulC [eZ a, eZ b] = ((SZ a ∧ SZ b), [eZ (a * b)]) := ctD_at zzE_inj ⟨a, b⟩
theorem mul_neg_iff {a b : Int} (ha : a ≠ 0) (hb : b ≠ 0) : a * b < 0 ↔ ((a < 0) ≠ (b < 0)) := by
  rcases Int.lt_trichotomy a 0 with h1 | h1 | h1
  · rcases Int.lt_trichotomy b 0 with h2 | h2 | h2
    · have := Int.mul_pos_of_neg_of_neg h1 h2
      simp [h1, h2]; omega
    · exact absurd h2 hb
    · have := Int.mul_neg_of_neg_of_pos h1 h2
      simp [h1, this]; omega
  · exact absurd h1 ha
  · rcases Int.lt_trichotomy b 0 with h2 | h2 | h2
    · have := Int.mul_neg_of_pos_of_neg h1 h2
      simp [h2, this]; omega
    · exact absurd h2 hb
    · have := Int.mul_pos h1 h2
      have h3 : ¬ a < 0 := by omega
      have h4 : ¬ b < 0 := by omega
      simp [h3, h4]; omega
theorem l1ZMul_spec : SpecD N Try.prog 27 zMulC := by
  refine rdD (mf := fun f => false) (tbl_cons (f := 67) (c := .data mulC) l1MagMul_spec l1MagMul_ok tbl_nil) (fn := Try.f27) (by kernel_rfl) rfl (by kernel_rfl) ?_
  rintro ⟨a, b⟩ ⟨hsa, hsb⟩
  have hsa : Sm a.natAbs := hsa
  have hsb : Sm b.natAbs := hsb
  refine ⟨by show 2 ≤ 23; decide, ?_⟩
  simp only [zzE, eZ, Try.f27]
  have c1 := mulC_at a.natAbs b.natAbs
  simp only [hsa, hsb, and_self] at c1
  rw [← Int.natAbs_mul] at c1
  by_cases h0 : a * b = 0
  · have h1 : ¬ a * b < 0 := by omega
    have h2 : (a * b).natAbs = 0 := by omega
    rw [h2] at c1
    rw [h2]
    generalize a * b = z at *
    generalize a.natAbs = p at *
    generalize b.natAbs = q at *
    simp only [eM, eW, mag_zero] at c1 ⊢
    by_cases ha : a < 0 <;> by_cases hb : b < 0 <;> simp [ha, hb, h1, c1]
  · have ha0 : a ≠ 0 := fun h => h0 (by rw [h, Int.zero_mul])
    have hb0 : b ≠ 0 := fun h => h0 (by rw [h, Int.mul_zero])
    have h1 := mul_neg_iff ha0 hb0
    have h2 := mag_len_pos (n := (a * b).natAbs) (by omega)
    have hd : decide (a * b < 0) = (decide (a < 0) != decide (b < 0)) := by
      rw [Bool.eq_iff_iff]; simp only [decide_eq_true_eq, h1]
      by_cases ha : a < 0 <;> by_cases hb : b < 0 <;> simp [ha, hb]
    rw [hd]
    generalize (a * b).natAbs = r at *
    generalize a.natAbs = p at *
    generalize b.natAbs = q at *
    simp only [eM, eW] at c1 ⊢
    by_cases ha : a < 0 <;> by_cases hb : b < 0 <;> simp [ha, hb, c1, h2]
theorem l1ZMul_ok : callable Try.prog 27 = true := by kernel_rfl
noncomputable def zSignC := ctD zE (fun p => SZ p.a) (fun p => [i64D p.a.sign])
theorem zSignC_at (a : Int) : zSignC [eZ a] = (SZ a, [i64D a.sign]) := ctD_at zE_inj ⟨a⟩
theorem l1ZSign_spec : SpecD N Try.prog 69 zSignC := by
  refine rdD (mf := fun f => false) tbl_nil (fn := Try.f69) (by kernel_rfl) rfl (by kernel_rfl) ?_
  rintro ⟨x⟩ hx
  refine ⟨by show 1 ≤ 9; decide, ?_⟩
  simp only [zE, i64D, Try.f69]
  rcases Int.lt_trichotomy x 0 with h | h | h
  · have h1 : ¬ 0 < x := by omega
    have h2 := mag_len_pos (n := x.natAbs) (by omega)
    have h3 : mag x.natAbs ≠ [] := fun h => by rw [h] at h2; simp at h2
    rw [Int.sign_eq_neg_one_of_neg h]
    simp [eZ, eM, eW, h, h1, h3]
  · subst h
    simp [eZ, eM, eW, mag_zero]
  · have h1 : ¬ x < 0 := by omega
    have h2 := mag_len_pos (n := x.natAbs) (by omega)
    have h3 : mag x.natAbs ≠ [] := fun h => by rw [h] at h2; simp at h2
    rw [Int.sign_eq_one_of_pos h]
    simp [eZ, eM, eW, h, h1, h3]
theorem l1ZSign_ok : callable Try.prog 69 = true := by kernel_rfl
noncomputable def zCmpC := ctD zzE (fun p => SZ p.a ∧ SZ p.b ∧ SZ (p.a - p.b)) (fun p => [i64D (p.a - p.b).sign])
theorem l1ZCmp_spec : SpecD N Try.prog 29 zCmpC := by
  refine rdD (mf := fun f => false) (tbl_cons (f := 70) (c := .data zSubC) l1ZSub_spec l1ZSub_ok (tbl_cons (f := 69) (c := .data zSignC) l1ZSign_spec l1ZSign_ok tbl_nil)) (fn := Try.f29) (by kernel_rfl) rfl (by kernel_rfl) ?_
  rintro ⟨a, b⟩ ⟨hsa, hsb, hsc⟩
  have hsa : SZ a := hsa
  have hsb : SZ b := hsb
  have hsc : SZ (a - b) := hsc
  refine ⟨by show 2 ≤ 9; decide, ?_⟩
  simp only [zzE, Try.f29]
  have c1 := zSubC_at a b
  have c2 := zSignC_at (a - b)
  simp only [hsa, hsb, hsc, and_self] at c1 c2
  have t1 : tbl [(70, Ct.data zSubC), (69, .data zSignC)] 70 = some (.data zSubC) := rfl
  have t2 : tbl [(70, Ct.data zSubC), (69, .data zSignC)] 69 = some (.data zSignC) := rfl
  simp [c1, c2, t1, t2]
theorem l1ZCmp_ok : callable Try.prog 29 = true := by kernel_rfl
end Go.Proofs.Ytcgolmopbnhgeaa.Ae

namespace Go.Proofs.Ytcgolmopbnhgeaa.Ae
open Go Go.RowKit Go.Proofs.Ytcgolmopbnhgeaa.Dig
variable {N : NR}
def uuE (p : N2) : List D := [u64D p.a, u64D p.b]
theorem uuE_inj (p q : N2) (h : uuE p = uuE q) : p = q := by
  obtain ⟨a, b⟩ := p; obtain ⟨c, d⟩ := q
  simp only [uuE, List.cons.injEq, and_true] at h
  rw [u64D_inj h.1, u64D_inj h.2]
noncomputable def gcdC := ctD uuE (fun p => p.a < 18446744073709551616 ∧ p.b < 18446744073709551616) (fun p => [u64D (Nat.gcd p.a p.b)])
theorem gcdC_at (a b : Nat) : gcdC [u64D a, u64D b] = ((a < 18446744073709551616 ∧ b < 18446744073709551616), [u64D (Nat.gcd a b)]) := ctD_at uuE_inj ⟨a, b⟩
def gcdS (a b : Nat) : St := ⟨[.dat (.lit (.int .u64 a)), .dat (.lit (.int .u64 b)), .any, .any, .any, .any, .any, .any, .any, .any, .any, .any], [none, none, none, none, none, none, none, none, none, none, none, none]⟩
theorem l1Gcd_spec : SpecD N Try.prog 65 gcdC := by
  refine rdD (mf := fun f => false) tbl_nil (fn := Try.f65) (by kernel_rfl) rfl (by kernel_rfl) ?_
  rintro ⟨a, b⟩ ⟨ha, hb⟩
  have ha : a < 18446744073709551616 := ha
  have hb : b < 18446744073709551616 := hb
  refine ⟨by show 2 ≤ 12; decide, ?_⟩
  simp only [uuE, u64D, Try.f65]
  generalize hg : Nat.gcd a b = g
  simp
  refine loop_go (fun n st => ∃ x y : Nat, x < 18446744073709551616 ∧ y < 18446744073709551616 ∧ Nat.gcd x y = g ∧ n = y ∧ st = gcdS x y) (s0 := gcdS a b) (n := b) (snd_of (by simp [LeT, gcdS]) (by simp [gcdS])) ⟨a, b, ha, hb, hg, rfl, rfl⟩ ?_
  rintro y st ⟨x, _, hx, hy, hxy, rfl, rfl⟩ KN hN
  rcases Nat.eq_zero_or_pos y with h0 | h0
  · subst h0
    rw [Nat.gcd_zero_right] at hxy
    subst hxy
    simp [gcdS]
  · have h1 : ¬ y = 0 := by omega
    obtain ⟨r, hr⟩ : ∃ r, r = x % y := ⟨_, rfl⟩
    have hry : r < y := by rw [hr]; exact Nat.mod_lt _ h0
    have q1 := tmod_nat x y
    rw [← hr] at q1
    have q2 : IntKind.u64.wrap (r : Int) = r := by rw [wrap_u64]; omega
    simp [gcdS, h1, q1, q2]
    refine hN _ (nx (m := r) (s'' := gcdS y r) (snd_of (by simp [LeT, gcdS]) (by simp [gcdS])) ⟨y, r, hy, by omega, ?_, rfl, rfl⟩ hry)
    rw [hr, ← hxy, Nat.gcd_comm y, ← Nat.gcd_rec, Nat.gcd_comm]
theorem l1Gcd_ok : callable Try.prog 65 = true := by kernel_rfl
noncomputable def smallC := ctD z1E (fun p => I64 p.a) (fun p => [.lit (.bool (decide (-2147483648 < p.a ∧ p.a < 2147483648)))])
theorem smallC_at (a : Int) : smallC [i64D a] = (I64 a, [.lit (.bool (decide (-2147483648 < a ∧ a < 2147483648)))]) := ctD_at z1E_inj ⟨a⟩
theorem l1Small_spec : SpecD N Try.prog 134 smallC := by
  refine rdD (mf := fun f => false) tbl_nil (fn := Try.f134) (by kernel_rfl) rfl (by kernel_rfl) ?_
  rintro ⟨a⟩ ha
  refine ⟨by show 1 ≤ 9; decide, ?_⟩
  simp only [z1E, i64D, Try.f134]
  by_cases h1 : -2147483648 < a <;> by_cases h2 : a < 2147483648 <;> simp [h1, h2]
theorem l1Small_ok : callable Try.prog 134 = true := by kernel_rfl
noncomputable def zGcdC := ctD zzE (fun p => SZ p.a ∧ SZ p.b) (fun p => [eZ (Int.gcd p.a p.b)])
theorem zGcdC_at (a b : Int) : zGcdC [eZ a, eZ b] = ((SZ a ∧ SZ b), [eZ (Int.gcd a b)]) := ctD_at zzE_inj ⟨a, b⟩
def zGcdS (a b : Int) (x y : Nat) : St := ⟨[.any, .any, .any, .any, .obj 4 [] 0, .dat (eM x), .dat (eM y), .any, .any, .any, .any, .any, .any, .any, .any, .any, .any, .any, .any, .any, .any, .any, .any, .any, .any, .any], [none, none, some (.box (eZ a)), some (.box (eZ b)), some (.box (.agg [.lit (.bool false), .lit (.slice none 0 0)])), none, none, none, none, none, none, none, none, none, none, none, none, none, none, none, none, none, none, none, none, none]⟩
theorem Sm_le {a b : Nat} (h : a ≤ b) (hb : Sm b) : Sm a := Nat.lt_of_le_of_lt (mag_len_le h) hb
theorem l1ZGcd_spec : SpecD N Try.prog 106 zGcdC := by
  refine rdD (mf := fun f => false) (tbl_cons (f := 107) (c := .data divC) l1MagDiv_spec l1MagDiv_ok tbl_nil) (fn := Try.f106) (by kernel_rfl) rfl (by kernel_rfl) ?_
  rintro ⟨a, b⟩ ⟨ha, hb⟩
  have ha : Sm a.natAbs := ha
  have hb : Sm b.natAbs := hb
  refine ⟨by show 2 ≤ 26; decide, ?_⟩
  simp only [zzE, Try.f106]
  generalize hg : Int.gcd a b = g
  have hg' : Nat.gcd a.natAbs b.natAbs = g := hg
  simp [eZ, eM, eW]
  refine loop_go (fun n st => ∃ x y : Nat, Sm x ∧ Sm y ∧ Nat.gcd x y = g ∧ n = y ∧ st = zGcdS a b x y) (s0 := zGcdS a b a.natAbs b.natAbs) (n := b.natAbs) (snd_of (by simp [LeT, zGcdS, eZ, eM, eW]) (by simp [zGcdS, eZ, eM, eW])) ⟨_, _, ha, hb, hg', rfl, rfl⟩ ?_
  rintro y st ⟨x, _, hx, hy, hxy, rfl, rfl⟩ KN hN
  rcases Nat.eq_zero_or_pos y with h0 | h0
  · subst h0
    rw [Nat.gcd_zero_right] at hxy
    subst hxy
    have hx0 : ¬ ((x : Nat) : Int) < 0 := by omega
    simp [zGcdS, eZ, eM, eW, mag_zero, hx0]
  · have h1 := mag_len_pos h0
    obtain ⟨r, hr⟩ : ∃ r, r = x % y := ⟨_, rfl⟩
    obtain ⟨q, hq⟩ : ∃ q, q = x / y := ⟨_, rfl⟩
    have hry : r < y := by rw [hr]; exact Nat.mod_lt _ h0
    have c1 := divC_at x y
    rw [← hr, ← hq] at c1
    simp only [hx, hy, h0, and_self, eM, eW] at c1
    simp [zGcdS, eZ, eM, eW, h1, c1]
    refine hN _ (nx (m := r) (s'' := zGcdS a b y r) (snd_of (by simp [LeT, zGcdS, eZ, eM, eW]) (by simp [zGcdS, eZ, eM, eW])) ⟨y, r, hy, Sm_le (Nat.le_of_lt hry) hy, ?_, rfl, rfl⟩ hry)
    rw [hr, ← hxy, Nat.gcd_comm y, ← Nat.gcd_rec, Nat.gcd_comm]
theorem l1ZGcd_ok : callable Try.prog 106 = true := by kernel_rfl
structure ZM where
  a : Int
  m : Nat
def zmE (p : ZM) : List D := [eZ p.a, u64D p.m]
theorem zmE_inj (p q : ZM) (h : zmE p = zmE q) : p = q := by
  obtain ⟨a, b⟩ := p; obtain ⟨c, d⟩ := q
  simp only [zmE, List.cons.injEq, and_true] at h
  rw [eZ_inj h.1, u64D_inj h.2]
noncomputable def zIntC := ctD zmE (fun p => SZ p.a ∧ p.m ≤ 9223372036854775807) (fun p => [i64D (if p.a.natAbs ≤ p.m then p.a else 0), .lit (.bool (decide (p.a.natAbs ≤ p.m)))])
theorem zIntC_at (a : Int) (m : Nat) : zIntC [eZ a, u64D m] = ((SZ a ∧ m ≤ 9223372036854775807), [i64D (if a.natAbs ≤ m then a else 0), .lit (.bool (decide (a.natAbs ≤ m)))]) := ctD_at zmE_inj ⟨a, m⟩
def zIntS (a : Int) (m x n : Nat) : St := ⟨[.any, .dat (.lit (.int .u64 m)), .obj 2 [] 0, .any, .any, .any, .dat (.lit (.int .u64 x)), .dat (.lit (.int .i64 ((n : Int) - 1))), .any, .any, .any, .any, .any, .any, .any, .any, .any, .any, .any, .any, .any, .any, .any, .any, .any, .any, .any, .any, .any, .any, .any, .any, .any, .any, .any, .any, .any, .any, .any], [none, none, some (.box (eZ a)), none, none, none, none, none, none, none, none, none, none, none, none, none, none, none, none, none, none, none, none, none, none, none, none, none, none, none, none, none, none, none, none, none, none, none, none]⟩
theorem l1ZInt_spec : SpecD N Try.prog 105 zIntC := by
  refine rdD (mf := fun f => false) tbl_nil (fn := Try.f105) (by kernel_rfl) rfl (by kernel_rfl) ?_
  rintro ⟨a, m⟩ ⟨ha, hm⟩
  have ha : Sm a.natAbs := ha
  have hm : m ≤ 9223372036854775807 := hm
  refine ⟨by show 2 ≤ 39; decide, ?_⟩
  simp only [zmE, u64D, i64D, Try.f105]
  by_cases hl : 2 < (mag a.natAbs).length
  · have h1 : ¬ a.natAbs ≤ m := by
      intro h2
      have h3 : a.natAbs < B ^ 2 := by simp only [B]; omega
      have := mag_lt.2 h3
      omega
    have hl' : (2 : Int) < (mag a.natAbs).length := by omega
    simp [eZ, eM, eW, h1, hl']
  · have hl' : ¬ (2 : Int) < (mag a.natAbs).length := by omega
    have r1 : IntKind.i64.wrap (((mag a.natAbs).length : Int) - 1) = (mag a.natAbs).length - 1 := by rw [wrap_i64]; omega
    simp [eZ, eM, eW, hl', r1]
    refine loop_go (fun n st => n ≤ (mag a.natAbs).length ∧ st = zIntS a m (val ((mag a.natAbs).drop n)) n) (s0 := zIntS a m 0 (mag a.natAbs).length) (n := (mag a.natAbs).length) (snd_of (by simp [LeT, zIntS, eZ, eM, eW]) (by simp [zIntS, eZ, eM, eW])) ⟨Nat.le_refl _, by rw [List.drop_eq_nil_of_le (Nat.le_refl _)]; rfl⟩ ?_
    rintro n st ⟨hn, rfl⟩ KN hN
    cases n with
    | zero =>
      rw [List.drop_zero, val_mag]
      have hB : a.natAbs < 18446744073709551616 := by
        have := mag_lt.1 (by omega : (mag a.natAbs).length ≤ 2)
        simp only [B] at this; omega
      obtain ⟨v, hv⟩ : ∃ v, v = a.natAbs := ⟨_, rfl⟩
      by_cases hle : v ≤ m
      · have q1 : ¬ (m : Int) < v := by omega
        have q2 : IntKind.i64.wrap (v : Int) = v := by rw [wrap_i64]; omega
        by_cases hneg : a < 0
        · have q3 : IntKind.i64.wrap (-(v : Int)) = a := by rw [wrap_i64]; omega
          rw [← hv]
          simp [zIntS, eZ, eM, eW, ← hv, hle, hneg, q1, q2, q3]
        · have q3 : (v : Int) = a := by omega
          rw [← hv]
          simp only [q3] at q1 q2
          simp [zIntS, eZ, eM, eW, ← hv, hle, hneg, q1, q2, q3]
      · have q1 : (m : Int) < v := by omega
        rw [← hv]
        simp [zIntS, eZ, eM, eW, ← hv, hle, q1]
    | succ k =>
      obtain ⟨d, hd⟩ : ∃ d, d = (mag a.natAbs).getD k 0 := ⟨_, rfl⟩
      have hdB : d < 4294967296 := by rw [hd]; exact getD_lt (mag_digs _) _
      have hk : k < (mag a.natAbs).length := by omega
      have e1 := ix_dg _ _ hk
      rw [← hd] at e1
      obtain ⟨x, hx⟩ : ∃ x, x = val ((mag a.natAbs).drop (k + 1)) := ⟨_, rfl⟩
      have hxB : x < 4294967296 := by
        have h1 := val_lt ((mag_digs a.natAbs).drop (k + 1))
        rw [← hx] at h1
        have h2 : ((mag a.natAbs).drop (k + 1)).length ≤ 1 := by rw [List.length_drop]; omega
        have h3 : B ^ ((mag a.natAbs).drop (k + 1)).length ≤ B ^ 1 := Nat.pow_le_pow_right B_pos h2
        simp only [Nat.pow_one] at h3
        exact Nat.lt_of_lt_of_le h1 h3
      have hnx := drop_val hk
      rw [← hd, ← hx] at hnx
      obtain ⟨x2, hx2⟩ : ∃ x2, x2 = val ((mag a.natAbs).drop k) := ⟨_, rfl⟩
      rw [← hx2] at hnx
      have q2 : IntKind.u64.wrap (d : Int) = d := by rw [wrap_u64]; omega
      have q3 : IntKind.u64.wrap ((x : Int) * 4294967296) = (x : Int) * 4294967296 := by rw [wrap_u64]; omega
      have q4 : bOr .u64 ((x : Int) * 4294967296) d = x2 := by
        have := bOr64 (x * 4294967296) d (by omega) (by omega)
        rw [or_cut x d hdB] at this
        have h2 : x * 4294967296 + d = x2 := by rw [hnx]; simp only [B]; omega
        rw [h2] at this
        rw [← this]; congr 1
      have q5 : IntKind.i64.wrap ((k : Int) - 1) = (k : Int) - 1 := by rw [wrap_i64]; omega
      rw [← hx]
      simp [zIntS, eZ, eM, eW, hk, e1, dg, q2, q3, q4, q5]
      exact hN _ (nx (m := k) (s'' := zIntS a m x2 k) (snd_of (by simp [LeT, zIntS, eZ, eM, eW]) (by simp [zIntS, eZ, eM, eW])) ⟨by omega, by rw [hx2]⟩ (by omega))
theorem l1ZInt_ok : callable Try.prog 105 = true := by kernel_rfl
end Go.Proofs.Ytcgolmopbnhgeaa.Ae

namespace Go.Proofs.Ytcgolmopbnhgeaa.Ae
open Go Go.RowKit Go.Proofs.Ytcgolmopbnhgeaa.Dig
variable {N : NR}
inductive SR where
  | small (n d : Int)
  | lit (n d : Int)
  | big (p q : Int)
def SR.num : SR → Int
  | small n _ => n
  | lit n _ => n
  | big p _ => p
def SR.den : SR → Int
  | small _ d => d
  | lit _ d => d
  | big _ q => q
def SR.isBig : SR → Bool
  | big _ _ => true
  | _ => false
def eR : SR → D
  | .small n d => .agg [i64D n, i64D d, .sl 2 []]
  | .lit n d => .agg [i64D n, i64D d, .lit (.slice none 0 0)]
  | .big p q => .agg [i64D 0, i64D 0, .sl 2 [eZ p, eZ q]]
theorem eR_inj : ∀ {a b : SR}, eR a = eR b → a = b
  | .small n d, .small n' d', h => by
    simp only [eR, D.agg.injEq, List.cons.injEq, and_true] at h
    rw [i64D_inj h.1, i64D_inj h.2]
  | .lit n d, .lit n' d', h => by
    simp only [eR, D.agg.injEq, List.cons.injEq, and_true] at h
    rw [i64D_inj h.1, i64D_inj h.2]
  | .big p q, .big p' q', h => by
    simp only [eR, D.agg.injEq, List.cons.injEq, and_true, true_and, D.sl.injEq] at h
    rw [eZ_inj h.1, eZ_inj h.2]
  | .small .., .lit .., h => by simp [eR] at h
  | .small .., .big .., h => by simp [eR] at h
  | .lit .., .small .., h => by simp [eR] at h
  | .lit .., .big .., h => by simp [eR] at h
  | .big .., .small .., h => by simp [eR] at h
  | .big .., .lit .., h => by simp [eR] at h
def WR : SR → Prop
  | .small n d => n.natAbs < 2147483648 ∧ 0 < d ∧ d < 2147483648
  | .lit n d => n.natAbs < 2147483648 ∧ 0 < d ∧ d < 2147483648
  | .big p q => SZ p ∧ SZ q ∧ 0 < q
def packR (p q : Int) : SR := if p.natAbs ≤ 2147483647 ∧ q.natAbs ≤ 2147483647 then .small p q else .big p q
theorem Sm_small {n : Nat} (h : n < 18446744073709551616) : Sm n := by
  have h1 : n < B ^ 2 := by simp only [B]; omega
  have := mag_lt.2 h1
  unfold Sm; omega
@[simp] theorem sub_r0 (n d : Int) : Sub (.agg [.lit (.int .i64 n), .lit (.int .i64 d), .lit (.slice none 0 0)]) (.agg [.lit (.int .i64 n), .lit (.int .i64 d), .sl 2 []]) = True := by
  simp only [eq_iff_iff, iff_true]; exact Sub.agg3 (Sub.refl _) (Sub.refl _) (Sub.nil 2)
@[simp] theorem eR_size (r : SR) : (eR r).size = 3 := by cases r <;> rfl
@[simp] theorem eR_isAgg (r : SR) : (eR r).isAgg = true := by cases r <;> rfl
noncomputable def packC := ctD zzE (fun p => SZ p.a ∧ SZ p.b) (fun p => [eR (packR p.a p.b)])
theorem packC_at (a b : Int) : packC [eZ a, eZ b] = ((SZ a ∧ SZ b), [eR (packR a b)]) := ctD_at zzE_inj ⟨a, b⟩
theorem l1rPack_spec : SpecD N Try.prog 108 packC := by
  refine rdD (mf := fun f => f == bld 73) (tbl_cons (f := 105) (c := .data zIntC) l1ZInt_spec l1ZInt_ok tbl_nil) (fn := Try.f108) (by kernel_rfl) rfl (by kernel_rfl) ?_
  rintro ⟨a, b⟩ ⟨ha, hb⟩
  have ha : SZ a := ha
  have hb : SZ b := hb
  refine ⟨by show 2 ≤ 30; decide, ?_⟩
  simp only [zzE, Try.f108]
  have c1 := zIntC_at a 2147483647
  have c2 := zIntC_at b 2147483647
  simp only [ha, hb, u64D, i64D] at c1 c2
  unfold packR
  by_cases h1 : a.natAbs ≤ 2147483647 <;> by_cases h2 : b.natAbs ≤ 2147483647 <;> simp [h1, h2] at c1 c2 <;> simp [c1, c2, h1, h2, eR, i64D]
theorem l1rPack_ok : callable Try.prog 108 = true := by kernel_rfl
def ofR (n d : Int) : SR := if (-2147483648 < n ∧ n < 2147483648) ∧ -2147483648 < d ∧ d < 2147483648 then .small n d else packR (n / (Int.gcd n d : Int)) (d / (Int.gcd n d : Int))
theorem eZ_div {n : Int} {g : Nat} (hg : 0 < g) (h : (g : Int) ∣ n) : eZ (n / (g : Int)) = .agg [.lit (.bool (decide (n < 0))), eM (n.natAbs / g)] := by
  obtain ⟨k, rfl⟩ := h
  have h1 : (g : Int) * k / (g : Int) = k := Int.mul_ediv_cancel_left k (by omega)
  have h2 : ((g : Int) * k).natAbs / g = k.natAbs := by rw [Int.natAbs_mul, Int.natAbs_natCast, Nat.mul_div_cancel_left _ hg]
  have h3 : ((g : Int) * k < 0) ↔ (k < 0) := by
    constructor
    · intro h
      rcases Int.lt_trichotomy k 0 with h4 | h4 | h4
      · exact h4
      · rw [h4, Int.mul_zero] at h; omega
      · have := Int.mul_pos (by omega : (0 : Int) < g) h4; omega
    · intro h; exact Int.mul_neg_of_pos_of_neg (by omega) h
  rw [h1, h2]
  unfold eZ
  simp only [h3]
def iiE (p : Z2) : List D := [i64D p.a, i64D p.b]
theorem iiE_inj (p q : Z2) (h : iiE p = iiE q) : p = q := by
  obtain ⟨a, b⟩ := p; obtain ⟨c, d⟩ := q
  simp only [iiE, List.cons.injEq, and_true] at h
  rw [i64D_inj h.1, i64D_inj h.2]
noncomputable def ofC := ctD iiE (fun p => I64 p.a ∧ I64 p.b ∧ 0 < p.b) (fun p => [eR (ofR p.a p.b)])
theorem ofC_at (a b : Int) : ofC [i64D a, i64D b] = ((I64 a ∧ I64 b ∧ 0 < b), [eR (ofR a b)]) := ctD_at iiE_inj ⟨a, b⟩
noncomputable def ofTb : List (FuncId × Ct) := [(134, .data smallC), (66, .data absC), (65, .data gcdC), (68, .data magC), (108, .data packC)]
theorem ofTb_ok : TbOK N Try.prog (tbl ofTb) := tbl_cons (c := .data smallC) l1Small_spec l1Small_ok (tbl_cons (c := .data absC) l1Abs_spec l1Abs_ok (tbl_cons (c := .data gcdC) l1Gcd_spec l1Gcd_ok (tbl_cons (c := .data magC) l1Mag_spec l1Mag_ok (tbl_cons (c := .data packC) l1rPack_spec l1rPack_ok tbl_nil))))
@[simp] theorem ofTb1 : tbl ofTb 134 = some (.data smallC) := rfl
@[simp] theorem ofTb2 : tbl ofTb 66 = some (.data absC) := rfl
@[simp] theorem ofTb3 : tbl ofTb 65 = some (.data gcdC) := rfl
@[simp] theorem ofTb4 : tbl ofTb 68 = some (.data magC) := rfl
@[simp] theorem ofTb5 : tbl ofTb 108 = some (.data packC) := rfl
theorem l1rOf_spec : SpecD N Try.prog 121 ofC := by
  refine rdD (mf := fun f => false) ofTb_ok (fn := Try.f121) (by kernel_rfl) rfl (by kernel_rfl) ?_
  rintro ⟨n, d⟩ ⟨hn, hd, hd0⟩
  have hn : I64 n := hn
  have hd : I64 d := hd
  have hd0 : 0 < d := hd0
  refine ⟨by show 2 ≤ 39; decide, ?_⟩
  simp only [iiE, i64D, Try.f121]
  have c1 := smallC_at n
  have c2 := smallC_at d
  simp only [hn, hd, i64D] at c1 c2
  by_cases hs : (-2147483648 < n ∧ n < 2147483648) ∧ -2147483648 < d ∧ d < 2147483648
  · have e : ofR n d = .small n d := by unfold ofR; rw [if_pos hs]
    have e1 : decide (-2147483648 < n ∧ n < 2147483648) = true := decide_eq_true hs.1
    have e2 : decide (-2147483648 < d ∧ d < 2147483648) = true := decide_eq_true hs.2
    rw [e]
    rw [e1] at c1
    rw [e2] at c2
    simp [c1, c2, eR, i64D]
  · have e : ofR n d = packR (n / (Int.gcd n d : Int)) (d / (Int.gcd n d : Int)) := by unfold ofR; rw [if_neg hs]
    rw [e]
    obtain ⟨g, hg⟩ : ∃ g, g = Int.gcd n d := ⟨_, rfl⟩
    have hg0 : 0 < g := by rw [hg]; exact Int.gcd_pos_of_ne_zero_right _ (by omega)
    have hg1 : (g : Int) ∣ n := by rw [hg]; exact Int.gcd_dvd_left ..
    have hg2 : (g : Int) ∣ d := by rw [hg]; exact Int.gcd_dvd_right ..
    have hgn : Nat.gcd n.natAbs d.natAbs = g := hg.symm
    rw [← hg]
    have c3 := absC_at n
    have c4 := gcdC_at n.natAbs d.natAbs
    rw [hgn] at c4
    have hn1 : n.natAbs < 18446744073709551616 := by unfold I64 at hn; omega
    have hd1 : d.natAbs < 18446744073709551616 := by unfold I64 at hd; omega
    simp only [hn, hn1, hd1, and_self, u64D, i64D] at c3 c4
    have c5 := packC_at (n / (g : Int)) (d / (g : Int))
    obtain ⟨p, hp⟩ : ∃ p, p = n.natAbs / g := ⟨_, rfl⟩
    obtain ⟨q, hq⟩ : ∃ q, q = d.natAbs / g := ⟨_, rfl⟩
    have hp1 : p < 18446744073709551616 := by rw [hp]; exact Nat.lt_of_le_of_lt (Nat.div_le_self _ _) hn1
    have hq1 : q < 18446744073709551616 := by rw [hq]; exact Nat.lt_of_le_of_lt (Nat.div_le_self _ _) hd1
    have c6 := magC_at p
    have c7 := magC_at q
    have hdn : ¬ d < 0 := by omega
    have hs1 : SZ (n / (g : Int)) := by
      have := congrArg (fun x => x) (eZ_div hg0 hg1)
      have h2 : (n / (g : Int)).natAbs = p := by
        simp only [eZ, D.agg.injEq, List.cons.injEq, and_true] at this
        rw [hp]; exact eM_inj this.2
      unfold SZ; rw [h2]; exact Sm_small hp1
    have hs2 : SZ (d / (g : Int)) := by
      have := congrArg (fun x => x) (eZ_div hg0 hg2)
      have h2 : (d / (g : Int)).natAbs = q := by
        simp only [eZ, D.agg.injEq, List.cons.injEq, and_true] at this
        rw [hq]; exact eM_inj this.2
      unfold SZ; rw [h2]; exact Sm_small hq1
    rw [eZ_div hg0 hg1, eZ_div hg0 hg2, ← hp, ← hq] at c5
    simp only [hp1, hq1, hs1, hs2, hdn, u64D, eM, eW, and_self, decide_false] at c5 c6 c7
    have w1 : IntKind.u64.wrap d = (d.natAbs : Int) := by rw [wrap_u64]; unfold I64 at hd; omega
    have w2 : Int.tdiv ((n.natAbs : Nat) : Int) g = p := by rw [hp]; exact tdiv_nat _ _
    have w3 : Int.tdiv ((d.natAbs : Nat) : Int) g = q := by rw [hq]; exact tdiv_nat _ _
    have w4 : IntKind.u64.wrap (p : Int) = p := by rw [wrap_u64]; omega
    have w5 : IntKind.u64.wrap (q : Int) = q := by rw [wrap_u64]; omega
    have hgne : ¬ g = 0 := by omega
    generalize packR (n / (g : Int)) (d / (g : Int)) = res at *
    generalize n.natAbs = na at *
    generalize d.natAbs = da at *
    by_cases h1 : -2147483648 < n ∧ n < 2147483648
    · have h2 : ¬ (-2147483648 < d ∧ d < 2147483648) := fun h => hs ⟨h1, h⟩
      have e1 : decide (-2147483648 < n ∧ n < 2147483648) = true := decide_eq_true h1
      have e2 : decide (-2147483648 < d ∧ d < 2147483648) = false := decide_eq_false h2
      rw [e1] at c1
      rw [e2] at c2
      simp [c1, c2, c3, c4, c5, c6, c7, w1, w2, w3, w4, w5, hgne]
    · have e1 : decide (-2147483648 < n ∧ n < 2147483648) = false := decide_eq_false h1
      rw [e1] at c1
      simp [c1, c3, c4, c5, c6, c7, w1, w2, w3, w4, w5, hgne]
theorem l1rOf_ok : callable Try.prog 121 = true := by kernel_rfl
end Go.Proofs.Ytcgolmopbnhgeaa.Ae

namespace Go.Proofs.Ytcgolmopbnhgeaa.Ae
open Go Go.RowKit Go.Proofs.Ytcgolmopbnhgeaa.Dig
variable {N : NR}
structure R1 where
  a : SR
def rE (p : R1) : List D := [eR p.a]
theorem rE_inj (p q : R1) (h : rE p = rE q) : p = q := by
  obtain ⟨a⟩ := p; obtain ⟨c⟩ := q
  simp only [rE, List.cons.injEq, and_true] at h
  rw [eR_inj h]
structure R2 where
  a : SR
  b : SR
def rrE (p : R2) : List D := [eR p.a, eR p.b]
theorem rrE_inj (p q : R2) (h : rrE p = rrE q) : p = q := by
  obtain ⟨a, b⟩ := p; obtain ⟨c, d⟩ := q
  simp only [rrE, List.cons.injEq, and_true] at h
  rw [eR_inj h.1, eR_inj h.2]
theorem WR_SZ {r : SR} (h : WR r) : SZ r.num ∧ SZ r.den ∧ 0 < r.den := by
  cases r with
  | small n d => obtain ⟨h1, h2, h3⟩ := h; exact ⟨Sm_small (by show n.natAbs < _; omega), Sm_small (by show d.natAbs < _; omega), h2⟩
  | lit n d => obtain ⟨h1, h2, h3⟩ := h; exact ⟨Sm_small (by show n.natAbs < _; omega), Sm_small (by show d.natAbs < _; omega), h2⟩
  | big p q => exact h
noncomputable def rzC := ctD rE (fun p => WR p.a) (fun p => [eZ p.a.num, eZ p.a.den])
theorem rzC_at (a : SR) : rzC [eR a] = (WR a, [eZ a.num, eZ a.den]) := ctD_at rE_inj ⟨a⟩
def bigR (n d : Int) : SR := if n = 0 then .small 0 1 else if d < 0 then packR (-n / (Int.gcd n d : Int)) (-d / (Int.gcd n d : Int)) else packR (n / (Int.gcd n d : Int)) (d / (Int.gcd n d : Int))
noncomputable def bigC := ctD zzE (fun p => SZ p.a ∧ SZ p.b ∧ p.b ≠ 0) (fun p => [eR (bigR p.a p.b)])
theorem bigC_at (a b : Int) : bigC [eZ a, eZ b] = ((SZ a ∧ SZ b ∧ b ≠ 0), [eR (bigR a b)]) := ctD_at zzE_inj ⟨a, b⟩
noncomputable def bigTb : List (FuncId × Ct) := [(103, .data zNegC), (106, .data zGcdC), (107, .data divC), (108, .data packC)]
theorem bigTb_ok : TbOK N Try.prog (tbl bigTb) := tbl_cons (c := .data zNegC) l1ZNeg_spec l1ZNeg_ok (tbl_cons (c := .data zGcdC) l1ZGcd_spec l1ZGcd_ok (tbl_cons (c := .data divC) l1MagDiv_spec l1MagDiv_ok (tbl_cons (c := .data packC) l1rPack_spec l1rPack_ok tbl_nil)))
@[simp] theorem bigTb1 : tbl bigTb 103 = some (.data zNegC) := rfl
@[simp] theorem bigTb2 : tbl bigTb 106 = some (.data zGcdC) := rfl
@[simp] theorem bigTb3 : tbl bigTb 107 = some (.data divC) := rfl
@[simp] theorem bigTb4 : tbl bigTb 108 = some (.data packC) := rfl
theorem natAbs_div {n : Int} {g : Nat} (hg : 0 < g) (h : (g : Int) ∣ n) : (n / (g : Int)).natAbs = n.natAbs / g := by
  have := eZ_div hg h
  simp only [eZ, D.agg.injEq, List.cons.injEq, and_true] at this
  exact eM_inj this.2
theorem SZ_le {a b : Int} (h : a.natAbs ≤ b.natAbs) (hb : SZ b) : SZ a := Sm_le h hb
theorem l1rBig_spec : SpecD N Try.prog 72 bigC := by
  refine rdD (mf := fun f => false) bigTb_ok (fn := Try.f72) (by kernel_rfl) rfl (by kernel_rfl) ?_
  rintro ⟨n, d⟩ ⟨hn, hd, hd0⟩
  have hn : SZ n := hn
  have hd : SZ d := hd
  have hd0 : d ≠ 0 := hd0
  refine ⟨by show 2 ≤ 47; decide, ?_⟩
  simp only [zzE, Try.f72]
  by_cases hn0 : n = 0
  · have e : bigR n d = .small 0 1 := by unfold bigR; rw [if_pos hn0]
    rw [e]
    subst hn0
    simp [eZ, eM, eW, mag_zero, eR, i64D]
  · have hlen := mag_len_pos (n := n.natAbs) (by omega)
    have hne : mag n.natAbs ≠ [] := fun h => by rw [h] at hlen; simp at hlen
    -- the part behind the signs
    have key : ∀ n' d' : Int, SZ n' → SZ d' → n' ≠ 0 → 0 < d' → ∃ (g p q : Nat), 0 < g ∧ zGcdC [eZ n', eZ d'] = (True, [.agg [.lit (.bool false), .sl 1 ((mag g).map dg)]]) ∧ divC [.sl 1 ((mag n'.natAbs).map dg), .sl 1 ((mag g).map dg)] = (True, [.sl 1 ((mag p).map dg), eM (n'.natAbs % g)]) ∧
        divC [.sl 1 ((mag d'.natAbs).map dg), .sl 1 ((mag g).map dg)] = (True, [.sl 1 ((mag q).map dg), eM (d'.natAbs % g)]) ∧ packC [.agg [.lit (.bool (decide (n' < 0))), .sl 1 ((mag p).map dg)], .agg [.lit (.bool false), .sl 1 ((mag q).map dg)]] = (True, [eR (packR (n' / (Int.gcd n' d' : Int)) (d' / (Int.gcd n' d' : Int)))]) := by
      intro n' d' h1 h2 h3 h4
      obtain ⟨g, hg⟩ : ∃ g, g = Int.gcd n' d' := ⟨_, rfl⟩
      have hg0 : 0 < g := by rw [hg]; exact Int.gcd_pos_of_ne_zero_right _ (by omega)
      have hg1 : (g : Int) ∣ n' := by rw [hg]; exact Int.gcd_dvd_left ..
      have hg2 : (g : Int) ∣ d' := by rw [hg]; exact Int.gcd_dvd_right ..
      have hgd : g ≤ d'.natAbs := Nat.le_of_dvd (by omega) (by have := Int.natAbs_dvd_natAbs.2 hg2; simpa using this)
      have c1 := zGcdC_at n' d'
      have c2 := divC_at n'.natAbs g
      have c3 := divC_at d'.natAbs g
      have c4 := packC_at (n' / (g : Int)) (d' / (g : Int))
      have hsg : Sm g := Sm_le hgd h2
      have hs1 : SZ (n' / (g : Int)) := SZ_le (by rw [natAbs_div hg0 hg1]; exact Nat.div_le_self _ _) h1
      have hs2 : SZ (d' / (g : Int)) := SZ_le (by rw [natAbs_div hg0 hg2]; exact Nat.div_le_self _ _) h2
      rw [eZ_div hg0 hg1, eZ_div hg0 hg2] at c4
      have hdn : ¬ d' < 0 := by omega
      have hgn : ¬ ((g : Nat) : Int) < 0 := by omega
      rw [← hg] at c1
      have h1' : Sm n'.natAbs := h1
      have h2' : Sm d'.natAbs := h2
      refine ⟨g, n'.natAbs / g, d'.natAbs / g, hg0, ?_, ?_, ?_, ?_⟩
      · rw [c1]; simp only [h1, h2, and_self, eZ, hgn, decide_false, Int.natAbs_natCast, eM, eW]
      · simp only [eM, eW] at c2 ⊢; rw [c2]; simp only [h1', hsg, hg0, and_self]
      · simp only [eM, eW] at c3 ⊢; rw [c3]; simp only [h2', hsg, hg0, and_self]
      · rw [← hg]; simp only [eM, eW, hdn, decide_false] at c4; rw [c4]; simp only [hs1, hs2, and_self]
    by_cases hdn : d < 0
    · have e : bigR n d = packR (-n / (Int.gcd (-n) (-d) : Int)) (-d / (Int.gcd (-n) (-d) : Int)) := by unfold bigR; rw [if_neg hn0, if_pos hdn, Int.neg_gcd, Int.gcd_neg]
      rw [e]
      have c1 := zNegC_at n
      have c2 := zNegC_at d
      simp only [hn, hd] at c1 c2
      obtain ⟨g, p, q, hg0, k1, k2, k3, k4⟩ := key (-n) (-d) (SZ_neg.2 hn) (SZ_neg.2 hd) (by omega) (by omega)
      have c1' : zNegC [eZ n] = (True, [eZ (-n)]) := c1
      have hdn' : ¬ -d < 0 := by omega
      generalize packR _ _ = res at *
      have e3 : decide (-n < 0) = decide (0 < n) := by simp
      simp only [eZ, eM, eW, hdn', decide_false, hdn, decide_true, e3, Int.natAbs_neg] at c1 c2 k1 k2 k3 k4 ⊢
      simp [hne, c1, c2, k1, k2, k3, k4]
    · have e : bigR n d = packR (n / (Int.gcd n d : Int)) (d / (Int.gcd n d : Int)) := by unfold bigR; rw [if_neg hn0, if_neg hdn]
      rw [e]
      obtain ⟨g, p, q, hg0, k1, k2, k3, k4⟩ := key n d hn hd hn0 (by omega)
      generalize packR _ _ = res at *
      simp only [eZ, eM, eW, hdn, decide_false] at k1 ⊢
      simp [hne, k1, k2, k3, k4]
theorem l1rBig_ok : callable Try.prog 72 = true := by kernel_rfl
end Go.Proofs.Ytcgolmopbnhgeaa.Ae

namespace Go.Proofs.Ytcgolmopbnhgeaa.Ae
open Go Go.RowKit Go.Proofs.Ytcgolmopbnhgeaa.Dig
variable {N : NR}
theorem l1rZ_spec : SpecD N Try.prog 104 rzC := by
  refine rdD (mf := fun f => f == cel 2 || f == cel 3) (tbl_cons (f := 28) (c := .data zOfC) l1ZOf_spec l1ZOf_ok tbl_nil) (fn := Try.f104) (by kernel_rfl) rfl (by kernel_rfl) ?_
  rintro ⟨a⟩ ha
  have ha : WR a := ha
  refine ⟨by show 1 ≤ 22; decide, ?_⟩
  simp only [rE, Try.f104]
  cases a with
  | small n d =>
    obtain ⟨h1, h2, h3⟩ := ha
    have c1 := zOfC_at n
    have c2 := zOfC_at d
    have i1 : I64 n := by unfold I64; omega
    have i2 : I64 d := by unfold I64; omega
    simp only [i1, i2, i64D] at c1 c2
    simp [eR, i64D, SR.num, SR.den, c1, c2]
  | lit n d =>
    obtain ⟨h1, h2, h3⟩ := ha
    have c1 := zOfC_at n
    have c2 := zOfC_at d
    have i1 : I64 n := by unfold I64; omega
    have i2 : I64 d := by unfold I64; omega
    simp only [i1, i2, i64D] at c1 c2
    simp [eR, i64D, SR.num, SR.den, c1, c2]
  | big p q =>
    have e0 : ix [eZ p, eZ q] 0 = some (eZ p) := rfl
    have e1 : ix [eZ p, eZ q] 1 = some (eZ q) := rfl
    simp [eR, i64D, SR.num, SR.den, e0, e1]
theorem l1rZ_ok : callable Try.prog 104 = true := by kernel_rfl
end Go.Proofs.Ytcgolmopbnhgeaa.Ae

namespace Go.Proofs.Ytcgolmopbnhgeaa.Ae
open Go Go.RowKit Go.Proofs.Ytcgolmopbnhgeaa.Dig
variable {N : NR}
theorem prod_bd {n d : Int} (hn : n.natAbs < 2147483648) (hd : 0 < d ∧ d < 2147483648) : -4611686018427387904 < n * d ∧ n * d < 4611686018427387904 := by
  have h1 : (n * d).natAbs ≤ 2147483647 * 2147483647 := by rw [Int.natAbs_mul]; exact Nat.mul_le_mul (by omega) (by omega)
  omega
theorem pos_bd {c d : Int} (hc : 0 < c ∧ c < 2147483648) (hd : 0 < d ∧ d < 2147483648) : 0 < c * d ∧ c * d < 4611686018427387904 :=
  ⟨Int.mul_pos hc.1 hd.1, (prod_bd (n := c) (by omega) hd).2⟩
theorem w_0 : IntKind.i64.wrap 0 = 0 := by rw [wrap_i64]; rfl
theorem w_2 : IntKind.i64.wrap 2 = 2 := by rw [wrap_i64]; rfl
theorem w_4 : IntKind.i64.wrap 4 = 4 := by rw [wrap_i64]; rfl
theorem eR_small (n d : Int) : eR (.small n d) = .agg [i64D n, i64D d, .sl 2 []] := rfl
theorem eR_lit (n d : Int) : eR (.lit n d) = .agg [i64D n, i64D d, .lit (.slice none 0 0)] := rfl
theorem eR_big (p q : Int) : eR (.big p q) = .agg [i64D 0, i64D 0, .sl 2 [eZ p, eZ q]] := rfl
def addR (a b : SR) : SR := if a.isBig || b.isBig then bigR (a.num * b.den + b.num * a.den) (a.den * b.den) else ofR (a.num * b.den + b.num * a.den) (a.den * b.den)
noncomputable def rAddC := ctD rrE (fun p => WR p.a ∧ WR p.b ∧ SZ (p.a.num * p.b.den) ∧ SZ (p.b.num * p.a.den) ∧ SZ (p.a.num * p.b.den + p.b.num * p.a.den) ∧ SZ (p.a.den * p.b.den)) (fun p => [eR (addR p.a p.b)])
theorem rAddC_at (a b : SR) : rAddC [eR a, eR b] = ((WR a ∧ WR b ∧ SZ (a.num * b.den) ∧ SZ (b.num * a.den) ∧ SZ (a.num * b.den + b.num * a.den) ∧ SZ (a.den * b.den)), [eR (addR a b)]) := ctD_at rrE_inj ⟨a, b⟩
noncomputable def rTb : List (FuncId × Ct) := [(121, .data ofC), (104, .data rzC), (27, .data zMulC), (102, .data zAddC), (72, .data bigC), (29, .data zCmpC), (69, .data zSignC), (103, .data zNegC), (28, .data zOfC), (108, .data packC)]
theorem rTb_ok : TbOK N Try.prog (tbl rTb) := tbl_cons (c := .data ofC) l1rOf_spec l1rOf_ok (tbl_cons (c := .data rzC) l1rZ_spec l1rZ_ok (tbl_cons (c := .data zMulC) l1ZMul_spec l1ZMul_ok (tbl_cons (c := .data zAddC) l1ZAdd_spec l1ZAdd_ok (tbl_cons (c := .data bigC) l1rBig_spec l1rBig_ok (tbl_cons (c := .data zCmpC) l1ZCmp_spec l1ZCmp_ok (tbl_cons (c := .data zSignC) l1ZSign_spec l1ZSign_ok (tbl_cons (c := .data zNegC) l1ZNeg_spec l1ZNeg_ok (tbl_cons (c := .data zOfC) l1ZOf_spec l1ZOf_ok (tbl_cons (c := .data packC) l1rPack_spec l1rPack_ok tbl_nil)))))))))
@[simp] theorem rTb1 : tbl rTb 121 = some (.data ofC) := rfl
@[simp] theorem rTb2 : tbl rTb 104 = some (.data rzC) := rfl
@[simp] theorem rTb3 : tbl rTb 27 = some (.data zMulC) := rfl
@[simp] theorem rTb4 : tbl rTb 102 = some (.data zAddC) := rfl
@[simp] theorem rTb5 : tbl rTb 72 = some (.data bigC) := rfl
@[simp] theorem rTb6 : tbl rTb 29 = some (.data zCmpC) := rfl
@[simp] theorem rTb7 : tbl rTb 69 = some (.data zSignC) := rfl
@[simp] theorem rTb8 : tbl rTb 103 = some (.data zNegC) := rfl
@[simp] theorem rTb9 : tbl rTb 28 = some (.data zOfC) := rfl
@[simp] theorem rTb10 : tbl rTb 108 = some (.data packC) := rfl
theorem l1rAdd_spec : SpecD N Try.prog 98 rAddC := by
  refine rdD (mf := fun f => false) rTb_ok (fn := Try.f98) (by kernel_rfl) rfl (by kernel_rfl) ?_
  rintro ⟨a, b⟩ ⟨ha, hb, h1, h2, h3, h4⟩
  have ha : WR a := ha
  have hb : WR b := hb
  have h1 : SZ (a.num * b.den) := h1
  have h2 : SZ (b.num * a.den) := h2
  have h3 : SZ (a.num * b.den + b.num * a.den) := h3
  have h4 : SZ (a.den * b.den) := h4
  obtain ⟨sa1, sa2, sa3⟩ := WR_SZ ha
  obtain ⟨sb1, sb2, sb3⟩ := WR_SZ hb
  refine ⟨by show 2 ≤ 55; decide, ?_⟩
  simp only [rrE, Try.f98]
  have c1 := rzC_at a
  have c2 := rzC_at b
  have c3 := zMulC_at a.num b.den
  have c4 := zMulC_at b.num a.den
  have c5 := zAddC_at (a.num * b.den) (b.num * a.den)
  have c6 := zMulC_at a.den b.den
  have c7 := bigC_at (a.num * b.den + b.num * a.den) (a.den * b.den)
  have h5 : a.den * b.den ≠ 0 := by have := Int.mul_pos sa3 sb3; omega
  have c8 := ofC_at (a.num * b.den + b.num * a.den) (a.den * b.den)
  simp only [ha, hb, h1, h2, h3, h4, sa1, sa2, sb1, sb2, and_self, h5, ne_eq, not_false_eq_true] at c1 c2 c3 c4 c5 c6 c7
  rcases a with ⟨n, d⟩ | ⟨n, d⟩ | ⟨n, d⟩ <;> rcases b with ⟨n', d'⟩ | ⟨n', d'⟩ | ⟨n', d'⟩
  case small.small | small.lit | lit.small | lit.lit =>
    obtain ⟨x1, x2, x3⟩ := ha
    obtain ⟨y1, y2, y3⟩ := hb
    have b1 := prod_bd x1 ⟨y2, y3⟩
    have b2 := prod_bd y1 ⟨x2, x3⟩
    have b3 := pos_bd ⟨x2, x3⟩ ⟨y2, y3⟩
    simp only [SR.num, SR.den, SR.isBig, addR, eR_small, eR_lit, eR_big, i64D, Bool.or_self, Bool.false_eq_true, if_false] at c8 ⊢
    have i1 : I64 (n * d' + n' * d) := by unfold I64; omega
    have i2 : I64 (d * d') := by unfold I64; omega
    have i3 : 0 < d * d' := b3.1
    simp only [i1, i2, i3, and_self] at c8
    have w1 : IntKind.i64.wrap (n * d') = n * d' := i64_id _ (by omega) (by omega)
    have w2 : IntKind.i64.wrap (n' * d) = n' * d := i64_id _ (by omega) (by omega)
    have w3 : IntKind.i64.wrap (d * d') = d * d' := i64_id _ (by omega) (by omega)
    have w4 : IntKind.i64.wrap (n * d' + n' * d) = n * d' + n' * d := i64_id _ (by omega) (by omega)
    simp [w_0, w1, w2, w3, w4, c8]
  all_goals
    simp only [SR.num, SR.den, SR.isBig, addR, eR_small, eR_lit, eR_big, i64D, Bool.or_true, Bool.true_or, Bool.or_self, if_true] at c1 c2 c3 c4 c5 c6 c7 ⊢
    simp [w_2, w_4, c1, c2, c3, c4, c5, c6, c7]
theorem l1rAdd_ok : callable Try.prog 98 = true := by kernel_rfl
end Go.Proofs.Ytcgolmopbnhgeaa.Ae

namespace Go.Proofs.Ytcgolmopbnhgeaa.Ae
open Go Go.RowKit Go.Proofs.Ytcgolmopbnhgeaa.Dig
variable {N : NR}
def mulR (a b : SR) : SR := if a.isBig || b.isBig then bigR (a.num * b.num) (a.den * b.den) else ofR (a.num * b.num) (a.den * b.den)
noncomputable def rMulC := ctD rrE (fun p => WR p.a ∧ WR p.b ∧ SZ (p.a.num * p.b.num) ∧ SZ (p.a.den * p.b.den)) (fun p => [eR (mulR p.a p.b)])
theorem rMulC_at (a b : SR) : rMulC [eR a, eR b] = ((WR a ∧ WR b ∧ SZ (a.num * b.num) ∧ SZ (a.den * b.den)), [eR (mulR a b)]) := ctD_at rrE_inj ⟨a, b⟩
theorem l1rMul_spec : SpecD N Try.prog 96 rMulC := by
  refine rdD (mf := fun f => false) rTb_ok (fn := Try.f96) (by kernel_rfl) rfl (by kernel_rfl) ?_
  rintro ⟨a, b⟩ ⟨ha, hb, h1, h4⟩
  have ha : WR a := ha
  have hb : WR b := hb
  have h1 : SZ (a.num * b.num) := h1
  have h4 : SZ (a.den * b.den) := h4
  obtain ⟨sa1, sa2, sa3⟩ := WR_SZ ha
  obtain ⟨sb1, sb2, sb3⟩ := WR_SZ hb
  refine ⟨by show 2 ≤ 45; decide, ?_⟩
  simp only [rrE, Try.f96]
  have c1 := rzC_at a
  have c2 := rzC_at b
  have c3 := zMulC_at a.num b.num
  have c6 := zMulC_at a.den b.den
  have c7 := bigC_at (a.num * b.num) (a.den * b.den)
  have h5 : a.den * b.den ≠ 0 := by have := Int.mul_pos sa3 sb3; omega
  have c8 := ofC_at (a.num * b.num) (a.den * b.den)
  simp only [ha, hb, h1, h4, sa1, sa2, sb1, sb2, and_self, h5, ne_eq, not_false_eq_true] at c1 c2 c3 c6 c7
  rcases a with ⟨n, d⟩ | ⟨n, d⟩ | ⟨n, d⟩ <;> rcases b with ⟨n', d'⟩ | ⟨n', d'⟩ | ⟨n', d'⟩
  case small.small | small.lit | lit.small | lit.lit =>
    obtain ⟨x1, x2, x3⟩ := ha
    obtain ⟨y1, y2, y3⟩ := hb
    have b1 : -4611686018427387904 < n * n' ∧ n * n' < 4611686018427387904 := by
      have h1 : (n * n').natAbs ≤ 2147483647 * 2147483647 := by rw [Int.natAbs_mul]; exact Nat.mul_le_mul (by omega) (by omega)
      omega
    have b3 := pos_bd ⟨x2, x3⟩ ⟨y2, y3⟩
    simp only [SR.num, SR.den, SR.isBig, mulR, eR_small, eR_lit, eR_big, i64D, Bool.or_self, Bool.false_eq_true, if_false] at c8 ⊢
    have i1 : I64 (n * n') := by unfold I64; omega
    have i2 : I64 (d * d') := by unfold I64; omega
    have i3 : 0 < d * d' := b3.1
    simp only [i1, i2, i3, and_self] at c8
    have w1 : IntKind.i64.wrap (n * n') = n * n' := i64_id _ (by omega) (by omega)
    have w3 : IntKind.i64.wrap (d * d') = d * d' := i64_id _ (by omega) (by omega)
    simp [w_0, w1, w3, c8]
  all_goals
    simp only [SR.num, SR.den, SR.isBig, mulR, eR_small, eR_lit, eR_big, i64D, Bool.or_true, Bool.true_or, Bool.or_self, if_true] at c1 c2 c3 c6 c7 ⊢
    simp [w_2, w_4, c1, c2, c3, c6, c7]
theorem l1rMul_ok : callable Try.prog 96 = true := by kernel_rfl
def negR : SR → SR
  | .small n d => .small (-n) d
  | .lit n d => .small (-n) d
  | .big p q => .big (-p) q
noncomputable def rNegC := ctD rE (fun p => WR p.a) (fun p => [eR (negR p.a)])
theorem rNegC_at (a : SR) : rNegC [eR a] = (WR a, [eR (negR a)]) := ctD_at rE_inj ⟨a⟩
theorem l1rNeg_spec : SpecD N Try.prog 97 rNegC := by
  refine rdD (mf := fun f => f == bld 73) rTb_ok (fn := Try.f97) (by kernel_rfl) rfl (by kernel_rfl) ?_
  rintro ⟨a⟩ ha
  have ha : WR a := ha
  refine ⟨by show 1 ≤ 24; decide, ?_⟩
  simp only [rE, Try.f97]
  rcases a with ⟨n, d⟩ | ⟨n, d⟩ | ⟨n, d⟩
  case small | lit =>
    obtain ⟨x1, x2, x3⟩ := ha
    have w1 : IntKind.i64.wrap (-n) = -n := i64_id _ (by omega) (by omega)
    simp [negR, eR_small, eR_lit, i64D, w1]
  case big =>
    obtain ⟨x1, x2, x3⟩ := ha
    have c1 := zNegC_at n
    simp only [x1] at c1
    have e0 : ix [eZ n, eZ d] 0 = some (eZ n) := rfl
    have e1 : ix [eZ n, eZ d] 1 = some (eZ d) := rfl
    simp [negR, eR_big, i64D, c1, e0, e1]
theorem l1rNeg_ok : callable Try.prog 97 = true := by kernel_rfl
theorem negR_num (a : SR) : (negR a).num = -a.num := by cases a <;> rfl
theorem negR_den (a : SR) : (negR a).den = a.den := by cases a <;> rfl
theorem negR_WR {a : SR} (h : WR a) : WR (negR a) := by
  cases a with
  | small n d => obtain ⟨x1, x2, x3⟩ := h; exact ⟨by rw [Int.natAbs_neg]; exact x1, x2, x3⟩
  | lit n d => obtain ⟨x1, x2, x3⟩ := h; exact ⟨by rw [Int.natAbs_neg]; exact x1, x2, x3⟩
  | big p q => obtain ⟨x1, x2, x3⟩ := h; exact ⟨SZ_neg.2 x1, x2, x3⟩
noncomputable def rSignC := ctD rE (fun p => WR p.a) (fun p => [i64D p.a.num.sign])
theorem rSignC_at (a : SR) : rSignC [eR a] = (WR a, [i64D a.num.sign]) := ctD_at rE_inj ⟨a⟩
theorem l1rSign_spec : SpecD N Try.prog 41 rSignC := by
  refine rdD (mf := fun f => false) rTb_ok (fn := Try.f41) (by kernel_rfl) rfl (by kernel_rfl) ?_
  rintro ⟨a⟩ ha
  have ha : WR a := ha
  refine ⟨by show 1 ≤ 18; decide, ?_⟩
  simp only [rE, Try.f41]
  rcases a with ⟨n, d⟩ | ⟨n, d⟩ | ⟨n, d⟩
  case small | lit =>
    simp only [SR.num, eR_small, eR_lit, i64D]
    rcases Int.lt_trichotomy n 0 with h | h | h
    · rw [Int.sign_eq_neg_one_of_neg h]
      simp [h]
    · subst h
      simp
    · have h1 : ¬ n < 0 := by omega
      rw [Int.sign_eq_one_of_pos h]
      simp [h, h1]
  case big =>
    obtain ⟨x1, x2, x3⟩ := ha
    have c1 := zSignC_at n
    simp only [x1, i64D] at c1
    have e0 : ix [eZ n, eZ d] 0 = some (eZ n) := rfl
    simp [SR.num, eR_big, i64D, c1, e0]
theorem l1rSign_ok : callable Try.prog 41 = true := by kernel_rfl
end Go.Proofs.Ytcgolmopbnhgeaa.Ae

namespace Go.Proofs.Ytcgolmopbnhgeaa.Ae
open Go Go.RowKit Go.Proofs.Ytcgolmopbnhgeaa.Dig
variable {N : NR}
def eQ (n d : Int) : D := .agg [i64D n, i64D d]
end Go.Proofs.Ytcgolmopbnhgeaa.Ae

namespace Go.Proofs.Ytcgolmopbnhgeaa.Ae
open Go Go.RowKit Go.Proofs.Ytcgolmopbnhgeaa.Dig
variable {N : NR}
end Go.Proofs.Ytcgolmopbnhgeaa.Ae

namespace Go.Proofs.Ytcgolmopbnhgeaa.Ae
open Go Go.RowKit Go.Proofs.Ytcgolmopbnhgeaa.Dig
variable {N : NR}
inductive BC where
  | z (v : Int)
  | new
def eB : BC → D
  | .z v => eZ v
  | .new => .agg [.lit (.bool false), .lit (.slice none 0 0)]
theorem eB_inj : ∀ {a b : BC}, eB a = eB b → a = b
  | .z v, .z w, h => by rw [eZ_inj h]
  | .z v, .new, h => by simp [eB, eZ, eM, eW] at h
  | .new, .z w, h => by simp [eB, eZ, eM, eW] at h
  | .new, .new, _ => rfl
structure PutA where
  neg : Bool
  m : Nat
  c : BC
def putE (p : PutA) : List Ar × List D := ([.ref 0, .dat (.lit (.bool p.neg)), .dat (eM p.m)], [eB p.c])
theorem putE_inj (p q : PutA) (h : putE p = putE q) : p = q := by
  obtain ⟨a, b, c⟩ := p; obtain ⟨a', b', c'⟩ := q
  simp only [putE, Prod.mk.injEq, List.cons.injEq, and_true, true_and, Ar.dat.injEq, D.lit.injEq, Value.bool.injEq] at h
  rw [h.1.1, eM_inj h.1.2, eB_inj h.2]
def sg (neg : Bool) (m : Nat) : Int := if neg = true then -(m : Int) else m
noncomputable def putC := ctM putE (fun _ => True) (fun p => ([.ref 0], [eZ (sg p.neg p.m)]))
theorem put_spec : SpecM N Try.prog 89 putC := by
  refine rdM (mf := fun f => false) tbl_nil (fn := Try.f89) (by kernel_rfl) rfl (by kernel_rfl) ?_
  rintro ⟨neg, m, c⟩ _
  refine ⟨by show 3 ≤ 21; decide, rfl, ?_⟩
  simp only [putE, Try.f89]
  rcases Nat.eq_zero_or_pos m with h0 | h0
  · subst h0
    have e : sg neg 0 = 0 := by unfold sg; split <;> rfl
    rw [e]
    cases c <;> cases neg <;> simp [eB, eZ, eM, eW, mag_zero]
  · have h1 := mag_len_pos h0
    have h2 : ¬ ((m : Nat) : Int) < 0 := by omega
    cases c <;> cases neg <;> simp [eB, eZ, eM, eW, sg, h0, h1, h2]
theorem put_ok : callable Try.prog 89 = true := by kernel_rfl
theorem putC_at (neg : Bool) (m : Nat) (c : BC) : putC [.ref 0, .dat (.lit (.bool neg)), .dat (eM m)] [eB c] = (True, [.ref 0], [eZ (sg neg m)]) := ctM_at putE_inj ⟨neg, m, c⟩
theorem putC_z (neg : Bool) (m : Nat) (v : Int) : putC [.ref 0, .dat (.lit (.bool neg)), .dat (.sl 1 ((mag m).map dg))] [.agg [.lit (.bool (decide (v < 0))), .sl 1 ((mag v.natAbs).map dg)]] = (True, [.ref 0], [eZ (sg neg m)]) := putC_at neg m (.z v)
theorem putC_n (neg : Bool) (m : Nat) : putC [.ref 0, .dat (.lit (.bool neg)), .dat (.sl 1 ((mag m).map dg))] [.agg [.lit (.bool false), .lit (.slice none 0 0)]] = (True, [.ref 0], [eZ (sg neg m)]) := putC_at neg m .new
def ptM : List Bool := [true, false, false]
structure SetA where
  n : Int
  c : BC
def setE (p : SetA) : List Ar × List D := ([.ref 0, .dat (i64D p.n)], [eB p.c])
theorem setE_inj (p q : SetA) (h : setE p = setE q) : p = q := by
  obtain ⟨a, b⟩ := p; obtain ⟨a', b'⟩ := q
  simp only [setE, Prod.mk.injEq, List.cons.injEq, and_true, true_and, Ar.dat.injEq] at h
  rw [i64D_inj h.1, eB_inj h.2]
noncomputable def setC := ctM setE (fun p => I64 p.n) (fun p => ([.ref 0], [eZ p.n]))
theorem setC_at (n : Int) (c : BC) : setC [.ref 0, .dat (i64D n)] [eB c] = (I64 n, [.ref 0], [eZ n]) := ctM_at setE_inj ⟨n, c⟩
end Go.Proofs.Ytcgolmopbnhgeaa.Ae

namespace Go.Proofs.Ytcgolmopbnhgeaa.Ae
open Go Go.RowKit Go.Proofs.Ytcgolmopbnhgeaa.Dig
variable {N : NR}
noncomputable def pTb : List (FuncId × Ct) := [(116, .data trimC), (89, .mut ptM putC)]
theorem pTb_ok : TbOK N Try.prog (tbl pTb) := tbl_cons (c := .data trimC) trimmed_spec trimmed_ok (tbl_cons (c := .mut ptM putC) put_spec put_ok tbl_nil)
@[simp] theorem pTb1 : tbl pTb 116 = some (.data trimC) := rfl
@[simp] theorem pTb2 : tbl pTb 89 = some (.mut ptM putC) := rfl
def pMf : FuncId → Bool := fun f => f == 116 || f == 89
attribute [simp] pMf ptM
theorem SetInt64_spec : SpecM N Try.prog 118 setC := by
  refine rdM (mf := pMf) pTb_ok (fn := Try.f118) (by kernel_rfl) rfl (by kernel_rfl) ?_
  rintro ⟨n, c⟩ hn
  have hn : I64 n := hn
  refine ⟨by show 2 ≤ 23; decide, rfl, ?_⟩
  simp only [setE, i64D, Try.f118]
  unfold I64 at hn
  obtain ⟨m, hm⟩ : ∃ m, m = n.natAbs := ⟨_, rfl⟩
  obtain ⟨l, hl⟩ : ∃ l, l = m % 4294967296 := ⟨_, rfl⟩
  obtain ⟨h, hh⟩ : ∃ h, h = m / 4294967296 := ⟨_, rfl⟩
  have r1 : IntKind.u32.wrap (m : Int) = l := by rw [wrap_u32]; omega
  have r2 : IntKind.u32.wrap ((m : Int) / 4294967296) = h := by rw [wrap_u32]; omega
  have hd : Digs [l, h] := (Digs.nil.cons (by simp only [B]; omega)).cons (by simp only [B]; omega)
  have t1 := trimC_at' [l, h] hd
  have hv : val [l, h] = m := by rw [hl, hh]; exact two_digits m
  rw [hv] at t1
  simp [dg] at t1
  by_cases h0 : n < 0
  · have w1 : IntKind.u64.wrap (-IntKind.u64.wrap n) = m := by rw [wrap_u64, wrap_u64]; omega
    have e : sg true m = n := by unfold sg; rw [if_pos rfl]; omega
    have p1 := fun v => putC_z true m v
    have p2 := putC_n true m
    rw [e] at p1 p2

    cases c <;> simp [eB, eZ, eM, eW, dg, h0, w1, r1, r2, t1, p1, p2]
  · have w1 : IntKind.u64.wrap n = m := by rw [wrap_u64]; omega
    have e : sg false m = n := by unfold sg; rw [if_neg (by simp)]; omega
    have p1 := fun v => putC_z false m v
    have p2 := putC_n false m
    rw [e] at p1 p2
    cases c <;> simp [eB, eZ, eM, eW, dg, h0, w1, r1, r2, t1, p1, p2]
theorem SetInt64_ok : callable Try.prog 118 = true := by kernel_rfl
theorem setC_n (n : Int) : setC [.ref 0, .dat (.lit (.int .i64 n))] [.agg [.lit (.bool false), .lit (.slice none 0 0)]] = (I64 n, [.ref 0], [eZ n]) := setC_at n .new
noncomputable def newC := ctD z1E (fun p => I64 p.a) (fun p => [.ptr (eZ p.a)])
theorem newC_at (a : Int) : newC [i64D a] = (I64 a, [.ptr (eZ a)]) := ctD_at z1E_inj ⟨a⟩
theorem newBigInt_spec : SpecD N Try.prog 92 newC := by
  refine rdD (mf := fun f => f == 118) (tbl_cons (f := 118) (c := .mut [true, false] setC) SetInt64_spec SetInt64_ok tbl_nil) (fn := Try.f92) (by kernel_rfl) rfl (by kernel_rfl) ?_
  rintro ⟨n⟩ hn
  have hn : I64 n := hn
  refine ⟨by show 1 ≤ 6; decide, ?_⟩
  simp only [z1E, i64D, Try.f92]
  have c1 := setC_n n
  simp only [hn] at c1
  simp [c1]
theorem newBigInt_ok : callable Try.prog 92 = true := by kernel_rfl
end Go.Proofs.Ytcgolmopbnhgeaa.Ae

namespace Go.Proofs.Ytcgolmopbnhgeaa.Ae
open Go Go.RowKit Go.Proofs.Ytcgolmopbnhgeaa.Dig
variable {N : NR}
end Go.Proofs.Ytcgolmopbnhgeaa.Ae

namespace Go.Proofs.Ytcgolmopbnhgeaa.Ae
open Go Go.RowKit Go.Proofs.Ytcgolmopbnhgeaa.Dig
variable {N : NR}
inductive BinA where
  | dd (x y : Int) (c : BC)
  | zd (x y : Int)
def BinA.x : BinA → Int
  | dd x _ _ => x
  | zd x _ => x
def BinA.y : BinA → Int
  | dd _ y _ => y
  | zd _ y => y
def binE : BinA → List Ar × List D
  | .dd x y c => ([.ref 0, .dat (.ptr (eZ x)), .dat (.ptr (eZ y))], [eB c])
  | .zd x y => ([.ref 0, .ref 0, .dat (.ptr (eZ y))], [eZ x])
theorem binE_inj : ∀ (p q : BinA), binE p = binE q → p = q
  | .dd a b c, .dd a' b' c', h => by
    simp only [binE, Prod.mk.injEq, List.cons.injEq, and_true, true_and, Ar.dat.injEq, D.ptr.injEq] at h
    rw [eZ_inj h.1.1, eZ_inj h.1.2, eB_inj h.2]
  | .zd a b, .zd a' b', h => by
    simp only [binE, Prod.mk.injEq, List.cons.injEq, and_true, true_and, Ar.dat.injEq, D.ptr.injEq] at h
    rw [eZ_inj h.1, eZ_inj h.2]
  | .dd .., .zd .., h => by simp [binE] at h
  | .zd .., .dd .., h => by simp [binE] at h
noncomputable def iAddC := ctM binE (fun p => SZ p.x ∧ SZ p.y) (fun p => ([.ref 0], [eZ (p.x + p.y)]))
noncomputable def iTb : List (FuncId × Ct) := [(85, .data addC), (87, .data cmpC), (133, .data subC), (88, .data mulC), (89, .mut ptM putC)]
theorem iTb_ok : TbOK N Try.prog (tbl iTb) := tbl_cons (c := .data addC) addMag_spec addMag_ok (tbl_cons (c := .data cmpC) cmpMag_spec cmpMag_ok (tbl_cons (c := .data subC) subMag_spec subMag_ok (tbl_cons (c := .data mulC) mulMag_spec mulMag_ok (tbl_cons (c := .mut ptM putC) put_spec put_ok tbl_nil))))
@[simp] theorem iTb1 : tbl iTb 85 = some (.data addC) := rfl
@[simp] theorem iTb2 : tbl iTb 87 = some (.data cmpC) := rfl
@[simp] theorem iTb3 : tbl iTb 133 = some (.data subC) := rfl
@[simp] theorem iTb4 : tbl iTb 88 = some (.data mulC) := rfl
@[simp] theorem iTb5 : tbl iTb 89 = some (.mut ptM putC) := rfl
set_option maxHeartbeats 4000000 in
theorem Add_spec : SpecM N Try.prog 120 iAddC := by
  refine rdM (mf := fun f => f == 89) iTb_ok (fn := Try.f120) (by kernel_rfl) rfl (by kernel_rfl) ?_
  rintro p ⟨hsa, hsb⟩
  refine ⟨by cases p <;> (show 3 ≤ 73; decide), by cases p <;> rfl, ?_⟩
  obtain ⟨a, b, ha0, hb0, hp⟩ : ∃ a b, p.x = a ∧ p.y = b ∧ ((∃ c, p = .dd a b c) ∨ p = .zd a b) := by
    cases p with
    | dd x y c => exact ⟨x, y, rfl, rfl, .inl ⟨c, rfl⟩⟩
    | zd x y => exact ⟨x, y, rfl, rfl, .inr rfl⟩
  rw [ha0, hb0]
  rw [ha0] at hsa
  rw [hb0] at hsb
  have hsa : Sm a.natAbs := hsa
  have hsb : Sm b.natAbs := hsb
  simp only [Try.f120]
  have c1 := addC_at a.natAbs b.natAbs
  have c2 := cmpC_at a.natAbs b.natAbs
  have c3 := subC_at a.natAbs b.natAbs
  have c4 := subC_at b.natAbs a.natAbs
  simp only [hsa, hsb, and_self, true_and] at c1 c2 c3 c4
  have k1 := @cmpV_neg a.natAbs b.natAbs
  generalize cmpV a.natAbs b.natAbs = cv at c2 k1
  clear ha0 hb0
  -- what put is handed
  have fin : ∀ (neg : Bool) (m : Nat), sg neg m = a + b → (∀ v : Int, putC [.ref 0, .dat (.lit (.bool neg)), .dat (.sl 1 ((mag m).map dg))] [.agg [.lit (.bool (decide (v < 0))), .sl 1 ((mag v.natAbs).map dg)]] = (True, [.ref 0], [eZ (a + b)])) ∧ putC [.ref 0, .dat (.lit (.bool neg)), .dat (.sl 1 ((mag m).map dg))] [.agg [.lit (.bool false), .lit (.slice none 0 0)]] = (True, [.ref 0], [eZ (a + b)]) := by
    intro neg m h
    rw [← h]
    exact ⟨fun v => putC_z neg m v, putC_n neg m⟩
  by_cases ha : a < 0 <;> by_cases hb : b < 0
  · obtain ⟨p1, p2⟩ := fin true (a.natAbs + b.natAbs) (by unfold sg; rw [if_pos rfl]; omega)
    have pa := p1 a
    simp only [eM, eW, ha, decide_true] at c1 pa p1
    rcases hp with ⟨c, rfl⟩ | rfl
    · cases c <;> simp [binE, eB, eZ, eM, eW, ha, hb, c1, p1, p2]
    · simp [binE, eB, eZ, eM, eW, ha, hb, c1, pa]
  · by_cases hc : cv < 0
    · have hlt : a.natAbs < b.natAbs := k1.1 hc
      have hle : a.natAbs ≤ b.natAbs := by omega
      obtain ⟨p1, p2⟩ := fin false (b.natAbs - a.natAbs) (by unfold sg; simp; omega)
      have pa := p1 a
      simp only [hle] at c4
      simp only [eM, eW, ha, decide_true, decide_false] at c2 c4 pa p1
      have hc' : ¬ (0 ≤ cv) := by omega
      rcases hp with ⟨c, rfl⟩ | rfl
      · cases c <;> simp [binE, eB, eZ, eM, eW, ha, hb, hc', c2, c4, p1, p2]
      · simp [binE, eB, eZ, eM, eW, ha, hb, hc', c2, c4, pa]
    · have hle : b.natAbs ≤ a.natAbs := by
        rcases Nat.lt_or_ge a.natAbs b.natAbs with h | h
        · exact absurd (k1.2 h) hc
        · exact h
      obtain ⟨p1, p2⟩ := fin true (a.natAbs - b.natAbs) (by unfold sg; simp; omega)
      have pa := p1 a
      simp only [hle] at c3
      simp only [eM, eW, ha, decide_true, decide_false] at c2 c3 pa p1
      have hc' : 0 ≤ cv := by omega
      rcases hp with ⟨c, rfl⟩ | rfl
      · cases c <;> simp [binE, eB, eZ, eM, eW, ha, hb, hc', c2, c3, p1, p2]
      · simp [binE, eB, eZ, eM, eW, ha, hb, hc', c2, c3, pa]
  · by_cases hc : cv < 0
    · have hlt : a.natAbs < b.natAbs := k1.1 hc
      have hle : a.natAbs ≤ b.natAbs := by omega
      obtain ⟨p1, p2⟩ := fin true (b.natAbs - a.natAbs) (by unfold sg; simp; omega)
      have pa := p1 a
      simp only [hle] at c4
      simp only [eM, eW, ha, decide_true, decide_false] at c2 c4 pa p1
      have hc' : ¬ (0 ≤ cv) := by omega
      rcases hp with ⟨c, rfl⟩ | rfl
      · cases c <;> simp [binE, eB, eZ, eM, eW, ha, hb, hc', c2, c4, p1, p2]
      · simp [binE, eB, eZ, eM, eW, ha, hb, hc', c2, c4, pa]
    · have hle : b.natAbs ≤ a.natAbs := by
        rcases Nat.lt_or_ge a.natAbs b.natAbs with h | h
        · exact absurd (k1.2 h) hc
        · exact h
      obtain ⟨p1, p2⟩ := fin false (a.natAbs - b.natAbs) (by unfold sg; simp; omega)
      have pa := p1 a
      simp only [hle] at c3
      simp only [eM, eW, ha, decide_true, decide_false] at c2 c3 pa p1
      have hc' : 0 ≤ cv := by omega
      rcases hp with ⟨c, rfl⟩ | rfl
      · cases c <;> simp [binE, eB, eZ, eM, eW, ha, hb, hc', c2, c3, p1, p2]
      · simp [binE, eB, eZ, eM, eW, ha, hb, hc', c2, c3, pa]
  · obtain ⟨p1, p2⟩ := fin false (a.natAbs + b.natAbs) (by unfold sg; rw [if_neg (by simp)]; omega)
    have pa := p1 a
    simp only [eM, eW, ha, decide_false] at c1 pa p1
    rcases hp with ⟨c, rfl⟩ | rfl
    · cases c <;> simp [binE, eB, eZ, eM, eW, ha, hb, c1, p1, p2]
    · simp [binE, eB, eZ, eM, eW, ha, hb, c1, pa]
theorem Add_ok : callable Try.prog 120 = true := by kernel_rfl
end Go.Proofs.Ytcgolmopbnhgeaa.Ae

namespace Go.Proofs.Ytcgolmopbnhgeaa.Ae
open Go Go.RowKit Go.Proofs.Ytcgolmopbnhgeaa.Dig
variable {N : NR}
noncomputable def iMulC := ctM binE (fun p => SZ p.x ∧ SZ p.y) (fun p => ([.ref 0], [eZ (p.x * p.y)]))
theorem sg_mul (a b : Int) : sg (decide (a < 0) != decide (b < 0)) (a.natAbs * b.natAbs) = a * b := by
  rw [← Int.natAbs_mul]
  by_cases h0 : a * b = 0
  · rw [h0]; unfold sg; split <;> rfl
  · have ha0 : a ≠ 0 := fun h => h0 (by rw [h, Int.zero_mul])
    have hb0 : b ≠ 0 := fun h => h0 (by rw [h, Int.mul_zero])
    have h1 := mul_neg_iff ha0 hb0
    unfold sg
    by_cases ha : a < 0 <;> by_cases hb : b < 0 <;> simp [ha, hb] at h1 <;> simp [ha, hb] <;> omega
set_option maxHeartbeats 4000000 in
theorem Mul_spec : SpecM N Try.prog 112 iMulC := by
  refine rdM (mf := fun f => f == 89) iTb_ok (fn := Try.f112) (by kernel_rfl) rfl (by kernel_rfl) ?_
  rintro p ⟨hsa, hsb⟩
  refine ⟨by cases p <;> (show 3 ≤ 27; decide), by cases p <;> rfl, ?_⟩
  obtain ⟨a, b, ha0, hb0, hp⟩ : ∃ a b, p.x = a ∧ p.y = b ∧ ((∃ c, p = .dd a b c) ∨ p = .zd a b) := by
    cases p with
    | dd x y c => exact ⟨x, y, rfl, rfl, .inl ⟨c, rfl⟩⟩
    | zd x y => exact ⟨x, y, rfl, rfl, .inr rfl⟩
  rw [ha0, hb0]
  rw [ha0] at hsa
  rw [hb0] at hsb
  have hsa : Sm a.natAbs := hsa
  have hsb : Sm b.natAbs := hsb
  simp only [Try.f112]
  have c1 := mulC_at a.natAbs b.natAbs
  simp only [hsa, hsb, and_self] at c1
  clear ha0 hb0
  have p1 := fun v : Int => putC_z (decide (a < 0) != decide (b < 0)) (a.natAbs * b.natAbs) v
  have p2 := putC_n (decide (a < 0) != decide (b < 0)) (a.natAbs * b.natAbs)
  rw [sg_mul] at p1 p2
  have pa := p1 a
  simp only [eM, eW] at c1
  generalize a * b = ab at *
  generalize a.natAbs * b.natAbs = m at *
  by_cases ha : a < 0 <;> by_cases hb : b < 0 <;> simp [ha, hb] at p1 p2 pa
  all_goals
    rcases hp with ⟨c, rfl⟩ | rfl
    · cases c <;> simp [binE, eB, eZ, eM, eW, ha, hb, c1, p1, p2]
    · simp [binE, eB, eZ, eM, eW, ha, hb, c1, pa]
theorem Mul_ok : callable Try.prog 112 = true := by kernel_rfl
end Go.Proofs.Ytcgolmopbnhgeaa.Ae

namespace Go.Proofs.Ytcgolmopbnhgeaa.Ae
open Go Go.RowKit Go.Proofs.Ytcgolmopbnhgeaa.Dig
variable {N : NR}
inductive SgA where
  | d (x : Int)
  | r (x : Int)
def SgA.x : SgA → Int
  | d x => x
  | r x => x
def SgA.back : SgA → List D
  | .d _ => []
  | .r x => [eZ x]
theorem Sign_ok : callable Try.prog 94 = true := by kernel_rfl
end Go.Proofs.Ytcgolmopbnhgeaa.Ae

namespace Go.Proofs.Ytcgolmopbnhgeaa.Ae
open Go Go.RowKit Go.Proofs.Ytcgolmopbnhgeaa.Dig
variable {N : NR}
def pE (p : Z1) : List D := [.ptr (eZ p.a)]
theorem pE_inj (p q : Z1) (h : pE p = pE q) : p = q := by
  obtain ⟨a⟩ := p; obtain ⟨c⟩ := q
  simp only [pE, List.cons.injEq, and_true, D.ptr.injEq] at h
  rw [eZ_inj h]
end Go.Proofs.Ytcgolmopbnhgeaa.Ae

namespace Go.Proofs.Ytcgolmopbnhgeaa.Ae
open Go Go.RowKit Go.Proofs.Ytcgolmopbnhgeaa.Dig
variable {N : NR}
inductive NgA where
  | d (x : Int) (c : BC)
  | r (x : Int)
def NgA.x : NgA → Int
  | d x _ => x
  | r x => x
def ngE : NgA → List Ar × List D
  | .d x c => ([.ref 0, .dat (.ptr (eZ x))], [eB c])
  | .r x => ([.ref 0, .ref 0], [eZ x])
theorem ngE_inj : ∀ (p q : NgA), ngE p = ngE q → p = q
  | .d a c, .d b c', h => by
    simp only [ngE, Prod.mk.injEq, List.cons.injEq, and_true, true_and, Ar.dat.injEq, D.ptr.injEq] at h
    rw [eZ_inj h.1, eB_inj h.2]
  | .r a, .r b, h => by
    simp only [ngE, Prod.mk.injEq, List.cons.injEq, and_true, true_and] at h
    rw [eZ_inj h]
  | .d _ _, .r _, h => by simp [ngE] at h
  | .r _, .d _ _, h => by simp [ngE] at h
noncomputable def ngC := ctM ngE (fun p => SZ p.x) (fun p => ([.ref 0], [eZ (-p.x)]))
theorem ngC_r (x : Int) : ngC [.ref 0, .ref 0] [eZ x] = (SZ x, [.ref 0], [eZ (-x)]) := ctM_at ngE_inj (.r x)
theorem sg_neg (x : Int) : sg (!decide (x < 0)) x.natAbs = -x := by
  unfold sg
  by_cases h : x < 0
  · simp [h]; omega
  · simp [h]; omega
theorem Neg_spec : SpecM N Try.prog 119 ngC := by
  refine rdM (mf := fun f => pMf f || f == cel 11) pTb_ok (fn := Try.f119) (by kernel_rfl) rfl (by kernel_rfl) ?_
  rintro p hx
  refine ⟨by cases p <;> (show 2 ≤ 18; decide), by cases p <;> rfl, ?_⟩
  obtain ⟨x, hpx, hp⟩ : ∃ x, p.x = x ∧ ((∃ c, p = .d x c) ∨ p = .r x) := by
    cases p with
    | d x c => exact ⟨x, rfl, .inl ⟨c, rfl⟩⟩
    | r x => exact ⟨x, rfl, .inr rfl⟩
  rw [hpx]
  rw [hpx] at hx
  have hx : Sm x.natAbs := hx
  simp only [Sm] at hx
  simp only [Try.f119]
  have p1 := fun v => putC_z (!decide (x < 0)) x.natAbs v
  have p2 := putC_n (!decide (x < 0)) x.natAbs
  rw [sg_neg] at p1 p2
  have hmx := maxLen_ge
  rcases hp with ⟨c, rfl⟩ | rfl
  · cases c <;> simp [ngE, eB, eZ, eM, eW, p1, p2] <;> omega
  · simp [ngE, eB, eZ, eM, eW, p1, p2] <;> omega
theorem Neg_ok : callable Try.prog 119 = true := by kernel_rfl
end Go.Proofs.Ytcgolmopbnhgeaa.Ae

namespace Go.Proofs.Ytcgolmopbnhgeaa.Ae
open Go Go.RowKit Go.Proofs.Ytcgolmopbnhgeaa.Dig
variable {N : NR}
end Go.Proofs.Ytcgolmopbnhgeaa.Ae

namespace Go.Proofs.Ytcgolmopbnhgeaa.Ae
open Go Go.RowKit Go.Proofs.Ytcgolmopbnhgeaa.Dig
variable {N : NR}
noncomputable def sgDC := ctD pE (fun _ => True) (fun p => [i64D p.a.sign])
theorem sgDC_at (a : Int) : sgDC [.ptr (eZ a)] = (True, [i64D a.sign]) := ctD_at pE_inj ⟨a⟩
theorem SignD_spec : SpecD N Try.prog 94 sgDC := by
  refine rdD (mf := fun f => false) tbl_nil (fn := Try.f94) (by kernel_rfl) rfl (by kernel_rfl) ?_
  rintro ⟨x⟩ _
  refine ⟨by show 1 ≤ 15; decide, ?_⟩
  simp only [Try.f94]
  rcases Int.lt_trichotomy x 0 with h | h | h
  · rw [Int.sign_eq_neg_one_of_neg h]
    simp [pE, eZ, eM, eW, h, i64D]
  · subst h
    simp [pE, eZ, eM, eW, i64D, mag_zero]
  · have h1 : ¬ x < 0 := by omega
    have h2 := mag_len_pos (n := x.natAbs) (by omega)
    rw [Int.sign_eq_one_of_pos h]
    simp [pE, eZ, eM, eW, h1, h2, i64D]
instance (a : Int) : Decidable (I64 a) := by unfold I64; infer_instance
@[simp] theorem eZ_lit (z : Int) : (eZ z).isLit = false := rfl
theorem SZ_I64 {a : Int} (h : I64 a) : SZ a := by
  unfold I64 at h
  exact Sm_small (by omega)
end Go.Proofs.Ytcgolmopbnhgeaa.Ae

namespace Go.Proofs.Ytcgolmopbnhgeaa.Ae
open Go Go.RowKit Go.Proofs.Ytcgolmopbnhgeaa.Dig
variable {N : NR}
@[simp] theorem eB_size (c : BC) : (eB c).size = 2 := by cases c <;> rfl
@[simp] theorem eB_agg (c : BC) : (eB c).isAgg = true := by cases c <;> rfl
@[simp] theorem eB_islit (c : BC) : (eB c).isLit = false := by cases c <;> rfl
theorem iAddC_zd (x y : Int) : iAddC [.ref 0, .ref 0, .dat (.ptr (eZ y))] [eZ x] = ((SZ x ∧ SZ y), [.ref 0], [eZ (x + y)]) := ctM_at binE_inj (.zd x y)
theorem iMulC_dd (x y : Int) (c : BC) : iMulC [.ref 0, .dat (.ptr (eZ x)), .dat (.ptr (eZ y))] [eB c] = ((SZ x ∧ SZ y), [.ref 0], [eZ (x * y)]) := ctM_at binE_inj (.dd x y c)
inductive QuA where
  | dd (x y : Int) (c : BC)
def QuA.x : QuA → Int
  | dd x _ _ => x
def QuA.y : QuA → Int
  | dd _ y _ => y
end Go.Proofs.Ytcgolmopbnhgeaa.Ae

namespace Go.Proofs.Ytcgolmopbnhgeaa.Ae
open Go Go.RowKit Go.Proofs.Ytcgolmopbnhgeaa.Dig
variable {N : NR}
end Go.Proofs.Ytcgolmopbnhgeaa.Ae

namespace Go.Proofs.Ytcgolmopbnhgeaa.Ae
open Go Go.RowKit Go.Proofs.Ytcgolmopbnhgeaa.Dig
variable {N : NR}
end Go.Proofs.Ytcgolmopbnhgeaa.Ae

namespace Go.Proofs.Ytcgolmopbnhgeaa.Dig
def ln (n : Nat) : Nat := (mag n).length
theorem ln_mono {a b : Nat} (h : a ≤ b) : ln a ≤ ln b := mag_len_le h
theorem ln_iff {n k : Nat} : ln n ≤ k ↔ n < B ^ k := mag_lt
theorem ln_mul (a b : Nat) : ln (a * b) ≤ ln a + ln b := by
  have h1 := ln_iff.1 (Nat.le_refl (ln a))
  have h2 := ln_iff.1 (Nat.le_refl (ln b))
  refine ln_iff.2 ?_
  rw [Nat.pow_add]
  exact Nat.mul_lt_mul'' h1 h2
theorem ln_add (a b : Nat) : ln (a + b) ≤ max (ln a) (ln b) + 1 := by
  refine ln_iff.2 ?_
  have h1 := ln_iff.1 (Nat.le_max_left (ln a) (ln b))
  have h2 := ln_iff.1 (Nat.le_max_right (ln a) (ln b))
  rw [Nat.pow_succ]
  have h3 : B ^ max (ln a) (ln b) * 2 ≤ B ^ max (ln a) (ln b) * B := Nat.mul_le_mul_left _ (by decide)
  generalize B ^ max (ln a) (ln b) * B = z1 at *
  generalize B ^ max (ln a) (ln b) = z at *
  omega
theorem ln_one : ln 1 = 1 := by unfold ln; rw [mag_small (by decide) (by decide)]; rfl
theorem ln_zero : ln 0 = 0 := by unfold ln; rw [mag_zero]; rfl
theorem ln_pos {n : Nat} (h : 0 < n) : 1 ≤ ln n := by
  rcases Nat.eq_zero_or_pos (ln n) with h0 | h0
  · unfold ln at h0; rw [mag_len_zero] at h0; omega
  · exact h0
theorem ln_i64 {n : Nat} (h : n < 18446744073709551616) : ln n ≤ 2 := ln_iff.2 (by simp only [B]; omega)
theorem natAbs_ediv_le (n g : Int) : (n / g).natAbs ≤ n.natAbs := by
  by_cases hg : g = 0
  · subst hg; simp
  · exact Int.natAbs_ediv_le_natAbs n g
theorem num_le (n d : Int) : (Rat.divInt n d).num.natAbs ≤ n.natAbs := by
  rw [Rat.num_divInt]
  refine Nat.le_trans (natAbs_ediv_le _ _) ?_
  rw [Int.natAbs_mul]
  have : d.sign.natAbs ≤ 1 := by
    rcases Int.lt_trichotomy d 0 with h | h | h
    · rw [Int.sign_eq_neg_one_of_neg h]; decide
    · subst h; decide
    · rw [Int.sign_eq_one_of_pos h]; decide
  calc d.sign.natAbs * n.natAbs ≤ 1 * n.natAbs := Nat.mul_le_mul_right _ this
    _ = n.natAbs := Nat.one_mul _
theorem den_le {n d : Int} (h : d ≠ 0) : (Rat.divInt n d).den ≤ d.natAbs := by
  rw [Rat.den_divInt, if_neg h]
  exact Nat.div_le_self _ _
def qsz (q : Rat) : Nat := max (ln q.num.natAbs) (ln q.den)
theorem qsz_num (q : Rat) : ln q.num.natAbs ≤ qsz q := Nat.le_max_left _ _
theorem qsz_den (q : Rat) : ln q.den ≤ qsz q := Nat.le_max_right _ _
theorem qsz_pos (q : Rat) : 1 ≤ qsz q := Nat.le_trans (ln_pos q.den_pos) (qsz_den q)
theorem qsz_divInt {n d : Int} (h : d ≠ 0) : qsz (Rat.divInt n d) ≤ max (ln n.natAbs) (ln d.natAbs) :=
  Nat.max_le.2 ⟨Nat.le_trans (ln_mono (num_le n d)) (Nat.le_max_left _ _), Nat.le_trans (ln_mono (den_le h)) (Nat.le_max_right _ _)⟩
theorem dz (q : Rat) : (q.den : Int) ≠ 0 := by have := q.den_pos; omega
theorem mul_divInt (a b : Rat) : a * b = Rat.divInt (a.num * b.num) (a.den * b.den) := by
  have := Rat.divInt_mul_divInt a.num b.num (d₁ := a.den) (d₂ := b.den)
  rw [Rat.num_divInt_den, Rat.num_divInt_den] at this
  exact this
theorem neg_divInt (a : Rat) : -a = Rat.divInt (-a.num) a.den := by
  have h : Rat.divInt (-a).num (-a).den = -a := Rat.num_divInt_den _
  rw [Rat.neg_num, Rat.neg_den] at h
  exact h.symm
theorem dd_ne (a b : Rat) : ((a.den : Int) * b.den) ≠ 0 := Int.mul_ne_zero (dz a) (dz b)
theorem ln_na_mul (a b : Int) : ln (a * b).natAbs ≤ ln a.natAbs + ln b.natAbs := by rw [Int.natAbs_mul]; exact ln_mul _ _
theorem ln_na_add (a b : Int) : ln (a + b).natAbs ≤ max (ln a.natAbs) (ln b.natAbs) + 1 := Nat.le_trans (ln_mono (Int.natAbs_add_le a b)) (ln_add _ _)
theorem ln_na_nat (n : Nat) : ln ((n : Int)).natAbs = ln n := by rw [Int.natAbs_natCast]
theorem mul_parts (a b : Rat) : ln (a.num * b.num).natAbs ≤ qsz a + qsz b ∧ ln ((a.den : Int) * b.den).natAbs ≤ qsz a + qsz b := by
  have h1 := ln_na_mul a.num b.num
  have h4 := ln_na_mul (a.den : Int) b.den
  rw [ln_na_nat, ln_na_nat] at h4
  have p1 := qsz_num a
  have p2 := qsz_num b
  have p3 := qsz_den a
  have p4 := qsz_den b
  omega
theorem qsz_mul (a b : Rat) : qsz (a * b) ≤ qsz a + qsz b := by
  obtain ⟨h1, h2⟩ := mul_parts a b
  have := qsz_divInt (n := a.num * b.num) (dd_ne a b)
  rw [← mul_divInt] at this
  omega
theorem qsz_neg (a : Rat) : qsz (-a) = qsz a := by
  unfold qsz
  rw [Rat.neg_num, Rat.neg_den, Int.natAbs_neg]
theorem low_pos {a b : Int} (h : 0 < b) : Int.tdiv a (Int.gcd a b) = (Rat.divInt a b).num ∧ Int.tdiv b (Int.gcd a b) = (Rat.divInt a b).den := by
  rw [Rat.num_divInt, Rat.den_divInt, if_neg (by omega), Int.sign_eq_one_of_pos h, Int.one_mul, Int.gcd_comm b a]
  have h1 : (Int.gcd a b : Int) ∣ a := Int.gcd_dvd_left ..
  have h2 : (Int.gcd a b : Int) ∣ b := Int.gcd_dvd_right ..
  refine ⟨Int.tdiv_eq_ediv_of_dvd h1, ?_⟩
  rw [Int.tdiv_eq_ediv_of_dvd h2]
  obtain ⟨m, rfl⟩ : ∃ m : Nat, b = m := ⟨b.natAbs, by omega⟩
  rw [Int.natAbs_natCast, Int.natCast_ediv]
end Go.Proofs.Ytcgolmopbnhgeaa.Dig

namespace Go.Proofs.Ytcgolmopbnhgeaa.Ae
open Go Go.RowKit Go.Proofs.Ytcgolmopbnhgeaa.Dig
variable {N : NR}
def MX : Nat := 549755813888
theorem SZ_ln {a : Int} : SZ a ↔ ln a.natAbs < 1099511627776 := Iff.rfl
structure Q1 where
  a : Rat
end Go.Proofs.Ytcgolmopbnhgeaa.Ae

namespace Go.Proofs.Ytcgolmopbnhgeaa.Ae
open Go Go.RowKit Go.Proofs.Ytcgolmopbnhgeaa.Dig
variable {N : NR}
structure Q2 where
  a : Rat
  b : Rat
end Go.Proofs.Ytcgolmopbnhgeaa.Ae

namespace Go.Proofs.Ytcgolmopbnhgeaa.Ae
open Go Go.RowKit Go.Proofs.Ytcgolmopbnhgeaa.Dig
def SR.val (r : SR) : Rat := Rat.divInt r.num r.den
def WV (r : SR) : Prop := WR r ∧ ∀ p q, r = .big p q → Int.gcd p q = 1
theorem WR_den {r : SR} (h : WR r) : 0 < r.den := (WR_SZ h).2.2
theorem low_div {n d : Int} (h : 0 < d) : n / (Int.gcd n d : Int) = (Rat.divInt n d).num ∧ d / (Int.gcd n d : Int) = (Rat.divInt n d).den := by
  obtain ⟨e1, e2⟩ := low_pos (a := n) h
  have h1 : (Int.gcd n d : Int) ∣ n := Int.gcd_dvd_left ..
  have h2 : (Int.gcd n d : Int) ∣ d := Int.gcd_dvd_right ..
  rw [Int.tdiv_eq_ediv_of_dvd h1] at e1
  rw [Int.tdiv_eq_ediv_of_dvd h2] at e2
  exact ⟨e1, e2⟩
theorem low_k {n d : Int} (h : 0 < d) : ∃ k : Int, 0 < k ∧ n = k * (Rat.divInt n d).num ∧ d = k * (Rat.divInt n d).den := by
  obtain ⟨e1, e2⟩ := low_div (n := n) h
  refine ⟨Int.gcd n d, ?_, ?_, ?_⟩
  · have : Int.gcd n d ≠ 0 := fun h0 => by have := (Int.gcd_eq_zero_iff.1 h0).2; omega
    omega
  · rw [← e1, Int.mul_ediv_cancel' (Int.gcd_dvd_left ..)]
  · rw [← e2, Int.mul_ediv_cancel' (Int.gcd_dvd_right ..)]
theorem val_k {r : SR} (h : WR r) : ∃ k : Int, 0 < k ∧ r.num = k * r.val.num ∧ r.den = k * r.val.den := low_k (WR_den h)
theorem gcd_red (q : Rat) : Int.gcd q.num q.den = 1 := q.reduced
theorem packR_ok {p q : Int} (h0 : 0 < q) (hp : SZ p) (hq : SZ q) (hg : Int.gcd p q = 1) : WV (packR p q) ∧ (packR p q).val = Rat.divInt p q := by
  unfold packR
  split
  · rename_i h
    exact ⟨⟨⟨by omega, h0, by omega⟩, fun _ _ e => by cases e⟩, rfl⟩
  · exact ⟨⟨⟨hp, hq, h0⟩, fun _ _ e => by cases e; exact hg⟩, rfl⟩
theorem packR_low {n d : Int} (h : 0 < d) (hn : SZ n) (hd : SZ d) : WV (packR (n / (Int.gcd n d : Int)) (d / (Int.gcd n d : Int))) ∧ (packR (n / (Int.gcd n d : Int)) (d / (Int.gcd n d : Int))).val = Rat.divInt n d := by
  obtain ⟨e1, e2⟩ := low_div (n := n) h
  rw [e1, e2]
  have h1 := packR_ok (p := (Rat.divInt n d).num) (q := (Rat.divInt n d).den) (by have := (Rat.divInt n d).den_pos; omega) (SZ_le (num_le n d) hn) (SZ_le (by rw [Int.natAbs_natCast]; exact den_le (by omega)) hd) (gcd_red _)
  rw [Rat.num_divInt_den] at h1
  exact h1
theorem ofR_ok {n d : Int} (h0 : 0 < d) (hn : I64 n) (hd : I64 d) : WV (ofR n d) ∧ (ofR n d).val = Rat.divInt n d := by
  unfold ofR
  split
  · rename_i h
    exact ⟨⟨⟨by omega, h0, by omega⟩, fun _ _ e => by cases e⟩, rfl⟩
  · exact packR_low h0 (SZ_I64 hn) (SZ_I64 hd)
theorem bigR_ok {n d : Int} (h0 : d ≠ 0) (hn : SZ n) (hd : SZ d) : WV (bigR n d) ∧ (bigR n d).val = Rat.divInt n d := by
  unfold bigR
  split
  · rename_i h
    subst h
    refine ⟨⟨⟨by decide, by decide, by decide⟩, fun _ _ e => by cases e⟩, ?_⟩
    show Rat.divInt 0 1 = _
    rw [Rat.zero_divInt, Rat.zero_divInt]
  · split
    · rename_i h
      have e : Int.gcd n d = Int.gcd (-n) (-d) := by rw [Int.neg_gcd, Int.gcd_neg]
      rw [e]
      have := packR_low (n := -n) (d := -d) (by omega) (SZ_neg.2 hn) (SZ_neg.2 hd)
      rw [Rat.neg_divInt_neg] at this
      exact this
    · exact packR_low (by omega) hn hd
theorem rep_sz {r : SR} (h : WV r) : ln r.num.natAbs ≤ qsz r.val ∧ ln r.den.natAbs ≤ qsz r.val := by
  have h1 := qsz_pos r.val
  have one : ∀ x : Nat, x < 2147483648 → ln x ≤ 1 := fun x hx => ln_iff.2 (by simp only [B]; omega)
  cases r with
  | small n d =>
    obtain ⟨⟨x1, x2, x3⟩, _⟩ := h
    have a1 : ln (SR.small n d).num.natAbs ≤ 1 := one _ x1
    have a2 : ln (SR.small n d).den.natAbs ≤ 1 := one _ (by show d.natAbs < _; omega)
    omega
  | lit n d =>
    obtain ⟨⟨x1, x2, x3⟩, _⟩ := h
    have a1 : ln (SR.lit n d).num.natAbs ≤ 1 := one _ x1
    have a2 : ln (SR.lit n d).den.natAbs ≤ 1 := one _ (by show d.natAbs < _; omega)
    omega
  | big p q =>
    obtain ⟨⟨x1, x2, x3⟩, hg⟩ := h
    have hg := hg p q rfl
    obtain ⟨e1, e2⟩ := low_div (n := p) x3
    rw [hg] at e1 e2
    simp at e1 e2
    have v1 : (SR.big p q).val = Rat.divInt p q := rfl
    have v2 : (SR.big p q).num = p := rfl
    have v3 : (SR.big p q).den = q := rfl
    rw [v1, v2, v3]
    have p1 := qsz_num (Rat.divInt p q)
    have p2 := qsz_den (Rat.divInt p q)
    rw [← e1] at p1
    refine ⟨p1, ?_⟩
    rw [show q.natAbs = (Rat.divInt p q).den by omega]
    exact p2
theorem neg_val (r : SR) : (negR r).val = -r.val := by
  unfold SR.val
  rw [negR_num, negR_den, Rat.neg_divInt]
theorem neg_WV {r : SR} (h : WV r) : WV (negR r) := by
  refine ⟨negR_WR h.1, fun p q e => ?_⟩
  cases r with
  | small n d => cases e
  | lit n d => cases e
  | big p' q' =>
    simp only [negR, SR.big.injEq] at e
    obtain ⟨rfl, rfl⟩ := e
    have := h.2 _ _ rfl
    rw [Int.neg_gcd]
    exact this
theorem SZ_of {a : Int} {k : Nat} (h : ln a.natAbs ≤ k) (hk : k < 1099511627776) : SZ a := by rw [SZ_ln]; omega
theorem cross_sz {a b : SR} (ha : WV a) (hb : WV b) (h : qsz a.val + qsz b.val < MX) :
    SZ (a.num * b.den) ∧ SZ (b.num * a.den) ∧ SZ (a.num * b.den + b.num * a.den) ∧ SZ (a.num * b.den - b.num * a.den) ∧ SZ (a.den * b.den) ∧ SZ (a.num * b.num) ∧ SZ (a.den * b.num) := by
  unfold MX at h
  obtain ⟨a1, a2⟩ := rep_sz ha
  obtain ⟨b1, b2⟩ := rep_sz hb
  have m1 := ln_na_mul a.num b.den
  have m2 := ln_na_mul b.num a.den
  have m3 := ln_na_add (a.num * b.den) (b.num * a.den)
  have m4 := ln_na_add (a.num * b.den) (-(b.num * a.den))
  rw [Int.natAbs_neg, ← Int.sub_eq_add_neg] at m4
  have m5 := ln_na_mul a.den b.den
  have m6 := ln_na_mul a.num b.num
  have m7 := ln_na_mul a.den b.num
  refine ⟨SZ_of m1 ?_, SZ_of m2 ?_, SZ_of m3 ?_, SZ_of m4 ?_, SZ_of m5 ?_, SZ_of m6 ?_, SZ_of m7 ?_⟩ <;> omega
theorem I64_prod {n d : Int} (hn : n.natAbs < 2147483648) (hd : d.natAbs < 2147483648) : (n * d).natAbs ≤ 4611686014132420609 := by
  rw [Int.natAbs_mul]
  have := Nat.mul_le_mul (show n.natAbs ≤ 2147483647 by omega) (show d.natAbs ≤ 2147483647 by omega)
  omega
theorem not_big {r : SR} (h : WR r) (hb : r.isBig = false) : r.num.natAbs < 2147483648 ∧ 0 < r.den ∧ r.den.natAbs < 2147483648 := by
  cases r with
  | small n d => obtain ⟨x1, x2, x3⟩ := h; exact ⟨x1, x2, by show d.natAbs < _; omega⟩
  | lit n d => obtain ⟨x1, x2, x3⟩ := h; exact ⟨x1, x2, by show d.natAbs < _; omega⟩
  | big p q => cases hb
theorem den_val_ne {r : SR} (h : WR r) : r.den ≠ 0 := by have := WR_den h; omega
theorem add_ok {a b : SR} (ha : WV a) (hb : WV b) (h : qsz a.val + qsz b.val < MX) : WV (addR a b) ∧ (addR a b).val = a.val + b.val := by
  obtain ⟨s1, s2, s3, s4, s5, s6, s7⟩ := cross_sz ha hb h
  have hv : a.val + b.val = Rat.divInt (a.num * b.den + b.num * a.den) (a.den * b.den) := Rat.divInt_add_divInt _ _ (den_val_ne ha.1) (den_val_ne hb.1)
  have hd := Int.mul_pos (WR_den ha.1) (WR_den hb.1)
  rw [hv]
  unfold addR
  split
  · exact bigR_ok (by omega) s3 s5
  · rename_i hbig
    simp only [Bool.or_eq_true, not_or, Bool.not_eq_true] at hbig
    obtain ⟨x1, x2, x3⟩ := not_big ha.1 hbig.1
    obtain ⟨y1, y2, y3⟩ := not_big hb.1 hbig.2
    have p1 := I64_prod x1 y3
    have p2 := I64_prod y1 x3
    have p3 := I64_prod x3 y3
    exact ofR_ok hd (by unfold I64; omega) (by unfold I64; omega)
theorem mul_ok {a b : SR} (ha : WV a) (hb : WV b) (h : qsz a.val + qsz b.val < MX) : WV (mulR a b) ∧ (mulR a b).val = a.val * b.val := by
  obtain ⟨s1, s2, s3, s4, s5, s6, s7⟩ := cross_sz ha hb h
  have hv : a.val * b.val = Rat.divInt (a.num * b.num) (a.den * b.den) := Rat.divInt_mul_divInt _ _
  have hd := Int.mul_pos (WR_den ha.1) (WR_den hb.1)
  rw [hv]
  unfold mulR
  split
  · exact bigR_ok (by omega) s6 s5
  · rename_i hbig
    simp only [Bool.or_eq_true, not_or, Bool.not_eq_true] at hbig
    obtain ⟨x1, x2, x3⟩ := not_big ha.1 hbig.1
    obtain ⟨y1, y2, y3⟩ := not_big hb.1 hbig.2
    have p1 := I64_prod x1 y1
    have p3 := I64_prod x3 y3
    exact ofR_ok hd (by unfold I64; omega) (by unfold I64; omega)
theorem sign_val {r : SR} (h : WR r) : r.num.sign = r.val.num.sign := by
  obtain ⟨k, h1, h2, h3⟩ := val_k h
  rw [h2, Int.sign_mul, Int.sign_eq_one_of_pos h1, Int.one_mul]
end Go.Proofs.Ytcgolmopbnhgeaa.Ae

namespace Go.Proofs.Ytcgolmopbnhgeaa.Ae
open Go Go.RowKit Go.Proofs.Ytcgolmopbnhgeaa.Dig
mutual
def D.pl : D → Bool
  | .lit _ => true
  | .num _ _ => false
  | .agg ds => D.pls ds
  | .sl _ xs => D.pls xs
  | .ptr d => D.pl d
def D.pls : List D → Bool
  | [] => true
  | d :: ds => D.pl d && D.pls ds
end
theorem pls_at : ∀ (ds : List D) (i : Nat) (d : D), D.pls ds = true → ds[i]? = some d → d.pl = true
  | [], i, d, _, h => by simp at h
  | x :: ds, 0, d, hp, h => by
    simp at h
    subst h
    simp only [D.pls, Bool.and_eq_true] at hp
    exact hp.1
  | x :: ds, i + 1, d, hp, h => by
    simp only [D.pls, Bool.and_eq_true] at hp
    exact pls_at ds i d hp.2 (by simpa using h)
theorem Rep.plain {N N' : NR} {F : Nat → Prop} {w : World} {d : D} {cs : List Value} (h : Rep N F w d cs) (hp : d.pl = true) : Rep N' F w d cs := by
  induction h with
  | lit h => exact .lit h
  | num h => simp [D.pl] at hp
  | agg hl h ih =>
    simp only [D.pl] at hp
    exact .agg hl (fun i d cs h1 h2 => ih i d cs h1 h2 (pls_at _ i d hp h1))
  | sl A c es hc hm ha h ih =>
    simp only [D.pl] at hp
    exact .sl A c es hc hm ha (fun i d h1 => ih i d h1 (pls_at _ i d hp h1))
  | ptr b off es hb hc h ih =>
    simp only [D.pl] at hp
    exact .ptr b off es hb hc (ih hp)
def NN : NR := ⟨fun _ _ _ _ _ => False, fun h => h.elim, fun h => h.elim, fun _ h => h.elim⟩
def NF : NR where
  R k F w q cs := k = 1 ∧ ∃ r, WV r ∧ r.val = q ∧ Rep NN F w (eR r) cs
  len := by
    rintro k F w q cs ⟨rfl, r, _, _, h⟩
    rw [h.len, eR_size]; rfl
  one := by
    rintro k F w q cs ⟨rfl, r, _, _, h⟩
    exact h.one
  mono := by
    rintro k F F' w w' q cs hF ⟨rfl, r, h1, h2, h⟩
    exact ⟨rfl, r, h1, h2, h.mono hF⟩
theorem pls_dg : ∀ l : List Nat, D.pls (l.map dg) = true
  | [] => rfl
  | x :: l => by simp only [List.map_cons, D.pls, pls_dg l, dg, D.pl, Bool.and_self]
theorem pl_eZ (z : Int) : (eZ z).pl = true := by
  simp only [eZ, eM, eW, D.pl, D.pls, pls_dg, Bool.and_self]
theorem pl_eR (r : SR) : (eR r).pl = true := by
  cases r <;> simp [eR, D.pl, D.pls, i64D, pl_eZ]
inductive Cv : D → D → Prop
  | same (d : D) (h : ∀ k q, d ≠ .num k q) : Cv d d
  | num (r : SR) (h : WV r) : Cv (.num 1 r.val) (eR r)
def CvL : List D → List D → Prop
  | [], [] => True
  | x :: a, y :: b => Cv x y ∧ CvL a b
  | _, _ => False
theorem cv_in {F : Nat → Prop} {w : World} {d : D} {v : Value} (h : RepV NF F w d v) : ∃ d', Cv d d' ∧ RepV NF F w d' v := by
  cases d with
  | num k q =>
    obtain ⟨cs, hr, hv⟩ := h
    cases hr with
    | num hr =>
      obtain ⟨rfl, r, h1, rfl, h3⟩ := hr
      refine ⟨eR r, .num r h1, cs, h3.plain (pl_eR r), ?_⟩
      rw [hv]
      unfold mkV
      rw [eR_isAgg]
      rfl
  | _ => exact ⟨_, .same _ (fun k q e => by cases e), h⟩
theorem cv_out {F : Nat → Prop} {w : World} {d d' : D} {v : Value} (hc : Cv d d') (h : RepV NF F w d' v) : RepV NF F w d v := by
  cases hc with
  | same _ _ => exact h
  | num r hw =>
    obtain ⟨cs, hr, hv⟩ := h
    refine ⟨cs, .num ⟨rfl, r, hw, rfl, hr.plain (pl_eR r)⟩, ?_⟩
    rw [hv]
    unfold mkV
    rw [eR_isAgg]
    rfl
theorem cvL_in {F : Nat → Prop} {w : World} : ∀ (ds : List D) (vs : List Value), RepVs NF F w ds vs → ∃ ds', CvL ds ds' ∧ RepVs NF F w ds' vs
  | [], vs, h => ⟨[], trivial, h⟩
  | d :: ds, [], h => by have := h.1; simp at this
  | d :: ds, v :: vs, h => by
    obtain ⟨d', c1, r1⟩ := cv_in (h.2 0 d v rfl rfl)
    obtain ⟨ds', c2, r2⟩ := cvL_in ds vs ⟨by simpa using h.1, fun i d v h1 h2 => h.2 (i + 1) d v (by simpa using h1) (by simpa using h2)⟩
    refine ⟨d' :: ds', ⟨c1, c2⟩, by simp only [List.length_cons]; rw [r2.1], fun i e u h1 h2 => ?_⟩
    cases i with
    | zero =>
      simp only [List.getElem?_cons_zero, Option.some.injEq] at h1 h2
      subst h1 h2
      exact r1
    | succ i => exact r2.2 i e u (by simpa using h1) (by simpa using h2)
theorem cvL_out {F : Nat → Prop} {w : World} : ∀ (ds ds' : List D) (vs : List Value), CvL ds ds' → RepVs NF F w ds' vs → RepVs NF F w ds vs
  | [], [], vs, _, h => h
  | d :: ds, d' :: ds', [], _, h => by have := h.1; simp at this
  | d :: ds, d' :: ds', v :: vs, hc, h => by
    have r1 := cv_out hc.1 (h.2 0 d' v rfl rfl)
    have r2 := cvL_out ds ds' vs hc.2 ⟨by simpa using h.1, fun i d v h1 h2 => h.2 (i + 1) d v (by simpa using h1) (by simpa using h2)⟩
    refine ⟨by simp only [List.length_cons]; rw [r2.1], fun i e u h1 h2 => ?_⟩
    cases i with
    | zero =>
      simp only [List.getElem?_cons_zero, Option.some.injEq] at h1 h2
      subst h1 h2
      exact r1
    | succ i => exact r2.2 i e u (by simpa using h1) (by simpa using h2)
  | [], _ :: _, _, hc, _ => hc.elim
  | _ :: _, [], _, hc, _ => hc.elim
theorem cvR_out {F : Nat → Prop} {w : World} {ds ds' : List D} {v : Value} (hc : CvL ds ds') (h : RepRes NF F w ds' v) : RepRes NF F w ds v := by
  cases ds with
  | nil =>
    cases ds' with
    | nil => exact h
    | cons => exact hc.elim
  | cons d t =>
    cases ds' with
    | nil => exact hc.elim
    | cons d' t' =>
      cases t with
      | nil =>
        cases t' with
        | nil => exact cv_out hc.1 h
        | cons => exact hc.2.elim
      | cons e t =>
        cases t' with
        | nil => exact hc.2.elim
        | cons e' t' =>
          obtain ⟨vs, h1, h2⟩ := h
          exact ⟨vs, h1, cvL_out _ _ _ hc h2⟩
theorem specD_num {P : Program} {f : FuncId} {g g' : List D → Prop × List D} (h : SpecD NF P f g) (hg : ∀ ds', (g' ds').1 → ∀ ds, CvL ds' ds → (g ds).1 ∧ CvL (g' ds').2 (g ds).2) : SpecD NF P f g' := by
  intro ds' hp F w vs hF hr
  obtain ⟨ds, c, hr'⟩ := cvL_in ds' vs hr
  obtain ⟨h1, h2⟩ := hg ds' hp ds c
  exact (h ds h1 F w vs hF hr').mono fun e w' ⟨v, he, hv, hfr⟩ => ⟨v, he, cvR_out h2 hv, hfr⟩
theorem specD_num' {P : Program} {f : FuncId} {g : List D → Prop × List D} {β : Type} {e' : β → List D} {pre' : β → Prop} {post' : β → List D} (h : SpecD NF P f g) (hg : ∀ b, pre' b → ∀ ds, CvL (e' b) ds → (g ds).1 ∧ CvL (post' b) (g ds).2) : SpecD NF P f (ctD e' pre' post') := by
  refine specD_num h (fun ds' hp ds hc => ?_)
  obtain ⟨b, rfl, h1, h2⟩ := ctD_pre hp
  rw [h2]
  exact hg b h1 ds hc
theorem cv_num {q : Rat} {d : D} (h : Cv (.num 1 q) d) : ∃ r, WV r ∧ r.val = q ∧ d = eR r := by
  generalize hx : D.num 1 q = x at h
  cases h with
  | same _ hh => exact absurd hx.symm (hh 1 q)
  | num r hw =>
    injection hx with _ hx
    exact ⟨r, hw, hx.symm, rfl⟩
theorem cv_same {d d' : D} (hd : ∀ k q, d ≠ .num k q) (h : Cv d d') : d' = d := by
  cases h with
  | same _ _ => rfl
  | num r _ => exact absurd rfl (hd 1 r.val)
theorem cv_to {r : SR} {q : Rat} (h : WV r ∧ r.val = q) : Cv (.num 1 q) (eR r) := by
  obtain ⟨h1, rfl⟩ := h
  exact .num r h1
theorem cv1 {q : Rat} {ds : List D} (h : CvL [.num 1 q] ds) : ∃ r, WV r ∧ r.val = q ∧ ds = [eR r] := by
  cases ds with
  | nil => exact h.elim
  | cons d t =>
    cases t with
    | cons e t => exact h.2.elim
    | nil =>
      obtain ⟨r, h1, h2, rfl⟩ := cv_num h.1
      exact ⟨r, h1, h2, rfl⟩
theorem cv2 {q p : Rat} {ds : List D} (h : CvL [.num 1 q, .num 1 p] ds) : ∃ r s, WV r ∧ r.val = q ∧ WV s ∧ s.val = p ∧ ds = [eR r, eR s] := by
  cases ds with
  | nil => exact h.elim
  | cons d t =>
    obtain ⟨r, h1, h2, rfl⟩ := cv_num h.1
    obtain ⟨s, h3, h4, rfl⟩ := cv1 h.2
    exact ⟨r, s, h1, h2, h3, h4, rfl⟩
theorem cvs1 {d : D} {ds : List D} (hd : ∀ k q, d ≠ .num k q) (h : CvL [d] ds) : ds = [d] := by
  cases ds with
  | nil => exact h.elim
  | cons e t =>
    cases t with
    | cons e t => exact h.2.elim
    | nil => rw [cv_same hd h.1]
theorem cvs2 {d e : D} {ds : List D} (hd : ∀ k q, d ≠ .num k q) (he : ∀ k q, e ≠ .num k q) (h : CvL [d, e] ds) : ds = [d, e] := by
  cases ds with
  | nil => exact h.elim
  | cons x t => rw [cv_same hd h.1, cvs1 he h.2]
theorem cvo1 {d : D} (hd : ∀ k q, d ≠ .num k q) : CvL [d] [d] := ⟨.same d hd, trivial⟩
def nD (q : Rat) : D := .num 1 q
@[simp] theorem nD_size (q : Rat) : (nD q).size = 3 := rfl
@[simp] theorem nD_agg (q : Rat) : (nD q).isAgg = true := rfl
@[simp] theorem nD_lit (q : Rat) : (nD q).isLit = false := rfl
theorem nD_inj {a b : Rat} (h : nD a = nD b) : a = b := by unfold nD at h; injection h
def f1E (p : Q1) : List D := [nD p.a]
theorem f1E_inj (p q : Q1) (h : f1E p = f1E q) : p = q := by
  obtain ⟨a⟩ := p; obtain ⟨b⟩ := q
  simp only [f1E, List.cons.injEq, and_true] at h
  rw [nD_inj h]
def f2E (p : Q2) : List D := [nD p.a, nD p.b]
theorem f2E_inj (p q : Q2) (h : f2E p = f2E q) : p = q := by
  obtain ⟨a, b⟩ := p; obtain ⟨c, d⟩ := q
  simp only [f2E, List.cons.injEq, and_true] at h
  rw [nD_inj h.1, nD_inj h.2]
end Go.Proofs.Ytcgolmopbnhgeaa.Ae

namespace Go.Proofs.Ytcgolmopbnhgeaa.Ae
open Go Go.RowKit Go.Proofs.Ytcgolmopbnhgeaa.Dig
variable {N : NR}
def smallQ (q : Rat) : Prop := q.num.natAbs < 9223372036854775808 ∧ q.den < 9223372036854775808
instance (q : Rat) : Decidable (smallQ q) := by unfold smallQ; infer_instance
def boolD (b : Bool) : D := .lit (.bool b)
theorem smallQ_qsz {q : Rat} (h : smallQ q) : qsz q ≤ 2 := by
  unfold smallQ at h
  exact Nat.max_le.2 ⟨ln_i64 (by omega), ln_i64 (by omega)⟩
def lit31 (q : Rat) : Prop := q.num.natAbs < 2147483648 ∧ q.den < 2147483648
instance (q : Rat) : Decidable (lit31 q) := by unfold lit31; infer_instance
def QI (n d : Int) : Prop := 0 < d ∧ Int.gcd n d = 1 ∧ n.natAbs < 9223372036854775808 ∧ d < 9223372036854775808
theorem QI_num {n d : Int} (h : QI n d) : (Rat.divInt n d).num = n ∧ ((Rat.divInt n d).den : Int) = d := by
  obtain ⟨h1, h2, _⟩ := h
  obtain ⟨e1, e2⟩ := low_pos (a := n) h1
  rw [h2] at e1 e2
  rw [← e1, ← e2]
  simp
theorem QI_small {n d : Int} (h : QI n d) : smallQ (Rat.divInt n d) := by
  obtain ⟨e1, e2⟩ := QI_num h
  obtain ⟨h1, h2, h3, h4⟩ := h
  refine ⟨by rw [e1]; exact h3, by omega⟩
end Go.Proofs.Ytcgolmopbnhgeaa.Ae

namespace Go.Proofs.Ytcgolmopbnhgeaa.Ae
open Go Go.RowKit Go.Proofs.Ytcgolmopbnhgeaa.Dig
variable {N : NR}
end Go.Proofs.Ytcgolmopbnhgeaa.Ae

namespace Go.Proofs.Ytcgolmopbnhgeaa.Ae
open Go Go.RowKit Go.Proofs.Ytcgolmopbnhgeaa.Dig
variable {N : NR}
def isQ (q : Rat) : Prop := q.num.natAbs ≤ 1000000000000000000 ∧ q.den ≤ 1000000000000000000
instance (q : Rat) : Decidable (isQ q) := by unfold isQ; infer_instance
theorem qsz_int (a : Int) : qsz (a : Rat) = max (ln a.natAbs) 1 := by unfold qsz; rw [Rat.num_intCast, Rat.den_intCast, ln_one]
end Go.Proofs.Ytcgolmopbnhgeaa.Ae

namespace Go.Proofs.Ytcgolmopbnhgeaa.Ae
open Go Go.RowKit Go.Proofs.Ytcgolmopbnhgeaa.Dig
variable {N : NR}
end Go.Proofs.Ytcgolmopbnhgeaa.Ae

namespace Go.Proofs.Ytcgolmopbnhgeaa.Ae
open Go Go.RowKit Go.Proofs.Ytcgolmopbnhgeaa.Dig
variable {N : NR}
def qOk (n d : Int) : Prop := (1 ≤ d ∧ d ≤ 1000000000000000000) ∧ (-1000000000000000000 ≤ n ∧ n ≤ 1000000000000000000) ∧ Int.gcd n d = 1
instance (n d : Int) : Decidable (qOk n d) := by unfold qOk; infer_instance
theorem qOk_QI {n d : Int} (h : qOk n d) : QI n d := ⟨by unfold qOk at h; omega, h.2.2, by unfold qOk at h; omega, by unfold qOk at h; omega⟩
@[simp] theorem eQ_size (n d : Int) : (eQ n d).size = 2 := rfl
@[simp] theorem eQ_agg (n d : Int) : (eQ n d).isAgg = true := rfl
@[simp] theorem eQ_lit (n d : Int) : (eQ n d).isLit = false := rfl
end Go.Proofs.Ytcgolmopbnhgeaa.Ae

namespace Go.Proofs.Ytcgolmopbnhgeaa.Ae
open Go Go.RowKit Go.Proofs.Ytcgolmopbnhgeaa.Dig
theorem nn_i (z : Int) : ∀ k q, i64D z ≠ .num k q := fun k q h => by unfold i64D at h; cases h
noncomputable def nAddC := ctD f2E (fun p => qsz p.a + qsz p.b < MX) (fun p => [nD (p.a + p.b)])
theorem nAddC_at (a b : Rat) : nAddC [nD a, nD b] = (qsz a + qsz b < MX, [nD (a + b)]) := ctD_at f2E_inj ⟨a, b⟩
theorem nAdd_spec : SpecD NF Try.prog 98 nAddC := specD_num' l1rAdd_spec (fun ⟨a, b⟩ h ds hc => by
  obtain ⟨r, s, h1, rfl, h2, rfl, rfl⟩ := cv2 hc
  have h : qsz r.val + qsz s.val < MX := h
  obtain ⟨s1, s2, s3, s4, s5, s6, s7⟩ := cross_sz h1 h2 h
  have c := rAddC_at r s
  rw [c]
  exact ⟨⟨h1.1, h2.1, s1, s2, s3, s5⟩, cv_to (add_ok h1 h2 h), trivial⟩)
noncomputable def nMulC := ctD f2E (fun p => qsz p.a + qsz p.b < MX) (fun p => [nD (p.a * p.b)])
theorem nMulC_at (a b : Rat) : nMulC [nD a, nD b] = (qsz a + qsz b < MX, [nD (a * b)]) := ctD_at f2E_inj ⟨a, b⟩
theorem nMul_spec : SpecD NF Try.prog 96 nMulC := specD_num' l1rMul_spec (fun ⟨a, b⟩ h ds hc => by
  obtain ⟨r, s, h1, rfl, h2, rfl, rfl⟩ := cv2 hc
  have h : qsz r.val + qsz s.val < MX := h
  obtain ⟨s1, s2, s3, s4, s5, s6, s7⟩ := cross_sz h1 h2 h
  have c := rMulC_at r s
  rw [c]
  exact ⟨⟨h1.1, h2.1, s6, s5⟩, cv_to (mul_ok h1 h2 h), trivial⟩)
noncomputable def nNegC := ctD f1E (fun p => True) (fun p => [nD (-p.a)])
theorem nNegC_at (a : Rat) : nNegC [nD a] = (True, [nD (-a)]) := ctD_at f1E_inj ⟨a⟩
theorem nNeg_spec : SpecD NF Try.prog 97 nNegC := specD_num' l1rNeg_spec (fun ⟨a⟩ h ds hc => by
  obtain ⟨r, h1, rfl, rfl⟩ := cv1 hc
  have c := rNegC_at r
  rw [c]
  exact ⟨h1.1, cv_to ⟨neg_WV h1, neg_val r⟩, trivial⟩)
noncomputable def nSignC := ctD f1E (fun p => True) (fun p => [i64D p.a.num.sign])
theorem nSignC_at (a : Rat) : nSignC [nD a] = (True, [i64D a.num.sign]) := ctD_at f1E_inj ⟨a⟩
theorem nSign_spec : SpecD NF Try.prog 41 nSignC := specD_num' l1rSign_spec (fun ⟨a⟩ h ds hc => by
  obtain ⟨r, h1, rfl, rfl⟩ := cv1 hc
  have c := rSignC_at r
  rw [c]
  refine ⟨h1.1, ?_⟩
  rw [sign_val h1.1]
  exact cvo1 (nn_i _))
def d3 (r : Int × Int × Bool) : List D := [eQ r.1 r.2.1, boolD r.2.2]
noncomputable def nOfC := ctD iiE (fun p => I64 p.a ∧ I64 p.b ∧ 0 < p.b) (fun p => [nD (Rat.divInt p.a p.b)])
theorem nOfC_at (a b : Int) : nOfC [i64D a, i64D b] = ((I64 a ∧ I64 b ∧ 0 < b), [nD (Rat.divInt a b)]) := ctD_at iiE_inj ⟨a, b⟩
theorem nOf_spec : SpecD NF Try.prog 121 nOfC := specD_num' l1rOf_spec (fun ⟨a, b⟩ h ds hc => by
  obtain rfl := cvs2 (nn_i a) (nn_i b) hc
  obtain ⟨h1, h2, h3⟩ := h
  have h1 : I64 a := h1
  have h2 : I64 b := h2
  have h3 : 0 < b := h3
  have c := ofC_at a b
  rw [c]
  exact ⟨⟨h1, h2, h3⟩, cv_to (ofR_ok h3 h1 h2), trivial⟩)
end Go.Proofs.Ytcgolmopbnhgeaa.Ae

namespace Go.Proofs.Ytcgolmopbnhgeaa.Ae
open Go Go.RowKit Go.Proofs.Ytcgolmopbnhgeaa.Dig
structure Q4 where
  a : Int
  b : Int
  c : Int
  d : Int
def ok2 (p : Q4) : Prop := qOk p.a p.b ∧ qOk p.c p.d
instance (p : Q4) : Decidable (ok2 p) := by unfold ok2; infer_instance
def okD (p : Q4) : Prop := ok2 p ∧ p.c ≠ 0
instance (p : Q4) : Decidable (okD p) := by unfold okD; infer_instance
def okF (p : Q4) : Prop := ok2 p ∧ 0 < p.c
instance (p : Q4) : Decidable (okF p) := by unfold okF; infer_instance
theorem QI_qsz {n d : Int} (h : QI n d) : qsz (Rat.divInt n d) ≤ 2 := smallQ_qsz (QI_small h)
@[simp] theorem nav_eQ0 (n d : Int) : nav (eQ n d) [0] = some (.lit (.int .i64 n), 0) := rfl
@[simp] theorem nav_eQ1 (n d : Int) : nav (eQ n d) [1] = some (.lit (.int .i64 d), 1) := rfl
end Go.Proofs.Ytcgolmopbnhgeaa.Ae

namespace Go.Proofs.Ytcgolmopbnhgeaa.Ae
open Go Go.RowKit Go.Proofs.Ytcgolmopbnhgeaa.Dig
theorem qOk_64 {n d : Int} (h : qOk n d) : I64 n ∧ I64 d ∧ 0 < d := by unfold qOk at h; unfold I64; omega
end Go.Proofs.Ytcgolmopbnhgeaa.Ae

namespace Go.Proofs.Ytcgolmopbnhgeaa.Ae
open Go Go.RowKit Go.Proofs.Ytcgolmopbnhgeaa.Dig
theorem law_calls {f : FuncId} {g : List D → Prop × List D} (h : SpecD NF Try.prog f g) {ds : List D} (hp : (g ds).1) (hr : (g ds).2 = [boolD true]) {vs : List Value} {w : World} (hrep : RepVs NF (fun _ => False) w ds vs) :
    Calls Try.prog f vs.toArray w fun e w' => e = .returned (.bool true) ∧ Below w.heap.size w w' := by
  refine (h ds hp (fun _ => False) w vs (fun k hk => hk.elim) hrep).mono fun e w' ⟨v, he, hv, hfr⟩ => ?_
  rw [hr] at hv
  have hv : RepV NF _ w' (.lit (.bool true)) v := hv
  obtain ⟨rfl, _⟩ := RepV.lit hv
  exact ⟨he, ⟨hfr.os, hfr.tape, hfr.output, hfr.size, fun k hk => hfr.block k hk (fun h => h)⟩⟩
theorem repV_flat {N : NR} {F : Nat → Prop} {w : World} {d : D} {cs : List Value} (h : flatD d = some cs) (h1 : ∀ v ∈ cs, v.oneCell' = true) (ha : d.isAgg = true) : RepV N F w d (.agg cs.toArray) :=
  ⟨cs, flatD_rep d cs h h1, by unfold mkV; rw [ha]; rfl⟩
theorem repVs_nil {N : NR} {F : Nat → Prop} {w : World} : RepVs N F w [] [] := ⟨rfl, fun i d v h => by simp at h⟩
theorem repVs_cons {N : NR} {F : Nat → Prop} {w : World} {d : D} {v : Value} {ds : List D} {vs : List Value} (h : RepV N F w d v) (hs : RepVs N F w ds vs) : RepVs N F w (d :: ds) (v :: vs) :=
  ⟨by simp only [List.length_cons]; rw [hs.1], fun i e u h1 h2 => by
    cases i with
    | zero =>
      simp only [List.getElem?_cons_zero, Option.some.injEq] at h1 h2
      subst h1 h2
      exact h
    | succ i => exact hs.2 i e u (by simpa using h1) (by simpa using h2)⟩
theorem wf64 {a : Int} (h : (Lit.int .i64 a).wf = true) : I64 a := bounds_i64 h
end Go.Proofs.Ytcgolmopbnhgeaa.Ae

namespace Go.Proofs.Ytcgolmopbnhgeaa.Ae
open Go Go.RowKit Go.Proofs.Ytcgolmopbnhgeaa.Dig
structure Enc (α : Type) where
  e : α → D
  inj : ∀ a b, e a = e b → a = b
def EInt : Enc Int := ⟨i64D, fun _ _ => i64D_inj⟩
theorem boolD_inj {a b : Bool} (h : boolD a = boolD b) : a = b := by unfold boolD at h; injection h with h; injection h
def EBool : Enc Bool := ⟨boolD, fun _ _ => boolD_inj⟩
def Enc.pair {α β : Type} (A : Enc α) (B : Enc β) : Enc (α × β) := ⟨fun p => .agg [A.e p.1, B.e p.2], fun p q h => by
  simp only [D.agg.injEq, List.cons.injEq, and_true] at h
  exact Prod.ext (A.inj _ _ h.1) (B.inj _ _ h.2)⟩
def Enc.trip {α β γ : Type} (A : Enc α) (B : Enc β) (C : Enc γ) : Enc (α × β × γ) := ⟨fun p => .agg [A.e p.1, B.e p.2.1, C.e p.2.2], fun p q h => by
  simp only [D.agg.injEq, List.cons.injEq, and_true] at h
  exact Prod.ext (A.inj _ _ h.1) (Prod.ext (B.inj _ _ h.2.1) (C.inj _ _ h.2.2))⟩
theorem map_inj {α : Type} (E : Enc α) : ∀ {a b : List α}, a.map E.e = b.map E.e → a = b
  | [], [], _ => rfl
  | x :: a, y :: b, h => by
    simp only [List.map_cons, List.cons.injEq] at h
    rw [E.inj _ _ h.1, map_inj E h.2]
  | [], _ :: _, h => by simp at h
  | _ :: _, [], h => by simp at h
def Enc.list {α : Type} (sz : Nat) (E : Enc α) : Enc (List α) := ⟨fun l => .sl sz (l.map E.e), fun a b h => by
  injection h with _ h; exact map_inj E h⟩
noncomputable def ct1 {α : Type} (A : Enc α) (pre : α → Prop) (post : α → List D) := ctD (fun a => [A.e a]) pre post
theorem ct1_at {α : Type} {A : Enc α} {pre : α → Prop} {post : α → List D} (a : α) : ct1 A pre post [A.e a] = (pre a, post a) :=
  ctD_at (e := fun a => [A.e a]) (fun a b h => by simp only [List.cons.injEq, and_true] at h; exact A.inj _ _ h) a
noncomputable def ct2 {α β : Type} (A : Enc α) (B : Enc β) (pre : α → β → Prop) (post : α → β → List D) := ctD (fun p : α × β => [A.e p.1, B.e p.2]) (fun p => pre p.1 p.2) (fun p => post p.1 p.2)
theorem ct2_at {α β : Type} {A : Enc α} {B : Enc β} {pre : α → β → Prop} {post : α → β → List D} (a : α) (b : β) : ct2 A B pre post [A.e a, B.e b] = (pre a b, post a b) :=
  ctD_at (e := fun p : α × β => [A.e p.1, B.e p.2]) (fun p q h => by simp only [List.cons.injEq, and_true] at h; exact Prod.ext (A.inj _ _ h.1) (B.inj _ _ h.2)) (a, b)
noncomputable def ct4 {α β γ δ : Type} (A : Enc α) (B : Enc β) (C : Enc γ) (E : Enc δ) (pre : α → β → γ → δ → Prop) (post : α → β → γ → δ → List D) := ctD (fun p : α × β × γ × δ => [A.e p.1, B.e p.2.1, C.e p.2.2.1, E.e p.2.2.2]) (fun p => pre p.1 p.2.1 p.2.2.1 p.2.2.2) (fun p => post p.1 p.2.1 p.2.2.1 p.2.2.2)
theorem ct4_at {α β γ δ : Type} {A : Enc α} {B : Enc β} {C : Enc γ} {E : Enc δ} {pre : α → β → γ → δ → Prop} {post : α → β → γ → δ → List D} (a : α) (b : β) (c : γ) (d : δ) : ct4 A B C E pre post [A.e a, B.e b, C.e c, E.e d] = (pre a b c d, post a b c d) :=
  ctD_at (e := fun p : α × β × γ × δ => [A.e p.1, B.e p.2.1, C.e p.2.2.1, E.e p.2.2.2]) (fun p q h => by simp only [List.cons.injEq, and_true] at h; exact Prod.ext (A.inj _ _ h.1) (Prod.ext (B.inj _ _ h.2.1) (Prod.ext (C.inj _ _ h.2.2.1) (E.inj _ _ h.2.2.2)))) (a, b, c, d)
theorem rd1 {N : NR} {α : Type} {A : Enc α} {pre : α → Prop} {post : α → List D} {f : FuncId} {fn : Func} {c : Code} {mf : FuncId → Bool} {tb : FuncId → Option Ct} (htb : TbOK N Try.prog tb) (hf : Try.prog.funcs[f]? = some fn) (hb : fn.body = some c) (hd : drawAll mf c = true) (hl : Nat.ble 1 fn.ntmps = true)
    (h : ∀ a, pre a → awp Try.prog mf tb c (start fn.ntmps ([A.e a].map .dat) []) (endK Try.prog fn.ntmps fn.results.toList ((post a).map .dat) [])) : SpecD N Try.prog f (ct1 A pre post) :=
  rdD htb hf hb hd (fun a ha => ⟨Nat.le_of_ble_eq_true hl, h a ha⟩)
theorem rd2 {N : NR} {α β : Type} {A : Enc α} {B : Enc β} {pre : α → β → Prop} {post : α → β → List D} {f : FuncId} {fn : Func} {c : Code} {mf : FuncId → Bool} {tb : FuncId → Option Ct} (htb : TbOK N Try.prog tb) (hf : Try.prog.funcs[f]? = some fn) (hb : fn.body = some c) (hd : drawAll mf c = true) (hl : Nat.ble 2 fn.ntmps = true)
    (h : ∀ a b, pre a b → awp Try.prog mf tb c (start fn.ntmps ([A.e a, B.e b].map .dat) []) (endK Try.prog fn.ntmps fn.results.toList ((post a b).map .dat) [])) : SpecD N Try.prog f (ct2 A B pre post) :=
  rdD htb hf hb hd (fun p ha => ⟨Nat.le_of_ble_eq_true hl, h p.1 p.2 ha⟩)
theorem rd4 {N : NR} {α β γ δ : Type} {A : Enc α} {B : Enc β} {C : Enc γ} {E : Enc δ} {pre : α → β → γ → δ → Prop} {post : α → β → γ → δ → List D} {f : FuncId} {fn : Func} {c : Code} {mf : FuncId → Bool} {tb : FuncId → Option Ct} (htb : TbOK N Try.prog tb) (hf : Try.prog.funcs[f]? = some fn) (hb : fn.body = some c) (hd : drawAll mf c = true) (hl : Nat.ble 4 fn.ntmps = true)
    (h : ∀ a b d g, pre a b d g → awp Try.prog mf tb c (start fn.ntmps ([A.e a, B.e b, C.e d, E.e g].map .dat) []) (endK Try.prog fn.ntmps fn.results.toList ((post a b d g).map .dat) [])) : SpecD N Try.prog f (ct4 A B C E pre post) :=
  rdD htb hf hb hd (fun p ha => ⟨Nat.le_of_ble_eq_true hl, h p.1 p.2.1 p.2.2.1 p.2.2.2 ha⟩)
theorem MX_val : MX = 549755813888 := rfl
def vOk (v : (Int × Int) × Int × Int) : Prop := qOk v.1.1 v.1.2 ∧ qOk v.2.1 v.2.2
instance (v : (Int × Int) × Int × Int) : Decidable (vOk v) := by unfold vOk; infer_instance
@[simp] theorem EInt_e (x : Int) : EInt.e x = i64D x := rfl
@[simp] theorem EBool_e (x : Bool) : EBool.e x = boolD x := rfl
section
variable (a b : Rat) (n d : Int)
@[simp] theorem n_add : nAddC [nD a, nD b] = (qsz a + qsz b < MX, [nD (a + b)]) := nAddC_at a b
@[simp] theorem n_mul : nMulC [nD a, nD b] = (qsz a + qsz b < MX, [nD (a * b)]) := nMulC_at a b
@[simp] theorem n_neg : nNegC [nD a] = (True, [nD (-a)]) := nNegC_at a
@[simp] theorem n_sign : nSignC [nD a] = (True, [.lit (.int .i64 a.num.sign)]) := nSignC_at a
@[simp] theorem n_of : nOfC [.lit (.int .i64 n), .lit (.int .i64 d)] = ((I64 n ∧ I64 d ∧ 0 < d), [nD (Rat.divInt n d)]) := nOfC_at n d
@[simp] theorem n_zof : zOfC [.lit (.int .i64 n)] = (I64 n, [eZ n]) := zOfC_at n
@[simp] theorem n_zadd : zAddC [eZ n, eZ d] = ((SZ n ∧ SZ d), [eZ (n + d)]) := zAddC_at n d
end
end Go.Proofs.Ytcgolmopbnhgeaa.Ae

namespace Go.Proofs.Ytcgolmopbnhgeaa.Ae
open Go Go.RowKit Go.Proofs.Ytcgolmopbnhgeaa.Dig
end Go.Proofs.Ytcgolmopbnhgeaa.Ae

namespace Go.Proofs.Ytcgolmopbnhgeaa.Ae
open Go Go.RowKit Go.Proofs.Ytcgolmopbnhgeaa.Dig
end Go.Proofs.Ytcgolmopbnhgeaa.Ae

namespace Go.Proofs.Ytcgolmopbnhgeaa.Ae
open Go Go.RowKit Go.Proofs.Ytcgolmopbnhgeaa.Dig
@[simp] theorem flatD_eQ (a b : Int) : flatD (eQ a b) = some [.int .i64 a, .int .i64 b] := rfl
attribute [simp] eqV eqVs
def segOk (a b c d e f g h : Int) : Prop := ((qOk a b ∧ qOk c d) ∧ qOk e f ∧ qOk g h) ∧ ¬ (a = e ∧ b = f ∧ c = g ∧ d = h)
instance (a b c d e f g h : Int) : Decidable (segOk a b c d e f g h) := by unfold segOk; infer_instance
end Go.Proofs.Ytcgolmopbnhgeaa.Ae

namespace Go.Proofs.Ytcgolmopbnhgeaa.Ae
open Go Go.RowKit Go.Proofs.Ytcgolmopbnhgeaa.Dig
structure GV (a b c d : Int) : Prop where
  i : I64 a ∧ I64 b
  j : I64 c ∧ I64 d
  ok : qOk a b ∧ qOk c d
theorem GV.w1 {a b c d : Int} (h : GV a b c d) : QI a b := qOk_QI h.ok.1
theorem GV.w2 {a b c d : Int} (h : GV a b c d) : QI c d := qOk_QI h.ok.2
theorem GV.y1 {a b c d : Int} (h : GV a b c d) : I64 a ∧ I64 b ∧ 0 < b := qOk_64 h.ok.1
theorem GV.y2 {a b c d : Int} (h : GV a b c d) : I64 c ∧ I64 d ∧ 0 < d := qOk_64 h.ok.2
theorem GV.sz {a b c d : Int} (h : GV a b c d) : qsz (Rat.divInt a b) + qsz (Rat.divInt c d) ≤ 4 := by
  have := QI_qsz h.w1
  have := QI_qsz h.w2
  omega
end Go.Proofs.Ytcgolmopbnhgeaa.Ae

namespace Go.Proofs.Ytcgolmopbnhgeaa.Ae
open Go Go.RowKit Go.Proofs.Ytcgolmopbnhgeaa.Dig
end Go.Proofs.Ytcgolmopbnhgeaa.Ae

namespace Go.Proofs.Ytcgolmopbnhgeaa.Ae
open Go Go.RowKit Go.Proofs.Ytcgolmopbnhgeaa.Dig
theorem rat_one (a : Int) : Rat.divInt a 1 = (a : Rat) := by rw [Rat.divInt_eq_div]; simp; grind
noncomputable def l1rIntC := ct1 EInt (fun p0 => I64 p0) (fun p0 => [nD (p0 : Rat)])
@[simp] theorem l1rIntC_at (a : Int) : l1rIntC [.lit (.int .i64 a)] = (I64 a, [nD (a : Rat)]) := ct1_at a
noncomputable def l1rIntTb : List (FuncId × Ct) := [(121, .data nOfC)]
theorem l1rIntTb_ok : TbOK NF Try.prog (tbl l1rIntTb) := tbl_cons (c := .data nOfC) nOf_spec l1rOf_ok tbl_nil
@[simp] theorem l1rIntTb1 : tbl l1rIntTb 121 = some (.data nOfC) := rfl
theorem l1rInt_spec : SpecD NF Try.prog 95 l1rIntC := by
  refine rd1 (mf := fun f => false) l1rIntTb_ok (fn := Try.f95) (by kernel_rfl) rfl (by kernel_rfl) (by kernel_rfl) ?_
  rintro a hp
  have hp : I64 a := hp
  show awp _ _ _ _ (start _ ([.lit (.int .i64 a)].map .dat) []) (endK _ _ _ (([nD (a : Rat)]).map .dat) [])
  have e : Rat.divInt a 1 = (a : Rat) := rat_one a
  have h1 : I64 1 := by unfold I64; omega
  simp [-D.isLit, Try.f95, hp, h1, e]
theorem l1rInt_ok : callable Try.prog 95 = true := by kernel_rfl
end Go.Proofs.Ytcgolmopbnhgeaa.Ae

namespace Go.Proofs.Ytcgolmopbnhgeaa.Ae
open Go Go.RowKit Go.Proofs.Ytcgolmopbnhgeaa.Dig
def EI2 : Enc (Int × Int) := EInt.pair EInt
def EI3 : Enc (Int × Int × Int) := EInt.trip EInt EInt
@[simp] theorem EI2_e (a b : Int) : EI2.e (a, b) = .agg [.lit (.int .i64 a), .lit (.int .i64 b)] := rfl
@[simp] theorem EI3_e (a b c : Int) : EI3.e (a, b, c) = .agg [.lit (.int .i64 a), .lit (.int .i64 b), .lit (.int .i64 c)] := rfl
def EI2L : Enc (List (Int × Int)) := EI2.list 2
def EI3L : Enc (List (Int × Int × Int)) := EI3.list 3
def cm (x : Int) : Prop := -67108864 ≤ x ∧ x ≤ 67108864
instance (x : Int) : Decidable (cm x) := by unfold cm; infer_instance
def c2 (p : Int × Int) : Prop := cm p.1 ∧ cm p.2
instance (p : Int × Int) : Decidable (c2 p) := by unfold c2; infer_instance
def c3 (p : Int × Int × Int) : Prop := cm p.1 ∧ cm p.2.1 ∧ cm p.2.2
instance (p : Int × Int × Int) : Decidable (c3 p) := by unfold c3; infer_instance
theorem all_drop' {α : Type} (f : α → Bool) : ∀ (l : List α) (k : Nat) (v : α), l[k]? = some v → (∀ y ∈ l.take k, f y = true) → (f v = false → l.all f = false) ∧ (f v = true → ∀ y ∈ l.take (k + 1), f y = true) := by
  intro l k v hx h
  constructor
  · intro hv
    rw [List.all_eq_false]
    exact ⟨v, List.mem_of_getElem? hx, by rw [hv]; simp⟩
  · intro hv y hy
    rw [List.take_add_one, hx] at hy
    rcases List.mem_append.1 hy with hy | hy
    · exact h y hy
    · simp at hy; rw [hy]; exact hv
theorem pt2_at {l : List (Int × Int)} {k : Nat} (h : k < l.length) : ∃ a b, l[k]? = some (a, b) ∧ ix (l.map EI2.e) k = some (.agg [.lit (.int .i64 a), .lit (.int .i64 b)]) := by
  have hx := List.getElem?_eq_getElem h
  obtain ⟨⟨a, b⟩, hq⟩ : ∃ q, q = l[k] := ⟨_, rfl⟩
  rw [← hq] at hx
  exact ⟨a, b, hx, by unfold ix; rw [List.getElem?_map, hx]; rfl⟩
theorem pt3_at {l : List (Int × Int × Int)} {k : Nat} (h : k < l.length) : ∃ a b c, l[k]? = some (a, b, c) ∧ ix (l.map EI3.e) k = some (.agg [.lit (.int .i64 a), .lit (.int .i64 b), .lit (.int .i64 c)]) := by
  have hx := List.getElem?_eq_getElem h
  obtain ⟨⟨a, b, c⟩, hq⟩ : ∃ q, q = l[k] := ⟨_, rfl⟩
  rw [← hq] at hx
  exact ⟨a, b, c, hx, by unfold ix; rw [List.getElem?_map, hx]; rfl⟩
noncomputable def tame2C := ct1 EI2L (fun l => l.length < 4611686018427387904) (fun l => [.lit (.bool (l.all fun p => decide (c2 p)))])
@[simp] theorem tame2C_at (l : List (Int × Int)) : tame2C [.sl 2 (l.map EI2.e)] = (l.length < 4611686018427387904, [.lit (.bool (l.all fun p => decide (c2 p)))]) := ct1_at (A := EI2L) l
def tame2S (l : List (Int × Int)) (k : Nat) : St := ⟨[.any, .any, .any, .any, .any, .dat (.sl 2 (l.map EI2.e)), .dat (.lit (.int .i64 l.length)), .dat (.lit (.int .i64 k)), .any, .any, .any, .any, .any, .any, .any, .any, .any, .any, .any, .any, .any, .any, .any, .any, .any, .any, .any, .any, .any, .any], [none, none, none, none, none, none, none, none, none, none, none, none, none, none, none, none, none, none, none, none, none, none, none, none, none, none, none, none, none, none]⟩
theorem tame2_spec {N : NR} : SpecD N Try.prog 50 tame2C := by
  refine rd1 (mf := fun f => false) (tb := tbl []) tbl_nil (fn := Try.f50) (by kernel_rfl) rfl (by kernel_rfl) (by kernel_rfl) ?_
  rintro l hl
  have hl : l.length < 4611686018427387904 := hl
  generalize hr : (l.all fun p => decide (c2 p)) = r
  show awp _ _ _ _ (start _ ([.sl 2 (l.map EI2.e)].map .dat) []) (endK _ _ _ ([D.lit (.bool r)].map .dat) [])
  simp only [Try.f50]
  simp [-D.isLit]
  refine loop_go (fun n st => ∃ k, n = l.length - k ∧ k ≤ l.length ∧ (∀ y ∈ l.take k, decide (c2 y) = true) ∧ st = tame2S l k) (s0 := tame2S l 0) (n := l.length) (snd_of (by simp [LeT, tame2S]) (by simp [tame2S])) ⟨0, rfl, Nat.zero_le _, by simp, rfl⟩ ?_
  rintro n st ⟨k, hn, hk, hall, rfl⟩ KN hN
  by_cases h : k < l.length
  · obtain ⟨a, b, hx, e1⟩ := pt2_at h
    obtain ⟨a1, a2⟩ := all_drop' (fun v => decide (c2 v)) l k _ hx hall
    have w1 : IntKind.i64.wrap ((k : Int) + 1) = (k : Int) + 1 := i64_id _ (by omega) (by omega)
    by_cases hok : c2 (a, b)
    · have k1 : ¬ a < -67108864 := by have := hok.1.1; show ¬ a < _; omega
      have k2 : ¬ 67108864 < a := by have := hok.1.2; show ¬ _ < a; omega
      have k3 : ¬ b < -67108864 := by have := hok.2.1; show ¬ b < _; omega
      have k4 : ¬ 67108864 < b := by have := hok.2.2; show ¬ _ < b; omega
      simp [-D.isLit, tame2S, h, e1, k1, k2, k3, k4, w1]
      exact hN _ (nx (m := l.length - (k + 1)) (s'' := tame2S l (k + 1)) (snd_obs (n := 30) [] rfl (by simp) (by simp [tame2S])) ⟨k + 1, rfl, h, a2 (decide_eq_true hok), rfl⟩ (by omega))
    · have hb : a < -67108864 ∨ 67108864 < a ∨ b < -67108864 ∨ 67108864 < b := by
        apply Classical.byContradiction
        intro hh
        exact hok ⟨⟨by show _ ≤ a; omega, by show a ≤ _; omega⟩, ⟨by show _ ≤ b; omega, by show b ≤ _; omega⟩⟩
      have a1 := a1 (decide_eq_false hok)
      rw [hr] at a1
      subst a1
      by_cases k1 : a < -67108864
      · simp [-D.isLit, tame2S, h, e1, k1]
      · by_cases k2 : 67108864 < a
        · simp [-D.isLit, tame2S, h, e1, k1, k2]
        · by_cases k3 : b < -67108864
          · simp [-D.isLit, tame2S, h, e1, k1, k2, k3]
          · have k4 : 67108864 < b := by omega
            simp [-D.isLit, tame2S, h, e1, k1, k2, k3, k4]
  · have hkl : k = l.length := by omega
    subst hkl
    rw [List.take_length] at hall
    have hrt : r = true := by rw [← hr, List.all_eq_true]; exact hall
    subst hrt
    simp [tame2S]
theorem tame2_ok : callable Try.prog 50 = true := by kernel_rfl
theorem tame2_2 (a b c d : Int) : tame2C [.sl 2 [.agg [.lit (.int .i64 a), .lit (.int .i64 b)], .agg [.lit (.int .i64 c), .lit (.int .i64 d)]]] = (True, [.lit (.bool (decide (c2 (a, b)) && decide (c2 (c, d))))]) := by
  have h1 := tame2C_at [(a, b), (c, d)]
  have h2 : (([(a, b), (c, d)] : List (Int × Int)).length < 4611686018427387904) = True := eq_true (by simp)
  rw [h2] at h1
  have h3 : (([(a, b), (c, d)] : List (Int × Int)).all fun p => decide (c2 p)) = (decide (c2 (a, b)) && decide (c2 (c, d))) := by simp
  rw [h3] at h1
  exact h1
attribute [simp] tame2_2
theorem c3_c2 (a b c : Int) : c3 (a, b, c) ↔ c2 (a, b) ∧ c2 (c, 0) := by
  unfold c3 c2 cm
  simp only []
  omega
noncomputable def tame3C := ct1 EI3L (fun l => l.length < 4611686018427387904) (fun l => [.lit (.bool (l.all fun p => decide (c3 p)))])
@[simp] theorem tame3C_at (l : List (Int × Int × Int)) : tame3C [.sl 3 (l.map EI3.e)] = (l.length < 4611686018427387904, [.lit (.bool (l.all fun p => decide (c3 p)))]) := ct1_at (A := EI3L) l
noncomputable def tame3Tb : List (FuncId × Ct) := [(50, .data tame2C)]
theorem tame3Tb_ok {N : NR} : TbOK N Try.prog (tbl tame3Tb) := tbl_cons (c := .data tame2C) tame2_spec tame2_ok tbl_nil
@[simp] theorem tame3Tb1 : tbl tame3Tb 50 = some (.data tame2C) := rfl
def tame3S (l : List (Int × Int × Int)) (k : Nat) : St := ⟨[.any, .any, .any, .any, .any, .dat (.sl 3 (l.map EI3.e)), .dat (.lit (.int .i64 l.length)), .dat (.lit (.int .i64 k)), .any, .any, .any, .any, .any, .any, .any, .any, .any, .any, .any, .any, .any, .any, .any], [none, none, none, none, none, none, none, none, none, none, none, none, none, none, none, none, none, none, none, none, none, none, none]⟩
theorem tame3_spec {N : NR} : SpecD N Try.prog 43 tame3C := by
  refine rd1 (mf := fun f => false) tame3Tb_ok (fn := Try.f43) (by kernel_rfl) rfl (by kernel_rfl) (by kernel_rfl) ?_
  rintro l hl
  have hl : l.length < 4611686018427387904 := hl
  generalize hr : (l.all fun p => decide (c3 p)) = r
  show awp _ _ _ _ (start _ ([.sl 3 (l.map EI3.e)].map .dat) []) (endK _ _ _ ([D.lit (.bool r)].map .dat) [])
  simp only [Try.f43]
  simp [-D.isLit]
  refine loop_go (fun n st => ∃ k, n = l.length - k ∧ k ≤ l.length ∧ (∀ y ∈ l.take k, decide (c3 y) = true) ∧ st = tame3S l k) (s0 := tame3S l 0) (n := l.length) (snd_of (by simp [LeT, tame3S]) (by simp [tame3S])) ⟨0, rfl, Nat.zero_le _, by simp, rfl⟩ ?_
  rintro n st ⟨k, hn, hk, hall, rfl⟩ KN hN
  by_cases h : k < l.length
  · obtain ⟨a, b, c, hx, e1⟩ := pt3_at h
    obtain ⟨a1, a2⟩ := all_drop' (fun v => decide (c3 v)) l k _ hx hall
    have w1 : IntKind.i64.wrap ((k : Int) + 1) = (k : Int) + 1 := i64_id _ (by omega) (by omega)
    by_cases hok : c3 (a, b, c)
    · have k1 := (c3_c2 a b c).1 hok
      simp [-D.isLit, tame3S, h, e1, k1.1, k1.2, w1]
      exact hN _ (nx (m := l.length - (k + 1)) (s'' := tame3S l (k + 1)) (snd_obs (n := 23) [] rfl (by simp) (by simp [tame3S])) ⟨k + 1, rfl, h, a2 (decide_eq_true hok), rfl⟩ (by omega))
    · have hb : (decide (c2 (a, b)) && decide (c2 (c, 0))) = false := by rw [← Bool.decide_and]; exact decide_eq_false (fun x => hok ((c3_c2 a b c).2 x))
      have a1 := a1 (decide_eq_false hok)
      rw [hr] at a1
      subst a1
      simp [-D.isLit, tame3S, h, e1, hb]
  · have hkl : k = l.length := by omega
    subst hkl
    rw [List.take_length] at hall
    have hrt : r = true := by rw [← hr, List.all_eq_true]; exact hall
    subst hrt
    simp [tame3S]
theorem tame3_ok : callable Try.prog 43 = true := by kernel_rfl
noncomputable def l2InC := ct1 EInt (fun p0 => True) (fun p0 => [.lit (.bool (decide (cm p0)))])
@[simp] theorem l2InC_at (a : Int) : l2InC [.lit (.int .i64 a)] = (True, [.lit (.bool (decide (cm a)))]) := ct1_at a
theorem l2In_spec : SpecD NF Try.prog 91 l2InC := by
  refine rd1 (mf := fun f => false) (tb := tbl []) tbl_nil (fn := Try.f91) (by kernel_rfl) rfl (by kernel_rfl) (by kernel_rfl) ?_
  rintro a hp
  have hp : True := hp
  show awp _ _ _ _ (start _ ([.lit (.int .i64 a)].map .dat) []) (endK _ _ _ (([.lit (.bool (decide (cm a)))]).map .dat) [])
  by_cases h1 : -67108864 ≤ a <;> by_cases h2 : a ≤ 67108864 <;> simp [-D.isLit, Try.f91, cm, h1, h2]
theorem l2In_ok : callable Try.prog 91 = true := by kernel_rfl
noncomputable def l2TameC := ct1 EI3L (fun l => l.length < 4611686018427387904) (fun l => [.lit (.bool (l.all fun p => decide (c3 p)))])
@[simp] theorem l2TameC_at (l : List (Int × Int × Int)) : l2TameC [.sl 3 (l.map EI3.e)] = (l.length < 4611686018427387904, [.lit (.bool (l.all fun p => decide (c3 p)))]) := ct1_at (A := EI3L) l
noncomputable def l2TameTb : List (FuncId × Ct) := [(91, .data l2InC)]
theorem l2TameTb_ok : TbOK NF Try.prog (tbl l2TameTb) := tbl_cons (c := .data l2InC) l2In_spec l2In_ok tbl_nil
@[simp] theorem l2TameTb1 : tbl l2TameTb 91 = some (.data l2InC) := rfl
def l2TameS (l : List (Int × Int × Int)) (k : Nat) : St := ⟨[.dat (.sl 3 (l.map EI3.e)), .any, .any, .dat (.lit (.int .i64 k)), .any, .any, .any, .any, .any, .any, .any, .any, .any, .any, .any, .any, .any, .any, .any, .any, .any, .any, .any, .any, .any, .any, .any, .any, .any, .any, .any, .any, .any, .any, .any], [none, none, none, none, none, none, none, none, none, none, none, none, none, none, none, none, none, none, none, none, none, none, none, none, none, none, none, none, none, none, none, none, none, none, none]⟩
theorem l2Tame_spec : SpecD NF Try.prog 40 l2TameC := by
  refine rd1 (mf := fun f => false) l2TameTb_ok (fn := Try.f40) (by kernel_rfl) rfl (by kernel_rfl) (by kernel_rfl) ?_
  rintro l hl
  have hl : l.length < 4611686018427387904 := hl
  generalize hr : (l.all fun p => decide (c3 p)) = r
  show awp _ _ _ _ (start _ ([.sl 3 (l.map EI3.e)].map .dat) []) (endK _ _ _ ([D.lit (.bool r)].map .dat) [])
  simp only [Try.f40]
  simp [-D.isLit]
  refine loop_go (fun n st => ∃ k, n = l.length - k ∧ k ≤ l.length ∧ (∀ y ∈ l.take k, decide (c3 y) = true) ∧ st = l2TameS l k) (s0 := l2TameS l 0) (n := l.length) (snd_of (by simp [LeT, l2TameS]) (by simp [l2TameS])) ⟨0, rfl, Nat.zero_le _, by simp, rfl⟩ ?_
  rintro n st ⟨k, hn, hk, hall, rfl⟩ KN hN
  by_cases h : k < l.length
  · obtain ⟨a, b, c, hx, e1⟩ := pt3_at h
    obtain ⟨a1, a2⟩ := all_drop' (fun v => decide (c3 v)) l k _ hx hall
    have w1 : IntKind.i64.wrap ((k : Int) + 1) = (k : Int) + 1 := i64_id _ (by omega) (by omega)
    by_cases hok : c3 (a, b, c)
    · have k1 : cm a := hok.1
      have k2 : cm b := hok.2.1
      have k3 : cm c := hok.2.2
      simp [-D.isLit, l2TameS, h, e1, k1, k2, k3, w1]
      exact hN _ (nx (m := l.length - (k + 1)) (s'' := l2TameS l (k + 1)) (snd_obs (n := 35) [] rfl (by simp) (by simp [l2TameS])) ⟨k + 1, rfl, h, a2 (decide_eq_true hok), rfl⟩ (by omega))
    · have hb : cm a → cm b → ¬ cm c := fun x y z => hok ⟨x, y, z⟩
      have a1 := a1 (decide_eq_false hok)
      rw [hr] at a1
      subst a1
      by_cases k1 : cm a
      · by_cases k2 : cm b
        · have k3 := hb k1 k2
          simp [-D.isLit, l2TameS, h, e1, k1, k2, k3]
        · simp [-D.isLit, l2TameS, h, e1, k1, k2]
      · simp [-D.isLit, l2TameS, h, e1, k1]
  · have hkl : k = l.length := by omega
    subst hkl
    rw [List.take_length] at hall
    have hrt : r = true := by rw [← hr, List.all_eq_true]; exact hall
    subst hrt
    simp [l2TameS]
theorem l2Tame_ok : callable Try.prog 40 = true := by kernel_rfl
theorem tame3_3 (a b c d e f g h i : Int) : tame3C [.sl 3 [.agg [.lit (.int .i64 a), .lit (.int .i64 b), .lit (.int .i64 c)], .agg [.lit (.int .i64 d), .lit (.int .i64 e), .lit (.int .i64 f)], .agg [.lit (.int .i64 g), .lit (.int .i64 h), .lit (.int .i64 i)]]] = (True, [.lit (.bool (decide (c3 (a, b, c) ∧ c3 (d, e, f) ∧ c3 (g, h, i))))]) := by
  have h1 := tame3C_at [(a, b, c), (d, e, f), (g, h, i)]
  have h2 : (([(a, b, c), (d, e, f), (g, h, i)] : List (Int × Int × Int)).length < 4611686018427387904) = True := eq_true (by simp)
  rw [h2] at h1
  have h3 : (([(a, b, c), (d, e, f), (g, h, i)] : List (Int × Int × Int)).all fun p => decide (c3 p)) = decide (c3 (a, b, c) ∧ c3 (d, e, f) ∧ c3 (g, h, i)) := by rw [Bool.eq_iff_iff, decide_eq_true_eq]; simp
  rw [h3] at h1
  exact h1
attribute [simp] tame3_3
theorem tame3_4 (a b c d e f g h i j k l : Int) : tame3C [.sl 3 [.agg [.lit (.int .i64 a), .lit (.int .i64 b), .lit (.int .i64 c)], .agg [.lit (.int .i64 d), .lit (.int .i64 e), .lit (.int .i64 f)], .agg [.lit (.int .i64 g), .lit (.int .i64 h), .lit (.int .i64 i)], .agg [.lit (.int .i64 j), .lit (.int .i64 k), .lit (.int .i64 l)]]] = (True, [.lit (.bool (decide (c3 (a, b, c) ∧ c3 (d, e, f) ∧ c3 (g, h, i) ∧ c3 (j, k, l))))]) := by
  have h1 := tame3C_at [(a, b, c), (d, e, f), (g, h, i), (j, k, l)]
  have h2 : (([(a, b, c), (d, e, f), (g, h, i), (j, k, l)] : List (Int × Int × Int)).length < 4611686018427387904) = True := eq_true (by simp)
  rw [h2] at h1
  have h3 : (([(a, b, c), (d, e, f), (g, h, i), (j, k, l)] : List (Int × Int × Int)).all fun p => decide (c3 p)) = decide (c3 (a, b, c) ∧ c3 (d, e, f) ∧ c3 (g, h, i) ∧ c3 (j, k, l)) := by rw [Bool.eq_iff_iff, decide_eq_true_eq]; simp
  rw [h3] at h1
  exact h1
attribute [simp] tame3_4
theorem l2Tame_3 (a b c d e f g h i : Int) : l2TameC [.sl 3 [.agg [.lit (.int .i64 a), .lit (.int .i64 b), .lit (.int .i64 c)], .agg [.lit (.int .i64 d), .lit (.int .i64 e), .lit (.int .i64 f)], .agg [.lit (.int .i64 g), .lit (.int .i64 h), .lit (.int .i64 i)]]] = (True, [.lit (.bool (decide (c3 (a, b, c) ∧ c3 (d, e, f) ∧ c3 (g, h, i))))]) := by
  have h1 := l2TameC_at [(a, b, c), (d, e, f), (g, h, i)]
  have h2 : (([(a, b, c), (d, e, f), (g, h, i)] : List (Int × Int × Int)).length < 4611686018427387904) = True := eq_true (by simp)
  rw [h2] at h1
  have h3 : (([(a, b, c), (d, e, f), (g, h, i)] : List (Int × Int × Int)).all fun p => decide (c3 p)) = decide (c3 (a, b, c) ∧ c3 (d, e, f) ∧ c3 (g, h, i)) := by rw [Bool.eq_iff_iff, decide_eq_true_eq]; simp
  rw [h3] at h1
  exact h1
attribute [simp] l2Tame_3
theorem l2Tame_4 (a b c d e f g h i j k l : Int) : l2TameC [.sl 3 [.agg [.lit (.int .i64 a), .lit (.int .i64 b), .lit (.int .i64 c)], .agg [.lit (.int .i64 d), .lit (.int .i64 e), .lit (.int .i64 f)], .agg [.lit (.int .i64 g), .lit (.int .i64 h), .lit (.int .i64 i)], .agg [.lit (.int .i64 j), .lit (.int .i64 k), .lit (.int .i64 l)]]] = (True, [.lit (.bool (decide (c3 (a, b, c) ∧ c3 (d, e, f) ∧ c3 (g, h, i) ∧ c3 (j, k, l))))]) := by
  have h1 := l2TameC_at [(a, b, c), (d, e, f), (g, h, i), (j, k, l)]
  have h2 : (([(a, b, c), (d, e, f), (g, h, i), (j, k, l)] : List (Int × Int × Int)).length < 4611686018427387904) = True := eq_true (by simp)
  rw [h2] at h1
  have h3 : (([(a, b, c), (d, e, f), (g, h, i), (j, k, l)] : List (Int × Int × Int)).all fun p => decide (c3 p)) = decide (c3 (a, b, c) ∧ c3 (d, e, f) ∧ c3 (g, h, i) ∧ c3 (j, k, l)) := by rw [Bool.eq_iff_iff, decide_eq_true_eq]; simp
  rw [h3] at h1
  exact h1
attribute [simp] l2Tame_4
noncomputable def less3C := ct2 EI3 EI3 (fun p0 p1 => c3 (p0.1, p0.2.1, p0.2.2) ∧ c3 (p1.1, p1.2.1, p1.2.2)) (fun p0 p1 => [.agg [.lit (.int .i64 (p0.1 - p1.1)), .lit (.int .i64 (p0.2.1 - p1.2.1)), .lit (.int .i64 (p0.2.2 - p1.2.2))]])
@[simp] theorem less3C_at (a b c : Int) (d e f : Int) : less3C [.agg [.lit (.int .i64 a), .lit (.int .i64 b), .lit (.int .i64 c)], .agg [.lit (.int .i64 d), .lit (.int .i64 e), .lit (.int .i64 f)]] = (c3 (a, b, c) ∧ c3 (d, e, f), [.agg [.lit (.int .i64 (a - d)), .lit (.int .i64 (b - e)), .lit (.int .i64 (c - f))]]) := ct2_at (a, b, c) (d, e, f)
theorem less3_spec {N : NR} : SpecD N Try.prog 44 less3C := by
  refine rd2 (mf := fun f => false) (tb := tbl []) tbl_nil (fn := Try.f44) (by kernel_rfl) rfl (by kernel_rfl) (by kernel_rfl) ?_
  rintro ⟨a, b, c⟩ ⟨d, e, f⟩ hp
  have hp : c3 (a, b, c) ∧ c3 (d, e, f) := hp
  show awp _ _ _ _ (start _ ([.agg [.lit (.int .i64 a), .lit (.int .i64 b), .lit (.int .i64 c)], .agg [.lit (.int .i64 d), .lit (.int .i64 e), .lit (.int .i64 f)]].map .dat) []) (endK _ _ _ (([.agg [.lit (.int .i64 (a - d)), .lit (.int .i64 (b - e)), .lit (.int .i64 (c - f))]]).map .dat) [])
  obtain ⟨⟨a1, a2, a3⟩, a4, a5, a6⟩ := hp
  have a1 : -67108864 ≤ a ∧ a ≤ 67108864 := a1
  have a2 : -67108864 ≤ b ∧ b ≤ 67108864 := a2
  have a3 : -67108864 ≤ c ∧ c ≤ 67108864 := a3
  have a4 : -67108864 ≤ d ∧ d ≤ 67108864 := a4
  have a5 : -67108864 ≤ e ∧ e ≤ 67108864 := a5
  have a6 : -67108864 ≤ f ∧ f ≤ 67108864 := a6
  have w1 : IntKind.i64.wrap (a - d) = a - d := i64_id _ (by omega) (by omega)
  have w2 : IntKind.i64.wrap (b - e) = b - e := i64_id _ (by omega) (by omega)
  have w3 : IntKind.i64.wrap (c - f) = c - f := i64_id _ (by omega) (by omega)
  simp [-D.isLit, Try.f44, w1, w2, w3]
theorem less3_ok : callable Try.prog 44 = true := by kernel_rfl
noncomputable def l2Sub3C := ct2 EI3 EI3 (fun p0 p1 => c3 (p0.1, p0.2.1, p0.2.2) ∧ c3 (p1.1, p1.2.1, p1.2.2)) (fun p0 p1 => [.sl 1 [.lit (.int .i64 (p0.1 - p1.1)), .lit (.int .i64 (p0.2.1 - p1.2.1)), .lit (.int .i64 (p0.2.2 - p1.2.2))]])
@[simp] theorem l2Sub3C_at (a b c : Int) (d e f : Int) : l2Sub3C [.agg [.lit (.int .i64 a), .lit (.int .i64 b), .lit (.int .i64 c)], .agg [.lit (.int .i64 d), .lit (.int .i64 e), .lit (.int .i64 f)]] = (c3 (a, b, c) ∧ c3 (d, e, f), [.sl 1 [.lit (.int .i64 (a - d)), .lit (.int .i64 (b - e)), .lit (.int .i64 (c - f))]]) := ct2_at (a, b, c) (d, e, f)
theorem l2Sub3_spec : SpecD NF Try.prog 52 l2Sub3C := by
  refine rd2 (mf := fun f => false) (tb := tbl []) tbl_nil (fn := Try.f52) (by kernel_rfl) rfl (by kernel_rfl) (by kernel_rfl) ?_
  rintro ⟨a, b, c⟩ ⟨d, e, f⟩ hp
  have hp : c3 (a, b, c) ∧ c3 (d, e, f) := hp
  show awp _ _ _ _ (start _ ([.agg [.lit (.int .i64 a), .lit (.int .i64 b), .lit (.int .i64 c)], .agg [.lit (.int .i64 d), .lit (.int .i64 e), .lit (.int .i64 f)]].map .dat) []) (endK _ _ _ (([.sl 1 [.lit (.int .i64 (a - d)), .lit (.int .i64 (b - e)), .lit (.int .i64 (c - f))]]).map .dat) [])
  obtain ⟨⟨a1, a2, a3⟩, a4, a5, a6⟩ := hp
  have a1 : -67108864 ≤ a ∧ a ≤ 67108864 := a1
  have a2 : -67108864 ≤ b ∧ b ≤ 67108864 := a2
  have a3 : -67108864 ≤ c ∧ c ≤ 67108864 := a3
  have a4 : -67108864 ≤ d ∧ d ≤ 67108864 := a4
  have a5 : -67108864 ≤ e ∧ e ≤ 67108864 := a5
  have a6 : -67108864 ≤ f ∧ f ≤ 67108864 := a6
  have w1 : IntKind.i64.wrap (a - d) = a - d := i64_id _ (by omega) (by omega)
  have w2 : IntKind.i64.wrap (b - e) = b - e := i64_id _ (by omega) (by omega)
  have w3 : IntKind.i64.wrap (c - f) = c - f := i64_id _ (by omega) (by omega)
  simp [-D.isLit, Try.f52, w1, w2, w3]
theorem l2Sub3_ok : callable Try.prog 52 = true := by kernel_rfl
def dm (x : Int) : Prop := -134217728 ≤ x ∧ x ≤ 134217728
theorem dm_sub {a b : Int} (h1 : cm a) (h2 : cm b) : dm (a - b) := by unfold cm dm at *; omega
theorem dm_mul {a b : Int} (h1 : dm a) (h2 : dm b) : -18014398509481984 ≤ a * b ∧ a * b ≤ 18014398509481984 := by
  unfold dm at *
  have e : (a * b).natAbs ≤ 134217728 * 134217728 := by
    rw [Int.natAbs_mul]
    exact Nat.mul_le_mul (by omega) (by omega)
  omega
theorem dm_i64 {a : Int} (h : dm a) : I64 a := by unfold dm at h; unfold I64; omega
theorem dm_qsz {a : Int} (h : dm a) : qsz (a : Rat) ≤ 2 := by
  have h1 : QI a 1 := by unfold dm at h; exact ⟨by omega, by simp, by omega, by omega⟩
  have := QI_qsz h1
  rw [rat_one] at this
  exact this
theorem sgn_cast (n : Int) : ((n : Int) : Rat).num.sign = n.sign := by simp
noncomputable def toP3C := ct1 EI3 (fun p0 => True) (fun p0 => [.agg [.lit (.int .i64 p0.1), .lit (.int .i64 p0.2.1), .lit (.int .i64 p0.2.2)]])
@[simp] theorem toP3C_at (a b c : Int) : toP3C [.agg [.lit (.int .i64 a), .lit (.int .i64 b), .lit (.int .i64 c)]] = (True, [.agg [.lit (.int .i64 a), .lit (.int .i64 b), .lit (.int .i64 c)]]) := ct1_at (a, b, c)
theorem toP3_spec {N : NR} : SpecD N Try.prog 14 toP3C := by
  refine rd1 (mf := fun f => false) (tb := tbl []) tbl_nil (fn := Try.f14) (by kernel_rfl) rfl (by kernel_rfl) (by kernel_rfl) ?_
  rintro ⟨a, b, c⟩ hp
  have hp : True := hp
  show awp _ _ _ _ (start _ ([.agg [.lit (.int .i64 a), .lit (.int .i64 b), .lit (.int .i64 c)]].map .dat) []) (endK _ _ _ (([.agg [.lit (.int .i64 a), .lit (.int .i64 b), .lit (.int .i64 c)]]).map .dat) [])
  simp [-D.isLit, Try.f14]
theorem toP3_ok : callable Try.prog 14 = true := by kernel_rfl
end Go.Proofs.Ytcgolmopbnhgeaa.Ae

namespace Go.Proofs.Ytcgolmopbnhgeaa.Ae
open Go Go.RowKit Go.Proofs.Ytcgolmopbnhgeaa.Dig
theorem Snd.toData (s : St) (t o : Nat) (d : D) (h1 : asData s (s.get t) = some (d, some o)) (h2 : s.mayFreeze o) : Snd s { (s.frz [o]) with tm := (s.frz [o]).tm.set t (.dat d) } := by
  intro N F0 M0 w0 hv a w h
  have h' := h.frz [o]
  have hfr : allFreeze s [o] := ⟨h2, trivial⟩
  have e3 : asDatas s ([Operand.tmp t].map (ev s)) = some [(d, some o)] := by
    simp only [List.map_cons, List.map_nil, asDatas]
    rw [show ev s (.tmp t) = s.get t from rfl, h1]
  have hr := asDatas_rep h (frz_Fr s [o]) [.tmp t] _ e3 (fun o' ho' k hk => by
    obtain ⟨ob, hob⟩ := asDatas_owner _ _ e3 o' ho'
    exact Fr_frz h hfr ho' hob hk)
  have hd : RepV N (Fr F0 w0 hv (s.frz [o]) w) w d (a.eval (.tmp t)) := hr.2 0 _ _ rfl rfl
  refine ⟨hv, ⟨h'.lt0, h'.ltM, h'.bel, fun t' => ?_, by simpa using h'.sz, h'.ob, h'.own, h'.inj, h'.df⟩⟩
  have e : St.get { (s.frz [o]) with tm := (s.frz [o]).tm.set t (.dat d) } t' = if t' = t ∧ t < (s.frz [o]).tm.length then .dat d else (s.frz [o]).get t' := by
    unfold St.get
    simp only [List.getD_eq_getElem?_getD, List.getElem?_set]
    by_cases ht : t = t'
    · subst ht
      by_cases hl : t < (s.frz [o]).tm.length
      · simp [hl]
      · simp [hl]
    · have ht' : ¬ t' = t := fun x => ht x.symm
      simp [ht, ht']
  rw [e]
  by_cases hc : t' = t ∧ t < (s.frz [o]).tm.length
  · rw [if_pos hc, hc.1]
    exact hd
  · rw [if_neg hc]
    exact h'.tm t'
noncomputable def l2Tame2C := ct1 EI2L (fun l => l.length < 4611686018427387904) (fun l => [.lit (.bool (l.all fun p => decide (c2 p)))])
@[simp] theorem l2Tame2C_at (l : List (Int × Int)) : l2Tame2C [.sl 2 (l.map EI2.e)] = (l.length < 4611686018427387904, [.lit (.bool (l.all fun p => decide (c2 p)))]) := ct1_at (A := EI2L) l
noncomputable def l2Tame2Tb : List (FuncId × Ct) := [(91, .data l2InC)]
theorem l2Tame2Tb_ok : TbOK NF Try.prog (tbl l2Tame2Tb) := tbl_cons (c := .data l2InC) l2In_spec l2In_ok tbl_nil
@[simp] theorem l2Tame2Tb1 : tbl l2Tame2Tb 91 = some (.data l2InC) := rfl
def l2Tame2S (l : List (Int × Int)) (k : Nat) : St := ⟨[.dat (.sl 2 (l.map EI2.e)), .any, .any, .dat (.lit (.int .i64 k)), .any, .any, .any, .any, .any, .any, .any, .any, .any, .any, .any, .any, .any, .any, .any, .any, .any, .any, .any, .any, .any, .any], [none, none, none, none, none, none, none, none, none, none, none, none, none, none, none, none, none, none, none, none, none, none, none, none, none, none]⟩
theorem l2Tame2_spec : SpecD NF Try.prog 46 l2Tame2C := by
  refine rd1 (mf := fun f => false) l2Tame2Tb_ok (fn := Try.f46) (by kernel_rfl) rfl (by kernel_rfl) (by kernel_rfl) ?_
  rintro l hl
  have hl : l.length < 4611686018427387904 := hl
  generalize hr : (l.all fun p => decide (c2 p)) = r
  show awp _ _ _ _ (start _ ([.sl 2 (l.map EI2.e)].map .dat) []) (endK _ _ _ ([D.lit (.bool r)].map .dat) [])
  simp only [Try.f46]
  simp [-D.isLit]
  refine loop_go (fun n st => ∃ k, n = l.length - k ∧ k ≤ l.length ∧ (∀ y ∈ l.take k, decide (c2 y) = true) ∧ st = l2Tame2S l k) (s0 := l2Tame2S l 0) (n := l.length) (snd_of (by simp [LeT, l2Tame2S]) (by simp [l2Tame2S])) ⟨0, rfl, Nat.zero_le _, by simp, rfl⟩ ?_
  rintro n st ⟨k, hn, hk, hall, rfl⟩ KN hN
  by_cases h : k < l.length
  · obtain ⟨a, b, hx, e1⟩ := pt2_at h
    obtain ⟨a1, a2⟩ := all_drop' (fun v => decide (c2 v)) l k _ hx hall
    have w1 : IntKind.i64.wrap ((k : Int) + 1) = (k : Int) + 1 := i64_id _ (by omega) (by omega)
    by_cases hok : c2 (a, b)
    · have k1 : cm a := hok.1
      have k2 : cm b := hok.2
      simp [-D.isLit, l2Tame2S, h, e1, k1, k2, w1]
      exact hN _ (nx (m := l.length - (k + 1)) (s'' := l2Tame2S l (k + 1)) (snd_obs (n := 26) [] rfl (by simp) (by simp [l2Tame2S])) ⟨k + 1, rfl, h, a2 (decide_eq_true hok), rfl⟩ (by omega))
    · have hb : cm a → ¬ cm b := fun x y => hok ⟨x, y⟩
      have a1 := a1 (decide_eq_false hok)
      rw [hr] at a1
      subst a1
      by_cases k1 : cm a
      · have k3 := hb k1
        simp [-D.isLit, l2Tame2S, h, e1, k1, k3]
      · simp [-D.isLit, l2Tame2S, h, e1, k1]
  · have hkl : k = l.length := by omega
    subst hkl
    rw [List.take_length] at hall
    have hrt : r = true := by rw [← hr, List.all_eq_true]; exact hall
    subst hrt
    simp [l2Tame2S]
theorem l2Tame2_ok : callable Try.prog 46 = true := by kernel_rfl
theorem tame2_3 (a b c d e f : Int) : tame2C [.sl 2 [.agg [.lit (.int .i64 a), .lit (.int .i64 b)], .agg [.lit (.int .i64 c), .lit (.int .i64 d)], .agg [.lit (.int .i64 e), .lit (.int .i64 f)]]] = (True, [.lit (.bool (decide (c2 (a, b) ∧ c2 (c, d) ∧ c2 (e, f))))]) := by
  have h1 := tame2C_at [(a, b), (c, d), (e, f)]
  have h2 : (([(a, b), (c, d), (e, f)] : List (Int × Int)).length < 4611686018427387904) = True := eq_true (by simp)
  rw [h2] at h1
  have h3 : (([(a, b), (c, d), (e, f)] : List (Int × Int)).all fun p => decide (c2 p)) = decide (c2 (a, b) ∧ c2 (c, d) ∧ c2 (e, f)) := by rw [Bool.eq_iff_iff, decide_eq_true_eq]; simp
  rw [h3] at h1
  exact h1
attribute [simp] tame2_3
theorem l2Tame2_3 (a b c d e f : Int) : l2Tame2C [.sl 2 [.agg [.lit (.int .i64 a), .lit (.int .i64 b)], .agg [.lit (.int .i64 c), .lit (.int .i64 d)], .agg [.lit (.int .i64 e), .lit (.int .i64 f)]]] = (True, [.lit (.bool (decide (c2 (a, b) ∧ c2 (c, d) ∧ c2 (e, f))))]) := by
  have h1 := l2Tame2C_at [(a, b), (c, d), (e, f)]
  have h2 : (([(a, b), (c, d), (e, f)] : List (Int × Int)).length < 4611686018427387904) = True := eq_true (by simp)
  rw [h2] at h1
  have h3 : (([(a, b), (c, d), (e, f)] : List (Int × Int)).all fun p => decide (c2 p)) = decide (c2 (a, b) ∧ c2 (c, d) ∧ c2 (e, f)) := by rw [Bool.eq_iff_iff, decide_eq_true_eq]; simp
  rw [h3] at h1
  exact h1
attribute [simp] l2Tame2_3
noncomputable def l2Sub2C := ct2 EI2 EI2 (fun p0 p1 => c2 (p0.1, p0.2) ∧ c2 (p1.1, p1.2)) (fun p0 p1 => [.sl 1 [.lit (.int .i64 (p0.1 - p1.1)), .lit (.int .i64 (p0.2 - p1.2))]])
@[simp] theorem l2Sub2C_at (a b : Int) (c d : Int) : l2Sub2C [.agg [.lit (.int .i64 a), .lit (.int .i64 b)], .agg [.lit (.int .i64 c), .lit (.int .i64 d)]] = (c2 (a, b) ∧ c2 (c, d), [.sl 1 [.lit (.int .i64 (a - c)), .lit (.int .i64 (b - d))]]) := ct2_at (a, b) (c, d)
theorem l2Sub2_spec : SpecD NF Try.prog 49 l2Sub2C := by
  refine rd2 (mf := fun f => false) (tb := tbl []) tbl_nil (fn := Try.f49) (by kernel_rfl) rfl (by kernel_rfl) (by kernel_rfl) ?_
  rintro ⟨a, b⟩ ⟨c, d⟩ hp
  have hp : c2 (a, b) ∧ c2 (c, d) := hp
  show awp _ _ _ _ (start _ ([.agg [.lit (.int .i64 a), .lit (.int .i64 b)], .agg [.lit (.int .i64 c), .lit (.int .i64 d)]].map .dat) []) (endK _ _ _ (([.sl 1 [.lit (.int .i64 (a - c)), .lit (.int .i64 (b - d))]]).map .dat) [])
  obtain ⟨⟨a1, a2⟩, a3, a4⟩ := hp
  have a1 : -67108864 ≤ a ∧ a ≤ 67108864 := a1
  have a2 : -67108864 ≤ b ∧ b ≤ 67108864 := a2
  have a3 : -67108864 ≤ c ∧ c ≤ 67108864 := a3
  have a4 : -67108864 ≤ d ∧ d ≤ 67108864 := a4
  have w1 : IntKind.i64.wrap (a - c) = a - c := i64_id _ (by omega) (by omega)
  have w2 : IntKind.i64.wrap (b - d) = b - d := i64_id _ (by omega) (by omega)
  simp [-D.isLit, Try.f49, w1, w2]
theorem l2Sub2_ok : callable Try.prog 49 = true := by kernel_rfl
def zN3 : D := .agg [.lit (.int .i64 0), .lit (.int .i64 0), .lit (.slice none 0 0)]
@[simp] theorem zN3_size : zN3.size = 3 := rfl
noncomputable def toP2C := ct1 EI2 (fun p0 => True) (fun p0 => [.agg [.lit (.int .i64 p0.1), .lit (.int .i64 p0.2)]])
@[simp] theorem toP2C_at (a b : Int) : toP2C [.agg [.lit (.int .i64 a), .lit (.int .i64 b)]] = (True, [.agg [.lit (.int .i64 a), .lit (.int .i64 b)]]) := ct1_at (a, b)
theorem toP2_spec {N : NR} : SpecD N Try.prog 17 toP2C := by
  refine rd1 (mf := fun f => false) (tb := tbl []) tbl_nil (fn := Try.f17) (by kernel_rfl) rfl (by kernel_rfl) (by kernel_rfl) ?_
  rintro ⟨a, b⟩ hp
  have hp : True := hp
  show awp _ _ _ _ (start _ ([.agg [.lit (.int .i64 a), .lit (.int .i64 b)]].map .dat) []) (endK _ _ _ (([.agg [.lit (.int .i64 a), .lit (.int .i64 b)]]).map .dat) [])
  simp [-D.isLit, Try.f17]
theorem toP2_ok : callable Try.prog 17 = true := by kernel_rfl
end Go.Proofs.Ytcgolmopbnhgeaa.Ae

namespace Go.Proofs.Ytcgolmopbnhgeaa.Ae
open Go Go.RowKit Go.Proofs.Ytcgolmopbnhgeaa.Dig
def altS (f : Nat → Int) : Nat → Int
  | 0 => 0
  | k + 1 => altS f k + (if k % 2 = 1 then -(f k) else f k)
def rowK (k : Nat) (r : List Int) : List Int := r.take k ++ r.drop (k + 1)
def minI (k : Nat) (m : List (List Int)) : List (List Int) := m.tail.map (rowK k)
def minS (i : Nat) (m : List (List Int)) : List (List Int) := (m.take i ++ m.drop (i + 1)).map List.tail
def detI : Nat → List (List Int) → Int
  | 0, m => (m.getD 0 []).getD 0 0
  | n + 1, m => altS (fun k => (m.getD 0 []).getD k 0 * detI n (minI k m)) (n + 2)
def detS : Nat → List (List Int) → Int
  | 0, m => (m.getD 0 []).getD 0 0
  | n + 1, m => altS (fun k => (m.getD k []).getD 0 0 * detS n (minS k m)) (n + 2)
def sqm (n : Nat) (m : List (List Int)) : Prop := m.length = n + 1 ∧ ∀ r ∈ m, r.length = n + 1
def ent (m : List (List Int)) : Prop := ∀ r ∈ m, ∀ z ∈ r, ln z.natAbs ≤ 2
theorem rowK_len {k : Nat} {r : List Int} (h : k < r.length) : (rowK k r).length + 1 = r.length := by unfold rowK; simp; omega
theorem rowK_mem {k : Nat} {r : List Int} {z : Int} (h : z ∈ rowK k r) : z ∈ r := by
  rcases List.mem_append.1 h with h | h
  · exact List.mem_of_mem_take h
  · exact List.mem_of_mem_drop h
theorem minI_ok {n k : Nat} {m : List (List Int)} (h : sqm (n + 1) m) (hk : k < n + 2) : sqm n (minI k m) := by
  refine ⟨by unfold minI; simp [h.1], fun r hr => ?_⟩
  obtain ⟨r0, h0, rfl⟩ := List.mem_map.1 hr
  have h1 := h.2 r0 (List.mem_of_mem_tail h0)
  have := rowK_len (k := k) (r := r0) (by omega)
  omega
theorem minI_ent {k : Nat} {m : List (List Int)} (h : ent m) : ent (minI k m) := by
  intro r hr z hz
  obtain ⟨r0, h0, rfl⟩ := List.mem_map.1 hr
  exact h r0 (List.mem_of_mem_tail h0) z (rowK_mem hz)
theorem minS_ok {n k : Nat} {m : List (List Int)} (h : sqm (n + 1) m) (hk : k < n + 2) : sqm n (minS k m) := by
  have := h.1
  refine ⟨by unfold minS; simp; omega, fun r hr => ?_⟩
  obtain ⟨r0, h0, rfl⟩ := List.mem_map.1 hr
  have h1 : r0 ∈ m := by
    rcases List.mem_append.1 h0 with h0 | h0
    · exact List.mem_of_mem_take h0
    · exact List.mem_of_mem_drop h0
  have := h.2 r0 h1
  simp; omega
theorem minS_ent {k : Nat} {m : List (List Int)} (h : ent m) : ent (minS k m) := by
  intro r hr z hz
  obtain ⟨r0, h0, rfl⟩ := List.mem_map.1 hr
  have h1 : r0 ∈ m := by
    rcases List.mem_append.1 h0 with h0 | h0
    · exact List.mem_of_mem_take h0
    · exact List.mem_of_mem_drop h0
  exact h r0 h1 z (List.mem_of_mem_tail hz)
theorem getD_mem {m : List (List Int)} {k : Nat} (h : k < m.length) : m.getD k [] ∈ m := by
  rw [List.getD_eq_getElem?_getD, List.getElem?_eq_getElem h]; exact List.getElem_mem h
theorem getDi_mem {r : List Int} {k : Nat} (h : k < r.length) : r.getD k 0 ∈ r := by
  rw [List.getD_eq_getElem?_getD, List.getElem?_eq_getElem h]; exact List.getElem_mem h
theorem altS_ln {f : Nat → Int} {K n : Nat} (h : ∀ j, j < n → ln (f j).natAbs ≤ K) : ∀ k, k ≤ n → ln (altS f k).natAbs ≤ K + k
  | 0, _ => by show ln 0 ≤ _; rw [ln_zero]; omega
  | k + 1, hk => by
    have ih := altS_ln h k (by omega)
    have hk1 := h k (by omega)
    have := ln_na_add (altS f k) (if k % 2 = 1 then -(f k) else f k)
    have h2 : ln (if k % 2 = 1 then -(f k) else f k).natAbs ≤ K := by split <;> simpa using hk1
    show ln (altS f k + _).natAbs ≤ _
    omega
def bd : Nat → Nat
  | 0 => 2
  | n + 1 => bd n + n + 4
theorem bd_le {n : Nat} (h : n ≤ 3) : bd n ≤ 17 := by
  match n, h with
  | 0, _ => decide
  | 1, _ => decide
  | 2, _ => decide
  | 3, _ => decide
theorem detI_ln : ∀ (n : Nat) (m : List (List Int)), sqm n m → ent m → ln (detI n m).natAbs ≤ bd n
  | 0, m, h, he => he _ (getD_mem (by have := h.1; omega)) _ (getDi_mem (by have := h.2 _ (getD_mem (m := m) (k := 0) (by have := h.1; omega)); omega))
  | n + 1, m, h, he => by
    have h0 : m.getD 0 [] ∈ m := getD_mem (by have := h.1; omega)
    have := altS_ln (f := fun k => (m.getD 0 []).getD k 0 * detI n (minI k m)) (K := 2 + bd n) (n := n + 2) (fun j hj => by
      have h1 := detI_ln n (minI j m) (minI_ok h hj) (minI_ent he)
      have h2 := he _ h0 _ (getDi_mem (r := m.getD 0 []) (k := j) (by have := h.2 _ h0; omega))
      have := ln_na_mul ((m.getD 0 []).getD j 0) (detI n (minI j m))
      show ln ((m.getD 0 []).getD j 0 * detI n (minI j m)).natAbs ≤ _
      omega) (n + 2) (by omega)
    show ln (altS _ (n + 2)).natAbs ≤ bd n + n + 4
    omega
theorem detS_ln : ∀ (n : Nat) (m : List (List Int)), sqm n m → ent m → ln (detS n m).natAbs ≤ bd n
  | 0, m, h, he => he _ (getD_mem (by have := h.1; omega)) _ (getDi_mem (by have := h.2 _ (getD_mem (m := m) (k := 0) (by have := h.1; omega)); omega))
  | n + 1, m, h, he => by
    have := altS_ln (f := fun k => (m.getD k []).getD 0 0 * detS n (minS k m)) (K := 2 + bd n) (n := n + 2) (fun j hj => by
      have h0 : m.getD j [] ∈ m := getD_mem (by have := h.1; omega)
      have h1 := detS_ln n (minS j m) (minS_ok h hj) (minS_ent he)
      have h2 := he _ h0 _ (getDi_mem (r := m.getD j []) (k := 0) (by have := h.2 _ h0; omega))
      have := ln_na_mul ((m.getD j []).getD 0 0) (detS n (minS j m))
      show ln ((m.getD j []).getD 0 0 * detS n (minS j m)).natAbs ≤ _
      omega) (n + 2) (by omega)
    show ln (altS _ (n + 2)).natAbs ≤ bd n + n + 4
    omega
theorem det_33 (a b c d e f g h i : Int) : detI 2 [[a, b, c], [d, e, f], [g, h, i]] = detS 2 [[a, b, c], [d, e, f], [g, h, i]] := by
  simp [detI, detS, altS, minI, minS, rowK]
  grind
theorem Snd.subBox (s : St) (o : Nat) (d d' : D) (h : s.obj o = some (.box d)) (hs : Sub d d') : Snd s { s with ob := s.ob.set o (some (.box d')) } := by
  intro N F0 M0 w0 hv a w hr
  have hlt := obj_lt h
  have hobj : ∀ o', St.obj { s with ob := s.ob.set o (some (.box d')) } o' = if o' = o then some (.box d') else s.obj o' := by
    intro o'
    have := set_obj (st := s) s.tm o (some (.box d')) o'
    rw [this]
    by_cases e : o' = o
    · simp [e, hlt]
    · simp [e]
  have hF : ∀ k, Fr F0 w0 hv s w k → Fr F0 w0 hv { s with ob := s.ob.set o (some (.box d')) } w k := by
    rintro k (hk | ⟨k1, k2, k3⟩)
    · exact .inl hk
    · refine .inr ⟨k1, k2, fun o' ob hd hl => ?_⟩
      rw [hobj] at hd
      by_cases e : o' = o
      · rw [e]; exact k3 o _ h rfl
      · rw [if_neg e] at hd; exact k3 o' ob hd hl
  refine ⟨hv, ⟨hr.lt0, hr.ltM, hr.bel, fun t => ?_, hr.sz, fun o' ob hd => ?_, fun o' ob b hd hb => ?_, fun o1 o2 b1 b2 k h1 h2 e1 e2 => ?_, hr.df⟩⟩
  · refine (hr.tm t).mono (fun k hk => ⟨hF k hk, rfl⟩) (fun o' _ => ⟨fun _ => rfl, fun hd => ?_, fun sz e xs hrw => ?_⟩)
    · unfold St.box? at hd ⊢
      rw [hobj] at hd
      by_cases e : o' = o
      · rw [e, h]; exact ⟨d, rfl⟩
      · rw [if_neg e] at hd; exact hd
    · unfold St.row? at hrw ⊢
      rw [hobj] at hrw
      by_cases e : o' = o
      · rw [if_pos e] at hrw; cases hrw
      · rw [if_neg e] at hrw; exact ⟨xs, hrw⟩
  · rw [hobj] at hd
    by_cases e : o' = o
    · rw [if_pos e] at hd
      obtain rfl := Option.some.inj hd
      rw [e]
      obtain ⟨b, cs, ty, g1, g2, g3⟩ := hr.ob o _ h
      exact ⟨b, cs, ty, g1, g2, (hs N _ w _ g3).weak hF⟩
    · rw [if_neg e] at hd
      exact (hr.ob o' ob hd).mono (fun k hk => ⟨hF k hk, rfl⟩) (fun _ _ => rfl)
  · rw [hobj] at hd
    by_cases e : o' = o
    · rw [if_pos e] at hd
      obtain rfl := Option.some.inj hd
      rw [e] at hb
      exact hr.own o _ b h hb
    · rw [if_neg e] at hd; exact hr.own o' ob b hd hb
  · have back : ∀ o' ob, St.obj { s with ob := s.ob.set o (some (.box d')) } o' = some ob → ∃ ob', s.obj o' = some ob' := by
      intro o' ob hd
      rw [hobj] at hd
      by_cases e : o' = o
      · rw [e]; exact ⟨_, h⟩
      · rw [if_neg e] at hd; exact ⟨_, hd⟩
    obtain ⟨x1, y1⟩ := back o1 b1 h1
    obtain ⟨x2, y2⟩ := back o2 b2 h2
    exact hr.inj o1 o2 x1 x2 k y1 y2 e1 e2
theorem new_zero : Sub (.agg [.lit (.bool false), .lit (.slice none 0 0)]) (eZ 0) := by
  unfold eZ
  refine Sub.agg rfl (fun i d d' h1 h2 => ?_)
  match i with
  | 0 => simp at h1 h2; subst h1 h2; exact Sub.refl _
  | 1 =>
    simp [eM, eW, mag_zero] at h1 h2
    subst h1 h2
    exact Sub.nil 1
  | i + 2 => simp at h1
def EZn : Enc Int := ⟨fun z => nD (z : Rat), fun a b h => by have := nD_inj h; exact_mod_cast this⟩
def EZp : Enc Int := ⟨fun z => .ptr (eZ z), fun a b h => by
  simp only [D.ptr.injEq] at h
  exact eZ_inj h⟩
def EMn : Enc (List (List Int)) := (EZn.list 3).list 1
def EMp : Enc (List (List Int)) := (EZp.list 1).list 1
def EMi : Enc (List (List Int)) := (EInt.list 1).list 1
theorem rN_e (r : List Int) : (EZn.list 3).e r = .sl 3 (r.map EZn.e) := rfl
theorem rP_e (r : List Int) : (EZp.list 1).e r = .sl 1 (r.map EZp.e) := rfl
theorem rI_e (r : List Int) : (EInt.list 1).e r = .sl 1 (r.map EInt.e) := rfl
theorem ix_rows {α : Type} (E : Enc α) (l : List α) (k : Nat) (z : α) (h : k < l.length) : ix (l.map E.e) k = some (E.e (l.getD k z)) := by
  unfold ix
  rw [List.getElem?_map, List.getElem?_eq_getElem h, List.getD_eq_getElem?_getD, List.getElem?_eq_getElem h]; rfl
theorem lsub_map {α : Type} (f : α → D) (l : List α) (a b : Nat) : lsub (l.map f) a b = ((l.take b).drop a).map f := by unfold lsub; rw [List.map_drop, List.map_take]
theorem mxs {n : Nat} (h : n ≤ 100) : n ≤ maxLen := by unfold maxLen; omega
theorem zP (l : List Int) : ∀ y ∈ l.map EZp.e, y.size = 1 := by
  intro y hy
  obtain ⟨z, _, rfl⟩ := List.mem_map.1 hy
  rfl
theorem ent_i64 {m : List (List Int)} (h : ∀ r ∈ m, ∀ z ∈ r, I64 z) : ent m := fun r hr z hz => by
  have := h r hr z hz
  exact ln_i64 (by unfold I64 at this; omega)
theorem SZ_7 {n : Int} (h : ln n.natAbs ≤ 100) : SZ n := by rw [SZ_ln]; omega
theorem qz_7 (n : Int) : qsz (n : Rat) ≤ ln n.natAbs + 1 := by rw [qsz_int]; omega
theorem n_mulnew7 (x y : Int) : iMulC [.ref 0, .dat (.ptr (eZ x)), .dat (.ptr (eZ y))] [.agg [.lit (.bool false), .lit (.slice none 0 0)]] = ((SZ x ∧ SZ y), [.ref 0], [eZ (x * y)]) := iMulC_dd x y .new
theorem n_new7 (a : Int) : newC [.lit (.int .i64 a)] = (I64 a, [.ptr (eZ a)]) := newC_at a
theorem n_sg7 (a : Int) : sgDC [.ptr (eZ a)] = (True, [.lit (.int .i64 a.sign)]) := sgDC_at a
theorem altS_odd {f : Nat → Int} {k : Nat} (h : k % 2 = 1) : altS f (k + 1) = altS f k + -(f k) := by show _ + (if _ then _ else _) = _; rw [if_pos h]
theorem altS_even {f : Nat → Int} {k : Nat} (h : ¬ k % 2 = 1) : altS f (k + 1) = altS f k + f k := by show _ + (if _ then _ else _) = _; rw [if_neg h]
theorem tmod2 (k : Nat) : (k : Int).tmod 2 = ((k % 2 : Nat) : Int) := by rw [Int.tmod_eq_emod_of_nonneg (by omega)]; omega
noncomputable def idtC (n : Nat) := ct1 EMp (fun m => sqm n m ∧ ent m ∧ n ≤ 3) (fun m => [.ptr (eZ (detI n m))])
theorem idtC_at (n : Nat) (m : List (List Int)) : idtC n [.sl 1 (m.map (EZp.list 1).e)] = ((sqm n m ∧ ent m ∧ n ≤ 3), [.ptr (eZ (detI n m))]) := ct1_at (A := EMp) m
def rsI (k : Nat) (ms : List (List Int)) (t : Nat) : List D := ((ms.take t).map (rowK k)).map (EZp.list 1).e
theorem rsI_succ {k t : Nat} {ms : List (List Int)} (h : t < ms.length) : rsI k ms (t + 1) = rsI k ms t ++ [(EZp.list 1).e (rowK k (ms.getD t []))] := by
  have e : ms.take (t + 1) = ms.take t ++ [ms.getD t []] := by
    rw [List.take_add_one, List.getElem?_eq_getElem h, List.getD_eq_getElem?_getD, List.getElem?_eq_getElem h]; rfl
  unfold rsI
  rw [e, List.map_append, List.map_append]
  rfl
theorem rsI_len {k t : Nat} {ms : List (List Int)} (h : t ≤ ms.length) : (rsI k ms t).length = t := by unfold rsI; simp; omega
theorem rsI_all {k : Nat} {r : List Int} {ms : List (List Int)} : rsI k ms ms.length = (minI k (r :: ms)).map (EZp.list 1).e := by unfold rsI minI; rw [List.take_length]; rfl
def dtI (r : List Int) (ms : List (List Int)) (s : Int) (k : Nat) : St := ⟨[.dat (.sl 1 ((EZp.list 1).e r :: ms.map (EZp.list 1).e)), .any, .dat (.lit (.pointer none)), .obj 17 [] 0, .any, .any, .any, .any, .any, .any, .any, .any, .any, .any, .any, .any, .any, .any, .any, .dat (.lit (.int .i64 ((ms.length : Int) + 1))), .dat (.lit (.int .i64 k)), .any, .any, .any, .any, .any, .any, .any, .any, .any, .any, .any, .any, .any, .any, .any, .any, .any, .any, .any, .any, .any, .any, .any, .any, .any, .any, .any, .any, .any, .any, .any, .any, .any, .any, .any, .any, .any, .any, .any, .any, .any, .any, .any, .any, .any, .any], [none, none, none, none, none, none, none, none, none, none, none, none, none, none, none, none, none, some (.box (eZ s)), none, none, none, none, none, none, none, none, none, none, none, none, none, none, none, none, none, none, none, none, none, none, none, none, none, none, none, none, none, none, none, none, none, none, none, none, none, none, none, none, none, none, none, none, none, none, none, none, none]⟩
def dtJ (r : List Int) (ms : List (List Int)) (s : Int) (k : Nat) (rs : List D) (t : Nat) : St := ⟨[.dat (.sl 1 ((EZp.list 1).e r :: ms.map (EZp.list 1).e)), .any, .dat (.lit (.pointer none)), .obj 17 [] 0, .dat (.lit (.int .i64 k)), .row 23, .any, .any, .any, .any, .any, .any, .any, .any, .any, .any, .any, .any, .any, .dat (.lit (.int .i64 ((ms.length : Int) + 1))), .dat (.lit (.int .i64 k)), .any, .any, .any, .any, .dat (.sl 1 (ms.map (EZp.list 1).e)), .dat (.lit (.int .i64 ms.length)), .dat (.lit (.int .i64 t)), .any, .any, .any, .any, .any, .any, .any, .any, .any, .any, .any, .any, .any, .any, .any, .any, .any, .any, .any, .any, .any, .any, .any, .any, .any, .any, .any, .any, .any, .any, .any, .any, .any, .any, .any, .any, .any, .any, .any], [none, none, none, none, none, none, none, none, none, none, none, none, none, none, none, none, none, some (.box (eZ s)), none, none, none, none, none, some (.row 1 133 rs), none, none, none, none, none, none, none, none, none, none, none, none, none, none, none, none, none, none, none, none, none, none, none, none, none, none, none, none, none, none, none, none, none, none, none, none, none, none, none, none, none, none, none]⟩
def dtK (r : List Int) (ms : List (List Int)) (s : Int) (k : Nat) (rs : List D) (t : Nat) : St := ⟨[.dat (.sl 1 ((EZp.list 1).e r :: ms.map (EZp.list 1).e)), .any, .dat (.lit (.pointer none)), .obj 17 [] 0, .dat (.lit (.int .i64 k)), .dat (.sl 1 rs), .any, .any, .any, .any, .any, .any, .any, .any, .any, .any, .any, .any, .any, .dat (.lit (.int .i64 ((ms.length : Int) + 1))), .dat (.lit (.int .i64 k)), .any, .any, .any, .any, .dat (.sl 1 (ms.map (EZp.list 1).e)), .dat (.lit (.int .i64 ms.length)), .dat (.lit (.int .i64 t)), .any, .any, .any, .any, .any, .any, .any, .any, .any, .any, .any, .any, .any, .any, .any, .any, .any, .any, .any, .any, .any, .any, .any, .any, .any, .any, .any, .any, .any, .any, .any, .any, .any, .any, .any, .any, .any, .any, .any], [none, none, none, none, none, none, none, none, none, none, none, none, none, none, none, none, none, some (.box (eZ s)), none, none, none, none, none, none, none, none, none, none, none, none, none, none, none, none, none, none, none, none, none, none, none, none, none, none, none, none, none, none, none, none, none, none, none, none, none, none, none, none, none, none, none, none, none, none, none, none, none]⟩
noncomputable def idtTb (n : Nat) : List (FuncId × Ct) := [(93, .data (idtC n)), (112, .mut [true, false, false] iMulC), (119, .mut [true, false] ngC), (120, .mut [true, false, false] iAddC)]
@[simp] theorem idtTb1 (n : Nat) : tbl (idtTb n) 93 = some (.data (idtC n)) := rfl
@[simp] theorem idtTb2 (n : Nat) : tbl (idtTb n) 112 = some (.mut [true, false, false] iMulC) := rfl
@[simp] theorem idtTb3 (n : Nat) : tbl (idtTb n) 119 = some (.mut [true, false] ngC) := rfl
@[simp] theorem idtTb4 (n : Nat) : tbl (idtTb n) 120 = some (.mut [true, false, false] iAddC) := rfl
theorem det_ok : callable Try.prog 93 = true := by kernel_rfl
def idtMf : FuncId → Bool := fun f => f == 112 || f == 119 || f == 120 || f == bld 132 || f == cel 32 || f == cel 36
attribute [simp] idtMf
set_option maxRecDepth 100000 in
set_option maxHeartbeats 4000000 in
theorem det_spec {N : NR} : ∀ n, SpecD N Try.prog 93 (idtC n)
  | 0 => by
    refine rd1 (mf := idtMf) (tb := tbl []) tbl_nil (fn := Try.f93) (by kernel_rfl) rfl (by kernel_rfl) (by kernel_rfl) ?_
    rintro m hp
    obtain ⟨hm, he, _⟩ : sqm 0 m ∧ ent m ∧ 0 ≤ 3 := hp
    obtain ⟨r, rfl⟩ : ∃ r, m = [r] := by
      have := hm.1
      match m, this with
      | [r], _ => exact ⟨r, rfl⟩
    obtain ⟨a, rfl⟩ : ∃ a, r = [a] := by
      have := hm.2 r (by simp)
      match r, this with
      | [a], _ => exact ⟨a, rfl⟩
    show awp _ _ _ _ (start _ ([D.sl 1 [.sl 1 [.ptr (eZ a)]]].map .dat) []) (endK _ _ _ ([D.ptr (eZ a)].map .dat) [])
    simp [-D.isLit, Try.f93, ix]
  | n + 1 => by
    refine rd1 (mf := idtMf) (tb := tbl (idtTb n)) (tbl_cons (c := .data (idtC n)) (det_spec n) det_ok (tbl_cons (c := .mut [true, false, false] iMulC) Mul_spec Mul_ok (tbl_cons (c := .mut [true, false] ngC) Neg_spec Neg_ok (tbl_cons (c := .mut [true, false, false] iAddC) Add_spec Add_ok tbl_nil)))) (fn := Try.f93) (by kernel_rfl) rfl (by kernel_rfl) (by kernel_rfl) ?_
    rintro m hp
    obtain ⟨hm, he, hn3⟩ : sqm (n + 1) m ∧ ent m ∧ n + 1 ≤ 3 := hp
    generalize hr : detI (n + 1) m = res
    obtain ⟨r, ms, rfl⟩ : ∃ r ms, m = r :: ms := by
      have := hm.1
      match m, this with
      | r :: ms, _ => exact ⟨r, ms, rfl⟩
    have hms : ms.length = n + 1 := by have := hm.1; simpa using this
    have hrl : r.length = n + 2 := hm.2 r (by simp)
    have hbd := bd_le (n := n) (by omega)
    obtain ⟨f, hf⟩ : ∃ f : Nat → Int, f = fun k => r.getD k 0 * detI n (minI k (r :: ms)) := ⟨_, rfl⟩
    have hres : altS f (n + 2) = res := by rw [← hr, hf]; rfl
    have hfl : ∀ j, j < n + 2 → ln (f j).natAbs ≤ 19 := fun j hj => by
      have h1 := detI_ln n (minI j (r :: ms)) (minI_ok hm hj) (minI_ent he)
      have h2 := he r (by simp) _ (getDi_mem (r := r) (k := j) (by omega))
      have := ln_na_mul (r.getD j 0) (detI n (minI j (r :: ms)))
      rw [hf]
      show ln (r.getD j 0 * detI n (minI j (r :: ms))).natAbs ≤ _
      omega
    show awp _ _ _ _ (start _ ([D.sl 1 ((EZp.list 1).e r :: ms.map (EZp.list 1).e)].map .dat) []) (endK _ _ _ ([D.ptr (eZ res)].map .dat) [])
    simp only [Try.f93]
    have h1 : ¬ ((ms.length : Int) + 1 = 1) := by omega
    have h1' : ¬ ms = [] := fun e => by rw [e] at hms; simp at hms
    simp [-D.isLit, h1, h1']
    refine loop_go (fun n' st => ∃ k, n' = n + 2 - k ∧ k ≤ n + 2 ∧ st = dtI r ms (altS f k) k) (s0 := dtI r ms 0 0) (n := n + 2) (Snd.trans (Snd.subBox _ 17 _ (eZ 0) (by simp [St.obj]) new_zero) (snd_obs (n := 67) [(17, 17, .box (eZ 0))] rfl (by simp) (by simp [dtI]))) ⟨0, rfl, by omega, rfl⟩ ?_
    rintro n' st ⟨k, hn', hk, rfl⟩ KN hN
    have w2 : IntKind.i64.wrap ((k : Int) + 1) = (k : Int) + 1 := i64_id _ (by omega) (by omega)
    by_cases hkl : k < n + 2
    · have q0 : (k : Int) < (ms.length : Int) + 1 := by omega
      have e1 : lsub ((EZp.list 1).e r :: ms.map (EZp.list 1).e) 1 (ms.length + 1) = ms.map (EZp.list 1).e := by
        rw [← List.map_cons, lsub_map]; simp
      have q01 : (1 : Int) ≤ (ms.length : Int) + 1 := by omega
      simp [-D.isLit, dtI, q0, q01, e1]
      refine loop_go (fun n' st => ∃ t, n' = ms.length - t ∧ t ≤ ms.length ∧ ((t < ms.length ∧ st = dtJ r ms (altS f k) k (rsI k ms t) t) ∨ (t = ms.length ∧ st = dtK r ms (altS f k) k (rsI k ms t) t))) (s0 := dtJ r ms (altS f k) k [] 0) (n := ms.length) (snd_obs (n := 67) [(17, 17, .box (eZ (altS f k))), (23, 23, .row 1 133 [])] rfl (by simp) (by simp [dtJ])) ⟨0, rfl, by omega, .inl ⟨by omega, rfl⟩⟩ ?_
      rintro n'' st' ⟨t, hn'', ht, hst⟩ KM hM
      rcases hst with ⟨htl, rfl⟩ | ⟨rfl, rfl⟩
      · have q1 : (t : Int) < (ms.length : Int) := by omega
        obtain ⟨rt, hrt⟩ : ∃ rt, rt = ms.getD t [] := ⟨_, rfl⟩
        have hrtl : rt.length = n + 2 := by rw [hrt]; exact hm.2 _ (List.mem_cons_of_mem _ (getD_mem htl))
        have x1 : ix (ms.map (EZp.list 1).e) t = some (.sl 1 (rt.map EZp.e)) := by rw [ix_rows _ _ _ [] htl, ← hrt, rP_e]
        have q2 : (k : Int) ≤ (rt.length : Int) := by omega
        have q3 : (k : Int) + 1 ≤ (rt.length : Int) := by omega
        have q4 : (0 : Int) ≤ (k : Int) + 1 := by omega
        have tn : ((k : Int) + 1).toNat = k + 1 := by omega
        have w3 : IntKind.i64.wrap ((t : Int) + 1) = (t : Int) + 1 := i64_id _ (by omega) (by omega)
        obtain ⟨A1, hA1⟩ : ∃ A1, A1 = lsub (rt.map EZp.e) 0 k := ⟨_, rfl⟩
        obtain ⟨A2, hA2⟩ : ∃ A2, A2 = lsub (rt.map EZp.e) (k + 1) rt.length := ⟨_, rfl⟩
        have l1 : A1.length ≤ n + 2 := by rw [hA1, lsub_map]; simp; omega
        have l2 : A2.length ≤ n + 2 := by rw [hA2, lsub_map]; simp; omega
        have zA1 : (∀ y ∈ A1, y.size = 1) = True := eq_true (by rw [hA1, lsub_map]; exact zP _)
        have zA2 : (∀ y ∈ A2, y.size = 1) = True := eq_true (by rw [hA2, lsub_map]; exact zP _)
        have eA : D.sl 1 (A1 ++ A2) = (EZp.list 1).e (rowK k rt) := by
          rw [rP_e, hA1, hA2, lsub_map, lsub_map]
          unfold rowK
          rw [List.map_append]
          simp
        obtain ⟨RS, hRS⟩ : ∃ RS, RS = rsI k ms t := ⟨_, rfl⟩
        have l3 : RS.length = t := by rw [hRS, rsI_len ht]
        have b1 : A1.length ≤ maxLen := mxs (by omega)
        have b2 : A1.length + A2.length ≤ maxLen := mxs (by omega)
        have b3 : A1.length * 8 ≤ 140737488355328 := by omega
        have b4 : (A1.length + A2.length) * 8 ≤ 140737488355328 := by omega
        have b5 : RS.length + 1 ≤ maxLen := mxs (by omega)
        have b6 : (RS.length + 1) * 24 ≤ 140737488355328 := by omega
        have eRS : rsI k ms (t + 1) = RS ++ [.sl 1 (A1 ++ A2)] := by rw [rsI_succ htl, ← hRS, ← hrt, eA]
        rw [← hRS]
        by_cases hlast : t + 1 < ms.length
        · simp [-D.isLit, dtJ, q1, x1, q2, q3, q4, tn, w2, w3, ← hA1, ← hA2, zA1, zA2, b1, b2, b3, b4, b5, b6]
          exact hM _ (nx (m := ms.length - (t + 1)) (s'' := dtJ r ms (altS f k) k (rsI k ms (t + 1)) (t + 1)) (snd_obs (n := 67) [(17, 17, .box (eZ (altS f k))), (23, 43, .row 1 133 (rsI k ms (t + 1)))] rfl (by simp [eRS]) (by simp [dtJ])) ⟨t + 1, rfl, by omega, .inl ⟨hlast, rfl⟩⟩ (by omega))
        · simp [-D.isLit, dtJ, q1, x1, q2, q3, q4, tn, w2, w3, ← hA1, ← hA2, zA1, zA2, b1, b2, b3, b4, b5, b6]
          exact hM _ (nx (m := ms.length - (t + 1)) (s'' := dtK r ms (altS f k) k (rsI k ms (t + 1)) (t + 1)) (Snd.trans (Snd.toData _ 5 43 (.sl 1 (rsI k ms (t + 1))) (by simp [St.get, eRS]) (by simp [St.mayFreeze, St.obj])) (snd_obs (n := 67) [(17, 17, .box (eZ (altS f k)))] rfl (by simp [St.frz]) (by simp [dtK, St.frz]))) ⟨t + 1, rfl, by omega, .inr ⟨by omega, rfl⟩⟩ (by omega))
      · obtain ⟨v, hv⟩ : ∃ v, v = r.getD k 0 := ⟨_, rfl⟩
        obtain ⟨dk, hdk⟩ : ∃ dk, dk = detI n (minI k (r :: ms)) := ⟨_, rfl⟩
        have x2 : ix ((EZp.list 1).e r :: ms.map (EZp.list 1).e) 0 = some (.sl 1 (r.map EZp.e)) := rfl
        have x3 : ix (r.map EZp.e) k = some (.ptr (eZ v)) := by rw [ix_rows _ _ _ 0 (by omega), ← hv]; rfl
        have q5 : (k : Int) < (r.length : Int) := by omega
        have c1 := idtC_at n (minI k (r :: ms))
        rw [← rsI_all, eq_true (show sqm n (minI k (r :: ms)) ∧ ent (minI k (r :: ms)) ∧ n ≤ 3 from ⟨minI_ok hm hkl, minI_ent he, by omega⟩), ← hdk] at c1
        have hfk : f k = v * dk := by rw [hf, hv, hdk]
        have hfk' := hfl k hkl
        have hsl := altS_ln hfl k (by omega)
        have z1 : SZ v := SZ_7 (by rw [hv]; have := he r (by simp) _ (getDi_mem (r := r) (k := k) (by omega)); omega)
        have z2 : SZ dk := SZ_7 (by rw [hdk]; have := detI_ln n _ (minI_ok hm hkl) (minI_ent he); omega)
        have z3 : SZ (v * dk) := SZ_7 (by rw [← hfk]; omega)
        have z4 : SZ (altS f k) := SZ_7 (by omega)
        have z5 : SZ (-(v * dk)) := SZ_7 (by rw [Int.natAbs_neg, ← hfk]; omega)
        have tm := tmod2 k
        obtain ⟨s, hs⟩ : ∃ s, s = altS f k := ⟨_, rfl⟩
        rw [← hs] at z4 ⊢
        by_cases hpar : k % 2 = 1
        · have tm1 : (k : Int).tmod 2 = 1 := by rw [tm, hpar]; rfl
          have es : altS f (k + 1) = s + -(v * dk) := by rw [altS_odd hpar, hfk, hs]
          simp [-D.isLit, dtK, x2, x3, q5, c1, tm1, w2, n_mulnew7, ngC_r, iAddC_zd, z1, z2, z3, z4, z5]
          exact hN _ (nx (m := n + 2 - (k + 1)) (s'' := dtI r ms (altS f (k + 1)) (k + 1)) (snd_obs (n := 67) [(17, 17, .box (eZ (altS f (k + 1))))] rfl (by simp [es]) (by simp [dtI])) ⟨k + 1, rfl, by omega, rfl⟩ (by omega))
        · have tm0 : (k : Int).tmod 2 = 0 := by rw [tm]; omega
          have es : altS f (k + 1) = s + v * dk := by rw [altS_even hpar, hfk, hs]
          simp [-D.isLit, dtK, x2, x3, q5, c1, tm0, w2, n_mulnew7, iAddC_zd, z1, z2, z3, z4]
          exact hN _ (nx (m := n + 2 - (k + 1)) (s'' := dtI r ms (altS f (k + 1)) (k + 1)) (snd_obs (n := 67) [(17, 17, .box (eZ (altS f (k + 1))))] rfl (by simp [es]) (by simp [dtI])) ⟨k + 1, rfl, by omega, rfl⟩ (by omega))
    · have hkn : k = n + 2 := by omega
      subst hkn
      rw [hres]
      have q0 : ¬ (((n + 2 : Nat) : Int) < (ms.length : Int) + 1) := by omega
      have q0' : ¬ ((n : Int) + 2 < (ms.length : Int) + 1) := by omega
      simp [-D.isLit, dtI, q0, q0']
end Go.Proofs.Ytcgolmopbnhgeaa.Ae
