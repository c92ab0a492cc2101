/- Texts put together, in the order in which they build: T2, T3, T4, T5, Q2, T6, T30, T31, T61, T62, T63, T64. No condition. -/
import Derived.Test.YtcgolmopbnhgeaaZ5
set_option linter.unusedVariables false
set_option linter.unusedSimpArgs false
/-! impl: places of the plane; VOk, pv, cmp, sub, cross, turn. No condition. -/
namespace Go.Proofs.Ytcgolmopbnhgeaa.Ae
open Go Go.RowKit Go.Proofs.Ytcgolmopbnhgeaa.Dig
def crossQ (a b c d : Rat) : Rat := a * d - b * c
def turnQ (a b c d e f : Rat) : Rat := crossQ (c - a) (d - b) (e - a) (f - b)
/-- How two places compare. -/
def pcmp (a b c d : Rat) : Int := if qcmp a c = 0 then qcmp b d else qcmp a c
theorem qcmp_bd (a b : Rat) : -1 ≤ qcmp a b ∧ qcmp a b ≤ 1 := sign_bd _
theorem pcmp_bd (a b c d : Rat) : -1 ≤ pcmp a b c d ∧ pcmp a b c d ≤ 1 := by unfold pcmp; split <;> exact qcmp_bd _ _
theorem sub_lit {x y : Int} (h : x = y) : Sub (.lit (.int .i64 x)) (.lit (.int .i64 y)) := by rw [h]; exact Sub.refl _

/-! i.VOk -/
noncomputable def iVOkC := ct1 EV (fun p0 => ((I64 p0.1.1 ∧ I64 p0.1.2) ∧ I64 p0.2.1 ∧ I64 p0.2.2)) (fun p0 => [.lit (.bool (decide (qOk p0.1.1 p0.1.2) && decide (qOk p0.2.1 p0.2.2)))])
@[simp] theorem iVOkC_at (a b c d : Int) : iVOkC [.agg [eQ a b, eQ c d]] = (((I64 a ∧ I64 b) ∧ I64 c ∧ I64 d), [.lit (.bool (decide (qOk a b) && decide (qOk c d)))]) := ct1_at ((a, b), c, d)
/-! i.pv -/
noncomputable def pvC := ct1 EV (fun p0 => QI p0.1.1 p0.1.2 ∧ QI p0.2.1 p0.2.2) (fun p0 => [.agg [eRat (Rat.divInt p0.1.1 p0.1.2), eRat (Rat.divInt p0.2.1 p0.2.2)]])
@[simp] theorem pvC_at (a b c d : Int) : pvC [.agg [eQ a b, eQ c d]] = (QI a b ∧ QI c d, [.agg [eRat (Rat.divInt a b), eRat (Rat.divInt c d)]]) := ct1_at ((a, b), c, d)
noncomputable def pvTb : List (FuncId × Ct) := [(32, .data rqC)]
theorem pvTb_ok {N : NR} : TbOK N Try.prog (tbl pvTb) := tbl_cons (c := .data rqC) rq_spec rq_ok tbl_nil

@[simp] theorem pvTb1 : tbl pvTb 32 = some (.data rqC) := rfl
/-! (i.pt).cmp -/
noncomputable def ptcmpC := ct2 EP EP (fun p0 p1 => qsz p0.1 + qsz p0.2 + qsz p1.1 + qsz p1.2 < LM) (fun p0 p1 => [.lit (.int .i64 (pcmp p0.1 p0.2 p1.1 p1.2))])
@[simp] theorem ptcmpC_at (a b : Rat) (c d : Rat) : ptcmpC [.agg [eRat a, eRat b], .agg [eRat c, eRat d]] = (qsz a + qsz b + qsz c + qsz d < LM, [.lit (.int .i64 (pcmp a b c d))]) := ct2_at (a, b) (c, d)
/-! (i.pt).sub -/
noncomputable def ptsubC := ct2 EP EP (fun p0 p1 => qsz p0.1 + qsz p0.2 + qsz p1.1 + qsz p1.2 < LM) (fun p0 p1 => [.agg [eRat (p0.1 - p1.1), eRat (p0.2 - p1.2)]])
@[simp] theorem ptsubC_at (a b : Rat) (c d : Rat) : ptsubC [.agg [eRat a, eRat b], .agg [eRat c, eRat d]] = (qsz a + qsz b + qsz c + qsz d < LM, [.agg [eRat (a - c), eRat (b - d)]]) := ct2_at (a, b) (c, d)
/-! i.cross -/
noncomputable def crsC := ct2 EP EP (fun p0 p1 => qsz p0.1 + qsz p0.2 + qsz p1.1 + qsz p1.2 < LM) (fun p0 p1 => [eRat (crossQ p0.1 p0.2 p1.1 p1.2)])
@[simp] theorem crsC_at (a b : Rat) (c d : Rat) : crsC [.agg [eRat a, eRat b], .agg [eRat c, eRat d]] = (qsz a + qsz b + qsz c + qsz d < LM, [eRat (crossQ a b c d)]) := ct2_at (a, b) (c, d)
noncomputable def crsTb : List (FuncId × Ct) := [(33, .data rmC)]
theorem crsTb_ok {N : NR} : TbOK N Try.prog (tbl crsTb) := tbl_cons (c := .data rmC) rmul_spec rmul_ok tbl_nil

@[simp] theorem crsTb2 : tbl crsTb 33 = some (.data rmC) := rfl
/-! i.turn -/
noncomputable def trnC := ct3 EP EP EP (fun p0 p1 p2 => qsz p0.1 + qsz p0.2 + qsz p1.1 + qsz p1.2 + qsz p2.1 + qsz p2.2 < 100000000) (fun p0 p1 p2 => [.lit (.int .i64 (turnQ p0.1 p0.2 p1.1 p1.2 p2.1 p2.2).num.sign)])
@[simp] theorem trnC_at (a b : Rat) (c d : Rat) (e f : Rat) : trnC [.agg [eRat a, eRat b], .agg [eRat c, eRat d], .agg [eRat e, eRat f]] = (qsz a + qsz b + qsz c + qsz d + qsz e + qsz f < 100000000, [.lit (.int .i64 (turnQ a b c d e f).num.sign)]) := ct3_at (a, b) (c, d) (e, f)
end Go.Proofs.Ytcgolmopbnhgeaa.Ae

/-! The laws CmpV and Turn: both sides.  No condition. -/
namespace Go.Proofs.Ytcgolmopbnhgeaa.Ae
open Go Go.RowKit Go.Proofs.Ytcgolmopbnhgeaa.Dig

/-! i.CmpV -/
noncomputable def iCmpVC := ct2 EV EV (fun p0 p1 => ((I64 p0.1.1 ∧ I64 p0.1.2) ∧ I64 p0.2.1 ∧ I64 p0.2.2) ∧ ((I64 p1.1.1 ∧ I64 p1.1.2) ∧ I64 p1.2.1 ∧ I64 p1.2.2)) (fun p0 p1 => [.lit (.int .i64 (if (qOk p0.1.1 p0.1.2 ∧ qOk p0.2.1 p0.2.2) ∧ (qOk p1.1.1 p1.1.2 ∧ qOk p1.2.1 p1.2.2) then pcmp (Rat.divInt p0.1.1 p0.1.2) (Rat.divInt p0.2.1 p0.2.2) (Rat.divInt p1.1.1 p1.1.2) (Rat.divInt p1.2.1 p1.2.2) else 2))])
@[simp] theorem iCmpVC_at (a b c d : Int) (e f g h : Int) : iCmpVC [.agg [eQ a b, eQ c d], .agg [eQ e f, eQ g h]] = (((I64 a ∧ I64 b) ∧ I64 c ∧ I64 d) ∧ ((I64 e ∧ I64 f) ∧ I64 g ∧ I64 h), [.lit (.int .i64 (if (qOk a b ∧ qOk c d) ∧ (qOk e f ∧ qOk g h) then pcmp (Rat.divInt a b) (Rat.divInt c d) (Rat.divInt e f) (Rat.divInt g h) else 2))]) := ct2_at ((a, b), c, d) ((e, f), g, h)
/-! i.Turn -/
noncomputable def iTurnC := ct3 EV EV EV (fun p0 p1 p2 => ((I64 p0.1.1 ∧ I64 p0.1.2) ∧ I64 p0.2.1 ∧ I64 p0.2.2) ∧ ((I64 p1.1.1 ∧ I64 p1.1.2) ∧ I64 p1.2.1 ∧ I64 p1.2.2) ∧ ((I64 p2.1.1 ∧ I64 p2.1.2) ∧ I64 p2.2.1 ∧ I64 p2.2.2)) (fun p0 p1 p2 => [.lit (.int .i64 (if (qOk p0.1.1 p0.1.2 ∧ qOk p0.2.1 p0.2.2) ∧ (qOk p1.1.1 p1.1.2 ∧ qOk p1.2.1 p1.2.2) ∧ (qOk p2.1.1 p2.1.2 ∧ qOk p2.2.1 p2.2.2) then (turnQ (Rat.divInt p0.1.1 p0.1.2) (Rat.divInt p0.2.1 p0.2.2) (Rat.divInt p1.1.1 p1.1.2) (Rat.divInt p1.2.1 p1.2.2) (Rat.divInt p2.1.1 p2.1.2) (Rat.divInt p2.2.1 p2.2.2)).num.sign else 2))])
@[simp] theorem iTurnC_at (a b c d : Int) (e f g h : Int) (i j k l : Int) : iTurnC [.agg [eQ a b, eQ c d], .agg [eQ e f, eQ g h], .agg [eQ i j, eQ k l]] = (((I64 a ∧ I64 b) ∧ I64 c ∧ I64 d) ∧ ((I64 e ∧ I64 f) ∧ I64 g ∧ I64 h) ∧ ((I64 i ∧ I64 j) ∧ I64 k ∧ I64 l), [.lit (.int .i64 (if (qOk a b ∧ qOk c d) ∧ (qOk e f ∧ qOk g h) ∧ (qOk i j ∧ qOk k l) then (turnQ (Rat.divInt a b) (Rat.divInt c d) (Rat.divInt e f) (Rat.divInt g h) (Rat.divInt i j) (Rat.divInt k l)).num.sign else 2))]) := ct3_at ((a, b), c, d) ((e, f), g, h) ((i, j), k, l)
/-! s.VOk -/
noncomputable def sVOkC := ct1 EV (fun p0 => ((I64 p0.1.1 ∧ I64 p0.1.2) ∧ I64 p0.2.1 ∧ I64 p0.2.2)) (fun p0 => [.lit (.bool (decide (qOk p0.1.1 p0.1.2) && decide (qOk p0.2.1 p0.2.2)))])
@[simp] theorem sVOkC_at (a b c d : Int) : sVOkC [.agg [eQ a b, eQ c d]] = (((I64 a ∧ I64 b) ∧ I64 c ∧ I64 d), [.lit (.bool (decide (qOk a b) && decide (qOk c d)))]) := ct1_at ((a, b), c, d)
noncomputable def sVOkTb : List (FuncId × Ct) := [(26, .data qokC)]
theorem sVOkTb_ok : TbOK NF Try.prog (tbl sVOkTb) := tbl_cons (c := .data qokC) sQOk_spec sQOk_ok tbl_nil

@[simp] theorem sVOkTb1 : tbl sVOkTb 26 = some (.data qokC) := rfl
/-! s.l3p -/
noncomputable def l3pC := ct1 EV (fun p0 => (I64 p0.1.1 ∧ I64 p0.1.2 ∧ 0 < p0.1.2) ∧ I64 p0.2.1 ∧ I64 p0.2.2 ∧ 0 < p0.2.2) (fun p0 => [.agg [nD (Rat.divInt p0.1.1 p0.1.2), nD (Rat.divInt p0.2.1 p0.2.2)]])
@[simp] theorem l3pC_at (a b c d : Int) : l3pC [.agg [eQ a b, eQ c d]] = ((I64 a ∧ I64 b ∧ 0 < b) ∧ I64 c ∧ I64 d ∧ 0 < d, [.agg [nD (Rat.divInt a b), nD (Rat.divInt c d)]]) := ct1_at ((a, b), c, d)
/-! s.l3Cmp -/
noncomputable def l3CmpC := ct2 EPn EPn (fun p0 p1 => qsz p0.1 + qsz p0.2 + qsz p1.1 + qsz p1.2 < LM) (fun p0 p1 => [.lit (.int .i64 (pcmp p0.1 p0.2 p1.1 p1.2))])
@[simp] theorem l3CmpC_at (a b : Rat) (c d : Rat) : l3CmpC [.agg [nD a, nD b], .agg [nD c, nD d]] = (qsz a + qsz b + qsz c + qsz d < LM, [.lit (.int .i64 (pcmp a b c d))]) := ct2_at (a, b) (c, d)
/-! s.l3Sub -/
noncomputable def l3SubC := ct2 EPn EPn (fun p0 p1 => qsz p0.1 + qsz p0.2 + qsz p1.1 + qsz p1.2 < LM) (fun p0 p1 => [.agg [nD (p0.1 - p1.1), nD (p0.2 - p1.2)]])
@[simp] theorem l3SubC_at (a b : Rat) (c d : Rat) : l3SubC [.agg [nD a, nD b], .agg [nD c, nD d]] = (qsz a + qsz b + qsz c + qsz d < LM, [.agg [nD (a - c), nD (b - d)]]) := ct2_at (a, b) (c, d)
/-! s.l3Cross -/
noncomputable def l3CrossC := ct2 EPn EPn (fun p0 p1 => qsz p0.1 + qsz p0.2 + qsz p1.1 + qsz p1.2 < LM) (fun p0 p1 => [nD (crossQ p0.1 p0.2 p1.1 p1.2)])
@[simp] theorem l3CrossC_at (a b : Rat) (c d : Rat) : l3CrossC [.agg [nD a, nD b], .agg [nD c, nD d]] = (qsz a + qsz b + qsz c + qsz d < LM, [nD (crossQ a b c d)]) := ct2_at (a, b) (c, d)
noncomputable def l3CrossTb : List (FuncId × Ct) := [(96, .data nMulC)]
theorem l3CrossTb_ok : TbOK NF Try.prog (tbl l3CrossTb) := tbl_cons (c := .data nMulC) nMul_spec l1rMul_ok tbl_nil

@[simp] theorem l3CrossTb2 : tbl l3CrossTb 96 = some (.data nMulC) := rfl
/-! s.l3Turn -/
noncomputable def l3TurnC := ct3 EPn EPn EPn (fun p0 p1 p2 => qsz p0.1 + qsz p0.2 + qsz p1.1 + qsz p1.2 + qsz p2.1 + qsz p2.2 < 100000000) (fun p0 p1 p2 => [.lit (.int .i64 (turnQ p0.1 p0.2 p1.1 p1.2 p2.1 p2.2).num.sign)])
@[simp] theorem l3TurnC_at (a b : Rat) (c d : Rat) (e f : Rat) : l3TurnC [.agg [nD a, nD b], .agg [nD c, nD d], .agg [nD e, nD f]] = (qsz a + qsz b + qsz c + qsz d + qsz e + qsz f < 100000000, [.lit (.int .i64 (turnQ a b c d e f).num.sign)]) := ct3_at (a, b) (c, d) (e, f)
noncomputable def l3TurnTb : List (FuncId × Ct) := [(41, .data nSignC)]
theorem l3TurnTb_ok : TbOK NF Try.prog (tbl l3TurnTb) := tbl_cons (c := .data nSignC) nSign_spec l1rSign_ok tbl_nil

@[simp] theorem l3TurnTb3 : tbl l3TurnTb 41 = some (.data nSignC) := rfl
/-! s.CmpV -/
noncomputable def sCmpVC := ct2 EV EV (fun p0 p1 => ((I64 p0.1.1 ∧ I64 p0.1.2) ∧ I64 p0.2.1 ∧ I64 p0.2.2) ∧ ((I64 p1.1.1 ∧ I64 p1.1.2) ∧ I64 p1.2.1 ∧ I64 p1.2.2)) (fun p0 p1 => [.lit (.int .i64 (if (qOk p0.1.1 p0.1.2 ∧ qOk p0.2.1 p0.2.2) ∧ (qOk p1.1.1 p1.1.2 ∧ qOk p1.2.1 p1.2.2) then pcmp (Rat.divInt p0.1.1 p0.1.2) (Rat.divInt p0.2.1 p0.2.2) (Rat.divInt p1.1.1 p1.1.2) (Rat.divInt p1.2.1 p1.2.2) else 2))])
@[simp] theorem sCmpVC_at (a b c d : Int) (e f g h : Int) : sCmpVC [.agg [eQ a b, eQ c d], .agg [eQ e f, eQ g h]] = (((I64 a ∧ I64 b) ∧ I64 c ∧ I64 d) ∧ ((I64 e ∧ I64 f) ∧ I64 g ∧ I64 h), [.lit (.int .i64 (if (qOk a b ∧ qOk c d) ∧ (qOk e f ∧ qOk g h) then pcmp (Rat.divInt a b) (Rat.divInt c d) (Rat.divInt e f) (Rat.divInt g h) else 2))]) := ct2_at ((a, b), c, d) ((e, f), g, h)
/-! s.Turn -/
noncomputable def sTurnC := ct3 EV EV EV (fun p0 p1 p2 => ((I64 p0.1.1 ∧ I64 p0.1.2) ∧ I64 p0.2.1 ∧ I64 p0.2.2) ∧ ((I64 p1.1.1 ∧ I64 p1.1.2) ∧ I64 p1.2.1 ∧ I64 p1.2.2) ∧ ((I64 p2.1.1 ∧ I64 p2.1.2) ∧ I64 p2.2.1 ∧ I64 p2.2.2)) (fun p0 p1 p2 => [.lit (.int .i64 (if (qOk p0.1.1 p0.1.2 ∧ qOk p0.2.1 p0.2.2) ∧ (qOk p1.1.1 p1.1.2 ∧ qOk p1.2.1 p1.2.2) ∧ (qOk p2.1.1 p2.1.2 ∧ qOk p2.2.1 p2.2.2) then (turnQ (Rat.divInt p0.1.1 p0.1.2) (Rat.divInt p0.2.1 p0.2.2) (Rat.divInt p1.1.1 p1.1.2) (Rat.divInt p1.2.1 p1.2.2) (Rat.divInt p2.1.1 p2.1.2) (Rat.divInt p2.2.1 p2.2.2)).num.sign else 2))])
@[simp] theorem sTurnC_at (a b c d : Int) (e f g h : Int) (i j k l : Int) : sTurnC [.agg [eQ a b, eQ c d], .agg [eQ e f, eQ g h], .agg [eQ i j, eQ k l]] = (((I64 a ∧ I64 b) ∧ I64 c ∧ I64 d) ∧ ((I64 e ∧ I64 f) ∧ I64 g ∧ I64 h) ∧ ((I64 i ∧ I64 j) ∧ I64 k ∧ I64 l), [.lit (.int .i64 (if (qOk a b ∧ qOk c d) ∧ (qOk e f ∧ qOk g h) ∧ (qOk i j ∧ qOk k l) then (turnQ (Rat.divInt a b) (Rat.divInt c d) (Rat.divInt e f) (Rat.divInt g h) (Rat.divInt i j) (Rat.divInt k l)).num.sign else 2))]) := ct3_at ((a, b), c, d) ((e, f), g, h) ((i, j), k, l)
/-! l.toV -/
noncomputable def toVC := ct1 EV (fun p0 => True) (fun p0 => [.agg [eQ p0.1.1 p0.1.2, eQ p0.2.1 p0.2.2]])
@[simp] theorem toVC_at (a b c d : Int) : toVC [.agg [eQ a b, eQ c d]] = (True, [.agg [eQ a b, eQ c d]]) := ct1_at ((a, b), c, d)
noncomputable def toVTb : List (FuncId × Ct) := [(10, .data toQC)]
theorem toVTb_ok {N : NR} : TbOK N Try.prog (tbl toVTb) := tbl_cons (c := .data toQC) toQ_spec toQ_ok tbl_nil

@[simp] theorem toVTb1 : tbl toVTb 10 = some (.data toQC) := rfl
/-! l.FnExactCmpV -/
noncomputable def lwCmpVC := ct2 EV EV (fun p0 p1 => ((I64 p0.1.1 ∧ I64 p0.1.2) ∧ I64 p0.2.1 ∧ I64 p0.2.2) ∧ ((I64 p1.1.1 ∧ I64 p1.1.2) ∧ I64 p1.2.1 ∧ I64 p1.2.2)) (fun p0 p1 => [.lit (.bool true)])
@[simp] theorem lwCmpVC_at (a b c d : Int) (e f g h : Int) : lwCmpVC [.agg [eQ a b, eQ c d], .agg [eQ e f, eQ g h]] = (((I64 a ∧ I64 b) ∧ I64 c ∧ I64 d) ∧ ((I64 e ∧ I64 f) ∧ I64 g ∧ I64 h), [.lit (.bool true)]) := ct2_at ((a, b), c, d) ((e, f), g, h)
/-! l.FnExactTurn -/
noncomputable def lwTurnC := ct3 EV EV EV (fun p0 p1 p2 => ((I64 p0.1.1 ∧ I64 p0.1.2) ∧ I64 p0.2.1 ∧ I64 p0.2.2) ∧ ((I64 p1.1.1 ∧ I64 p1.1.2) ∧ I64 p1.2.1 ∧ I64 p1.2.2) ∧ ((I64 p2.1.1 ∧ I64 p2.1.2) ∧ I64 p2.2.1 ∧ I64 p2.2.2)) (fun p0 p1 p2 => [.lit (.bool true)])
@[simp] theorem lwTurnC_at (a b c d : Int) (e f g h : Int) (i j k l : Int) : lwTurnC [.agg [eQ a b, eQ c d], .agg [eQ e f, eQ g h], .agg [eQ i j, eQ k l]] = (((I64 a ∧ I64 b) ∧ I64 c ∧ I64 d) ∧ ((I64 e ∧ I64 f) ∧ I64 g ∧ I64 h) ∧ ((I64 i ∧ I64 j) ∧ I64 k ∧ I64 l), [.lit (.bool true)]) := ct3_at ((a, b), c, d) ((e, f), g, h) ((i, j), k, l)
end Go.Proofs.Ytcgolmopbnhgeaa.Ae

/-! impl: straight pieces: SegOk, psg, add, times, dot, dir, up, minmax, apart, has, foot, near, dist2, v. No condition. -/
namespace Go.Proofs.Ytcgolmopbnhgeaa.Ae
open Go Go.RowKit Go.Proofs.Ytcgolmopbnhgeaa.Dig
@[simp] theorem flatD_eQ (a b : Int) : flatD (eQ a b) = some [.int .i64 a, .int .i64 b] := rfl
attribute [simp] eqV eqVs
theorem keyLits_struct {P : Program} {d : Nat} {t : TypeId} {fs : Array Field} {cs : List Value} (hu : P.underlying t = some (.struct fs)) (hl : cs.length = P.cellsOf t) (hn : fs.all (·.name != "_") = true) :
    P.keyLits (d + 1) t cs = (fs.toList.mapM fun f => P.keyLits d f.type ((cs.drop f.offset).take (P.cellsOf f.type))).map List.flatten := by
  conv => lhs; unfold Program.keyLits
  rw [hu]
  show (if cs.length = P.cellsOf t ∧ fs.all (·.name != "_") = true then (fs.toList.mapM fun f => P.keyLits d f.type ((cs.drop f.offset).take (P.cellsOf f.type))).map List.flatten else none) = _
  rw [if_pos ⟨hl, hn⟩]
theorem keyLits_i64 {P : Program} {d : Nat} {t : TypeId} {a : Int} (hu : P.underlying t = some (.int .i64)) (h : I64 a) : P.keyLits (d + 1) t [.int .i64 a] = some [.int .i64 a] := by
  have hw : (Lit.int .i64 a).wf = true := by
    unfold I64 at h
    have e1 : IntKind.i64.min = -9223372036854775808 := by decide
    have e2 : IntKind.i64.max = 9223372036854775807 := by decide
    simp only [Lit.wf, e1, e2, Bool.and_eq_true, decide_eq_true_eq]; omega
  unfold Program.keyLits
  rw [hu]
  exact if_pos ⟨rfl, hw⟩
theorem klQ {d : Nat} (a b : Int) (h : I64 a ∧ I64 b) : Try.prog.keyLits (d + 2) 24 [.int .i64 a, .int .i64 b] = some [.int .i64 a, .int .i64 b] := by
  rw [keyLits_struct Try.underlying24 (by simp) (by kernel_rfl)]
  simp [keyLits_i64 Try.underlying2 h.1, keyLits_i64 Try.underlying2 h.2]
def ESg : Enc ((Rat × Rat) × Rat × Rat) := EP.pair EP
def ESeg : Enc (((Int × Int) × Int × Int) × (Int × Int) × Int × Int) := EV.pair EV
@[simp] theorem ESg_e (a b c d : Rat) : ESg.e ((a, b), c, d) = .agg [.agg [eRat a, eRat b], .agg [eRat c, eRat d]] := rfl
@[simp] theorem ESeg_e (a b c d e f g h : Int) : ESeg.e (((a, b), c, d), (e, f), g, h) = .agg [.agg [eQ a b, eQ c d], .agg [eQ e f, eQ g h]] := rfl
theorem sq_nn (a : Rat) : 0 ≤ a * a := by
  by_cases h : 0 ≤ a
  · exact Rat.mul_nonneg h h
  · have : 0 ≤ (-a) * (-a) := Rat.mul_nonneg (by grind) (by grind)
    grind
def segOk (a b c d e f g h : Int) : Prop := ((qOk a b ∧ qOk c d) ∧ qOk e f ∧ qOk g h) ∧ ¬ (a = e ∧ b = f ∧ c = g ∧ d = h)
instance (a b c d e f g h : Int) : Decidable (segOk a b c d e f g h) := by unfold segOk; infer_instance
def dotQ (a b c d : Rat) : Rat := a * c + b * d
def loQ (a b : Rat) : Rat := if 0 < qcmp a b then b else a
def hiQ (a b : Rat) : Rat := if 0 < qcmp a b then a else b
def bapart (a b c d : Rat) : Bool := decide (qcmp (hiQ a b) (loQ c d) < 0) || decide (qcmp (hiQ c d) (loQ a b) < 0)
def hasB (a b c d p q : Rat) : Bool := !bapart a c p p && !bapart b d q q && decide ((turnQ a b c d p q).num.sign = 0)
def footQ (a b c d p q : Rat) : Rat := dotQ (p - a) (q - b) (c - a) (d - b) / dotQ (c - a) (d - b) (c - a) (d - b)
def nearQ (a b c d p q : Rat) : Rat × Rat := if (footQ a b c d p q).num.sign ≤ 0 then (a, b) else if 0 ≤ qcmp (footQ a b c d p q) 1 then (c, d) else (a + (c - a) * footQ a b c d p q, b + (d - b) * footQ a b c d p q)
def dist2Q (a b c d : Rat) : Rat := dotQ (a - c) (b - d) (a - c) (b - d)
theorem loQ_sz (a b : Rat) : qsz (loQ a b) ≤ qsz a + qsz b := by unfold loQ; split <;> omega
theorem hiQ_sz (a b : Rat) : qsz (hiQ a b) ≤ qsz a + qsz b := by unfold hiQ; split <;> omega
theorem dotQ_sz (a b c d : Rat) : qsz (dotQ a b c d) ≤ qsz a + qsz b + qsz c + qsz d + 1 := by unfold dotQ; grind [qsz_add, qsz_mul]
/-- A place's coordinates, if they are moderate. -/
def oV (x y : Rat) : (Int × Int) × (Int × Int) × Bool := if (oq x).2.2 = true ∧ (oq y).2.2 = true then (((oq x).1, (oq x).2.1), ((oq y).1, (oq y).2.1), true) else ((0, 0), (0, 0), false)
def vD (o : (Int × Int) × (Int × Int) × Bool) : List D := [.agg [eQ o.1.1 o.1.2, eQ o.2.1.1 o.2.1.2], .lit (.bool o.2.2)]
theorem sq_pos {a b : Rat} (h : ¬ (a = 0 ∧ b = 0)) : dotQ a b a b ≠ 0 := by
  unfold dotQ
  have h1 : 0 ≤ a * a := sq_nn a
  have h2 : 0 ≤ b * b := sq_nn b
  intro e
  have e1 : a * a = 0 := by grind
  have e2 : b * b = 0 := by grind
  exact h ⟨by rcases Rat.mul_eq_zero.mp e1 with x | x <;> exact x, by rcases Rat.mul_eq_zero.mp e2 with x | x <;> exact x⟩

/-! i.SegOk -/
noncomputable def iSegOkC := ct1 ESeg (fun p0 => (((I64 p0.1.1.1 ∧ I64 p0.1.1.2) ∧ I64 p0.1.2.1 ∧ I64 p0.1.2.2) ∧ ((I64 p0.2.1.1 ∧ I64 p0.2.1.2) ∧ I64 p0.2.2.1 ∧ I64 p0.2.2.2))) (fun p0 => [.lit (.bool (decide (segOk p0.1.1.1 p0.1.1.2 p0.1.2.1 p0.1.2.2 p0.2.1.1 p0.2.1.2 p0.2.2.1 p0.2.2.2)))])
@[simp] theorem iSegOkC_at (a b c d e f g h : Int) : iSegOkC [.agg [.agg [eQ a b, eQ c d], .agg [eQ e f, eQ g h]]] = ((((I64 a ∧ I64 b) ∧ I64 c ∧ I64 d) ∧ ((I64 e ∧ I64 f) ∧ I64 g ∧ I64 h)), [.lit (.bool (decide (segOk a b c d e f g h)))]) := ct1_at (((a, b), c, d), (e, f), g, h)
/-! i.psg -/
noncomputable def psgC := ct1 ESeg (fun p0 => (QI p0.1.1.1 p0.1.1.2 ∧ QI p0.1.2.1 p0.1.2.2) ∧ QI p0.2.1.1 p0.2.1.2 ∧ QI p0.2.2.1 p0.2.2.2) (fun p0 => [.agg [.agg [eRat (Rat.divInt p0.1.1.1 p0.1.1.2), eRat (Rat.divInt p0.1.2.1 p0.1.2.2)], .agg [eRat (Rat.divInt p0.2.1.1 p0.2.1.2), eRat (Rat.divInt p0.2.2.1 p0.2.2.2)]]])
@[simp] theorem psgC_at (a b c d e f g h : Int) : psgC [.agg [.agg [eQ a b, eQ c d], .agg [eQ e f, eQ g h]]] = ((QI a b ∧ QI c d) ∧ QI e f ∧ QI g h, [.agg [.agg [eRat (Rat.divInt a b), eRat (Rat.divInt c d)], .agg [eRat (Rat.divInt e f), eRat (Rat.divInt g h)]]]) := ct1_at (((a, b), c, d), (e, f), g, h)
/-! (i.pt).add -/
noncomputable def ptaddC := ct2 EP EP (fun p0 p1 => qsz p0.1 + qsz p0.2 + qsz p1.1 + qsz p1.2 < LM) (fun p0 p1 => [.agg [eRat (p0.1 + p1.1), eRat (p0.2 + p1.2)]])
@[simp] theorem ptaddC_at (a b : Rat) (c d : Rat) : ptaddC [.agg [eRat a, eRat b], .agg [eRat c, eRat d]] = (qsz a + qsz b + qsz c + qsz d < LM, [.agg [eRat (a + c), eRat (b + d)]]) := ct2_at (a, b) (c, d)
/-! (i.pt).times -/
noncomputable def pttimesC := ct2 EP ERat (fun p0 p1 => qsz p0.1 + qsz p0.2 + qsz p1 < LM) (fun p0 p1 => [.agg [eRat (p0.1 * p1), eRat (p0.2 * p1)]])
@[simp] theorem pttimesC_at (a b : Rat) (c : Rat) : pttimesC [.agg [eRat a, eRat b], eRat c] = (qsz a + qsz b + qsz c < LM, [.agg [eRat (a * c), eRat (b * c)]]) := ct2_at (a, b) c
noncomputable def pttimesTb : List (FuncId × Ct) := [(33, .data rmC)]
theorem pttimesTb_ok {N : NR} : TbOK N Try.prog (tbl pttimesTb) := tbl_cons (c := .data rmC) rmul_spec rmul_ok tbl_nil

@[simp] theorem pttimesTb1 : tbl pttimesTb 33 = some (.data rmC) := rfl
/-! i.dot -/
noncomputable def dotrC := ct2 EP EP (fun p0 p1 => qsz p0.1 + qsz p0.2 + qsz p1.1 + qsz p1.2 < LM) (fun p0 p1 => [eRat (dotQ p0.1 p0.2 p1.1 p1.2)])
@[simp] theorem dotrC_at (a b : Rat) (c d : Rat) : dotrC [.agg [eRat a, eRat b], .agg [eRat c, eRat d]] = (qsz a + qsz b + qsz c + qsz d < LM, [eRat (dotQ a b c d)]) := ct2_at (a, b) (c, d)
noncomputable def dotrTb : List (FuncId × Ct) := [(33, .data rmC)]
theorem dotrTb_ok {N : NR} : TbOK N Try.prog (tbl dotrTb) := tbl_cons (c := .data rmC) rmul_spec rmul_ok tbl_nil

@[simp] theorem dotrTb1 : tbl dotrTb 33 = some (.data rmC) := rfl
/-! (i.sg).dir -/
noncomputable def sgdirC := ct1 ESg (fun p0 => qsz p0.1.1 + qsz p0.1.2 + qsz p0.2.1 + qsz p0.2.2 < LM) (fun p0 => [.agg [eRat (p0.2.1 - p0.1.1), eRat (p0.2.2 - p0.1.2)]])
@[simp] theorem sgdirC_at (a b c d : Rat) : sgdirC [.agg [.agg [eRat a, eRat b], .agg [eRat c, eRat d]]] = (qsz a + qsz b + qsz c + qsz d < LM, [.agg [eRat (c - a), eRat (d - b)]]) := ct1_at ((a, b), c, d)
/-! i.minmax -/
noncomputable def mnmxC := ct2 ERat ERat (fun p0 p1 => qsz p0 + qsz p1 < LM) (fun p0 p1 => [eRat (loQ p0 p1), eRat (hiQ p0 p1)])
@[simp] theorem mnmxC_at (a : Rat) (b : Rat) : mnmxC [eRat a, eRat b] = (qsz a + qsz b < LM, [eRat (loQ a b), eRat (hiQ a b)]) := ct2_at a b
/-! i.apart -/
noncomputable def aprtC := ct4 ERat ERat ERat ERat (fun p0 p1 p2 p3 => qsz p0 + qsz p1 + qsz p2 + qsz p3 < LM) (fun p0 p1 p2 p3 => [.lit (.bool (bapart p0 p1 p2 p3))])
@[simp] theorem aprtC_at (a : Rat) (b : Rat) (c : Rat) (d : Rat) : aprtC [eRat a, eRat b, eRat c, eRat d] = (qsz a + qsz b + qsz c + qsz d < LM, [.lit (.bool (bapart a b c d))]) := ct4_at a b c d
/-! (i.sg).has -/
noncomputable def sghasC := ct2 ESg EP (fun p0 p1 => qsz p0.1.1 + qsz p0.1.2 + qsz p0.2.1 + qsz p0.2.2 + qsz p1.1 + qsz p1.2 < 10000000) (fun p0 p1 => [.lit (.bool (hasB p0.1.1 p0.1.2 p0.2.1 p0.2.2 p1.1 p1.2))])
@[simp] theorem sghasC_at (a b c d : Rat) (e f : Rat) : sghasC [.agg [.agg [eRat a, eRat b], .agg [eRat c, eRat d]], .agg [eRat e, eRat f]] = (qsz a + qsz b + qsz c + qsz d + qsz e + qsz f < 10000000, [.lit (.bool (hasB a b c d e f))]) := ct2_at ((a, b), c, d) (e, f)
/-! (i.sg).foot -/
noncomputable def sgfootC := ct2 ESg EP (fun p0 p1 => qsz p0.1.1 + qsz p0.1.2 + qsz p0.2.1 + qsz p0.2.2 + qsz p1.1 + qsz p1.2 < 10000000 ∧ ¬ (p0.2.1 - p0.1.1 = 0 ∧ p0.2.2 - p0.1.2 = 0)) (fun p0 p1 => [eRat (footQ p0.1.1 p0.1.2 p0.2.1 p0.2.2 p1.1 p1.2)])
@[simp] theorem sgfootC_at (a b c d : Rat) (e f : Rat) : sgfootC [.agg [.agg [eRat a, eRat b], .agg [eRat c, eRat d]], .agg [eRat e, eRat f]] = (qsz a + qsz b + qsz c + qsz d + qsz e + qsz f < 10000000 ∧ ¬ (c - a = 0 ∧ d - b = 0), [eRat (footQ a b c d e f)]) := ct2_at ((a, b), c, d) (e, f)
noncomputable def sgfootTb : List (FuncId × Ct) := [(38, .data rdvC)]
theorem sgfootTb_ok {N : NR} : TbOK N Try.prog (tbl sgfootTb) := tbl_cons (c := .data rdvC) rdiv_spec rdiv_ok tbl_nil

@[simp] theorem sgfootTb4 : tbl sgfootTb 38 = some (.data rdvC) := rfl
theorem footQ_sz {a b c d p q : Rat} (h : ¬ (c - a = 0 ∧ d - b = 0)) : qsz (footQ a b c d p q) ≤ 4 * (qsz a + qsz b + qsz c + qsz d + qsz p + qsz q) + 10 := by
  unfold footQ
  have := qsz_div (a := dotQ (p - a) (q - b) (c - a) (d - b)) (sq_pos h)
  grind [dotQ_sz, qsz_sub]
theorem nearQ_sz {a b c d p q : Rat} (h : ¬ (c - a = 0 ∧ d - b = 0)) : qsz (nearQ a b c d p q).1 + qsz (nearQ a b c d p q).2 ≤ 12 * (qsz a + qsz b + qsz c + qsz d + qsz p + qsz q) + 40 := by
  have := footQ_sz (p := p) (q := q) h
  unfold nearQ
  split
  · show qsz a + qsz b ≤ _; omega
  · split
    · show qsz c + qsz d ≤ _; omega
    · show qsz (a + (c - a) * footQ a b c d p q) + qsz (b + (d - b) * footQ a b c d p q) ≤ _
      grind [qsz_add, qsz_sub, qsz_mul]
theorem one_rat : ((1 : Int) : Rat) = 1 := rfl
theorem qsz_one : qsz 1 = 1 := by decide +kernel

/-! (i.sg).near -/
noncomputable def sgnearC := ct2 ESg EP (fun p0 p1 => qsz p0.1.1 + qsz p0.1.2 + qsz p0.2.1 + qsz p0.2.2 + qsz p1.1 + qsz p1.2 < 1000000 ∧ ¬ (p0.2.1 - p0.1.1 = 0 ∧ p0.2.2 - p0.1.2 = 0)) (fun p0 p1 => [.agg [eRat (nearQ p0.1.1 p0.1.2 p0.2.1 p0.2.2 p1.1 p1.2).1, eRat (nearQ p0.1.1 p0.1.2 p0.2.1 p0.2.2 p1.1 p1.2).2]])
@[simp] theorem sgnearC_at (a b c d : Rat) (e f : Rat) : sgnearC [.agg [.agg [eRat a, eRat b], .agg [eRat c, eRat d]], .agg [eRat e, eRat f]] = (qsz a + qsz b + qsz c + qsz d + qsz e + qsz f < 1000000 ∧ ¬ (c - a = 0 ∧ d - b = 0), [.agg [eRat (nearQ a b c d e f).1, eRat (nearQ a b c d e f).2]]) := ct2_at ((a, b), c, d) (e, f)
noncomputable def sgnearTb : List (FuncId × Ct) := [(34, .data riC)]
theorem sgnearTb_ok {N : NR} : TbOK N Try.prog (tbl sgnearTb) := tbl_cons (c := .data riC) ri_spec ri_ok tbl_nil

@[simp] theorem sgnearTb3 : tbl sgnearTb 34 = some (.data riC) := rfl
/-! i.dist2 -/
noncomputable def dst2C := ct2 EP EP (fun p0 p1 => qsz p0.1 + qsz p0.2 + qsz p1.1 + qsz p1.2 < 100000000) (fun p0 p1 => [eRat (dist2Q p0.1 p0.2 p1.1 p1.2)])
@[simp] theorem dst2C_at (a b : Rat) (c d : Rat) : dst2C [.agg [eRat a, eRat b], .agg [eRat c, eRat d]] = (qsz a + qsz b + qsz c + qsz d < 100000000, [eRat (dist2Q a b c d)]) := ct2_at (a, b) (c, d)
/-! (i.pt).v -/
noncomputable def ptvC := ct1 EP (fun p0 => True) (fun p0 => vD (oV p0.1 p0.2))
@[simp] theorem ptvC_at (a b : Rat) : ptvC [.agg [eRat a, eRat b]] = (True, vD (oV a b)) := ct1_at (a, b)
noncomputable def ptvTb : List (FuncId × Ct) := [(39, .data rqqC)]
theorem ptvTb_ok {N : NR} : TbOK N Try.prog (tbl ptvTb) := tbl_cons (c := .data rqqC) rqq_spec rqq_ok tbl_nil

@[simp] theorem ptvTb1 : tbl ptvTb 39 = some (.data rqqC) := rfl
end Go.Proofs.Ytcgolmopbnhgeaa.Ae

/-! OnSeg, Foot, Near, Dist2: both sides and the laws. No condition. -/
namespace Go.Proofs.Ytcgolmopbnhgeaa.Ae
open Go Go.RowKit Go.Proofs.Ytcgolmopbnhgeaa.Dig
theorem seg_ne {a b c d e f g h : Int} (k : segOk a b c d e f g h) : ¬ (Rat.divInt e f - Rat.divInt a b = 0 ∧ Rat.divInt g h - Rat.divInt c d = 0) := by
  rintro ⟨h1, h2⟩
  obtain ⟨⟨⟨k1, k2⟩, k3, k4⟩, kn⟩ := k
  have e1 : Rat.divInt e f = Rat.divInt a b := by grind
  have e2 : Rat.divInt g h = Rat.divInt c d := by grind
  have x1 := QI_num (qOk_QI k1)
  have x2 := QI_num (qOk_QI k2)
  have x3 := QI_num (qOk_QI k3)
  have x4 := QI_num (qOk_QI k4)
  rw [e1] at x3
  rw [e2] at x4
  exact kn ⟨by rw [← x1.1, ← x3.1], by rw [← x1.2, ← x3.2], by rw [← x2.1, ← x4.1], by rw [← x2.2, ← x4.2]⟩
/-- What holds of a good place and a good piece. -/
structure GV (a b c d : Int) : Prop where
  i : I64 a ∧ I64 b
  j : I64 c ∧ I64 d
  ok : qOk a b ∧ qOk c d
theorem GV.w1 {a b c d : Int} (h : GV a b c d) : QI a b := qOk_QI h.ok.1
theorem GV.w2 {a b c d : Int} (h : GV a b c d) : QI c d := qOk_QI h.ok.2
theorem GV.y1 {a b c d : Int} (h : GV a b c d) : I64 a ∧ I64 b ∧ 0 < b := qOk_64 h.ok.1
theorem GV.y2 {a b c d : Int} (h : GV a b c d) : I64 c ∧ I64 d ∧ 0 < d := qOk_64 h.ok.2
theorem GV.sz {a b c d : Int} (h : GV a b c d) : qsz (Rat.divInt a b) + qsz (Rat.divInt c d) ≤ 4 := by
  have := QI_qsz h.w1
  have := QI_qsz h.w2
  omega
def footP (a b c d p q : Rat) : Rat × Rat := (a + (c - a) * footQ a b c d p q, b + (d - b) * footQ a b c d p q)
def noV : (Int × Int) × (Int × Int) × Bool := ((0, 0), (0, 0), false)

/-! i.OnSeg -/
noncomputable def iOnSegC := ct2 EV ESeg (fun p0 p1 => ((I64 p0.1.1 ∧ I64 p0.1.2) ∧ I64 p0.2.1 ∧ I64 p0.2.2) ∧ (((I64 p1.1.1.1 ∧ I64 p1.1.1.2) ∧ I64 p1.1.2.1 ∧ I64 p1.1.2.2) ∧ ((I64 p1.2.1.1 ∧ I64 p1.2.1.2) ∧ I64 p1.2.2.1 ∧ I64 p1.2.2.2))) (fun p0 p1 => [.lit (.bool (if (qOk p0.1.1 p0.1.2 ∧ qOk p0.2.1 p0.2.2) ∧ segOk p1.1.1.1 p1.1.1.2 p1.1.2.1 p1.1.2.2 p1.2.1.1 p1.2.1.2 p1.2.2.1 p1.2.2.2 then hasB (Rat.divInt p1.1.1.1 p1.1.1.2) (Rat.divInt p1.1.2.1 p1.1.2.2) (Rat.divInt p1.2.1.1 p1.2.1.2) (Rat.divInt p1.2.2.1 p1.2.2.2) (Rat.divInt p0.1.1 p0.1.2) (Rat.divInt p0.2.1 p0.2.2) else false))])
@[simp] theorem iOnSegC_at (a b c d : Int) (e f g h i j k l : Int) : iOnSegC [.agg [eQ a b, eQ c d], .agg [.agg [eQ e f, eQ g h], .agg [eQ i j, eQ k l]]] = (((I64 a ∧ I64 b) ∧ I64 c ∧ I64 d) ∧ (((I64 e ∧ I64 f) ∧ I64 g ∧ I64 h) ∧ ((I64 i ∧ I64 j) ∧ I64 k ∧ I64 l)), [.lit (.bool (if (qOk a b ∧ qOk c d) ∧ segOk e f g h i j k l then hasB (Rat.divInt e f) (Rat.divInt g h) (Rat.divInt i j) (Rat.divInt k l) (Rat.divInt a b) (Rat.divInt c d) else false))]) := ct2_at ((a, b), c, d) (((e, f), g, h), (i, j), k, l)
/-! i.Foot -/
noncomputable def iFootC := ct2 EV ESeg (fun p0 p1 => ((I64 p0.1.1 ∧ I64 p0.1.2) ∧ I64 p0.2.1 ∧ I64 p0.2.2) ∧ (((I64 p1.1.1.1 ∧ I64 p1.1.1.2) ∧ I64 p1.1.2.1 ∧ I64 p1.1.2.2) ∧ ((I64 p1.2.1.1 ∧ I64 p1.2.1.2) ∧ I64 p1.2.2.1 ∧ I64 p1.2.2.2))) (fun p0 p1 => vD (if (qOk p0.1.1 p0.1.2 ∧ qOk p0.2.1 p0.2.2) ∧ segOk p1.1.1.1 p1.1.1.2 p1.1.2.1 p1.1.2.2 p1.2.1.1 p1.2.1.2 p1.2.2.1 p1.2.2.2 then oV (footP (Rat.divInt p1.1.1.1 p1.1.1.2) (Rat.divInt p1.1.2.1 p1.1.2.2) (Rat.divInt p1.2.1.1 p1.2.1.2) (Rat.divInt p1.2.2.1 p1.2.2.2) (Rat.divInt p0.1.1 p0.1.2) (Rat.divInt p0.2.1 p0.2.2)).1 (footP (Rat.divInt p1.1.1.1 p1.1.1.2) (Rat.divInt p1.1.2.1 p1.1.2.2) (Rat.divInt p1.2.1.1 p1.2.1.2) (Rat.divInt p1.2.2.1 p1.2.2.2) (Rat.divInt p0.1.1 p0.1.2) (Rat.divInt p0.2.1 p0.2.2)).2 else noV))
@[simp] theorem iFootC_at (a b c d : Int) (e f g h i j k l : Int) : iFootC [.agg [eQ a b, eQ c d], .agg [.agg [eQ e f, eQ g h], .agg [eQ i j, eQ k l]]] = (((I64 a ∧ I64 b) ∧ I64 c ∧ I64 d) ∧ (((I64 e ∧ I64 f) ∧ I64 g ∧ I64 h) ∧ ((I64 i ∧ I64 j) ∧ I64 k ∧ I64 l)), vD (if (qOk a b ∧ qOk c d) ∧ segOk e f g h i j k l then oV (footP (Rat.divInt e f) (Rat.divInt g h) (Rat.divInt i j) (Rat.divInt k l) (Rat.divInt a b) (Rat.divInt c d)).1 (footP (Rat.divInt e f) (Rat.divInt g h) (Rat.divInt i j) (Rat.divInt k l) (Rat.divInt a b) (Rat.divInt c d)).2 else noV)) := ct2_at ((a, b), c, d) (((e, f), g, h), (i, j), k, l)
/-! i.Near -/
noncomputable def iNearC := ct2 EV ESeg (fun p0 p1 => ((I64 p0.1.1 ∧ I64 p0.1.2) ∧ I64 p0.2.1 ∧ I64 p0.2.2) ∧ (((I64 p1.1.1.1 ∧ I64 p1.1.1.2) ∧ I64 p1.1.2.1 ∧ I64 p1.1.2.2) ∧ ((I64 p1.2.1.1 ∧ I64 p1.2.1.2) ∧ I64 p1.2.2.1 ∧ I64 p1.2.2.2))) (fun p0 p1 => vD (if (qOk p0.1.1 p0.1.2 ∧ qOk p0.2.1 p0.2.2) ∧ segOk p1.1.1.1 p1.1.1.2 p1.1.2.1 p1.1.2.2 p1.2.1.1 p1.2.1.2 p1.2.2.1 p1.2.2.2 then oV (nearQ (Rat.divInt p1.1.1.1 p1.1.1.2) (Rat.divInt p1.1.2.1 p1.1.2.2) (Rat.divInt p1.2.1.1 p1.2.1.2) (Rat.divInt p1.2.2.1 p1.2.2.2) (Rat.divInt p0.1.1 p0.1.2) (Rat.divInt p0.2.1 p0.2.2)).1 (nearQ (Rat.divInt p1.1.1.1 p1.1.1.2) (Rat.divInt p1.1.2.1 p1.1.2.2) (Rat.divInt p1.2.1.1 p1.2.1.2) (Rat.divInt p1.2.2.1 p1.2.2.2) (Rat.divInt p0.1.1 p0.1.2) (Rat.divInt p0.2.1 p0.2.2)).2 else noV))
@[simp] theorem iNearC_at (a b c d : Int) (e f g h i j k l : Int) : iNearC [.agg [eQ a b, eQ c d], .agg [.agg [eQ e f, eQ g h], .agg [eQ i j, eQ k l]]] = (((I64 a ∧ I64 b) ∧ I64 c ∧ I64 d) ∧ (((I64 e ∧ I64 f) ∧ I64 g ∧ I64 h) ∧ ((I64 i ∧ I64 j) ∧ I64 k ∧ I64 l)), vD (if (qOk a b ∧ qOk c d) ∧ segOk e f g h i j k l then oV (nearQ (Rat.divInt e f) (Rat.divInt g h) (Rat.divInt i j) (Rat.divInt k l) (Rat.divInt a b) (Rat.divInt c d)).1 (nearQ (Rat.divInt e f) (Rat.divInt g h) (Rat.divInt i j) (Rat.divInt k l) (Rat.divInt a b) (Rat.divInt c d)).2 else noV)) := ct2_at ((a, b), c, d) (((e, f), g, h), (i, j), k, l)
/-! i.Dist2 -/
noncomputable def iDist2C := ct2 EV ESeg (fun p0 p1 => ((I64 p0.1.1 ∧ I64 p0.1.2) ∧ I64 p0.2.1 ∧ I64 p0.2.2) ∧ (((I64 p1.1.1.1 ∧ I64 p1.1.1.2) ∧ I64 p1.1.2.1 ∧ I64 p1.1.2.2) ∧ ((I64 p1.2.1.1 ∧ I64 p1.2.1.2) ∧ I64 p1.2.2.1 ∧ I64 p1.2.2.2))) (fun p0 p1 => d3 (if (qOk p0.1.1 p0.1.2 ∧ qOk p0.2.1 p0.2.2) ∧ segOk p1.1.1.1 p1.1.1.2 p1.1.2.1 p1.1.2.2 p1.2.1.1 p1.2.1.2 p1.2.2.1 p1.2.2.2 then oq (dist2Q (Rat.divInt p0.1.1 p0.1.2) (Rat.divInt p0.2.1 p0.2.2) (nearQ (Rat.divInt p1.1.1.1 p1.1.1.2) (Rat.divInt p1.1.2.1 p1.1.2.2) (Rat.divInt p1.2.1.1 p1.2.1.2) (Rat.divInt p1.2.2.1 p1.2.2.2) (Rat.divInt p0.1.1 p0.1.2) (Rat.divInt p0.2.1 p0.2.2)).1 (nearQ (Rat.divInt p1.1.1.1 p1.1.1.2) (Rat.divInt p1.1.2.1 p1.1.2.2) (Rat.divInt p1.2.1.1 p1.2.1.2) (Rat.divInt p1.2.2.1 p1.2.2.2) (Rat.divInt p0.1.1 p0.1.2) (Rat.divInt p0.2.1 p0.2.2)).2) else no3))
@[simp] theorem iDist2C_at (a b c d : Int) (e f g h i j k l : Int) : iDist2C [.agg [eQ a b, eQ c d], .agg [.agg [eQ e f, eQ g h], .agg [eQ i j, eQ k l]]] = (((I64 a ∧ I64 b) ∧ I64 c ∧ I64 d) ∧ (((I64 e ∧ I64 f) ∧ I64 g ∧ I64 h) ∧ ((I64 i ∧ I64 j) ∧ I64 k ∧ I64 l)), d3 (if (qOk a b ∧ qOk c d) ∧ segOk e f g h i j k l then oq (dist2Q (Rat.divInt a b) (Rat.divInt c d) (nearQ (Rat.divInt e f) (Rat.divInt g h) (Rat.divInt i j) (Rat.divInt k l) (Rat.divInt a b) (Rat.divInt c d)).1 (nearQ (Rat.divInt e f) (Rat.divInt g h) (Rat.divInt i j) (Rat.divInt k l) (Rat.divInt a b) (Rat.divInt c d)).2) else no3)) := ct2_at ((a, b), c, d) (((e, f), g, h), (i, j), k, l)
noncomputable def iDist2Tb : List (FuncId × Ct) := [(39, .data rqqC)]
theorem iDist2Tb_ok {N : NR} : TbOK N Try.prog (tbl iDist2Tb) := tbl_cons (c := .data rqqC) rqq_spec rqq_ok tbl_nil

@[simp] theorem iDist2Tb7 : tbl iDist2Tb 39 = some (.data rqqC) := rfl
end Go.Proofs.Ytcgolmopbnhgeaa.Ae

/-! The plain laws of pieces of the plane: on a piece, what two pieces have in common. No condition. -/
namespace Go.Proofs.Ytcgolmopbnhgeaa.Ae
open Go Go.RowKit Go.Proofs.Ytcgolmopbnhgeaa.Dig
theorem isg_pos (z : Int) : 0 < z.sign ↔ 0 < z := by
  rcases Int.lt_trichotomy z 0 with h | h | h
  · rw [Int.sign_eq_neg_one_of_neg h]; omega
  · subst h; simp
  · rw [Int.sign_eq_one_of_pos h]; omega
theorem isg_neg (z : Int) : z.sign < 0 ↔ z < 0 := by
  rcases Int.lt_trichotomy z 0 with h | h | h
  · rw [Int.sign_eq_neg_one_of_neg h]; omega
  · subst h; simp
  · rw [Int.sign_eq_one_of_pos h]; omega
theorem isg_zero (z : Int) : z.sign = 0 ↔ z = 0 := by
  rcases Int.lt_trichotomy z 0 with h | h | h
  · rw [Int.sign_eq_neg_one_of_neg h]; omega
  · subst h; simp
  · rw [Int.sign_eq_one_of_pos h]; omega
theorem qcmp_lt (a b : Rat) : qcmp a b < 0 ↔ a < b := by unfold qcmp; rw [isg_neg, Rat.lt_iff]; omega
theorem qcmp_gt (a b : Rat) : 0 < qcmp a b ↔ b < a := by unfold qcmp; rw [isg_pos, Rat.lt_iff]; omega
theorem qcmp_eq (a b : Rat) : qcmp a b = 0 ↔ a = b := by
  constructor
  · intro h
    have h1 := (fun x => by have := (qcmp_lt a b).mpr x; omega : ¬ a < b)
    have h2 := (fun x => by have := (qcmp_gt a b).mpr x; omega : ¬ b < a)
    grind
  · rintro rfl; unfold qcmp; simp
theorem qs_neg (a : Rat) : a.num.sign < 0 ↔ a < 0 := by rw [isg_neg]; have := Rat.num_nonneg (q := a); grind
theorem qs_pos (a : Rat) : 0 < a.num.sign ↔ 0 < a := by rw [isg_pos]; have := Rat.num_nonneg (q := a); have := Rat.num_eq_zero (q := a); grind
theorem qs_zero (a : Rat) : a.num.sign = 0 ↔ a = 0 := by rw [isg_zero]; exact Rat.num_eq_zero
theorem lohi (a b : Rat) : (loQ a b = a ∧ hiQ a b = b ∧ a ≤ b) ∨ (loQ a b = b ∧ hiQ a b = a ∧ b < a) := by
  unfold loQ hiQ
  by_cases h : 0 < qcmp a b
  · exact .inr ⟨if_pos h, if_pos h, (qcmp_gt _ _).mp h⟩
  · have h' : ¬ b < a := fun x => h ((qcmp_gt a b).mpr x)
    exact .inl ⟨if_neg h, if_neg h, by grind⟩
theorem lohi_same (a : Rat) : loQ a a = a ∧ hiQ a a = a := by unfold loQ hiQ; split <;> exact ⟨rfl, rfl⟩
/-- Between two numbers, as a product tells it. -/
theorem btw (a b p : Rat) : bapart a b p p = false ↔ (p - a) * (p - b) ≤ 0 := by
  unfold bapart
  rw [(lohi_same p).1, (lohi_same p).2, Bool.or_eq_false_iff, decide_eq_false_iff_not, decide_eq_false_iff_not, qcmp_lt, qcmp_lt]
  rcases lohi a b with ⟨e1, e2, h⟩ | ⟨e1, e2, h⟩ <;> rw [e1, e2]
  · constructor
    · rintro ⟨h1, h2⟩
      have : 0 ≤ (p - a) * (b - p) := Rat.mul_nonneg (by grind) (by grind)
      grind
    · intro h0
      constructor
      · intro h1
        have : 0 < (p - a) * (p - b) := Rat.mul_pos (by grind) (by grind)
        grind
      · intro h1
        have : 0 < (a - p) * (b - p) := Rat.mul_pos (by grind) (by grind)
        grind
  · constructor
    · rintro ⟨h1, h2⟩
      have : 0 ≤ (a - p) * (p - b) := Rat.mul_nonneg (by grind) (by grind)
      grind
    · intro h0
      constructor
      · intro h1
        have : 0 < (p - a) * (p - b) := Rat.mul_pos (by grind) (by grind)
        grind
      · intro h1
        have : 0 < (a - p) * (b - p) := Rat.mul_pos (by grind) (by grind)
        grind
theorem sq_zero {a : Rat} (h : a * a ≤ 0) : a = 0 := by
  have h1 := sq_nn a
  have h2 : a * a = 0 := by grind
  rcases Rat.mul_eq_zero.mp h2 with x | x <;> exact x
theorem sq_p {a : Rat} (h : a ≠ 0) : 0 < a * a := by
  have h1 := sq_nn a
  have : a * a ≠ 0 := fun e => h (sq_zero (by grind))
  grind
/-- On a straight piece: by its box, or by the angle at the place. -/
theorem on_has {a b c d p q : Rat} (hn : ¬ (c - a = 0 ∧ d - b = 0)) :
    hasB a b c d p q = (decide ((turnQ a b c d p q).num.sign = 0) && decide ((dotQ (a - p) (b - q) (c - p) (d - q)).num.sign ≤ 0)) := by
  by_cases ht : (turnQ a b c d p q).num.sign = 0
  · have t0 : turnQ a b c d p q = 0 := (qs_zero _).mp ht
    have hd : (dotQ (a - p) (b - q) (c - p) (d - q)).num.sign ≤ 0 ↔ dotQ (a - p) (b - q) (c - p) (d - q) ≤ 0 := by
      have := qs_pos (dotQ (a - p) (b - q) (c - p) (d - q))
      constructor
      · intro h
        have : ¬ 0 < dotQ (a - p) (b - q) (c - p) (d - q) := fun x => by have := (qs_pos _).mpr x; omega
        grind
      · intro h
        have : ¬ 0 < (dotQ (a - p) (b - q) (c - p) (d - q)).num.sign := fun x => by have := (qs_pos _).mp x; grind
        omega
    have key : (bapart a c p p = false ∧ bapart b d q q = false) ↔ dotQ (a - p) (b - q) (c - p) (d - q) ≤ 0 := by
      rw [btw, btw]
      unfold turnQ crossQ at t0
      unfold dotQ
      generalize hX : p - a = X at *
      generalize hY : q - b = Y at *
      generalize hU : c - a = U at *
      generalize hW : d - b = W at *
      have e1 : p - c = X - U := by grind
      have e2 : q - d = Y - W := by grind
      have e3 : a - p = -X := by grind
      have e4 : b - q = -Y := by grind
      have e5 : c - p = U - X := by grind
      have e6 : d - q = W - Y := by grind
      rw [e1, e2, e3, e4, e5, e6]
      constructor
      · rintro ⟨h1, h2⟩; grind
      · intro h
        have id1 : X * (X - U) * (W * W) = Y * (Y - W) * (U * U) := by grind
        have nnU := sq_nn U
        have nnW := sq_nn W
        constructor
        · refine Decidable.byContradiction fun h1 => ?_
          have h1 : 0 < X * (X - U) := by grind
          have h2 : Y * (Y - W) < 0 := by grind
          have p1 : 0 ≤ X * (X - U) * (W * W) := Rat.mul_nonneg (by grind) nnW
          have p2 : 0 ≤ -(Y * (Y - W)) * (U * U) := Rat.mul_nonneg (by grind) nnU
          have hU0 : U = 0 := Decidable.byContradiction fun hU => by
            have : 0 < -(Y * (Y - W)) * (U * U) := Rat.mul_pos (by grind) (sq_p hU)
            grind
          have hW0 : W = 0 := Decidable.byContradiction fun hW => by
            have : 0 < X * (X - U) * (W * W) := Rat.mul_pos h1 (sq_p hW)
            grind
          exact hn ⟨hU0, hW0⟩
        · refine Decidable.byContradiction fun h1 => ?_
          have h1 : 0 < Y * (Y - W) := by grind
          have h2 : X * (X - U) < 0 := by grind
          have p1 : 0 ≤ Y * (Y - W) * (U * U) := Rat.mul_nonneg (by grind) nnU
          have p2 : 0 ≤ -(X * (X - U)) * (W * W) := Rat.mul_nonneg (by grind) nnW
          have hW0 : W = 0 := Decidable.byContradiction fun hW => by
            have : 0 < -(X * (X - U)) * (W * W) := Rat.mul_pos (by grind) (sq_p hW)
            grind
          have hU0 : U = 0 := Decidable.byContradiction fun hU => by
            have : 0 < Y * (Y - W) * (U * U) := Rat.mul_pos h1 (sq_p hU)
            grind
          exact hn ⟨hU0, hW0⟩
    unfold hasB
    rw [decide_eq_true ht, Bool.and_true, Bool.true_and]
    by_cases hD : dotQ (a - p) (b - q) (c - p) (d - q) ≤ 0
    · obtain ⟨k1, k2⟩ := key.mpr hD
      rw [k1, k2, decide_eq_true (hd.mpr hD)]; rfl
    · have : ¬ (bapart a c p p = false ∧ bapart b d q q = false) := fun x => hD (key.mp x)
      rw [decide_eq_false (fun x => hD (hd.mp x))]
      cases h1 : bapart a c p p <;> cases h2 : bapart b d q q <;> simp_all
  · unfold hasB
    rw [decide_eq_false ht, Bool.and_false, Bool.false_and]
theorem ap_pt {a c e g x : Rat} (h1 : (x - a) * (x - c) ≤ 0) (h2 : (x - e) * (x - g) ≤ 0) : bapart a c e g = false := by
  have k1 := (btw a c x).mpr h1
  have k2 := (btw e g x).mpr h2
  unfold bapart at k1 k2 ⊢
  rw [(lohi_same x).1, (lohi_same x).2, Bool.or_eq_false_iff, decide_eq_false_iff_not, decide_eq_false_iff_not, qcmp_lt, qcmp_lt] at k1 k2
  rw [Bool.or_eq_false_iff, decide_eq_false_iff_not, decide_eq_false_iff_not, qcmp_lt, qcmp_lt]
  grind
theorem pcmp_le (a b c d : Rat) : pcmp a b c d ≤ 0 ↔ (a < c ∨ a = c ∧ b ≤ d) := by
  unfold pcmp
  by_cases h : qcmp a c = 0
  · rw [if_pos h]
    have e := (qcmp_eq a c).mp h
    have := qcmp_gt b d
    constructor
    · intro h1
      have : ¬ d < b := fun x => by have := this.mpr x; omega
      exact .inr ⟨e, by grind⟩
    · rintro (h1 | ⟨_, h1⟩)
      · grind
      · have : ¬ 0 < qcmp b d := fun x => by have := this.mp x; grind
        omega
  · rw [if_neg h]
    have hne : a ≠ c := fun e => h ((qcmp_eq a c).mpr e)
    have h2 := qcmp_lt a c
    constructor
    · intro h1; exact .inl (h2.mp (by omega))
    · rintro (h1 | ⟨h1, _⟩)
      · have := h2.mpr h1; omega
      · exact absurd h1 hne
theorem pcmp_swap (a b c d : Rat) : 0 < pcmp a b c d → pcmp c d a b ≤ 0 := by
  intro h
  have h1 : ¬ pcmp a b c d ≤ 0 := by omega
  rw [pcmp_le] at h1 ⊢
  grind
theorem pcmp_trans {a b c d e f : Rat} (h1 : pcmp a b c d ≤ 0) (h2 : pcmp c d e f ≤ 0) : pcmp a b e f ≤ 0 := by
  rw [pcmp_le] at *
  grind
theorem lexbox {a b c d p q : Rat} (h1 : pcmp a b p q ≤ 0) (h2 : pcmp p q c d ≤ 0) (hc : crossQ (p - a) (q - b) (c - a) (d - b) = 0) :
    (p - a) * (p - c) ≤ 0 ∧ (q - b) * (q - d) ≤ 0 := by
  rw [pcmp_le] at h1 h2
  unfold crossQ at hc
  have x1 : 0 ≤ p - a := by grind
  have x2 : 0 ≤ c - p := by grind
  have hx := Rat.mul_nonneg x1 x2
  refine ⟨by grind, ?_⟩
  by_cases hD : c = a
  · have y1 : 0 ≤ q - b := by grind
    have y2 : 0 ≤ d - q := by grind
    have := Rat.mul_nonneg y1 y2
    grind
  · have hD' : c - a ≠ 0 := by grind
    have hpos := sq_p hD'
    refine Decidable.byContradiction fun hn => ?_
    have hZ : 0 < (q - b) * (q - d) := by grind
    have p1 := Rat.mul_pos hZ hpos
    have e1 : (q - b) * (q - d) * ((c - a) * (c - a)) = ((p - a) * (p - c)) * ((d - b) * (d - b)) := by grind
    have p2 : 0 ≤ ((p - a) * (c - p)) * ((d - b) * (d - b)) := Rat.mul_nonneg hx (sq_nn _)
    grind
def upQ (a b c d : Rat) : (Rat × Rat) × Rat × Rat := if 0 < pcmp a b c d then ((c, d), a, b) else ((a, b), c, d)
def pc2 (p q : Rat × Rat) : Int := pcmp p.1 p.2 q.1 q.2
def gtP (x p : Rat × Rat) : Rat × Rat := if 0 < pc2 x p then x else p
def ltP (x p : Rat × Rat) : Rat × Rat := if pc2 x p < 0 then x else p
def endQ (lo hi : Rat × Rat) : Option (Int × (Rat × Rat) × Rat × Rat) := if pc2 lo hi < 0 then some (2, lo, hi) else if pc2 lo hi = 0 then some (1, lo, lo) else none
def lineQ (a b c d e f g h : Rat) : Option (Int × (Rat × Rat) × Rat × Rat) := endQ (gtP (upQ e f g h).1 (upQ a b c d).1) (ltP (upQ e f g h).2 (upQ a b c d).2)
def parQ (a b c d e f g h : Rat) : Rat := crossQ (c - a) (d - b) (g - e) (h - f)
def tQ (a b c d e f g h : Rat) : Rat := crossQ (e - a) (f - b) (g - e) (h - f) / parQ a b c d e f g h
def sQ (a b c d e f g h : Rat) : Rat := crossQ (e - a) (f - b) (c - a) (d - b) / parQ a b c d e f g h
def inU (t : Rat) : Bool := !(decide (t.num.sign < 0)) && !(decide (0 < qcmp t 1))
def smeetQ (a b c d e f g h : Rat) : Option (Int × (Rat × Rat) × Rat × Rat) :=
  if (parQ a b c d e f g h).num.sign = 0 then
    if (crossQ (c - a) (d - b) (e - a) (f - b)).num.sign = 0 then lineQ a b c d e f g h else none
  else if inU (tQ a b c d e f g h) && inU (sQ a b c d e f g h) then some (1, (a + (c - a) * tQ a b c d e f g h, b + (d - b) * tQ a b c d e f g h), a + (c - a) * tQ a b c d e f g h, b + (d - b) * tQ a b c d e f g h)
  else none
def meetQ (a b c d e f g h : Rat) : Option (Int × (Rat × Rat) × Rat × Rat) := if bapart a c e g || bapart b d f h then none else smeetQ a b c d e f g h
theorem up_spec (a b c d : Rat) : pc2 (upQ a b c d).1 (upQ a b c d).2 ≤ 0 ∧ ((upQ a b c d).1 = (a, b) ∧ (upQ a b c d).2 = (c, d) ∨ (upQ a b c d).1 = (c, d) ∧ (upQ a b c d).2 = (a, b)) := by
  unfold upQ pc2
  by_cases h : 0 < pcmp a b c d
  · rw [if_pos h]; exact ⟨pcmp_swap _ _ _ _ h, .inr ⟨rfl, rfl⟩⟩
  · rw [if_neg h]; exact ⟨by show pcmp a b c d ≤ 0; omega, .inl ⟨rfl, rfl⟩⟩
theorem inU_spec {t : Rat} (h : inU t = true) : 0 ≤ t ∧ t ≤ 1 := by
  unfold inU at h
  rw [Bool.and_eq_true, Bool.not_eq_true', Bool.not_eq_true', decide_eq_false_iff_not, decide_eq_false_iff_not, qs_neg, qcmp_gt] at h
  grind
theorem par_tri {U W V X Y Z : Rat} (hn : ¬ (U = 0 ∧ W = 0)) (h1 : U * X - W * V = 0) (h2 : U * Z - W * Y = 0) : Y * X - Z * V = 0 := by
  by_cases hU : U = 0
  · have hW : W ≠ 0 := fun e => hn ⟨hU, e⟩
    have e1 : W * V = 0 := by grind
    have e2 : W * Y = 0 := by grind
    have e3 : V = 0 := (Rat.mul_eq_zero.mp e1).resolve_left hW
    have e4 : Y = 0 := (Rat.mul_eq_zero.mp e2).resolve_left hW
    grind
  · have : U * (Y * X - Z * V) = 0 := by grind
    exact (Rat.mul_eq_zero.mp this).resolve_left hU
theorem smeet_box {a b c d e f g h : Rat} (hn : ¬ (c - a = 0 ∧ d - b = 0)) (hm : ¬ (g - e = 0 ∧ h - f = 0)) {r : Int × (Rat × Rat) × Rat × Rat} (hs : smeetQ a b c d e f g h = some r) : bapart a c e g = false ∧ bapart b d f h = false := by
  unfold smeetQ at hs
  by_cases hk : (parQ a b c d e f g h).num.sign = 0
  · rw [if_pos hk] at hs
    by_cases hw : (crossQ (c - a) (d - b) (e - a) (f - b)).num.sign = 0
    · rw [if_pos hw] at hs
      have k0 : parQ a b c d e f g h = 0 := (qs_zero _).mp hk
      have w0 : crossQ (c - a) (d - b) (e - a) (f - b) = 0 := (qs_zero _).mp hw
      unfold parQ crossQ at k0
      unfold crossQ at w0
      have w1 : (e - a) * (h - f) - (f - b) * (g - e) = 0 := by
        have := par_tri hn k0 w0
        grind
      obtain ⟨o1, u1⟩ := up_spec a b c d
      obtain ⟨o2, u2⟩ := up_spec e f g h
      unfold lineQ at hs
      generalize hP : gtP (upQ e f g h).1 (upQ a b c d).1 = P at hs
      generalize hR : ltP (upQ e f g h).2 (upQ a b c d).2 = R at hs
      generalize upQ a b c d = u at *
      generalize upQ e f g h = v at *
      have pr : pc2 P R ≤ 0 := by unfold endQ at hs; grind
      have p1 : pc2 u.1 P ≤ 0 ∧ pc2 v.1 P ≤ 0 ∧ (P = u.1 ∨ P = v.1) := by
        rw [← hP]; unfold gtP
        by_cases hc : 0 < pc2 v.1 u.1
        · rw [if_pos hc]; exact ⟨pcmp_swap _ _ _ _ hc, by unfold pc2; rw [pcmp_le]; grind, .inr rfl⟩
        · rw [if_neg hc]; exact ⟨by unfold pc2; rw [pcmp_le]; grind, by omega, .inl rfl⟩
      have p2 : pc2 R u.2 ≤ 0 ∧ pc2 R v.2 ≤ 0 := by
        rw [← hR]; unfold ltP
        by_cases hc : pc2 v.2 u.2 < 0
        · rw [if_pos hc]; exact ⟨by omega, by unfold pc2; rw [pcmp_le]; grind⟩
        · rw [if_neg hc]
          refine ⟨by unfold pc2; rw [pcmp_le]; grind, ?_⟩
          by_cases h0 : 0 < pc2 v.2 u.2
          · exact pcmp_swap _ _ _ _ h0
          · have : pcmp v.2.1 v.2.2 u.2.1 u.2.2 = 0 := by unfold pc2 at hc h0; omega
            have hh : ¬ (qcmp v.2.1 u.2.1 ≠ 0) := by
              intro hq; unfold pcmp at this; rw [if_neg hq] at this; exact hq this
            have hq : qcmp v.2.1 u.2.1 = 0 := by omega
            unfold pcmp at this
            rw [if_pos hq] at this
            have e1 := (qcmp_eq _ _).mp hq
            have e2 := (qcmp_eq _ _).mp this
            unfold pc2; rw [pcmp_le]; grind
      have q1 : pc2 P u.2 ≤ 0 := pcmp_trans pr p2.1
      have q2 : pc2 P v.2 ≤ 0 := pcmp_trans pr p2.2
      have c1 : crossQ (P.1 - u.1.1) (P.2 - u.1.2) (u.2.1 - u.1.1) (u.2.2 - u.1.2) = 0 := by
        unfold crossQ
        rcases p1.2.2 with e0 | e0 <;> rcases u1 with ⟨e1, e2⟩ | ⟨e1, e2⟩ <;> rcases u2 with ⟨e3, e4⟩ | ⟨e3, e4⟩ <;> simp only [e0, e1, e2, e3, e4] <;> grind
      have c2 : crossQ (P.1 - v.1.1) (P.2 - v.1.2) (v.2.1 - v.1.1) (v.2.2 - v.1.2) = 0 := by
        unfold crossQ
        rcases p1.2.2 with e0 | e0 <;> rcases u1 with ⟨e1, e2⟩ | ⟨e1, e2⟩ <;> rcases u2 with ⟨e3, e4⟩ | ⟨e3, e4⟩ <;> simp only [e0, e1, e2, e3, e4] <;> grind
      have b1 := lexbox p1.1 q1 c1
      have b2 := lexbox p1.2.1 q2 c2
      have b3 : (P.1 - a) * (P.1 - c) ≤ 0 ∧ (P.2 - b) * (P.2 - d) ≤ 0 := by
        rcases u1 with ⟨e1, e2⟩ | ⟨e1, e2⟩ <;> rw [e1, e2] at b1 <;> refine ⟨?_, ?_⟩ <;> grind
      have b4 : (P.1 - e) * (P.1 - g) ≤ 0 ∧ (P.2 - f) * (P.2 - h) ≤ 0 := by
        rcases u2 with ⟨e1, e2⟩ | ⟨e1, e2⟩ <;> rw [e1, e2] at b2 <;> refine ⟨?_, ?_⟩ <;> grind
      exact ⟨ap_pt b3.1 b4.1, ap_pt b3.2 b4.2⟩
    · rw [if_neg hw] at hs; simp at hs
  · rw [if_neg hk] at hs
    by_cases hi : (inU (tQ a b c d e f g h) && inU (sQ a b c d e f g h)) = true
    · rw [Bool.and_eq_true] at hi
      have ht := inU_spec hi.1
      have hs' := inU_spec hi.2
      have k0 : parQ a b c d e f g h ≠ 0 := fun x => hk ((qs_zero _).mpr x)
      have et : parQ a b c d e f g h * tQ a b c d e f g h = crossQ (e - a) (f - b) (g - e) (h - f) := by unfold tQ; rw [Rat.mul_comm]; exact Rat.div_mul_cancel k0
      have es : parQ a b c d e f g h * sQ a b c d e f g h = crossQ (e - a) (f - b) (c - a) (d - b) := by unfold sQ; rw [Rat.mul_comm]; exact Rat.div_mul_cancel k0
      generalize tQ a b c d e f g h = t at *
      generalize sQ a b c d e f g h = s at *
      have i1 : parQ a b c d e f g h * (a + (c - a) * t - (e + (g - e) * s)) = 0 := by
        have : parQ a b c d e f g h * (a + (c - a) * t - (e + (g - e) * s)) = parQ a b c d e f g h * (a - e) + (c - a) * (parQ a b c d e f g h * t) - (g - e) * (parQ a b c d e f g h * s) := by grind
        rw [this, et, es]; unfold parQ crossQ; grind
      have i2 : parQ a b c d e f g h * (b + (d - b) * t - (f + (h - f) * s)) = 0 := by
        have : parQ a b c d e f g h * (b + (d - b) * t - (f + (h - f) * s)) = parQ a b c d e f g h * (b - f) + (d - b) * (parQ a b c d e f g h * t) - (h - f) * (parQ a b c d e f g h * s) := by grind
        rw [this, et, es]; unfold parQ crossQ; grind
      have j1 := (Rat.mul_eq_zero.mp i1).resolve_left k0
      have j2 := (Rat.mul_eq_zero.mp i2).resolve_left k0
      have r1 : 0 ≤ t * (1 - t) := Rat.mul_nonneg ht.1 (by grind)
      have r2 : 0 ≤ s * (1 - s) := Rat.mul_nonneg hs'.1 (by grind)
      have m1 := Rat.mul_nonneg r1 (sq_nn (c - a))
      have m2 := Rat.mul_nonneg r1 (sq_nn (d - b))
      have m3 := Rat.mul_nonneg r2 (sq_nn (g - e))
      have m4 := Rat.mul_nonneg r2 (sq_nn (h - f))
      have x1 : a + (c - a) * t = e + (g - e) * s := by grind
      have x2 : b + (d - b) * t = f + (h - f) * s := by grind
      refine ⟨ap_pt (x := a + (c - a) * t) ?_ ?_, ap_pt (x := b + (d - b) * t) ?_ ?_⟩
      · grind
      · rw [x1]; grind
      · grind
      · rw [x2]; grind
    · rw [if_neg hi] at hs; simp at hs
/-- The quick test changes nothing. -/
theorem meet_smeet {a b c d e f g h : Rat} (hn : ¬ (c - a = 0 ∧ d - b = 0)) (hm : ¬ (g - e = 0 ∧ h - f = 0)) : meetQ a b c d e f g h = smeetQ a b c d e f g h := by
  unfold meetQ
  cases hs : smeetQ a b c d e f g h with
  | none => simp
  | some r => obtain ⟨h1, h2⟩ := smeet_box hn hm hs; rw [h1, h2]; simp
end Go.Proofs.Ytcgolmopbnhgeaa.Ae

/-! OnSeg, Foot, Near, Dist2: the reference, and the laws.  No condition. -/
namespace Go.Proofs.Ytcgolmopbnhgeaa.Ae
open Go Go.RowKit Go.Proofs.Ytcgolmopbnhgeaa.Dig
@[simp] theorem eqQ_b (a b c d : Int) : eqQC [eQ a b, eQ c d] = (True, [.lit (.bool (decide (a = c) && decide (b = d)))]) := eqQC_at a b c d
theorem rat_one (a : Int) : Rat.divInt a 1 = (a : Rat) := by rw [Rat.divInt_eq_div]; simp; grind

/-! s.SegOk -/
noncomputable def sSegOkC := ct1 ESeg (fun p0 => (((I64 p0.1.1.1 ∧ I64 p0.1.1.2) ∧ I64 p0.1.2.1 ∧ I64 p0.1.2.2) ∧ ((I64 p0.2.1.1 ∧ I64 p0.2.1.2) ∧ I64 p0.2.2.1 ∧ I64 p0.2.2.2))) (fun p0 => [.lit (.bool (decide (segOk p0.1.1.1 p0.1.1.2 p0.1.2.1 p0.1.2.2 p0.2.1.1 p0.2.1.2 p0.2.2.1 p0.2.2.2)))])
@[simp] theorem sSegOkC_at (a b c d e f g h : Int) : sSegOkC [.agg [.agg [eQ a b, eQ c d], .agg [eQ e f, eQ g h]]] = ((((I64 a ∧ I64 b) ∧ I64 c ∧ I64 d) ∧ ((I64 e ∧ I64 f) ∧ I64 g ∧ I64 h)), [.lit (.bool (decide (segOk a b c d e f g h)))]) := ct1_at (((a, b), c, d), (e, f), g, h)
/-! s.l3V -/
noncomputable def l3VC := ct1 EPn (fun p0 => True) (fun p0 => vD (oV p0.1 p0.2))
@[simp] theorem l3VC_at (a b : Rat) : l3VC [.agg [nD a, nD b]] = (True, vD (oV a b)) := ct1_at (a, b)
noncomputable def l3VTb : List (FuncId × Ct) := [(71, .data nQC)]
theorem l3VTb_ok : TbOK NF Try.prog (tbl l3VTb) := tbl_cons (c := .data nQC) nQ_spec l1rQ_ok tbl_nil

@[simp] theorem l3VTb1 : tbl l3VTb 71 = some (.data nQC) := rfl
/-! s.l1rInt -/
noncomputable def l1rIntC := ct1 EInt (fun p0 => I64 p0) (fun p0 => [nD (p0 : Rat)])
@[simp] theorem l1rIntC_at (a : Int) : l1rIntC [.lit (.int .i64 a)] = (I64 a, [nD (a : Rat)]) := ct1_at a
noncomputable def l1rIntTb : List (FuncId × Ct) := [(121, .data nOfC)]
theorem l1rIntTb_ok : TbOK NF Try.prog (tbl l1rIntTb) := tbl_cons (c := .data nOfC) nOf_spec l1rOf_ok tbl_nil

@[simp] theorem l1rIntTb1 : tbl l1rIntTb 121 = some (.data nOfC) := rfl
theorem l1rInt_spec : SpecD NF Try.prog 95 l1rIntC := by
  refine rd1 (mf := fun f => false) l1rIntTb_ok (fn := Try.f95) (by kernel_rfl) rfl (by kernel_rfl) (by kernel_rfl) ?_
  rintro a hp
  have hp : I64 a := hp
  show awp _ _ _ _ (start _ ([.lit (.int .i64 a)].map .dat) []) (endK _ _ _ (([nD (a : Rat)]).map .dat) [])
  have e : Rat.divInt a 1 = (a : Rat) := rat_one a
  have h1 : I64 1 := by unfold I64; omega
  simp [-D.isLit, Try.f95, hp, h1, e]
theorem l1rInt_ok : callable Try.prog 95 = true := by kernel_rfl

/-! s.l3Add -/
noncomputable def l3AddC := ct2 EPn EPn (fun p0 p1 => qsz p0.1 + qsz p0.2 + qsz p1.1 + qsz p1.2 < LM) (fun p0 p1 => [.agg [nD (p0.1 + p1.1), nD (p0.2 + p1.2)]])
@[simp] theorem l3AddC_at (a b : Rat) (c d : Rat) : l3AddC [.agg [nD a, nD b], .agg [nD c, nD d]] = (qsz a + qsz b + qsz c + qsz d < LM, [.agg [nD (a + c), nD (b + d)]]) := ct2_at (a, b) (c, d)
noncomputable def l3AddTb : List (FuncId × Ct) := [(98, .data nAddC)]
theorem l3AddTb_ok : TbOK NF Try.prog (tbl l3AddTb) := tbl_cons (c := .data nAddC) nAdd_spec l1rAdd_ok tbl_nil

@[simp] theorem l3AddTb1 : tbl l3AddTb 98 = some (.data nAddC) := rfl
/-! s.l3Times -/
noncomputable def l3TimesC := ct2 EPn ENum (fun p0 p1 => qsz p0.1 + qsz p0.2 + qsz p1 < LM) (fun p0 p1 => [.agg [nD (p0.1 * p1), nD (p0.2 * p1)]])
@[simp] theorem l3TimesC_at (a b : Rat) (c : Rat) : l3TimesC [.agg [nD a, nD b], nD c] = (qsz a + qsz b + qsz c < LM, [.agg [nD (a * c), nD (b * c)]]) := ct2_at (a, b) c
noncomputable def l3TimesTb : List (FuncId × Ct) := [(96, .data nMulC)]
theorem l3TimesTb_ok : TbOK NF Try.prog (tbl l3TimesTb) := tbl_cons (c := .data nMulC) nMul_spec l1rMul_ok tbl_nil

@[simp] theorem l3TimesTb1 : tbl l3TimesTb 96 = some (.data nMulC) := rfl
/-! s.l3Dot -/
noncomputable def l3DotC := ct2 EPn EPn (fun p0 p1 => qsz p0.1 + qsz p0.2 + qsz p1.1 + qsz p1.2 < LM) (fun p0 p1 => [nD (dotQ p0.1 p0.2 p1.1 p1.2)])
@[simp] theorem l3DotC_at (a b : Rat) (c d : Rat) : l3DotC [.agg [nD a, nD b], .agg [nD c, nD d]] = (qsz a + qsz b + qsz c + qsz d < LM, [nD (dotQ a b c d)]) := ct2_at (a, b) (c, d)
noncomputable def l3DotTb : List (FuncId × Ct) := [(96, .data nMulC), (98, .data nAddC)]
theorem l3DotTb_ok : TbOK NF Try.prog (tbl l3DotTb) := tbl_cons (c := .data nMulC) nMul_spec l1rMul_ok (tbl_cons (c := .data nAddC) nAdd_spec l1rAdd_ok tbl_nil)

@[simp] theorem l3DotTb1 : tbl l3DotTb 96 = some (.data nMulC) := rfl
@[simp] theorem l3DotTb2 : tbl l3DotTb 98 = some (.data nAddC) := rfl
/-! s.l3On -/
noncomputable def l3OnC := ct3 EPn EPn EPn (fun p0 p1 p2 => qsz p1.1 + qsz p1.2 + qsz p2.1 + qsz p2.2 + qsz p0.1 + qsz p0.2 < 10000000 ∧ ¬ (p2.1 - p1.1 = 0 ∧ p2.2 - p1.2 = 0)) (fun p0 p1 p2 => [.lit (.bool (hasB p1.1 p1.2 p2.1 p2.2 p0.1 p0.2))])
@[simp] theorem l3OnC_at (p q : Rat) (a b : Rat) (c d : Rat) : l3OnC [.agg [nD p, nD q], .agg [nD a, nD b], .agg [nD c, nD d]] = (qsz a + qsz b + qsz c + qsz d + qsz p + qsz q < 10000000 ∧ ¬ (c - a = 0 ∧ d - b = 0), [.lit (.bool (hasB a b c d p q))]) := ct3_at (p, q) (a, b) (c, d)
noncomputable def l3OnTb : List (FuncId × Ct) := [(41, .data nSignC)]
theorem l3OnTb_ok : TbOK NF Try.prog (tbl l3OnTb) := tbl_cons (c := .data nSignC) nSign_spec l1rSign_ok tbl_nil

@[simp] theorem l3OnTb4 : tbl l3OnTb 41 = some (.data nSignC) := rfl
/-! s.l3Foot -/
noncomputable def l3FootC := ct3 EPn EPn EPn (fun p0 p1 p2 => qsz p1.1 + qsz p1.2 + qsz p2.1 + qsz p2.2 + qsz p0.1 + qsz p0.2 < 10000000 ∧ ¬ (p2.1 - p1.1 = 0 ∧ p2.2 - p1.2 = 0)) (fun p0 p1 p2 => [nD (footQ p1.1 p1.2 p2.1 p2.2 p0.1 p0.2)])
@[simp] theorem l3FootC_at (p q : Rat) (a b : Rat) (c d : Rat) : l3FootC [.agg [nD p, nD q], .agg [nD a, nD b], .agg [nD c, nD d]] = (qsz a + qsz b + qsz c + qsz d + qsz p + qsz q < 10000000 ∧ ¬ (c - a = 0 ∧ d - b = 0), [nD (footQ a b c d p q)]) := ct3_at (p, q) (a, b) (c, d)
/-! s.l3At -/
noncomputable def l3AtC := ct3 EPn EPn ENum (fun p0 p1 p2 => qsz p0.1 + qsz p0.2 + qsz p1.1 + qsz p1.2 + qsz p2 < 100000000) (fun p0 p1 p2 => [.agg [nD (p0.1 + (p1.1 - p0.1) * p2), nD (p0.2 + (p1.2 - p0.2) * p2)]])
@[simp] theorem l3AtC_at (a b : Rat) (c d : Rat) (e : Rat) : l3AtC [.agg [nD a, nD b], .agg [nD c, nD d], nD e] = (qsz a + qsz b + qsz c + qsz d + qsz e < 100000000, [.agg [nD (a + (c - a) * e), nD (b + (d - b) * e)]]) := ct3_at (a, b) (c, d) e
theorem snear {a b c d p q : Rat} (hn : ¬ (c - a = 0 ∧ d - b = 0)) : nearQ a b c d p q = if (footQ a b c d p q).num.sign < 0 then (a, b) else if 0 < qcmp (footQ a b c d p q) 1 then (c, d) else (a + (c - a) * footQ a b c d p q, b + (d - b) * footQ a b c d p q) := by
  unfold nearQ
  generalize footQ a b c d p q = k
  by_cases h1 : k.num.sign < 0
  · rw [if_pos h1, if_pos (by omega)]
  · rw [if_neg h1]
    by_cases h2 : k.num.sign ≤ 0
    · have k0 : k = 0 := (qs_zero k).mp (by omega)
      subst k0
      rw [if_pos h2, if_neg (by rw [qcmp_gt]; decide)]
      congr 1 <;> grind
    · rw [if_neg h2]
      by_cases h3 : 0 < qcmp k 1
      · rw [if_pos h3, if_pos (by omega)]
      · rw [if_neg h3]
        by_cases h4 : 0 ≤ qcmp k 1
        · have k1 : k = 1 := (qcmp_eq k 1).mp (by omega)
          subst k1
          rw [if_pos h4]
          congr 1 <;> grind
        · rw [if_neg h4]

/-! s.l3Near -/
noncomputable def l3NearC := ct3 EPn EPn EPn (fun p0 p1 p2 => qsz p1.1 + qsz p1.2 + qsz p2.1 + qsz p2.2 + qsz p0.1 + qsz p0.2 < 1000000 ∧ ¬ (p2.1 - p1.1 = 0 ∧ p2.2 - p1.2 = 0)) (fun p0 p1 p2 => [.agg [nD (nearQ p1.1 p1.2 p2.1 p2.2 p0.1 p0.2).1, nD (nearQ p1.1 p1.2 p2.1 p2.2 p0.1 p0.2).2]])
@[simp] theorem l3NearC_at (p q : Rat) (a b : Rat) (c d : Rat) : l3NearC [.agg [nD p, nD q], .agg [nD a, nD b], .agg [nD c, nD d]] = (qsz a + qsz b + qsz c + qsz d + qsz p + qsz q < 1000000 ∧ ¬ (c - a = 0 ∧ d - b = 0), [.agg [nD (nearQ a b c d p q).1, nD (nearQ a b c d p q).2]]) := ct3_at (p, q) (a, b) (c, d)
noncomputable def l3NearTb : List (FuncId × Ct) := [(41, .data nSignC), (95, .data l1rIntC)]
theorem l3NearTb_ok : TbOK NF Try.prog (tbl l3NearTb) := tbl_cons (c := .data nSignC) nSign_spec l1rSign_ok (tbl_cons (c := .data l1rIntC) l1rInt_spec l1rInt_ok tbl_nil)

@[simp] theorem l3NearTb2 : tbl l3NearTb 41 = some (.data nSignC) := rfl
@[simp] theorem l3NearTb3 : tbl l3NearTb 95 = some (.data l1rIntC) := rfl
/-! s.OnSeg -/
noncomputable def sOnSegC := ct2 EV ESeg (fun p0 p1 => ((I64 p0.1.1 ∧ I64 p0.1.2) ∧ I64 p0.2.1 ∧ I64 p0.2.2) ∧ (((I64 p1.1.1.1 ∧ I64 p1.1.1.2) ∧ I64 p1.1.2.1 ∧ I64 p1.1.2.2) ∧ ((I64 p1.2.1.1 ∧ I64 p1.2.1.2) ∧ I64 p1.2.2.1 ∧ I64 p1.2.2.2))) (fun p0 p1 => [.lit (.bool (if (qOk p0.1.1 p0.1.2 ∧ qOk p0.2.1 p0.2.2) ∧ segOk p1.1.1.1 p1.1.1.2 p1.1.2.1 p1.1.2.2 p1.2.1.1 p1.2.1.2 p1.2.2.1 p1.2.2.2 then hasB (Rat.divInt p1.1.1.1 p1.1.1.2) (Rat.divInt p1.1.2.1 p1.1.2.2) (Rat.divInt p1.2.1.1 p1.2.1.2) (Rat.divInt p1.2.2.1 p1.2.2.2) (Rat.divInt p0.1.1 p0.1.2) (Rat.divInt p0.2.1 p0.2.2) else false))])
@[simp] theorem sOnSegC_at (a b c d : Int) (e f g h i j k l : Int) : sOnSegC [.agg [eQ a b, eQ c d], .agg [.agg [eQ e f, eQ g h], .agg [eQ i j, eQ k l]]] = (((I64 a ∧ I64 b) ∧ I64 c ∧ I64 d) ∧ (((I64 e ∧ I64 f) ∧ I64 g ∧ I64 h) ∧ ((I64 i ∧ I64 j) ∧ I64 k ∧ I64 l)), [.lit (.bool (if (qOk a b ∧ qOk c d) ∧ segOk e f g h i j k l then hasB (Rat.divInt e f) (Rat.divInt g h) (Rat.divInt i j) (Rat.divInt k l) (Rat.divInt a b) (Rat.divInt c d) else false))]) := ct2_at ((a, b), c, d) (((e, f), g, h), (i, j), k, l)
/-! s.Foot -/
noncomputable def sFootC := ct2 EV ESeg (fun p0 p1 => ((I64 p0.1.1 ∧ I64 p0.1.2) ∧ I64 p0.2.1 ∧ I64 p0.2.2) ∧ (((I64 p1.1.1.1 ∧ I64 p1.1.1.2) ∧ I64 p1.1.2.1 ∧ I64 p1.1.2.2) ∧ ((I64 p1.2.1.1 ∧ I64 p1.2.1.2) ∧ I64 p1.2.2.1 ∧ I64 p1.2.2.2))) (fun p0 p1 => vD (if (qOk p0.1.1 p0.1.2 ∧ qOk p0.2.1 p0.2.2) ∧ segOk p1.1.1.1 p1.1.1.2 p1.1.2.1 p1.1.2.2 p1.2.1.1 p1.2.1.2 p1.2.2.1 p1.2.2.2 then oV (footP (Rat.divInt p1.1.1.1 p1.1.1.2) (Rat.divInt p1.1.2.1 p1.1.2.2) (Rat.divInt p1.2.1.1 p1.2.1.2) (Rat.divInt p1.2.2.1 p1.2.2.2) (Rat.divInt p0.1.1 p0.1.2) (Rat.divInt p0.2.1 p0.2.2)).1 (footP (Rat.divInt p1.1.1.1 p1.1.1.2) (Rat.divInt p1.1.2.1 p1.1.2.2) (Rat.divInt p1.2.1.1 p1.2.1.2) (Rat.divInt p1.2.2.1 p1.2.2.2) (Rat.divInt p0.1.1 p0.1.2) (Rat.divInt p0.2.1 p0.2.2)).2 else noV))
@[simp] theorem sFootC_at (a b c d : Int) (e f g h i j k l : Int) : sFootC [.agg [eQ a b, eQ c d], .agg [.agg [eQ e f, eQ g h], .agg [eQ i j, eQ k l]]] = (((I64 a ∧ I64 b) ∧ I64 c ∧ I64 d) ∧ (((I64 e ∧ I64 f) ∧ I64 g ∧ I64 h) ∧ ((I64 i ∧ I64 j) ∧ I64 k ∧ I64 l)), vD (if (qOk a b ∧ qOk c d) ∧ segOk e f g h i j k l then oV (footP (Rat.divInt e f) (Rat.divInt g h) (Rat.divInt i j) (Rat.divInt k l) (Rat.divInt a b) (Rat.divInt c d)).1 (footP (Rat.divInt e f) (Rat.divInt g h) (Rat.divInt i j) (Rat.divInt k l) (Rat.divInt a b) (Rat.divInt c d)).2 else noV)) := ct2_at ((a, b), c, d) (((e, f), g, h), (i, j), k, l)
/-! s.Near -/
noncomputable def sNearC := ct2 EV ESeg (fun p0 p1 => ((I64 p0.1.1 ∧ I64 p0.1.2) ∧ I64 p0.2.1 ∧ I64 p0.2.2) ∧ (((I64 p1.1.1.1 ∧ I64 p1.1.1.2) ∧ I64 p1.1.2.1 ∧ I64 p1.1.2.2) ∧ ((I64 p1.2.1.1 ∧ I64 p1.2.1.2) ∧ I64 p1.2.2.1 ∧ I64 p1.2.2.2))) (fun p0 p1 => vD (if (qOk p0.1.1 p0.1.2 ∧ qOk p0.2.1 p0.2.2) ∧ segOk p1.1.1.1 p1.1.1.2 p1.1.2.1 p1.1.2.2 p1.2.1.1 p1.2.1.2 p1.2.2.1 p1.2.2.2 then oV (nearQ (Rat.divInt p1.1.1.1 p1.1.1.2) (Rat.divInt p1.1.2.1 p1.1.2.2) (Rat.divInt p1.2.1.1 p1.2.1.2) (Rat.divInt p1.2.2.1 p1.2.2.2) (Rat.divInt p0.1.1 p0.1.2) (Rat.divInt p0.2.1 p0.2.2)).1 (nearQ (Rat.divInt p1.1.1.1 p1.1.1.2) (Rat.divInt p1.1.2.1 p1.1.2.2) (Rat.divInt p1.2.1.1 p1.2.1.2) (Rat.divInt p1.2.2.1 p1.2.2.2) (Rat.divInt p0.1.1 p0.1.2) (Rat.divInt p0.2.1 p0.2.2)).2 else noV))
@[simp] theorem sNearC_at (a b c d : Int) (e f g h i j k l : Int) : sNearC [.agg [eQ a b, eQ c d], .agg [.agg [eQ e f, eQ g h], .agg [eQ i j, eQ k l]]] = (((I64 a ∧ I64 b) ∧ I64 c ∧ I64 d) ∧ (((I64 e ∧ I64 f) ∧ I64 g ∧ I64 h) ∧ ((I64 i ∧ I64 j) ∧ I64 k ∧ I64 l)), vD (if (qOk a b ∧ qOk c d) ∧ segOk e f g h i j k l then oV (nearQ (Rat.divInt e f) (Rat.divInt g h) (Rat.divInt i j) (Rat.divInt k l) (Rat.divInt a b) (Rat.divInt c d)).1 (nearQ (Rat.divInt e f) (Rat.divInt g h) (Rat.divInt i j) (Rat.divInt k l) (Rat.divInt a b) (Rat.divInt c d)).2 else noV)) := ct2_at ((a, b), c, d) (((e, f), g, h), (i, j), k, l)
/-! s.Dist2 -/
noncomputable def sDist2C := ct2 EV ESeg (fun p0 p1 => ((I64 p0.1.1 ∧ I64 p0.1.2) ∧ I64 p0.2.1 ∧ I64 p0.2.2) ∧ (((I64 p1.1.1.1 ∧ I64 p1.1.1.2) ∧ I64 p1.1.2.1 ∧ I64 p1.1.2.2) ∧ ((I64 p1.2.1.1 ∧ I64 p1.2.1.2) ∧ I64 p1.2.2.1 ∧ I64 p1.2.2.2))) (fun p0 p1 => d3 (if (qOk p0.1.1 p0.1.2 ∧ qOk p0.2.1 p0.2.2) ∧ segOk p1.1.1.1 p1.1.1.2 p1.1.2.1 p1.1.2.2 p1.2.1.1 p1.2.1.2 p1.2.2.1 p1.2.2.2 then oq (dist2Q (Rat.divInt p0.1.1 p0.1.2) (Rat.divInt p0.2.1 p0.2.2) (nearQ (Rat.divInt p1.1.1.1 p1.1.1.2) (Rat.divInt p1.1.2.1 p1.1.2.2) (Rat.divInt p1.2.1.1 p1.2.1.2) (Rat.divInt p1.2.2.1 p1.2.2.2) (Rat.divInt p0.1.1 p0.1.2) (Rat.divInt p0.2.1 p0.2.2)).1 (nearQ (Rat.divInt p1.1.1.1 p1.1.1.2) (Rat.divInt p1.1.2.1 p1.1.2.2) (Rat.divInt p1.2.1.1 p1.2.1.2) (Rat.divInt p1.2.2.1 p1.2.2.2) (Rat.divInt p0.1.1 p0.1.2) (Rat.divInt p0.2.1 p0.2.2)).2) else no3))
@[simp] theorem sDist2C_at (a b c d : Int) (e f g h i j k l : Int) : sDist2C [.agg [eQ a b, eQ c d], .agg [.agg [eQ e f, eQ g h], .agg [eQ i j, eQ k l]]] = (((I64 a ∧ I64 b) ∧ I64 c ∧ I64 d) ∧ (((I64 e ∧ I64 f) ∧ I64 g ∧ I64 h) ∧ ((I64 i ∧ I64 j) ∧ I64 k ∧ I64 l)), d3 (if (qOk a b ∧ qOk c d) ∧ segOk e f g h i j k l then oq (dist2Q (Rat.divInt a b) (Rat.divInt c d) (nearQ (Rat.divInt e f) (Rat.divInt g h) (Rat.divInt i j) (Rat.divInt k l) (Rat.divInt a b) (Rat.divInt c d)).1 (nearQ (Rat.divInt e f) (Rat.divInt g h) (Rat.divInt i j) (Rat.divInt k l) (Rat.divInt a b) (Rat.divInt c d)).2) else no3)) := ct2_at ((a, b), c, d) (((e, f), g, h), (i, j), k, l)
noncomputable def sDist2Tb : List (FuncId × Ct) := [(71, .data nQC)]
theorem sDist2Tb_ok : TbOK NF Try.prog (tbl sDist2Tb) := tbl_cons (c := .data nQC) nQ_spec l1rQ_ok tbl_nil

@[simp] theorem sDist2Tb7 : tbl sDist2Tb 71 = some (.data nQC) := rfl
/-! l.toSeg -/
noncomputable def toSegC := ct1 ESeg (fun p0 => True) (fun p0 => [.agg [.agg [eQ p0.1.1.1 p0.1.1.2, eQ p0.1.2.1 p0.1.2.2], .agg [eQ p0.2.1.1 p0.2.1.2, eQ p0.2.2.1 p0.2.2.2]]])
@[simp] theorem toSegC_at (a b c d e f g h : Int) : toSegC [.agg [.agg [eQ a b, eQ c d], .agg [eQ e f, eQ g h]]] = (True, [.agg [.agg [eQ a b, eQ c d], .agg [eQ e f, eQ g h]]]) := ct1_at (((a, b), c, d), (e, f), g, h)
/-! l.eqV -/
noncomputable def eqVC := ct2 EV EV (fun p0 p1 => True) (fun p0 p1 => [.lit (.bool (decide (p0.1.1 = p1.1.1 ∧ p0.1.2 = p1.1.2 ∧ p0.2.1 = p1.2.1 ∧ p0.2.2 = p1.2.2)))])
@[simp] theorem eqVC_at (a b c d : Int) (e f g h : Int) : eqVC [.agg [eQ a b, eQ c d], .agg [eQ e f, eQ g h]] = (True, [.lit (.bool (decide (a = e ∧ b = f ∧ c = g ∧ d = h)))]) := ct2_at ((a, b), c, d) ((e, f), g, h)
noncomputable def eqVTb : List (FuncId × Ct) := [(12, .data eqQC)]
theorem eqVTb_ok {N : NR} : TbOK N Try.prog (tbl eqVTb) := tbl_cons (c := .data eqQC) eqQ_spec eqQ_ok tbl_nil

@[simp] theorem eqVTb1 : tbl eqVTb 12 = some (.data eqQC) := rfl
/-! l.FnExactOnSeg -/
noncomputable def lwOnSegC := ct2 EV ESeg (fun p0 p1 => ((I64 p0.1.1 ∧ I64 p0.1.2) ∧ I64 p0.2.1 ∧ I64 p0.2.2) ∧ (((I64 p1.1.1.1 ∧ I64 p1.1.1.2) ∧ I64 p1.1.2.1 ∧ I64 p1.1.2.2) ∧ ((I64 p1.2.1.1 ∧ I64 p1.2.1.2) ∧ I64 p1.2.2.1 ∧ I64 p1.2.2.2))) (fun p0 p1 => [.lit (.bool true)])
@[simp] theorem lwOnSegC_at (a b c d : Int) (e f g h i j k l : Int) : lwOnSegC [.agg [eQ a b, eQ c d], .agg [.agg [eQ e f, eQ g h], .agg [eQ i j, eQ k l]]] = (((I64 a ∧ I64 b) ∧ I64 c ∧ I64 d) ∧ (((I64 e ∧ I64 f) ∧ I64 g ∧ I64 h) ∧ ((I64 i ∧ I64 j) ∧ I64 k ∧ I64 l)), [.lit (.bool true)]) := ct2_at ((a, b), c, d) (((e, f), g, h), (i, j), k, l)
/-! l.FnExactFoot -/
noncomputable def lwFootC := ct2 EV ESeg (fun p0 p1 => ((I64 p0.1.1 ∧ I64 p0.1.2) ∧ I64 p0.2.1 ∧ I64 p0.2.2) ∧ (((I64 p1.1.1.1 ∧ I64 p1.1.1.2) ∧ I64 p1.1.2.1 ∧ I64 p1.1.2.2) ∧ ((I64 p1.2.1.1 ∧ I64 p1.2.1.2) ∧ I64 p1.2.2.1 ∧ I64 p1.2.2.2))) (fun p0 p1 => [.lit (.bool true)])
@[simp] theorem lwFootC_at (a b c d : Int) (e f g h i j k l : Int) : lwFootC [.agg [eQ a b, eQ c d], .agg [.agg [eQ e f, eQ g h], .agg [eQ i j, eQ k l]]] = (((I64 a ∧ I64 b) ∧ I64 c ∧ I64 d) ∧ (((I64 e ∧ I64 f) ∧ I64 g ∧ I64 h) ∧ ((I64 i ∧ I64 j) ∧ I64 k ∧ I64 l)), [.lit (.bool true)]) := ct2_at ((a, b), c, d) (((e, f), g, h), (i, j), k, l)
/-! l.FnExactNear -/
noncomputable def lwNearC := ct2 EV ESeg (fun p0 p1 => ((I64 p0.1.1 ∧ I64 p0.1.2) ∧ I64 p0.2.1 ∧ I64 p0.2.2) ∧ (((I64 p1.1.1.1 ∧ I64 p1.1.1.2) ∧ I64 p1.1.2.1 ∧ I64 p1.1.2.2) ∧ ((I64 p1.2.1.1 ∧ I64 p1.2.1.2) ∧ I64 p1.2.2.1 ∧ I64 p1.2.2.2))) (fun p0 p1 => [.lit (.bool true)])
@[simp] theorem lwNearC_at (a b c d : Int) (e f g h i j k l : Int) : lwNearC [.agg [eQ a b, eQ c d], .agg [.agg [eQ e f, eQ g h], .agg [eQ i j, eQ k l]]] = (((I64 a ∧ I64 b) ∧ I64 c ∧ I64 d) ∧ (((I64 e ∧ I64 f) ∧ I64 g ∧ I64 h) ∧ ((I64 i ∧ I64 j) ∧ I64 k ∧ I64 l)), [.lit (.bool true)]) := ct2_at ((a, b), c, d) (((e, f), g, h), (i, j), k, l)
/-! l.FnExactDist2 -/
noncomputable def lwDist2C := ct2 EV ESeg (fun p0 p1 => ((I64 p0.1.1 ∧ I64 p0.1.2) ∧ I64 p0.2.1 ∧ I64 p0.2.2) ∧ (((I64 p1.1.1.1 ∧ I64 p1.1.1.2) ∧ I64 p1.1.2.1 ∧ I64 p1.1.2.2) ∧ ((I64 p1.2.1.1 ∧ I64 p1.2.1.2) ∧ I64 p1.2.2.1 ∧ I64 p1.2.2.2))) (fun p0 p1 => [.lit (.bool true)])
@[simp] theorem lwDist2C_at (a b c d : Int) (e f g h i j k l : Int) : lwDist2C [.agg [eQ a b, eQ c d], .agg [.agg [eQ e f, eQ g h], .agg [eQ i j, eQ k l]]] = (((I64 a ∧ I64 b) ∧ I64 c ∧ I64 d) ∧ (((I64 e ∧ I64 f) ∧ I64 g ∧ I64 h) ∧ ((I64 i ∧ I64 j) ∧ I64 k ∧ I64 l)), [.lit (.bool true)]) := ct2_at ((a, b), c, d) (((e, f), g, h), (i, j), k, l)
noncomputable def lwDist2Tb : List (FuncId × Ct) := [(12, .data eqQC)]
theorem lwDist2Tb_ok : TbOK NF Try.prog (tbl lwDist2Tb) := tbl_cons (c := .data eqQC) eqQ_spec eqQ_ok tbl_nil

@[simp] theorem lwDist2Tb5 : tbl lwDist2Tb 12 = some (.data eqQC) := rfl
end Go.Proofs.Ytcgolmopbnhgeaa.Ae

/-! CmpAlong, CmpDist: both sides, and the laws. No condition. -/
namespace Go.Proofs.Ytcgolmopbnhgeaa.Ae
open Go Go.RowKit Go.Proofs.Ytcgolmopbnhgeaa.Dig
def EI2 : Enc (Int × Int) := EInt.pair EInt
def EI3 : Enc (Int × Int × Int) := EInt.trip EInt EInt
def EL3 : Enc (Int × Int × Int) := ⟨fun p => .sl 1 [i64D p.1, i64D p.2.1, i64D p.2.2], fun p q h => by
  simp only [D.sl.injEq, List.cons.injEq, and_true, true_and] at h
  exact Prod.ext (i64D_inj h.1) (Prod.ext (i64D_inj h.2.1) (i64D_inj h.2.2))⟩
@[simp] theorem EI2_e (a b : Int) : EI2.e (a, b) = .agg [.lit (.int .i64 a), .lit (.int .i64 b)] := rfl
@[simp] theorem EI3_e (a b c : Int) : EI3.e (a, b, c) = .agg [.lit (.int .i64 a), .lit (.int .i64 b), .lit (.int .i64 c)] := rfl
@[simp] theorem EL3_e (a b c : Int) : EL3.e (a, b, c) = .sl 1 [.lit (.int .i64 a), .lit (.int .i64 b), .lit (.int .i64 c)] := rfl
def EI2L : Enc (List (Int × Int)) := EI2.list 2
def EI3L : Enc (List (Int × Int × Int)) := EI3.list 3
/-- A moderate coordinate. -/
def cm (x : Int) : Prop := -67108864 ≤ x ∧ x ≤ 67108864
instance (x : Int) : Decidable (cm x) := by unfold cm; infer_instance
def c2 (p : Int × Int) : Prop := cm p.1 ∧ cm p.2
instance (p : Int × Int) : Decidable (c2 p) := by unfold c2; infer_instance
def c3 (p : Int × Int × Int) : Prop := cm p.1 ∧ cm p.2.1 ∧ cm p.2.2
instance (p : Int × Int × Int) : Decidable (c3 p) := by unfold c3; infer_instance
theorem all_drop' {α : Type} (f : α → Bool) : ∀ (l : List α) (k : Nat) (v : α), l[k]? = some v → (∀ y ∈ l.take k, f y = true) → (f v = false → l.all f = false) ∧ (f v = true → ∀ y ∈ l.take (k + 1), f y = true) := by
  intro l k v hx h
  constructor
  · intro hv
    rw [List.all_eq_false]
    exact ⟨v, List.mem_of_getElem? hx, by rw [hv]; simp⟩
  · intro hv y hy
    rw [List.take_add_one, hx] at hy
    rcases List.mem_append.1 hy with hy | hy
    · exact h y hy
    · simp at hy; rw [hy]; exact hv
theorem pt2_at {l : List (Int × Int)} {k : Nat} (h : k < l.length) : ∃ a b, l[k]? = some (a, b) ∧ ix (l.map EI2.e) k = some (.agg [.lit (.int .i64 a), .lit (.int .i64 b)]) := by
  have hx := List.getElem?_eq_getElem h
  obtain ⟨⟨a, b⟩, hq⟩ : ∃ q, q = l[k] := ⟨_, rfl⟩
  rw [← hq] at hx
  exact ⟨a, b, hx, by unfold ix; rw [List.getElem?_map, hx]; rfl⟩
theorem pt3_at {l : List (Int × Int × Int)} {k : Nat} (h : k < l.length) : ∃ a b c, l[k]? = some (a, b, c) ∧ ix (l.map EI3.e) k = some (.agg [.lit (.int .i64 a), .lit (.int .i64 b), .lit (.int .i64 c)]) := by
  have hx := List.getElem?_eq_getElem h
  obtain ⟨⟨a, b, c⟩, hq⟩ : ∃ q, q = l[k] := ⟨_, rfl⟩
  rw [← hq] at hx
  exact ⟨a, b, c, hx, by unfold ix; rw [List.getElem?_map, hx]; rfl⟩

/-! i.tame2 -/
noncomputable def tame2C := ct1 EI2L (fun l => l.length < 4611686018427387904) (fun l => [.lit (.bool (l.all fun p => decide (c2 p)))])
@[simp] theorem tame2C_at (l : List (Int × Int)) : tame2C [.sl 2 (l.map EI2.e)] = (l.length < 4611686018427387904, [.lit (.bool (l.all fun p => decide (c2 p)))]) := ct1_at (A := EI2L) l
def tame2S (l : List (Int × Int)) (k : Nat) : St := ⟨[.any, .any, .any, .any, .any, .dat (.sl 2 (l.map EI2.e)), .dat (.lit (.int .i64 l.length)), .dat (.lit (.int .i64 k)), .any, .any, .any, .any, .any, .any, .any, .any, .any, .any, .any, .any, .any, .any, .any, .any, .any, .any, .any, .any, .any, .any], [none, none, none, none, none, none, none, none, none, none, none, none, none, none, none, none, none, none, none, none, none, none, none, none, none, none, none, none, none, none]⟩
theorem tame2_spec {N : NR} : SpecD N Try.prog 50 tame2C := by
  refine rd1 (mf := fun f => false) (tb := tbl []) tbl_nil (fn := Try.f50) (by kernel_rfl) rfl (by kernel_rfl) (by kernel_rfl) ?_
  rintro l hl
  have hl : l.length < 4611686018427387904 := hl
  generalize hr : (l.all fun p => decide (c2 p)) = r
  show awp _ _ _ _ (start _ ([.sl 2 (l.map EI2.e)].map .dat) []) (endK _ _ _ ([D.lit (.bool r)].map .dat) [])
  simp only [Try.f50]
  simp [-D.isLit]
  refine loop_go (fun n st => ∃ k, n = l.length - k ∧ k ≤ l.length ∧ (∀ y ∈ l.take k, decide (c2 y) = true) ∧ st = tame2S l k) (s0 := tame2S l 0) (n := l.length) (snd_of (by simp [LeT, tame2S]) (by simp [tame2S])) ⟨0, rfl, Nat.zero_le _, by simp, rfl⟩ ?_
  rintro n st ⟨k, hn, hk, hall, rfl⟩ KN hN
  by_cases h : k < l.length
  · obtain ⟨a, b, hx, e1⟩ := pt2_at h
    obtain ⟨a1, a2⟩ := all_drop' (fun v => decide (c2 v)) l k _ hx hall
    have w1 : IntKind.i64.wrap ((k : Int) + 1) = (k : Int) + 1 := i64_id _ (by omega) (by omega)
    by_cases hok : c2 (a, b)
    · have k1 : ¬ a < -67108864 := by have := hok.1.1; show ¬ a < _; omega
      have k2 : ¬ 67108864 < a := by have := hok.1.2; show ¬ _ < a; omega
      have k3 : ¬ b < -67108864 := by have := hok.2.1; show ¬ b < _; omega
      have k4 : ¬ 67108864 < b := by have := hok.2.2; show ¬ _ < b; omega
      simp [-D.isLit, tame2S, h, e1, k1, k2, k3, k4, w1]
      exact hN _ (nx (m := l.length - (k + 1)) (s'' := tame2S l (k + 1)) (snd_obs (n := 30) [] rfl (by simp) (by simp [tame2S])) ⟨k + 1, rfl, h, a2 (decide_eq_true hok), rfl⟩ (by omega))
    · have hb : a < -67108864 ∨ 67108864 < a ∨ b < -67108864 ∨ 67108864 < b := by
        apply Classical.byContradiction
        intro hh
        exact hok ⟨⟨by show _ ≤ a; omega, by show a ≤ _; omega⟩, ⟨by show _ ≤ b; omega, by show b ≤ _; omega⟩⟩
      have a1 := a1 (decide_eq_false hok)
      rw [hr] at a1
      subst a1
      by_cases k1 : a < -67108864
      · simp [-D.isLit, tame2S, h, e1, k1]
      · by_cases k2 : 67108864 < a
        · simp [-D.isLit, tame2S, h, e1, k1, k2]
        · by_cases k3 : b < -67108864
          · simp [-D.isLit, tame2S, h, e1, k1, k2, k3]
          · have k4 : 67108864 < b := by omega
            simp [-D.isLit, tame2S, h, e1, k1, k2, k3, k4]
  · have hkl : k = l.length := by omega
    subst hkl
    rw [List.take_length] at hall
    have hrt : r = true := by rw [← hr, List.all_eq_true]; exact hall
    subst hrt
    simp [tame2S]
theorem tame2_ok : callable Try.prog 50 = true := by kernel_rfl
theorem tame2_2 (a b c d : Int) : tame2C [.sl 2 [.agg [.lit (.int .i64 a), .lit (.int .i64 b)], .agg [.lit (.int .i64 c), .lit (.int .i64 d)]]] = (True, [.lit (.bool (decide (c2 (a, b)) && decide (c2 (c, d))))]) := by
  have h1 := tame2C_at [(a, b), (c, d)]
  have h2 : (([(a, b), (c, d)] : List (Int × Int)).length < 4611686018427387904) = True := eq_true (by simp)
  rw [h2] at h1
  have h3 : (([(a, b), (c, d)] : List (Int × Int)).all fun p => decide (c2 p)) = (decide (c2 (a, b)) && decide (c2 (c, d))) := by simp
  rw [h3] at h1
  exact h1
attribute [simp] tame2_2
theorem c3_c2 (a b c : Int) : c3 (a, b, c) ↔ c2 (a, b) ∧ c2 (c, 0) := by
  unfold c3 c2 cm
  simp only []
  omega

/-! i.tame3 -/
noncomputable def tame3C := ct1 EI3L (fun l => l.length < 4611686018427387904) (fun l => [.lit (.bool (l.all fun p => decide (c3 p)))])
@[simp] theorem tame3C_at (l : List (Int × Int × Int)) : tame3C [.sl 3 (l.map EI3.e)] = (l.length < 4611686018427387904, [.lit (.bool (l.all fun p => decide (c3 p)))]) := ct1_at (A := EI3L) l
noncomputable def tame3Tb : List (FuncId × Ct) := [(50, .data tame2C)]
theorem tame3Tb_ok {N : NR} : TbOK N Try.prog (tbl tame3Tb) := tbl_cons (c := .data tame2C) tame2_spec tame2_ok tbl_nil

@[simp] theorem tame3Tb1 : tbl tame3Tb 50 = some (.data tame2C) := rfl
def tame3S (l : List (Int × Int × Int)) (k : Nat) : St := ⟨[.any, .any, .any, .any, .any, .dat (.sl 3 (l.map EI3.e)), .dat (.lit (.int .i64 l.length)), .dat (.lit (.int .i64 k)), .any, .any, .any, .any, .any, .any, .any, .any, .any, .any, .any, .any, .any, .any, .any], [none, none, none, none, none, none, none, none, none, none, none, none, none, none, none, none, none, none, none, none, none, none, none]⟩
theorem tame3_spec {N : NR} : SpecD N Try.prog 43 tame3C := by
  refine rd1 (mf := fun f => false) tame3Tb_ok (fn := Try.f43) (by kernel_rfl) rfl (by kernel_rfl) (by kernel_rfl) ?_
  rintro l hl
  have hl : l.length < 4611686018427387904 := hl
  generalize hr : (l.all fun p => decide (c3 p)) = r
  show awp _ _ _ _ (start _ ([.sl 3 (l.map EI3.e)].map .dat) []) (endK _ _ _ ([D.lit (.bool r)].map .dat) [])
  simp only [Try.f43]
  simp [-D.isLit]
  refine loop_go (fun n st => ∃ k, n = l.length - k ∧ k ≤ l.length ∧ (∀ y ∈ l.take k, decide (c3 y) = true) ∧ st = tame3S l k) (s0 := tame3S l 0) (n := l.length) (snd_of (by simp [LeT, tame3S]) (by simp [tame3S])) ⟨0, rfl, Nat.zero_le _, by simp, rfl⟩ ?_
  rintro n st ⟨k, hn, hk, hall, rfl⟩ KN hN
  by_cases h : k < l.length
  · obtain ⟨a, b, c, hx, e1⟩ := pt3_at h
    obtain ⟨a1, a2⟩ := all_drop' (fun v => decide (c3 v)) l k _ hx hall
    have w1 : IntKind.i64.wrap ((k : Int) + 1) = (k : Int) + 1 := i64_id _ (by omega) (by omega)
    by_cases hok : c3 (a, b, c)
    · have k1 := (c3_c2 a b c).1 hok
      simp [-D.isLit, tame3S, h, e1, k1.1, k1.2, w1]
      exact hN _ (nx (m := l.length - (k + 1)) (s'' := tame3S l (k + 1)) (snd_obs (n := 23) [] rfl (by simp) (by simp [tame3S])) ⟨k + 1, rfl, h, a2 (decide_eq_true hok), rfl⟩ (by omega))
    · have hb : (decide (c2 (a, b)) && decide (c2 (c, 0))) = false := by rw [← Bool.decide_and]; exact decide_eq_false (fun x => hok ((c3_c2 a b c).2 x))
      have a1 := a1 (decide_eq_false hok)
      rw [hr] at a1
      subst a1
      simp [-D.isLit, tame3S, h, e1, hb]
  · have hkl : k = l.length := by omega
    subst hkl
    rw [List.take_length] at hall
    have hrt : r = true := by rw [← hr, List.all_eq_true]; exact hall
    subst hrt
    simp [tame3S]
theorem tame3_ok : callable Try.prog 43 = true := by kernel_rfl

/-! s.l2In -/
noncomputable def l2InC := ct1 EInt (fun p0 => True) (fun p0 => [.lit (.bool (decide (cm p0)))])
@[simp] theorem l2InC_at (a : Int) : l2InC [.lit (.int .i64 a)] = (True, [.lit (.bool (decide (cm a)))]) := ct1_at a
theorem l2In_spec : SpecD NF Try.prog 91 l2InC := by
  refine rd1 (mf := fun f => false) (tb := tbl []) tbl_nil (fn := Try.f91) (by kernel_rfl) rfl (by kernel_rfl) (by kernel_rfl) ?_
  rintro a hp
  have hp : True := hp
  show awp _ _ _ _ (start _ ([.lit (.int .i64 a)].map .dat) []) (endK _ _ _ (([.lit (.bool (decide (cm a)))]).map .dat) [])
  by_cases h1 : -67108864 ≤ a <;> by_cases h2 : a ≤ 67108864 <;> simp [-D.isLit, Try.f91, cm, h1, h2]
theorem l2In_ok : callable Try.prog 91 = true := by kernel_rfl

/-! s.l2Tame -/
noncomputable def l2TameC := ct1 EI3L (fun l => l.length < 4611686018427387904) (fun l => [.lit (.bool (l.all fun p => decide (c3 p)))])
@[simp] theorem l2TameC_at (l : List (Int × Int × Int)) : l2TameC [.sl 3 (l.map EI3.e)] = (l.length < 4611686018427387904, [.lit (.bool (l.all fun p => decide (c3 p)))]) := ct1_at (A := EI3L) l
noncomputable def l2TameTb : List (FuncId × Ct) := [(91, .data l2InC)]
theorem l2TameTb_ok : TbOK NF Try.prog (tbl l2TameTb) := tbl_cons (c := .data l2InC) l2In_spec l2In_ok tbl_nil

@[simp] theorem l2TameTb1 : tbl l2TameTb 91 = some (.data l2InC) := rfl
def l2TameS (l : List (Int × Int × Int)) (k : Nat) : St := ⟨[.dat (.sl 3 (l.map EI3.e)), .any, .any, .dat (.lit (.int .i64 k)), .any, .any, .any, .any, .any, .any, .any, .any, .any, .any, .any, .any, .any, .any, .any, .any, .any, .any, .any, .any, .any, .any, .any, .any, .any, .any, .any, .any, .any, .any, .any], [none, none, none, none, none, none, none, none, none, none, none, none, none, none, none, none, none, none, none, none, none, none, none, none, none, none, none, none, none, none, none, none, none, none, none]⟩
theorem l2Tame_spec : SpecD NF Try.prog 40 l2TameC := by
  refine rd1 (mf := fun f => false) l2TameTb_ok (fn := Try.f40) (by kernel_rfl) rfl (by kernel_rfl) (by kernel_rfl) ?_
  rintro l hl
  have hl : l.length < 4611686018427387904 := hl
  generalize hr : (l.all fun p => decide (c3 p)) = r
  show awp _ _ _ _ (start _ ([.sl 3 (l.map EI3.e)].map .dat) []) (endK _ _ _ ([D.lit (.bool r)].map .dat) [])
  simp only [Try.f40]
  simp [-D.isLit]
  refine loop_go (fun n st => ∃ k, n = l.length - k ∧ k ≤ l.length ∧ (∀ y ∈ l.take k, decide (c3 y) = true) ∧ st = l2TameS l k) (s0 := l2TameS l 0) (n := l.length) (snd_of (by simp [LeT, l2TameS]) (by simp [l2TameS])) ⟨0, rfl, Nat.zero_le _, by simp, rfl⟩ ?_
  rintro n st ⟨k, hn, hk, hall, rfl⟩ KN hN
  by_cases h : k < l.length
  · obtain ⟨a, b, c, hx, e1⟩ := pt3_at h
    obtain ⟨a1, a2⟩ := all_drop' (fun v => decide (c3 v)) l k _ hx hall
    have w1 : IntKind.i64.wrap ((k : Int) + 1) = (k : Int) + 1 := i64_id _ (by omega) (by omega)
    by_cases hok : c3 (a, b, c)
    · have k1 : cm a := hok.1
      have k2 : cm b := hok.2.1
      have k3 : cm c := hok.2.2
      simp [-D.isLit, l2TameS, h, e1, k1, k2, k3, w1]
      exact hN _ (nx (m := l.length - (k + 1)) (s'' := l2TameS l (k + 1)) (snd_obs (n := 35) [] rfl (by simp) (by simp [l2TameS])) ⟨k + 1, rfl, h, a2 (decide_eq_true hok), rfl⟩ (by omega))
    · have hb : cm a → cm b → ¬ cm c := fun x y z => hok ⟨x, y, z⟩
      have a1 := a1 (decide_eq_false hok)
      rw [hr] at a1
      subst a1
      by_cases k1 : cm a
      · by_cases k2 : cm b
        · have k3 := hb k1 k2
          simp [-D.isLit, l2TameS, h, e1, k1, k2, k3]
        · simp [-D.isLit, l2TameS, h, e1, k1, k2]
      · simp [-D.isLit, l2TameS, h, e1, k1]
  · have hkl : k = l.length := by omega
    subst hkl
    rw [List.take_length] at hall
    have hrt : r = true := by rw [← hr, List.all_eq_true]; exact hall
    subst hrt
    simp [l2TameS]
theorem l2Tame_ok : callable Try.prog 40 = true := by kernel_rfl
theorem tame3_3 (a b c d e f g h i : Int) : tame3C [.sl 3 [.agg [.lit (.int .i64 a), .lit (.int .i64 b), .lit (.int .i64 c)], .agg [.lit (.int .i64 d), .lit (.int .i64 e), .lit (.int .i64 f)], .agg [.lit (.int .i64 g), .lit (.int .i64 h), .lit (.int .i64 i)]]] = (True, [.lit (.bool (decide (c3 (a, b, c) ∧ c3 (d, e, f) ∧ c3 (g, h, i))))]) := by
  have h1 := tame3C_at [(a, b, c), (d, e, f), (g, h, i)]
  have h2 : (([(a, b, c), (d, e, f), (g, h, i)] : List (Int × Int × Int)).length < 4611686018427387904) = True := eq_true (by simp)
  rw [h2] at h1
  have h3 : (([(a, b, c), (d, e, f), (g, h, i)] : List (Int × Int × Int)).all fun p => decide (c3 p)) = decide (c3 (a, b, c) ∧ c3 (d, e, f) ∧ c3 (g, h, i)) := by rw [Bool.eq_iff_iff, decide_eq_true_eq]; simp
  rw [h3] at h1
  exact h1
attribute [simp] tame3_3
theorem tame3_4 (a b c d e f g h i j k l : Int) : tame3C [.sl 3 [.agg [.lit (.int .i64 a), .lit (.int .i64 b), .lit (.int .i64 c)], .agg [.lit (.int .i64 d), .lit (.int .i64 e), .lit (.int .i64 f)], .agg [.lit (.int .i64 g), .lit (.int .i64 h), .lit (.int .i64 i)], .agg [.lit (.int .i64 j), .lit (.int .i64 k), .lit (.int .i64 l)]]] = (True, [.lit (.bool (decide (c3 (a, b, c) ∧ c3 (d, e, f) ∧ c3 (g, h, i) ∧ c3 (j, k, l))))]) := by
  have h1 := tame3C_at [(a, b, c), (d, e, f), (g, h, i), (j, k, l)]
  have h2 : (([(a, b, c), (d, e, f), (g, h, i), (j, k, l)] : List (Int × Int × Int)).length < 4611686018427387904) = True := eq_true (by simp)
  rw [h2] at h1
  have h3 : (([(a, b, c), (d, e, f), (g, h, i), (j, k, l)] : List (Int × Int × Int)).all fun p => decide (c3 p)) = decide (c3 (a, b, c) ∧ c3 (d, e, f) ∧ c3 (g, h, i) ∧ c3 (j, k, l)) := by rw [Bool.eq_iff_iff, decide_eq_true_eq]; simp
  rw [h3] at h1
  exact h1
attribute [simp] tame3_4
theorem l2Tame_3 (a b c d e f g h i : Int) : l2TameC [.sl 3 [.agg [.lit (.int .i64 a), .lit (.int .i64 b), .lit (.int .i64 c)], .agg [.lit (.int .i64 d), .lit (.int .i64 e), .lit (.int .i64 f)], .agg [.lit (.int .i64 g), .lit (.int .i64 h), .lit (.int .i64 i)]]] = (True, [.lit (.bool (decide (c3 (a, b, c) ∧ c3 (d, e, f) ∧ c3 (g, h, i))))]) := by
  have h1 := l2TameC_at [(a, b, c), (d, e, f), (g, h, i)]
  have h2 : (([(a, b, c), (d, e, f), (g, h, i)] : List (Int × Int × Int)).length < 4611686018427387904) = True := eq_true (by simp)
  rw [h2] at h1
  have h3 : (([(a, b, c), (d, e, f), (g, h, i)] : List (Int × Int × Int)).all fun p => decide (c3 p)) = decide (c3 (a, b, c) ∧ c3 (d, e, f) ∧ c3 (g, h, i)) := by rw [Bool.eq_iff_iff, decide_eq_true_eq]; simp
  rw [h3] at h1
  exact h1
attribute [simp] l2Tame_3
theorem l2Tame_4 (a b c d e f g h i j k l : Int) : l2TameC [.sl 3 [.agg [.lit (.int .i64 a), .lit (.int .i64 b), .lit (.int .i64 c)], .agg [.lit (.int .i64 d), .lit (.int .i64 e), .lit (.int .i64 f)], .agg [.lit (.int .i64 g), .lit (.int .i64 h), .lit (.int .i64 i)], .agg [.lit (.int .i64 j), .lit (.int .i64 k), .lit (.int .i64 l)]]] = (True, [.lit (.bool (decide (c3 (a, b, c) ∧ c3 (d, e, f) ∧ c3 (g, h, i) ∧ c3 (j, k, l))))]) := by
  have h1 := l2TameC_at [(a, b, c), (d, e, f), (g, h, i), (j, k, l)]
  have h2 : (([(a, b, c), (d, e, f), (g, h, i), (j, k, l)] : List (Int × Int × Int)).length < 4611686018427387904) = True := eq_true (by simp)
  rw [h2] at h1
  have h3 : (([(a, b, c), (d, e, f), (g, h, i), (j, k, l)] : List (Int × Int × Int)).all fun p => decide (c3 p)) = decide (c3 (a, b, c) ∧ c3 (d, e, f) ∧ c3 (g, h, i) ∧ c3 (j, k, l)) := by rw [Bool.eq_iff_iff, decide_eq_true_eq]; simp
  rw [h3] at h1
  exact h1
attribute [simp] l2Tame_4

/-! i.less3 -/
noncomputable def less3C := ct2 EI3 EI3 (fun p0 p1 => c3 (p0.1, p0.2.1, p0.2.2) ∧ c3 (p1.1, p1.2.1, p1.2.2)) (fun p0 p1 => [.agg [.lit (.int .i64 (p0.1 - p1.1)), .lit (.int .i64 (p0.2.1 - p1.2.1)), .lit (.int .i64 (p0.2.2 - p1.2.2))]])
@[simp] theorem less3C_at (a b c : Int) (d e f : Int) : less3C [.agg [.lit (.int .i64 a), .lit (.int .i64 b), .lit (.int .i64 c)], .agg [.lit (.int .i64 d), .lit (.int .i64 e), .lit (.int .i64 f)]] = (c3 (a, b, c) ∧ c3 (d, e, f), [.agg [.lit (.int .i64 (a - d)), .lit (.int .i64 (b - e)), .lit (.int .i64 (c - f))]]) := ct2_at (a, b, c) (d, e, f)
theorem less3_spec {N : NR} : SpecD N Try.prog 44 less3C := by
  refine rd2 (mf := fun f => false) (tb := tbl []) tbl_nil (fn := Try.f44) (by kernel_rfl) rfl (by kernel_rfl) (by kernel_rfl) ?_
  rintro ⟨a, b, c⟩ ⟨d, e, f⟩ hp
  have hp : c3 (a, b, c) ∧ c3 (d, e, f) := hp
  show awp _ _ _ _ (start _ ([.agg [.lit (.int .i64 a), .lit (.int .i64 b), .lit (.int .i64 c)], .agg [.lit (.int .i64 d), .lit (.int .i64 e), .lit (.int .i64 f)]].map .dat) []) (endK _ _ _ (([.agg [.lit (.int .i64 (a - d)), .lit (.int .i64 (b - e)), .lit (.int .i64 (c - f))]]).map .dat) [])
  obtain ⟨⟨a1, a2, a3⟩, a4, a5, a6⟩ := hp
  have a1 : -67108864 ≤ a ∧ a ≤ 67108864 := a1
  have a2 : -67108864 ≤ b ∧ b ≤ 67108864 := a2
  have a3 : -67108864 ≤ c ∧ c ≤ 67108864 := a3
  have a4 : -67108864 ≤ d ∧ d ≤ 67108864 := a4
  have a5 : -67108864 ≤ e ∧ e ≤ 67108864 := a5
  have a6 : -67108864 ≤ f ∧ f ≤ 67108864 := a6
  have w1 : IntKind.i64.wrap (a - d) = a - d := i64_id _ (by omega) (by omega)
  have w2 : IntKind.i64.wrap (b - e) = b - e := i64_id _ (by omega) (by omega)
  have w3 : IntKind.i64.wrap (c - f) = c - f := i64_id _ (by omega) (by omega)
  simp [-D.isLit, Try.f44, w1, w2, w3]
theorem less3_ok : callable Try.prog 44 = true := by kernel_rfl

/-! s.l2Sub3 -/
noncomputable def l2Sub3C := ct2 EI3 EI3 (fun p0 p1 => c3 (p0.1, p0.2.1, p0.2.2) ∧ c3 (p1.1, p1.2.1, p1.2.2)) (fun p0 p1 => [.sl 1 [.lit (.int .i64 (p0.1 - p1.1)), .lit (.int .i64 (p0.2.1 - p1.2.1)), .lit (.int .i64 (p0.2.2 - p1.2.2))]])
@[simp] theorem l2Sub3C_at (a b c : Int) (d e f : Int) : l2Sub3C [.agg [.lit (.int .i64 a), .lit (.int .i64 b), .lit (.int .i64 c)], .agg [.lit (.int .i64 d), .lit (.int .i64 e), .lit (.int .i64 f)]] = (c3 (a, b, c) ∧ c3 (d, e, f), [.sl 1 [.lit (.int .i64 (a - d)), .lit (.int .i64 (b - e)), .lit (.int .i64 (c - f))]]) := ct2_at (a, b, c) (d, e, f)
theorem l2Sub3_spec : SpecD NF Try.prog 52 l2Sub3C := by
  refine rd2 (mf := fun f => false) (tb := tbl []) tbl_nil (fn := Try.f52) (by kernel_rfl) rfl (by kernel_rfl) (by kernel_rfl) ?_
  rintro ⟨a, b, c⟩ ⟨d, e, f⟩ hp
  have hp : c3 (a, b, c) ∧ c3 (d, e, f) := hp
  show awp _ _ _ _ (start _ ([.agg [.lit (.int .i64 a), .lit (.int .i64 b), .lit (.int .i64 c)], .agg [.lit (.int .i64 d), .lit (.int .i64 e), .lit (.int .i64 f)]].map .dat) []) (endK _ _ _ (([.sl 1 [.lit (.int .i64 (a - d)), .lit (.int .i64 (b - e)), .lit (.int .i64 (c - f))]]).map .dat) [])
  obtain ⟨⟨a1, a2, a3⟩, a4, a5, a6⟩ := hp
  have a1 : -67108864 ≤ a ∧ a ≤ 67108864 := a1
  have a2 : -67108864 ≤ b ∧ b ≤ 67108864 := a2
  have a3 : -67108864 ≤ c ∧ c ≤ 67108864 := a3
  have a4 : -67108864 ≤ d ∧ d ≤ 67108864 := a4
  have a5 : -67108864 ≤ e ∧ e ≤ 67108864 := a5
  have a6 : -67108864 ≤ f ∧ f ≤ 67108864 := a6
  have w1 : IntKind.i64.wrap (a - d) = a - d := i64_id _ (by omega) (by omega)
  have w2 : IntKind.i64.wrap (b - e) = b - e := i64_id _ (by omega) (by omega)
  have w3 : IntKind.i64.wrap (c - f) = c - f := i64_id _ (by omega) (by omega)
  simp [-D.isLit, Try.f52, w1, w2, w3]
theorem l2Sub3_ok : callable Try.prog 52 = true := by kernel_rfl
/-- A difference of moderate coordinates. -/
def dm (x : Int) : Prop := -134217728 ≤ x ∧ x ≤ 134217728
theorem dm_sub {a b : Int} (h1 : cm a) (h2 : cm b) : dm (a - b) := by unfold cm dm at *; omega
theorem dm_mul {a b : Int} (h1 : dm a) (h2 : dm b) : -18014398509481984 ≤ a * b ∧ a * b ≤ 18014398509481984 := by
  unfold dm at *
  have e : (a * b).natAbs ≤ 134217728 * 134217728 := by
    rw [Int.natAbs_mul]
    exact Nat.mul_le_mul (by omega) (by omega)
  omega
def dotI (a b c d e f : Int) : Int := a * d + b * e + c * f

/-! i.dot64 -/
noncomputable def dot64C := ct2 EI3 EI3 (fun p0 p1 => dm p0.1 ∧ dm p0.2.1 ∧ dm p0.2.2 ∧ dm p1.1 ∧ dm p1.2.1 ∧ dm p1.2.2) (fun p0 p1 => [.lit (.int .i64 (dotI p0.1 p0.2.1 p0.2.2 p1.1 p1.2.1 p1.2.2))])
@[simp] theorem dot64C_at (a b c : Int) (d e f : Int) : dot64C [.agg [.lit (.int .i64 a), .lit (.int .i64 b), .lit (.int .i64 c)], .agg [.lit (.int .i64 d), .lit (.int .i64 e), .lit (.int .i64 f)]] = (dm a ∧ dm b ∧ dm c ∧ dm d ∧ dm e ∧ dm f, [.lit (.int .i64 (dotI a b c d e f))]) := ct2_at (a, b, c) (d, e, f)
/-! i.sign64 -/
noncomputable def sign64C := ct1 EInt (fun p0 => True) (fun p0 => [.lit (.int .i64 p0.sign)])
@[simp] theorem sign64C_at (a : Int) : sign64C [.lit (.int .i64 a)] = (True, [.lit (.int .i64 a.sign)]) := ct1_at a
theorem dm_i64 {a : Int} (h : dm a) : I64 a := by unfold dm at h; unfold I64; omega
theorem dm_qsz {a : Int} (h : dm a) : qsz (a : Rat) ≤ 2 := by
  have h1 : QI a 1 := by unfold dm at h; exact ⟨by omega, by simp, by omega, by omega⟩
  have := QI_qsz h1
  rw [rat_one] at this
  exact this
def zNm : D := .agg [.lit (.int .i64 0), .lit (.int .i64 0), .lit (.slice none 0 0)]
@[simp] theorem zNm_size : zNm.size = 3 := rfl
def l2DS (a b c d e f : Int) (g : Rat) (k : Nat) : St := ⟨[.dat (.sl 1 [.lit (.int .i64 a), .lit (.int .i64 b), .lit (.int .i64 c)]), .dat (.sl 1 [.lit (.int .i64 d), .lit (.int .i64 e), .lit (.int .i64 f)]), .any, .any, .obj 4 [] 0, .obj 5 [] 0, .dat (.lit (.int .i64 k)), .any, .any, .any, .any, .any, .any, .any, .any, .any, .any, .any, .any, .any, .any, .any, .any, .any, .any, .any, .any, .any], [none, none, none, none, some (.box zNm), some (.box (nD g)), none, none, none, none, none, none, none, none, none, none, none, none, none, none, none, none, none, none, none, none, none, none]⟩

/-! s.l2Dot -/
noncomputable def l2DotC := ct2 EL3 EL3 (fun p0 p1 => dm p0.1 ∧ dm p0.2.1 ∧ dm p0.2.2 ∧ dm p1.1 ∧ dm p1.2.1 ∧ dm p1.2.2) (fun p0 p1 => [nD ((dotI p0.1 p0.2.1 p0.2.2 p1.1 p1.2.1 p1.2.2 : Int) : Rat)])
@[simp] theorem l2DotC_at (a b c : Int) (d e f : Int) : l2DotC [.sl 1 [.lit (.int .i64 a), .lit (.int .i64 b), .lit (.int .i64 c)], .sl 1 [.lit (.int .i64 d), .lit (.int .i64 e), .lit (.int .i64 f)]] = (dm a ∧ dm b ∧ dm c ∧ dm d ∧ dm e ∧ dm f, [nD ((dotI a b c d e f : Int) : Rat)]) := ct2_at (a, b, c) (d, e, f)
noncomputable def l2DotTb : List (FuncId × Ct) := [(95, .data l1rIntC), (96, .data nMulC), (98, .data nAddC)]
theorem l2DotTb_ok : TbOK NF Try.prog (tbl l2DotTb) := tbl_cons (c := .data l1rIntC) l1rInt_spec l1rInt_ok (tbl_cons (c := .data nMulC) nMul_spec l1rMul_ok (tbl_cons (c := .data nAddC) nAdd_spec l1rAdd_ok tbl_nil))

@[simp] theorem l2DotTb1 : tbl l2DotTb 95 = some (.data l1rIntC) := rfl
@[simp] theorem l2DotTb2 : tbl l2DotTb 96 = some (.data nMulC) := rfl
@[simp] theorem l2DotTb3 : tbl l2DotTb 98 = some (.data nAddC) := rfl
theorem sgn_cast (n : Int) : ((n : Int) : Rat).num.sign = n.sign := by simp
theorem qcmp_cast (m n : Int) : qcmp (m : Rat) (n : Rat) = (m - n).sign := by unfold qcmp; simp

/-! i.CmpAlong -/
noncomputable def iAlC := ct4 EI3 EI3 EI3 EI3 (fun p0 p1 p2 p3 => True) (fun p0 p1 p2 p3 => [.lit (.int .i64 (if c3 (p0.1, p0.2.1, p0.2.2) ∧ c3 (p1.1, p1.2.1, p1.2.2) ∧ c3 (p2.1, p2.2.1, p2.2.2) ∧ c3 (p3.1, p3.2.1, p3.2.2) then (dotI (p1.1 - p0.1) (p1.2.1 - p0.2.1) (p1.2.2 - p0.2.2) (p3.1 - p2.1) (p3.2.1 - p2.2.1) (p3.2.2 - p2.2.2)).sign else 2))])
@[simp] theorem iAlC_at (a b c : Int) (d e f : Int) (g h i : Int) (j k l : Int) : iAlC [.agg [.lit (.int .i64 a), .lit (.int .i64 b), .lit (.int .i64 c)], .agg [.lit (.int .i64 d), .lit (.int .i64 e), .lit (.int .i64 f)], .agg [.lit (.int .i64 g), .lit (.int .i64 h), .lit (.int .i64 i)], .agg [.lit (.int .i64 j), .lit (.int .i64 k), .lit (.int .i64 l)]] = (True, [.lit (.int .i64 (if c3 (a, b, c) ∧ c3 (d, e, f) ∧ c3 (g, h, i) ∧ c3 (j, k, l) then (dotI (d - a) (e - b) (f - c) (j - g) (k - h) (l - i)).sign else 2))]) := ct4_at (a, b, c) (d, e, f) (g, h, i) (j, k, l)
noncomputable def iAlTb : List (FuncId × Ct) := [(43, .data tame3C), (44, .data less3C)]
theorem iAlTb_ok {N : NR} : TbOK N Try.prog (tbl iAlTb) := tbl_cons (c := .data tame3C) tame3_spec tame3_ok (tbl_cons (c := .data less3C) less3_spec less3_ok tbl_nil)

@[simp] theorem iAlTb1 : tbl iAlTb 43 = some (.data tame3C) := rfl
@[simp] theorem iAlTb2 : tbl iAlTb 44 = some (.data less3C) := rfl
/-! s.CmpAlong -/
noncomputable def sAlC := ct4 EI3 EI3 EI3 EI3 (fun p0 p1 p2 p3 => True) (fun p0 p1 p2 p3 => [.lit (.int .i64 (if c3 (p0.1, p0.2.1, p0.2.2) ∧ c3 (p1.1, p1.2.1, p1.2.2) ∧ c3 (p2.1, p2.2.1, p2.2.2) ∧ c3 (p3.1, p3.2.1, p3.2.2) then (dotI (p1.1 - p0.1) (p1.2.1 - p0.2.1) (p1.2.2 - p0.2.2) (p3.1 - p2.1) (p3.2.1 - p2.2.1) (p3.2.2 - p2.2.2)).sign else 2))])
@[simp] theorem sAlC_at (a b c : Int) (d e f : Int) (g h i : Int) (j k l : Int) : sAlC [.agg [.lit (.int .i64 a), .lit (.int .i64 b), .lit (.int .i64 c)], .agg [.lit (.int .i64 d), .lit (.int .i64 e), .lit (.int .i64 f)], .agg [.lit (.int .i64 g), .lit (.int .i64 h), .lit (.int .i64 i)], .agg [.lit (.int .i64 j), .lit (.int .i64 k), .lit (.int .i64 l)]] = (True, [.lit (.int .i64 (if c3 (a, b, c) ∧ c3 (d, e, f) ∧ c3 (g, h, i) ∧ c3 (j, k, l) then (dotI (d - a) (e - b) (f - c) (j - g) (k - h) (l - i)).sign else 2))]) := ct4_at (a, b, c) (d, e, f) (g, h, i) (j, k, l)
noncomputable def sAlTb : List (FuncId × Ct) := [(40, .data l2TameC), (52, .data l2Sub3C), (41, .data nSignC)]
theorem sAlTb_ok : TbOK NF Try.prog (tbl sAlTb) := tbl_cons (c := .data l2TameC) l2Tame_spec l2Tame_ok (tbl_cons (c := .data l2Sub3C) l2Sub3_spec l2Sub3_ok (tbl_cons (c := .data nSignC) nSign_spec l1rSign_ok tbl_nil))

@[simp] theorem sAlTb1 : tbl sAlTb 40 = some (.data l2TameC) := rfl
@[simp] theorem sAlTb2 : tbl sAlTb 52 = some (.data l2Sub3C) := rfl
@[simp] theorem sAlTb4 : tbl sAlTb 41 = some (.data nSignC) := rfl
/-! i.CmpDist -/
noncomputable def iDiC := ct3 EI3 EI3 EI3 (fun p0 p1 p2 => True) (fun p0 p1 p2 => [.lit (.int .i64 (if c3 (p0.1, p0.2.1, p0.2.2) ∧ c3 (p1.1, p1.2.1, p1.2.2) ∧ c3 (p2.1, p2.2.1, p2.2.2) then (dotI (p1.1 - p0.1) (p1.2.1 - p0.2.1) (p1.2.2 - p0.2.2) (p1.1 - p0.1) (p1.2.1 - p0.2.1) (p1.2.2 - p0.2.2) - dotI (p2.1 - p0.1) (p2.2.1 - p0.2.1) (p2.2.2 - p0.2.2) (p2.1 - p0.1) (p2.2.1 - p0.2.1) (p2.2.2 - p0.2.2)).sign else 2))])
@[simp] theorem iDiC_at (a b c : Int) (d e f : Int) (g h i : Int) : iDiC [.agg [.lit (.int .i64 a), .lit (.int .i64 b), .lit (.int .i64 c)], .agg [.lit (.int .i64 d), .lit (.int .i64 e), .lit (.int .i64 f)], .agg [.lit (.int .i64 g), .lit (.int .i64 h), .lit (.int .i64 i)]] = (True, [.lit (.int .i64 (if c3 (a, b, c) ∧ c3 (d, e, f) ∧ c3 (g, h, i) then (dotI (d - a) (e - b) (f - c) (d - a) (e - b) (f - c) - dotI (g - a) (h - b) (i - c) (g - a) (h - b) (i - c)).sign else 2))]) := ct3_at (a, b, c) (d, e, f) (g, h, i)
noncomputable def iDiTb : List (FuncId × Ct) := [(43, .data tame3C), (44, .data less3C)]
theorem iDiTb_ok {N : NR} : TbOK N Try.prog (tbl iDiTb) := tbl_cons (c := .data tame3C) tame3_spec tame3_ok (tbl_cons (c := .data less3C) less3_spec less3_ok tbl_nil)

@[simp] theorem iDiTb1 : tbl iDiTb 43 = some (.data tame3C) := rfl
@[simp] theorem iDiTb2 : tbl iDiTb 44 = some (.data less3C) := rfl
theorem dot_sz {a b c : Int} (h1 : dm a) (h2 : dm b) (h3 : dm c) : qsz ((dotI a b c a b c : Int) : Rat) ≤ 2 := by
  have m1 := dm_mul h1 h1
  have m2 := dm_mul h2 h2
  have m3 := dm_mul h3 h3
  have h4 : QI (dotI a b c a b c) 1 := by unfold dotI; exact ⟨by omega, by simp, by omega, by omega⟩
  have := QI_qsz h4
  rw [rat_one] at this
  exact this

/-! s.CmpDist -/
noncomputable def sDiC := ct3 EI3 EI3 EI3 (fun p0 p1 p2 => True) (fun p0 p1 p2 => [.lit (.int .i64 (if c3 (p0.1, p0.2.1, p0.2.2) ∧ c3 (p1.1, p1.2.1, p1.2.2) ∧ c3 (p2.1, p2.2.1, p2.2.2) then (dotI (p1.1 - p0.1) (p1.2.1 - p0.2.1) (p1.2.2 - p0.2.2) (p1.1 - p0.1) (p1.2.1 - p0.2.1) (p1.2.2 - p0.2.2) - dotI (p2.1 - p0.1) (p2.2.1 - p0.2.1) (p2.2.2 - p0.2.2) (p2.1 - p0.1) (p2.2.1 - p0.2.1) (p2.2.2 - p0.2.2)).sign else 2))])
@[simp] theorem sDiC_at (a b c : Int) (d e f : Int) (g h i : Int) : sDiC [.agg [.lit (.int .i64 a), .lit (.int .i64 b), .lit (.int .i64 c)], .agg [.lit (.int .i64 d), .lit (.int .i64 e), .lit (.int .i64 f)], .agg [.lit (.int .i64 g), .lit (.int .i64 h), .lit (.int .i64 i)]] = (True, [.lit (.int .i64 (if c3 (a, b, c) ∧ c3 (d, e, f) ∧ c3 (g, h, i) then (dotI (d - a) (e - b) (f - c) (d - a) (e - b) (f - c) - dotI (g - a) (h - b) (i - c) (g - a) (h - b) (i - c)).sign else 2))]) := ct3_at (a, b, c) (d, e, f) (g, h, i)
noncomputable def sDiTb : List (FuncId × Ct) := [(40, .data l2TameC), (52, .data l2Sub3C)]
theorem sDiTb_ok : TbOK NF Try.prog (tbl sDiTb) := tbl_cons (c := .data l2TameC) l2Tame_spec l2Tame_ok (tbl_cons (c := .data l2Sub3C) l2Sub3_spec l2Sub3_ok tbl_nil)

@[simp] theorem sDiTb1 : tbl sDiTb 40 = some (.data l2TameC) := rfl
@[simp] theorem sDiTb2 : tbl sDiTb 52 = some (.data l2Sub3C) := rfl
/-! l.toP3 -/
noncomputable def toP3C := ct1 EI3 (fun p0 => True) (fun p0 => [.agg [.lit (.int .i64 p0.1), .lit (.int .i64 p0.2.1), .lit (.int .i64 p0.2.2)]])
@[simp] theorem toP3C_at (a b c : Int) : toP3C [.agg [.lit (.int .i64 a), .lit (.int .i64 b), .lit (.int .i64 c)]] = (True, [.agg [.lit (.int .i64 a), .lit (.int .i64 b), .lit (.int .i64 c)]]) := ct1_at (a, b, c)
theorem toP3_spec {N : NR} : SpecD N Try.prog 14 toP3C := by
  refine rd1 (mf := fun f => false) (tb := tbl []) tbl_nil (fn := Try.f14) (by kernel_rfl) rfl (by kernel_rfl) (by kernel_rfl) ?_
  rintro ⟨a, b, c⟩ hp
  have hp : True := hp
  show awp _ _ _ _ (start _ ([.agg [.lit (.int .i64 a), .lit (.int .i64 b), .lit (.int .i64 c)]].map .dat) []) (endK _ _ _ (([.agg [.lit (.int .i64 a), .lit (.int .i64 b), .lit (.int .i64 c)]]).map .dat) [])
  simp [-D.isLit, Try.f14]
theorem toP3_ok : callable Try.prog 14 = true := by kernel_rfl

/-! l.FnExactCmpAlong -/
noncomputable def lwCmpAlongC := ct4 EI3 EI3 EI3 EI3 (fun p0 p1 p2 p3 => (I64 p0.1 ∧ I64 p0.2.1 ∧ I64 p0.2.2) ∧ (I64 p1.1 ∧ I64 p1.2.1 ∧ I64 p1.2.2) ∧ (I64 p2.1 ∧ I64 p2.2.1 ∧ I64 p2.2.2) ∧ (I64 p3.1 ∧ I64 p3.2.1 ∧ I64 p3.2.2)) (fun p0 p1 p2 p3 => [.lit (.bool true)])
@[simp] theorem lwCmpAlongC_at (a b c : Int) (d e f : Int) (g h i : Int) (j k l : Int) : lwCmpAlongC [.agg [.lit (.int .i64 a), .lit (.int .i64 b), .lit (.int .i64 c)], .agg [.lit (.int .i64 d), .lit (.int .i64 e), .lit (.int .i64 f)], .agg [.lit (.int .i64 g), .lit (.int .i64 h), .lit (.int .i64 i)], .agg [.lit (.int .i64 j), .lit (.int .i64 k), .lit (.int .i64 l)]] = ((I64 a ∧ I64 b ∧ I64 c) ∧ (I64 d ∧ I64 e ∧ I64 f) ∧ (I64 g ∧ I64 h ∧ I64 i) ∧ (I64 j ∧ I64 k ∧ I64 l), [.lit (.bool true)]) := ct4_at (a, b, c) (d, e, f) (g, h, i) (j, k, l)
noncomputable def lwCmpAlongTb : List (FuncId × Ct) := [(14, .data toP3C)]
theorem lwCmpAlongTb_ok : TbOK NF Try.prog (tbl lwCmpAlongTb) := tbl_cons (c := .data toP3C) toP3_spec toP3_ok tbl_nil

@[simp] theorem lwCmpAlongTb1 : tbl lwCmpAlongTb 14 = some (.data toP3C) := rfl
/-! l.FnExactCmpDist -/
noncomputable def lwCmpDistC := ct3 EI3 EI3 EI3 (fun p0 p1 p2 => (I64 p0.1 ∧ I64 p0.2.1 ∧ I64 p0.2.2) ∧ (I64 p1.1 ∧ I64 p1.2.1 ∧ I64 p1.2.2) ∧ (I64 p2.1 ∧ I64 p2.2.1 ∧ I64 p2.2.2)) (fun p0 p1 p2 => [.lit (.bool true)])
@[simp] theorem lwCmpDistC_at (a b c : Int) (d e f : Int) (g h i : Int) : lwCmpDistC [.agg [.lit (.int .i64 a), .lit (.int .i64 b), .lit (.int .i64 c)], .agg [.lit (.int .i64 d), .lit (.int .i64 e), .lit (.int .i64 f)], .agg [.lit (.int .i64 g), .lit (.int .i64 h), .lit (.int .i64 i)]] = ((I64 a ∧ I64 b ∧ I64 c) ∧ (I64 d ∧ I64 e ∧ I64 f) ∧ (I64 g ∧ I64 h ∧ I64 i), [.lit (.bool true)]) := ct3_at (a, b, c) (d, e, f) (g, h, i)
noncomputable def lwCmpDistTb : List (FuncId × Ct) := [(14, .data toP3C)]
theorem lwCmpDistTb_ok : TbOK NF Try.prog (tbl lwCmpDistTb) := tbl_cons (c := .data toP3C) toP3_spec toP3_ok tbl_nil

@[simp] theorem lwCmpDistTb1 : tbl lwCmpDistTb 14 = some (.data toP3C) := rfl
end Go.Proofs.Ytcgolmopbnhgeaa.Ae

/-! Orient2: both sides, and the law. No condition. -/
namespace Go.Proofs.Ytcgolmopbnhgeaa.Ae
open Go Go.RowKit Go.Proofs.Ytcgolmopbnhgeaa.Dig
/-- What a slot holds, and is written no more, may be read as data. -/
theorem Snd.toData (s : St) (t o : Nat) (d : D) (h1 : asData s (s.get t) = some (d, some o)) (h2 : s.mayFreeze o) : Snd s { (s.frz [o]) with tm := (s.frz [o]).tm.set t (.dat d) } := by
  intro N F0 M0 w0 hv a w h
  have h' := h.frz [o]
  have hfr : allFreeze s [o] := ⟨h2, trivial⟩
  have e3 : asDatas s ([Operand.tmp t].map (ev s)) = some [(d, some o)] := by
    simp only [List.map_cons, List.map_nil, asDatas]
    rw [show ev s (.tmp t) = s.get t from rfl, h1]
  have hr := asDatas_rep h (frz_Fr s [o]) [.tmp t] _ e3 (fun o' ho' k hk => by
    obtain ⟨ob, hob⟩ := asDatas_owner _ _ e3 o' ho'
    exact Fr_frz h hfr ho' hob hk)
  have hd : RepV N (Fr F0 w0 hv (s.frz [o]) w) w d (a.eval (.tmp t)) := hr.2 0 _ _ rfl rfl
  refine ⟨hv, ⟨h'.lt0, h'.ltM, h'.bel, fun t' => ?_, by simpa using h'.sz, h'.ob, h'.own, h'.inj, h'.df⟩⟩
  have e : St.get { (s.frz [o]) with tm := (s.frz [o]).tm.set t (.dat d) } t' = if t' = t ∧ t < (s.frz [o]).tm.length then .dat d else (s.frz [o]).get t' := by
    unfold St.get
    simp only [List.getD_eq_getElem?_getD, List.getElem?_set]
    by_cases ht : t = t'
    · subst ht
      by_cases hl : t < (s.frz [o]).tm.length
      · simp [hl]
      · simp [hl]
    · have ht' : ¬ t' = t := fun x => ht x.symm
      simp [ht, ht']
  rw [e]
  by_cases hc : t' = t ∧ t < (s.frz [o]).tm.length
  · rw [if_pos hc, hc.1]
    exact hd
  · rw [if_neg hc]
    exact h'.tm t'
theorem mx1 : 1 ≤ maxLen := by decide
theorem mx2 : 2 ≤ maxLen := by decide
def EL2 : Enc (Int × Int) := ⟨fun p => .sl 1 [i64D p.1, i64D p.2], fun p q h => by
  simp only [D.sl.injEq, List.cons.injEq, and_true, true_and] at h
  exact Prod.ext (i64D_inj h.1) (i64D_inj h.2)⟩
def EM1 : Enc Rat := ⟨fun p => .sl 1 [.sl 3 [nD p]], fun p q h => by
  simp only [D.sl.injEq, List.cons.injEq, and_true, true_and] at h
  exact nD_inj h⟩
def EM2 : Enc (Rat × Rat × Rat × Rat) := ⟨fun p => .sl 1 [.sl 3 [nD p.1, nD p.2.1], .sl 3 [nD p.2.2.1, nD p.2.2.2]], fun p q h => by
  simp only [D.sl.injEq, List.cons.injEq, and_true, true_and] at h
  exact Prod.ext (nD_inj h.1.1) (Prod.ext (nD_inj h.1.2) (Prod.ext (nD_inj h.2.1) (nD_inj h.2.2)))⟩
@[simp] theorem EL2_e (a b : Int) : EL2.e (a, b) = .sl 1 [.lit (.int .i64 a), .lit (.int .i64 b)] := rfl
@[simp] theorem EM1_e (a : Rat) : EM1.e a = .sl 1 [.sl 3 [nD a]] := rfl
@[simp] theorem EM2_e (a b c d : Rat) : EM2.e (a, b, c, d) = .sl 1 [.sl 3 [nD a, nD b], .sl 3 [nD c, nD d]] := rfl

/-! s.l2Tame2 -/
noncomputable def l2Tame2C := ct1 EI2L (fun l => l.length < 4611686018427387904) (fun l => [.lit (.bool (l.all fun p => decide (c2 p)))])
@[simp] theorem l2Tame2C_at (l : List (Int × Int)) : l2Tame2C [.sl 2 (l.map EI2.e)] = (l.length < 4611686018427387904, [.lit (.bool (l.all fun p => decide (c2 p)))]) := ct1_at (A := EI2L) l
noncomputable def l2Tame2Tb : List (FuncId × Ct) := [(91, .data l2InC)]
theorem l2Tame2Tb_ok : TbOK NF Try.prog (tbl l2Tame2Tb) := tbl_cons (c := .data l2InC) l2In_spec l2In_ok tbl_nil

@[simp] theorem l2Tame2Tb1 : tbl l2Tame2Tb 91 = some (.data l2InC) := rfl
def l2Tame2S (l : List (Int × Int)) (k : Nat) : St := ⟨[.dat (.sl 2 (l.map EI2.e)), .any, .any, .dat (.lit (.int .i64 k)), .any, .any, .any, .any, .any, .any, .any, .any, .any, .any, .any, .any, .any, .any, .any, .any, .any, .any, .any, .any, .any, .any], [none, none, none, none, none, none, none, none, none, none, none, none, none, none, none, none, none, none, none, none, none, none, none, none, none, none]⟩
theorem l2Tame2_spec : SpecD NF Try.prog 46 l2Tame2C := by
  refine rd1 (mf := fun f => false) l2Tame2Tb_ok (fn := Try.f46) (by kernel_rfl) rfl (by kernel_rfl) (by kernel_rfl) ?_
  rintro l hl
  have hl : l.length < 4611686018427387904 := hl
  generalize hr : (l.all fun p => decide (c2 p)) = r
  show awp _ _ _ _ (start _ ([.sl 2 (l.map EI2.e)].map .dat) []) (endK _ _ _ ([D.lit (.bool r)].map .dat) [])
  simp only [Try.f46]
  simp [-D.isLit]
  refine loop_go (fun n st => ∃ k, n = l.length - k ∧ k ≤ l.length ∧ (∀ y ∈ l.take k, decide (c2 y) = true) ∧ st = l2Tame2S l k) (s0 := l2Tame2S l 0) (n := l.length) (snd_of (by simp [LeT, l2Tame2S]) (by simp [l2Tame2S])) ⟨0, rfl, Nat.zero_le _, by simp, rfl⟩ ?_
  rintro n st ⟨k, hn, hk, hall, rfl⟩ KN hN
  by_cases h : k < l.length
  · obtain ⟨a, b, hx, e1⟩ := pt2_at h
    obtain ⟨a1, a2⟩ := all_drop' (fun v => decide (c2 v)) l k _ hx hall
    have w1 : IntKind.i64.wrap ((k : Int) + 1) = (k : Int) + 1 := i64_id _ (by omega) (by omega)
    by_cases hok : c2 (a, b)
    · have k1 : cm a := hok.1
      have k2 : cm b := hok.2
      simp [-D.isLit, l2Tame2S, h, e1, k1, k2, w1]
      exact hN _ (nx (m := l.length - (k + 1)) (s'' := l2Tame2S l (k + 1)) (snd_obs (n := 26) [] rfl (by simp) (by simp [l2Tame2S])) ⟨k + 1, rfl, h, a2 (decide_eq_true hok), rfl⟩ (by omega))
    · have hb : cm a → ¬ cm b := fun x y => hok ⟨x, y⟩
      have a1 := a1 (decide_eq_false hok)
      rw [hr] at a1
      subst a1
      by_cases k1 : cm a
      · have k3 := hb k1
        simp [-D.isLit, l2Tame2S, h, e1, k1, k3]
      · simp [-D.isLit, l2Tame2S, h, e1, k1]
  · have hkl : k = l.length := by omega
    subst hkl
    rw [List.take_length] at hall
    have hrt : r = true := by rw [← hr, List.all_eq_true]; exact hall
    subst hrt
    simp [l2Tame2S]
theorem l2Tame2_ok : callable Try.prog 46 = true := by kernel_rfl
theorem tame2_3 (a b c d e f : Int) : tame2C [.sl 2 [.agg [.lit (.int .i64 a), .lit (.int .i64 b)], .agg [.lit (.int .i64 c), .lit (.int .i64 d)], .agg [.lit (.int .i64 e), .lit (.int .i64 f)]]] = (True, [.lit (.bool (decide (c2 (a, b) ∧ c2 (c, d) ∧ c2 (e, f))))]) := by
  have h1 := tame2C_at [(a, b), (c, d), (e, f)]
  have h2 : (([(a, b), (c, d), (e, f)] : List (Int × Int)).length < 4611686018427387904) = True := eq_true (by simp)
  rw [h2] at h1
  have h3 : (([(a, b), (c, d), (e, f)] : List (Int × Int)).all fun p => decide (c2 p)) = decide (c2 (a, b) ∧ c2 (c, d) ∧ c2 (e, f)) := by rw [Bool.eq_iff_iff, decide_eq_true_eq]; simp
  rw [h3] at h1
  exact h1
attribute [simp] tame2_3
theorem l2Tame2_3 (a b c d e f : Int) : l2Tame2C [.sl 2 [.agg [.lit (.int .i64 a), .lit (.int .i64 b)], .agg [.lit (.int .i64 c), .lit (.int .i64 d)], .agg [.lit (.int .i64 e), .lit (.int .i64 f)]]] = (True, [.lit (.bool (decide (c2 (a, b) ∧ c2 (c, d) ∧ c2 (e, f))))]) := by
  have h1 := l2Tame2C_at [(a, b), (c, d), (e, f)]
  have h2 : (([(a, b), (c, d), (e, f)] : List (Int × Int)).length < 4611686018427387904) = True := eq_true (by simp)
  rw [h2] at h1
  have h3 : (([(a, b), (c, d), (e, f)] : List (Int × Int)).all fun p => decide (c2 p)) = decide (c2 (a, b) ∧ c2 (c, d) ∧ c2 (e, f)) := by rw [Bool.eq_iff_iff, decide_eq_true_eq]; simp
  rw [h3] at h1
  exact h1
attribute [simp] l2Tame2_3

/-! s.l2Sub2 -/
noncomputable def l2Sub2C := ct2 EI2 EI2 (fun p0 p1 => c2 (p0.1, p0.2) ∧ c2 (p1.1, p1.2)) (fun p0 p1 => [.sl 1 [.lit (.int .i64 (p0.1 - p1.1)), .lit (.int .i64 (p0.2 - p1.2))]])
@[simp] theorem l2Sub2C_at (a b : Int) (c d : Int) : l2Sub2C [.agg [.lit (.int .i64 a), .lit (.int .i64 b)], .agg [.lit (.int .i64 c), .lit (.int .i64 d)]] = (c2 (a, b) ∧ c2 (c, d), [.sl 1 [.lit (.int .i64 (a - c)), .lit (.int .i64 (b - d))]]) := ct2_at (a, b) (c, d)
theorem l2Sub2_spec : SpecD NF Try.prog 49 l2Sub2C := by
  refine rd2 (mf := fun f => false) (tb := tbl []) tbl_nil (fn := Try.f49) (by kernel_rfl) rfl (by kernel_rfl) (by kernel_rfl) ?_
  rintro ⟨a, b⟩ ⟨c, d⟩ hp
  have hp : c2 (a, b) ∧ c2 (c, d) := hp
  show awp _ _ _ _ (start _ ([.agg [.lit (.int .i64 a), .lit (.int .i64 b)], .agg [.lit (.int .i64 c), .lit (.int .i64 d)]].map .dat) []) (endK _ _ _ (([.sl 1 [.lit (.int .i64 (a - c)), .lit (.int .i64 (b - d))]]).map .dat) [])
  obtain ⟨⟨a1, a2⟩, a3, a4⟩ := hp
  have a1 : -67108864 ≤ a ∧ a ≤ 67108864 := a1
  have a2 : -67108864 ≤ b ∧ b ≤ 67108864 := a2
  have a3 : -67108864 ≤ c ∧ c ≤ 67108864 := a3
  have a4 : -67108864 ≤ d ∧ d ≤ 67108864 := a4
  have w1 : IntKind.i64.wrap (a - c) = a - c := i64_id _ (by omega) (by omega)
  have w2 : IntKind.i64.wrap (b - d) = b - d := i64_id _ (by omega) (by omega)
  simp [-D.isLit, Try.f49, w1, w2]
theorem l2Sub2_ok : callable Try.prog 49 = true := by kernel_rfl
def l2RS (a b : Int) (l : List D) (g : Rat) (k : Nat) : St := ⟨[.dat (.sl 1 [.lit (.int .i64 a), .lit (.int .i64 b)]), .dat (.lit (.bool false)), .any, .any, .any, .row 9, .obj 6 [] 0, .dat (.lit (.int .i64 k)), .any, .any, .any, .any, .any, .any, .any, .any, .any, .any, .any, .any, .any, .any, .any, .any, .any, .any, .any, .any, .any, .any, .any, .any, .any, .any, .any, .any, .any], [none, none, none, none, none, none, some (.box (nD g)), none, none, some (.row 3 73 l), none, none, none, none, none, none, none, none, none, none, none, none, none, none, none, none, none, none, none, none, none, none, none, none, none, none, none]⟩

/-! s.l2Row -/
noncomputable def l2RowC := ct2 EL2 EBool (fun p0 p1 => dm p0.1 ∧ dm p0.2 ∧ p1 = false) (fun p0 p1 => [.sl 3 [nD (p0.1 : Rat), nD (p0.2 : Rat)]])
@[simp] theorem l2RowC_at (a b : Int) (q : Bool) : l2RowC [.sl 1 [.lit (.int .i64 a), .lit (.int .i64 b)], .lit (.bool q)] = (dm a ∧ dm b ∧ q = false, [.sl 3 [nD (a : Rat), nD (b : Rat)]]) := ct2_at (a, b) q
noncomputable def l2RowTb : List (FuncId × Ct) := [(95, .data l1rIntC), (96, .data nMulC), (98, .data nAddC)]
theorem l2RowTb_ok : TbOK NF Try.prog (tbl l2RowTb) := tbl_cons (c := .data l1rIntC) l1rInt_spec l1rInt_ok (tbl_cons (c := .data nMulC) nMul_spec l1rMul_ok (tbl_cons (c := .data nAddC) nAdd_spec l1rAdd_ok tbl_nil))

@[simp] theorem l2RowTb1 : tbl l2RowTb 95 = some (.data l1rIntC) := rfl
@[simp] theorem l2RowTb2 : tbl l2RowTb 96 = some (.data nMulC) := rfl
@[simp] theorem l2RowTb3 : tbl l2RowTb 98 = some (.data nAddC) := rfl
set_option maxRecDepth 100000 in
set_option maxHeartbeats 4000000 in
theorem l2Row_spec : SpecD NF Try.prog 48 l2RowC := by
  refine rd2 (mf := fun f => false) l2RowTb_ok (fn := Try.f48) (by kernel_rfl) rfl (by kernel_rfl) (by kernel_rfl) ?_
  rintro ⟨a, b⟩ q hp
  have hp : dm a ∧ dm b ∧ q = false := hp
  show awp _ _ _ _ (start _ ([.sl 1 [.lit (.int .i64 a), .lit (.int .i64 b)], .lit (.bool q)].map .dat) []) (endK _ _ _ (([.sl 3 [nD (a : Rat), nD (b : Rat)]]).map .dat) [])
  obtain ⟨a1, a2, rfl⟩ := hp
  have ia := dm_i64 a1
  have ib := dm_i64 a2
  have z1 := dm_qsz a1
  have z2 := dm_qsz a2
  have m1 := qsz_mul (a : Rat) a
  have m2 := qsz_mul (b : Rat) b
  have hz0 : qsz (0 : Rat) ≤ 2 := by decide +kernel
  have i0 : I64 0 := by unfold I64; omega
  have w1 : IntKind.i64.wrap 1 = 1 := by decide
  have w2 : IntKind.i64.wrap 2 = 2 := by decide
  simp only [Try.f48]
  simp [-D.isLit, i0]
  refine loop_go (fun n st => ∃ k l g, n = 2 - k ∧ ((k = 0 ∧ l = [] ∧ g = 0) ∨ (k = 1 ∧ l = [nD (a : Rat)] ∧ g = (a : Rat) * a) ∨ (k = 2 ∧ l = [nD (a : Rat), nD (b : Rat)] ∧ g = (a : Rat) * a + b * b)) ∧ st = l2RS a b l g k) (s0 := l2RS a b [] 0 0) (n := 2) (snd_of (by simp [LeT, l2RS]) (by simp [l2RS])) ⟨0, [], 0, rfl, .inl ⟨rfl, rfl, rfl⟩, rfl⟩ ?_
  rintro n st ⟨k, l, g, hn, hk, rfl⟩ KN hN
  rcases hk with ⟨rfl, rfl, rfl⟩ | ⟨rfl, rfl, rfl⟩ | ⟨rfl, rfl, rfl⟩
  · have s1 : qsz (0 : Rat) + qsz ((a : Rat) * a) < MX := by rw [MX_val]; omega
    have s2 : qsz (a : Rat) + qsz (a : Rat) < MX := by rw [MX_val]; omega
    simp [-D.isLit, l2RS, ix, w1, w2, ia, s1, s2, mx1, mx2]
    exact hN _ (nx (m := 1) (s'' := l2RS a b [nD (a : Rat)] ((a : Rat) * a) 1) (snd_obs (n := 37) [(6, 6, .box (nD ((a : Rat) * a))), (9, 25, .row 3 73 [nD (a : Rat)])] rfl (by simp [Rat.zero_add]) (by simp [l2RS])) ⟨1, [nD (a : Rat)], (a : Rat) * a, rfl, .inr (.inl ⟨rfl, rfl, rfl⟩), rfl⟩ (by omega))
  · have s1 : qsz ((a : Rat) * a) + qsz ((b : Rat) * b) < MX := by rw [MX_val]; omega
    have s2 : qsz (b : Rat) + qsz (b : Rat) < MX := by rw [MX_val]; omega
    simp [-D.isLit, l2RS, ix, w1, w2, ib, s1, s2, mx1, mx2]
    exact hN _ (nx (m := 0) (s'' := l2RS a b [nD (a : Rat), nD (b : Rat)] ((a : Rat) * a + b * b) 2) (snd_obs (n := 37) [(6, 6, .box (nD ((a : Rat) * a + b * b))), (9, 25, .row 3 73 [nD (a : Rat), nD (b : Rat)])] rfl (by simp [Rat.zero_add]) (by simp [l2RS])) ⟨2, [nD (a : Rat), nD (b : Rat)], (a : Rat) * a + b * b, rfl, .inr (.inr ⟨rfl, rfl, rfl⟩), rfl⟩ (by omega))
  · simp [-D.isLit, l2RS]
theorem l2Row_ok : callable Try.prog 48 = true := by kernel_rfl

/-! s.l2Det -/
noncomputable def l2Det1C := ct1 EM1 (fun p0 => True) (fun p0 => [nD p0])
@[simp] theorem l2Det1C_at (a : Rat) : l2Det1C [.sl 1 [.sl 3 [nD a]]] = (True, [nD a]) := ct1_at a
theorem l2Det1_spec : SpecD NF Try.prog 47 l2Det1C := by
  refine rd1 (mf := fun f => false) (tb := tbl []) tbl_nil (fn := Try.f47) (by kernel_rfl) rfl (by kernel_rfl) (by kernel_rfl) ?_
  rintro a hp
  have hp : True := hp
  show awp _ _ _ _ (start _ ([.sl 1 [.sl 3 [nD a]]].map .dat) []) (endK _ _ _ (([nD a]).map .dat) [])
  simp [-D.isLit, Try.f47, ix]
theorem l2Det_ok : callable Try.prog 47 = true := by kernel_rfl
theorem sgn_eq' {a : Rat} (h : a.num.sign = 0) : a = 0 := by
  have := Int.sign_eq_zero_iff_zero.1 h
  exact Rat.num_eq_zero.1 this
def det2 (a b c d : Rat) : Rat := a * d - c * b
def zN3 : D := .agg [.lit (.int .i64 0), .lit (.int .i64 0), .lit (.slice none 0 0)]
@[simp] theorem zN3_size : zN3.size = 3 := rfl
def dtS (a b c d g : Rat) (i : Nat) : St := ⟨[.dat (.sl 1 [.sl 3 [nD a, nD b], .sl 3 [nD c, nD d]]), .any, .obj 2 [] 0, .obj 3 [] 0, .dat (.lit (.int .i64 i)), .any, .any, .any, .any, .any, .any, .any, .any, .any, .any, .any, .any, .any, .any, .any, .any, .any, .any, .any, .any, .any, .any, .any, .any, .any, .any, .any, .any, .any, .any, .any, .any, .any, .any, .any, .any, .any, .any, .any, .any, .any, .any, .any, .any, .any, .any, .any, .any, .any, .any, .any, .any, .any, .any, .any, .any, .any, .any, .any, .any, .any, .any], [none, none, some (.box zN3), some (.box (nD g)), none, none, none, none, none, none, none, none, none, none, none, none, none, none, none, none, none, none, none, none, none, none, none, none, none, none, none, none, none, none, none, none, none, none, none, none, none, none, none, none, none, none, none, none, none, none, none, none, none, none, none, none, none, none, none, none, none, none, none, none, none, none, none]⟩
def dtR (a b c d g : Rat) (i : Nat) (l : List D) (k : Nat) : St := ⟨[.dat (.sl 1 [.sl 3 [nD a, nD b], .sl 3 [nD c, nD d]]), .any, .obj 2 [] 0, .obj 3 [] 0, .dat (.lit (.int .i64 i)), .row 31, .dat (.lit (.int .i64 k)), .any, .any, .any, .any, .any, .any, .any, .any, .any, .any, .any, .any, .any, .any, .any, .any, .any, .any, .any, .any, .any, .any, .any, .any, .any, .any, .any, .any, .any, .any, .any, .any, .any, .any, .any, .any, .any, .any, .any, .any, .any, .any, .any, .any, .any, .any, .any, .any, .any, .any, .any, .any, .any, .any, .any, .any, .any, .any, .any, .any], [none, none, some (.box zN3), some (.box (nD g)), none, none, none, none, none, none, none, none, none, none, none, none, none, none, none, none, none, none, none, none, none, none, none, none, none, none, none, some (.row 1 84 l), none, none, none, none, none, none, none, none, none, none, none, none, none, none, none, none, none, none, none, none, none, none, none, none, none, none, none, none, none, none, none, none, none, none, none]⟩
def dtE (a b c d g : Rat) (i : Nat) (l : List D) : St := ⟨[.dat (.sl 1 [.sl 3 [nD a, nD b], .sl 3 [nD c, nD d]]), .any, .obj 2 [] 0, .obj 3 [] 0, .dat (.lit (.int .i64 i)), .dat (.sl 1 l), .dat (.lit (.int .i64 2)), .any, .any, .any, .any, .any, .any, .any, .any, .any, .any, .any, .any, .any, .any, .any, .any, .any, .any, .any, .any, .any, .any, .any, .any, .any, .any, .any, .any, .any, .any, .any, .any, .any, .any, .any, .any, .any, .any, .any, .any, .any, .any, .any, .any, .any, .any, .any, .any, .any, .any, .any, .any, .any, .any, .any, .any, .any, .any, .any, .any], [none, none, some (.box zN3), some (.box (nD g)), none, none, none, none, none, none, none, none, none, none, none, none, none, none, none, none, none, none, none, none, none, none, none, none, none, none, none, none, none, none, none, none, none, none, none, none, none, none, none, none, none, none, none, none, none, none, none, none, none, none, none, none, none, none, none, none, none, none, none, none, none, none, none]⟩

/-! s.l2Det -/
noncomputable def l2Det2C := ct1 EM2 (fun p0 => qsz p0.1 + qsz p0.2.1 + qsz p0.2.2.1 + qsz p0.2.2.2 < LM) (fun p0 => [nD (det2 p0.1 p0.2.1 p0.2.2.1 p0.2.2.2)])
@[simp] theorem l2Det2C_at (a b c d : Rat) : l2Det2C [.sl 1 [.sl 3 [nD a, nD b], .sl 3 [nD c, nD d]]] = (qsz a + qsz b + qsz c + qsz d < LM, [nD (det2 a b c d)]) := ct1_at (a, b, c, d)
noncomputable def l2Det2Tb : List (FuncId × Ct) := [(95, .data l1rIntC), (41, .data nSignC), (47, .data l2Det1C), (96, .data nMulC), (97, .data nNegC), (98, .data nAddC)]
theorem l2Det2Tb_ok : TbOK NF Try.prog (tbl l2Det2Tb) := tbl_cons (c := .data l1rIntC) l1rInt_spec l1rInt_ok (tbl_cons (c := .data nSignC) nSign_spec l1rSign_ok (tbl_cons (c := .data l2Det1C) l2Det1_spec l2Det_ok (tbl_cons (c := .data nMulC) nMul_spec l1rMul_ok (tbl_cons (c := .data nNegC) nNeg_spec l1rNeg_ok (tbl_cons (c := .data nAddC) nAdd_spec l1rAdd_ok tbl_nil)))))

@[simp] theorem l2Det2Tb1 : tbl l2Det2Tb 95 = some (.data l1rIntC) := rfl
@[simp] theorem l2Det2Tb2 : tbl l2Det2Tb 41 = some (.data nSignC) := rfl
@[simp] theorem l2Det2Tb3 : tbl l2Det2Tb 47 = some (.data l2Det1C) := rfl
@[simp] theorem l2Det2Tb4 : tbl l2Det2Tb 96 = some (.data nMulC) := rfl
@[simp] theorem l2Det2Tb5 : tbl l2Det2Tb 97 = some (.data nNegC) := rfl
@[simp] theorem l2Det2Tb6 : tbl l2Det2Tb 98 = some (.data nAddC) := rfl
set_option maxRecDepth 100000 in
set_option maxHeartbeats 4000000 in
theorem l2Det2_spec : SpecD NF Try.prog 47 l2Det2C := by
  refine rd1 (mf := fun f => false) l2Det2Tb_ok (fn := Try.f47) (by kernel_rfl) rfl (by kernel_rfl) (by kernel_rfl) ?_
  rintro ⟨a, b, c, d⟩ hp
  have hp : qsz a + qsz b + qsz c + qsz d < LM := hp
  show awp _ _ _ _ (start _ ([.sl 1 [.sl 3 [nD a, nD b], .sl 3 [nD c, nD d]]].map .dat) []) (endK _ _ _ (([nD (det2 a b c d)]).map .dat) [])
  have hm1 := qsz_mul a d
  have hm2 := qsz_mul c b
  have hz0 : qsz (0 : Rat) ≤ 2 := by decide +kernel
  have hn2 := qsz_neg (c * b)
  have hL := LM_val
  have s1 : qsz a + qsz d < MX := by rw [MX_val]; omega
  have s2 : qsz c + qsz b < MX := by rw [MX_val]; omega
  have i0 : I64 0 := by unfold I64; omega
  have w1 : IntKind.i64.wrap 1 = 1 := by decide
  have w2 : IntKind.i64.wrap 2 = 2 := by decide
  simp only [Try.f47]
  simp [-D.isLit, i0]
  have s3 : qsz (0 : Rat) + qsz (a * d) < MX := by rw [MX_val]; omega
  refine loop_go (fun n st => ∃ i g, n = 2 - i ∧ ((i = 0 ∧ g = 0) ∨ (i = 1 ∧ g = a * d ∧ qsz g ≤ 2 * (qsz a + qsz d) + 10) ∨ (i = 2 ∧ g = det2 a b c d)) ∧ st = dtS a b c d g i) (s0 := dtS a b c d 0 0) (n := 2) (snd_of (by simp [LeT, dtS]) (by simp [dtS, zN3])) ⟨0, 0, rfl, .inl ⟨rfl, rfl⟩, rfl⟩ ?_
  rintro n st ⟨i, g, hn, hi, rfl⟩ KN hN
  rcases hi with ⟨rfl, rfl⟩ | ⟨rfl, rfl, hg⟩ | ⟨rfl, rfl⟩
  · by_cases h : a.num.sign = 0
    · have ha := sgn_eq' h
      simp [-D.isLit, dtS, ix, h, w1]
      exact hN _ (nx (m := 1) (s'' := dtS a b c d 0 1) (snd_of (by simp [LeT, dtS]) (by simp [dtS])) ⟨1, 0, rfl, .inr (.inl ⟨rfl, by rw [ha]; grind, by omega⟩), rfl⟩ (by omega))
    · have s4 := s1
      have s5 := s1
      simp [-D.isLit, dtS, ix, h, w1]
      refine loop_go (fun n st => ∃ k, n = 2 - k ∧ ((k = 0 ∧ st = dtR a b c d 0 0 [] 0) ∨ (k = 1 ∧ st = dtR a b c d 0 0 [] 1) ∨ (k = 2 ∧ st = dtE a b c d 0 0 [.sl 3 [nD d]]))) (s0 := dtR a b c d 0 0 [] 0) (n := 2) (snd_of (by simp [LeT, dtR]) (by simp [dtR])) ⟨0, rfl, .inl ⟨rfl, rfl⟩⟩ ?_
      rintro n' st' ⟨k, hn', hk⟩ KM hM
      rcases hk with ⟨rfl, rfl⟩ | ⟨rfl, rfl⟩ | ⟨rfl, rfl⟩
      · simp [-D.isLit, dtR, ix, lsub, w1, mx1, mx2]
        exact hM _ (nx (m := 1) (s'' := dtR a b c d 0 0 [] 1) (snd_of (by simp [LeT, dtR]) (by simp [dtR])) ⟨1, rfl, .inr (.inl ⟨rfl, rfl⟩)⟩ (by omega))
      · simp [-D.isLit, dtR, ix, lsub, w2, mx1, mx2]
        exact hM _ (nx (m := 0) (s'' := dtE a b c d 0 0 [.sl 3 [nD d]]) (Snd.trans (Snd.toData _ 5 48 (.sl 1 [.sl 3 [nD d]]) (by simp [St.get, dtR]) (by simp [St.mayFreeze, St.obj, dtR])) (snd_obs (n := 67) [(2, 2, .box zN3), (3, 3, .box (nD 0))] rfl (by simp [St.frz, dtR]) (by simp [dtE, St.frz, dtR]))) ⟨2, rfl, .inr (.inr ⟨rfl, rfl⟩)⟩ (by omega))
      · simp [-D.isLit, dtE, ix, w1, w2, s1, s2, s3, s4, s5]
        exact hN _ (nx (m := 1) (s'' := dtS a b c d (a * d) 1) (snd_obs (n := 67) [(2, 2, .box zN3), (3, 3, .box (nD (a * d)))] rfl (by simp [Rat.zero_add]) (by simp [dtS])) ⟨1, a * d, rfl, .inr (.inl ⟨rfl, rfl, by omega⟩), rfl⟩ (by omega))
  · by_cases h : c.num.sign = 0
    · have hc := sgn_eq' h
      simp [-D.isLit, dtS, ix, h, w2]
      exact hN _ (nx (m := 0) (s'' := dtS a b c d (a * d) 2) (snd_of (by simp [LeT, dtS]) (by simp [dtS])) ⟨2, a * d, rfl, .inr (.inr ⟨rfl, by unfold det2; rw [hc]; grind⟩), rfl⟩ (by omega))
    · have s4 : qsz (a * d) + qsz (-(c * b)) < MX := by rw [MX_val]; omega
      have s5 := s1
      simp [-D.isLit, dtS, ix, h, w2]
      refine loop_go (fun n st => ∃ k, n = 2 - k ∧ ((k = 0 ∧ st = dtR a b c d (a * d) 1 [] 0) ∨ (k = 1 ∧ st = dtR a b c d (a * d) 1 [.sl 3 [nD b]] 1) ∨ (k = 2 ∧ st = dtE a b c d (a * d) 1 [.sl 3 [nD b]]))) (s0 := dtR a b c d (a * d) 1 [] 0) (n := 2) (snd_of (by simp [LeT, dtR]) (by simp [dtR])) ⟨0, rfl, .inl ⟨rfl, rfl⟩⟩ ?_
      rintro n' st' ⟨k, hn', hk⟩ KM hM
      rcases hk with ⟨rfl, rfl⟩ | ⟨rfl, rfl⟩ | ⟨rfl, rfl⟩
      · simp [-D.isLit, dtR, ix, lsub, w1, mx1, mx2]
        exact hM _ (nx (m := 1) (s'' := dtR a b c d (a * d) 1 [.sl 3 [nD b]] 1) (snd_obs (n := 67) [(2, 2, .box zN3), (3, 3, .box (nD (a * d))), (31, 48, .row 1 84 [.sl 3 [nD b]])] rfl (by simp) (by simp [dtR])) ⟨1, rfl, .inr (.inl ⟨rfl, rfl⟩)⟩ (by omega))
      · simp [-D.isLit, dtR, ix, lsub, w2, mx1, mx2]
        exact hM _ (nx (m := 0) (s'' := dtE a b c d (a * d) 1 [.sl 3 [nD b]]) (Snd.trans (Snd.toData _ 5 31 (.sl 1 [.sl 3 [nD b]]) (by simp [St.get, dtR]) (by simp [St.mayFreeze, St.obj, dtR])) (snd_obs (n := 67) [(2, 2, .box zN3), (3, 3, .box (nD (a * d)))] rfl (by simp [St.frz, dtR]) (by simp [dtE, St.frz, dtR]))) ⟨2, rfl, .inr (.inr ⟨rfl, rfl⟩)⟩ (by omega))
      · simp [-D.isLit, dtE, ix, w1, w2, s1, s2, s3, s4, s5]
        exact hN _ (nx (m := 0) (s'' := dtS a b c d (a * d + -(c * b)) 2) (snd_obs (n := 67) [(2, 2, .box zN3), (3, 3, .box (nD (a * d + -(c * b))))] rfl (by simp [Rat.zero_add]) (by simp [dtS])) ⟨2, a * d + -(c * b), rfl, .inr (.inr ⟨rfl, by unfold det2; grind⟩), rfl⟩ (by omega))
  · simp [-D.isLit, dtS, zN3]
theorem l2Det_ok2 : callable Try.prog 47 = true := by kernel_rfl

/-! i.Orient2 -/
noncomputable def iOr2C := ct3 EI2 EI2 EI2 (fun p0 p1 p2 => True) (fun p0 p1 p2 => [.lit (.int .i64 (if c2 (p0.1, p0.2) ∧ c2 (p1.1, p1.2) ∧ c2 (p2.1, p2.2) then ((p1.1 - p0.1) * (p2.2 - p0.2) - (p1.2 - p0.2) * (p2.1 - p0.1)).sign else 2))])
@[simp] theorem iOr2C_at (a b : Int) (c d : Int) (e f : Int) : iOr2C [.agg [.lit (.int .i64 a), .lit (.int .i64 b)], .agg [.lit (.int .i64 c), .lit (.int .i64 d)], .agg [.lit (.int .i64 e), .lit (.int .i64 f)]] = (True, [.lit (.int .i64 (if c2 (a, b) ∧ c2 (c, d) ∧ c2 (e, f) then ((c - a) * (f - b) - (d - b) * (e - a)).sign else 2))]) := ct3_at (a, b) (c, d) (e, f)
noncomputable def iOr2Tb : List (FuncId × Ct) := [(50, .data tame2C)]
theorem iOr2Tb_ok {N : NR} : TbOK N Try.prog (tbl iOr2Tb) := tbl_cons (c := .data tame2C) tame2_spec tame2_ok tbl_nil

@[simp] theorem iOr2Tb1 : tbl iOr2Tb 50 = some (.data tame2C) := rfl
/-! s.Orient2 -/
noncomputable def sOr2C := ct3 EI2 EI2 EI2 (fun p0 p1 p2 => True) (fun p0 p1 p2 => [.lit (.int .i64 (if c2 (p0.1, p0.2) ∧ c2 (p1.1, p1.2) ∧ c2 (p2.1, p2.2) then ((p1.1 - p0.1) * (p2.2 - p0.2) - (p1.2 - p0.2) * (p2.1 - p0.1)).sign else 2))])
@[simp] theorem sOr2C_at (a b : Int) (c d : Int) (e f : Int) : sOr2C [.agg [.lit (.int .i64 a), .lit (.int .i64 b)], .agg [.lit (.int .i64 c), .lit (.int .i64 d)], .agg [.lit (.int .i64 e), .lit (.int .i64 f)]] = (True, [.lit (.int .i64 (if c2 (a, b) ∧ c2 (c, d) ∧ c2 (e, f) then ((c - a) * (f - b) - (d - b) * (e - a)).sign else 2))]) := ct3_at (a, b) (c, d) (e, f)
noncomputable def sOr2Tb : List (FuncId × Ct) := [(46, .data l2Tame2C), (49, .data l2Sub2C), (48, .data l2RowC), (47, .data l2Det2C), (41, .data nSignC)]
theorem sOr2Tb_ok : TbOK NF Try.prog (tbl sOr2Tb) := tbl_cons (c := .data l2Tame2C) l2Tame2_spec l2Tame2_ok (tbl_cons (c := .data l2Sub2C) l2Sub2_spec l2Sub2_ok (tbl_cons (c := .data l2RowC) l2Row_spec l2Row_ok (tbl_cons (c := .data l2Det2C) l2Det2_spec l2Det_ok (tbl_cons (c := .data nSignC) nSign_spec l1rSign_ok tbl_nil))))

@[simp] theorem sOr2Tb1 : tbl sOr2Tb 46 = some (.data l2Tame2C) := rfl
@[simp] theorem sOr2Tb2 : tbl sOr2Tb 49 = some (.data l2Sub2C) := rfl
@[simp] theorem sOr2Tb3 : tbl sOr2Tb 48 = some (.data l2RowC) := rfl
@[simp] theorem sOr2Tb4 : tbl sOr2Tb 47 = some (.data l2Det2C) := rfl
@[simp] theorem sOr2Tb5 : tbl sOr2Tb 41 = some (.data nSignC) := rfl
/-! l.toP2 -/
noncomputable def toP2C := ct1 EI2 (fun p0 => True) (fun p0 => [.agg [.lit (.int .i64 p0.1), .lit (.int .i64 p0.2)]])
@[simp] theorem toP2C_at (a b : Int) : toP2C [.agg [.lit (.int .i64 a), .lit (.int .i64 b)]] = (True, [.agg [.lit (.int .i64 a), .lit (.int .i64 b)]]) := ct1_at (a, b)
theorem toP2_spec {N : NR} : SpecD N Try.prog 17 toP2C := by
  refine rd1 (mf := fun f => false) (tb := tbl []) tbl_nil (fn := Try.f17) (by kernel_rfl) rfl (by kernel_rfl) (by kernel_rfl) ?_
  rintro ⟨a, b⟩ hp
  have hp : True := hp
  show awp _ _ _ _ (start _ ([.agg [.lit (.int .i64 a), .lit (.int .i64 b)]].map .dat) []) (endK _ _ _ (([.agg [.lit (.int .i64 a), .lit (.int .i64 b)]]).map .dat) [])
  simp [-D.isLit, Try.f17]
theorem toP2_ok : callable Try.prog 17 = true := by kernel_rfl

/-! l.FnExactOrient2 -/
noncomputable def lwOrient2C := ct3 EI2 EI2 EI2 (fun p0 p1 p2 => (I64 p0.1 ∧ I64 p0.2) ∧ (I64 p1.1 ∧ I64 p1.2) ∧ (I64 p2.1 ∧ I64 p2.2)) (fun p0 p1 p2 => [.lit (.bool true)])
@[simp] theorem lwOrient2C_at (a b : Int) (c d : Int) (e f : Int) : lwOrient2C [.agg [.lit (.int .i64 a), .lit (.int .i64 b)], .agg [.lit (.int .i64 c), .lit (.int .i64 d)], .agg [.lit (.int .i64 e), .lit (.int .i64 f)]] = ((I64 a ∧ I64 b) ∧ (I64 c ∧ I64 d) ∧ (I64 e ∧ I64 f), [.lit (.bool true)]) := ct3_at (a, b) (c, d) (e, f)
noncomputable def lwOrient2Tb : List (FuncId × Ct) := [(17, .data toP2C)]
theorem lwOrient2Tb_ok : TbOK NF Try.prog (tbl lwOrient2Tb) := tbl_cons (c := .data toP2C) toP2_spec toP2_ok tbl_nil

@[simp] theorem lwOrient2Tb1 : tbl lwOrient2Tb 17 = some (.data toP2C) := rfl
end Go.Proofs.Ytcgolmopbnhgeaa.Ae

/-! Determinants of whole numbers: by the first row, by the first column; what the program and the reference compute. No condition. -/
namespace Go.Proofs.Ytcgolmopbnhgeaa.Ae
open Go Go.RowKit Go.Proofs.Ytcgolmopbnhgeaa.Dig
/-- A sum with signs that turn. -/
def altS (f : Nat → Int) : Nat → Int
  | 0 => 0
  | k + 1 => altS f k + (if k % 2 = 1 then -(f k) else f k)
def rowK (k : Nat) (r : List Int) : List Int := r.take k ++ r.drop (k + 1)
def minI (k : Nat) (m : List (List Int)) : List (List Int) := m.tail.map (rowK k)
def minS (i : Nat) (m : List (List Int)) : List (List Int) := (m.take i ++ m.drop (i + 1)).map List.tail
/-- The determinant of n + 1 rows, by the first row. -/
def detI : Nat → List (List Int) → Int
  | 0, m => (m.getD 0 []).getD 0 0
  | n + 1, m => altS (fun k => (m.getD 0 []).getD k 0 * detI n (minI k m)) (n + 2)
/-- By the first column. -/
def detS : Nat → List (List Int) → Int
  | 0, m => (m.getD 0 []).getD 0 0
  | n + 1, m => altS (fun k => (m.getD k []).getD 0 0 * detS n (minS k m)) (n + 2)
def sqm (n : Nat) (m : List (List Int)) : Prop := m.length = n + 1 ∧ ∀ r ∈ m, r.length = n + 1
def ent (m : List (List Int)) : Prop := ∀ r ∈ m, ∀ z ∈ r, ln z.natAbs ≤ 2
theorem rowK_len {k : Nat} {r : List Int} (h : k < r.length) : (rowK k r).length + 1 = r.length := by unfold rowK; simp; omega
theorem rowK_mem {k : Nat} {r : List Int} {z : Int} (h : z ∈ rowK k r) : z ∈ r := by
  rcases List.mem_append.1 h with h | h
  · exact List.mem_of_mem_take h
  · exact List.mem_of_mem_drop h
theorem minI_ok {n k : Nat} {m : List (List Int)} (h : sqm (n + 1) m) (hk : k < n + 2) : sqm n (minI k m) := by
  refine ⟨by unfold minI; simp [h.1], fun r hr => ?_⟩
  obtain ⟨r0, h0, rfl⟩ := List.mem_map.1 hr
  have h1 := h.2 r0 (List.mem_of_mem_tail h0)
  have := rowK_len (k := k) (r := r0) (by omega)
  omega
theorem minI_ent {k : Nat} {m : List (List Int)} (h : ent m) : ent (minI k m) := by
  intro r hr z hz
  obtain ⟨r0, h0, rfl⟩ := List.mem_map.1 hr
  exact h r0 (List.mem_of_mem_tail h0) z (rowK_mem hz)
theorem minS_ok {n k : Nat} {m : List (List Int)} (h : sqm (n + 1) m) (hk : k < n + 2) : sqm n (minS k m) := by
  have := h.1
  refine ⟨by unfold minS; simp; omega, fun r hr => ?_⟩
  obtain ⟨r0, h0, rfl⟩ := List.mem_map.1 hr
  have h1 : r0 ∈ m := by
    rcases List.mem_append.1 h0 with h0 | h0
    · exact List.mem_of_mem_take h0
    · exact List.mem_of_mem_drop h0
  have := h.2 r0 h1
  simp; omega
theorem minS_ent {k : Nat} {m : List (List Int)} (h : ent m) : ent (minS k m) := by
  intro r hr z hz
  obtain ⟨r0, h0, rfl⟩ := List.mem_map.1 hr
  have h1 : r0 ∈ m := by
    rcases List.mem_append.1 h0 with h0 | h0
    · exact List.mem_of_mem_take h0
    · exact List.mem_of_mem_drop h0
  exact h r0 h1 z (List.mem_of_mem_tail hz)
theorem getD_mem {m : List (List Int)} {k : Nat} (h : k < m.length) : m.getD k [] ∈ m := by
  rw [List.getD_eq_getElem?_getD, List.getElem?_eq_getElem h]; exact List.getElem_mem h
theorem getDi_mem {r : List Int} {k : Nat} (h : k < r.length) : r.getD k 0 ∈ r := by
  rw [List.getD_eq_getElem?_getD, List.getElem?_eq_getElem h]; exact List.getElem_mem h
theorem altS_ln {f : Nat → Int} {K n : Nat} (h : ∀ j, j < n → ln (f j).natAbs ≤ K) : ∀ k, k ≤ n → ln (altS f k).natAbs ≤ K + k
  | 0, _ => by show ln 0 ≤ _; rw [ln_zero]; omega
  | k + 1, hk => by
    have ih := altS_ln h k (by omega)
    have hk1 := h k (by omega)
    have := ln_na_add (altS f k) (if k % 2 = 1 then -(f k) else f k)
    have h2 : ln (if k % 2 = 1 then -(f k) else f k).natAbs ≤ K := by split <;> simpa using hk1
    show ln (altS f k + _).natAbs ≤ _
    omega
def bd : Nat → Nat
  | 0 => 2
  | n + 1 => bd n + n + 4
theorem bd_le {n : Nat} (h : n ≤ 3) : bd n ≤ 17 := by
  match n, h with
  | 0, _ => decide
  | 1, _ => decide
  | 2, _ => decide
  | 3, _ => decide
theorem detI_ln : ∀ (n : Nat) (m : List (List Int)), sqm n m → ent m → ln (detI n m).natAbs ≤ bd n
  | 0, m, h, he => he _ (getD_mem (by have := h.1; omega)) _ (getDi_mem (by have := h.2 _ (getD_mem (m := m) (k := 0) (by have := h.1; omega)); omega))
  | n + 1, m, h, he => by
    have h0 : m.getD 0 [] ∈ m := getD_mem (by have := h.1; omega)
    have := altS_ln (f := fun k => (m.getD 0 []).getD k 0 * detI n (minI k m)) (K := 2 + bd n) (n := n + 2) (fun j hj => by
      have h1 := detI_ln n (minI j m) (minI_ok h hj) (minI_ent he)
      have h2 := he _ h0 _ (getDi_mem (r := m.getD 0 []) (k := j) (by have := h.2 _ h0; omega))
      have := ln_na_mul ((m.getD 0 []).getD j 0) (detI n (minI j m))
      show ln ((m.getD 0 []).getD j 0 * detI n (minI j m)).natAbs ≤ _
      omega) (n + 2) (by omega)
    show ln (altS _ (n + 2)).natAbs ≤ bd n + n + 4
    omega
theorem detS_ln : ∀ (n : Nat) (m : List (List Int)), sqm n m → ent m → ln (detS n m).natAbs ≤ bd n
  | 0, m, h, he => he _ (getD_mem (by have := h.1; omega)) _ (getDi_mem (by have := h.2 _ (getD_mem (m := m) (k := 0) (by have := h.1; omega)); omega))
  | n + 1, m, h, he => by
    have := altS_ln (f := fun k => (m.getD k []).getD 0 0 * detS n (minS k m)) (K := 2 + bd n) (n := n + 2) (fun j hj => by
      have h0 : m.getD j [] ∈ m := getD_mem (by have := h.1; omega)
      have h1 := detS_ln n (minS j m) (minS_ok h hj) (minS_ent he)
      have h2 := he _ h0 _ (getDi_mem (r := m.getD j []) (k := 0) (by have := h.2 _ h0; omega))
      have := ln_na_mul ((m.getD j []).getD 0 0) (detS n (minS j m))
      show ln ((m.getD j []).getD 0 0 * detS n (minS j m)).natAbs ≤ _
      omega) (n + 2) (by omega)
    show ln (altS _ (n + 2)).natAbs ≤ bd n + n + 4
    omega
theorem det_33 (a b c d e f g h i : Int) : detI 2 [[a, b, c], [d, e, f], [g, h, i]] = detS 2 [[a, b, c], [d, e, f], [g, h, i]] := by
  simp [detI, detS, altS, minI, minS, rowK]
  grind
theorem det_44 (a b c d e f g h i j k l m n o p : Int) : detI 3 [[a, b, c, d], [e, f, g, h], [i, j, k, l], [m, n, o, p]] = detS 3 [[a, b, c, d], [e, f, g, h], [i, j, k, l], [m, n, o, p]] := by
  simp [detI, detS, altS, minI, minS, rowK]
  grind

/-- What is known less of a variable. -/
theorem Snd.subBox (s : St) (o : Nat) (d d' : D) (h : s.obj o = some (.box d)) (hs : Sub d d') : Snd s { s with ob := s.ob.set o (some (.box d')) } := by
  intro N F0 M0 w0 hv a w hr
  have hlt := obj_lt h
  have hobj : ∀ o', St.obj { s with ob := s.ob.set o (some (.box d')) } o' = if o' = o then some (.box d') else s.obj o' := by
    intro o'
    have := set_obj (st := s) s.tm o (some (.box d')) o'
    rw [this]
    by_cases e : o' = o
    · simp [e, hlt]
    · simp [e]
  have hF : ∀ k, Fr F0 w0 hv s w k → Fr F0 w0 hv { s with ob := s.ob.set o (some (.box d')) } w k := by
    rintro k (hk | ⟨k1, k2, k3⟩)
    · exact .inl hk
    · refine .inr ⟨k1, k2, fun o' ob hd hl => ?_⟩
      rw [hobj] at hd
      by_cases e : o' = o
      · rw [e]; exact k3 o _ h rfl
      · rw [if_neg e] at hd; exact k3 o' ob hd hl
  refine ⟨hv, ⟨hr.lt0, hr.ltM, hr.bel, fun t => ?_, hr.sz, fun o' ob hd => ?_, fun o' ob b hd hb => ?_, fun o1 o2 b1 b2 k h1 h2 e1 e2 => ?_, hr.df⟩⟩
  · refine (hr.tm t).mono (fun k hk => ⟨hF k hk, rfl⟩) (fun o' _ => ⟨fun _ => rfl, fun hd => ?_, fun sz e xs hrw => ?_⟩)
    · unfold St.box? at hd ⊢
      rw [hobj] at hd
      by_cases e : o' = o
      · rw [e, h]; exact ⟨d, rfl⟩
      · rw [if_neg e] at hd; exact hd
    · unfold St.row? at hrw ⊢
      rw [hobj] at hrw
      by_cases e : o' = o
      · rw [if_pos e] at hrw; cases hrw
      · rw [if_neg e] at hrw; exact ⟨xs, hrw⟩
  · rw [hobj] at hd
    by_cases e : o' = o
    · rw [if_pos e] at hd
      obtain rfl := Option.some.inj hd
      rw [e]
      obtain ⟨b, cs, ty, g1, g2, g3⟩ := hr.ob o _ h
      exact ⟨b, cs, ty, g1, g2, (hs N _ w _ g3).weak hF⟩
    · rw [if_neg e] at hd
      exact (hr.ob o' ob hd).mono (fun k hk => ⟨hF k hk, rfl⟩) (fun _ _ => rfl)
  · rw [hobj] at hd
    by_cases e : o' = o
    · rw [if_pos e] at hd
      obtain rfl := Option.some.inj hd
      rw [e] at hb
      exact hr.own o _ b h hb
    · rw [if_neg e] at hd; exact hr.own o' ob b hd hb
  · have back : ∀ o' ob, St.obj { s with ob := s.ob.set o (some (.box d')) } o' = some ob → ∃ ob', s.obj o' = some ob' := by
      intro o' ob hd
      rw [hobj] at hd
      by_cases e : o' = o
      · rw [e]; exact ⟨_, h⟩
      · rw [if_neg e] at hd; exact ⟨_, hd⟩
    obtain ⟨x1, y1⟩ := back o1 b1 h1
    obtain ⟨x2, y2⟩ := back o2 b2 h2
    exact hr.inj o1 o2 x1 x2 k y1 y2 e1 e2
theorem new_zero : Sub (.agg [.lit (.bool false), .lit (.slice none 0 0)]) (eZ 0) := by
  unfold eZ
  refine Sub.agg rfl (fun i d d' h1 h2 => ?_)
  match i with
  | 0 => simp at h1 h2; subst h1 h2; exact Sub.refl _
  | 1 =>
    simp [eM, eW, mag_zero] at h1 h2
    subst h1 h2
    exact Sub.nil 1
  | i + 2 => simp at h1
def EZn : Enc Int := ⟨fun z => nD (z : Rat), fun a b h => by have := nD_inj h; exact_mod_cast this⟩
def EZp : Enc Int := ⟨fun z => .ptr (eZ z), fun a b h => by
  simp only [D.ptr.injEq] at h
  exact eZ_inj h⟩
def EMn : Enc (List (List Int)) := (EZn.list 3).list 1
def EMp : Enc (List (List Int)) := (EZp.list 1).list 1
def EMi : Enc (List (List Int)) := (EInt.list 1).list 1
theorem rN_e (r : List Int) : (EZn.list 3).e r = .sl 3 (r.map EZn.e) := rfl
theorem rP_e (r : List Int) : (EZp.list 1).e r = .sl 1 (r.map EZp.e) := rfl
theorem rI_e (r : List Int) : (EInt.list 1).e r = .sl 1 (r.map EInt.e) := rfl
theorem ix_rows {α : Type} (E : Enc α) (l : List α) (k : Nat) (z : α) (h : k < l.length) : ix (l.map E.e) k = some (E.e (l.getD k z)) := by
  unfold ix
  rw [List.getElem?_map, List.getElem?_eq_getElem h, List.getD_eq_getElem?_getD, List.getElem?_eq_getElem h]; rfl
theorem lsub_map {α : Type} (f : α → D) (l : List α) (a b : Nat) : lsub (l.map f) a b = ((l.take b).drop a).map f := by unfold lsub; rw [List.map_drop, List.map_take]
theorem mxs {n : Nat} (h : n ≤ 100) : n ≤ maxLen := by unfold maxLen; omega
theorem zP (l : List Int) : ∀ y ∈ l.map EZp.e, y.size = 1 := by
  intro y hy
  obtain ⟨z, _, rfl⟩ := List.mem_map.1 hy
  rfl
theorem ent_i64 {m : List (List Int)} (h : ∀ r ∈ m, ∀ z ∈ r, I64 z) : ent m := fun r hr z hz => by
  have := h r hr z hz
  exact ln_i64 (by unfold I64 at this; omega)
theorem SZ_7 {n : Int} (h : ln n.natAbs ≤ 100) : SZ n := by rw [SZ_ln]; omega
theorem qz_7 (n : Int) : qsz (n : Rat) ≤ ln n.natAbs + 1 := by rw [qsz_int]; omega
theorem n_mulnew7 (x y : Int) : iMulC [.ref 0, .dat (.ptr (eZ x)), .dat (.ptr (eZ y))] [.agg [.lit (.bool false), .lit (.slice none 0 0)]] = ((SZ x ∧ SZ y), [.ref 0], [eZ (x * y)]) := iMulC_dd x y .new
theorem n_new7 (a : Int) : newC [.lit (.int .i64 a)] = (I64 a, [.ptr (eZ a)]) := newC_at a
theorem n_sg7 (a : Int) : sgDC [.ptr (eZ a)] = (True, [.lit (.int .i64 a.sign)]) := sgDC_at a
theorem altS_z (f : Nat → Int) : altS f 0 = 0 := rfl
theorem altS_odd {f : Nat → Int} {k : Nat} (h : k % 2 = 1) : altS f (k + 1) = altS f k + -(f k) := by show _ + (if _ then _ else _) = _; rw [if_pos h]
theorem altS_even {f : Nat → Int} {k : Nat} (h : ¬ k % 2 = 1) : altS f (k + 1) = altS f k + f k := by show _ + (if _ then _ else _) = _; rw [if_neg h]
theorem tmod2 (k : Nat) : (k : Int).tmod 2 = ((k % 2 : Nat) : Int) := by rw [Int.tmod_eq_emod_of_nonneg (by omega)]; omega

/-! i.det -/
noncomputable def idtC (n : Nat) := ct1 EMp (fun m => sqm n m ∧ ent m ∧ n ≤ 3) (fun m => [.ptr (eZ (detI n m))])
theorem idtC_at (n : Nat) (m : List (List Int)) : idtC n [.sl 1 (m.map (EZp.list 1).e)] = ((sqm n m ∧ ent m ∧ n ≤ 3), [.ptr (eZ (detI n m))]) := ct1_at (A := EMp) m
/-- The rows without the k-th number, as far as t. -/
def rsI (k : Nat) (ms : List (List Int)) (t : Nat) : List D := ((ms.take t).map (rowK k)).map (EZp.list 1).e
theorem rsI_succ {k t : Nat} {ms : List (List Int)} (h : t < ms.length) : rsI k ms (t + 1) = rsI k ms t ++ [(EZp.list 1).e (rowK k (ms.getD t []))] := by
  have e : ms.take (t + 1) = ms.take t ++ [ms.getD t []] := by
    rw [List.take_add_one, List.getElem?_eq_getElem h, List.getD_eq_getElem?_getD, List.getElem?_eq_getElem h]; rfl
  unfold rsI
  rw [e, List.map_append, List.map_append]
  rfl
theorem rsI_len {k t : Nat} {ms : List (List Int)} (h : t ≤ ms.length) : (rsI k ms t).length = t := by unfold rsI; simp; omega
theorem rsI_all {k : Nat} {r : List Int} {ms : List (List Int)} : rsI k ms ms.length = (minI k (r :: ms)).map (EZp.list 1).e := by unfold rsI minI; rw [List.take_length]; rfl
def dtI (r : List Int) (ms : List (List Int)) (s : Int) (k : Nat) : St := ⟨[.dat (.sl 1 ((EZp.list 1).e r :: ms.map (EZp.list 1).e)), .any, .dat (.lit (.pointer none)), .obj 17 [] 0, .any, .any, .any, .any, .any, .any, .any, .any, .any, .any, .any, .any, .any, .any, .any, .dat (.lit (.int .i64 ((ms.length : Int) + 1))), .dat (.lit (.int .i64 k)), .any, .any, .any, .any, .any, .any, .any, .any, .any, .any, .any, .any, .any, .any, .any, .any, .any, .any, .any, .any, .any, .any, .any, .any, .any, .any, .any, .any, .any, .any, .any, .any, .any, .any, .any, .any, .any, .any, .any, .any, .any, .any, .any, .any, .any, .any], [none, none, none, none, none, none, none, none, none, none, none, none, none, none, none, none, none, some (.box (eZ s)), none, none, none, none, none, none, none, none, none, none, none, none, none, none, none, none, none, none, none, none, none, none, none, none, none, none, none, none, none, none, none, none, none, none, none, none, none, none, none, none, none, none, none, none, none, none, none, none, none]⟩
def dtJ (r : List Int) (ms : List (List Int)) (s : Int) (k : Nat) (rs : List D) (t : Nat) : St := ⟨[.dat (.sl 1 ((EZp.list 1).e r :: ms.map (EZp.list 1).e)), .any, .dat (.lit (.pointer none)), .obj 17 [] 0, .dat (.lit (.int .i64 k)), .row 23, .any, .any, .any, .any, .any, .any, .any, .any, .any, .any, .any, .any, .any, .dat (.lit (.int .i64 ((ms.length : Int) + 1))), .dat (.lit (.int .i64 k)), .any, .any, .any, .any, .dat (.sl 1 (ms.map (EZp.list 1).e)), .dat (.lit (.int .i64 ms.length)), .dat (.lit (.int .i64 t)), .any, .any, .any, .any, .any, .any, .any, .any, .any, .any, .any, .any, .any, .any, .any, .any, .any, .any, .any, .any, .any, .any, .any, .any, .any, .any, .any, .any, .any, .any, .any, .any, .any, .any, .any, .any, .any, .any, .any], [none, none, none, none, none, none, none, none, none, none, none, none, none, none, none, none, none, some (.box (eZ s)), none, none, none, none, none, some (.row 1 133 rs), none, none, none, none, none, none, none, none, none, none, none, none, none, none, none, none, none, none, none, none, none, none, none, none, none, none, none, none, none, none, none, none, none, none, none, none, none, none, none, none, none, none, none]⟩
def dtK (r : List Int) (ms : List (List Int)) (s : Int) (k : Nat) (rs : List D) (t : Nat) : St := ⟨[.dat (.sl 1 ((EZp.list 1).e r :: ms.map (EZp.list 1).e)), .any, .dat (.lit (.pointer none)), .obj 17 [] 0, .dat (.lit (.int .i64 k)), .dat (.sl 1 rs), .any, .any, .any, .any, .any, .any, .any, .any, .any, .any, .any, .any, .any, .dat (.lit (.int .i64 ((ms.length : Int) + 1))), .dat (.lit (.int .i64 k)), .any, .any, .any, .any, .dat (.sl 1 (ms.map (EZp.list 1).e)), .dat (.lit (.int .i64 ms.length)), .dat (.lit (.int .i64 t)), .any, .any, .any, .any, .any, .any, .any, .any, .any, .any, .any, .any, .any, .any, .any, .any, .any, .any, .any, .any, .any, .any, .any, .any, .any, .any, .any, .any, .any, .any, .any, .any, .any, .any, .any, .any, .any, .any, .any], [none, none, none, none, none, none, none, none, none, none, none, none, none, none, none, none, none, some (.box (eZ s)), none, none, none, none, none, none, none, none, none, none, none, none, none, none, none, none, none, none, none, none, none, none, none, none, none, none, none, none, none, none, none, none, none, none, none, none, none, none, none, none, none, none, none, none, none, none, none, none, none]⟩
noncomputable def idtTb (n : Nat) : List (FuncId × Ct) := [(93, .data (idtC n)), (112, .mut [true, false, false] iMulC), (119, .mut [true, false] ngC), (120, .mut [true, false, false] iAddC)]
@[simp] theorem idtTb1 (n : Nat) : tbl (idtTb n) 93 = some (.data (idtC n)) := rfl
@[simp] theorem idtTb2 (n : Nat) : tbl (idtTb n) 112 = some (.mut [true, false, false] iMulC) := rfl
@[simp] theorem idtTb3 (n : Nat) : tbl (idtTb n) 119 = some (.mut [true, false] ngC) := rfl
@[simp] theorem idtTb4 (n : Nat) : tbl (idtTb n) 120 = some (.mut [true, false, false] iAddC) := rfl
theorem det_ok : callable Try.prog 93 = true := by kernel_rfl
def idtMf : FuncId → Bool := fun f => f == 112 || f == 119 || f == 120 || f == bld 132 || f == cel 32 || f == cel 36
attribute [simp] idtMf
set_option maxRecDepth 100000 in
set_option maxHeartbeats 4000000 in
theorem det_spec {N : NR} : ∀ n, SpecD N Try.prog 93 (idtC n)
  | 0 => by
    refine rd1 (mf := idtMf) (tb := tbl []) tbl_nil (fn := Try.f93) (by kernel_rfl) rfl (by kernel_rfl) (by kernel_rfl) ?_
    rintro m hp
    obtain ⟨hm, he, _⟩ : sqm 0 m ∧ ent m ∧ 0 ≤ 3 := hp
    obtain ⟨r, rfl⟩ : ∃ r, m = [r] := by
      have := hm.1
      match m, this with
      | [r], _ => exact ⟨r, rfl⟩
    obtain ⟨a, rfl⟩ : ∃ a, r = [a] := by
      have := hm.2 r (by simp)
      match r, this with
      | [a], _ => exact ⟨a, rfl⟩
    show awp _ _ _ _ (start _ ([D.sl 1 [.sl 1 [.ptr (eZ a)]]].map .dat) []) (endK _ _ _ ([D.ptr (eZ a)].map .dat) [])
    simp [-D.isLit, Try.f93, ix]
  | n + 1 => by
    refine rd1 (mf := idtMf) (tb := tbl (idtTb n)) (tbl_cons (c := .data (idtC n)) (det_spec n) det_ok (tbl_cons (c := .mut [true, false, false] iMulC) Mul_spec Mul_ok (tbl_cons (c := .mut [true, false] ngC) Neg_spec Neg_ok (tbl_cons (c := .mut [true, false, false] iAddC) Add_spec Add_ok tbl_nil)))) (fn := Try.f93) (by kernel_rfl) rfl (by kernel_rfl) (by kernel_rfl) ?_
    rintro m hp
    obtain ⟨hm, he, hn3⟩ : sqm (n + 1) m ∧ ent m ∧ n + 1 ≤ 3 := hp
    generalize hr : detI (n + 1) m = res
    obtain ⟨r, ms, rfl⟩ : ∃ r ms, m = r :: ms := by
      have := hm.1
      match m, this with
      | r :: ms, _ => exact ⟨r, ms, rfl⟩
    have hms : ms.length = n + 1 := by have := hm.1; simpa using this
    have hrl : r.length = n + 2 := hm.2 r (by simp)
    have hbd := bd_le (n := n) (by omega)
    obtain ⟨f, hf⟩ : ∃ f : Nat → Int, f = fun k => r.getD k 0 * detI n (minI k (r :: ms)) := ⟨_, rfl⟩
    have hres : altS f (n + 2) = res := by rw [← hr, hf]; rfl
    have hfl : ∀ j, j < n + 2 → ln (f j).natAbs ≤ 19 := fun j hj => by
      have h1 := detI_ln n (minI j (r :: ms)) (minI_ok hm hj) (minI_ent he)
      have h2 := he r (by simp) _ (getDi_mem (r := r) (k := j) (by omega))
      have := ln_na_mul (r.getD j 0) (detI n (minI j (r :: ms)))
      rw [hf]
      show ln (r.getD j 0 * detI n (minI j (r :: ms))).natAbs ≤ _
      omega
    show awp _ _ _ _ (start _ ([D.sl 1 ((EZp.list 1).e r :: ms.map (EZp.list 1).e)].map .dat) []) (endK _ _ _ ([D.ptr (eZ res)].map .dat) [])
    simp only [Try.f93]
    have h1 : ¬ ((ms.length : Int) + 1 = 1) := by omega
    have h1' : ¬ ms = [] := fun e => by rw [e] at hms; simp at hms
    simp [-D.isLit, h1, h1']
    refine loop_go (fun n' st => ∃ k, n' = n + 2 - k ∧ k ≤ n + 2 ∧ st = dtI r ms (altS f k) k) (s0 := dtI r ms 0 0) (n := n + 2) (Snd.trans (Snd.subBox _ 17 _ (eZ 0) (by simp [St.obj]) new_zero) (snd_obs (n := 67) [(17, 17, .box (eZ 0))] rfl (by simp) (by simp [dtI]))) ⟨0, rfl, by omega, rfl⟩ ?_
    rintro n' st ⟨k, hn', hk, rfl⟩ KN hN
    have w2 : IntKind.i64.wrap ((k : Int) + 1) = (k : Int) + 1 := i64_id _ (by omega) (by omega)
    by_cases hkl : k < n + 2
    · have q0 : (k : Int) < (ms.length : Int) + 1 := by omega
      have e1 : lsub ((EZp.list 1).e r :: ms.map (EZp.list 1).e) 1 (ms.length + 1) = ms.map (EZp.list 1).e := by
        rw [← List.map_cons, lsub_map]; simp
      have q01 : (1 : Int) ≤ (ms.length : Int) + 1 := by omega
      simp [-D.isLit, dtI, q0, q01, e1]
      refine loop_go (fun n' st => ∃ t, n' = ms.length - t ∧ t ≤ ms.length ∧ ((t < ms.length ∧ st = dtJ r ms (altS f k) k (rsI k ms t) t) ∨ (t = ms.length ∧ st = dtK r ms (altS f k) k (rsI k ms t) t))) (s0 := dtJ r ms (altS f k) k [] 0) (n := ms.length) (snd_obs (n := 67) [(17, 17, .box (eZ (altS f k))), (23, 23, .row 1 133 [])] rfl (by simp) (by simp [dtJ])) ⟨0, rfl, by omega, .inl ⟨by omega, rfl⟩⟩ ?_
      rintro n'' st' ⟨t, hn'', ht, hst⟩ KM hM
      rcases hst with ⟨htl, rfl⟩ | ⟨rfl, rfl⟩
      · have q1 : (t : Int) < (ms.length : Int) := by omega
        obtain ⟨rt, hrt⟩ : ∃ rt, rt = ms.getD t [] := ⟨_, rfl⟩
        have hrtl : rt.length = n + 2 := by rw [hrt]; exact hm.2 _ (List.mem_cons_of_mem _ (getD_mem htl))
        have x1 : ix (ms.map (EZp.list 1).e) t = some (.sl 1 (rt.map EZp.e)) := by rw [ix_rows _ _ _ [] htl, ← hrt, rP_e]
        have q2 : (k : Int) ≤ (rt.length : Int) := by omega
        have q3 : (k : Int) + 1 ≤ (rt.length : Int) := by omega
        have q4 : (0 : Int) ≤ (k : Int) + 1 := by omega
        have tn : ((k : Int) + 1).toNat = k + 1 := by omega
        have w3 : IntKind.i64.wrap ((t : Int) + 1) = (t : Int) + 1 := i64_id _ (by omega) (by omega)
        obtain ⟨A1, hA1⟩ : ∃ A1, A1 = lsub (rt.map EZp.e) 0 k := ⟨_, rfl⟩
        obtain ⟨A2, hA2⟩ : ∃ A2, A2 = lsub (rt.map EZp.e) (k + 1) rt.length := ⟨_, rfl⟩
        have l1 : A1.length ≤ n + 2 := by rw [hA1, lsub_map]; simp; omega
        have l2 : A2.length ≤ n + 2 := by rw [hA2, lsub_map]; simp; omega
        have zA1 : (∀ y ∈ A1, y.size = 1) = True := eq_true (by rw [hA1, lsub_map]; exact zP _)
        have zA2 : (∀ y ∈ A2, y.size = 1) = True := eq_true (by rw [hA2, lsub_map]; exact zP _)
        have eA : D.sl 1 (A1 ++ A2) = (EZp.list 1).e (rowK k rt) := by
          rw [rP_e, hA1, hA2, lsub_map, lsub_map]
          unfold rowK
          rw [List.map_append]
          simp
        obtain ⟨RS, hRS⟩ : ∃ RS, RS = rsI k ms t := ⟨_, rfl⟩
        have l3 : RS.length = t := by rw [hRS, rsI_len ht]
        have b1 : A1.length ≤ maxLen := mxs (by omega)
        have b2 : A1.length + A2.length ≤ maxLen := mxs (by omega)
        have b3 : A1.length * 8 ≤ 140737488355328 := by omega
        have b4 : (A1.length + A2.length) * 8 ≤ 140737488355328 := by omega
        have b5 : RS.length + 1 ≤ maxLen := mxs (by omega)
        have b6 : (RS.length + 1) * 24 ≤ 140737488355328 := by omega
        have eRS : rsI k ms (t + 1) = RS ++ [.sl 1 (A1 ++ A2)] := by rw [rsI_succ htl, ← hRS, ← hrt, eA]
        rw [← hRS]
        by_cases hlast : t + 1 < ms.length
        · simp [-D.isLit, dtJ, q1, x1, q2, q3, q4, tn, w2, w3, ← hA1, ← hA2, zA1, zA2, b1, b2, b3, b4, b5, b6]
          exact hM _ (nx (m := ms.length - (t + 1)) (s'' := dtJ r ms (altS f k) k (rsI k ms (t + 1)) (t + 1)) (snd_obs (n := 67) [(17, 17, .box (eZ (altS f k))), (23, 43, .row 1 133 (rsI k ms (t + 1)))] rfl (by simp [eRS]) (by simp [dtJ])) ⟨t + 1, rfl, by omega, .inl ⟨hlast, rfl⟩⟩ (by omega))
        · simp [-D.isLit, dtJ, q1, x1, q2, q3, q4, tn, w2, w3, ← hA1, ← hA2, zA1, zA2, b1, b2, b3, b4, b5, b6]
          exact hM _ (nx (m := ms.length - (t + 1)) (s'' := dtK r ms (altS f k) k (rsI k ms (t + 1)) (t + 1)) (Snd.trans (Snd.toData _ 5 43 (.sl 1 (rsI k ms (t + 1))) (by simp [St.get, eRS]) (by simp [St.mayFreeze, St.obj])) (snd_obs (n := 67) [(17, 17, .box (eZ (altS f k)))] rfl (by simp [St.frz]) (by simp [dtK, St.frz]))) ⟨t + 1, rfl, by omega, .inr ⟨by omega, rfl⟩⟩ (by omega))
      · obtain ⟨v, hv⟩ : ∃ v, v = r.getD k 0 := ⟨_, rfl⟩
        obtain ⟨dk, hdk⟩ : ∃ dk, dk = detI n (minI k (r :: ms)) := ⟨_, rfl⟩
        have x2 : ix ((EZp.list 1).e r :: ms.map (EZp.list 1).e) 0 = some (.sl 1 (r.map EZp.e)) := rfl
        have x3 : ix (r.map EZp.e) k = some (.ptr (eZ v)) := by rw [ix_rows _ _ _ 0 (by omega), ← hv]; rfl
        have q5 : (k : Int) < (r.length : Int) := by omega
        have c1 := idtC_at n (minI k (r :: ms))
        rw [← rsI_all, eq_true (show sqm n (minI k (r :: ms)) ∧ ent (minI k (r :: ms)) ∧ n ≤ 3 from ⟨minI_ok hm hkl, minI_ent he, by omega⟩), ← hdk] at c1
        have hfk : f k = v * dk := by rw [hf, hv, hdk]
        have hfk' := hfl k hkl
        have hsl := altS_ln hfl k (by omega)
        have z1 : SZ v := SZ_7 (by rw [hv]; have := he r (by simp) _ (getDi_mem (r := r) (k := k) (by omega)); omega)
        have z2 : SZ dk := SZ_7 (by rw [hdk]; have := detI_ln n _ (minI_ok hm hkl) (minI_ent he); omega)
        have z3 : SZ (v * dk) := SZ_7 (by rw [← hfk]; omega)
        have z4 : SZ (altS f k) := SZ_7 (by omega)
        have z5 : SZ (-(v * dk)) := SZ_7 (by rw [Int.natAbs_neg, ← hfk]; omega)
        have tm := tmod2 k
        obtain ⟨s, hs⟩ : ∃ s, s = altS f k := ⟨_, rfl⟩
        rw [← hs] at z4 ⊢
        by_cases hpar : k % 2 = 1
        · have tm1 : (k : Int).tmod 2 = 1 := by rw [tm, hpar]; rfl
          have es : altS f (k + 1) = s + -(v * dk) := by rw [altS_odd hpar, hfk, hs]
          simp [-D.isLit, dtK, x2, x3, q5, c1, tm1, w2, n_mulnew7, ngC_r, iAddC_zd, z1, z2, z3, z4, z5]
          exact hN _ (nx (m := n + 2 - (k + 1)) (s'' := dtI r ms (altS f (k + 1)) (k + 1)) (snd_obs (n := 67) [(17, 17, .box (eZ (altS f (k + 1))))] rfl (by simp [es]) (by simp [dtI])) ⟨k + 1, rfl, by omega, rfl⟩ (by omega))
        · have tm0 : (k : Int).tmod 2 = 0 := by rw [tm]; omega
          have es : altS f (k + 1) = s + v * dk := by rw [altS_even hpar, hfk, hs]
          simp [-D.isLit, dtK, x2, x3, q5, c1, tm0, w2, n_mulnew7, iAddC_zd, z1, z2, z3, z4]
          exact hN _ (nx (m := n + 2 - (k + 1)) (s'' := dtI r ms (altS f (k + 1)) (k + 1)) (snd_obs (n := 67) [(17, 17, .box (eZ (altS f (k + 1))))] rfl (by simp [es]) (by simp [dtI])) ⟨k + 1, rfl, by omega, rfl⟩ (by omega))
    · have hkn : k = n + 2 := by omega
      subst hkn
      rw [hres]
      have q0 : ¬ (((n + 2 : Nat) : Int) < (ms.length : Int) + 1) := by omega
      have q0' : ¬ ((n : Int) + 2 < (ms.length : Int) + 1) := by omega
      simp [-D.isLit, dtI, q0, q0']
end Go.Proofs.Ytcgolmopbnhgeaa.Ae

/-! Determinants of whole numbers: detSign; the reference's rows and determinants. No condition. -/
namespace Go.Proofs.Ytcgolmopbnhgeaa.Ae
open Go Go.RowKit Go.Proofs.Ytcgolmopbnhgeaa.Dig

/-! i.detSign -/
noncomputable def idsC (n : Nat) := ct1 EMi (fun m => sqm n m ∧ (∀ r ∈ m, ∀ z ∈ r, I64 z) ∧ n ≤ 3) (fun m => [.lit (.int .i64 (detI n m).sign)])
theorem idsC_at (n : Nat) (m : List (List Int)) : idsC n [.sl 1 (m.map (EInt.list 1).e)] = ((sqm n m ∧ (∀ r ∈ m, ∀ z ∈ r, I64 z) ∧ n ≤ 3), [.lit (.int .i64 (detI n m).sign)]) := ct1_at (A := EMi) m
noncomputable def idsTb (n : Nat) : List (FuncId × Ct) := [(92, .data newC), (93, .data (idtC n)), (94, .data sgDC)]
@[simp] theorem idsTb1 (n : Nat) : tbl (idsTb n) 92 = some (.data newC) := rfl
@[simp] theorem idsTb2 (n : Nat) : tbl (idsTb n) 93 = some (.data (idtC n)) := rfl
@[simp] theorem idsTb3 (n : Nat) : tbl (idsTb n) 94 = some (.data sgDC) := rfl
theorem isl_ptr7 (d : D) : (D.ptr d).isLit = false := rfl
theorem take_succ7 {α : Type} {l : List α} {t : Nat} (z : α) (h : t < l.length) : l.take (t + 1) = l.take t ++ [l.getD t z] := by
  rw [List.take_add_one, List.getElem?_eq_getElem h, List.getD_eq_getElem?_getD, List.getElem?_eq_getElem h]; rfl
def sgO (m : List (List Int)) (rs : List D) (k : Nat) : St := ⟨[.dat (.sl 1 (m.map (EInt.list 1).e)), .any, .dat (.lit (.int .i64 0)), .row 9, .any, .any, .any, .any, .any, .any, .dat (.sl 1 (m.map (EInt.list 1).e)), .dat (.lit (.int .i64 m.length)), .dat (.lit (.int .i64 k)), .any, .any, .any, .any, .any, .any, .any, .any, .any, .any, .any, .any, .any, .any, .any, .any, .any, .any, .any, .any, .any, .any, .any, .any], [none, none, none, none, none, none, none, none, none, some (.row 1 133 rs), none, none, none, none, none, none, none, none, none, none, none, none, none, none, none, none, none, none, none, none, none, none, none, none, none, none, none]⟩
def sgN (m : List (List Int)) (rs : List D) (k : Nat) (r : List Int) (xs : List D) (t : Nat) : St := ⟨[.dat (.sl 1 (m.map (EInt.list 1).e)), .any, .dat (.lit (.int .i64 0)), .row 9, .any, .any, .row 16, .any, .any, .any, .dat (.sl 1 (m.map (EInt.list 1).e)), .dat (.lit (.int .i64 m.length)), .dat (.lit (.int .i64 k)), .any, .any, .any, .any, .dat (.sl 1 (r.map EInt.e)), .dat (.lit (.int .i64 r.length)), .dat (.lit (.int .i64 t)), .any, .any, .any, .any, .any, .any, .any, .any, .any, .any, .any, .any, .any, .any, .any, .any, .any], [none, none, none, none, none, none, none, none, none, some (.row 1 133 rs), none, none, none, none, none, none, some (.row 1 57 xs), none, none, none, none, none, none, none, none, none, none, none, none, none, none, none, none, none, none, none, none]⟩
set_option maxRecDepth 100000 in
set_option maxHeartbeats 4000000 in
theorem ids_spec {N : NR} (n : Nat) : SpecD N Try.prog 45 (idsC n) := by
  refine rd1 (mf := fun f => f == 93 || f == bld 132) (tb := tbl (idsTb n)) (tbl_cons (c := .data newC) newBigInt_spec newBigInt_ok (tbl_cons (c := .data (idtC n)) (det_spec n) det_ok (tbl_cons (c := .data sgDC) SignD_spec Sign_ok tbl_nil))) (fn := Try.f45) (by kernel_rfl) rfl (by kernel_rfl) (by kernel_rfl) ?_
  rintro m hp
  obtain ⟨hm, he, hn3⟩ : sqm n m ∧ (∀ r ∈ m, ∀ z ∈ r, I64 z) ∧ n ≤ 3 := hp
  have hml := hm.1
  show awp _ _ _ _ (start _ ([D.sl 1 (m.map (EInt.list 1).e)].map .dat) []) (endK _ _ _ ([D.lit (.int .i64 (detI n m).sign)].map .dat) [])
  simp only [Try.f45]
  simp [-D.isLit]
  refine loop_go (fun n' st => ∃ k, n' = m.length - k ∧ k ≤ m.length ∧ st = sgO m ((m.take k).map (EZp.list 1).e) k) (s0 := sgO m [] 0) (n := m.length) (snd_of (by simp [LeT, sgO]) (by simp [sgO])) ⟨0, rfl, by omega, rfl⟩ ?_
  rintro n' st ⟨k, hn', hk, rfl⟩ KN hN
  by_cases hkl : k < m.length
  · have q0 : (k : Int) < (m.length : Int) := by omega
    have w0 : IntKind.i64.wrap ((k : Int) + 1) = (k : Int) + 1 := i64_id _ (by omega) (by omega)
    obtain ⟨r, hr⟩ : ∃ r, r = m.getD k [] := ⟨_, rfl⟩
    have hrm : r ∈ m := by rw [hr]; exact getD_mem hkl
    have hrl := hm.2 r hrm
    have x1 : ix (m.map (EInt.list 1).e) k = some (.sl 1 (r.map EInt.e)) := by rw [ix_rows _ _ _ [] hkl, ← hr, rI_e]
    obtain ⟨RS, hRS⟩ : ∃ RS, RS = (m.take k).map (EZp.list 1).e := ⟨_, rfl⟩
    have l3 : RS.length = k := by rw [hRS]; simp; omega
    have b5 : RS.length + 1 ≤ maxLen := mxs (by omega)
    have b6 : (RS.length + 1) * 24 ≤ 140737488355328 := by omega
    have eRS : (m.take (k + 1)).map (EZp.list 1).e = RS ++ [.sl 1 (r.map EZp.e)] := by rw [take_succ7 [] hkl, List.map_append, ← hRS, ← hr]; rfl
    rw [← hRS]
    simp [-D.isLit, sgO, q0, x1]
    refine loop_go (fun n' st => ∃ t, n' = r.length - t ∧ t ≤ r.length ∧ st = sgN m RS k r ((r.take t).map EZp.e) t) (s0 := sgN m RS k r [] 0) (n := r.length) (snd_obs (n := 37) [(9, 9, .row 1 133 RS), (16, 16, .row 1 57 [])] rfl (by simp) (by simp [sgN])) ⟨0, rfl, by omega, rfl⟩ ?_
    rintro n'' st' ⟨t, hn'', ht, rfl⟩ KM hM
    by_cases htl : t < r.length
    · have q1 : (t : Int) < (r.length : Int) := by omega
      have w1 : IntKind.i64.wrap ((t : Int) + 1) = (t : Int) + 1 := i64_id _ (by omega) (by omega)
      obtain ⟨v, hv⟩ : ∃ v, v = r.getD t 0 := ⟨_, rfl⟩
      have iv : I64 v := by rw [hv]; exact he r hrm _ (getDi_mem htl)
      have x2 : ix (r.map EInt.e) t = some (.lit (.int .i64 v)) := by rw [ix_rows _ _ _ 0 htl, ← hv]; rfl
      obtain ⟨XS, hXS⟩ : ∃ XS, XS = (r.take t).map EZp.e := ⟨_, rfl⟩
      have l4 : XS.length = t := by rw [hXS]; simp; omega
      have b1 : XS.length + 1 ≤ maxLen := mxs (by omega)
      have b2 : (XS.length + 1) * 8 ≤ 140737488355328 := by omega
      have eXS : (r.take (t + 1)).map EZp.e = XS ++ [.ptr (eZ v)] := by rw [take_succ7 0 htl, List.map_append, ← hXS, ← hv]; rfl
      rw [← hXS]
      simp [-D.isLit, sgN, q1, x2, w1, n_new7, iv, b1, b2]
      exact hM _ (nx (m := r.length - (t + 1)) (s'' := sgN m RS k r ((r.take (t + 1)).map EZp.e) (t + 1)) (snd_obs (n := 37) [(9, 9, .row 1 133 RS), (16, 27, .row 1 57 ((r.take (t + 1)).map EZp.e))] rfl (by simp [eXS]) (by simp [sgN])) ⟨t + 1, rfl, by omega, rfl⟩ (by omega))
    · have htr : t = r.length := by omega
      subst htr
      rw [List.take_length]
      simp [-D.isLit, sgN, w0, b5, b6]
      exact hN _ (nx (m := m.length - (k + 1)) (s'' := sgO m ((m.take (k + 1)).map (EZp.list 1).e) (k + 1)) (snd_obs (n := 37) [(9, 32, .row 1 133 ((m.take (k + 1)).map (EZp.list 1).e))] rfl (by simp [eRS]) (by simp [sgO])) ⟨k + 1, rfl, by omega, rfl⟩ (by omega))
  · have hkm : k = m.length := by omega
    subst hkm
    rw [List.take_length]
    have c1 := idtC_at n m
    rw [eq_true (show sqm n m ∧ ent m ∧ n ≤ 3 from ⟨hm, ent_i64 he, hn3⟩)] at c1
    simp [-D.isLit, sgO, c1, n_sg7, isl_ptr7]
theorem ids_ok : callable Try.prog 45 = true := by kernel_rfl

/-! s.l2Row, of any length up to three -/
def sqs (l : List Int) : Int := (l.map fun x => x * x).sum
theorem sqs_succ {l : List Int} {t : Nat} (h : t < l.length) : sqs (l.take (t + 1)) = sqs (l.take t) + l.getD t 0 * l.getD t 0 := by
  unfold sqs
  rw [take_succ7 0 h, List.map_append, List.sum_append]
  simp
theorem dm_sq {x : Int} (h : dm x) : 0 ≤ x * x ∧ x * x ≤ 18014398509481984 := ⟨by rw [← Int.natAbs_mul_self]; omega, (dm_mul h h).2⟩
theorem sqs_le {l : List Int} (h : ∀ x ∈ l, dm x) : ∀ t, t ≤ l.length → 0 ≤ sqs (l.take t) ∧ sqs (l.take t) ≤ 18014398509481984 * t
  | 0, _ => by simp [sqs]
  | t + 1, ht => by
    have ih := sqs_le h t (by omega)
    have h1 := dm_sq (h _ (getDi_mem (r := l) (k := t) (by omega)))
    rw [sqs_succ (by omega)]
    omega
def rowQ (l : List Int) (q : Bool) : List Int := match q with
  | true => l ++ [sqs l]
  | false => l
noncomputable def srwC := ct2 (EInt.list 1) EBool (fun l q => (∀ x ∈ l, dm x) ∧ l.length ≤ 3) (fun l q => [.sl 3 ((rowQ l q).map EZn.e)])
theorem srwC_at (l : List Int) (q : Bool) : srwC [.sl 1 (l.map EInt.e), .lit (.bool q)] = (((∀ x ∈ l, dm x) ∧ l.length ≤ 3), [.sl 3 ((rowQ l q).map EZn.e)]) := ct2_at (A := EInt.list 1) (B := EBool) l q
noncomputable def srwTb : List (FuncId × Ct) := [(95, .data l1rIntC), (96, .data nMulC), (98, .data nAddC)]
theorem srwTb_ok : TbOK NF Try.prog (tbl srwTb) := tbl_cons (c := .data l1rIntC) l1rInt_spec l1rInt_ok (tbl_cons (c := .data nMulC) nMul_spec l1rMul_ok (tbl_cons (c := .data nAddC) nAdd_spec l1rAdd_ok tbl_nil))

@[simp] theorem srwTb1 : tbl srwTb 95 = some (.data l1rIntC) := rfl
@[simp] theorem srwTb2 : tbl srwTb 96 = some (.data nMulC) := rfl
@[simp] theorem srwTb3 : tbl srwTb 98 = some (.data nAddC) := rfl
def srwS (l : List Int) (q : Bool) (out : List D) (g : Rat) (k : Nat) : St := ⟨[.dat (.sl 1 (l.map EInt.e)), .dat (.lit (.bool q)), .any, .any, .dat (.lit (.slice none 0 0)), .row 9, .obj 6 [] 0, .dat (.lit (.int .i64 k)), .any, .any, .any, .any, .any, .any, .any, .any, .any, .any, .any, .any, .any, .any, .any, .any, .any, .any, .any, .any, .any, .any, .any, .any, .any, .any, .any, .any, .any], [none, none, none, none, none, none, some (.box (nD g)), none, none, some (.row 3 73 out), none, none, none, none, none, none, none, none, none, none, none, none, none, none, none, none, none, none, none, none, none, none, none, none, none, none, none]⟩
theorem qz_s {n : Int} (h : -9223372036854775807 ≤ n ∧ n < 9223372036854775808) : qsz (n : Rat) ≤ 3 := by
  have h1 := qz_7 n
  have h2 := ln_i64 (n := n.natAbs) (by omega)
  omega
theorem eZn_size (z : Int) : (EZn.e z).size = 3 := rfl
set_option maxRecDepth 100000 in
set_option maxHeartbeats 4000000 in
theorem srw_spec : SpecD NF Try.prog 48 srwC := by
  refine rd2 (mf := fun f => false) srwTb_ok (fn := Try.f48) (by kernel_rfl) rfl (by kernel_rfl) (by kernel_rfl) ?_
  rintro l q ⟨hd, hl⟩
  have hd : ∀ x ∈ l, dm x := hd
  have hl : l.length ≤ 3 := hl
  show awp _ _ _ _ (start _ ([D.sl 1 (l.map EInt.e), .lit (.bool q)].map .dat) []) (endK _ _ _ ([D.sl 3 ((rowQ l q).map EZn.e)].map .dat) [])
  have i0 : I64 0 := by unfold I64; omega
  simp only [Try.f48]
  simp [-D.isLit, i0]
  refine loop_go (fun n' st => ∃ k, n' = l.length - k ∧ k ≤ l.length ∧ st = srwS l q ((l.take k).map EZn.e) ((sqs (l.take k) : Int) : Rat) k) (s0 := srwS l q [] 0 0) (n := l.length) (snd_of (by simp [LeT, srwS]) (by simp [srwS])) ⟨0, rfl, by omega, by simp [sqs]⟩ ?_
  rintro n' st ⟨k, hn', hk, rfl⟩ KN hN
  have hsq := sqs_le hd k hk
  obtain ⟨G, hG⟩ : ∃ G : Rat, G = ((sqs (l.take k) : Int) : Rat) := ⟨_, rfl⟩
  have hGq : qsz G ≤ 3 := by rw [hG]; exact qz_s (by omega)
  by_cases hkl : k < l.length
  · have q0 : (k : Int) < (l.length : Int) := by omega
    have w1 : IntKind.i64.wrap ((k : Int) + 1) = (k : Int) + 1 := i64_id _ (by omega) (by omega)
    obtain ⟨v, hv⟩ : ∃ v, v = l.getD k 0 := ⟨_, rfl⟩
    have hdv : dm v := by rw [hv]; exact hd _ (getDi_mem hkl)
    have iv := dm_i64 hdv
    have zv := dm_qsz hdv
    obtain ⟨V, hV⟩ : ∃ V : Rat, V = (v : Rat) := ⟨_, rfl⟩
    have m1 := qsz_mul V V
    rw [← hV] at zv
    have s1 : qsz V + qsz V < MX := by rw [MX_val]; omega
    have s2 : qsz G + qsz (V * V) < MX := by rw [MX_val]; omega
    have x2 : ix (l.map EInt.e) k = some (.lit (.int .i64 v)) := by rw [ix_rows _ _ _ 0 hkl, ← hv]; rfl
    obtain ⟨XS, hXS⟩ : ∃ XS, XS = (l.take k).map EZn.e := ⟨_, rfl⟩
    have l4 : XS.length = k := by rw [hXS]; simp; omega
    have b1 : XS.length + 1 ≤ maxLen := mxs (by omega)
    have b2 : (XS.length + 1) * 40 ≤ 140737488355328 := by omega
    have eXS : (l.take (k + 1)).map EZn.e = XS ++ [nD V] := by rw [take_succ7 0 hkl, List.map_append, ← hXS, ← hv, hV]; rfl
    have eG : ((sqs (l.take (k + 1)) : Int) : Rat) = G + V * V := by rw [sqs_succ hkl, ← hv, Rat.intCast_add, Rat.intCast_mul, ← hG, ← hV]
    rw [← hXS, ← hG]
    simp [-D.isLit, srwS, q0, x2, w1, iv, ← hV, s1, s2, b1, b2]
    exact hN _ (nx (m := l.length - (k + 1)) (s'' := srwS l q ((l.take (k + 1)).map EZn.e) ((sqs (l.take (k + 1)) : Int) : Rat) (k + 1)) (snd_obs (n := 37) [(6, 6, .box (nD ((sqs (l.take (k + 1)) : Int) : Rat))), (9, 25, .row 3 73 ((l.take (k + 1)).map EZn.e))] rfl (by simp [eXS, eG]) (by simp [srwS])) ⟨k + 1, rfl, by omega, rfl⟩ (by omega))
  · have hkm : k = l.length := by omega
    subst hkm
    rw [← hG]
    rw [List.take_length] at hG ⊢
    obtain ⟨XS, hXS⟩ : ∃ XS, XS = l.map EZn.e := ⟨_, rfl⟩
    have l4 : XS.length = l.length := by rw [hXS]; simp
    have b1 : XS.length + 1 ≤ maxLen := mxs (by omega)
    have b2 : (XS.length + 1) * 40 ≤ 140737488355328 := by omega
    rw [← hXS]
    cases q with
    | false =>
      have e : (rowQ l false).map EZn.e = XS := by rw [hXS]; rfl
      rw [e]
      simp [-D.isLit, srwS]
    | true =>
      have e : (rowQ l true).map EZn.e = XS ++ [nD G] := by rw [hXS, hG]; show (l ++ [sqs l]).map EZn.e = _; rw [List.map_append]; rfl
      rw [e]
      simp [-D.isLit, srwS, b1, b2]
theorem srw_ok : callable Try.prog 48 = true := by kernel_rfl

/-! s.l2Det -/
noncomputable def sdtC (n : Nat) := ct1 EMn (fun m => sqm n m ∧ ent m ∧ n ≤ 3) (fun m => [nD ((detS n m : Int) : Rat)])
theorem sdtC_at (n : Nat) (m : List (List Int)) : sdtC n [.sl 1 (m.map (EZn.list 3).e)] = ((sqm n m ∧ ent m ∧ n ≤ 3), [nD ((detS n m : Int) : Rat)]) := ct1_at (A := EMn) m
/-- The rows but the i-th without their first number, as far as t. -/
def rsS (i : Nat) (m : List (List Int)) : Nat → List (List Int)
  | 0 => []
  | t + 1 => if t = i then rsS i m t else rsS i m t ++ [(m.getD t []).tail]
theorem rsS_eq {i : Nat} {m : List (List Int)} : ∀ t, t ≤ m.length → rsS i m t = ((m.take t).take i ++ (m.take t).drop (i + 1)).map List.tail
  | 0, _ => by simp [rsS]
  | t + 1, ht => by
    have ih := rsS_eq (i := i) (m := m) t (by omega)
    have e := take_succ7 [] (show t < m.length by omega)
    have hl : (m.take t).length = t := by simp; omega
    show (if t = i then _ else _) = _
    by_cases hti : t = i
    · subst hti
      rw [if_pos rfl, ih, e, List.take_append, List.drop_append, hl]
      simp
    · rw [if_neg hti, ih, e, List.take_append, List.drop_append, hl]
      rcases Nat.lt_or_ge t i with h | h
      · have e1 : i - t = (i - t - 1) + 1 := by omega
        have e2 : (m.take t).drop (i + 1) = [] := List.drop_eq_nil_of_le (by omega)
        have e3 : i + 1 - t = (i - t) + 1 := by omega
        rw [e1, e2, e3]
        simp
      · have e1 : i - t = 0 := by omega
        have e2 : i + 1 - t = 0 := by omega
        rw [e1, e2]
        simp
theorem rsS_all {i : Nat} {m : List (List Int)} : rsS i m m.length = minS i m := by rw [rsS_eq _ (Nat.le_refl _), List.take_length]; rfl
theorem rsS_len {i : Nat} {m : List (List Int)} : ∀ t, (rsS i m t).length ≤ t
  | 0 => by simp [rsS]
  | t + 1 => by
    have := rsS_len (i := i) (m := m) t
    show (if _ then _ else _ : List (List Int)).length ≤ _
    split
    · omega
    · simp; omega
def stI (m : List (List Int)) (s : Rat) (k : Nat) : St := ⟨[.dat (.sl 1 (m.map (EZn.list 3).e)), .any, .obj 2 [] 0, .obj 3 [] 0, .dat (.lit (.int .i64 k)), .any, .any, .any, .any, .any, .any, .any, .any, .any, .any, .any, .any, .any, .any, .any, .any, .any, .any, .any, .any, .any, .any, .any, .any, .any, .any, .any, .any, .any, .any, .any, .any, .any, .any, .any, .any, .any, .any, .any, .any, .any, .any, .any, .any, .any, .any, .any, .any, .any, .any, .any, .any, .any, .any, .any, .any, .any, .any, .any, .any, .any, .any], [none, none, some (.box zN3), some (.box (nD s)), none, none, none, none, none, none, none, none, none, none, none, none, none, none, none, none, none, none, none, none, none, none, none, none, none, none, none, none, none, none, none, none, none, none, none, none, none, none, none, none, none, none, none, none, none, none, none, none, none, none, none, none, none, none, none, none, none, none, none, none, none, none, none]⟩
def stJ (m : List (List Int)) (s : Rat) (k : Nat) (rs : List D) (t : Nat) : St := ⟨[.dat (.sl 1 (m.map (EZn.list 3).e)), .any, .obj 2 [] 0, .obj 3 [] 0, .dat (.lit (.int .i64 k)), .row 31, .dat (.lit (.int .i64 t)), .any, .any, .any, .any, .any, .any, .any, .any, .any, .any, .any, .any, .any, .any, .any, .any, .any, .any, .any, .any, .any, .any, .any, .any, .any, .any, .any, .any, .any, .any, .any, .any, .any, .any, .any, .any, .any, .any, .any, .any, .any, .any, .any, .any, .any, .any, .any, .any, .any, .any, .any, .any, .any, .any, .any, .any, .any, .any, .any, .any], [none, none, some (.box zN3), some (.box (nD s)), none, none, none, none, none, none, none, none, none, none, none, none, none, none, none, none, none, none, none, none, none, none, none, none, none, none, none, some (.row 1 84 rs), none, none, none, none, none, none, none, none, none, none, none, none, none, none, none, none, none, none, none, none, none, none, none, none, none, none, none, none, none, none, none, none, none, none, none]⟩
def stK (m : List (List Int)) (s : Rat) (k : Nat) (rs : List D) (t : Nat) : St := ⟨[.dat (.sl 1 (m.map (EZn.list 3).e)), .any, .obj 2 [] 0, .obj 3 [] 0, .dat (.lit (.int .i64 k)), .dat (.sl 1 rs), .dat (.lit (.int .i64 t)), .any, .any, .any, .any, .any, .any, .any, .any, .any, .any, .any, .any, .any, .any, .any, .any, .any, .any, .any, .any, .any, .any, .any, .any, .any, .any, .any, .any, .any, .any, .any, .any, .any, .any, .any, .any, .any, .any, .any, .any, .any, .any, .any, .any, .any, .any, .any, .any, .any, .any, .any, .any, .any, .any, .any, .any, .any, .any, .any, .any], [none, none, some (.box zN3), some (.box (nD s)), none, none, none, none, none, none, none, none, none, none, none, none, none, none, none, none, none, none, none, none, none, none, none, none, none, none, none, none, none, none, none, none, none, none, none, none, none, none, none, none, none, none, none, none, none, none, none, none, none, none, none, none, none, none, none, none, none, none, none, none, none, none, none]⟩
noncomputable def sdtTb (n : Nat) : List (FuncId × Ct) := [(95, .data l1rIntC), (41, .data nSignC), (47, .data (sdtC n)), (96, .data nMulC), (97, .data nNegC), (98, .data nAddC)]
@[simp] theorem sdtTb1 (n : Nat) : tbl (sdtTb n) 95 = some (.data l1rIntC) := rfl
@[simp] theorem sdtTb2 (n : Nat) : tbl (sdtTb n) 41 = some (.data nSignC) := rfl
@[simp] theorem sdtTb3 (n : Nat) : tbl (sdtTb n) 47 = some (.data (sdtC n)) := rfl
@[simp] theorem sdtTb4 (n : Nat) : tbl (sdtTb n) 96 = some (.data nMulC) := rfl
@[simp] theorem sdtTb5 (n : Nat) : tbl (sdtTb n) 97 = some (.data nNegC) := rfl
@[simp] theorem sdtTb6 (n : Nat) : tbl (sdtTb n) 98 = some (.data nAddC) := rfl
theorem sdt_ok : callable Try.prog 47 = true := by kernel_rfl
theorem altS_skip {f : Nat → Int} {k : Nat} (h : f k = 0) : altS f (k + 1) = altS f k := by
  by_cases hp : k % 2 = 1
  · rw [altS_odd hp, h]; omega
  · rw [altS_even hp, h]; omega
set_option maxRecDepth 100000 in
set_option maxHeartbeats 4000000 in
theorem sdt_spec : ∀ n, SpecD NF Try.prog 47 (sdtC n)
  | 0 => by
    refine rd1 (mf := fun f => false) (tb := tbl []) tbl_nil (fn := Try.f47) (by kernel_rfl) rfl (by kernel_rfl) (by kernel_rfl) ?_
    rintro m hp
    obtain ⟨hm, he, _⟩ : sqm 0 m ∧ ent m ∧ 0 ≤ 3 := hp
    obtain ⟨r, rfl⟩ : ∃ r, m = [r] := by
      have := hm.1
      match m, this with
      | [r], _ => exact ⟨r, rfl⟩
    obtain ⟨a, rfl⟩ : ∃ a, r = [a] := by
      have := hm.2 r (by simp)
      match r, this with
      | [a], _ => exact ⟨a, rfl⟩
    show awp _ _ _ _ (start _ ([D.sl 1 [.sl 3 [nD (a : Rat)]]].map .dat) []) (endK _ _ _ ([nD (a : Rat)].map .dat) [])
    simp [-D.isLit, Try.f47, ix]
  | n + 1 => by
    refine rd1 (mf := fun f => false) (tb := tbl (sdtTb n)) (tbl_cons (c := .data l1rIntC) l1rInt_spec l1rInt_ok (tbl_cons (c := .data nSignC) nSign_spec l1rSign_ok (tbl_cons (c := .data (sdtC n)) (sdt_spec n) sdt_ok (tbl_cons (c := .data nMulC) nMul_spec l1rMul_ok (tbl_cons (c := .data nNegC) nNeg_spec l1rNeg_ok (tbl_cons (c := .data nAddC) nAdd_spec l1rAdd_ok tbl_nil)))))) (fn := Try.f47) (by kernel_rfl) rfl (by kernel_rfl) (by kernel_rfl) ?_
    rintro m hp
    obtain ⟨hm, he, hn3⟩ : sqm (n + 1) m ∧ ent m ∧ n + 1 ≤ 3 := hp
    generalize hr : detS (n + 1) m = res
    have hms : m.length = n + 2 := hm.1
    have hbd := bd_le (n := n) (by omega)
    obtain ⟨f, hf⟩ : ∃ f : Nat → Int, f = fun k => (m.getD k []).getD 0 0 * detS n (minS k m) := ⟨_, rfl⟩
    have hres : altS f (n + 2) = res := by rw [← hr, hf]; rfl
    have hfl : ∀ j, j < n + 2 → ln (f j).natAbs ≤ 19 := fun j hj => by
      have h1 := detS_ln n (minS j m) (minS_ok hm hj) (minS_ent he)
      have h0 : m.getD j [] ∈ m := getD_mem (by omega)
      have h2 := he _ h0 _ (getDi_mem (r := m.getD j []) (k := 0) (by have := hm.2 _ h0; omega))
      have := ln_na_mul ((m.getD j []).getD 0 0) (detS n (minS j m))
      rw [hf]
      show ln ((m.getD j []).getD 0 0 * detS n (minS j m)).natAbs ≤ _
      omega
    show awp _ _ _ _ (start _ ([D.sl 1 (m.map (EZn.list 3).e)].map .dat) []) (endK _ _ _ ([nD (res : Rat)].map .dat) [])
    simp only [Try.f47]
    have h1 : ¬ ((m.length : Int) = 1) := by omega
    have h1' : ¬ (m.length = 1) := by omega
    have i0 : I64 0 := by unfold I64; omega
    simp [-D.isLit, h1, h1', i0]
    refine loop_go (fun n' st => ∃ k, n' = n + 2 - k ∧ k ≤ n + 2 ∧ st = stI m ((altS f k : Int) : Rat) k) (s0 := stI m 0 0) (n := n + 2) (snd_of (by simp [LeT, stI]) (by simp [stI, zN3])) ⟨0, rfl, by omega, rfl⟩ ?_
    rintro n' st ⟨k, hn', hk, rfl⟩ KN hN
    have w2 : IntKind.i64.wrap ((k : Int) + 1) = (k : Int) + 1 := i64_id _ (by omega) (by omega)
    obtain ⟨S, hS⟩ : ∃ S : Rat, S = ((altS f k : Int) : Rat) := ⟨_, rfl⟩
    by_cases hkl : k < n + 2
    · have hkm : k < m.length := by omega
      have q0 : (k : Int) < (m.length : Int) := by omega
      obtain ⟨r, hrr⟩ : ∃ r, r = m.getD k [] := ⟨_, rfl⟩
      have hrm : r ∈ m := by rw [hrr]; exact getD_mem hkm
      have hrl : r.length = n + 2 := hm.2 r hrm
      have q1 : 0 < r.length := by omega
      have q1i : (0 : Int) < (r.length : Int) := by omega
      obtain ⟨v, hv⟩ : ∃ v, v = r.getD 0 0 := ⟨_, rfl⟩
      have hvl : ln v.natAbs ≤ 2 := by rw [hv]; exact he r hrm _ (getDi_mem q1)
      have x1 : ix (m.map (EZn.list 3).e) k = some (.sl 3 (r.map EZn.e)) := by rw [ix_rows _ _ _ [] hkm, ← hrr, rN_e]
      have x2 : ix (r.map EZn.e) 0 = some (nD (v : Rat)) := by rw [ix_rows _ _ _ 0 q1, ← hv]; rfl
      rw [← hS]
      by_cases h0 : v = 0
      · have hfk : f k = 0 := by rw [hf]; show (m.getD k []).getD 0 0 * _ = 0; rw [← hrr, ← hv, h0, Int.zero_mul]
        have es : ((altS f (k + 1) : Int) : Rat) = S := by rw [altS_skip hfk, hS]
        have sv : ((v : Rat).num.sign = 0) = True := eq_true (by rw [h0]; rfl)
        simp [-D.isLit, stI, q0, q1i, x1, x2, sv, h0, w2]
        exact hN _ (nx (m := n + 2 - (k + 1)) (s'' := stI m ((altS f (k + 1) : Int) : Rat) (k + 1)) (snd_of (by simp [LeT, stI]) (by simp [stI, es])) ⟨k + 1, rfl, by omega, rfl⟩ (by omega))
      · simp [-D.isLit, stI, q0, q1i, x1, x2, h0]
        refine loop_go (fun n' st => ∃ t, n' = m.length - t ∧ t ≤ m.length ∧ ((t < m.length ∧ st = stJ m S k ((rsS k m t).map (EZn.list 3).e) t) ∨ (t = m.length ∧ st = stK m S k ((rsS k m t).map (EZn.list 3).e) t))) (s0 := stJ m S k [] 0) (n := m.length) (snd_obs (n := 67) [(2, 2, .box zN3), (3, 3, .box (nD S)), (31, 31, .row 1 84 [])] rfl (by simp) (by simp [stJ])) ⟨0, rfl, by omega, .inl ⟨by omega, rfl⟩⟩ ?_
        rintro n'' st' ⟨t, hn'', ht, hst⟩ KM hM
        rcases hst with ⟨htl, rfl⟩ | ⟨rfl, rfl⟩
        · have q2 : (t : Int) < (m.length : Int) := by omega
          obtain ⟨rt, hrt⟩ : ∃ rt, rt = m.getD t [] := ⟨_, rfl⟩
          have hrtl : rt.length = n + 2 := by rw [hrt]; exact hm.2 _ (getD_mem htl)
          have x3 : ix (m.map (EZn.list 3).e) t = some (.sl 3 (rt.map EZn.e)) := by rw [ix_rows _ _ _ [] htl, ← hrt, rN_e]
          have q3 : (1 : Int) ≤ (rt.length : Int) := by omega
          have w3 : IntKind.i64.wrap ((t : Int) + 1) = (t : Int) + 1 := i64_id _ (by omega) (by omega)
          have e1 : lsub (rt.map EZn.e) 1 rt.length = rt.tail.map EZn.e := by rw [lsub_map]; simp
          obtain ⟨RS, hRS⟩ : ∃ RS, RS = (rsS k m t).map (EZn.list 3).e := ⟨_, rfl⟩
          have l3 : RS.length ≤ t := by rw [hRS, List.length_map]; exact rsS_len t
          have b5 : RS.length + 1 ≤ maxLen := mxs (by omega)
          have b6 : (RS.length + 1) * 24 ≤ 140737488355328 := by omega
          have q4 : 1 ≤ rt.length := by omega
          rw [← hRS]
          by_cases htk : t = k
          · have eRS : (rsS k m (t + 1)).map (EZn.list 3).e = RS := by rw [hRS]; show (if t = k then _ else _ : List (List Int)).map _ = _; rw [if_pos htk]
            have tki : ((t : Int) = (k : Int)) := by omega
            by_cases hlast : t + 1 < m.length
            · simp [-D.isLit, stJ, q0, tki, htk, w2]
              exact hM _ (nx (m := m.length - (t + 1)) (s'' := stJ m S k ((rsS k m (t + 1)).map (EZn.list 3).e) (t + 1)) (snd_obs (n := 67) [(2, 2, .box zN3), (3, 3, .box (nD S)), (31, 31, .row 1 84 ((rsS k m (t + 1)).map (EZn.list 3).e))] rfl (by simp [eRS]) (by simp [stJ, htk])) ⟨t + 1, rfl, by omega, .inl ⟨hlast, rfl⟩⟩ (by omega))
            · simp [-D.isLit, stJ, q0, tki, htk, w2]
              exact hM _ (nx (m := m.length - (t + 1)) (s'' := stK m S k ((rsS k m (t + 1)).map (EZn.list 3).e) (t + 1)) (Snd.trans (Snd.toData _ 5 31 (.sl 1 ((rsS k m (t + 1)).map (EZn.list 3).e)) (by simp [St.get, eRS]) (by simp [St.mayFreeze, St.obj])) (snd_obs (n := 67) [(2, 2, .box zN3), (3, 3, .box (nD S))] rfl (by simp [St.frz]) (by simp [stK, St.frz, htk]))) ⟨t + 1, rfl, by omega, .inr ⟨by omega, rfl⟩⟩ (by omega))
          · have eRS : (rsS k m (t + 1)).map (EZn.list 3).e = RS ++ [.sl 3 (rt.tail.map EZn.e)] := by rw [hRS, hrt]; show (if t = k then _ else _ : List (List Int)).map _ = _; rw [if_neg htk, List.map_append]; rfl
            have tki : ¬ ((t : Int) = (k : Int)) := by omega
            by_cases hlast : t + 1 < m.length
            · simp [-D.isLit, stJ, q2, tki, htk, w3, x3, q3, q4, e1, b5, b6]
              exact hM _ (nx (m := m.length - (t + 1)) (s'' := stJ m S k ((rsS k m (t + 1)).map (EZn.list 3).e) (t + 1)) (snd_obs (n := 67) [(2, 2, .box zN3), (3, 3, .box (nD S)), (31, 48, .row 1 84 ((rsS k m (t + 1)).map (EZn.list 3).e))] rfl (by simp [eRS]) (by simp [stJ])) ⟨t + 1, rfl, by omega, .inl ⟨hlast, rfl⟩⟩ (by omega))
            · simp [-D.isLit, stJ, q2, tki, htk, w3, x3, q3, q4, e1, b5, b6]
              exact hM _ (nx (m := m.length - (t + 1)) (s'' := stK m S k ((rsS k m (t + 1)).map (EZn.list 3).e) (t + 1)) (Snd.trans (Snd.toData _ 5 48 (.sl 1 ((rsS k m (t + 1)).map (EZn.list 3).e)) (by simp [St.get, eRS]) (by simp [St.mayFreeze, St.obj])) (snd_obs (n := 67) [(2, 2, .box zN3), (3, 3, .box (nD S))] rfl (by simp [St.frz]) (by simp [stK, St.frz]))) ⟨t + 1, rfl, by omega, .inr ⟨by omega, rfl⟩⟩ (by omega))
        · obtain ⟨dk, hdk⟩ : ∃ dk, dk = detS n (minS k m) := ⟨_, rfl⟩
          have c1 := sdtC_at n (minS k m)
          rw [← rsS_all, rsS_all, eq_true (show sqm n (minS k m) ∧ ent (minS k m) ∧ n ≤ 3 from ⟨minS_ok hm hkl, minS_ent he, by omega⟩), ← hdk] at c1
          have hfk : f k = v * dk := by rw [hf, hv, hrr, hdk]
          have hsl := altS_ln hfl k (by omega)
          have dkl : ln dk.natAbs ≤ 17 := by rw [hdk]; have := detS_ln n _ (minS_ok hm hkl) (minS_ent he); omega
          have z1 := qz_7 v
          have z2 := qz_7 dk
          have z3 := qz_7 (altS f k)
          rw [← hS] at z3
          have x1 : ix (m.map (EZn.list 3).e) k = some (.sl 3 (r.map EZn.e)) := x1
          obtain ⟨V, hV⟩ : ∃ V : Rat, V = (v : Rat) := ⟨_, rfl⟩
          obtain ⟨DK, hDK⟩ : ∃ DK : Rat, DK = (dk : Rat) := ⟨_, rfl⟩
          rw [← hV] at z1 x2
          rw [← hDK] at z2 c1
          have m1 := qsz_mul V DK
          have m2 := qsz_neg (V * DK)
          have s1 : qsz V + qsz DK < MX := by rw [MX_val]; omega
          have s2 : qsz S + qsz (V * DK) < MX := by rw [MX_val]; omega
          have s3 : qsz S + qsz (-(V * DK)) < MX := by rw [MX_val]; omega
          have s4 : qsz (V * DK) < MX := by rw [MX_val]; omega
          have tm := tmod2 k
          rw [rsS_all]
          by_cases hpar : k % 2 = 1
          · have tm1 : (k : Int).tmod 2 = 1 := by rw [tm, hpar]; rfl
            have es : ((altS f (k + 1) : Int) : Rat) = S + -(V * DK) := by rw [altS_odd hpar, hfk, Rat.intCast_add, Rat.intCast_neg, Rat.intCast_mul, hS, hV, hDK]
            simp [-D.isLit, stK, q0, q1i, x1, x2, c1, tm1, w2, s1, s2, s3, s4]
            exact hN _ (nx (m := n + 2 - (k + 1)) (s'' := stI m ((altS f (k + 1) : Int) : Rat) (k + 1)) (snd_obs (n := 67) [(2, 2, .box zN3), (3, 3, .box (nD ((altS f (k + 1) : Int) : Rat)))] rfl (by simp [es]) (by simp [stI])) ⟨k + 1, rfl, by omega, rfl⟩ (by omega))
          · have tm0 : (k : Int).tmod 2 = 0 := by rw [tm]; omega
            have es : ((altS f (k + 1) : Int) : Rat) = S + V * DK := by rw [altS_even hpar, hfk, Rat.intCast_add, Rat.intCast_mul, hS, hV, hDK]
            simp [-D.isLit, stK, q0, q1i, x1, x2, c1, tm0, w2, s1, s2, s3, s4]
            exact hN _ (nx (m := n + 2 - (k + 1)) (s'' := stI m ((altS f (k + 1) : Int) : Rat) (k + 1)) (snd_obs (n := 67) [(2, 2, .box zN3), (3, 3, .box (nD ((altS f (k + 1) : Int) : Rat)))] rfl (by simp [es]) (by simp [stI])) ⟨k + 1, rfl, by omega, rfl⟩ (by omega))
    · have hkn : k = n + 2 := by omega
      subst hkn
      rw [hres]
      have q0 : ¬ (((n + 2 : Nat) : Int) < (m.length : Int)) := by omega
      have q0' : ¬ ((n : Int) + 2 < (m.length : Int)) := by omega
      simp [-D.isLit, stI, q0, q0', zN3]
end Go.Proofs.Ytcgolmopbnhgeaa.Ae

/-! What Orient3, InCircle and InSphere share. No condition. -/
namespace Go.Proofs.Ytcgolmopbnhgeaa.Ae
open Go Go.RowKit Go.Proofs.Ytcgolmopbnhgeaa.Dig
theorem mx3 : 3 ≤ maxLen := by decide
theorem mx4 : 4 ≤ maxLen := by decide
def EI2p : Enc (Int × Int) := ⟨fun p => .ptr (EI2.e p), fun a b h => by
  simp only [D.ptr.injEq] at h
  exact EI2.inj _ _ h⟩
def EI3p : Enc (Int × Int × Int) := ⟨fun p => .ptr (EI3.e p), fun a b h => by
  simp only [D.ptr.injEq] at h
  exact EI3.inj _ _ h⟩
theorem sqi2 {x y : Int} (h1 : dm x) (h2 : dm y) : I64 (x * x + y * y) := by
  have m1 := dm_sq h1
  have m2 := dm_sq h2
  unfold I64; omega
theorem sqi3 {x y z : Int} (h1 : dm x) (h2 : dm y) (h3 : dm z) : I64 (x * x + y * y + z * z) := by
  have m1 := dm_sq h1
  have m2 := dm_sq h2
  have m3 := dm_sq h3
  unfold I64; omega
theorem tame2_4 (a b c d e f g h : Int) : tame2C [.sl 2 [.agg [.lit (.int .i64 a), .lit (.int .i64 b)], .agg [.lit (.int .i64 c), .lit (.int .i64 d)], .agg [.lit (.int .i64 e), .lit (.int .i64 f)], .agg [.lit (.int .i64 g), .lit (.int .i64 h)]]] = (True, [.lit (.bool (decide (c2 (a, b) ∧ c2 (c, d) ∧ c2 (e, f) ∧ c2 (g, h))))]) := by
  have h1 := tame2C_at [(a, b), (c, d), (e, f), (g, h)]
  have h2 : (([(a, b), (c, d), (e, f), (g, h)] : List (Int × Int)).length < 4611686018427387904) = True := eq_true (by simp)
  rw [h2] at h1
  have h3 : (([(a, b), (c, d), (e, f), (g, h)] : List (Int × Int)).all fun p => decide (c2 p)) = decide (c2 (a, b) ∧ c2 (c, d) ∧ c2 (e, f) ∧ c2 (g, h)) := by rw [Bool.eq_iff_iff, decide_eq_true_eq]; simp
  rw [h3] at h1
  exact h1
attribute [simp] tame2_4
theorem l2Tame2_4 (a b c d e f g h : Int) : l2Tame2C [.sl 2 [.agg [.lit (.int .i64 a), .lit (.int .i64 b)], .agg [.lit (.int .i64 c), .lit (.int .i64 d)], .agg [.lit (.int .i64 e), .lit (.int .i64 f)], .agg [.lit (.int .i64 g), .lit (.int .i64 h)]]] = (True, [.lit (.bool (decide (c2 (a, b) ∧ c2 (c, d) ∧ c2 (e, f) ∧ c2 (g, h))))]) := by
  have h1 := l2Tame2C_at [(a, b), (c, d), (e, f), (g, h)]
  have h2 : (([(a, b), (c, d), (e, f), (g, h)] : List (Int × Int)).length < 4611686018427387904) = True := eq_true (by simp)
  rw [h2] at h1
  have h3 : (([(a, b), (c, d), (e, f), (g, h)] : List (Int × Int)).all fun p => decide (c2 p)) = decide (c2 (a, b) ∧ c2 (c, d) ∧ c2 (e, f) ∧ c2 (g, h)) := by rw [Bool.eq_iff_iff, decide_eq_true_eq]; simp
  rw [h3] at h1
  exact h1
attribute [simp] l2Tame2_4
end Go.Proofs.Ytcgolmopbnhgeaa.Ae

/-! InSphere: both sides, and the law. No condition. -/
namespace Go.Proofs.Ytcgolmopbnhgeaa.Ae
open Go Go.RowKit Go.Proofs.Ytcgolmopbnhgeaa.Dig
@[simp] theorem range5 : List.range 5 = [0, 1, 2, 3, 4] := rfl
noncomputable def ct5 {α β γ δ ε : Type} (A : Enc α) (B : Enc β) (C : Enc γ) (E : Enc δ) (G : Enc ε) (pre : α → β → γ → δ → ε → Prop) (post : α → β → γ → δ → ε → List D) := ctD (fun p : α × β × γ × δ × ε => [A.e p.1, B.e p.2.1, C.e p.2.2.1, E.e p.2.2.2.1, G.e p.2.2.2.2]) (fun p => pre p.1 p.2.1 p.2.2.1 p.2.2.2.1 p.2.2.2.2) (fun p => post p.1 p.2.1 p.2.2.1 p.2.2.2.1 p.2.2.2.2)
theorem ct5_at {α β γ δ ε : Type} {A : Enc α} {B : Enc β} {C : Enc γ} {E : Enc δ} {G : Enc ε} {pre : α → β → γ → δ → ε → Prop} {post : α → β → γ → δ → ε → List D} (a : α) (b : β) (c : γ) (d : δ) (g : ε) : ct5 A B C E G pre post [A.e a, B.e b, C.e c, E.e d, G.e g] = (pre a b c d g, post a b c d g) :=
  ctD_at (e := fun p : α × β × γ × δ × ε => [A.e p.1, B.e p.2.1, C.e p.2.2.1, E.e p.2.2.2.1, G.e p.2.2.2.2]) (fun p q h => by simp only [List.cons.injEq, and_true] at h; exact Prod.ext (A.inj _ _ h.1) (Prod.ext (B.inj _ _ h.2.1) (Prod.ext (C.inj _ _ h.2.2.1) (Prod.ext (E.inj _ _ h.2.2.2.1) (G.inj _ _ h.2.2.2.2))))) (a, b, c, d, g)
theorem rd5 {N : NR} {α β γ δ ε : Type} {A : Enc α} {B : Enc β} {C : Enc γ} {E : Enc δ} {G : Enc ε} {pre : α → β → γ → δ → ε → Prop} {post : α → β → γ → δ → ε → List D} {f : FuncId} {fn : Func} {c : Code} {mf : FuncId → Bool} {tb : FuncId → Option Ct} (htb : TbOK N Try.prog tb) (hf : Try.prog.funcs[f]? = some fn) (hb : fn.body = some c) (hd : drawAll mf c = true) (hl : Nat.ble 5 fn.ntmps = true)
    (h : ∀ a b d g k, pre a b d g k → awp Try.prog mf tb c (start fn.ntmps ([A.e a, B.e b, C.e d, E.e g, G.e k].map .dat) []) (endK Try.prog fn.ntmps fn.results.toList ((post a b d g k).map .dat) [])) : SpecD N Try.prog f (ct5 A B C E G pre post) :=
  rdD htb hf hb hd (fun p ha => ⟨Nat.le_of_ble_eq_true hl, h p.1 p.2.1 p.2.2.1 p.2.2.2.1 p.2.2.2.2 ha⟩)
theorem all3 {P : Int → Prop} {v0 v1 v2 v3 v4 v5 v6 v7 v8 v9 v10 v11 v12 v13 v14 v15 : Int} (h : P v0 ∧ P v1 ∧ P v2 ∧ P v3 ∧ P v4 ∧ P v5 ∧ P v6 ∧ P v7 ∧ P v8 ∧ P v9 ∧ P v10 ∧ P v11 ∧ P v12 ∧ P v13 ∧ P v14 ∧ P v15) : ∀ r ∈ ([[v0, v1, v2, v3], [v4, v5, v6, v7], [v8, v9, v10, v11], [v12, v13, v14, v15]] : List (List Int)), ∀ z ∈ r, P z := by
  obtain ⟨hv0, hv1, hv2, hv3, hv4, hv5, hv6, hv7, hv8, hv9, hv10, hv11, hv12, hv13, hv14, hv15⟩ := h
  intro r hr z hz
  simp at hr
  rcases hr with rfl | rfl | rfl | rfl <;> (simp at hz; rcases hz with rfl | rfl | rfl | rfl <;> assumption)
theorem sqm3 (v0 v1 v2 v3 v4 v5 v6 v7 v8 v9 v10 v11 v12 v13 v14 v15 : Int) : sqm 3 [[v0, v1, v2, v3], [v4, v5, v6, v7], [v8, v9, v10, v11], [v12, v13, v14, v15]] := ⟨rfl, fun r hr => by simp at hr; rcases hr with rfl | rfl | rfl | rfl <;> rfl⟩
theorem ids_3 {v0 v1 v2 v3 v4 v5 v6 v7 v8 v9 v10 v11 v12 v13 v14 v15 : Int} (h : I64 v0 ∧ I64 v1 ∧ I64 v2 ∧ I64 v3 ∧ I64 v4 ∧ I64 v5 ∧ I64 v6 ∧ I64 v7 ∧ I64 v8 ∧ I64 v9 ∧ I64 v10 ∧ I64 v11 ∧ I64 v12 ∧ I64 v13 ∧ I64 v14 ∧ I64 v15) : idsC 3 [.sl 1 [.sl 1 [.lit (.int .i64 v0), .lit (.int .i64 v1), .lit (.int .i64 v2), .lit (.int .i64 v3)], .sl 1 [.lit (.int .i64 v4), .lit (.int .i64 v5), .lit (.int .i64 v6), .lit (.int .i64 v7)], .sl 1 [.lit (.int .i64 v8), .lit (.int .i64 v9), .lit (.int .i64 v10), .lit (.int .i64 v11)], .sl 1 [.lit (.int .i64 v12), .lit (.int .i64 v13), .lit (.int .i64 v14), .lit (.int .i64 v15)]]] = (True, [.lit (.int .i64 (detI 3 [[v0, v1, v2, v3], [v4, v5, v6, v7], [v8, v9, v10, v11], [v12, v13, v14, v15]]).sign)]) := by
  have c := idsC_at 3 [[v0, v1, v2, v3], [v4, v5, v6, v7], [v8, v9, v10, v11], [v12, v13, v14, v15]]
  rw [eq_true (show sqm 3 [[v0, v1, v2, v3], [v4, v5, v6, v7], [v8, v9, v10, v11], [v12, v13, v14, v15]] ∧ (∀ r ∈ ([[v0, v1, v2, v3], [v4, v5, v6, v7], [v8, v9, v10, v11], [v12, v13, v14, v15]] : List (List Int)), ∀ z ∈ r, I64 z) ∧ 3 ≤ 3 from ⟨sqm3 .., all3 h, by omega⟩)] at c
  exact c
theorem sdt_3 {v0 v1 v2 v3 v4 v5 v6 v7 v8 v9 v10 v11 v12 v13 v14 v15 : Int} (h : I64 v0 ∧ I64 v1 ∧ I64 v2 ∧ I64 v3 ∧ I64 v4 ∧ I64 v5 ∧ I64 v6 ∧ I64 v7 ∧ I64 v8 ∧ I64 v9 ∧ I64 v10 ∧ I64 v11 ∧ I64 v12 ∧ I64 v13 ∧ I64 v14 ∧ I64 v15) : sdtC 3 [.sl 1 [.sl 3 [nD (v0 : Rat), nD (v1 : Rat), nD (v2 : Rat), nD (v3 : Rat)], .sl 3 [nD (v4 : Rat), nD (v5 : Rat), nD (v6 : Rat), nD (v7 : Rat)], .sl 3 [nD (v8 : Rat), nD (v9 : Rat), nD (v10 : Rat), nD (v11 : Rat)], .sl 3 [nD (v12 : Rat), nD (v13 : Rat), nD (v14 : Rat), nD (v15 : Rat)]]] = (True, [nD ((detI 3 [[v0, v1, v2, v3], [v4, v5, v6, v7], [v8, v9, v10, v11], [v12, v13, v14, v15]] : Int) : Rat)]) := by
  have c := sdtC_at 3 [[v0, v1, v2, v3], [v4, v5, v6, v7], [v8, v9, v10, v11], [v12, v13, v14, v15]]
  rw [eq_true (show sqm 3 [[v0, v1, v2, v3], [v4, v5, v6, v7], [v8, v9, v10, v11], [v12, v13, v14, v15]] ∧ ent [[v0, v1, v2, v3], [v4, v5, v6, v7], [v8, v9, v10, v11], [v12, v13, v14, v15]] ∧ 3 ≤ 3 from ⟨sqm3 .., ent_i64 (all3 h), by omega⟩), ← det_44] at c
  exact c
theorem tame3_5 (a b c d e f g h i j k l m n o : Int) : tame3C [.sl 3 [.agg [.lit (.int .i64 a), .lit (.int .i64 b), .lit (.int .i64 c)], .agg [.lit (.int .i64 d), .lit (.int .i64 e), .lit (.int .i64 f)], .agg [.lit (.int .i64 g), .lit (.int .i64 h), .lit (.int .i64 i)], .agg [.lit (.int .i64 j), .lit (.int .i64 k), .lit (.int .i64 l)], .agg [.lit (.int .i64 m), .lit (.int .i64 n), .lit (.int .i64 o)]]] = (True, [.lit (.bool (decide (c3 (a, b, c) ∧ c3 (d, e, f) ∧ c3 (g, h, i) ∧ c3 (j, k, l) ∧ c3 (m, n, o))))]) := by
  have h1 := tame3C_at [(a, b, c), (d, e, f), (g, h, i), (j, k, l), (m, n, o)]
  have h2 : (([(a, b, c), (d, e, f), (g, h, i), (j, k, l), (m, n, o)] : List (Int × Int × Int)).length < 4611686018427387904) = True := eq_true (by simp)
  rw [h2] at h1
  have h3 : (([(a, b, c), (d, e, f), (g, h, i), (j, k, l), (m, n, o)] : List (Int × Int × Int)).all fun p => decide (c3 p)) = decide (c3 (a, b, c) ∧ c3 (d, e, f) ∧ c3 (g, h, i) ∧ c3 (j, k, l) ∧ c3 (m, n, o)) := by rw [Bool.eq_iff_iff, decide_eq_true_eq]; simp
  rw [h3] at h1
  exact h1
attribute [simp] tame3_5
theorem l2Tame_5 (a b c d e f g h i j k l m n o : Int) : l2TameC [.sl 3 [.agg [.lit (.int .i64 a), .lit (.int .i64 b), .lit (.int .i64 c)], .agg [.lit (.int .i64 d), .lit (.int .i64 e), .lit (.int .i64 f)], .agg [.lit (.int .i64 g), .lit (.int .i64 h), .lit (.int .i64 i)], .agg [.lit (.int .i64 j), .lit (.int .i64 k), .lit (.int .i64 l)], .agg [.lit (.int .i64 m), .lit (.int .i64 n), .lit (.int .i64 o)]]] = (True, [.lit (.bool (decide (c3 (a, b, c) ∧ c3 (d, e, f) ∧ c3 (g, h, i) ∧ c3 (j, k, l) ∧ c3 (m, n, o))))]) := by
  have h1 := l2TameC_at [(a, b, c), (d, e, f), (g, h, i), (j, k, l), (m, n, o)]
  have h2 : (([(a, b, c), (d, e, f), (g, h, i), (j, k, l), (m, n, o)] : List (Int × Int × Int)).length < 4611686018427387904) = True := eq_true (by simp)
  rw [h2] at h1
  have h3 : (([(a, b, c), (d, e, f), (g, h, i), (j, k, l), (m, n, o)] : List (Int × Int × Int)).all fun p => decide (c3 p)) = decide (c3 (a, b, c) ∧ c3 (d, e, f) ∧ c3 (g, h, i) ∧ c3 (j, k, l) ∧ c3 (m, n, o)) := by rw [Bool.eq_iff_iff, decide_eq_true_eq]; simp
  rw [h3] at h1
  exact h1
attribute [simp] l2Tame_5
theorem srw_3q {v0 v1 v2 : Int} (h : dm v0 ∧ dm v1 ∧ dm v2) : srwC [.sl 1 [.lit (.int .i64 v0), .lit (.int .i64 v1), .lit (.int .i64 v2)], .lit (.bool true)] = (True, [.sl 3 [nD (v0 : Rat), nD (v1 : Rat), nD (v2 : Rat), nD ((v0 * v0 + v1 * v1 + v2 * v2 : Int) : Rat)]]) := by
  have c := srwC_at [v0, v1, v2] true
  obtain ⟨hv0, hv1, hv2⟩ := h
  rw [eq_true (show (∀ x ∈ ([v0, v1, v2] : List Int), dm x) ∧ ([v0, v1, v2] : List Int).length ≤ 3 from ⟨by intro x hx; simp at hx; rcases hx with rfl | rfl | rfl <;> assumption, by simp⟩)] at c
  have e : sqs [v0, v1, v2] = v0 * v0 + v1 * v1 + v2 * v2 := by simp [sqs]; omega
  rw [show rowQ [v0, v1, v2] true = [v0, v1, v2, sqs [v0, v1, v2]] from rfl, e] at c
  exact c

/-! i.InSphere$1 -/
noncomputable def cloInSphereC := ct2 EI3 EI3p (fun p0 p1 => c3 (p0.1, p0.2.1, p0.2.2) ∧ c3 (p1.1, p1.2.1, p1.2.2)) (fun p0 p1 => [.sl 1 [.lit (.int .i64 (p0.1 - p1.1)), .lit (.int .i64 (p0.2.1 - p1.2.1)), .lit (.int .i64 (p0.2.2 - p1.2.2)), .lit (.int .i64 ((p0.1 - p1.1) * (p0.1 - p1.1) + (p0.2.1 - p1.2.1) * (p0.2.1 - p1.2.1) + (p0.2.2 - p1.2.2) * (p0.2.2 - p1.2.2)))]])
@[simp] theorem cloInSphereC_at (a b c : Int) (d e f : Int) : cloInSphereC [.agg [.lit (.int .i64 a), .lit (.int .i64 b), .lit (.int .i64 c)], .ptr (.agg [.lit (.int .i64 d), .lit (.int .i64 e), .lit (.int .i64 f)])] = (c3 (a, b, c) ∧ c3 (d, e, f), [.sl 1 [.lit (.int .i64 (a - d)), .lit (.int .i64 (b - e)), .lit (.int .i64 (c - f)), .lit (.int .i64 ((a - d) * (a - d) + (b - e) * (b - e) + (c - f) * (c - f)))]]) := ct2_at (a, b, c) (d, e, f)
noncomputable def cloInSphereTb : List (FuncId × Ct) := [(44, .data less3C)]
theorem cloInSphereTb_ok {N : NR} : TbOK N Try.prog (tbl cloInSphereTb) := tbl_cons (c := .data less3C) less3_spec less3_ok tbl_nil

@[simp] theorem cloInSphereTb1 : tbl cloInSphereTb 44 = some (.data less3C) := rfl
set_option maxRecDepth 100000 in
set_option maxHeartbeats 4000000 in
theorem cloInSphere_spec {N : NR} : SpecD N Try.prog 53 cloInSphereC := by
  refine rd2 (mf := fun f => false) cloInSphereTb_ok (fn := Try.f53) (by kernel_rfl) rfl (by kernel_rfl) (by kernel_rfl) ?_
  rintro ⟨a, b, c⟩ ⟨d, e, f⟩ hp
  have hp : c3 (a, b, c) ∧ c3 (d, e, f) := hp
  show awp _ _ _ _ (start _ ([.agg [.lit (.int .i64 a), .lit (.int .i64 b), .lit (.int .i64 c)], .ptr (.agg [.lit (.int .i64 d), .lit (.int .i64 e), .lit (.int .i64 f)])].map .dat) []) (endK _ _ _ (([.sl 1 [.lit (.int .i64 (a - d)), .lit (.int .i64 (b - e)), .lit (.int .i64 (c - f)), .lit (.int .i64 ((a - d) * (a - d) + (b - e) * (b - e) + (c - f) * (c - f)))]]).map .dat) [])
  have hp0 := hp
  obtain ⟨⟨a1, a2, a3⟩, a4, a5, a6⟩ := hp
  have d0 : dm (a - d) := dm_sub a1 a4
  have d1 : dm (b - e) := dm_sub a2 a5
  have d2 : dm (c - f) := dm_sub a3 a6
  have cl : less3C [.agg [.lit (.int .i64 a), .lit (.int .i64 b), .lit (.int .i64 c)], .agg [.lit (.int .i64 d), .lit (.int .i64 e), .lit (.int .i64 f)]] = (True, [.agg [.lit (.int .i64 (a - d)), .lit (.int .i64 (b - e)), .lit (.int .i64 (c - f))]]) := by rw [less3C_at, eq_true hp0]
  obtain ⟨x, hx⟩ : ∃ x, x = a - d := ⟨_, rfl⟩
  obtain ⟨y, hy⟩ : ∃ y, y = b - e := ⟨_, rfl⟩
  obtain ⟨z, hz⟩ : ∃ z, z = c - f := ⟨_, rfl⟩
  rw [← hx] at d0 cl ⊢
  rw [← hy] at d1 cl ⊢
  rw [← hz] at d2 cl ⊢
  have m0 := dm_sq d0
  have m1 := dm_sq d1
  have m2 := dm_sq d2
  have w2 : IntKind.i64.wrap (x * x) = x * x := i64_id _ (by omega) (by omega)
  have w3 : IntKind.i64.wrap (y * y) = y * y := i64_id _ (by omega) (by omega)
  have w4 : IntKind.i64.wrap (z * z) = z * z := i64_id _ (by omega) (by omega)
  have w5 : IntKind.i64.wrap (x * x + y * y) = x * x + y * y := i64_id _ (by omega) (by omega)
  have w6 : IntKind.i64.wrap (x * x + y * y + z * z) = x * x + y * y + z * z := i64_id _ (by omega) (by omega)
  simp [-D.isLit, -less3C_at, Try.f53, cl, w2, w3, w4, w5, w6, mx3, mx4]
theorem cloInSphere_ok : callable Try.prog 53 = true := by kernel_rfl

/-! i.InSphere -/
noncomputable def iInSphereC := ct5 EI3 EI3 EI3 EI3 EI3 (fun p0 p1 p2 p3 p4 => True) (fun p0 p1 p2 p3 p4 => [.lit (.int .i64 (if c3 (p0.1, p0.2.1, p0.2.2) ∧ c3 (p1.1, p1.2.1, p1.2.2) ∧ c3 (p2.1, p2.2.1, p2.2.2) ∧ c3 (p3.1, p3.2.1, p3.2.2) ∧ c3 (p4.1, p4.2.1, p4.2.2) then (detI 3 [[(p0.1 - p4.1), (p0.2.1 - p4.2.1), (p0.2.2 - p4.2.2), ((p0.1 - p4.1) * (p0.1 - p4.1) + (p0.2.1 - p4.2.1) * (p0.2.1 - p4.2.1) + (p0.2.2 - p4.2.2) * (p0.2.2 - p4.2.2))], [(p1.1 - p4.1), (p1.2.1 - p4.2.1), (p1.2.2 - p4.2.2), ((p1.1 - p4.1) * (p1.1 - p4.1) + (p1.2.1 - p4.2.1) * (p1.2.1 - p4.2.1) + (p1.2.2 - p4.2.2) * (p1.2.2 - p4.2.2))], [(p2.1 - p4.1), (p2.2.1 - p4.2.1), (p2.2.2 - p4.2.2), ((p2.1 - p4.1) * (p2.1 - p4.1) + (p2.2.1 - p4.2.1) * (p2.2.1 - p4.2.1) + (p2.2.2 - p4.2.2) * (p2.2.2 - p4.2.2))], [(p3.1 - p4.1), (p3.2.1 - p4.2.1), (p3.2.2 - p4.2.2), ((p3.1 - p4.1) * (p3.1 - p4.1) + (p3.2.1 - p4.2.1) * (p3.2.1 - p4.2.1) + (p3.2.2 - p4.2.2) * (p3.2.2 - p4.2.2))]]).sign else 2))])
@[simp] theorem iInSphereC_at (a b c : Int) (d e f : Int) (g h i : Int) (j k l : Int) (m n o : Int) : iInSphereC [.agg [.lit (.int .i64 a), .lit (.int .i64 b), .lit (.int .i64 c)], .agg [.lit (.int .i64 d), .lit (.int .i64 e), .lit (.int .i64 f)], .agg [.lit (.int .i64 g), .lit (.int .i64 h), .lit (.int .i64 i)], .agg [.lit (.int .i64 j), .lit (.int .i64 k), .lit (.int .i64 l)], .agg [.lit (.int .i64 m), .lit (.int .i64 n), .lit (.int .i64 o)]] = (True, [.lit (.int .i64 (if c3 (a, b, c) ∧ c3 (d, e, f) ∧ c3 (g, h, i) ∧ c3 (j, k, l) ∧ c3 (m, n, o) then (detI 3 [[(a - m), (b - n), (c - o), ((a - m) * (a - m) + (b - n) * (b - n) + (c - o) * (c - o))], [(d - m), (e - n), (f - o), ((d - m) * (d - m) + (e - n) * (e - n) + (f - o) * (f - o))], [(g - m), (h - n), (i - o), ((g - m) * (g - m) + (h - n) * (h - n) + (i - o) * (i - o))], [(j - m), (k - n), (l - o), ((j - m) * (j - m) + (k - n) * (k - n) + (l - o) * (l - o))]]).sign else 2))]) := ct5_at (a, b, c) (d, e, f) (g, h, i) (j, k, l) (m, n, o)
noncomputable def iInSphereTb : List (FuncId × Ct) := [(43, .data tame3C), (53, .data cloInSphereC), (45, .data (idsC 3))]
theorem iInSphereTb_ok {N : NR} : TbOK N Try.prog (tbl iInSphereTb) := tbl_cons (c := .data tame3C) tame3_spec tame3_ok (tbl_cons (c := .data cloInSphereC) cloInSphere_spec cloInSphere_ok (tbl_cons (c := .data (idsC 3)) (ids_spec 3) ids_ok tbl_nil))

@[simp] theorem iInSphereTb1 : tbl iInSphereTb 43 = some (.data tame3C) := rfl
@[simp] theorem iInSphereTb2 : tbl iInSphereTb 53 = some (.data cloInSphereC) := rfl
@[simp] theorem iInSphereTb3 : tbl iInSphereTb 45 = some (.data (idsC 3)) := rfl
set_option maxRecDepth 100000 in
set_option maxHeartbeats 4000000 in
theorem iInSphere_spec {N : NR} : SpecD N Try.prog 20 iInSphereC := by
  refine rd5 (mf := fun f => f == fnp) iInSphereTb_ok (fn := Try.f20) (by kernel_rfl) rfl (by kernel_rfl) (by kernel_rfl) ?_
  rintro ⟨a, b, c⟩ ⟨d, e, f⟩ ⟨g, h, i⟩ ⟨j, k, l⟩ ⟨m, n, o⟩ hp
  have hp : True := hp
  show awp _ _ _ _ (start _ ([.agg [.lit (.int .i64 a), .lit (.int .i64 b), .lit (.int .i64 c)], .agg [.lit (.int .i64 d), .lit (.int .i64 e), .lit (.int .i64 f)], .agg [.lit (.int .i64 g), .lit (.int .i64 h), .lit (.int .i64 i)], .agg [.lit (.int .i64 j), .lit (.int .i64 k), .lit (.int .i64 l)], .agg [.lit (.int .i64 m), .lit (.int .i64 n), .lit (.int .i64 o)]].map .dat) []) (endK _ _ _ (([.lit (.int .i64 (if c3 (a, b, c) ∧ c3 (d, e, f) ∧ c3 (g, h, i) ∧ c3 (j, k, l) ∧ c3 (m, n, o) then (detI 3 [[(a - m), (b - n), (c - o), ((a - m) * (a - m) + (b - n) * (b - n) + (c - o) * (c - o))], [(d - m), (e - n), (f - o), ((d - m) * (d - m) + (e - n) * (e - n) + (f - o) * (f - o))], [(g - m), (h - n), (i - o), ((g - m) * (g - m) + (h - n) * (h - n) + (i - o) * (i - o))], [(j - m), (k - n), (l - o), ((j - m) * (j - m) + (k - n) * (k - n) + (l - o) * (l - o))]]).sign else 2))]).map .dat) [])
  by_cases hok : c3 (a, b, c) ∧ c3 (d, e, f) ∧ c3 (g, h, i) ∧ c3 (j, k, l) ∧ c3 (m, n, o)
  · have hoks := hok
    rw [if_pos hok]
    obtain ⟨ok1, ok2, ok3, ok4, ok5⟩ := hok
    have d00 : dm (a - m) := dm_sub (ok1.1) (ok5.1)
    have d01 : dm (b - n) := dm_sub (ok1.2.1) (ok5.2.1)
    have d02 : dm (c - o) := dm_sub (ok1.2.2) (ok5.2.2)
    have d10 : dm (d - m) := dm_sub (ok2.1) (ok5.1)
    have d11 : dm (e - n) := dm_sub (ok2.2.1) (ok5.2.1)
    have d12 : dm (f - o) := dm_sub (ok2.2.2) (ok5.2.2)
    have d20 : dm (g - m) := dm_sub (ok3.1) (ok5.1)
    have d21 : dm (h - n) := dm_sub (ok3.2.1) (ok5.2.1)
    have d22 : dm (i - o) := dm_sub (ok3.2.2) (ok5.2.2)
    have d30 : dm (j - m) := dm_sub (ok4.1) (ok5.1)
    have d31 : dm (k - n) := dm_sub (ok4.2.1) (ok5.2.1)
    have d32 : dm (l - o) := dm_sub (ok4.2.2) (ok5.2.2)
    obtain ⟨x00, hx00⟩ : ∃ x, x = a - m := ⟨_, rfl⟩
    obtain ⟨x01, hx01⟩ : ∃ x, x = b - n := ⟨_, rfl⟩
    obtain ⟨x02, hx02⟩ : ∃ x, x = c - o := ⟨_, rfl⟩
    obtain ⟨x10, hx10⟩ : ∃ x, x = d - m := ⟨_, rfl⟩
    obtain ⟨x11, hx11⟩ : ∃ x, x = e - n := ⟨_, rfl⟩
    obtain ⟨x12, hx12⟩ : ∃ x, x = f - o := ⟨_, rfl⟩
    obtain ⟨x20, hx20⟩ : ∃ x, x = g - m := ⟨_, rfl⟩
    obtain ⟨x21, hx21⟩ : ∃ x, x = h - n := ⟨_, rfl⟩
    obtain ⟨x22, hx22⟩ : ∃ x, x = i - o := ⟨_, rfl⟩
    obtain ⟨x30, hx30⟩ : ∃ x, x = j - m := ⟨_, rfl⟩
    obtain ⟨x31, hx31⟩ : ∃ x, x = k - n := ⟨_, rfl⟩
    obtain ⟨x32, hx32⟩ : ∃ x, x = l - o := ⟨_, rfl⟩
    have cc0 : cloInSphereC [.agg [.lit (.int .i64 a), .lit (.int .i64 b), .lit (.int .i64 c)], .ptr (.agg [.lit (.int .i64 m), .lit (.int .i64 n), .lit (.int .i64 o)])] = (True, [.sl 1 [.lit (.int .i64 x00), .lit (.int .i64 x01), .lit (.int .i64 x02), .lit (.int .i64 (x00 * x00 + x01 * x01 + x02 * x02))]]) := by rw [cloInSphereC_at, eq_true (show c3 (a, b, c) ∧ c3 (m, n, o) from ⟨ok1, ok5⟩), ← hx00, ← hx01, ← hx02]
    have cc1 : cloInSphereC [.agg [.lit (.int .i64 d), .lit (.int .i64 e), .lit (.int .i64 f)], .ptr (.agg [.lit (.int .i64 m), .lit (.int .i64 n), .lit (.int .i64 o)])] = (True, [.sl 1 [.lit (.int .i64 x10), .lit (.int .i64 x11), .lit (.int .i64 x12), .lit (.int .i64 (x10 * x10 + x11 * x11 + x12 * x12))]]) := by rw [cloInSphereC_at, eq_true (show c3 (d, e, f) ∧ c3 (m, n, o) from ⟨ok2, ok5⟩), ← hx10, ← hx11, ← hx12]
    have cc2 : cloInSphereC [.agg [.lit (.int .i64 g), .lit (.int .i64 h), .lit (.int .i64 i)], .ptr (.agg [.lit (.int .i64 m), .lit (.int .i64 n), .lit (.int .i64 o)])] = (True, [.sl 1 [.lit (.int .i64 x20), .lit (.int .i64 x21), .lit (.int .i64 x22), .lit (.int .i64 (x20 * x20 + x21 * x21 + x22 * x22))]]) := by rw [cloInSphereC_at, eq_true (show c3 (g, h, i) ∧ c3 (m, n, o) from ⟨ok3, ok5⟩), ← hx20, ← hx21, ← hx22]
    have cc3 : cloInSphereC [.agg [.lit (.int .i64 j), .lit (.int .i64 k), .lit (.int .i64 l)], .ptr (.agg [.lit (.int .i64 m), .lit (.int .i64 n), .lit (.int .i64 o)])] = (True, [.sl 1 [.lit (.int .i64 x30), .lit (.int .i64 x31), .lit (.int .i64 x32), .lit (.int .i64 (x30 * x30 + x31 * x31 + x32 * x32))]]) := by rw [cloInSphereC_at, eq_true (show c3 (j, k, l) ∧ c3 (m, n, o) from ⟨ok4, ok5⟩), ← hx30, ← hx31, ← hx32]
    rw [← hx00] at d00 ⊢
    rw [← hx01] at d01 ⊢
    rw [← hx02] at d02 ⊢
    rw [← hx10] at d10 ⊢
    rw [← hx11] at d11 ⊢
    rw [← hx12] at d12 ⊢
    rw [← hx20] at d20 ⊢
    rw [← hx21] at d21 ⊢
    rw [← hx22] at d22 ⊢
    rw [← hx30] at d30 ⊢
    rw [← hx31] at d31 ⊢
    rw [← hx32] at d32 ⊢
    have cd := ids_3 (⟨dm_i64 d00, dm_i64 d01, dm_i64 d02, sqi3 d00 d01 d02, dm_i64 d10, dm_i64 d11, dm_i64 d12, sqi3 d10 d11 d12, dm_i64 d20, dm_i64 d21, dm_i64 d22, sqi3 d20 d21 d22, dm_i64 d30, dm_i64 d31, dm_i64 d32, sqi3 d30 d31 d32⟩)
    simp [-D.isLit, -cloInSphereC_at, Try.f20, ok1, ok2, ok3, ok4, ok5, cc0, cc1, cc2, cc3, cd]
  · have hb : decide (c3 (a, b, c) ∧ c3 (d, e, f) ∧ c3 (g, h, i) ∧ c3 (j, k, l) ∧ c3 (m, n, o)) = false := decide_eq_false hok
    rw [if_neg hok]
    simp [-D.isLit, -Bool.decide_and, Try.f20, hb]
theorem iInSphere_ok : callable Try.prog 20 = true := by kernel_rfl

/-! s.InSphere -/
noncomputable def sInSphereC := ct5 EI3 EI3 EI3 EI3 EI3 (fun p0 p1 p2 p3 p4 => True) (fun p0 p1 p2 p3 p4 => [.lit (.int .i64 (if c3 (p0.1, p0.2.1, p0.2.2) ∧ c3 (p1.1, p1.2.1, p1.2.2) ∧ c3 (p2.1, p2.2.1, p2.2.2) ∧ c3 (p3.1, p3.2.1, p3.2.2) ∧ c3 (p4.1, p4.2.1, p4.2.2) then (detI 3 [[(p0.1 - p4.1), (p0.2.1 - p4.2.1), (p0.2.2 - p4.2.2), ((p0.1 - p4.1) * (p0.1 - p4.1) + (p0.2.1 - p4.2.1) * (p0.2.1 - p4.2.1) + (p0.2.2 - p4.2.2) * (p0.2.2 - p4.2.2))], [(p1.1 - p4.1), (p1.2.1 - p4.2.1), (p1.2.2 - p4.2.2), ((p1.1 - p4.1) * (p1.1 - p4.1) + (p1.2.1 - p4.2.1) * (p1.2.1 - p4.2.1) + (p1.2.2 - p4.2.2) * (p1.2.2 - p4.2.2))], [(p2.1 - p4.1), (p2.2.1 - p4.2.1), (p2.2.2 - p4.2.2), ((p2.1 - p4.1) * (p2.1 - p4.1) + (p2.2.1 - p4.2.1) * (p2.2.1 - p4.2.1) + (p2.2.2 - p4.2.2) * (p2.2.2 - p4.2.2))], [(p3.1 - p4.1), (p3.2.1 - p4.2.1), (p3.2.2 - p4.2.2), ((p3.1 - p4.1) * (p3.1 - p4.1) + (p3.2.1 - p4.2.1) * (p3.2.1 - p4.2.1) + (p3.2.2 - p4.2.2) * (p3.2.2 - p4.2.2))]]).sign else 2))])
@[simp] theorem sInSphereC_at (a b c : Int) (d e f : Int) (g h i : Int) (j k l : Int) (m n o : Int) : sInSphereC [.agg [.lit (.int .i64 a), .lit (.int .i64 b), .lit (.int .i64 c)], .agg [.lit (.int .i64 d), .lit (.int .i64 e), .lit (.int .i64 f)], .agg [.lit (.int .i64 g), .lit (.int .i64 h), .lit (.int .i64 i)], .agg [.lit (.int .i64 j), .lit (.int .i64 k), .lit (.int .i64 l)], .agg [.lit (.int .i64 m), .lit (.int .i64 n), .lit (.int .i64 o)]] = (True, [.lit (.int .i64 (if c3 (a, b, c) ∧ c3 (d, e, f) ∧ c3 (g, h, i) ∧ c3 (j, k, l) ∧ c3 (m, n, o) then (detI 3 [[(a - m), (b - n), (c - o), ((a - m) * (a - m) + (b - n) * (b - n) + (c - o) * (c - o))], [(d - m), (e - n), (f - o), ((d - m) * (d - m) + (e - n) * (e - n) + (f - o) * (f - o))], [(g - m), (h - n), (i - o), ((g - m) * (g - m) + (h - n) * (h - n) + (i - o) * (i - o))], [(j - m), (k - n), (l - o), ((j - m) * (j - m) + (k - n) * (k - n) + (l - o) * (l - o))]]).sign else 2))]) := ct5_at (a, b, c) (d, e, f) (g, h, i) (j, k, l) (m, n, o)
noncomputable def sInSphereTb : List (FuncId × Ct) := [(40, .data l2TameC), (52, .data l2Sub3C), (48, .data srwC), (47, .data (sdtC 3)), (41, .data nSignC)]
theorem sInSphereTb_ok : TbOK NF Try.prog (tbl sInSphereTb) := tbl_cons (c := .data l2TameC) l2Tame_spec l2Tame_ok (tbl_cons (c := .data l2Sub3C) l2Sub3_spec l2Sub3_ok (tbl_cons (c := .data srwC) srw_spec srw_ok (tbl_cons (c := .data (sdtC 3)) (sdt_spec 3) sdt_ok (tbl_cons (c := .data nSignC) nSign_spec l1rSign_ok tbl_nil))))

@[simp] theorem sInSphereTb1 : tbl sInSphereTb 40 = some (.data l2TameC) := rfl
@[simp] theorem sInSphereTb2 : tbl sInSphereTb 52 = some (.data l2Sub3C) := rfl
@[simp] theorem sInSphereTb3 : tbl sInSphereTb 48 = some (.data srwC) := rfl
@[simp] theorem sInSphereTb4 : tbl sInSphereTb 47 = some (.data (sdtC 3)) := rfl
@[simp] theorem sInSphereTb5 : tbl sInSphereTb 41 = some (.data nSignC) := rfl
set_option maxRecDepth 100000 in
set_option maxHeartbeats 4000000 in
theorem sInSphere_spec : SpecD NF Try.prog 19 sInSphereC := by
  refine rd5 (mf := fun f => false) sInSphereTb_ok (fn := Try.f19) (by kernel_rfl) rfl (by kernel_rfl) (by kernel_rfl) ?_
  rintro ⟨a, b, c⟩ ⟨d, e, f⟩ ⟨g, h, i⟩ ⟨j, k, l⟩ ⟨m, n, o⟩ hp
  have hp : True := hp
  show awp _ _ _ _ (start _ ([.agg [.lit (.int .i64 a), .lit (.int .i64 b), .lit (.int .i64 c)], .agg [.lit (.int .i64 d), .lit (.int .i64 e), .lit (.int .i64 f)], .agg [.lit (.int .i64 g), .lit (.int .i64 h), .lit (.int .i64 i)], .agg [.lit (.int .i64 j), .lit (.int .i64 k), .lit (.int .i64 l)], .agg [.lit (.int .i64 m), .lit (.int .i64 n), .lit (.int .i64 o)]].map .dat) []) (endK _ _ _ (([.lit (.int .i64 (if c3 (a, b, c) ∧ c3 (d, e, f) ∧ c3 (g, h, i) ∧ c3 (j, k, l) ∧ c3 (m, n, o) then (detI 3 [[(a - m), (b - n), (c - o), ((a - m) * (a - m) + (b - n) * (b - n) + (c - o) * (c - o))], [(d - m), (e - n), (f - o), ((d - m) * (d - m) + (e - n) * (e - n) + (f - o) * (f - o))], [(g - m), (h - n), (i - o), ((g - m) * (g - m) + (h - n) * (h - n) + (i - o) * (i - o))], [(j - m), (k - n), (l - o), ((j - m) * (j - m) + (k - n) * (k - n) + (l - o) * (l - o))]]).sign else 2))]).map .dat) [])
  by_cases hok : c3 (a, b, c) ∧ c3 (d, e, f) ∧ c3 (g, h, i) ∧ c3 (j, k, l) ∧ c3 (m, n, o)
  · have hoks := hok
    rw [if_pos hok]
    obtain ⟨ok1, ok2, ok3, ok4, ok5⟩ := hok
    have d00 : dm (a - m) := dm_sub (ok1.1) (ok5.1)
    have d01 : dm (b - n) := dm_sub (ok1.2.1) (ok5.2.1)
    have d02 : dm (c - o) := dm_sub (ok1.2.2) (ok5.2.2)
    have d10 : dm (d - m) := dm_sub (ok2.1) (ok5.1)
    have d11 : dm (e - n) := dm_sub (ok2.2.1) (ok5.2.1)
    have d12 : dm (f - o) := dm_sub (ok2.2.2) (ok5.2.2)
    have d20 : dm (g - m) := dm_sub (ok3.1) (ok5.1)
    have d21 : dm (h - n) := dm_sub (ok3.2.1) (ok5.2.1)
    have d22 : dm (i - o) := dm_sub (ok3.2.2) (ok5.2.2)
    have d30 : dm (j - m) := dm_sub (ok4.1) (ok5.1)
    have d31 : dm (k - n) := dm_sub (ok4.2.1) (ok5.2.1)
    have d32 : dm (l - o) := dm_sub (ok4.2.2) (ok5.2.2)
    obtain ⟨x00, hx00⟩ : ∃ x, x = a - m := ⟨_, rfl⟩
    obtain ⟨x01, hx01⟩ : ∃ x, x = b - n := ⟨_, rfl⟩
    obtain ⟨x02, hx02⟩ : ∃ x, x = c - o := ⟨_, rfl⟩
    obtain ⟨x10, hx10⟩ : ∃ x, x = d - m := ⟨_, rfl⟩
    obtain ⟨x11, hx11⟩ : ∃ x, x = e - n := ⟨_, rfl⟩
    obtain ⟨x12, hx12⟩ : ∃ x, x = f - o := ⟨_, rfl⟩
    obtain ⟨x20, hx20⟩ : ∃ x, x = g - m := ⟨_, rfl⟩
    obtain ⟨x21, hx21⟩ : ∃ x, x = h - n := ⟨_, rfl⟩
    obtain ⟨x22, hx22⟩ : ∃ x, x = i - o := ⟨_, rfl⟩
    obtain ⟨x30, hx30⟩ : ∃ x, x = j - m := ⟨_, rfl⟩
    obtain ⟨x31, hx31⟩ : ∃ x, x = k - n := ⟨_, rfl⟩
    obtain ⟨x32, hx32⟩ : ∃ x, x = l - o := ⟨_, rfl⟩
    have cs0 : l2Sub3C [.agg [.lit (.int .i64 a), .lit (.int .i64 b), .lit (.int .i64 c)], .agg [.lit (.int .i64 m), .lit (.int .i64 n), .lit (.int .i64 o)]] = (True, [.sl 1 [.lit (.int .i64 x00), .lit (.int .i64 x01), .lit (.int .i64 x02)]]) := by rw [l2Sub3C_at, eq_true (show c3 (a, b, c) ∧ c3 (m, n, o) from ⟨ok1, ok5⟩), ← hx00, ← hx01, ← hx02]
    have cs1 : l2Sub3C [.agg [.lit (.int .i64 d), .lit (.int .i64 e), .lit (.int .i64 f)], .agg [.lit (.int .i64 m), .lit (.int .i64 n), .lit (.int .i64 o)]] = (True, [.sl 1 [.lit (.int .i64 x10), .lit (.int .i64 x11), .lit (.int .i64 x12)]]) := by rw [l2Sub3C_at, eq_true (show c3 (d, e, f) ∧ c3 (m, n, o) from ⟨ok2, ok5⟩), ← hx10, ← hx11, ← hx12]
    have cs2 : l2Sub3C [.agg [.lit (.int .i64 g), .lit (.int .i64 h), .lit (.int .i64 i)], .agg [.lit (.int .i64 m), .lit (.int .i64 n), .lit (.int .i64 o)]] = (True, [.sl 1 [.lit (.int .i64 x20), .lit (.int .i64 x21), .lit (.int .i64 x22)]]) := by rw [l2Sub3C_at, eq_true (show c3 (g, h, i) ∧ c3 (m, n, o) from ⟨ok3, ok5⟩), ← hx20, ← hx21, ← hx22]
    have cs3 : l2Sub3C [.agg [.lit (.int .i64 j), .lit (.int .i64 k), .lit (.int .i64 l)], .agg [.lit (.int .i64 m), .lit (.int .i64 n), .lit (.int .i64 o)]] = (True, [.sl 1 [.lit (.int .i64 x30), .lit (.int .i64 x31), .lit (.int .i64 x32)]]) := by rw [l2Sub3C_at, eq_true (show c3 (j, k, l) ∧ c3 (m, n, o) from ⟨ok4, ok5⟩), ← hx30, ← hx31, ← hx32]
    rw [← hx00] at d00 ⊢
    rw [← hx01] at d01 ⊢
    rw [← hx02] at d02 ⊢
    rw [← hx10] at d10 ⊢
    rw [← hx11] at d11 ⊢
    rw [← hx12] at d12 ⊢
    rw [← hx20] at d20 ⊢
    rw [← hx21] at d21 ⊢
    rw [← hx22] at d22 ⊢
    rw [← hx30] at d30 ⊢
    rw [← hx31] at d31 ⊢
    rw [← hx32] at d32 ⊢
    have cr0 := srw_3q (⟨d00, d01, d02⟩)
    have cr1 := srw_3q (⟨d10, d11, d12⟩)
    have cr2 := srw_3q (⟨d20, d21, d22⟩)
    have cr3 := srw_3q (⟨d30, d31, d32⟩)
    have cd := sdt_3 (⟨dm_i64 d00, dm_i64 d01, dm_i64 d02, sqi3 d00 d01 d02, dm_i64 d10, dm_i64 d11, dm_i64 d12, sqi3 d10 d11 d12, dm_i64 d20, dm_i64 d21, dm_i64 d22, sqi3 d20 d21 d22, dm_i64 d30, dm_i64 d31, dm_i64 d32, sqi3 d30 d31 d32⟩)
    simp [-D.isLit, -l2Sub3C_at, -Rat.intCast_add, -Rat.intCast_mul, Try.f19, ok1, ok2, ok3, ok4, ok5, cs0, cs1, cs2, cs3, cr0, cr1, cr2, cr3, cd, sgn_cast]
  · have hb : decide (c3 (a, b, c) ∧ c3 (d, e, f) ∧ c3 (g, h, i) ∧ c3 (j, k, l) ∧ c3 (m, n, o)) = false := decide_eq_false hok
    rw [if_neg hok]
    simp [-D.isLit, -Bool.decide_and, Try.f19, hb]
theorem sInSphere_ok : callable Try.prog 19 = true := by kernel_rfl

/-! l.FnExactInSphere -/
noncomputable def lwInSphereC := ct5 EI3 EI3 EI3 EI3 EI3 (fun p0 p1 p2 p3 p4 => (I64 p0.1 ∧ I64 p0.2.1 ∧ I64 p0.2.2) ∧ (I64 p1.1 ∧ I64 p1.2.1 ∧ I64 p1.2.2) ∧ (I64 p2.1 ∧ I64 p2.2.1 ∧ I64 p2.2.2) ∧ (I64 p3.1 ∧ I64 p3.2.1 ∧ I64 p3.2.2) ∧ (I64 p4.1 ∧ I64 p4.2.1 ∧ I64 p4.2.2)) (fun p0 p1 p2 p3 p4 => [.lit (.bool true)])
@[simp] theorem lwInSphereC_at (a b c : Int) (d e f : Int) (g h i : Int) (j k l : Int) (m n o : Int) : lwInSphereC [.agg [.lit (.int .i64 a), .lit (.int .i64 b), .lit (.int .i64 c)], .agg [.lit (.int .i64 d), .lit (.int .i64 e), .lit (.int .i64 f)], .agg [.lit (.int .i64 g), .lit (.int .i64 h), .lit (.int .i64 i)], .agg [.lit (.int .i64 j), .lit (.int .i64 k), .lit (.int .i64 l)], .agg [.lit (.int .i64 m), .lit (.int .i64 n), .lit (.int .i64 o)]] = ((I64 a ∧ I64 b ∧ I64 c) ∧ (I64 d ∧ I64 e ∧ I64 f) ∧ (I64 g ∧ I64 h ∧ I64 i) ∧ (I64 j ∧ I64 k ∧ I64 l) ∧ (I64 m ∧ I64 n ∧ I64 o), [.lit (.bool true)]) := ct5_at (a, b, c) (d, e, f) (g, h, i) (j, k, l) (m, n, o)
noncomputable def lwInSphereTb : List (FuncId × Ct) := [(14, .data toP3C), (20, .data iInSphereC), (19, .data sInSphereC)]
theorem lwInSphereTb_ok : TbOK NF Try.prog (tbl lwInSphereTb) := tbl_cons (c := .data toP3C) toP3_spec toP3_ok (tbl_cons (c := .data iInSphereC) iInSphere_spec iInSphere_ok (tbl_cons (c := .data sInSphereC) sInSphere_spec sInSphere_ok tbl_nil))

@[simp] theorem lwInSphereTb1 : tbl lwInSphereTb 14 = some (.data toP3C) := rfl
@[simp] theorem lwInSphereTb2 : tbl lwInSphereTb 20 = some (.data iInSphereC) := rfl
@[simp] theorem lwInSphereTb3 : tbl lwInSphereTb 19 = some (.data sInSphereC) := rfl
theorem lwInSphere_spec : SpecD NF Try.prog 6 lwInSphereC := by
  refine rd5 (mf := fun f => false) lwInSphereTb_ok (fn := Try.f6) (by kernel_rfl) rfl (by kernel_rfl) (by kernel_rfl) ?_
  rintro ⟨a, b, c⟩ ⟨d, e, f⟩ ⟨g, h, i⟩ ⟨j, k, l⟩ ⟨m, n, o⟩ hp
  have hp : (I64 a ∧ I64 b ∧ I64 c) ∧ (I64 d ∧ I64 e ∧ I64 f) ∧ (I64 g ∧ I64 h ∧ I64 i) ∧ (I64 j ∧ I64 k ∧ I64 l) ∧ (I64 m ∧ I64 n ∧ I64 o) := hp
  show awp _ _ _ _ (start _ ([.agg [.lit (.int .i64 a), .lit (.int .i64 b), .lit (.int .i64 c)], .agg [.lit (.int .i64 d), .lit (.int .i64 e), .lit (.int .i64 f)], .agg [.lit (.int .i64 g), .lit (.int .i64 h), .lit (.int .i64 i)], .agg [.lit (.int .i64 j), .lit (.int .i64 k), .lit (.int .i64 l)], .agg [.lit (.int .i64 m), .lit (.int .i64 n), .lit (.int .i64 o)]].map .dat) []) (endK _ _ _ (([.lit (.bool true)]).map .dat) [])
  generalize hX : (if c3 (a, b, c) ∧ c3 (d, e, f) ∧ c3 (g, h, i) ∧ c3 (j, k, l) ∧ c3 (m, n, o) then (detI 3 [[(a - m), (b - n), (c - o), ((a - m) * (a - m) + (b - n) * (b - n) + (c - o) * (c - o))], [(d - m), (e - n), (f - o), ((d - m) * (d - m) + (e - n) * (e - n) + (f - o) * (f - o))], [(g - m), (h - n), (i - o), ((g - m) * (g - m) + (h - n) * (h - n) + (i - o) * (i - o))], [(j - m), (k - n), (l - o), ((j - m) * (j - m) + (k - n) * (k - n) + (l - o) * (l - o))]]).sign else 2) = X
  simp [-D.isLit, Try.f6, hX]
theorem lwInSphere_ok : callable Try.prog 6 = true := by kernel_rfl
theorem lwInSphere_calls (a b c d e f g h i j k l m n o : Int) (ha : (Lit.int .i64 a).wf = true) (hb : (Lit.int .i64 b).wf = true) (hc : (Lit.int .i64 c).wf = true) (hd : (Lit.int .i64 d).wf = true) (he : (Lit.int .i64 e).wf = true) (hf : (Lit.int .i64 f).wf = true) (hg : (Lit.int .i64 g).wf = true) (hh : (Lit.int .i64 h).wf = true) (hi : (Lit.int .i64 i).wf = true) (hj : (Lit.int .i64 j).wf = true) (hk : (Lit.int .i64 k).wf = true) (hl : (Lit.int .i64 l).wf = true) (hm : (Lit.int .i64 m).wf = true) (hn : (Lit.int .i64 n).wf = true) (ho : (Lit.int .i64 o).wf = true) (w : World) :
    Calls Try.prog 6 #[.agg #[.int .i64 a, .int .i64 b, .int .i64 c], .agg #[.int .i64 d, .int .i64 e, .int .i64 f], .agg #[.int .i64 g, .int .i64 h, .int .i64 i], .agg #[.int .i64 j, .int .i64 k, .int .i64 l], .agg #[.int .i64 m, .int .i64 n, .int .i64 o]] w fun e w' => e = .returned (.bool true) ∧ Below w.heap.size w w' :=
  law_calls lwInSphere_spec (ds := [.agg [.lit (.int .i64 a), .lit (.int .i64 b), .lit (.int .i64 c)], .agg [.lit (.int .i64 d), .lit (.int .i64 e), .lit (.int .i64 f)], .agg [.lit (.int .i64 g), .lit (.int .i64 h), .lit (.int .i64 i)], .agg [.lit (.int .i64 j), .lit (.int .i64 k), .lit (.int .i64 l)], .agg [.lit (.int .i64 m), .lit (.int .i64 n), .lit (.int .i64 o)]]) (by rw [lwInSphereC_at]; exact ⟨⟨wf64 ha, wf64 hb, wf64 hc⟩, ⟨wf64 hd, wf64 he, wf64 hf⟩, ⟨wf64 hg, wf64 hh, wf64 hi⟩, ⟨wf64 hj, wf64 hk, wf64 hl⟩, ⟨wf64 hm, wf64 hn, wf64 ho⟩⟩) (by rw [lwInSphereC_at]; rfl) (vs := [.agg #[.int .i64 a, .int .i64 b, .int .i64 c], .agg #[.int .i64 d, .int .i64 e, .int .i64 f], .agg #[.int .i64 g, .int .i64 h, .int .i64 i], .agg #[.int .i64 j, .int .i64 k, .int .i64 l], .agg #[.int .i64 m, .int .i64 n, .int .i64 o]]) (repVs_cons (repV_flat (cs := [.int .i64 a, .int .i64 b, .int .i64 c]) rfl (fun v hv => by simp at hv; rcases hv with rfl | rfl | rfl <;> rfl) rfl) (repVs_cons (repV_flat (cs := [.int .i64 d, .int .i64 e, .int .i64 f]) rfl (fun v hv => by simp at hv; rcases hv with rfl | rfl | rfl <;> rfl) rfl) (repVs_cons (repV_flat (cs := [.int .i64 g, .int .i64 h, .int .i64 i]) rfl (fun v hv => by simp at hv; rcases hv with rfl | rfl | rfl <;> rfl) rfl) (repVs_cons (repV_flat (cs := [.int .i64 j, .int .i64 k, .int .i64 l]) rfl (fun v hv => by simp at hv; rcases hv with rfl | rfl | rfl <;> rfl) rfl) (repVs_cons (repV_flat (cs := [.int .i64 m, .int .i64 n, .int .i64 o]) rfl (fun v hv => by simp at hv; rcases hv with rfl | rfl | rfl <;> rfl) rfl) repVs_nil)))))
end Go.Proofs.Ytcgolmopbnhgeaa.Ae
