/- Texts put together, in the order in which they build: T22, T23. No condition. -/
import Derived.Test.YtmnplonkijkblaaGreatZ5
set_option linter.unusedVariables false
set_option linter.unusedSimpArgs false
/-! Drop, Side, Lift, PlaneOf: whole, and the laws. No condition. -/
namespace Go.Proofs.YtmnplonkijkblaaGreat.Ae
open Go Go.RowKit Go.Proofs.YtmnplonkijkblaaGreat.Dig
theorem div_ne {n d : Int} (hd : 0 < d) (h : Rat.divInt n d = 0) : n = 0 := by
  rw [Rat.divInt_eq_div] at h
  have hd' : (d : Rat) ≠ 0 := by
    intro e
    have : d = 0 := by exact_mod_cast e
    omega
  have h2 : (n : Rat) = 0 := by
    have := Rat.div_mul_cancel (a := (n : Rat)) hd'
    rw [h] at this
    grind
  exact_mod_cast h2
theorem plOk_ne {a b c d e f g h : Int} (hp : plOk a b c d e f g h) : ¬ (Rat.divInt a b = 0 ∧ Rat.divInt c d = 0 ∧ Rat.divInt e f = 0) := by
  rintro ⟨h1, h2, h3⟩
  obtain ⟨⟨q1, q2, q3, q4⟩, ho⟩ := hp
  have e1 := div_ne (qOk_64 q1).2.2 h1
  have e2 := div_ne (qOk_64 q2).2.2 h2
  have e3 := div_ne (qOk_64 q3).2.2 h3
  rw [if_pos e1, if_pos e2] at ho
  subst e3
  unfold one1 at ho
  simp at ho

/-! i.Side -/
noncomputable def iSideC := ct2 EPl EV3 (fun p0 p1 => ((I64 p0.1.1 ∧ I64 p0.1.2) ∧ (I64 p0.2.1.1 ∧ I64 p0.2.1.2) ∧ (I64 p0.2.2.1.1 ∧ I64 p0.2.2.1.2) ∧ I64 p0.2.2.2.1 ∧ I64 p0.2.2.2.2) ∧ ((I64 p1.1.1 ∧ I64 p1.1.2) ∧ (I64 p1.2.1.1 ∧ I64 p1.2.1.2) ∧ I64 p1.2.2.1 ∧ I64 p1.2.2.2)) (fun p0 p1 => [.lit (.int .i64 (if plOk p0.1.1 p0.1.2 p0.2.1.1 p0.2.1.2 p0.2.2.1.1 p0.2.2.1.2 p0.2.2.2.1 p0.2.2.2.2 ∧ v3Ok p1.1.1 p1.1.2 p1.2.1.1 p1.2.1.2 p1.2.2.1 p1.2.2.2 then (htQ (Rat.divInt p0.1.1 p0.1.2) (Rat.divInt p0.2.1.1 p0.2.1.2) (Rat.divInt p0.2.2.1.1 p0.2.2.1.2) (Rat.divInt p0.2.2.2.1 p0.2.2.2.2) (Rat.divInt p1.1.1 p1.1.2) (Rat.divInt p1.2.1.1 p1.2.1.2) (Rat.divInt p1.2.2.1 p1.2.2.2)).num.sign else 2))])
@[simp] theorem iSideC_at (a b c d e f g h : Int) (i j k l m n : Int) : iSideC [.agg [eQ a b, eQ c d, eQ e f, eQ g h], .agg [eQ i j, eQ k l, eQ m n]] = (((I64 a ∧ I64 b) ∧ (I64 c ∧ I64 d) ∧ (I64 e ∧ I64 f) ∧ I64 g ∧ I64 h) ∧ ((I64 i ∧ I64 j) ∧ (I64 k ∧ I64 l) ∧ I64 m ∧ I64 n), [.lit (.int .i64 (if plOk a b c d e f g h ∧ v3Ok i j k l m n then (htQ (Rat.divInt a b) (Rat.divInt c d) (Rat.divInt e f) (Rat.divInt g h) (Rat.divInt i j) (Rat.divInt k l) (Rat.divInt m n)).num.sign else 2))]) := ct2_at ((a, b), (c, d), (e, f), g, h) ((i, j), (k, l), m, n)
noncomputable def iSideTb : List (FuncId × Ct) := [(24, .data iPlaneOkC), (25, .data iV3OkC), (26, .data pplC), (28, .data pv3C), (27, .data plhtC), (29, .data rsgC)]
theorem iSideTb_ok {N : NR} : TbOK N Tryz.prog (tbl iSideTb) := tbl_cons (c := .data iPlaneOkC) iPlaneOk_spec iPlaneOk_ok (tbl_cons (c := .data iV3OkC) iV3Ok_spec iV3Ok_ok (tbl_cons (c := .data pplC) ppl_spec ppl_ok (tbl_cons (c := .data pv3C) pv3_spec pv3_ok (tbl_cons (c := .data plhtC) plht_spec plht_ok (tbl_cons (c := .data rsgC) rsign_spec rsign_ok tbl_nil)))))

@[simp] theorem iSideTb1 : tbl iSideTb 24 = some (.data iPlaneOkC) := rfl
@[simp] theorem iSideTb2 : tbl iSideTb 25 = some (.data iV3OkC) := rfl
@[simp] theorem iSideTb3 : tbl iSideTb 26 = some (.data pplC) := rfl
@[simp] theorem iSideTb4 : tbl iSideTb 28 = some (.data pv3C) := rfl
@[simp] theorem iSideTb5 : tbl iSideTb 27 = some (.data plhtC) := rfl
@[simp] theorem iSideTb6 : tbl iSideTb 29 = some (.data rsgC) := rfl
theorem iSide_spec {N : NR} : SpecD N Tryz.prog 9 iSideC := by
  refine rd2 (mf := fun f => false) iSideTb_ok (fn := Tryz.f9) (by kernel_rfl) rfl (by kernel_rfl) (by kernel_rfl) ?_
  rintro ⟨⟨a, b⟩, ⟨c, d⟩, ⟨e, f⟩, g, h⟩ ⟨⟨i, j⟩, ⟨k, l⟩, m, n⟩ hp
  have hp : ((I64 a ∧ I64 b) ∧ (I64 c ∧ I64 d) ∧ (I64 e ∧ I64 f) ∧ I64 g ∧ I64 h) ∧ ((I64 i ∧ I64 j) ∧ (I64 k ∧ I64 l) ∧ I64 m ∧ I64 n) := hp
  show awp _ _ _ _ (start _ ([.agg [eQ a b, eQ c d, eQ e f, eQ g h], .agg [eQ i j, eQ k l, eQ m n]].map .dat) []) (endK _ _ _ (([.lit (.int .i64 (if plOk a b c d e f g h ∧ v3Ok i j k l m n then (htQ (Rat.divInt a b) (Rat.divInt c d) (Rat.divInt e f) (Rat.divInt g h) (Rat.divInt i j) (Rat.divInt k l) (Rat.divInt m n)).num.sign else 2))]).map .dat) [])
  obtain ⟨hp1, hp2⟩ := hp
  by_cases h1 : plOk a b c d e f g h
  · by_cases h2 : v3Ok i j k l m n
    · have hne := plOk_ne h1
      have w1 := qOk_QI h1.1.1
      have y1 := qOk_64 h1.1.1
      have z1 := QI_qsz w1
      have w2 := qOk_QI h1.1.2.1
      have y2 := qOk_64 h1.1.2.1
      have z2 := QI_qsz w2
      have w3 := qOk_QI h1.1.2.2.1
      have y3 := qOk_64 h1.1.2.2.1
      have z3 := QI_qsz w3
      have w4 := qOk_QI h1.1.2.2.2
      have y4 := qOk_64 h1.1.2.2.2
      have z4 := QI_qsz w4
      have w5 := qOk_QI h2.1
      have y5 := qOk_64 h2.1
      have z5 := QI_qsz w5
      have w6 := qOk_QI h2.2.1
      have y6 := qOk_64 h2.2.1
      have z6 := QI_qsz w6
      have w7 := qOk_QI h2.2.2
      have y7 := qOk_64 h2.2.2
      have z7 := QI_qsz w7
      have e1 : IntKind.i64.wrap (htQ (Rat.divInt a b) (Rat.divInt c d) (Rat.divInt e f) (Rat.divInt g h) (Rat.divInt i j) (Rat.divInt k l) (Rat.divInt m n)).num.sign = (htQ (Rat.divInt a b) (Rat.divInt c d) (Rat.divInt e f) (Rat.divInt g h) (Rat.divInt i j) (Rat.divInt k l) (Rat.divInt m n)).num.sign := i64_id _ (by have := sign_bd (htQ (Rat.divInt a b) (Rat.divInt c d) (Rat.divInt e f) (Rat.divInt g h) (Rat.divInt i j) (Rat.divInt k l) (Rat.divInt m n)).num; omega) (by have := sign_bd (htQ (Rat.divInt a b) (Rat.divInt c d) (Rat.divInt e f) (Rat.divInt g h) (Rat.divInt i j) (Rat.divInt k l) (Rat.divInt m n)).num; omega)
      have s1 : qsz (Rat.divInt a b) + qsz (Rat.divInt c d) + qsz (Rat.divInt e f) + qsz (Rat.divInt g h) + qsz (Rat.divInt i j) + qsz (Rat.divInt k l) + qsz (Rat.divInt m n) < 100000000 := by omega
      simp [-D.isLit, Tryz.f9, hp1, hp2, h1, h2, hne, w1, y1, w2, y2, w3, y3, w4, y4, w5, y5, w6, y6, w7, y7, e1, s1]
    · simp [-D.isLit, Tryz.f9, hp1, hp2, h1, h2] <;> exact Sub.refl _
  · simp [-D.isLit, Tryz.f9, hp1, hp2, h1] <;> exact Sub.refl _
theorem iSide_ok : callable Tryz.prog 9 = true := by kernel_rfl

/-! s.Side -/
noncomputable def sSideC := ct2 EPl EV3 (fun p0 p1 => ((I64 p0.1.1 ∧ I64 p0.1.2) ∧ (I64 p0.2.1.1 ∧ I64 p0.2.1.2) ∧ (I64 p0.2.2.1.1 ∧ I64 p0.2.2.1.2) ∧ I64 p0.2.2.2.1 ∧ I64 p0.2.2.2.2) ∧ ((I64 p1.1.1 ∧ I64 p1.1.2) ∧ (I64 p1.2.1.1 ∧ I64 p1.2.1.2) ∧ I64 p1.2.2.1 ∧ I64 p1.2.2.2)) (fun p0 p1 => [.lit (.int .i64 (if plOk p0.1.1 p0.1.2 p0.2.1.1 p0.2.1.2 p0.2.2.1.1 p0.2.2.1.2 p0.2.2.2.1 p0.2.2.2.2 ∧ v3Ok p1.1.1 p1.1.2 p1.2.1.1 p1.2.1.2 p1.2.2.1 p1.2.2.2 then (htQ (Rat.divInt p0.1.1 p0.1.2) (Rat.divInt p0.2.1.1 p0.2.1.2) (Rat.divInt p0.2.2.1.1 p0.2.2.1.2) (Rat.divInt p0.2.2.2.1 p0.2.2.2.2) (Rat.divInt p1.1.1 p1.1.2) (Rat.divInt p1.2.1.1 p1.2.1.2) (Rat.divInt p1.2.2.1 p1.2.2.2)).num.sign else 2))])
@[simp] theorem sSideC_at (a b c d e f g h : Int) (i j k l m n : Int) : sSideC [.agg [eQ a b, eQ c d, eQ e f, eQ g h], .agg [eQ i j, eQ k l, eQ m n]] = (((I64 a ∧ I64 b) ∧ (I64 c ∧ I64 d) ∧ (I64 e ∧ I64 f) ∧ I64 g ∧ I64 h) ∧ ((I64 i ∧ I64 j) ∧ (I64 k ∧ I64 l) ∧ I64 m ∧ I64 n), [.lit (.int .i64 (if plOk a b c d e f g h ∧ v3Ok i j k l m n then (htQ (Rat.divInt a b) (Rat.divInt c d) (Rat.divInt e f) (Rat.divInt g h) (Rat.divInt i j) (Rat.divInt k l) (Rat.divInt m n)).num.sign else 2))]) := ct2_at ((a, b), (c, d), (e, f), g, h) ((i, j), (k, l), m, n)
noncomputable def sSideTb : List (FuncId × Ct) := [(17, .data sPlaneOkC), (18, .data sV3OkC), (21, .data l11PlaneC), (22, .data l11pC), (20, .data l11HtC), (19, .data nSignC)]
theorem sSideTb_ok : TbOK NF Tryz.prog (tbl sSideTb) := tbl_cons (c := .data sPlaneOkC) sPlaneOk_spec sPlaneOk_ok (tbl_cons (c := .data sV3OkC) sV3Ok_spec sV3Ok_ok (tbl_cons (c := .data l11PlaneC) l11Plane_spec l11Plane_ok (tbl_cons (c := .data l11pC) l11p_spec l11p_ok (tbl_cons (c := .data l11HtC) l11Ht_spec l11Ht_ok (tbl_cons (c := .data nSignC) nSign_spec l1rSign_ok tbl_nil)))))

@[simp] theorem sSideTb1 : tbl sSideTb 17 = some (.data sPlaneOkC) := rfl
@[simp] theorem sSideTb2 : tbl sSideTb 18 = some (.data sV3OkC) := rfl
@[simp] theorem sSideTb3 : tbl sSideTb 21 = some (.data l11PlaneC) := rfl
@[simp] theorem sSideTb4 : tbl sSideTb 22 = some (.data l11pC) := rfl
@[simp] theorem sSideTb5 : tbl sSideTb 20 = some (.data l11HtC) := rfl
@[simp] theorem sSideTb6 : tbl sSideTb 19 = some (.data nSignC) := rfl
theorem sSide_spec : SpecD NF Tryz.prog 6 sSideC := by
  refine rd2 (mf := fun f => false) sSideTb_ok (fn := Tryz.f6) (by kernel_rfl) rfl (by kernel_rfl) (by kernel_rfl) ?_
  rintro ⟨⟨a, b⟩, ⟨c, d⟩, ⟨e, f⟩, g, h⟩ ⟨⟨i, j⟩, ⟨k, l⟩, m, n⟩ hp
  have hp : ((I64 a ∧ I64 b) ∧ (I64 c ∧ I64 d) ∧ (I64 e ∧ I64 f) ∧ I64 g ∧ I64 h) ∧ ((I64 i ∧ I64 j) ∧ (I64 k ∧ I64 l) ∧ I64 m ∧ I64 n) := hp
  show awp _ _ _ _ (start _ ([.agg [eQ a b, eQ c d, eQ e f, eQ g h], .agg [eQ i j, eQ k l, eQ m n]].map .dat) []) (endK _ _ _ (([.lit (.int .i64 (if plOk a b c d e f g h ∧ v3Ok i j k l m n then (htQ (Rat.divInt a b) (Rat.divInt c d) (Rat.divInt e f) (Rat.divInt g h) (Rat.divInt i j) (Rat.divInt k l) (Rat.divInt m n)).num.sign else 2))]).map .dat) [])
  obtain ⟨hp1, hp2⟩ := hp
  by_cases h1 : plOk a b c d e f g h
  · by_cases h2 : v3Ok i j k l m n
    · have hne := plOk_ne h1
      have w1 := qOk_QI h1.1.1
      have y1 := qOk_64 h1.1.1
      have z1 := QI_qsz w1
      have w2 := qOk_QI h1.1.2.1
      have y2 := qOk_64 h1.1.2.1
      have z2 := QI_qsz w2
      have w3 := qOk_QI h1.1.2.2.1
      have y3 := qOk_64 h1.1.2.2.1
      have z3 := QI_qsz w3
      have w4 := qOk_QI h1.1.2.2.2
      have y4 := qOk_64 h1.1.2.2.2
      have z4 := QI_qsz w4
      have w5 := qOk_QI h2.1
      have y5 := qOk_64 h2.1
      have z5 := QI_qsz w5
      have w6 := qOk_QI h2.2.1
      have y6 := qOk_64 h2.2.1
      have z6 := QI_qsz w6
      have w7 := qOk_QI h2.2.2
      have y7 := qOk_64 h2.2.2
      have z7 := QI_qsz w7
      have e1 : IntKind.i64.wrap (htQ (Rat.divInt a b) (Rat.divInt c d) (Rat.divInt e f) (Rat.divInt g h) (Rat.divInt i j) (Rat.divInt k l) (Rat.divInt m n)).num.sign = (htQ (Rat.divInt a b) (Rat.divInt c d) (Rat.divInt e f) (Rat.divInt g h) (Rat.divInt i j) (Rat.divInt k l) (Rat.divInt m n)).num.sign := i64_id _ (by have := sign_bd (htQ (Rat.divInt a b) (Rat.divInt c d) (Rat.divInt e f) (Rat.divInt g h) (Rat.divInt i j) (Rat.divInt k l) (Rat.divInt m n)).num; omega) (by have := sign_bd (htQ (Rat.divInt a b) (Rat.divInt c d) (Rat.divInt e f) (Rat.divInt g h) (Rat.divInt i j) (Rat.divInt k l) (Rat.divInt m n)).num; omega)
      have s1 : qsz (Rat.divInt a b) + qsz (Rat.divInt c d) + qsz (Rat.divInt e f) + qsz (Rat.divInt g h) + qsz (Rat.divInt i j) + qsz (Rat.divInt k l) + qsz (Rat.divInt m n) < 100000000 := by omega
      simp [-D.isLit, Tryz.f6, hp1, hp2, h1, h2, hne, w1, y1, w2, y2, w3, y3, w4, y4, w5, y5, w6, y6, w7, y7, e1, s1]
    · simp [-D.isLit, Tryz.f6, hp1, hp2, h1, h2] <;> exact Sub.refl _
  · simp [-D.isLit, Tryz.f6, hp1, hp2, h1] <;> exact Sub.refl _
theorem sSide_ok : callable Tryz.prog 6 = true := by kernel_rfl

/-! i.Drop -/
noncomputable def iDropC := ct2 EPl EV3 (fun p0 p1 => ((I64 p0.1.1 ∧ I64 p0.1.2) ∧ (I64 p0.2.1.1 ∧ I64 p0.2.1.2) ∧ (I64 p0.2.2.1.1 ∧ I64 p0.2.2.1.2) ∧ I64 p0.2.2.2.1 ∧ I64 p0.2.2.2.2) ∧ ((I64 p1.1.1 ∧ I64 p1.1.2) ∧ (I64 p1.2.1.1 ∧ I64 p1.2.1.2) ∧ I64 p1.2.2.1 ∧ I64 p1.2.2.2)) (fun p0 p1 => vD (if plOk p0.1.1 p0.1.2 p0.2.1.1 p0.2.1.2 p0.2.2.1.1 p0.2.2.1.2 p0.2.2.2.1 p0.2.2.2.2 ∧ v3Ok p1.1.1 p1.1.2 p1.2.1.1 p1.2.1.2 p1.2.2.1 p1.2.2.2 then oV (drpQ (Rat.divInt p0.2.1.1 p0.2.1.2) (Rat.divInt p0.2.2.1.1 p0.2.2.1.2) (Rat.divInt p1.1.1 p1.1.2) (Rat.divInt p1.2.1.1 p1.2.1.2) (Rat.divInt p1.2.2.1 p1.2.2.2)).1 (drpQ (Rat.divInt p0.2.1.1 p0.2.1.2) (Rat.divInt p0.2.2.1.1 p0.2.2.1.2) (Rat.divInt p1.1.1 p1.1.2) (Rat.divInt p1.2.1.1 p1.2.1.2) (Rat.divInt p1.2.2.1 p1.2.2.2)).2 else ((0, 0), (0, 0), false)))
@[simp] theorem iDropC_at (a b c d e f g h : Int) (i j k l m n : Int) : iDropC [.agg [eQ a b, eQ c d, eQ e f, eQ g h], .agg [eQ i j, eQ k l, eQ m n]] = (((I64 a ∧ I64 b) ∧ (I64 c ∧ I64 d) ∧ (I64 e ∧ I64 f) ∧ I64 g ∧ I64 h) ∧ ((I64 i ∧ I64 j) ∧ (I64 k ∧ I64 l) ∧ I64 m ∧ I64 n), vD (if plOk a b c d e f g h ∧ v3Ok i j k l m n then oV (drpQ (Rat.divInt c d) (Rat.divInt e f) (Rat.divInt i j) (Rat.divInt k l) (Rat.divInt m n)).1 (drpQ (Rat.divInt c d) (Rat.divInt e f) (Rat.divInt i j) (Rat.divInt k l) (Rat.divInt m n)).2 else ((0, 0), (0, 0), false))) := ct2_at ((a, b), (c, d), (e, f), g, h) ((i, j), (k, l), m, n)
noncomputable def iDropTb : List (FuncId × Ct) := [(24, .data iPlaneOkC), (25, .data iV3OkC), (26, .data pplC), (28, .data pv3C)]
theorem iDropTb_ok {N : NR} : TbOK N Tryz.prog (tbl iDropTb) := tbl_cons (c := .data iPlaneOkC) iPlaneOk_spec iPlaneOk_ok (tbl_cons (c := .data iV3OkC) iV3Ok_spec iV3Ok_ok (tbl_cons (c := .data pplC) ppl_spec ppl_ok (tbl_cons (c := .data pv3C) pv3_spec pv3_ok tbl_nil)))

@[simp] theorem iDropTb1 : tbl iDropTb 24 = some (.data iPlaneOkC) := rfl
@[simp] theorem iDropTb2 : tbl iDropTb 25 = some (.data iV3OkC) := rfl
@[simp] theorem iDropTb3 : tbl iDropTb 26 = some (.data pplC) := rfl
@[simp] theorem iDropTb4 : tbl iDropTb 28 = some (.data pv3C) := rfl
/-! s.Drop -/
noncomputable def sDropC := ct2 EPl EV3 (fun p0 p1 => ((I64 p0.1.1 ∧ I64 p0.1.2) ∧ (I64 p0.2.1.1 ∧ I64 p0.2.1.2) ∧ (I64 p0.2.2.1.1 ∧ I64 p0.2.2.1.2) ∧ I64 p0.2.2.2.1 ∧ I64 p0.2.2.2.2) ∧ ((I64 p1.1.1 ∧ I64 p1.1.2) ∧ (I64 p1.2.1.1 ∧ I64 p1.2.1.2) ∧ I64 p1.2.2.1 ∧ I64 p1.2.2.2)) (fun p0 p1 => vD (if plOk p0.1.1 p0.1.2 p0.2.1.1 p0.2.1.2 p0.2.2.1.1 p0.2.2.1.2 p0.2.2.2.1 p0.2.2.2.2 ∧ v3Ok p1.1.1 p1.1.2 p1.2.1.1 p1.2.1.2 p1.2.2.1 p1.2.2.2 then oV (drpQ (Rat.divInt p0.2.1.1 p0.2.1.2) (Rat.divInt p0.2.2.1.1 p0.2.2.1.2) (Rat.divInt p1.1.1 p1.1.2) (Rat.divInt p1.2.1.1 p1.2.1.2) (Rat.divInt p1.2.2.1 p1.2.2.2)).1 (drpQ (Rat.divInt p0.2.1.1 p0.2.1.2) (Rat.divInt p0.2.2.1.1 p0.2.2.1.2) (Rat.divInt p1.1.1 p1.1.2) (Rat.divInt p1.2.1.1 p1.2.1.2) (Rat.divInt p1.2.2.1 p1.2.2.2)).2 else ((0, 0), (0, 0), false)))
@[simp] theorem sDropC_at (a b c d e f g h : Int) (i j k l m n : Int) : sDropC [.agg [eQ a b, eQ c d, eQ e f, eQ g h], .agg [eQ i j, eQ k l, eQ m n]] = (((I64 a ∧ I64 b) ∧ (I64 c ∧ I64 d) ∧ (I64 e ∧ I64 f) ∧ I64 g ∧ I64 h) ∧ ((I64 i ∧ I64 j) ∧ (I64 k ∧ I64 l) ∧ I64 m ∧ I64 n), vD (if plOk a b c d e f g h ∧ v3Ok i j k l m n then oV (drpQ (Rat.divInt c d) (Rat.divInt e f) (Rat.divInt i j) (Rat.divInt k l) (Rat.divInt m n)).1 (drpQ (Rat.divInt c d) (Rat.divInt e f) (Rat.divInt i j) (Rat.divInt k l) (Rat.divInt m n)).2 else ((0, 0), (0, 0), false))) := ct2_at ((a, b), (c, d), (e, f), g, h) ((i, j), (k, l), m, n)
noncomputable def sDropTb : List (FuncId × Ct) := [(17, .data sPlaneOkC), (18, .data sV3OkC), (21, .data l11PlaneC), (63, .data l11AxisC), (22, .data l11pC)]
theorem sDropTb_ok : TbOK NF Tryz.prog (tbl sDropTb) := tbl_cons (c := .data sPlaneOkC) sPlaneOk_spec sPlaneOk_ok (tbl_cons (c := .data sV3OkC) sV3Ok_spec sV3Ok_ok (tbl_cons (c := .data l11PlaneC) l11Plane_spec l11Plane_ok (tbl_cons (c := .data l11AxisC) l11Axis_spec l11Axis_ok (tbl_cons (c := .data l11pC) l11p_spec l11p_ok tbl_nil))))

@[simp] theorem sDropTb1 : tbl sDropTb 17 = some (.data sPlaneOkC) := rfl
@[simp] theorem sDropTb2 : tbl sDropTb 18 = some (.data sV3OkC) := rfl
@[simp] theorem sDropTb3 : tbl sDropTb 21 = some (.data l11PlaneC) := rfl
@[simp] theorem sDropTb4 : tbl sDropTb 63 = some (.data l11AxisC) := rfl
@[simp] theorem sDropTb5 : tbl sDropTb 22 = some (.data l11pC) := rfl
/-! i.Lift -/
noncomputable def iLiftC := ct2 EPl EV (fun p0 p1 => ((I64 p0.1.1 ∧ I64 p0.1.2) ∧ (I64 p0.2.1.1 ∧ I64 p0.2.1.2) ∧ (I64 p0.2.2.1.1 ∧ I64 p0.2.2.1.2) ∧ I64 p0.2.2.2.1 ∧ I64 p0.2.2.2.2) ∧ ((I64 p1.1.1 ∧ I64 p1.1.2) ∧ I64 p1.2.1 ∧ I64 p1.2.2)) (fun p0 p1 => v3T (if plOk p0.1.1 p0.1.2 p0.2.1.1 p0.2.1.2 p0.2.2.1.1 p0.2.2.1.2 p0.2.2.2.1 p0.2.2.2.2 ∧ (qOk p1.1.1 p1.1.2 ∧ qOk p1.2.1 p1.2.2) then oV3 (lftQ (Rat.divInt p0.1.1 p0.1.2) (Rat.divInt p0.2.1.1 p0.2.1.2) (Rat.divInt p0.2.2.1.1 p0.2.2.1.2) (Rat.divInt p0.2.2.2.1 p0.2.2.2.2) (Rat.divInt p1.1.1 p1.1.2) (Rat.divInt p1.2.1 p1.2.2)).1 (lftQ (Rat.divInt p0.1.1 p0.1.2) (Rat.divInt p0.2.1.1 p0.2.1.2) (Rat.divInt p0.2.2.1.1 p0.2.2.1.2) (Rat.divInt p0.2.2.2.1 p0.2.2.2.2) (Rat.divInt p1.1.1 p1.1.2) (Rat.divInt p1.2.1 p1.2.2)).2.1 (lftQ (Rat.divInt p0.1.1 p0.1.2) (Rat.divInt p0.2.1.1 p0.2.1.2) (Rat.divInt p0.2.2.1.1 p0.2.2.1.2) (Rat.divInt p0.2.2.2.1 p0.2.2.2.2) (Rat.divInt p1.1.1 p1.1.2) (Rat.divInt p1.2.1 p1.2.2)).2.2 else ((0, 0), (0, 0), (0, 0), false)))
@[simp] theorem iLiftC_at (a b c d e f g h : Int) (i j k l : Int) : iLiftC [.agg [eQ a b, eQ c d, eQ e f, eQ g h], .agg [eQ i j, eQ k l]] = (((I64 a ∧ I64 b) ∧ (I64 c ∧ I64 d) ∧ (I64 e ∧ I64 f) ∧ I64 g ∧ I64 h) ∧ ((I64 i ∧ I64 j) ∧ I64 k ∧ I64 l), v3T (if plOk a b c d e f g h ∧ (qOk i j ∧ qOk k l) then oV3 (lftQ (Rat.divInt a b) (Rat.divInt c d) (Rat.divInt e f) (Rat.divInt g h) (Rat.divInt i j) (Rat.divInt k l)).1 (lftQ (Rat.divInt a b) (Rat.divInt c d) (Rat.divInt e f) (Rat.divInt g h) (Rat.divInt i j) (Rat.divInt k l)).2.1 (lftQ (Rat.divInt a b) (Rat.divInt c d) (Rat.divInt e f) (Rat.divInt g h) (Rat.divInt i j) (Rat.divInt k l)).2.2 else ((0, 0), (0, 0), (0, 0), false))) := ct2_at ((a, b), (c, d), (e, f), g, h) ((i, j), k, l)
noncomputable def iLiftTb : List (FuncId × Ct) := [(24, .data iPlaneOkC), (39, .data iVOkC), (26, .data pplC), (41, .data pvC), (40, .data plLiftC), (42, .data p3vC)]
theorem iLiftTb_ok {N : NR} : TbOK N Tryz.prog (tbl iLiftTb) := tbl_cons (c := .data iPlaneOkC) iPlaneOk_spec iPlaneOk_ok (tbl_cons (c := .data iVOkC) iVOk_spec iVOk_ok (tbl_cons (c := .data pplC) ppl_spec ppl_ok (tbl_cons (c := .data pvC) pv_spec pv_ok (tbl_cons (c := .data plLiftC) plLift_spec plLift_ok (tbl_cons (c := .data p3vC) p3v_spec p3v_ok tbl_nil)))))

@[simp] theorem iLiftTb1 : tbl iLiftTb 24 = some (.data iPlaneOkC) := rfl
@[simp] theorem iLiftTb2 : tbl iLiftTb 39 = some (.data iVOkC) := rfl
@[simp] theorem iLiftTb3 : tbl iLiftTb 26 = some (.data pplC) := rfl
@[simp] theorem iLiftTb4 : tbl iLiftTb 41 = some (.data pvC) := rfl
@[simp] theorem iLiftTb5 : tbl iLiftTb 40 = some (.data plLiftC) := rfl
@[simp] theorem iLiftTb6 : tbl iLiftTb 42 = some (.data p3vC) := rfl
theorem iLift_spec {N : NR} : SpecD N Tryz.prog 15 iLiftC := by
  refine rd2 (mf := fun f => false) iLiftTb_ok (fn := Tryz.f15) (by kernel_rfl) rfl (by kernel_rfl) (by kernel_rfl) ?_
  rintro ⟨⟨a, b⟩, ⟨c, d⟩, ⟨e, f⟩, g, h⟩ ⟨⟨i, j⟩, k, l⟩ hp
  have hp : ((I64 a ∧ I64 b) ∧ (I64 c ∧ I64 d) ∧ (I64 e ∧ I64 f) ∧ I64 g ∧ I64 h) ∧ ((I64 i ∧ I64 j) ∧ I64 k ∧ I64 l) := hp
  show awp _ _ _ _ (start _ ([.agg [eQ a b, eQ c d, eQ e f, eQ g h], .agg [eQ i j, eQ k l]].map .dat) []) (endK _ _ _ ((v3T (if plOk a b c d e f g h ∧ (qOk i j ∧ qOk k l) then oV3 (lftQ (Rat.divInt a b) (Rat.divInt c d) (Rat.divInt e f) (Rat.divInt g h) (Rat.divInt i j) (Rat.divInt k l)).1 (lftQ (Rat.divInt a b) (Rat.divInt c d) (Rat.divInt e f) (Rat.divInt g h) (Rat.divInt i j) (Rat.divInt k l)).2.1 (lftQ (Rat.divInt a b) (Rat.divInt c d) (Rat.divInt e f) (Rat.divInt g h) (Rat.divInt i j) (Rat.divInt k l)).2.2 else ((0, 0), (0, 0), (0, 0), false))).map .dat) [])
  obtain ⟨hp1, hp2⟩ := hp
  by_cases h1 : plOk a b c d e f g h
  · by_cases h2 : (qOk i j ∧ qOk k l)
    · have hne := plOk_ne h1
      have w1 := qOk_QI h1.1.1
      have y1 := qOk_64 h1.1.1
      have z1 := QI_qsz w1
      have w2 := qOk_QI h1.1.2.1
      have y2 := qOk_64 h1.1.2.1
      have z2 := QI_qsz w2
      have w3 := qOk_QI h1.1.2.2.1
      have y3 := qOk_64 h1.1.2.2.1
      have z3 := QI_qsz w3
      have w4 := qOk_QI h1.1.2.2.2
      have y4 := qOk_64 h1.1.2.2.2
      have z4 := QI_qsz w4
      have w5 := qOk_QI h2.1
      have y5 := qOk_64 h2.1
      have z5 := QI_qsz w5
      have w6 := qOk_QI h2.2
      have y6 := qOk_64 h2.2
      have z6 := QI_qsz w6
      have s1 : qsz (Rat.divInt a b) + qsz (Rat.divInt c d) + qsz (Rat.divInt e f) + qsz (Rat.divInt g h) + qsz (Rat.divInt i j) + qsz (Rat.divInt k l) < 10000000 := by omega
      simp [-D.isLit, Tryz.f15, hp1, hp2, h1, h2, hne, w1, y1, w2, y2, w3, y3, w4, y4, w5, y5, w6, y6, s1, v3T]
    · have h2n : (decide (qOk i j) && decide (qOk k l)) = false := by rw [← Bool.decide_and]; exact decide_eq_false h2
      simp [-D.isLit, Tryz.f15, hp1, hp2, h1, h2, h2n, v3T] <;> exact Sub.refl _
  · simp [-D.isLit, Tryz.f15, hp1, hp2, h1, v3T] <;> exact Sub.refl _
theorem iLift_ok : callable Tryz.prog 15 = true := by kernel_rfl

/-! s.Lift -/
noncomputable def sLiftC := ct2 EPl EV (fun p0 p1 => ((I64 p0.1.1 ∧ I64 p0.1.2) ∧ (I64 p0.2.1.1 ∧ I64 p0.2.1.2) ∧ (I64 p0.2.2.1.1 ∧ I64 p0.2.2.1.2) ∧ I64 p0.2.2.2.1 ∧ I64 p0.2.2.2.2) ∧ ((I64 p1.1.1 ∧ I64 p1.1.2) ∧ I64 p1.2.1 ∧ I64 p1.2.2)) (fun p0 p1 => v3T (if plOk p0.1.1 p0.1.2 p0.2.1.1 p0.2.1.2 p0.2.2.1.1 p0.2.2.1.2 p0.2.2.2.1 p0.2.2.2.2 ∧ (qOk p1.1.1 p1.1.2 ∧ qOk p1.2.1 p1.2.2) then oV3 (lftQ (Rat.divInt p0.1.1 p0.1.2) (Rat.divInt p0.2.1.1 p0.2.1.2) (Rat.divInt p0.2.2.1.1 p0.2.2.1.2) (Rat.divInt p0.2.2.2.1 p0.2.2.2.2) (Rat.divInt p1.1.1 p1.1.2) (Rat.divInt p1.2.1 p1.2.2)).1 (lftQ (Rat.divInt p0.1.1 p0.1.2) (Rat.divInt p0.2.1.1 p0.2.1.2) (Rat.divInt p0.2.2.1.1 p0.2.2.1.2) (Rat.divInt p0.2.2.2.1 p0.2.2.2.2) (Rat.divInt p1.1.1 p1.1.2) (Rat.divInt p1.2.1 p1.2.2)).2.1 (lftQ (Rat.divInt p0.1.1 p0.1.2) (Rat.divInt p0.2.1.1 p0.2.1.2) (Rat.divInt p0.2.2.1.1 p0.2.2.1.2) (Rat.divInt p0.2.2.2.1 p0.2.2.2.2) (Rat.divInt p1.1.1 p1.1.2) (Rat.divInt p1.2.1 p1.2.2)).2.2 else ((0, 0), (0, 0), (0, 0), false)))
@[simp] theorem sLiftC_at (a b c d e f g h : Int) (i j k l : Int) : sLiftC [.agg [eQ a b, eQ c d, eQ e f, eQ g h], .agg [eQ i j, eQ k l]] = (((I64 a ∧ I64 b) ∧ (I64 c ∧ I64 d) ∧ (I64 e ∧ I64 f) ∧ I64 g ∧ I64 h) ∧ ((I64 i ∧ I64 j) ∧ I64 k ∧ I64 l), v3T (if plOk a b c d e f g h ∧ (qOk i j ∧ qOk k l) then oV3 (lftQ (Rat.divInt a b) (Rat.divInt c d) (Rat.divInt e f) (Rat.divInt g h) (Rat.divInt i j) (Rat.divInt k l)).1 (lftQ (Rat.divInt a b) (Rat.divInt c d) (Rat.divInt e f) (Rat.divInt g h) (Rat.divInt i j) (Rat.divInt k l)).2.1 (lftQ (Rat.divInt a b) (Rat.divInt c d) (Rat.divInt e f) (Rat.divInt g h) (Rat.divInt i j) (Rat.divInt k l)).2.2 else ((0, 0), (0, 0), (0, 0), false))) := ct2_at ((a, b), (c, d), (e, f), g, h) ((i, j), k, l)
noncomputable def sLiftTb : List (FuncId × Ct) := [(17, .data sPlaneOkC), (35, .data sVOkC), (21, .data l11PlaneC), (38, .data l3pC), (37, .data l11LiftC), (36, .data l11VC)]
theorem sLiftTb_ok : TbOK NF Tryz.prog (tbl sLiftTb) := tbl_cons (c := .data sPlaneOkC) sPlaneOk_spec sPlaneOk_ok (tbl_cons (c := .data sVOkC) sVOk_spec sVOk_ok (tbl_cons (c := .data l11PlaneC) l11Plane_spec l11Plane_ok (tbl_cons (c := .data l3pC) l3p_spec l3p_ok (tbl_cons (c := .data l11LiftC) l11Lift_spec l11Lift_ok (tbl_cons (c := .data l11VC) l11V_spec l11V_ok tbl_nil)))))

@[simp] theorem sLiftTb1 : tbl sLiftTb 17 = some (.data sPlaneOkC) := rfl
@[simp] theorem sLiftTb2 : tbl sLiftTb 35 = some (.data sVOkC) := rfl
@[simp] theorem sLiftTb3 : tbl sLiftTb 21 = some (.data l11PlaneC) := rfl
@[simp] theorem sLiftTb4 : tbl sLiftTb 38 = some (.data l3pC) := rfl
@[simp] theorem sLiftTb5 : tbl sLiftTb 37 = some (.data l11LiftC) := rfl
@[simp] theorem sLiftTb6 : tbl sLiftTb 36 = some (.data l11VC) := rfl
theorem sLift_spec : SpecD NF Tryz.prog 13 sLiftC := by
  refine rd2 (mf := fun f => false) sLiftTb_ok (fn := Tryz.f13) (by kernel_rfl) rfl (by kernel_rfl) (by kernel_rfl) ?_
  rintro ⟨⟨a, b⟩, ⟨c, d⟩, ⟨e, f⟩, g, h⟩ ⟨⟨i, j⟩, k, l⟩ hp
  have hp : ((I64 a ∧ I64 b) ∧ (I64 c ∧ I64 d) ∧ (I64 e ∧ I64 f) ∧ I64 g ∧ I64 h) ∧ ((I64 i ∧ I64 j) ∧ I64 k ∧ I64 l) := hp
  show awp _ _ _ _ (start _ ([.agg [eQ a b, eQ c d, eQ e f, eQ g h], .agg [eQ i j, eQ k l]].map .dat) []) (endK _ _ _ ((v3T (if plOk a b c d e f g h ∧ (qOk i j ∧ qOk k l) then oV3 (lftQ (Rat.divInt a b) (Rat.divInt c d) (Rat.divInt e f) (Rat.divInt g h) (Rat.divInt i j) (Rat.divInt k l)).1 (lftQ (Rat.divInt a b) (Rat.divInt c d) (Rat.divInt e f) (Rat.divInt g h) (Rat.divInt i j) (Rat.divInt k l)).2.1 (lftQ (Rat.divInt a b) (Rat.divInt c d) (Rat.divInt e f) (Rat.divInt g h) (Rat.divInt i j) (Rat.divInt k l)).2.2 else ((0, 0), (0, 0), (0, 0), false))).map .dat) [])
  obtain ⟨hp1, hp2⟩ := hp
  by_cases h1 : plOk a b c d e f g h
  · by_cases h2 : (qOk i j ∧ qOk k l)
    · have hne := plOk_ne h1
      have w1 := qOk_QI h1.1.1
      have y1 := qOk_64 h1.1.1
      have z1 := QI_qsz w1
      have w2 := qOk_QI h1.1.2.1
      have y2 := qOk_64 h1.1.2.1
      have z2 := QI_qsz w2
      have w3 := qOk_QI h1.1.2.2.1
      have y3 := qOk_64 h1.1.2.2.1
      have z3 := QI_qsz w3
      have w4 := qOk_QI h1.1.2.2.2
      have y4 := qOk_64 h1.1.2.2.2
      have z4 := QI_qsz w4
      have w5 := qOk_QI h2.1
      have y5 := qOk_64 h2.1
      have z5 := QI_qsz w5
      have w6 := qOk_QI h2.2
      have y6 := qOk_64 h2.2
      have z6 := QI_qsz w6
      have s1 : qsz (Rat.divInt a b) + qsz (Rat.divInt c d) + qsz (Rat.divInt e f) + qsz (Rat.divInt g h) + qsz (Rat.divInt i j) + qsz (Rat.divInt k l) < 10000000 := by omega
      simp [-D.isLit, Tryz.f13, hp1, hp2, h1, h2, hne, w1, y1, w2, y2, w3, y3, w4, y4, w5, y5, w6, y6, s1, v3T]
    · have h2n : (decide (qOk i j) && decide (qOk k l)) = false := by rw [← Bool.decide_and]; exact decide_eq_false h2
      simp [-D.isLit, Tryz.f13, hp1, hp2, h1, h2, h2n, v3T] <;> exact Sub.refl _
  · simp [-D.isLit, Tryz.f13, hp1, hp2, h1, v3T] <;> exact Sub.refl _
theorem sLift_ok : callable Tryz.prog 13 = true := by kernel_rfl

/-! i.PlaneOf -/
noncomputable def iPlaneOfC := ct3 EV3 EV3 EV3 (fun p0 p1 p2 => ((I64 p0.1.1 ∧ I64 p0.1.2) ∧ (I64 p0.2.1.1 ∧ I64 p0.2.1.2) ∧ I64 p0.2.2.1 ∧ I64 p0.2.2.2) ∧ ((I64 p1.1.1 ∧ I64 p1.1.2) ∧ (I64 p1.2.1.1 ∧ I64 p1.2.1.2) ∧ I64 p1.2.2.1 ∧ I64 p1.2.2.2) ∧ ((I64 p2.1.1 ∧ I64 p2.1.2) ∧ (I64 p2.2.1.1 ∧ I64 p2.2.1.2) ∧ I64 p2.2.2.1 ∧ I64 p2.2.2.2)) (fun p0 p1 p2 => plT (tldO (if v3Ok p0.1.1 p0.1.2 p0.2.1.1 p0.2.1.2 p0.2.2.1 p0.2.2.2 ∧ v3Ok p1.1.1 p1.1.2 p1.2.1.1 p1.2.1.2 p1.2.2.1 p1.2.2.2 ∧ v3Ok p2.1.1 p2.1.2 p2.2.1.1 p2.2.1.2 p2.2.2.1 p2.2.2.2 then throQ (Rat.divInt p0.1.1 p0.1.2) (Rat.divInt p0.2.1.1 p0.2.1.2) (Rat.divInt p0.2.2.1 p0.2.2.2) (Rat.divInt p1.1.1 p1.1.2) (Rat.divInt p1.2.1.1 p1.2.1.2) (Rat.divInt p1.2.2.1 p1.2.2.2) (Rat.divInt p2.1.1 p2.1.2) (Rat.divInt p2.2.1.1 p2.2.1.2) (Rat.divInt p2.2.2.1 p2.2.2.2) else none)))
@[simp] theorem iPlaneOfC_at (a b c d e f : Int) (g h i j k l : Int) (m n o p q r : Int) : iPlaneOfC [.agg [eQ a b, eQ c d, eQ e f], .agg [eQ g h, eQ i j, eQ k l], .agg [eQ m n, eQ o p, eQ q r]] = (((I64 a ∧ I64 b) ∧ (I64 c ∧ I64 d) ∧ I64 e ∧ I64 f) ∧ ((I64 g ∧ I64 h) ∧ (I64 i ∧ I64 j) ∧ I64 k ∧ I64 l) ∧ ((I64 m ∧ I64 n) ∧ (I64 o ∧ I64 p) ∧ I64 q ∧ I64 r), plT (tldO (if v3Ok a b c d e f ∧ v3Ok g h i j k l ∧ v3Ok m n o p q r then throQ (Rat.divInt a b) (Rat.divInt c d) (Rat.divInt e f) (Rat.divInt g h) (Rat.divInt i j) (Rat.divInt k l) (Rat.divInt m n) (Rat.divInt o p) (Rat.divInt q r) else none))) := ct3_at ((a, b), (c, d), e, f) ((g, h), (i, j), k, l) ((m, n), (o, p), q, r)
noncomputable def iPlaneOfTb : List (FuncId × Ct) := [(25, .data iV3OkC), (28, .data pv3C), (32, .data planeOfC), (33, .data plPlaneC)]
theorem iPlaneOfTb_ok {N : NR} : TbOK N Tryz.prog (tbl iPlaneOfTb) := tbl_cons (c := .data iV3OkC) iV3Ok_spec iV3Ok_ok (tbl_cons (c := .data pv3C) pv3_spec pv3_ok (tbl_cons (c := .data planeOfC) planeOf_spec planeOf_ok (tbl_cons (c := .data plPlaneC) plPlane_spec plPlane_ok tbl_nil)))

@[simp] theorem iPlaneOfTb1 : tbl iPlaneOfTb 25 = some (.data iV3OkC) := rfl
@[simp] theorem iPlaneOfTb2 : tbl iPlaneOfTb 28 = some (.data pv3C) := rfl
@[simp] theorem iPlaneOfTb3 : tbl iPlaneOfTb 32 = some (.data planeOfC) := rfl
@[simp] theorem iPlaneOfTb4 : tbl iPlaneOfTb 33 = some (.data plPlaneC) := rfl
theorem iPlaneOf_spec {N : NR} : SpecD N Tryz.prog 11 iPlaneOfC := by
  refine rd3 (mf := fun f => false) iPlaneOfTb_ok (fn := Tryz.f11) (by kernel_rfl) rfl (by kernel_rfl) (by kernel_rfl) ?_
  rintro ⟨⟨a, b⟩, ⟨c, d⟩, e, f⟩ ⟨⟨g, h⟩, ⟨i, j⟩, k, l⟩ ⟨⟨m, n⟩, ⟨o, p⟩, q, r⟩ hp
  have hp : ((I64 a ∧ I64 b) ∧ (I64 c ∧ I64 d) ∧ I64 e ∧ I64 f) ∧ ((I64 g ∧ I64 h) ∧ (I64 i ∧ I64 j) ∧ I64 k ∧ I64 l) ∧ ((I64 m ∧ I64 n) ∧ (I64 o ∧ I64 p) ∧ I64 q ∧ I64 r) := hp
  show awp _ _ _ _ (start _ ([.agg [eQ a b, eQ c d, eQ e f], .agg [eQ g h, eQ i j, eQ k l], .agg [eQ m n, eQ o p, eQ q r]].map .dat) []) (endK _ _ _ ((plT (tldO (if v3Ok a b c d e f ∧ v3Ok g h i j k l ∧ v3Ok m n o p q r then throQ (Rat.divInt a b) (Rat.divInt c d) (Rat.divInt e f) (Rat.divInt g h) (Rat.divInt i j) (Rat.divInt k l) (Rat.divInt m n) (Rat.divInt o p) (Rat.divInt q r) else none))).map .dat) [])
  obtain ⟨hp1, hp2, hp3⟩ := hp
  by_cases h1 : v3Ok a b c d e f
  · by_cases h2 : v3Ok g h i j k l
    · by_cases h3 : v3Ok m n o p q r
      · have w1 := qOk_QI h1.1
        have y1 := qOk_64 h1.1
        have z1 := QI_qsz w1
        have w2 := qOk_QI h1.2.1
        have y2 := qOk_64 h1.2.1
        have z2 := QI_qsz w2
        have w3 := qOk_QI h1.2.2
        have y3 := qOk_64 h1.2.2
        have z3 := QI_qsz w3
        have w4 := qOk_QI h2.1
        have y4 := qOk_64 h2.1
        have z4 := QI_qsz w4
        have w5 := qOk_QI h2.2.1
        have y5 := qOk_64 h2.2.1
        have z5 := QI_qsz w5
        have w6 := qOk_QI h2.2.2
        have y6 := qOk_64 h2.2.2
        have z6 := QI_qsz w6
        have w7 := qOk_QI h3.1
        have y7 := qOk_64 h3.1
        have z7 := QI_qsz w7
        have w8 := qOk_QI h3.2.1
        have y8 := qOk_64 h3.2.1
        have z8 := QI_qsz w8
        have w9 := qOk_QI h3.2.2
        have y9 := qOk_64 h3.2.2
        have z9 := QI_qsz w9
        have s1 : qsz (Rat.divInt a b) + qsz (Rat.divInt c d) + qsz (Rat.divInt e f) + qsz (Rat.divInt g h) + qsz (Rat.divInt i j) + qsz (Rat.divInt k l) + qsz (Rat.divInt m n) + qsz (Rat.divInt o p) + qsz (Rat.divInt q r) < 1000000 := by omega
        cases e1 : throQ (Rat.divInt a b) (Rat.divInt c d) (Rat.divInt e f) (Rat.divInt g h) (Rat.divInt i j) (Rat.divInt k l) (Rat.divInt m n) (Rat.divInt o p) (Rat.divInt q r) with
        | none => simp [-D.isLit, Tryz.f11, hp1, hp2, hp3, h1, h2, h3, w1, y1, w2, y2, w3, y3, w4, y4, w5, y5, w6, y6, w7, y7, w8, y8, w9, y9, s1, e1, thrI, zPl, zRat', plT, tldO] <;> exact Sub.refl _
        | some x =>
          obtain ⟨⟨x, y, z⟩, w⟩ := x
          simp [-D.isLit, Tryz.f11, hp1, hp2, hp3, h1, h2, h3, w1, y1, w2, y2, w3, y3, w4, y4, w5, y5, w6, y6, w7, y7, w8, y8, w9, y9, s1, e1, thrI, zPl, zRat', plT, tldO]
      · simp [-D.isLit, Tryz.f11, hp1, hp2, hp3, h1, h2, h3, plT, tldO] <;> exact Sub.refl _
    · simp [-D.isLit, Tryz.f11, hp1, hp2, hp3, h1, h2, plT, tldO] <;> exact Sub.refl _
  · simp [-D.isLit, Tryz.f11, hp1, hp2, hp3, h1, plT, tldO] <;> exact Sub.refl _
theorem iPlaneOf_ok : callable Tryz.prog 11 = true := by kernel_rfl

/-! s.PlaneOf -/
noncomputable def sPlaneOfC := ct3 EV3 EV3 EV3 (fun p0 p1 p2 => ((I64 p0.1.1 ∧ I64 p0.1.2) ∧ (I64 p0.2.1.1 ∧ I64 p0.2.1.2) ∧ I64 p0.2.2.1 ∧ I64 p0.2.2.2) ∧ ((I64 p1.1.1 ∧ I64 p1.1.2) ∧ (I64 p1.2.1.1 ∧ I64 p1.2.1.2) ∧ I64 p1.2.2.1 ∧ I64 p1.2.2.2) ∧ ((I64 p2.1.1 ∧ I64 p2.1.2) ∧ (I64 p2.2.1.1 ∧ I64 p2.2.1.2) ∧ I64 p2.2.2.1 ∧ I64 p2.2.2.2)) (fun p0 p1 p2 => plT (tldO (if v3Ok p0.1.1 p0.1.2 p0.2.1.1 p0.2.1.2 p0.2.2.1 p0.2.2.2 ∧ v3Ok p1.1.1 p1.1.2 p1.2.1.1 p1.2.1.2 p1.2.2.1 p1.2.2.2 ∧ v3Ok p2.1.1 p2.1.2 p2.2.1.1 p2.2.1.2 p2.2.2.1 p2.2.2.2 then throQ (Rat.divInt p0.1.1 p0.1.2) (Rat.divInt p0.2.1.1 p0.2.1.2) (Rat.divInt p0.2.2.1 p0.2.2.2) (Rat.divInt p1.1.1 p1.1.2) (Rat.divInt p1.2.1.1 p1.2.1.2) (Rat.divInt p1.2.2.1 p1.2.2.2) (Rat.divInt p2.1.1 p2.1.2) (Rat.divInt p2.2.1.1 p2.2.1.2) (Rat.divInt p2.2.2.1 p2.2.2.2) else none)))
@[simp] theorem sPlaneOfC_at (a b c d e f : Int) (g h i j k l : Int) (m n o p q r : Int) : sPlaneOfC [.agg [eQ a b, eQ c d, eQ e f], .agg [eQ g h, eQ i j, eQ k l], .agg [eQ m n, eQ o p, eQ q r]] = (((I64 a ∧ I64 b) ∧ (I64 c ∧ I64 d) ∧ I64 e ∧ I64 f) ∧ ((I64 g ∧ I64 h) ∧ (I64 i ∧ I64 j) ∧ I64 k ∧ I64 l) ∧ ((I64 m ∧ I64 n) ∧ (I64 o ∧ I64 p) ∧ I64 q ∧ I64 r), plT (tldO (if v3Ok a b c d e f ∧ v3Ok g h i j k l ∧ v3Ok m n o p q r then throQ (Rat.divInt a b) (Rat.divInt c d) (Rat.divInt e f) (Rat.divInt g h) (Rat.divInt i j) (Rat.divInt k l) (Rat.divInt m n) (Rat.divInt o p) (Rat.divInt q r) else none))) := ct3_at ((a, b), (c, d), e, f) ((g, h), (i, j), k, l) ((m, n), (o, p), q, r)
noncomputable def sPlaneOfTb : List (FuncId × Ct) := [(18, .data sV3OkC), (22, .data l11pC), (30, .data l11ThrC), (31, .data l11ToldC)]
theorem sPlaneOfTb_ok : TbOK NF Tryz.prog (tbl sPlaneOfTb) := tbl_cons (c := .data sV3OkC) sV3Ok_spec sV3Ok_ok (tbl_cons (c := .data l11pC) l11p_spec l11p_ok (tbl_cons (c := .data l11ThrC) l11Thr_spec l11Thr_ok (tbl_cons (c := .data l11ToldC) l11Told_spec l11Told_ok tbl_nil)))

@[simp] theorem sPlaneOfTb1 : tbl sPlaneOfTb 18 = some (.data sV3OkC) := rfl
@[simp] theorem sPlaneOfTb2 : tbl sPlaneOfTb 22 = some (.data l11pC) := rfl
@[simp] theorem sPlaneOfTb3 : tbl sPlaneOfTb 30 = some (.data l11ThrC) := rfl
@[simp] theorem sPlaneOfTb4 : tbl sPlaneOfTb 31 = some (.data l11ToldC) := rfl
theorem sPlaneOf_spec : SpecD NF Tryz.prog 10 sPlaneOfC := by
  refine rd3 (mf := fun f => false) sPlaneOfTb_ok (fn := Tryz.f10) (by kernel_rfl) rfl (by kernel_rfl) (by kernel_rfl) ?_
  rintro ⟨⟨a, b⟩, ⟨c, d⟩, e, f⟩ ⟨⟨g, h⟩, ⟨i, j⟩, k, l⟩ ⟨⟨m, n⟩, ⟨o, p⟩, q, r⟩ hp
  have hp : ((I64 a ∧ I64 b) ∧ (I64 c ∧ I64 d) ∧ I64 e ∧ I64 f) ∧ ((I64 g ∧ I64 h) ∧ (I64 i ∧ I64 j) ∧ I64 k ∧ I64 l) ∧ ((I64 m ∧ I64 n) ∧ (I64 o ∧ I64 p) ∧ I64 q ∧ I64 r) := hp
  show awp _ _ _ _ (start _ ([.agg [eQ a b, eQ c d, eQ e f], .agg [eQ g h, eQ i j, eQ k l], .agg [eQ m n, eQ o p, eQ q r]].map .dat) []) (endK _ _ _ ((plT (tldO (if v3Ok a b c d e f ∧ v3Ok g h i j k l ∧ v3Ok m n o p q r then throQ (Rat.divInt a b) (Rat.divInt c d) (Rat.divInt e f) (Rat.divInt g h) (Rat.divInt i j) (Rat.divInt k l) (Rat.divInt m n) (Rat.divInt o p) (Rat.divInt q r) else none))).map .dat) [])
  obtain ⟨hp1, hp2, hp3⟩ := hp
  by_cases h1 : v3Ok a b c d e f
  · by_cases h2 : v3Ok g h i j k l
    · by_cases h3 : v3Ok m n o p q r
      · have w1 := qOk_QI h1.1
        have y1 := qOk_64 h1.1
        have z1 := QI_qsz w1
        have w2 := qOk_QI h1.2.1
        have y2 := qOk_64 h1.2.1
        have z2 := QI_qsz w2
        have w3 := qOk_QI h1.2.2
        have y3 := qOk_64 h1.2.2
        have z3 := QI_qsz w3
        have w4 := qOk_QI h2.1
        have y4 := qOk_64 h2.1
        have z4 := QI_qsz w4
        have w5 := qOk_QI h2.2.1
        have y5 := qOk_64 h2.2.1
        have z5 := QI_qsz w5
        have w6 := qOk_QI h2.2.2
        have y6 := qOk_64 h2.2.2
        have z6 := QI_qsz w6
        have w7 := qOk_QI h3.1
        have y7 := qOk_64 h3.1
        have z7 := QI_qsz w7
        have w8 := qOk_QI h3.2.1
        have y8 := qOk_64 h3.2.1
        have z8 := QI_qsz w8
        have w9 := qOk_QI h3.2.2
        have y9 := qOk_64 h3.2.2
        have z9 := QI_qsz w9
        have s1 : qsz (Rat.divInt a b) + qsz (Rat.divInt c d) + qsz (Rat.divInt e f) + qsz (Rat.divInt g h) + qsz (Rat.divInt i j) + qsz (Rat.divInt k l) + qsz (Rat.divInt m n) + qsz (Rat.divInt o p) + qsz (Rat.divInt q r) < 1000000 := by omega
        cases e1 : throQ (Rat.divInt a b) (Rat.divInt c d) (Rat.divInt e f) (Rat.divInt g h) (Rat.divInt i j) (Rat.divInt k l) (Rat.divInt m n) (Rat.divInt o p) (Rat.divInt q r) with
        | none => simp [-D.isLit, Tryz.f10, hp1, hp2, hp3, h1, h2, h3, w1, y1, w2, y2, w3, y3, w4, y4, w5, y5, w6, y6, w7, y7, w8, y8, w9, y9, s1, e1, thrN, zFn, zNum, plT, tldO] <;> exact Sub.refl _
        | some x =>
          obtain ⟨⟨x, y, z⟩, w⟩ := x
          simp [-D.isLit, Tryz.f10, hp1, hp2, hp3, h1, h2, h3, w1, y1, w2, y2, w3, y3, w4, y4, w5, y5, w6, y6, w7, y7, w8, y8, w9, y9, s1, e1, thrN, zFn, zNum, plT, tldO]
      · simp [-D.isLit, Tryz.f10, hp1, hp2, hp3, h1, h2, h3, plT, tldO] <;> exact Sub.refl _
    · simp [-D.isLit, Tryz.f10, hp1, hp2, hp3, h1, h2, plT, tldO] <;> exact Sub.refl _
  · simp [-D.isLit, Tryz.f10, hp1, hp2, hp3, h1, plT, tldO] <;> exact Sub.refl _
theorem sPlaneOf_ok : callable Tryz.prog 10 = true := by kernel_rfl
end Go.Proofs.YtmnplonkijkblaaGreat.Ae

/-! The laws Drop, Side, Lift, PlaneOf. No condition. -/
namespace Go.Proofs.YtmnplonkijkblaaGreat.Ae
open Go Go.RowKit Go.Proofs.YtmnplonkijkblaaGreat.Dig

/-! l.toV3 -/
noncomputable def toV3C := ct1 EV3 (fun p0 => True) (fun p0 => [.agg [eQ p0.1.1 p0.1.2, eQ p0.2.1.1 p0.2.1.2, eQ p0.2.2.1 p0.2.2.2]])
@[simp] theorem toV3C_at (a b c d e f : Int) : toV3C [.agg [eQ a b, eQ c d, eQ e f]] = (True, [.agg [eQ a b, eQ c d, eQ e f]]) := ct1_at ((a, b), (c, d), e, f)
noncomputable def toV3Tb : List (FuncId × Ct) := [(23, .data toQC)]
theorem toV3Tb_ok {N : NR} : TbOK N Tryz.prog (tbl toV3Tb) := tbl_cons (c := .data toQC) toQ_spec toQ_ok tbl_nil

@[simp] theorem toV3Tb1 : tbl toV3Tb 23 = some (.data toQC) := rfl
theorem toV3_spec {N : NR} : SpecD N Tryz.prog 8 toV3C := by
  refine rd1 (mf := fun f => false) toV3Tb_ok (fn := Tryz.f8) (by kernel_rfl) rfl (by kernel_rfl) (by kernel_rfl) ?_
  rintro ⟨⟨a, b⟩, ⟨c, d⟩, e, f⟩ hp
  have hp : True := hp
  show awp _ _ _ _ (start _ ([.agg [eQ a b, eQ c d, eQ e f]].map .dat) []) (endK _ _ _ (([.agg [eQ a b, eQ c d, eQ e f]]).map .dat) [])
  simp [-D.isLit, Tryz.f8]
theorem toV3_ok : callable Tryz.prog 8 = true := by kernel_rfl

/-! l.toPlane -/
noncomputable def toPlaneC := ct1 EPl (fun p0 => True) (fun p0 => [.agg [eQ p0.1.1 p0.1.2, eQ p0.2.1.1 p0.2.1.2, eQ p0.2.2.1.1 p0.2.2.1.2, eQ p0.2.2.2.1 p0.2.2.2.2]])
@[simp] theorem toPlaneC_at (a b c d e f g h : Int) : toPlaneC [.agg [eQ a b, eQ c d, eQ e f, eQ g h]] = (True, [.agg [eQ a b, eQ c d, eQ e f, eQ g h]]) := ct1_at ((a, b), (c, d), (e, f), g, h)
noncomputable def toPlaneTb : List (FuncId × Ct) := [(23, .data toQC)]
theorem toPlaneTb_ok {N : NR} : TbOK N Tryz.prog (tbl toPlaneTb) := tbl_cons (c := .data toQC) toQ_spec toQ_ok tbl_nil

@[simp] theorem toPlaneTb1 : tbl toPlaneTb 23 = some (.data toQC) := rfl
theorem toPlane_spec {N : NR} : SpecD N Tryz.prog 7 toPlaneC := by
  refine rd1 (mf := fun f => false) toPlaneTb_ok (fn := Tryz.f7) (by kernel_rfl) rfl (by kernel_rfl) (by kernel_rfl) ?_
  rintro ⟨⟨a, b⟩, ⟨c, d⟩, ⟨e, f⟩, g, h⟩ hp
  have hp : True := hp
  show awp _ _ _ _ (start _ ([.agg [eQ a b, eQ c d, eQ e f, eQ g h]].map .dat) []) (endK _ _ _ (([.agg [eQ a b, eQ c d, eQ e f, eQ g h]]).map .dat) [])
  simp [-D.isLit, Tryz.f7]
theorem toPlane_ok : callable Tryz.prog 7 = true := by kernel_rfl

/-! l.eqV3 -/
noncomputable def eqV3C := ct2 EV3 EV3 (fun p0 p1 => p0.1.1 = p1.1.1 ∧ p0.1.2 = p1.1.2 ∧ p0.2.1.1 = p1.2.1.1 ∧ p0.2.1.2 = p1.2.1.2 ∧ p0.2.2.1 = p1.2.2.1 ∧ p0.2.2.2 = p1.2.2.2) (fun p0 p1 => [.lit (.bool true)])
@[simp] theorem eqV3C_at (a b c d e f : Int) (g h i j k l : Int) : eqV3C [.agg [eQ a b, eQ c d, eQ e f], .agg [eQ g h, eQ i j, eQ k l]] = (a = g ∧ b = h ∧ c = i ∧ d = j ∧ e = k ∧ f = l, [.lit (.bool true)]) := ct2_at ((a, b), (c, d), e, f) ((g, h), (i, j), k, l)
noncomputable def eqV3Tb : List (FuncId × Ct) := [(34, .data eqQC)]
theorem eqV3Tb_ok {N : NR} : TbOK N Tryz.prog (tbl eqV3Tb) := tbl_cons (c := .data eqQC) eqQ_spec eqQ_ok tbl_nil

@[simp] theorem eqV3Tb1 : tbl eqV3Tb 34 = some (.data eqQC) := rfl
theorem eqV3_spec {N : NR} : SpecD N Tryz.prog 16 eqV3C := by
  refine rd2 (mf := fun f => false) eqV3Tb_ok (fn := Tryz.f16) (by kernel_rfl) rfl (by kernel_rfl) (by kernel_rfl) ?_
  rintro ⟨⟨a, b⟩, ⟨c, d⟩, e, f⟩ ⟨⟨g, h⟩, ⟨i, j⟩, k, l⟩ hp
  have hp : a = g ∧ b = h ∧ c = i ∧ d = j ∧ e = k ∧ f = l := hp
  show awp _ _ _ _ (start _ ([.agg [eQ a b, eQ c d, eQ e f], .agg [eQ g h, eQ i j, eQ k l]].map .dat) []) (endK _ _ _ (([.lit (.bool true)]).map .dat) [])
  simp [-D.isLit, Tryz.f16, hp]
theorem eqV3_ok : callable Tryz.prog 16 = true := by kernel_rfl

/-! l.eqPlane -/
noncomputable def eqPlC := ct2 EPl EPl (fun p0 p1 => p0.1.1 = p1.1.1 ∧ p0.1.2 = p1.1.2 ∧ p0.2.1.1 = p1.2.1.1 ∧ p0.2.1.2 = p1.2.1.2 ∧ p0.2.2.1.1 = p1.2.2.1.1 ∧ p0.2.2.1.2 = p1.2.2.1.2 ∧ p0.2.2.2.1 = p1.2.2.2.1 ∧ p0.2.2.2.2 = p1.2.2.2.2) (fun p0 p1 => [.lit (.bool true)])
@[simp] theorem eqPlC_at (a b c d e f g h : Int) (i j k l m n o p : Int) : eqPlC [.agg [eQ a b, eQ c d, eQ e f, eQ g h], .agg [eQ i j, eQ k l, eQ m n, eQ o p]] = (a = i ∧ b = j ∧ c = k ∧ d = l ∧ e = m ∧ f = n ∧ g = o ∧ h = p, [.lit (.bool true)]) := ct2_at ((a, b), (c, d), (e, f), g, h) ((i, j), (k, l), (m, n), o, p)
noncomputable def eqPlTb : List (FuncId × Ct) := [(34, .data eqQC)]
theorem eqPlTb_ok {N : NR} : TbOK N Tryz.prog (tbl eqPlTb) := tbl_cons (c := .data eqQC) eqQ_spec eqQ_ok tbl_nil

@[simp] theorem eqPlTb1 : tbl eqPlTb 34 = some (.data eqQC) := rfl
theorem eqPl_spec {N : NR} : SpecD N Tryz.prog 12 eqPlC := by
  refine rd2 (mf := fun f => false) eqPlTb_ok (fn := Tryz.f12) (by kernel_rfl) rfl (by kernel_rfl) (by kernel_rfl) ?_
  rintro ⟨⟨a, b⟩, ⟨c, d⟩, ⟨e, f⟩, g, h⟩ ⟨⟨i, j⟩, ⟨k, l⟩, ⟨m, n⟩, o, p⟩ hp
  have hp : a = i ∧ b = j ∧ c = k ∧ d = l ∧ e = m ∧ f = n ∧ g = o ∧ h = p := hp
  show awp _ _ _ _ (start _ ([.agg [eQ a b, eQ c d, eQ e f, eQ g h], .agg [eQ i j, eQ k l, eQ m n, eQ o p]].map .dat) []) (endK _ _ _ (([.lit (.bool true)]).map .dat) [])
  simp [-D.isLit, Tryz.f12, hp]
theorem eqPl_ok : callable Tryz.prog 12 = true := by kernel_rfl

/-! l.FnExactSide -/
noncomputable def lwSideC := ct2 EPl EV3 (fun p0 p1 => ((I64 p0.1.1 ∧ I64 p0.1.2) ∧ (I64 p0.2.1.1 ∧ I64 p0.2.1.2) ∧ (I64 p0.2.2.1.1 ∧ I64 p0.2.2.1.2) ∧ I64 p0.2.2.2.1 ∧ I64 p0.2.2.2.2) ∧ ((I64 p1.1.1 ∧ I64 p1.1.2) ∧ (I64 p1.2.1.1 ∧ I64 p1.2.1.2) ∧ I64 p1.2.2.1 ∧ I64 p1.2.2.2)) (fun p0 p1 => [.lit (.bool true)])
@[simp] theorem lwSideC_at (a b c d e f g h : Int) (i j k l m n : Int) : lwSideC [.agg [eQ a b, eQ c d, eQ e f, eQ g h], .agg [eQ i j, eQ k l, eQ m n]] = (((I64 a ∧ I64 b) ∧ (I64 c ∧ I64 d) ∧ (I64 e ∧ I64 f) ∧ I64 g ∧ I64 h) ∧ ((I64 i ∧ I64 j) ∧ (I64 k ∧ I64 l) ∧ I64 m ∧ I64 n), [.lit (.bool true)]) := ct2_at ((a, b), (c, d), (e, f), g, h) ((i, j), (k, l), m, n)
noncomputable def lwSideTb : List (FuncId × Ct) := [(7, .data toPlaneC), (8, .data toV3C), (9, .data iSideC), (6, .data sSideC)]
theorem lwSideTb_ok : TbOK NF Tryz.prog (tbl lwSideTb) := tbl_cons (c := .data toPlaneC) toPlane_spec toPlane_ok (tbl_cons (c := .data toV3C) toV3_spec toV3_ok (tbl_cons (c := .data iSideC) iSide_spec iSide_ok (tbl_cons (c := .data sSideC) sSide_spec sSide_ok tbl_nil)))

@[simp] theorem lwSideTb1 : tbl lwSideTb 7 = some (.data toPlaneC) := rfl
@[simp] theorem lwSideTb2 : tbl lwSideTb 8 = some (.data toV3C) := rfl
@[simp] theorem lwSideTb3 : tbl lwSideTb 9 = some (.data iSideC) := rfl
@[simp] theorem lwSideTb4 : tbl lwSideTb 6 = some (.data sSideC) := rfl
theorem lwSide_spec : SpecD NF Tryz.prog 3 lwSideC := by
  refine rd2 (mf := fun f => false) lwSideTb_ok (fn := Tryz.f3) (by kernel_rfl) rfl (by kernel_rfl) (by kernel_rfl) ?_
  rintro ⟨⟨a, b⟩, ⟨c, d⟩, ⟨e, f⟩, g, h⟩ ⟨⟨i, j⟩, ⟨k, l⟩, m, n⟩ hp
  have hp : ((I64 a ∧ I64 b) ∧ (I64 c ∧ I64 d) ∧ (I64 e ∧ I64 f) ∧ I64 g ∧ I64 h) ∧ ((I64 i ∧ I64 j) ∧ (I64 k ∧ I64 l) ∧ I64 m ∧ I64 n) := hp
  show awp _ _ _ _ (start _ ([.agg [eQ a b, eQ c d, eQ e f, eQ g h], .agg [eQ i j, eQ k l, eQ m n]].map .dat) []) (endK _ _ _ (([.lit (.bool true)]).map .dat) [])
  have hi := iSideC_at a b c d e f g h i j k l m n
  have hs := sSideC_at a b c d e f g h i j k l m n
  generalize hX : (if plOk a b c d e f g h ∧ v3Ok i j k l m n then (htQ (Rat.divInt a b) (Rat.divInt c d) (Rat.divInt e f) (Rat.divInt g h) (Rat.divInt i j) (Rat.divInt k l) (Rat.divInt m n)).num.sign else 2) = X at hi hs
  simp [-D.isLit, -iSideC_at, -sSideC_at, Tryz.f3, hp, hi, hs]
theorem lwSide_ok : callable Tryz.prog 3 = true := by kernel_rfl

/-! l.FnExactDrop -/
noncomputable def lwDropC := ct2 EPl EV3 (fun p0 p1 => ((I64 p0.1.1 ∧ I64 p0.1.2) ∧ (I64 p0.2.1.1 ∧ I64 p0.2.1.2) ∧ (I64 p0.2.2.1.1 ∧ I64 p0.2.2.1.2) ∧ I64 p0.2.2.2.1 ∧ I64 p0.2.2.2.2) ∧ ((I64 p1.1.1 ∧ I64 p1.1.2) ∧ (I64 p1.2.1.1 ∧ I64 p1.2.1.2) ∧ I64 p1.2.2.1 ∧ I64 p1.2.2.2)) (fun p0 p1 => [.lit (.bool true)])
@[simp] theorem lwDropC_at (a b c d e f g h : Int) (i j k l m n : Int) : lwDropC [.agg [eQ a b, eQ c d, eQ e f, eQ g h], .agg [eQ i j, eQ k l, eQ m n]] = (((I64 a ∧ I64 b) ∧ (I64 c ∧ I64 d) ∧ (I64 e ∧ I64 f) ∧ I64 g ∧ I64 h) ∧ ((I64 i ∧ I64 j) ∧ (I64 k ∧ I64 l) ∧ I64 m ∧ I64 n), [.lit (.bool true)]) := ct2_at ((a, b), (c, d), (e, f), g, h) ((i, j), (k, l), m, n)
noncomputable def lwDropTb : List (FuncId × Ct) := [(7, .data toPlaneC), (8, .data toV3C)]
theorem lwDropTb_ok : TbOK NF Tryz.prog (tbl lwDropTb) := tbl_cons (c := .data toPlaneC) toPlane_spec toPlane_ok (tbl_cons (c := .data toV3C) toV3_spec toV3_ok tbl_nil)

@[simp] theorem lwDropTb1 : tbl lwDropTb 7 = some (.data toPlaneC) := rfl
@[simp] theorem lwDropTb2 : tbl lwDropTb 8 = some (.data toV3C) := rfl
/-! l.FnExactLift -/
noncomputable def lwLiftC := ct2 EPl EV (fun p0 p1 => ((I64 p0.1.1 ∧ I64 p0.1.2) ∧ (I64 p0.2.1.1 ∧ I64 p0.2.1.2) ∧ (I64 p0.2.2.1.1 ∧ I64 p0.2.2.1.2) ∧ I64 p0.2.2.2.1 ∧ I64 p0.2.2.2.2) ∧ ((I64 p1.1.1 ∧ I64 p1.1.2) ∧ I64 p1.2.1 ∧ I64 p1.2.2)) (fun p0 p1 => [.lit (.bool true)])
@[simp] theorem lwLiftC_at (a b c d e f g h : Int) (i j k l : Int) : lwLiftC [.agg [eQ a b, eQ c d, eQ e f, eQ g h], .agg [eQ i j, eQ k l]] = (((I64 a ∧ I64 b) ∧ (I64 c ∧ I64 d) ∧ (I64 e ∧ I64 f) ∧ I64 g ∧ I64 h) ∧ ((I64 i ∧ I64 j) ∧ I64 k ∧ I64 l), [.lit (.bool true)]) := ct2_at ((a, b), (c, d), (e, f), g, h) ((i, j), k, l)
noncomputable def lwLiftTb : List (FuncId × Ct) := [(7, .data toPlaneC), (14, .data toVC), (16, .data eqV3C), (15, .data iLiftC), (13, .data sLiftC)]
theorem lwLiftTb_ok : TbOK NF Tryz.prog (tbl lwLiftTb) := tbl_cons (c := .data toPlaneC) toPlane_spec toPlane_ok (tbl_cons (c := .data toVC) toV_spec toV_ok (tbl_cons (c := .data eqV3C) eqV3_spec eqV3_ok (tbl_cons (c := .data iLiftC) iLift_spec iLift_ok (tbl_cons (c := .data sLiftC) sLift_spec sLift_ok tbl_nil))))

@[simp] theorem lwLiftTb1 : tbl lwLiftTb 7 = some (.data toPlaneC) := rfl
@[simp] theorem lwLiftTb2 : tbl lwLiftTb 14 = some (.data toVC) := rfl
@[simp] theorem lwLiftTb3 : tbl lwLiftTb 16 = some (.data eqV3C) := rfl
@[simp] theorem lwLiftTb4 : tbl lwLiftTb 15 = some (.data iLiftC) := rfl
@[simp] theorem lwLiftTb5 : tbl lwLiftTb 13 = some (.data sLiftC) := rfl
theorem lwLift_spec : SpecD NF Tryz.prog 5 lwLiftC := by
  refine rd2 (mf := fun f => false) lwLiftTb_ok (fn := Tryz.f5) (by kernel_rfl) rfl (by kernel_rfl) (by kernel_rfl) ?_
  rintro ⟨⟨a, b⟩, ⟨c, d⟩, ⟨e, f⟩, g, h⟩ ⟨⟨i, j⟩, k, l⟩ hp
  have hp : ((I64 a ∧ I64 b) ∧ (I64 c ∧ I64 d) ∧ (I64 e ∧ I64 f) ∧ I64 g ∧ I64 h) ∧ ((I64 i ∧ I64 j) ∧ I64 k ∧ I64 l) := hp
  show awp _ _ _ _ (start _ ([.agg [eQ a b, eQ c d, eQ e f, eQ g h], .agg [eQ i j, eQ k l]].map .dat) []) (endK _ _ _ (([.lit (.bool true)]).map .dat) [])
  have hi := iLiftC_at a b c d e f g h i j k l
  have hs := sLiftC_at a b c d e f g h i j k l
  generalize hX : (if plOk a b c d e f g h ∧ (qOk i j ∧ qOk k l) then oV3 (lftQ (Rat.divInt a b) (Rat.divInt c d) (Rat.divInt e f) (Rat.divInt g h) (Rat.divInt i j) (Rat.divInt k l)).1 (lftQ (Rat.divInt a b) (Rat.divInt c d) (Rat.divInt e f) (Rat.divInt g h) (Rat.divInt i j) (Rat.divInt k l)).2.1 (lftQ (Rat.divInt a b) (Rat.divInt c d) (Rat.divInt e f) (Rat.divInt g h) (Rat.divInt i j) (Rat.divInt k l)).2.2 else ((0, 0), (0, 0), (0, 0), false)) = X at hi hs
  simp [-D.isLit, -iLiftC_at, -sLiftC_at, Tryz.f5, hp, hi, hs, v3T]
theorem lwLift_ok : callable Tryz.prog 5 = true := by kernel_rfl

/-! l.FnExactPlaneOf -/
noncomputable def lwPlaneOfC := ct3 EV3 EV3 EV3 (fun p0 p1 p2 => ((I64 p0.1.1 ∧ I64 p0.1.2) ∧ (I64 p0.2.1.1 ∧ I64 p0.2.1.2) ∧ I64 p0.2.2.1 ∧ I64 p0.2.2.2) ∧ ((I64 p1.1.1 ∧ I64 p1.1.2) ∧ (I64 p1.2.1.1 ∧ I64 p1.2.1.2) ∧ I64 p1.2.2.1 ∧ I64 p1.2.2.2) ∧ ((I64 p2.1.1 ∧ I64 p2.1.2) ∧ (I64 p2.2.1.1 ∧ I64 p2.2.1.2) ∧ I64 p2.2.2.1 ∧ I64 p2.2.2.2)) (fun p0 p1 p2 => [.lit (.bool true)])
@[simp] theorem lwPlaneOfC_at (a b c d e f : Int) (g h i j k l : Int) (m n o p q r : Int) : lwPlaneOfC [.agg [eQ a b, eQ c d, eQ e f], .agg [eQ g h, eQ i j, eQ k l], .agg [eQ m n, eQ o p, eQ q r]] = (((I64 a ∧ I64 b) ∧ (I64 c ∧ I64 d) ∧ I64 e ∧ I64 f) ∧ ((I64 g ∧ I64 h) ∧ (I64 i ∧ I64 j) ∧ I64 k ∧ I64 l) ∧ ((I64 m ∧ I64 n) ∧ (I64 o ∧ I64 p) ∧ I64 q ∧ I64 r), [.lit (.bool true)]) := ct3_at ((a, b), (c, d), e, f) ((g, h), (i, j), k, l) ((m, n), (o, p), q, r)
noncomputable def lwPlaneOfTb : List (FuncId × Ct) := [(8, .data toV3C), (12, .data eqPlC), (11, .data iPlaneOfC), (10, .data sPlaneOfC)]
theorem lwPlaneOfTb_ok : TbOK NF Tryz.prog (tbl lwPlaneOfTb) := tbl_cons (c := .data toV3C) toV3_spec toV3_ok (tbl_cons (c := .data eqPlC) eqPl_spec eqPl_ok (tbl_cons (c := .data iPlaneOfC) iPlaneOf_spec iPlaneOf_ok (tbl_cons (c := .data sPlaneOfC) sPlaneOf_spec sPlaneOf_ok tbl_nil)))

@[simp] theorem lwPlaneOfTb1 : tbl lwPlaneOfTb 8 = some (.data toV3C) := rfl
@[simp] theorem lwPlaneOfTb2 : tbl lwPlaneOfTb 12 = some (.data eqPlC) := rfl
@[simp] theorem lwPlaneOfTb3 : tbl lwPlaneOfTb 11 = some (.data iPlaneOfC) := rfl
@[simp] theorem lwPlaneOfTb4 : tbl lwPlaneOfTb 10 = some (.data sPlaneOfC) := rfl
theorem lwPlaneOf_spec : SpecD NF Tryz.prog 4 lwPlaneOfC := by
  refine rd3 (mf := fun f => false) lwPlaneOfTb_ok (fn := Tryz.f4) (by kernel_rfl) rfl (by kernel_rfl) (by kernel_rfl) ?_
  rintro ⟨⟨a, b⟩, ⟨c, d⟩, e, f⟩ ⟨⟨g, h⟩, ⟨i, j⟩, k, l⟩ ⟨⟨m, n⟩, ⟨o, p⟩, q, r⟩ hp
  have hp : ((I64 a ∧ I64 b) ∧ (I64 c ∧ I64 d) ∧ I64 e ∧ I64 f) ∧ ((I64 g ∧ I64 h) ∧ (I64 i ∧ I64 j) ∧ I64 k ∧ I64 l) ∧ ((I64 m ∧ I64 n) ∧ (I64 o ∧ I64 p) ∧ I64 q ∧ I64 r) := hp
  show awp _ _ _ _ (start _ ([.agg [eQ a b, eQ c d, eQ e f], .agg [eQ g h, eQ i j, eQ k l], .agg [eQ m n, eQ o p, eQ q r]].map .dat) []) (endK _ _ _ (([.lit (.bool true)]).map .dat) [])
  have hi := iPlaneOfC_at a b c d e f g h i j k l m n o p q r
  have hs := sPlaneOfC_at a b c d e f g h i j k l m n o p q r
  generalize hX : (tldO (if v3Ok a b c d e f ∧ v3Ok g h i j k l ∧ v3Ok m n o p q r then throQ (Rat.divInt a b) (Rat.divInt c d) (Rat.divInt e f) (Rat.divInt g h) (Rat.divInt i j) (Rat.divInt k l) (Rat.divInt m n) (Rat.divInt o p) (Rat.divInt q r) else none)) = X at hi hs
  simp [-D.isLit, -iPlaneOfC_at, -sPlaneOfC_at, Tryz.f4, hp, hi, hs, plT]
theorem lwPlaneOf_ok : callable Tryz.prog 4 = true := by kernel_rfl
theorem lwSide_calls (a b c d e f g h i j k l m n : Int) (ha : (Lit.int .i64 a).wf = true) (hb : (Lit.int .i64 b).wf = true) (hc : (Lit.int .i64 c).wf = true) (hd : (Lit.int .i64 d).wf = true) (he : (Lit.int .i64 e).wf = true) (hf : (Lit.int .i64 f).wf = true) (hg : (Lit.int .i64 g).wf = true) (hh : (Lit.int .i64 h).wf = true) (hi : (Lit.int .i64 i).wf = true) (hj : (Lit.int .i64 j).wf = true) (hk : (Lit.int .i64 k).wf = true) (hl : (Lit.int .i64 l).wf = true) (hm : (Lit.int .i64 m).wf = true) (hn : (Lit.int .i64 n).wf = true) (w : World) :
    Calls Tryz.prog 3 #[.agg #[.int .i64 a, .int .i64 b, .int .i64 c, .int .i64 d, .int .i64 e, .int .i64 f, .int .i64 g, .int .i64 h], .agg #[.int .i64 i, .int .i64 j, .int .i64 k, .int .i64 l, .int .i64 m, .int .i64 n]] w fun e w' => e = .returned (.bool true) ∧ Below w.heap.size w w' :=
  law_calls lwSide_spec (ds := [.agg [eQ a b, eQ c d, eQ e f, eQ g h], .agg [eQ i j, eQ k l, eQ m n]]) (by rw [lwSideC_at]; exact ⟨⟨⟨wf64 ha, wf64 hb⟩, ⟨wf64 hc, wf64 hd⟩, ⟨wf64 he, wf64 hf⟩, wf64 hg, wf64 hh⟩, ⟨⟨wf64 hi, wf64 hj⟩, ⟨wf64 hk, wf64 hl⟩, wf64 hm, wf64 hn⟩⟩) (by rw [lwSideC_at]; rfl) (vs := [.agg #[.int .i64 a, .int .i64 b, .int .i64 c, .int .i64 d, .int .i64 e, .int .i64 f, .int .i64 g, .int .i64 h], .agg #[.int .i64 i, .int .i64 j, .int .i64 k, .int .i64 l, .int .i64 m, .int .i64 n]]) (repVs_cons (repV_flat (cs := [.int .i64 a, .int .i64 b, .int .i64 c, .int .i64 d, .int .i64 e, .int .i64 f, .int .i64 g, .int .i64 h]) rfl (fun v hv => by simp at hv; rcases hv with rfl | rfl | rfl | rfl | rfl | rfl | rfl | rfl <;> rfl) rfl) (repVs_cons (repV_flat (cs := [.int .i64 i, .int .i64 j, .int .i64 k, .int .i64 l, .int .i64 m, .int .i64 n]) rfl (fun v hv => by simp at hv; rcases hv with rfl | rfl | rfl | rfl | rfl | rfl <;> rfl) rfl) repVs_nil))
theorem lwLift_calls (a b c d e f g h i j k l : Int) (ha : (Lit.int .i64 a).wf = true) (hb : (Lit.int .i64 b).wf = true) (hc : (Lit.int .i64 c).wf = true) (hd : (Lit.int .i64 d).wf = true) (he : (Lit.int .i64 e).wf = true) (hf : (Lit.int .i64 f).wf = true) (hg : (Lit.int .i64 g).wf = true) (hh : (Lit.int .i64 h).wf = true) (hi : (Lit.int .i64 i).wf = true) (hj : (Lit.int .i64 j).wf = true) (hk : (Lit.int .i64 k).wf = true) (hl : (Lit.int .i64 l).wf = true) (w : World) :
    Calls Tryz.prog 5 #[.agg #[.int .i64 a, .int .i64 b, .int .i64 c, .int .i64 d, .int .i64 e, .int .i64 f, .int .i64 g, .int .i64 h], .agg #[.int .i64 i, .int .i64 j, .int .i64 k, .int .i64 l]] w fun e w' => e = .returned (.bool true) ∧ Below w.heap.size w w' :=
  law_calls lwLift_spec (ds := [.agg [eQ a b, eQ c d, eQ e f, eQ g h], .agg [eQ i j, eQ k l]]) (by rw [lwLiftC_at]; exact ⟨⟨⟨wf64 ha, wf64 hb⟩, ⟨wf64 hc, wf64 hd⟩, ⟨wf64 he, wf64 hf⟩, wf64 hg, wf64 hh⟩, ⟨⟨wf64 hi, wf64 hj⟩, wf64 hk, wf64 hl⟩⟩) (by rw [lwLiftC_at]; rfl) (vs := [.agg #[.int .i64 a, .int .i64 b, .int .i64 c, .int .i64 d, .int .i64 e, .int .i64 f, .int .i64 g, .int .i64 h], .agg #[.int .i64 i, .int .i64 j, .int .i64 k, .int .i64 l]]) (repVs_cons (repV_flat (cs := [.int .i64 a, .int .i64 b, .int .i64 c, .int .i64 d, .int .i64 e, .int .i64 f, .int .i64 g, .int .i64 h]) rfl (fun v hv => by simp at hv; rcases hv with rfl | rfl | rfl | rfl | rfl | rfl | rfl | rfl <;> rfl) rfl) (repVs_cons (repV_flat (cs := [.int .i64 i, .int .i64 j, .int .i64 k, .int .i64 l]) rfl (fun v hv => by simp at hv; rcases hv with rfl | rfl | rfl | rfl <;> rfl) rfl) repVs_nil))
theorem lwPlaneOf_calls (a b c d e f g h i j k l m n o p q r : Int) (ha : (Lit.int .i64 a).wf = true) (hb : (Lit.int .i64 b).wf = true) (hc : (Lit.int .i64 c).wf = true) (hd : (Lit.int .i64 d).wf = true) (he : (Lit.int .i64 e).wf = true) (hf : (Lit.int .i64 f).wf = true) (hg : (Lit.int .i64 g).wf = true) (hh : (Lit.int .i64 h).wf = true) (hi : (Lit.int .i64 i).wf = true) (hj : (Lit.int .i64 j).wf = true) (hk : (Lit.int .i64 k).wf = true) (hl : (Lit.int .i64 l).wf = true) (hm : (Lit.int .i64 m).wf = true) (hn : (Lit.int .i64 n).wf = true) (ho : (Lit.int .i64 o).wf = true) (hp : (Lit.int .i64 p).wf = true) (hq : (Lit.int .i64 q).wf = true) (hr : (Lit.int .i64 r).wf = true) (w : World) :
    Calls Tryz.prog 4 #[.agg #[.int .i64 a, .int .i64 b, .int .i64 c, .int .i64 d, .int .i64 e, .int .i64 f], .agg #[.int .i64 g, .int .i64 h, .int .i64 i, .int .i64 j, .int .i64 k, .int .i64 l], .agg #[.int .i64 m, .int .i64 n, .int .i64 o, .int .i64 p, .int .i64 q, .int .i64 r]] w fun e w' => e = .returned (.bool true) ∧ Below w.heap.size w w' :=
  law_calls lwPlaneOf_spec (ds := [.agg [eQ a b, eQ c d, eQ e f], .agg [eQ g h, eQ i j, eQ k l], .agg [eQ m n, eQ o p, eQ q r]]) (by rw [lwPlaneOfC_at]; exact ⟨⟨⟨wf64 ha, wf64 hb⟩, ⟨wf64 hc, wf64 hd⟩, wf64 he, wf64 hf⟩, ⟨⟨wf64 hg, wf64 hh⟩, ⟨wf64 hi, wf64 hj⟩, wf64 hk, wf64 hl⟩, ⟨⟨wf64 hm, wf64 hn⟩, ⟨wf64 ho, wf64 hp⟩, wf64 hq, wf64 hr⟩⟩) (by rw [lwPlaneOfC_at]; rfl) (vs := [.agg #[.int .i64 a, .int .i64 b, .int .i64 c, .int .i64 d, .int .i64 e, .int .i64 f], .agg #[.int .i64 g, .int .i64 h, .int .i64 i, .int .i64 j, .int .i64 k, .int .i64 l], .agg #[.int .i64 m, .int .i64 n, .int .i64 o, .int .i64 p, .int .i64 q, .int .i64 r]]) (repVs_cons (repV_flat (cs := [.int .i64 a, .int .i64 b, .int .i64 c, .int .i64 d, .int .i64 e, .int .i64 f]) rfl (fun v hv => by simp at hv; rcases hv with rfl | rfl | rfl | rfl | rfl | rfl <;> rfl) rfl) (repVs_cons (repV_flat (cs := [.int .i64 g, .int .i64 h, .int .i64 i, .int .i64 j, .int .i64 k, .int .i64 l]) rfl (fun v hv => by simp at hv; rcases hv with rfl | rfl | rfl | rfl | rfl | rfl <;> rfl) rfl) (repVs_cons (repV_flat (cs := [.int .i64 m, .int .i64 n, .int .i64 o, .int .i64 p, .int .i64 q, .int .i64 r]) rfl (fun v hv => by simp at hv; rcases hv with rfl | rfl | rfl | rfl | rfl | rfl <;> rfl) rfl) repVs_nil)))
end Go.Proofs.YtmnplonkijkblaaGreat.Ae
