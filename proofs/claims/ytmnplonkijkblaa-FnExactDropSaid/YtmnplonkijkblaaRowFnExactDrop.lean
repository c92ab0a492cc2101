/- The law FnExactDrop holds of the given program: for every input the law's function returns true and leaves its arguments as they were. No condition. -/
import Derived.Test.YtmnplonkijkblaaRows
import Derived.Test.YtmnplonkijkblaaZ4
import Derived.WalkKit
import Derived.ProofKit
import Derived.OpenShut
import Derived.ShutString
import Derived.ChangeOld
import Derived.Below
import Derived.SizedLaws
namespace Go.Proofs.Ytmnplonkijkblaa.fnExactDrop
open Go.ChangeShapes Go.WideShapes Go.ChangeAt Go.RowKit
open Go.ChangeMaps (open_string shut_string)
set_option linter.unusedVariables false
theorem own : ownKnob Try.prog.godebug = none := by kernel_rfl
theorem laidOut : laidOutB Try.prog = true := by kernel_rfl
theorem cells_23_0 : Try.prog.cellsOf 2 = 1 := by kernel_rfl
theorem cells_23_1 : Try.prog.cellsOf 2 = 1 := by kernel_rfl
theorem cells_23 : Try.prog.cellsOf 23 = 2 := by kernel_rfl
theorem len_23 {α : Type} (l : List α) (h : l.length = 2) : ∃ c0 c1, l = [c0, c1] := by
  match l, h with
  | [c0, c1], _ => exact ⟨c0, c1, rfl⟩
theorem open_23 {H : Type} {enc : TypeId × Value → H} {w : World} {base : Nat} {sp : Nat → Bool} {held : Bool} {n : Nat} {cs : List Value} {x : DataW H × List MemPlace} (h : DataW.trod enc Try.prog w base sp held n 23 cs = some x) :
    ∃ (a0 : Int) (a1 : Int), cs = [.int .i64 a0, .int .i64 a1] ∧ (Lit.int .i64 a0).wf = true ∧ (Lit.int .i64 a1).wf = true := by
  obtain ⟨xs, m, _, _, hl, hlen, hf⟩ := DataW.trod_struct Try.underlying23 h
  have hl' : cs.length = 2 := hl.trans cells_23
  clear hl
  obtain ⟨c0, c1, rfl⟩ := len_23 cs hl'
  clear hl'
  obtain ⟨y0, e0⟩ : ∃ y, xs[0]? = some y := ⟨_, List.getElem?_eq_getElem (by rw [hlen]; decide)⟩
  have g0 : DataW.trod enc Try.prog w base sp held m 2 [c0] = some y0 := by
    have z : DataW.trod enc Try.prog w base sp held m 2 (([c0, c1].drop 0).take (Try.prog.cellsOf 2)) = xs[0]? := hf 0 _ rfl
    rw [e0, cells_23_0] at z
    exact z
  obtain ⟨y1, e1⟩ : ∃ y, xs[1]? = some y := ⟨_, List.getElem?_eq_getElem (by rw [hlen]; decide)⟩
  have g1 : DataW.trod enc Try.prog w base sp held m 2 [c1] = some y1 := by
    have z : DataW.trod enc Try.prog w base sp held m 2 (([c0, c1].drop 1).take (Try.prog.cellsOf 2)) = xs[1]? := hf 1 _ rfl
    rw [e1, cells_23_1] at z
    exact z
  obtain ⟨b0, q0, _, v0⟩ := DataW.trod_int Try.underlying2 g0
  simp only [List.cons.injEq, and_true] at q0
  subst q0
  obtain ⟨b1, q1, _, v1⟩ := DataW.trod_int Try.underlying2 g1
  simp only [List.cons.injEq, and_true] at q1
  subst q1
  exact ⟨b0, b1, rfl, v0, v1⟩
theorem cells_25_0 : Try.prog.cellsOf 23 = 2 := by kernel_rfl
theorem cells_25_2 : Try.prog.cellsOf 23 = 2 := by kernel_rfl
theorem cells_25_4 : Try.prog.cellsOf 23 = 2 := by kernel_rfl
theorem cells_25_6 : Try.prog.cellsOf 23 = 2 := by kernel_rfl
theorem cells_25 : Try.prog.cellsOf 25 = 8 := by kernel_rfl
theorem len_25 {α : Type} (l : List α) (h : l.length = 8) : ∃ c0 c1 c2 c3 c4 c5 c6 c7, l = [c0, c1, c2, c3, c4, c5, c6, c7] := by
  match l, h with
  | [c0, c1, c2, c3, c4, c5, c6, c7], _ => exact ⟨c0, c1, c2, c3, c4, c5, c6, c7, rfl⟩
theorem open_25 {H : Type} {enc : TypeId × Value → H} {w : World} {base : Nat} {sp : Nat → Bool} {held : Bool} {n : Nat} {cs : List Value} {x : DataW H × List MemPlace} (h : DataW.trod enc Try.prog w base sp held n 25 cs = some x) :
    ∃ (a0 : Int) (a1 : Int) (a2 : Int) (a3 : Int) (a4 : Int) (a5 : Int) (a6 : Int) (a7 : Int), cs = [.int .i64 a0, .int .i64 a1, .int .i64 a2, .int .i64 a3, .int .i64 a4, .int .i64 a5, .int .i64 a6, .int .i64 a7] ∧ (Lit.int .i64 a0).wf = true ∧ (Lit.int .i64 a1).wf = true ∧ (Lit.int .i64 a2).wf = true ∧ (Lit.int .i64 a3).wf = true ∧ (Lit.int .i64 a4).wf = true ∧ (Lit.int .i64 a5).wf = true ∧ (Lit.int .i64 a6).wf = true ∧ (Lit.int .i64 a7).wf = true := by
  obtain ⟨xs, m, _, _, hl, hlen, hf⟩ := DataW.trod_struct Try.underlying25 h
  have hl' : cs.length = 8 := hl.trans cells_25
  clear hl
  obtain ⟨c0, c1, c2, c3, c4, c5, c6, c7, rfl⟩ := len_25 cs hl'
  clear hl'
  obtain ⟨y0, e0⟩ : ∃ y, xs[0]? = some y := ⟨_, List.getElem?_eq_getElem (by rw [hlen]; decide)⟩
  have g0 : DataW.trod enc Try.prog w base sp held m 23 [c0, c1] = some y0 := by
    have z : DataW.trod enc Try.prog w base sp held m 23 (([c0, c1, c2, c3, c4, c5, c6, c7].drop 0).take (Try.prog.cellsOf 23)) = xs[0]? := hf 0 _ rfl
    rw [e0, cells_25_0] at z
    exact z
  obtain ⟨y1, e1⟩ : ∃ y, xs[1]? = some y := ⟨_, List.getElem?_eq_getElem (by rw [hlen]; decide)⟩
  have g1 : DataW.trod enc Try.prog w base sp held m 23 [c2, c3] = some y1 := by
    have z : DataW.trod enc Try.prog w base sp held m 23 (([c0, c1, c2, c3, c4, c5, c6, c7].drop 2).take (Try.prog.cellsOf 23)) = xs[1]? := hf 1 _ rfl
    rw [e1, cells_25_2] at z
    exact z
  obtain ⟨y2, e2⟩ : ∃ y, xs[2]? = some y := ⟨_, List.getElem?_eq_getElem (by rw [hlen]; decide)⟩
  have g2 : DataW.trod enc Try.prog w base sp held m 23 [c4, c5] = some y2 := by
    have z : DataW.trod enc Try.prog w base sp held m 23 (([c0, c1, c2, c3, c4, c5, c6, c7].drop 4).take (Try.prog.cellsOf 23)) = xs[2]? := hf 2 _ rfl
    rw [e2, cells_25_4] at z
    exact z
  obtain ⟨y3, e3⟩ : ∃ y, xs[3]? = some y := ⟨_, List.getElem?_eq_getElem (by rw [hlen]; decide)⟩
  have g3 : DataW.trod enc Try.prog w base sp held m 23 [c6, c7] = some y3 := by
    have z : DataW.trod enc Try.prog w base sp held m 23 (([c0, c1, c2, c3, c4, c5, c6, c7].drop 6).take (Try.prog.cellsOf 23)) = xs[3]? := hf 3 _ rfl
    rw [e3, cells_25_6] at z
    exact z
  obtain ⟨b0, b1, q0, v0, v1⟩ := open_23 g0
  simp only [List.cons.injEq, and_true] at q0
  obtain ⟨rfl, rfl⟩ := q0
  obtain ⟨b2, b3, q1, v2, v3⟩ := open_23 g1
  simp only [List.cons.injEq, and_true] at q1
  obtain ⟨rfl, rfl⟩ := q1
  obtain ⟨b4, b5, q2, v4, v5⟩ := open_23 g2
  simp only [List.cons.injEq, and_true] at q2
  obtain ⟨rfl, rfl⟩ := q2
  obtain ⟨b6, b7, q3, v6, v7⟩ := open_23 g3
  simp only [List.cons.injEq, and_true] at q3
  obtain ⟨rfl, rfl⟩ := q3
  exact ⟨b0, b1, b2, b3, b4, b5, b6, b7, rfl, v0, v1, v2, v3, v4, v5, v6, v7⟩
theorem cells_27_0 : Try.prog.cellsOf 23 = 2 := by kernel_rfl
theorem cells_27_2 : Try.prog.cellsOf 23 = 2 := by kernel_rfl
theorem cells_27_4 : Try.prog.cellsOf 23 = 2 := by kernel_rfl
theorem cells_27 : Try.prog.cellsOf 27 = 6 := by kernel_rfl
theorem len_27 {α : Type} (l : List α) (h : l.length = 6) : ∃ c0 c1 c2 c3 c4 c5, l = [c0, c1, c2, c3, c4, c5] := by
  match l, h with
  | [c0, c1, c2, c3, c4, c5], _ => exact ⟨c0, c1, c2, c3, c4, c5, rfl⟩
theorem open_27 {H : Type} {enc : TypeId × Value → H} {w : World} {base : Nat} {sp : Nat → Bool} {held : Bool} {n : Nat} {cs : List Value} {x : DataW H × List MemPlace} (h : DataW.trod enc Try.prog w base sp held n 27 cs = some x) :
    ∃ (a0 : Int) (a1 : Int) (a2 : Int) (a3 : Int) (a4 : Int) (a5 : Int), cs = [.int .i64 a0, .int .i64 a1, .int .i64 a2, .int .i64 a3, .int .i64 a4, .int .i64 a5] ∧ (Lit.int .i64 a0).wf = true ∧ (Lit.int .i64 a1).wf = true ∧ (Lit.int .i64 a2).wf = true ∧ (Lit.int .i64 a3).wf = true ∧ (Lit.int .i64 a4).wf = true ∧ (Lit.int .i64 a5).wf = true := by
  obtain ⟨xs, m, _, _, hl, hlen, hf⟩ := DataW.trod_struct Try.underlying27 h
  have hl' : cs.length = 6 := hl.trans cells_27
  clear hl
  obtain ⟨c0, c1, c2, c3, c4, c5, rfl⟩ := len_27 cs hl'
  clear hl'
  obtain ⟨y0, e0⟩ : ∃ y, xs[0]? = some y := ⟨_, List.getElem?_eq_getElem (by rw [hlen]; decide)⟩
  have g0 : DataW.trod enc Try.prog w base sp held m 23 [c0, c1] = some y0 := by
    have z : DataW.trod enc Try.prog w base sp held m 23 (([c0, c1, c2, c3, c4, c5].drop 0).take (Try.prog.cellsOf 23)) = xs[0]? := hf 0 _ rfl
    rw [e0, cells_27_0] at z
    exact z
  obtain ⟨y1, e1⟩ : ∃ y, xs[1]? = some y := ⟨_, List.getElem?_eq_getElem (by rw [hlen]; decide)⟩
  have g1 : DataW.trod enc Try.prog w base sp held m 23 [c2, c3] = some y1 := by
    have z : DataW.trod enc Try.prog w base sp held m 23 (([c0, c1, c2, c3, c4, c5].drop 2).take (Try.prog.cellsOf 23)) = xs[1]? := hf 1 _ rfl
    rw [e1, cells_27_2] at z
    exact z
  obtain ⟨y2, e2⟩ : ∃ y, xs[2]? = some y := ⟨_, List.getElem?_eq_getElem (by rw [hlen]; decide)⟩
  have g2 : DataW.trod enc Try.prog w base sp held m 23 [c4, c5] = some y2 := by
    have z : DataW.trod enc Try.prog w base sp held m 23 (([c0, c1, c2, c3, c4, c5].drop 4).take (Try.prog.cellsOf 23)) = xs[2]? := hf 2 _ rfl
    rw [e2, cells_27_4] at z
    exact z
  obtain ⟨b0, b1, q0, v0, v1⟩ := open_23 g0
  simp only [List.cons.injEq, and_true] at q0
  obtain ⟨rfl, rfl⟩ := q0
  obtain ⟨b2, b3, q1, v2, v3⟩ := open_23 g1
  simp only [List.cons.injEq, and_true] at q1
  obtain ⟨rfl, rfl⟩ := q1
  obtain ⟨b4, b5, q2, v4, v5⟩ := open_23 g2
  simp only [List.cons.injEq, and_true] at q2
  obtain ⟨rfl, rfl⟩ := q2
  exact ⟨b0, b1, b2, b3, b4, b5, rfl, v0, v1, v2, v3, v4, v5⟩
set_option maxRecDepth 100000 in
theorem lifted (os : Os) (started : os.Started) (H : Type) (enc : TypeId × Value → H) :
    ReturnsInHanded {} Try.checked os 3 .any (Rows.fnExactDropSpec.pre6 enc Try.prog Try.f3 Rows.fnExactDropRow.domain false) (Rows.fnExactDropSpec.post enc Try.prog Try.f3 false true false false) := by
  refine returnsInHanded_of_change_sized (C := Try.checked) own started (by kernel_rfl) Try.func3
    (ChangeSpec.witness6 (enc := enc) (C := Try.checked) false ⟨#[], #[.agg #[.int .i64 0, .int .i64 0, .int .i64 0, .int .i64 0, .int .i64 0, .int .i64 0, .int .i64 0, .int .i64 0], .agg #[.int .i64 0, .int .i64 0, .int .i64 0, .int .i64 0, .int .i64 0, .int .i64 0]], []⟩ 8 (by kernel_rfl) (by kernel_rfl) (by kernel_rfl) (by kernel_rfl)) ?_
  intro W base args ds gs before hval0 hW hcnd hsz0 _
  have hsz : (DataW.weightsEach Try.prog (Try.f3.params.toList ++ Rows.fnExactDropSpec.plain.varTypes Try.prog) (ds ++ gs)).all (· ≤ reachBytes) = true := hsz0
  have hval : ∀ (j : Nat) t v, Try.f3.params[j]? = some t → args[j]? = some v → Value.okWide Try.prog W .any base t v := hval0
  have hW' := hW
  obtain ⟨p, q, hA0, hV, rfl, hfz, hnd⟩ := hW
  have hA : DataW.TrodAll enc Try.prog W 0 (fun _ => true) true Try.f3.params.toList args.toList ds p := hA0
  rw [Try.params3] at hA hval hsz
  obtain ⟨v0, vs0, d0, ds0, p0, q0, hargs, rfl, rfl, h0, r0⟩ := trodAll_cons hA
  obtain ⟨v1, vs1, d1, ds1, p1, q1, rfl, rfl, rfl, h1, r1⟩ := trodAll_cons r0
  obtain ⟨rfl, rfl, rfl⟩ := trodAll_nil r1
  obtain rfl : args = #[v0, v1] := by cases args; simp_all
  obtain ⟨rfl, rfl⟩ := trodVars_none hV
  have k0 := h0
  have lt0 : ∀ x ∈ p0, x.block < W.heap.size := by obtain ⟨m, hm⟩ := k0; exact DataW.trod_lt m _ _ _ hm
  obtain ⟨cs0, rfl, hz0⟩ := okWide_struct Try.underlying25 (hval 0 25 v0 rfl rfl)
  obtain ⟨fu0, hf0⟩ := h0
  obtain ⟨a0_0, a0_1, a0_2, a0_3, a0_4, a0_5, a0_6, a0_7, hq0, w0_0, w0_1, w0_2, w0_3, w0_4, w0_5, w0_6, w0_7⟩ := open_25 hf0
  obtain rfl : cs0 = #[.int .i64 a0_0, .int .i64 a0_1, .int .i64 a0_2, .int .i64 a0_3, .int .i64 a0_4, .int .i64 a0_5, .int .i64 a0_6, .int .i64 a0_7] := Array.ext' (by simpa [Value.cells] using hq0)
  have k1 := h1
  have lt1 : ∀ x ∈ p1, x.block < W.heap.size := by obtain ⟨m, hm⟩ := k1; exact DataW.trod_lt m _ _ _ hm
  obtain ⟨cs1, rfl, hz1⟩ := okWide_struct Try.underlying27 (hval 1 27 v1 rfl rfl)
  obtain ⟨fu1, hf1⟩ := h1
  obtain ⟨a1_0, a1_1, a1_2, a1_3, a1_4, a1_5, hq1, w1_0, w1_1, w1_2, w1_3, w1_4, w1_5⟩ := open_27 hf1
  obtain rfl : cs1 = #[.int .i64 a1_0, .int .i64 a1_1, .int .i64 a1_2, .int .i64 a1_3, .int .i64 a1_4, .int .i64 a1_5] := Array.ext' (by simpa [Value.cells] using hq1)
  clear hA0 hval0 hsz0 hsz
  refine (Go.Proofs.Ytmnplonkijkblaa.Ae.lwDrop_calls a0_0 a0_1 a0_2 a0_3 a0_4 a0_5 a0_6 a0_7 a1_0 a1_1 a1_2 a1_3 a1_4 a1_5 w0_0 w0_1 w0_2 w0_3 w0_4 w0_5 w0_6 w0_7 w1_0 w1_1 w1_2 w1_3 w1_4 w1_5 W).mono fun e W' ⟨he, bel⟩ => ?_
  subst he
  exact ⟨_, rfl, _, _, _, [], _, [], hW', trodAll_mk1 (shut_bool Try.underlying4 _), (trodAll_cons_mk (Below.trod laidOut (by kernel_rfl) (of_decide_eq_true (by kernel_rfl)) k0 bel lt0) (trodAll_cons_mk (Below.trod laidOut (by kernel_rfl) (of_decide_eq_true (by kernel_rfl)) k1 bel lt1) trodAll_mk0)), rfl, bel.frame _, fun h => by cases h⟩
theorem over : Rows.fnExactDropRow.holds Try.pinned (OpenSpec.ofChange Rows.fnExactDropSpec) :=
  OpenClaim.holds_of_wide 3 Try.f3 rfl rfl rfl rfl rfl rfl rfl ⟨rfl, rfl, rfl, rfl, rfl⟩ rfl rfl rfl rfl rfl (by kernel_rfl) Try.func3 (by kernel_rfl)
    (of_decide_eq_true (by kernel_rfl)) (by unfold Func.isWrapper; first | (rw [if_pos (by decide +kernel)]; kernel_rfl) | (rw [if_neg (by decide +kernel)]; exact ⟨rfl, rfl⟩))
    (fun os started H enc _ => lifted os started H enc)
theorem proved : Rows.FnExactDropSaid := over
#print axioms proved
end Go.Proofs.Ytmnplonkijkblaa.fnExactDrop
namespace Go.Proofs.Ytmnplonkijkblaa
/-- The row, under a short name, for the claim. -/
theorem fnExactDrop_holds : Rows.FnExactDropSaid := fnExactDrop.proved
end Go.Proofs.Ytmnplonkijkblaa
