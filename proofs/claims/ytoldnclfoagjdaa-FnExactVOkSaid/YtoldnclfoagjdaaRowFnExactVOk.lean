/- The law FnExactVOk holds of the given program: for every input the law's function returns true and leaves its arguments as they were. No condition. -/
import Derived.Test.YtoldnclfoagjdaaRows
import Derived.Test.YtoldnclfoagjdaaPFnExactVOkx1
import Derived.Test.YtoldnclfoagjdaaPureFnExactVOk
import Derived.WalkKit
import Derived.ProofKit
import Derived.OpenShut
import Derived.ShutString
import Derived.ChangeOld
import Derived.Below
import Derived.SizedLaws
namespace Go.Proofs.Ytoldnclfoagjdaa.fnExactVOk
open Go.ChangeShapes Go.WideShapes Go.ChangeAt Go.RowKit
open Go.ChangeMaps (open_string shut_string)
set_option linter.unusedVariables false
theorem own : ownKnob Try.prog.godebug = none := by kernel_rfl
theorem laidOut : laidOutB Try.prog = true := by kernel_rfl
theorem cells_24_0 : Try.prog.cellsOf 2 = 1 := by kernel_rfl
theorem cells_24_1 : Try.prog.cellsOf 2 = 1 := by kernel_rfl
theorem cells_24 : Try.prog.cellsOf 24 = 2 := by kernel_rfl
theorem len_24 {α : Type} (l : List α) (h : l.length = 2) : ∃ c0 c1, l = [c0, c1] := by
  match l, h with
  | [c0, c1], _ => exact ⟨c0, c1, rfl⟩
theorem open_24 {H : Type} {enc : TypeId × Value → H} {w : World} {base : Nat} {sp : Nat → Bool} {held : Bool} {n : Nat} {cs : List Value} {x : DataW H × List MemPlace} (h : DataW.trod enc Try.prog w base sp held n 24 cs = some x) :
    ∃ (a0 : Int) (a1 : Int), cs = [.int .i64 a0, .int .i64 a1] ∧ (Lit.int .i64 a0).wf = true ∧ (Lit.int .i64 a1).wf = true := by
  obtain ⟨xs, m, _, _, hl, hlen, hf⟩ := DataW.trod_struct Try.underlying24 h
  have hl' : cs.length = 2 := hl.trans cells_24
  clear hl
  obtain ⟨c0, c1, rfl⟩ := len_24 cs hl'
  clear hl'
  obtain ⟨y0, e0⟩ : ∃ y, xs[0]? = some y := ⟨_, List.getElem?_eq_getElem (by rw [hlen]; decide)⟩
  have g0 : DataW.trod enc Try.prog w base sp held m 2 [c0] = some y0 := by
    have z : DataW.trod enc Try.prog w base sp held m 2 (([c0, c1].drop 0).take (Try.prog.cellsOf 2)) = xs[0]? := hf 0 _ rfl
    rw [e0, cells_24_0] at z
    exact z
  obtain ⟨y1, e1⟩ : ∃ y, xs[1]? = some y := ⟨_, List.getElem?_eq_getElem (by rw [hlen]; decide)⟩
  have g1 : DataW.trod enc Try.prog w base sp held m 2 [c1] = some y1 := by
    have z : DataW.trod enc Try.prog w base sp held m 2 (([c0, c1].drop 1).take (Try.prog.cellsOf 2)) = xs[1]? := hf 1 _ rfl
    rw [e1, cells_24_1] at z
    exact z
  obtain ⟨b0, q0, _, v0⟩ := DataW.trod_int Try.underlying2 g0
  simp only [List.cons.injEq, and_true] at q0
  subst q0
  obtain ⟨b1, q1, _, v1⟩ := DataW.trod_int Try.underlying2 g1
  simp only [List.cons.injEq, and_true] at q1
  subst q1
  exact ⟨b0, b1, rfl, v0, v1⟩
theorem cells_30_0 : Try.prog.cellsOf 24 = 2 := by kernel_rfl
theorem cells_30_2 : Try.prog.cellsOf 24 = 2 := by kernel_rfl
theorem cells_30 : Try.prog.cellsOf 30 = 4 := by kernel_rfl
theorem len_30 {α : Type} (l : List α) (h : l.length = 4) : ∃ c0 c1 c2 c3, l = [c0, c1, c2, c3] := by
  match l, h with
  | [c0, c1, c2, c3], _ => exact ⟨c0, c1, c2, c3, rfl⟩
theorem open_30 {H : Type} {enc : TypeId × Value → H} {w : World} {base : Nat} {sp : Nat → Bool} {held : Bool} {n : Nat} {cs : List Value} {x : DataW H × List MemPlace} (h : DataW.trod enc Try.prog w base sp held n 30 cs = some x) :
    ∃ (a0 : Int) (a1 : Int) (a2 : Int) (a3 : Int), cs = [.int .i64 a0, .int .i64 a1, .int .i64 a2, .int .i64 a3] ∧ (Lit.int .i64 a0).wf = true ∧ (Lit.int .i64 a1).wf = true ∧ (Lit.int .i64 a2).wf = true ∧ (Lit.int .i64 a3).wf = true := by
  obtain ⟨xs, m, _, _, hl, hlen, hf⟩ := DataW.trod_struct Try.underlying30 h
  have hl' : cs.length = 4 := hl.trans cells_30
  clear hl
  obtain ⟨c0, c1, c2, c3, rfl⟩ := len_30 cs hl'
  clear hl'
  obtain ⟨y0, e0⟩ : ∃ y, xs[0]? = some y := ⟨_, List.getElem?_eq_getElem (by rw [hlen]; decide)⟩
  have g0 : DataW.trod enc Try.prog w base sp held m 24 [c0, c1] = some y0 := by
    have z : DataW.trod enc Try.prog w base sp held m 24 (([c0, c1, c2, c3].drop 0).take (Try.prog.cellsOf 24)) = xs[0]? := hf 0 _ rfl
    rw [e0, cells_30_0] at z
    exact z
  obtain ⟨y1, e1⟩ : ∃ y, xs[1]? = some y := ⟨_, List.getElem?_eq_getElem (by rw [hlen]; decide)⟩
  have g1 : DataW.trod enc Try.prog w base sp held m 24 [c2, c3] = some y1 := by
    have z : DataW.trod enc Try.prog w base sp held m 24 (([c0, c1, c2, c3].drop 2).take (Try.prog.cellsOf 24)) = xs[1]? := hf 1 _ rfl
    rw [e1, cells_30_2] at z
    exact z
  obtain ⟨b0, b1, q0, v0, v1⟩ := open_24 g0
  simp only [List.cons.injEq, and_true] at q0
  obtain ⟨rfl, rfl⟩ := q0
  obtain ⟨b2, b3, q1, v2, v3⟩ := open_24 g1
  simp only [List.cons.injEq, and_true] at q1
  obtain ⟨rfl, rfl⟩ := q1
  exact ⟨b0, b1, b2, b3, rfl, v0, v1, v2, v3⟩
set_option maxRecDepth 100000 in
theorem lifted (os : Os) (started : os.Started) (H : Type) (enc : TypeId × Value → H) :
    ReturnsInHanded {} Try.checked os 5 .any (Rows.fnExactVOkSpec.pre6 enc Try.prog Try.f5 Rows.fnExactVOkRow.domain false) (Rows.fnExactVOkSpec.post enc Try.prog Try.f5 false true false false) := by
  refine returnsInHanded_of_change_sized (C := Try.checked) own started (by kernel_rfl) Try.func5
    (ChangeSpec.witness6 (enc := enc) (C := Try.checked) false ⟨#[], #[.agg #[.int .i64 0, .int .i64 0, .int .i64 0, .int .i64 0]], []⟩ 8 (by kernel_rfl) (by kernel_rfl) (by kernel_rfl) (by kernel_rfl)) ?_
  intro W base args ds gs before hval0 hW hcnd hsz0 _
  have hsz : (DataW.weightsEach Try.prog (Try.f5.params.toList ++ Rows.fnExactVOkSpec.plain.varTypes Try.prog) (ds ++ gs)).all (· ≤ reachBytes) = true := hsz0
  have hval : ∀ (j : Nat) t v, Try.f5.params[j]? = some t → args[j]? = some v → Value.okWide Try.prog W .any base t v := hval0
  have hW' := hW
  obtain ⟨p, q, hA0, hV, rfl, hfz, hnd⟩ := hW
  have hA : DataW.TrodAll enc Try.prog W 0 (fun _ => true) true Try.f5.params.toList args.toList ds p := hA0
  rw [Try.params5] at hA hval hsz
  obtain ⟨v0, vs0, d0, ds0, p0, q0, hargs, rfl, rfl, h0, r0⟩ := trodAll_cons hA
  obtain ⟨rfl, rfl, rfl⟩ := trodAll_nil r0
  obtain rfl : args = #[v0] := by cases args; simp_all
  obtain ⟨rfl, rfl⟩ := trodVars_none hV
  have k0 := h0
  have lt0 : ∀ x ∈ p0, x.block < W.heap.size := by obtain ⟨m, hm⟩ := k0; exact DataW.trod_lt m _ _ _ hm
  obtain ⟨cs0, rfl, hz0⟩ := okWide_struct Try.underlying30 (hval 0 30 v0 rfl rfl)
  obtain ⟨fu0, hf0⟩ := h0
  obtain ⟨a0_0, a0_1, a0_2, a0_3, hq0, w0_0, w0_1, w0_2, w0_3⟩ := open_30 hf0
  obtain rfl : cs0 = #[.int .i64 a0_0, .int .i64 a0_1, .int .i64 a0_2, .int .i64 a0_3] := Array.ext' (by simpa [Value.cells] using hq0)
  clear hA0 hval0 hsz0 hsz
  obtain ⟨k, hk⟩ := Go.Proofs.Ytoldnclfoagjdaa.Pure.FnExactVOk a0_0 a0_1 a0_2 a0_3 w0_0 w0_1 w0_2 w0_3
  refine (Go.Proofs.Ytoldnclfoagjdaa.PFnExactVOk.laws_FnExactVOk.calls k a0_0 a0_1 a0_2 a0_3 true W hk).mono fun e W' ⟨he, bel0⟩ => ?_
  have bel : Below W.heap.size W W' := bel0
  subst he
  exact ⟨_, rfl, _, _, _, [], _, [], hW', trodAll_mk1 (shut_bool Try.underlying4 _), (trodAll_cons_mk (Below.trod laidOut (by kernel_rfl) (of_decide_eq_true (by kernel_rfl)) k0 bel lt0) trodAll_mk0), rfl, bel.frame _, fun h => by cases h⟩
theorem over : Rows.fnExactVOkRow.holds Try.pinned (OpenSpec.ofChange Rows.fnExactVOkSpec) :=
  OpenClaim.holds_of_wide 5 Try.f5 rfl rfl rfl rfl rfl rfl rfl ⟨rfl, rfl, rfl, rfl, rfl⟩ rfl rfl rfl rfl rfl (by kernel_rfl) Try.func5 (by kernel_rfl)
    (of_decide_eq_true (by kernel_rfl)) (by unfold Func.isWrapper; first | (rw [if_pos (by decide +kernel)]; kernel_rfl) | (rw [if_neg (by decide +kernel)]; exact ⟨rfl, rfl⟩))
    (fun os started H enc _ => lifted os started H enc)
theorem proved : Rows.FnExactVOkSaid := over
#print axioms proved
end Go.Proofs.Ytoldnclfoagjdaa.fnExactVOk
namespace Go.Proofs.Ytoldnclfoagjdaa
/-- The row, under a short name, for the claim. -/
theorem fnExactVOk_holds : Rows.FnExactVOkSaid := fnExactVOk.proved
end Go.Proofs.Ytoldnclfoagjdaa
