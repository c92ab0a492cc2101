/- The law FnExactLoopArea2 holds of the given program: for every input the law's function returns true and leaves its arguments as they were. No condition. -/
import Derived.Test.YtlniifhdimaliaaGreatRows
import Derived.Test.YtlniifhdimaliaaGreatZL1
import Derived.WalkKit
import Derived.ProofKit
import Derived.OpenShut
import Derived.ShutString
import Derived.ChangeOld
import Derived.Below
import Derived.SizedLaws
namespace Go.Proofs.YtlniifhdimaliaaGreat.fnExactLoopArea2
open Go.ChangeShapes Go.WideShapes Go.ChangeAt Go.RowKit
open Go.ChangeMaps (open_string shut_string)
set_option linter.unusedVariables false
theorem own : ownKnob Tryz.prog.godebug = none := by kernel_rfl
theorem laidOut : laidOutB Tryz.prog = true := by kernel_rfl
set_option maxRecDepth 100000 in
theorem lifted (os : Os) (started : os.Started) (H : Type) (enc : TypeId × Value → H) :
    ReturnsInHanded {} Tryz.checked os 9 .any (Rows.fnExactLoopArea2Spec.pre6 enc Tryz.prog Tryz.f9 Rows.fnExactLoopArea2Row.domain false) (Rows.fnExactLoopArea2Spec.post enc Tryz.prog Tryz.f9 false true false false) := by
  refine returnsInHanded_of_change_sized (C := Tryz.checked) own started (by kernel_rfl) Tryz.func9
    (ChangeSpec.witness6 (enc := enc) (C := Tryz.checked) false ⟨#[], #[.agg #[.slice none 0 0, .slice none 0 0, .slice none 0 0], .int .i64 0], []⟩ 8 (by kernel_rfl) (by kernel_rfl) (by kernel_rfl) (by kernel_rfl)) ?_
  intro W base args ds gs before hval0 hW hcnd hsz0 _
  have hsz : (DataW.weightsEach Tryz.prog (Tryz.f9.params.toList ++ Rows.fnExactLoopArea2Spec.plain.varTypes Tryz.prog) (ds ++ gs)).all (· ≤ reachBytes) = true := hsz0
  have hval : ∀ (j : Nat) t v, Tryz.f9.params[j]? = some t → args[j]? = some v → Value.okWide Tryz.prog W .any base t v := hval0
  have hW' := hW
  obtain ⟨p, q, hA0, hV, rfl, hfz, hnd⟩ := hW
  have hA : DataW.TrodAll enc Tryz.prog W 0 (fun _ => true) true Tryz.f9.params.toList args.toList ds p := hA0
  rw [Tryz.params9] at hA hval hsz
  obtain ⟨v0, vs0, d0, ds0, p0, q0, hargs, rfl, rfl, h0, r0⟩ := trodAll_cons hA
  obtain ⟨v1, vs1, d1, ds1, p1, q1, rfl, rfl, rfl, h1, r1⟩ := trodAll_cons r0
  obtain ⟨rfl, rfl, rfl⟩ := trodAll_nil r1
  obtain rfl : args = #[v0, v1] := by cases args; simp_all
  obtain ⟨rfl, rfl⟩ := trodVars_none hV
  have k0 := h0
  have lt0 : ∀ x ∈ p0, x.block < W.heap.size := by obtain ⟨m, hm⟩ := k0; exact DataW.trod_lt m _ _ _ hm
  obtain ⟨fu0, hf0⟩ := h0
  obtain ⟨e0, rv0, sh0⟩ := Go.Proofs.YtlniifhdimaliaaGreat.Ae.repV_ok (F := fun b => b < W.heap.size) (fun b _ h => h) (n := 8) (t := 56) (by kernel_rfl) (hval 0 56 v0 rfl rfl) hf0
  have k1 := h1
  have lt1 : ∀ x ∈ p1, x.block < W.heap.size := by obtain ⟨m, hm⟩ := k1; exact DataW.trod_lt m _ _ _ hm
  obtain ⟨fu1, hf1⟩ := h1
  obtain ⟨e1, rv1, sh1⟩ := Go.Proofs.YtlniifhdimaliaaGreat.Ae.repV_ok (F := fun b => b < W.heap.size) (fun b _ h => h) (n := 8) (t := 2) (by kernel_rfl) (hval 1 2 v1 rfl rfl) hf1
  clear hA0 hval0 hsz0 hsz
  refine (Go.Proofs.YtlniifhdimaliaaGreat.Ae.lwLoopArea2_calls  sh0 sh1 (Go.Proofs.YtlniifhdimaliaaGreat.Ae.repVs_cons rv0 (Go.Proofs.YtlniifhdimaliaaGreat.Ae.repVs_cons rv1 Go.Proofs.YtlniifhdimaliaaGreat.Ae.repVs_nil))).mono fun e W' ⟨he, bel⟩ => ?_
  subst he
  exact ⟨_, rfl, _, _, _, [], _, [], hW', trodAll_mk1 (shut_bool Tryz.underlying4 _), (trodAll_cons_mk (Below.trod laidOut (by kernel_rfl) (of_decide_eq_true (by kernel_rfl)) k0 bel lt0) (trodAll_cons_mk (Below.trod laidOut (by kernel_rfl) (of_decide_eq_true (by kernel_rfl)) k1 bel lt1) trodAll_mk0)), rfl, bel.frame _, fun h => by cases h⟩
theorem over : Rows.fnExactLoopArea2Row.holds Tryz.pinned (OpenSpec.ofChange Rows.fnExactLoopArea2Spec) :=
  OpenClaim.holds_of_wide 9 Tryz.f9 rfl rfl rfl rfl rfl rfl rfl ⟨rfl, rfl, rfl, rfl, rfl⟩ rfl rfl rfl rfl rfl (by kernel_rfl) Tryz.func9 (by kernel_rfl)
    (of_decide_eq_true (by kernel_rfl)) (by unfold Func.isWrapper; first | (rw [if_pos (by decide +kernel)]; kernel_rfl) | (rw [if_neg (by decide +kernel)]; exact ⟨rfl, rfl⟩))
    (fun os started H enc _ => lifted os started H enc)
theorem proved : Rows.FnExactLoopArea2Said := over
#print axioms proved
end Go.Proofs.YtlniifhdimaliaaGreat.fnExactLoopArea2
namespace Go.Proofs.YtlniifhdimaliaaGreat
/-- The row, under a short name, for the claim. -/
theorem fnExactLoopArea2_holds : Rows.FnExactLoopArea2Said := fnExactLoopArea2.proved
end Go.Proofs.YtlniifhdimaliaaGreat
