/-
  No cell of these rows narrows 'for every input' (looked for: loops, veiled, ifaces, maps, wideKeys, modest, calm, conditions, laid).
  DERIVED. THE GIVEN ROWS OF THIS SEAT. 6 by the template 'for every input the law returns true; each argument reads behind the call as it read before'; 0 by the template 'total and deterministic' (their statements: YtcgolmopbnhgeaaTotals.lean).
  GIVEN WITH THE SEED: the statements are not yours to turn. If you find one false, say at which input.
  Laid BY PROGRAM, IN A SANDBOX (cutbox-rows.mjs): the forced cells as the released guide's own fill.sh prints them over the translation 3ed28bd1d6cec304… (all of the seat's roots in one cut). By AI agents, Wed Nov 11 2026. No macro, syntax, notation, axiom, sorry.
-/
import Derived.Test.YtcgolmopbnhgeaaChecked
import GoSem.Claim
import GoSem.ClaimJoined
import GoSem.ClaimMapViews
import Derived.JoinedTies
import Derived.KernelRfl
namespace Go.Proofs.Ytcgolmopbnhgeaa
/- THE CELL 'sum', in the pinned program and in every row, IS THE sha256 OF THE DUMP (.gsa) THAT YtcgolmopbnhgeaaProg.lean LOADS. Nothing in Lean hashes anything: it is a label: what it is worth is what the hold of that sum in a sandbox is worth. -/
noncomputable def Try.pinned : Pinned := { name := "ytcgolmopbnhgeaa", sum := "3ed28bd1d6cec304e98cbb37519d1fe3095c3fe620c75a374e96966342f90cff", checked := Try.checked }
namespace Rows
def none {H : Type} : Left H := { results := [], args := [] }

/-- 'laws.FnExactQRoot': WHATEVER THE INPUT: true; the input reads as it did. -/
def fnExactQRootSpec : ChangeSpec := { name := "fnExactQRoot", fn := fun _ => fun
  | [d1, d2] => { results := [.lit (.bool true)], args := [d1, d2] }
  | _ => none }
def fnExactQRootRow : OpenClaim := { program := "ytcgolmopbnhgeaa", sum := "3ed28bd1d6cec304e98cbb37519d1fe3095c3fe620c75a374e96966342f90cff", func := "loop.example/g00022/laws.FnExactQRoot", spec := "fnExactQRoot", apart := false }
def FnExactQRootSaid : Prop := fnExactQRootRow.holds Try.pinned (OpenSpec.ofChange fnExactQRootSpec)

/-- ITS FALSE NEIGHBOUR: 'it returns false'. Refute it at one input. -/
def fnExactQRootWrong : ChangeSpec := { name := "fnExactQRoot", fn := fun _ => fun
  | [d1, d2] => { results := [.lit (.bool false)], args := [d1, d2] }
  | _ => none }
def FnExactQRootWrongFalsely : Prop := fnExactQRootRow.holds Try.pinned (OpenSpec.ofChange fnExactQRootWrong)

/-- 'laws.FnExactOrient3': WHATEVER THE INPUT: true; the input reads as it did. -/
def fnExactOrient3Spec : ChangeSpec := { name := "fnExactOrient3", fn := fun _ => fun
  | [d1, d2, d3, d4] => { results := [.lit (.bool true)], args := [d1, d2, d3, d4] }
  | _ => none }
def fnExactOrient3Row : OpenClaim := { program := "ytcgolmopbnhgeaa", sum := "3ed28bd1d6cec304e98cbb37519d1fe3095c3fe620c75a374e96966342f90cff", func := "loop.example/g00022/laws.FnExactOrient3", spec := "fnExactOrient3", recurses := true, apart := false }
def FnExactOrient3Said : Prop := fnExactOrient3Row.holds Try.pinned (OpenSpec.ofChange fnExactOrient3Spec)

/-- ITS FALSE NEIGHBOUR: 'it returns false'. Refute it at one input. -/
def fnExactOrient3Wrong : ChangeSpec := { name := "fnExactOrient3", fn := fun _ => fun
  | [d1, d2, d3, d4] => { results := [.lit (.bool false)], args := [d1, d2, d3, d4] }
  | _ => none }
def FnExactOrient3WrongFalsely : Prop := fnExactOrient3Row.holds Try.pinned (OpenSpec.ofChange fnExactOrient3Wrong)

/-- 'laws.FnExactInCircle': WHATEVER THE INPUT: true; the input reads as it did. -/
def fnExactInCircleSpec : ChangeSpec := { name := "fnExactInCircle", fn := fun _ => fun
  | [d1, d2, d3, d4] => { results := [.lit (.bool true)], args := [d1, d2, d3, d4] }
  | _ => none }
def fnExactInCircleRow : OpenClaim := { program := "ytcgolmopbnhgeaa", sum := "3ed28bd1d6cec304e98cbb37519d1fe3095c3fe620c75a374e96966342f90cff", func := "loop.example/g00022/laws.FnExactInCircle", spec := "fnExactInCircle", unfollowed := true, recurses := true, apart := false }
def FnExactInCircleSaid : Prop := fnExactInCircleRow.holds Try.pinned (OpenSpec.ofChange fnExactInCircleSpec)

/-- ITS FALSE NEIGHBOUR: 'it returns false'. Refute it at one input. -/
def fnExactInCircleWrong : ChangeSpec := { name := "fnExactInCircle", fn := fun _ => fun
  | [d1, d2, d3, d4] => { results := [.lit (.bool false)], args := [d1, d2, d3, d4] }
  | _ => none }
def FnExactInCircleWrongFalsely : Prop := fnExactInCircleRow.holds Try.pinned (OpenSpec.ofChange fnExactInCircleWrong)

/-- 'laws.FnExactInSphere': WHATEVER THE INPUT: true; the input reads as it did. -/
def fnExactInSphereSpec : ChangeSpec := { name := "fnExactInSphere", fn := fun _ => fun
  | [d1, d2, d3, d4, d5] => { results := [.lit (.bool true)], args := [d1, d2, d3, d4, d5] }
  | _ => none }
def fnExactInSphereRow : OpenClaim := { program := "ytcgolmopbnhgeaa", sum := "3ed28bd1d6cec304e98cbb37519d1fe3095c3fe620c75a374e96966342f90cff", func := "loop.example/g00022/laws.FnExactInSphere", spec := "fnExactInSphere", unfollowed := true, recurses := true, apart := false }
def FnExactInSphereSaid : Prop := fnExactInSphereRow.holds Try.pinned (OpenSpec.ofChange fnExactInSphereSpec)

/-- ITS FALSE NEIGHBOUR: 'it returns false'. Refute it at one input. -/
def fnExactInSphereWrong : ChangeSpec := { name := "fnExactInSphere", fn := fun _ => fun
  | [d1, d2, d3, d4, d5] => { results := [.lit (.bool false)], args := [d1, d2, d3, d4, d5] }
  | _ => none }
def FnExactInSphereWrongFalsely : Prop := fnExactInSphereRow.holds Try.pinned (OpenSpec.ofChange fnExactInSphereWrong)

/-- 'laws.FnExactFInCircle': WHATEVER THE INPUT: true; the input reads as it did. -/
def fnExactFInCircleSpec : ChangeSpec := { name := "fnExactFInCircle", fn := fun _ => fun
  | [d1, d2, d3, d4] => { results := [.lit (.bool true)], args := [d1, d2, d3, d4] }
  | _ => none }
def fnExactFInCircleRow : OpenClaim := { program := "ytcgolmopbnhgeaa", sum := "3ed28bd1d6cec304e98cbb37519d1fe3095c3fe620c75a374e96966342f90cff", func := "loop.example/g00022/laws.FnExactFInCircle", spec := "fnExactFInCircle", inPlace := ["math.Float64bits", "math.Float64frombits"], unfollowed := true, recurses := true, apart := false }
def FnExactFInCircleSaid : Prop := fnExactFInCircleRow.holds Try.pinned (OpenSpec.ofChange fnExactFInCircleSpec)

/-- ITS FALSE NEIGHBOUR: 'it returns false'. Refute it at one input. -/
def fnExactFInCircleWrong : ChangeSpec := { name := "fnExactFInCircle", fn := fun _ => fun
  | [d1, d2, d3, d4] => { results := [.lit (.bool false)], args := [d1, d2, d3, d4] }
  | _ => none }
def FnExactFInCircleWrongFalsely : Prop := fnExactFInCircleRow.holds Try.pinned (OpenSpec.ofChange fnExactFInCircleWrong)

/-- 'laws.FnExactFOrient3': WHATEVER THE INPUT: true; the input reads as it did. -/
def fnExactFOrient3Spec : ChangeSpec := { name := "fnExactFOrient3", fn := fun _ => fun
  | [d1, d2, d3, d4] => { results := [.lit (.bool true)], args := [d1, d2, d3, d4] }
  | _ => none }
def fnExactFOrient3Row : OpenClaim := { program := "ytcgolmopbnhgeaa", sum := "3ed28bd1d6cec304e98cbb37519d1fe3095c3fe620c75a374e96966342f90cff", func := "loop.example/g00022/laws.FnExactFOrient3", spec := "fnExactFOrient3", inPlace := ["math.Float64bits", "math.Float64frombits"], unfollowed := true, recurses := true, apart := false }
def FnExactFOrient3Said : Prop := fnExactFOrient3Row.holds Try.pinned (OpenSpec.ofChange fnExactFOrient3Spec)

/-- ITS FALSE NEIGHBOUR: 'it returns false'. Refute it at one input. -/
def fnExactFOrient3Wrong : ChangeSpec := { name := "fnExactFOrient3", fn := fun _ => fun
  | [d1, d2, d3, d4] => { results := [.lit (.bool false)], args := [d1, d2, d3, d4] }
  | _ => none }
def FnExactFOrient3WrongFalsely : Prop := fnExactFOrient3Row.holds Try.pinned (OpenSpec.ofChange fnExactFOrient3Wrong)

/- THE SECOND FORM. 'bulk': how many values and letters a reading holds, each counted each time it is reached (what is shared counts as often as it is met; a slice's spare places count too). A statement '..UptoSaid' is the law's where the arguments, and the package variables that the reading takes, are together of bulk at most 1048576: NARROWER than '..Said'. Prove '..Said' where nothing that the law and all that it calls make is longer than what came in: it says more and counts as full. Else prove '..UptoSaid'. A law counts once. -/
mutual
def uptoBulk {H : Type} : DataW H → Nat
  | .lit (.string bytes) => bytes.length + 1
  | .lit _ => 1
  | .nil => 1
  | .ptr d => uptoBulk d + 1
  | .slice elems spare => uptoBulkAll elems + uptoBulkAll spare + 1
  | .agg parts => uptoBulkAll parts + 1
  | .iface _ d => uptoBulk d + 1
  | .map entries => uptoBulkEntries entries + 1
  | .held _ => 1
def uptoBulkAll {H : Type} : List (DataW H) → Nat
  | [] => 0
  | d :: r => uptoBulk d + uptoBulkAll r
def uptoBulkEntries {H : Type} : List (Lit × DataW H) → Nat
  | [] => 0
  | x :: r => uptoBulkEntry x + uptoBulkEntries r
def uptoBulkEntry {H : Type} : Lit × DataW H → Nat
  | (.string bytes, d) => bytes.length + uptoBulk d + 1
  | (_, d) => uptoBulk d + 1
 end
def uptoSmall : (H : Type) → List (DataW H) → Bool := fun _ ds => decide (uptoBulkAll ds ≤ 1048576)
def OpenSpec.upto (s : _root_.Go.ChangeSpec) : _root_.Go.OpenSpec := { _root_.Go.OpenSpec.ofChange s with cond := some uptoSmall }

/-- 'laws.FnExactQRoot', WHERE WHAT IT READS IS OF BULK AT MOST 1048576: true; the input reads as it did. -/
def fnExactQRootUptoRow : OpenClaim := { program := "ytcgolmopbnhgeaa", sum := "3ed28bd1d6cec304e98cbb37519d1fe3095c3fe620c75a374e96966342f90cff", func := "loop.example/g00022/laws.FnExactQRoot", spec := "fnExactQRoot", apart := false, narrowed := true }
def FnExactQRootUptoSaid : Prop := fnExactQRootUptoRow.holds Try.pinned (OpenSpec.upto fnExactQRootSpec)

/-- 'laws.FnExactOrient3', WHERE WHAT IT READS IS OF BULK AT MOST 1048576: true; the input reads as it did. -/
def fnExactOrient3UptoRow : OpenClaim := { program := "ytcgolmopbnhgeaa", sum := "3ed28bd1d6cec304e98cbb37519d1fe3095c3fe620c75a374e96966342f90cff", func := "loop.example/g00022/laws.FnExactOrient3", spec := "fnExactOrient3", recurses := true, apart := false, narrowed := true }
def FnExactOrient3UptoSaid : Prop := fnExactOrient3UptoRow.holds Try.pinned (OpenSpec.upto fnExactOrient3Spec)

/-- 'laws.FnExactInCircle', WHERE WHAT IT READS IS OF BULK AT MOST 1048576: true; the input reads as it did. -/
def fnExactInCircleUptoRow : OpenClaim := { program := "ytcgolmopbnhgeaa", sum := "3ed28bd1d6cec304e98cbb37519d1fe3095c3fe620c75a374e96966342f90cff", func := "loop.example/g00022/laws.FnExactInCircle", spec := "fnExactInCircle", unfollowed := true, recurses := true, apart := false, narrowed := true }
def FnExactInCircleUptoSaid : Prop := fnExactInCircleUptoRow.holds Try.pinned (OpenSpec.upto fnExactInCircleSpec)

/-- 'laws.FnExactInSphere', WHERE WHAT IT READS IS OF BULK AT MOST 1048576: true; the input reads as it did. -/
def fnExactInSphereUptoRow : OpenClaim := { program := "ytcgolmopbnhgeaa", sum := "3ed28bd1d6cec304e98cbb37519d1fe3095c3fe620c75a374e96966342f90cff", func := "loop.example/g00022/laws.FnExactInSphere", spec := "fnExactInSphere", unfollowed := true, recurses := true, apart := false, narrowed := true }
def FnExactInSphereUptoSaid : Prop := fnExactInSphereUptoRow.holds Try.pinned (OpenSpec.upto fnExactInSphereSpec)

/-- 'laws.FnExactFInCircle', WHERE WHAT IT READS IS OF BULK AT MOST 1048576: true; the input reads as it did. -/
def fnExactFInCircleUptoRow : OpenClaim := { program := "ytcgolmopbnhgeaa", sum := "3ed28bd1d6cec304e98cbb37519d1fe3095c3fe620c75a374e96966342f90cff", func := "loop.example/g00022/laws.FnExactFInCircle", spec := "fnExactFInCircle", inPlace := ["math.Float64bits", "math.Float64frombits"], unfollowed := true, recurses := true, apart := false, narrowed := true }
def FnExactFInCircleUptoSaid : Prop := fnExactFInCircleUptoRow.holds Try.pinned (OpenSpec.upto fnExactFInCircleSpec)

/-- 'laws.FnExactFOrient3', WHERE WHAT IT READS IS OF BULK AT MOST 1048576: true; the input reads as it did. -/
def fnExactFOrient3UptoRow : OpenClaim := { program := "ytcgolmopbnhgeaa", sum := "3ed28bd1d6cec304e98cbb37519d1fe3095c3fe620c75a374e96966342f90cff", func := "loop.example/g00022/laws.FnExactFOrient3", spec := "fnExactFOrient3", inPlace := ["math.Float64bits", "math.Float64frombits"], unfollowed := true, recurses := true, apart := false, narrowed := true }
def FnExactFOrient3UptoSaid : Prop := fnExactFOrient3UptoRow.holds Try.pinned (OpenSpec.upto fnExactFOrient3Spec)

end Rows
end Go.Proofs.Ytcgolmopbnhgeaa
