/-
  No cell of these rows narrows 'for every input' (looked for: loops, veiled, ifaces, maps, wideKeys, modest, calm, conditions, laid).
  DERIVED. THE GIVEN ROWS OF THIS SEAT. 11 by the template 'for every input the law returns true; each argument reads behind the call as it read before'; 0 by the template 'total and deterministic' (their statements: YtoldnclfoagjdaaTotals.lean).
  GIVEN WITH THE SEED: the statements are not yours to turn. If you find one false, say at which input.
  Laid BY PROGRAM, IN A SANDBOX (cutbox-rows.mjs): the forced cells as the released guide's own fill.sh prints them over the translation df678a12874865d1… (all of the seat's roots in one cut). By AI agents, Wed Nov 11 2026. No macro, syntax, notation, axiom, sorry.
-/
import Derived.Test.YtoldnclfoagjdaaChecked
import GoSem.Claim
import GoSem.ClaimJoined
import GoSem.ClaimMapViews
import Derived.JoinedTies
import Derived.KernelRfl
namespace Go.Proofs.Ytoldnclfoagjdaa
/- THE CELL 'sum', in the pinned program and in every row, IS THE sha256 OF THE DUMP (.gsa) THAT YtoldnclfoagjdaaProg.lean LOADS. Nothing in Lean hashes anything: it is a label: what it is worth is what the hold of that sum in a sandbox is worth. -/
noncomputable def Try.pinned : Pinned := { name := "ytoldnclfoagjdaa", sum := "df678a12874865d1288e9967714625e34bdf588ddcf3841d0accd31f44c78ef7", checked := Try.checked }
namespace Rows
def none {H : Type} : Left H := { results := [], args := [] }

/-- 'laws.FnExactConstants': WHATEVER THE INPUT: true; the input reads as it did. -/
def fnExactConstantsSpec : ChangeSpec := { name := "fnExactConstants", fn := fun _ => fun
  | [] => { results := [.lit (.bool true)], args := [] }
  | _ => none }
def fnExactConstantsRow : OpenClaim := { program := "ytoldnclfoagjdaa", sum := "df678a12874865d1288e9967714625e34bdf588ddcf3841d0accd31f44c78ef7", func := "loop.example/g00022/laws.FnExactConstants", spec := "fnExactConstants", plainKeys := false, apart := false }
def FnExactConstantsSaid : Prop := fnExactConstantsRow.holds Try.pinned (OpenSpec.ofChange fnExactConstantsSpec)

/-- ITS FALSE NEIGHBOUR: 'it returns false'. Refute it at one input. -/
def fnExactConstantsWrong : ChangeSpec := { name := "fnExactConstants", fn := fun _ => fun
  | [] => { results := [.lit (.bool false)], args := [] }
  | _ => none }
def FnExactConstantsWrongFalsely : Prop := fnExactConstantsRow.holds Try.pinned (OpenSpec.ofChange fnExactConstantsWrong)

/-- 'laws.FnExactQOk': WHATEVER THE INPUT: true; the input reads as it did. -/
def fnExactQOkSpec : ChangeSpec := { name := "fnExactQOk", fn := fun _ => fun
  | [d] => { results := [.lit (.bool true)], args := [d] }
  | _ => none }
def fnExactQOkRow : OpenClaim := { program := "ytoldnclfoagjdaa", sum := "df678a12874865d1288e9967714625e34bdf588ddcf3841d0accd31f44c78ef7", func := "loop.example/g00022/laws.FnExactQOk", spec := "fnExactQOk", plainKeys := false, apart := false }
def FnExactQOkSaid : Prop := fnExactQOkRow.holds Try.pinned (OpenSpec.ofChange fnExactQOkSpec)

/-- ITS FALSE NEIGHBOUR: 'it returns false'. Refute it at one input. -/
def fnExactQOkWrong : ChangeSpec := { name := "fnExactQOk", fn := fun _ => fun
  | [d] => { results := [.lit (.bool false)], args := [d] }
  | _ => none }
def FnExactQOkWrongFalsely : Prop := fnExactQOkRow.holds Try.pinned (OpenSpec.ofChange fnExactQOkWrong)

/-- 'laws.FnExactVOk': WHATEVER THE INPUT: true; the input reads as it did. -/
def fnExactVOkSpec : ChangeSpec := { name := "fnExactVOk", fn := fun _ => fun
  | [d] => { results := [.lit (.bool true)], args := [d] }
  | _ => none }
def fnExactVOkRow : OpenClaim := { program := "ytoldnclfoagjdaa", sum := "df678a12874865d1288e9967714625e34bdf588ddcf3841d0accd31f44c78ef7", func := "loop.example/g00022/laws.FnExactVOk", spec := "fnExactVOk", plainKeys := false, apart := false }
def FnExactVOkSaid : Prop := fnExactVOkRow.holds Try.pinned (OpenSpec.ofChange fnExactVOkSpec)

/-- ITS FALSE NEIGHBOUR: 'it returns false'. Refute it at one input. -/
def fnExactVOkWrong : ChangeSpec := { name := "fnExactVOk", fn := fun _ => fun
  | [d] => { results := [.lit (.bool false)], args := [d] }
  | _ => none }
def FnExactVOkWrongFalsely : Prop := fnExactVOkRow.holds Try.pinned (OpenSpec.ofChange fnExactVOkWrong)

/-- 'laws.FnExactV3Ok': WHATEVER THE INPUT: true; the input reads as it did. -/
def fnExactV3OkSpec : ChangeSpec := { name := "fnExactV3Ok", fn := fun _ => fun
  | [d] => { results := [.lit (.bool true)], args := [d] }
  | _ => none }
def fnExactV3OkRow : OpenClaim := { program := "ytoldnclfoagjdaa", sum := "df678a12874865d1288e9967714625e34bdf588ddcf3841d0accd31f44c78ef7", func := "loop.example/g00022/laws.FnExactV3Ok", spec := "fnExactV3Ok", plainKeys := false, apart := false }
def FnExactV3OkSaid : Prop := fnExactV3OkRow.holds Try.pinned (OpenSpec.ofChange fnExactV3OkSpec)

/-- ITS FALSE NEIGHBOUR: 'it returns false'. Refute it at one input. -/
def fnExactV3OkWrong : ChangeSpec := { name := "fnExactV3Ok", fn := fun _ => fun
  | [d] => { results := [.lit (.bool false)], args := [d] }
  | _ => none }
def FnExactV3OkWrongFalsely : Prop := fnExactV3OkRow.holds Try.pinned (OpenSpec.ofChange fnExactV3OkWrong)

/-- 'laws.FnExactSegOk': WHATEVER THE INPUT: true; the input reads as it did. -/
def fnExactSegOkSpec : ChangeSpec := { name := "fnExactSegOk", fn := fun _ => fun
  | [d] => { results := [.lit (.bool true)], args := [d] }
  | _ => none }
def fnExactSegOkRow : OpenClaim := { program := "ytoldnclfoagjdaa", sum := "df678a12874865d1288e9967714625e34bdf588ddcf3841d0accd31f44c78ef7", func := "loop.example/g00022/laws.FnExactSegOk", spec := "fnExactSegOk", plainKeys := false, apart := false }
def FnExactSegOkSaid : Prop := fnExactSegOkRow.holds Try.pinned (OpenSpec.ofChange fnExactSegOkSpec)

/-- ITS FALSE NEIGHBOUR: 'it returns false'. Refute it at one input. -/
def fnExactSegOkWrong : ChangeSpec := { name := "fnExactSegOk", fn := fun _ => fun
  | [d] => { results := [.lit (.bool false)], args := [d] }
  | _ => none }
def FnExactSegOkWrongFalsely : Prop := fnExactSegOkRow.holds Try.pinned (OpenSpec.ofChange fnExactSegOkWrong)

/-- 'laws.FnExactPlaneOk': WHATEVER THE INPUT: true; the input reads as it did. -/
def fnExactPlaneOkSpec : ChangeSpec := { name := "fnExactPlaneOk", fn := fun _ => fun
  | [d] => { results := [.lit (.bool true)], args := [d] }
  | _ => none }
def fnExactPlaneOkRow : OpenClaim := { program := "ytoldnclfoagjdaa", sum := "df678a12874865d1288e9967714625e34bdf588ddcf3841d0accd31f44c78ef7", func := "loop.example/g00022/laws.FnExactPlaneOk", spec := "fnExactPlaneOk", plainKeys := false, apart := false }
def FnExactPlaneOkSaid : Prop := fnExactPlaneOkRow.holds Try.pinned (OpenSpec.ofChange fnExactPlaneOkSpec)

/-- ITS FALSE NEIGHBOUR: 'it returns false'. Refute it at one input. -/
def fnExactPlaneOkWrong : ChangeSpec := { name := "fnExactPlaneOk", fn := fun _ => fun
  | [d] => { results := [.lit (.bool false)], args := [d] }
  | _ => none }
def FnExactPlaneOkWrongFalsely : Prop := fnExactPlaneOkRow.holds Try.pinned (OpenSpec.ofChange fnExactPlaneOkWrong)

/-- 'laws.FnExactFInCircle': WHATEVER THE INPUT: true; the input reads as it did. -/
def fnExactFInCircleSpec : ChangeSpec := { name := "fnExactFInCircle", fn := fun _ => fun
  | [d1, d2, d3, d4] => { results := [.lit (.bool true)], args := [d1, d2, d3, d4] }
  | _ => none }
def fnExactFInCircleRow : OpenClaim := { program := "ytoldnclfoagjdaa", sum := "df678a12874865d1288e9967714625e34bdf588ddcf3841d0accd31f44c78ef7", func := "loop.example/g00022/laws.FnExactFInCircle", spec := "fnExactFInCircle", inPlace := ["math.Float64bits", "math.Float64frombits"], unfollowed := true, recurses := true, plainKeys := false, apart := false }
def FnExactFInCircleSaid : Prop := fnExactFInCircleRow.holds Try.pinned (OpenSpec.ofChange fnExactFInCircleSpec)

/-- ITS FALSE NEIGHBOUR: 'it returns false'. Refute it at one input. -/
def fnExactFInCircleWrong : ChangeSpec := { name := "fnExactFInCircle", fn := fun _ => fun
  | [d1, d2, d3, d4] => { results := [.lit (.bool false)], args := [d1, d2, d3, d4] }
  | _ => none }
def FnExactFInCircleWrongFalsely : Prop := fnExactFInCircleRow.holds Try.pinned (OpenSpec.ofChange fnExactFInCircleWrong)

/-- 'laws.FnExactFOrient3': WHATEVER THE INPUT: true; the input reads as it did. -/
def fnExactFOrient3Spec : ChangeSpec := { name := "fnExactFOrient3", fn := fun _ => fun
  | [d1, d2, d3, d4] => { results := [.lit (.bool true)], args := [d1, d2, d3, d4] }
  | _ => none }
def fnExactFOrient3Row : OpenClaim := { program := "ytoldnclfoagjdaa", sum := "df678a12874865d1288e9967714625e34bdf588ddcf3841d0accd31f44c78ef7", func := "loop.example/g00022/laws.FnExactFOrient3", spec := "fnExactFOrient3", inPlace := ["math.Float64bits", "math.Float64frombits"], unfollowed := true, recurses := true, plainKeys := false, apart := false }
def FnExactFOrient3Said : Prop := fnExactFOrient3Row.holds Try.pinned (OpenSpec.ofChange fnExactFOrient3Spec)

/-- ITS FALSE NEIGHBOUR: 'it returns false'. Refute it at one input. -/
def fnExactFOrient3Wrong : ChangeSpec := { name := "fnExactFOrient3", fn := fun _ => fun
  | [d1, d2, d3, d4] => { results := [.lit (.bool false)], args := [d1, d2, d3, d4] }
  | _ => none }
def FnExactFOrient3WrongFalsely : Prop := fnExactFOrient3Row.holds Try.pinned (OpenSpec.ofChange fnExactFOrient3Wrong)

/-- 'laws.FnExactMeshOk': WHATEVER THE INPUT: true; the input reads as it did. -/
def fnExactMeshOkSpec : ChangeSpec := { name := "fnExactMeshOk", fn := fun _ => fun
  | [d] => { results := [.lit (.bool true)], args := [d] }
  | _ => none }
def fnExactMeshOkRow : OpenClaim := { program := "ytoldnclfoagjdaa", sum := "df678a12874865d1288e9967714625e34bdf588ddcf3841d0accd31f44c78ef7", func := "loop.example/g00022/laws.FnExactMeshOk", spec := "fnExactMeshOk", unfollowed := true, recurses := true, plainKeys := false, apart := false }
def FnExactMeshOkSaid : Prop := fnExactMeshOkRow.holds Try.pinned (OpenSpec.ofChange fnExactMeshOkSpec)

/-- ITS FALSE NEIGHBOUR: 'it returns false'. Refute it at one input. -/
def fnExactMeshOkWrong : ChangeSpec := { name := "fnExactMeshOk", fn := fun _ => fun
  | [d] => { results := [.lit (.bool false)], args := [d] }
  | _ => none }
def FnExactMeshOkWrongFalsely : Prop := fnExactMeshOkRow.holds Try.pinned (OpenSpec.ofChange fnExactMeshOkWrong)

/-- 'laws.FnExactSketchOk': WHATEVER THE INPUT: true; the input reads as it did. -/
def fnExactSketchOkSpec : ChangeSpec := { name := "fnExactSketchOk", fn := fun _ => fun
  | [d] => { results := [.lit (.bool true)], args := [d] }
  | _ => none }
def fnExactSketchOkRow : OpenClaim := { program := "ytoldnclfoagjdaa", sum := "df678a12874865d1288e9967714625e34bdf588ddcf3841d0accd31f44c78ef7", func := "loop.example/g00022/laws.FnExactSketchOk", spec := "fnExactSketchOk", plainKeys := false, apart := false }
def FnExactSketchOkSaid : Prop := fnExactSketchOkRow.holds Try.pinned (OpenSpec.ofChange fnExactSketchOkSpec)

/-- ITS FALSE NEIGHBOUR: 'it returns false'. Refute it at one input. -/
def fnExactSketchOkWrong : ChangeSpec := { name := "fnExactSketchOk", fn := fun _ => fun
  | [d] => { results := [.lit (.bool false)], args := [d] }
  | _ => none }
def FnExactSketchOkWrongFalsely : Prop := fnExactSketchOkRow.holds Try.pinned (OpenSpec.ofChange fnExactSketchOkWrong)

/-- 'laws.FnExactHistoryOk': WHATEVER THE INPUT: true; the input reads as it did. -/
def fnExactHistoryOkSpec : ChangeSpec := { name := "fnExactHistoryOk", fn := fun _ => fun
  | [d] => { results := [.lit (.bool true)], args := [d] }
  | _ => none }
def fnExactHistoryOkRow : OpenClaim := { program := "ytoldnclfoagjdaa", sum := "df678a12874865d1288e9967714625e34bdf588ddcf3841d0accd31f44c78ef7", func := "loop.example/g00022/laws.FnExactHistoryOk", spec := "fnExactHistoryOk", plainKeys := false, apart := false }
def FnExactHistoryOkSaid : Prop := fnExactHistoryOkRow.holds Try.pinned (OpenSpec.ofChange fnExactHistoryOkSpec)

/-- ITS FALSE NEIGHBOUR: 'it returns false'. Refute it at one input. -/
def fnExactHistoryOkWrong : ChangeSpec := { name := "fnExactHistoryOk", fn := fun _ => fun
  | [d] => { results := [.lit (.bool false)], args := [d] }
  | _ => none }
def FnExactHistoryOkWrongFalsely : Prop := fnExactHistoryOkRow.holds Try.pinned (OpenSpec.ofChange fnExactHistoryOkWrong)

/- THE SECOND FORM. 'bulk': how many values and letters a reading holds, each counted each time it is reached (what is shared counts as often as it is met; a slice's spare places count too). A statement '..UptoSaid' is the law's where the arguments, and the package variables that the reading takes, are together of bulk at most 1048576: NARROWER than '..Said'. Prove '..Said' where nothing that the law and all that it calls make is longer than what came in: it says more and counts as full. Else prove '..UptoSaid'. A law counts once. -/
mutual
def uptoBulk {H : Type} : DataW H → Nat
  | .lit (.string bytes) => bytes.length + 1
  | .lit _ => 1
  | .nil => 1
  | .ptr d => uptoBulk d + 1
  | .slice elems spare => uptoBulkAll elems + uptoBulkAll spare + 1
  | .agg parts => uptoBulkAll parts + 1
  | .iface _ d => uptoBulk d + 1
  | .map entries => uptoBulkEntries entries + 1
  | .held _ => 1
def uptoBulkAll {H : Type} : List (DataW H) → Nat
  | [] => 0
  | d :: r => uptoBulk d + uptoBulkAll r
def uptoBulkEntries {H : Type} : List (Lit × DataW H) → Nat
  | [] => 0
  | x :: r => uptoBulkEntry x + uptoBulkEntries r
def uptoBulkEntry {H : Type} : Lit × DataW H → Nat
  | (.string bytes, d) => bytes.length + uptoBulk d + 1
  | (_, d) => uptoBulk d + 1
 end
def uptoSmall : (H : Type) → List (DataW H) → Bool := fun _ ds => decide (uptoBulkAll ds ≤ 1048576)
def OpenSpec.upto (s : _root_.Go.ChangeSpec) : _root_.Go.OpenSpec := { _root_.Go.OpenSpec.ofChange s with cond := some uptoSmall }

/-- 'laws.FnExactConstants', WHERE WHAT IT READS IS OF BULK AT MOST 1048576: true; the input reads as it did. -/
def fnExactConstantsUptoRow : OpenClaim := { program := "ytoldnclfoagjdaa", sum := "df678a12874865d1288e9967714625e34bdf588ddcf3841d0accd31f44c78ef7", func := "loop.example/g00022/laws.FnExactConstants", spec := "fnExactConstants", plainKeys := false, apart := false, narrowed := true }
def FnExactConstantsUptoSaid : Prop := fnExactConstantsUptoRow.holds Try.pinned (OpenSpec.upto fnExactConstantsSpec)

/-- 'laws.FnExactQOk', WHERE WHAT IT READS IS OF BULK AT MOST 1048576: true; the input reads as it did. -/
def fnExactQOkUptoRow : OpenClaim := { program := "ytoldnclfoagjdaa", sum := "df678a12874865d1288e9967714625e34bdf588ddcf3841d0accd31f44c78ef7", func := "loop.example/g00022/laws.FnExactQOk", spec := "fnExactQOk", plainKeys := false, apart := false, narrowed := true }
def FnExactQOkUptoSaid : Prop := fnExactQOkUptoRow.holds Try.pinned (OpenSpec.upto fnExactQOkSpec)

/-- 'laws.FnExactVOk', WHERE WHAT IT READS IS OF BULK AT MOST 1048576: true; the input reads as it did. -/
def fnExactVOkUptoRow : OpenClaim := { program := "ytoldnclfoagjdaa", sum := "df678a12874865d1288e9967714625e34bdf588ddcf3841d0accd31f44c78ef7", func := "loop.example/g00022/laws.FnExactVOk", spec := "fnExactVOk", plainKeys := false, apart := false, narrowed := true }
def FnExactVOkUptoSaid : Prop := fnExactVOkUptoRow.holds Try.pinned (OpenSpec.upto fnExactVOkSpec)

/-- 'laws.FnExactV3Ok', WHERE WHAT IT READS IS OF BULK AT MOST 1048576: true; the input reads as it did. -/
def fnExactV3OkUptoRow : OpenClaim := { program := "ytoldnclfoagjdaa", sum := "df678a12874865d1288e9967714625e34bdf588ddcf3841d0accd31f44c78ef7", func := "loop.example/g00022/laws.FnExactV3Ok", spec := "fnExactV3Ok", plainKeys := false, apart := false, narrowed := true }
def FnExactV3OkUptoSaid : Prop := fnExactV3OkUptoRow.holds Try.pinned (OpenSpec.upto fnExactV3OkSpec)

/-- 'laws.FnExactSegOk', WHERE WHAT IT READS IS OF BULK AT MOST 1048576: true; the input reads as it did. -/
def fnExactSegOkUptoRow : OpenClaim := { program := "ytoldnclfoagjdaa", sum := "df678a12874865d1288e9967714625e34bdf588ddcf3841d0accd31f44c78ef7", func := "loop.example/g00022/laws.FnExactSegOk", spec := "fnExactSegOk", plainKeys := false, apart := false, narrowed := true }
def FnExactSegOkUptoSaid : Prop := fnExactSegOkUptoRow.holds Try.pinned (OpenSpec.upto fnExactSegOkSpec)

/-- 'laws.FnExactPlaneOk', WHERE WHAT IT READS IS OF BULK AT MOST 1048576: true; the input reads as it did. -/
def fnExactPlaneOkUptoRow : OpenClaim := { program := "ytoldnclfoagjdaa", sum := "df678a12874865d1288e9967714625e34bdf588ddcf3841d0accd31f44c78ef7", func := "loop.example/g00022/laws.FnExactPlaneOk", spec := "fnExactPlaneOk", plainKeys := false, apart := false, narrowed := true }
def FnExactPlaneOkUptoSaid : Prop := fnExactPlaneOkUptoRow.holds Try.pinned (OpenSpec.upto fnExactPlaneOkSpec)

/-- 'laws.FnExactFInCircle', WHERE WHAT IT READS IS OF BULK AT MOST 1048576: true; the input reads as it did. -/
def fnExactFInCircleUptoRow : OpenClaim := { program := "ytoldnclfoagjdaa", sum := "df678a12874865d1288e9967714625e34bdf588ddcf3841d0accd31f44c78ef7", func := "loop.example/g00022/laws.FnExactFInCircle", spec := "fnExactFInCircle", inPlace := ["math.Float64bits", "math.Float64frombits"], unfollowed := true, recurses := true, plainKeys := false, apart := false, narrowed := true }
def FnExactFInCircleUptoSaid : Prop := fnExactFInCircleUptoRow.holds Try.pinned (OpenSpec.upto fnExactFInCircleSpec)

/-- 'laws.FnExactFOrient3', WHERE WHAT IT READS IS OF BULK AT MOST 1048576: true; the input reads as it did. -/
def fnExactFOrient3UptoRow : OpenClaim := { program := "ytoldnclfoagjdaa", sum := "df678a12874865d1288e9967714625e34bdf588ddcf3841d0accd31f44c78ef7", func := "loop.example/g00022/laws.FnExactFOrient3", spec := "fnExactFOrient3", inPlace := ["math.Float64bits", "math.Float64frombits"], unfollowed := true, recurses := true, plainKeys := false, apart := false, narrowed := true }
def FnExactFOrient3UptoSaid : Prop := fnExactFOrient3UptoRow.holds Try.pinned (OpenSpec.upto fnExactFOrient3Spec)

/-- 'laws.FnExactMeshOk', WHERE WHAT IT READS IS OF BULK AT MOST 1048576: true; the input reads as it did. -/
def fnExactMeshOkUptoRow : OpenClaim := { program := "ytoldnclfoagjdaa", sum := "df678a12874865d1288e9967714625e34bdf588ddcf3841d0accd31f44c78ef7", func := "loop.example/g00022/laws.FnExactMeshOk", spec := "fnExactMeshOk", unfollowed := true, recurses := true, plainKeys := false, apart := false, narrowed := true }
def FnExactMeshOkUptoSaid : Prop := fnExactMeshOkUptoRow.holds Try.pinned (OpenSpec.upto fnExactMeshOkSpec)

/-- 'laws.FnExactSketchOk', WHERE WHAT IT READS IS OF BULK AT MOST 1048576: true; the input reads as it did. -/
def fnExactSketchOkUptoRow : OpenClaim := { program := "ytoldnclfoagjdaa", sum := "df678a12874865d1288e9967714625e34bdf588ddcf3841d0accd31f44c78ef7", func := "loop.example/g00022/laws.FnExactSketchOk", spec := "fnExactSketchOk", plainKeys := false, apart := false, narrowed := true }
def FnExactSketchOkUptoSaid : Prop := fnExactSketchOkUptoRow.holds Try.pinned (OpenSpec.upto fnExactSketchOkSpec)

/-- 'laws.FnExactHistoryOk', WHERE WHAT IT READS IS OF BULK AT MOST 1048576: true; the input reads as it did. -/
def fnExactHistoryOkUptoRow : OpenClaim := { program := "ytoldnclfoagjdaa", sum := "df678a12874865d1288e9967714625e34bdf588ddcf3841d0accd31f44c78ef7", func := "loop.example/g00022/laws.FnExactHistoryOk", spec := "fnExactHistoryOk", plainKeys := false, apart := false, narrowed := true }
def FnExactHistoryOkUptoSaid : Prop := fnExactHistoryOkUptoRow.holds Try.pinned (OpenSpec.upto fnExactHistoryOkSpec)

end Rows
end Go.Proofs.Ytoldnclfoagjdaa
