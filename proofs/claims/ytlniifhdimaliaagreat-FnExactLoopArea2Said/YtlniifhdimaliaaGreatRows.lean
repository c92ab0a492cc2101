/-
  No cell of these rows narrows 'for every input' (looked for: loops, veiled, ifaces, maps, wideKeys, modest, calm, conditions, laid).
  DERIVED. THE GIVEN ROWS OF THIS SEAT. 9 by the template 'for every input the law returns true; each argument reads behind the call as it read before'; 0 by the template 'total and deterministic' (their statements: YtlniifhdimaliaaGreatTotals.lean).
  GIVEN WITH THE SEED: the statements are not yours to turn. If you find one false, say at which input.
  Laid BY PROGRAM, IN A SANDBOX (cutbox-rows.mjs): the forced cells as the released guide's own fill.sh prints them over the translation 924b504928727465… (all of the seat's roots in one cut). By AI agents, Wed Nov 11 2026. No macro, syntax, notation, axiom, sorry.
-/
import Derived.Test.YtlniifhdimaliaaGreatChecked
import GoSem.Claim
import GoSem.ClaimJoined
import GoSem.ClaimMapViews
import Derived.JoinedTies
import Derived.KernelRfl
namespace Go.Proofs.YtlniifhdimaliaaGreat
/- THE CELL 'sum', in the pinned program and in every row, IS THE sha256 OF THE DUMP (.gsa) THAT YtlniifhdimaliaaGreatProg.lean LOADS. Nothing in Lean hashes anything: it is a label: what it is worth is what the hold of that sum in a sandbox is worth. -/
noncomputable def Tryz.pinned : Pinned := { name := "ytlniifhdimaliaagreat", sum := "924b5049287274658c4909a9676fde5773514759da68fc913afd2599c2d40ce6", checked := Tryz.checked }
namespace Rows
def none {H : Type} : Left H := { results := [], args := [] }

/-- 'laws.FnExactOnSeg': WHATEVER THE INPUT: true; the input reads as it did. -/
def fnExactOnSegSpec : ChangeSpec := { name := "fnExactOnSeg", fn := fun _ => fun
  | [d1, d2] => { results := [.lit (.bool true)], args := [d1, d2] }
  | _ => none }
def fnExactOnSegRow : OpenClaim := { program := "ytlniifhdimaliaagreat", sum := "924b5049287274658c4909a9676fde5773514759da68fc913afd2599c2d40ce6", func := "loop.example/g00022/laws.FnExactOnSeg", spec := "fnExactOnSeg", apart := false }
def FnExactOnSegSaid : Prop := fnExactOnSegRow.holds Tryz.pinned (OpenSpec.ofChange fnExactOnSegSpec)

/-- ITS FALSE NEIGHBOUR: 'it returns false'. Refute it at one input. -/
def fnExactOnSegWrong : ChangeSpec := { name := "fnExactOnSeg", fn := fun _ => fun
  | [d1, d2] => { results := [.lit (.bool false)], args := [d1, d2] }
  | _ => none }
def FnExactOnSegWrongFalsely : Prop := fnExactOnSegRow.holds Tryz.pinned (OpenSpec.ofChange fnExactOnSegWrong)

/-- 'laws.FnExactFoot': WHATEVER THE INPUT: true; the input reads as it did. -/
def fnExactFootSpec : ChangeSpec := { name := "fnExactFoot", fn := fun _ => fun
  | [d1, d2] => { results := [.lit (.bool true)], args := [d1, d2] }
  | _ => none }
def fnExactFootRow : OpenClaim := { program := "ytlniifhdimaliaagreat", sum := "924b5049287274658c4909a9676fde5773514759da68fc913afd2599c2d40ce6", func := "loop.example/g00022/laws.FnExactFoot", spec := "fnExactFoot", apart := false }
def FnExactFootSaid : Prop := fnExactFootRow.holds Tryz.pinned (OpenSpec.ofChange fnExactFootSpec)

/-- ITS FALSE NEIGHBOUR: 'it returns false'. Refute it at one input. -/
def fnExactFootWrong : ChangeSpec := { name := "fnExactFoot", fn := fun _ => fun
  | [d1, d2] => { results := [.lit (.bool false)], args := [d1, d2] }
  | _ => none }
def FnExactFootWrongFalsely : Prop := fnExactFootRow.holds Tryz.pinned (OpenSpec.ofChange fnExactFootWrong)

/-- 'laws.FnExactNear': WHATEVER THE INPUT: true; the input reads as it did. -/
def fnExactNearSpec : ChangeSpec := { name := "fnExactNear", fn := fun _ => fun
  | [d1, d2] => { results := [.lit (.bool true)], args := [d1, d2] }
  | _ => none }
def fnExactNearRow : OpenClaim := { program := "ytlniifhdimaliaagreat", sum := "924b5049287274658c4909a9676fde5773514759da68fc913afd2599c2d40ce6", func := "loop.example/g00022/laws.FnExactNear", spec := "fnExactNear", apart := false }
def FnExactNearSaid : Prop := fnExactNearRow.holds Tryz.pinned (OpenSpec.ofChange fnExactNearSpec)

/-- ITS FALSE NEIGHBOUR: 'it returns false'. Refute it at one input. -/
def fnExactNearWrong : ChangeSpec := { name := "fnExactNear", fn := fun _ => fun
  | [d1, d2] => { results := [.lit (.bool false)], args := [d1, d2] }
  | _ => none }
def FnExactNearWrongFalsely : Prop := fnExactNearRow.holds Tryz.pinned (OpenSpec.ofChange fnExactNearWrong)

/-- 'laws.FnExactDist2': WHATEVER THE INPUT: true; the input reads as it did. -/
def fnExactDist2Spec : ChangeSpec := { name := "fnExactDist2", fn := fun _ => fun
  | [d1, d2] => { results := [.lit (.bool true)], args := [d1, d2] }
  | _ => none }
def fnExactDist2Row : OpenClaim := { program := "ytlniifhdimaliaagreat", sum := "924b5049287274658c4909a9676fde5773514759da68fc913afd2599c2d40ce6", func := "loop.example/g00022/laws.FnExactDist2", spec := "fnExactDist2", apart := false }
def FnExactDist2Said : Prop := fnExactDist2Row.holds Tryz.pinned (OpenSpec.ofChange fnExactDist2Spec)

/-- ITS FALSE NEIGHBOUR: 'it returns false'. Refute it at one input. -/
def fnExactDist2Wrong : ChangeSpec := { name := "fnExactDist2", fn := fun _ => fun
  | [d1, d2] => { results := [.lit (.bool false)], args := [d1, d2] }
  | _ => none }
def FnExactDist2WrongFalsely : Prop := fnExactDist2Row.holds Tryz.pinned (OpenSpec.ofChange fnExactDist2Wrong)

/-- 'laws.FnExactMeet': WHATEVER THE INPUT: true; the input reads as it did. -/
def fnExactMeetSpec : ChangeSpec := { name := "fnExactMeet", fn := fun _ => fun
  | [d1, d2] => { results := [.lit (.bool true)], args := [d1, d2] }
  | _ => none }
def fnExactMeetRow : OpenClaim := { program := "ytlniifhdimaliaagreat", sum := "924b5049287274658c4909a9676fde5773514759da68fc913afd2599c2d40ce6", func := "loop.example/g00022/laws.FnExactMeet", spec := "fnExactMeet", apart := false }
def FnExactMeetSaid : Prop := fnExactMeetRow.holds Tryz.pinned (OpenSpec.ofChange fnExactMeetSpec)

/-- ITS FALSE NEIGHBOUR: 'it returns false'. Refute it at one input. -/
def fnExactMeetWrong : ChangeSpec := { name := "fnExactMeet", fn := fun _ => fun
  | [d1, d2] => { results := [.lit (.bool false)], args := [d1, d2] }
  | _ => none }
def FnExactMeetWrongFalsely : Prop := fnExactMeetRow.holds Tryz.pinned (OpenSpec.ofChange fnExactMeetWrong)

/-- 'laws.FnExactNearest': WHATEVER THE INPUT: true; the input reads as it did. -/
def fnExactNearestSpec : ChangeSpec := { name := "fnExactNearest", fn := fun _ => fun
  | [d1, d2] => { results := [.lit (.bool true)], args := [d1, d2] }
  | _ => none }
def fnExactNearestRow : OpenClaim := { program := "ytlniifhdimaliaagreat", sum := "924b5049287274658c4909a9676fde5773514759da68fc913afd2599c2d40ce6", func := "loop.example/g00022/laws.FnExactNearest", spec := "fnExactNearest", apart := false }
def FnExactNearestSaid : Prop := fnExactNearestRow.holds Tryz.pinned (OpenSpec.ofChange fnExactNearestSpec)

/-- ITS FALSE NEIGHBOUR: 'it returns false'. Refute it at one input. -/
def fnExactNearestWrong : ChangeSpec := { name := "fnExactNearest", fn := fun _ => fun
  | [d1, d2] => { results := [.lit (.bool false)], args := [d1, d2] }
  | _ => none }
def FnExactNearestWrongFalsely : Prop := fnExactNearestRow.holds Tryz.pinned (OpenSpec.ofChange fnExactNearestWrong)

/-- 'laws.FnExactLoopArea2': WHATEVER THE INPUT: true; the input reads as it did. -/
def fnExactLoopArea2Spec : ChangeSpec := { name := "fnExactLoopArea2", fn := fun _ => fun
  | [d1, d2] => { results := [.lit (.bool true)], args := [d1, d2] }
  | _ => none }
def fnExactLoopArea2Row : OpenClaim := { program := "ytlniifhdimaliaagreat", sum := "924b5049287274658c4909a9676fde5773514759da68fc913afd2599c2d40ce6", func := "loop.example/g00022/laws.FnExactLoopArea2", spec := "fnExactLoopArea2", apart := false }
def FnExactLoopArea2Said : Prop := fnExactLoopArea2Row.holds Tryz.pinned (OpenSpec.ofChange fnExactLoopArea2Spec)

/-- ITS FALSE NEIGHBOUR: 'it returns false'. Refute it at one input. -/
def fnExactLoopArea2Wrong : ChangeSpec := { name := "fnExactLoopArea2", fn := fun _ => fun
  | [d1, d2] => { results := [.lit (.bool false)], args := [d1, d2] }
  | _ => none }
def FnExactLoopArea2WrongFalsely : Prop := fnExactLoopArea2Row.holds Tryz.pinned (OpenSpec.ofChange fnExactLoopArea2Wrong)

/-- 'laws.FnExactAbove': WHATEVER THE INPUT: true; the input reads as it did. -/
def fnExactAboveSpec : ChangeSpec := { name := "fnExactAbove", fn := fun _ => fun
  | [d1, d2] => { results := [.lit (.bool true)], args := [d1, d2] }
  | _ => none }
def fnExactAboveRow : OpenClaim := { program := "ytlniifhdimaliaagreat", sum := "924b5049287274658c4909a9676fde5773514759da68fc913afd2599c2d40ce6", func := "loop.example/g00022/laws.FnExactAbove", spec := "fnExactAbove", apart := false }
def FnExactAboveSaid : Prop := fnExactAboveRow.holds Tryz.pinned (OpenSpec.ofChange fnExactAboveSpec)

/-- ITS FALSE NEIGHBOUR: 'it returns false'. Refute it at one input. -/
def fnExactAboveWrong : ChangeSpec := { name := "fnExactAbove", fn := fun _ => fun
  | [d1, d2] => { results := [.lit (.bool false)], args := [d1, d2] }
  | _ => none }
def FnExactAboveWrongFalsely : Prop := fnExactAboveRow.holds Tryz.pinned (OpenSpec.ofChange fnExactAboveWrong)

/-- 'laws.FnExactFarthest': WHATEVER THE INPUT: true; the input reads as it did. -/
def fnExactFarthestSpec : ChangeSpec := { name := "fnExactFarthest", fn := fun _ => fun
  | [d] => { results := [.lit (.bool true)], args := [d] }
  | _ => none }
def fnExactFarthestRow : OpenClaim := { program := "ytlniifhdimaliaagreat", sum := "924b5049287274658c4909a9676fde5773514759da68fc913afd2599c2d40ce6", func := "loop.example/g00022/laws.FnExactFarthest", spec := "fnExactFarthest", apart := false }
def FnExactFarthestSaid : Prop := fnExactFarthestRow.holds Tryz.pinned (OpenSpec.ofChange fnExactFarthestSpec)

/-- ITS FALSE NEIGHBOUR: 'it returns false'. Refute it at one input. -/
def fnExactFarthestWrong : ChangeSpec := { name := "fnExactFarthest", fn := fun _ => fun
  | [d] => { results := [.lit (.bool false)], args := [d] }
  | _ => none }
def FnExactFarthestWrongFalsely : Prop := fnExactFarthestRow.holds Tryz.pinned (OpenSpec.ofChange fnExactFarthestWrong)

/- THE SECOND FORM. 'bulk': how many values and letters a reading holds, each counted each time it is reached (what is shared counts as often as it is met; a slice's spare places count too). A statement '..UptoSaid' is the law's where the arguments, and the package variables that the reading takes, are together of bulk at most 1048576: NARROWER than '..Said'. Prove '..Said' where nothing that the law and all that it calls make is longer than what came in: it says more and counts as full. Else prove '..UptoSaid'. A law counts once. -/
mutual
def uptoBulk {H : Type} : DataW H → Nat
  | .lit (.string bytes) => bytes.length + 1
  | .lit _ => 1
  | .nil => 1
  | .ptr d => uptoBulk d + 1
  | .slice elems spare => uptoBulkAll elems + uptoBulkAll spare + 1
  | .agg parts => uptoBulkAll parts + 1
  | .iface _ d => uptoBulk d + 1
  | .map entries => uptoBulkEntries entries + 1
  | .held _ => 1
def uptoBulkAll {H : Type} : List (DataW H) → Nat
  | [] => 0
  | d :: r => uptoBulk d + uptoBulkAll r
def uptoBulkEntries {H : Type} : List (Lit × DataW H) → Nat
  | [] => 0
  | x :: r => uptoBulkEntry x + uptoBulkEntries r
def uptoBulkEntry {H : Type} : Lit × DataW H → Nat
  | (.string bytes, d) => bytes.length + uptoBulk d + 1
  | (_, d) => uptoBulk d + 1
 end
def uptoSmall : (H : Type) → List (DataW H) → Bool := fun _ ds => decide (uptoBulkAll ds ≤ 1048576)
def OpenSpec.upto (s : _root_.Go.ChangeSpec) : _root_.Go.OpenSpec := { _root_.Go.OpenSpec.ofChange s with cond := some uptoSmall }

/-- 'laws.FnExactOnSeg', WHERE WHAT IT READS IS OF BULK AT MOST 1048576: true; the input reads as it did. -/
def fnExactOnSegUptoRow : OpenClaim := { program := "ytlniifhdimaliaagreat", sum := "924b5049287274658c4909a9676fde5773514759da68fc913afd2599c2d40ce6", func := "loop.example/g00022/laws.FnExactOnSeg", spec := "fnExactOnSeg", apart := false, narrowed := true }
def FnExactOnSegUptoSaid : Prop := fnExactOnSegUptoRow.holds Tryz.pinned (OpenSpec.upto fnExactOnSegSpec)

/-- 'laws.FnExactFoot', WHERE WHAT IT READS IS OF BULK AT MOST 1048576: true; the input reads as it did. -/
def fnExactFootUptoRow : OpenClaim := { program := "ytlniifhdimaliaagreat", sum := "924b5049287274658c4909a9676fde5773514759da68fc913afd2599c2d40ce6", func := "loop.example/g00022/laws.FnExactFoot", spec := "fnExactFoot", apart := false, narrowed := true }
def FnExactFootUptoSaid : Prop := fnExactFootUptoRow.holds Tryz.pinned (OpenSpec.upto fnExactFootSpec)

/-- 'laws.FnExactNear', WHERE WHAT IT READS IS OF BULK AT MOST 1048576: true; the input reads as it did. -/
def fnExactNearUptoRow : OpenClaim := { program := "ytlniifhdimaliaagreat", sum := "924b5049287274658c4909a9676fde5773514759da68fc913afd2599c2d40ce6", func := "loop.example/g00022/laws.FnExactNear", spec := "fnExactNear", apart := false, narrowed := true }
def FnExactNearUptoSaid : Prop := fnExactNearUptoRow.holds Tryz.pinned (OpenSpec.upto fnExactNearSpec)

/-- 'laws.FnExactDist2', WHERE WHAT IT READS IS OF BULK AT MOST 1048576: true; the input reads as it did. -/
def fnExactDist2UptoRow : OpenClaim := { program := "ytlniifhdimaliaagreat", sum := "924b5049287274658c4909a9676fde5773514759da68fc913afd2599c2d40ce6", func := "loop.example/g00022/laws.FnExactDist2", spec := "fnExactDist2", apart := false, narrowed := true }
def FnExactDist2UptoSaid : Prop := fnExactDist2UptoRow.holds Tryz.pinned (OpenSpec.upto fnExactDist2Spec)

/-- 'laws.FnExactMeet', WHERE WHAT IT READS IS OF BULK AT MOST 1048576: true; the input reads as it did. -/
def fnExactMeetUptoRow : OpenClaim := { program := "ytlniifhdimaliaagreat", sum := "924b5049287274658c4909a9676fde5773514759da68fc913afd2599c2d40ce6", func := "loop.example/g00022/laws.FnExactMeet", spec := "fnExactMeet", apart := false, narrowed := true }
def FnExactMeetUptoSaid : Prop := fnExactMeetUptoRow.holds Tryz.pinned (OpenSpec.upto fnExactMeetSpec)

/-- 'laws.FnExactNearest', WHERE WHAT IT READS IS OF BULK AT MOST 1048576: true; the input reads as it did. -/
def fnExactNearestUptoRow : OpenClaim := { program := "ytlniifhdimaliaagreat", sum := "924b5049287274658c4909a9676fde5773514759da68fc913afd2599c2d40ce6", func := "loop.example/g00022/laws.FnExactNearest", spec := "fnExactNearest", apart := false, narrowed := true }
def FnExactNearestUptoSaid : Prop := fnExactNearestUptoRow.holds Tryz.pinned (OpenSpec.upto fnExactNearestSpec)

/-- 'laws.FnExactLoopArea2', WHERE WHAT IT READS IS OF BULK AT MOST 1048576: true; the input reads as it did. -/
def fnExactLoopArea2UptoRow : OpenClaim := { program := "ytlniifhdimaliaagreat", sum := "924b5049287274658c4909a9676fde5773514759da68fc913afd2599c2d40ce6", func := "loop.example/g00022/laws.FnExactLoopArea2", spec := "fnExactLoopArea2", apart := false, narrowed := true }
def FnExactLoopArea2UptoSaid : Prop := fnExactLoopArea2UptoRow.holds Tryz.pinned (OpenSpec.upto fnExactLoopArea2Spec)

/-- 'laws.FnExactAbove', WHERE WHAT IT READS IS OF BULK AT MOST 1048576: true; the input reads as it did. -/
def fnExactAboveUptoRow : OpenClaim := { program := "ytlniifhdimaliaagreat", sum := "924b5049287274658c4909a9676fde5773514759da68fc913afd2599c2d40ce6", func := "loop.example/g00022/laws.FnExactAbove", spec := "fnExactAbove", apart := false, narrowed := true }
def FnExactAboveUptoSaid : Prop := fnExactAboveUptoRow.holds Tryz.pinned (OpenSpec.upto fnExactAboveSpec)

/-- 'laws.FnExactFarthest', WHERE WHAT IT READS IS OF BULK AT MOST 1048576: true; the input reads as it did. -/
def fnExactFarthestUptoRow : OpenClaim := { program := "ytlniifhdimaliaagreat", sum := "924b5049287274658c4909a9676fde5773514759da68fc913afd2599c2d40ce6", func := "loop.example/g00022/laws.FnExactFarthest", spec := "fnExactFarthest", apart := false, narrowed := true }
def FnExactFarthestUptoSaid : Prop := fnExactFarthestUptoRow.holds Tryz.pinned (OpenSpec.upto fnExactFarthestSpec)

end Rows
end Go.Proofs.YtlniifhdimaliaaGreat
