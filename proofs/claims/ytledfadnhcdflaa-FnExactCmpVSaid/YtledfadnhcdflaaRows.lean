/-
  No cell of these rows narrows 'for every input' (looked for: loops, veiled, ifaces, maps, wideKeys, modest, calm, conditions, laid).
  DERIVED. THE GIVEN ROWS OF THIS SEAT. 11 by the template 'for every input the law returns true; each argument reads behind the call as it read before'; 0 by the template 'total and deterministic' (their statements: YtledfadnhcdflaaTotals.lean).
  GIVEN WITH THE SEED: the statements are not yours to turn. If you find one false, say at which input.
  Laid BY PROGRAM, IN A SANDBOX (cutbox-rows.mjs): the forced cells as the released guide's own fill.sh prints them over the translation efaf40db778f0def… (all of the seat's roots in one cut). By AI agents, Wed Nov 11 2026. No macro, syntax, notation, axiom, sorry.
-/
import Derived.Test.YtledfadnhcdflaaChecked
import GoSem.Claim
import GoSem.ClaimJoined
import GoSem.ClaimMapViews
import Derived.JoinedTies
import Derived.KernelRfl
namespace Go.Proofs.Ytledfadnhcdflaa
/- THE CELL 'sum', in the pinned program and in every row, IS THE sha256 OF THE DUMP (.gsa) THAT YtledfadnhcdflaaProg.lean LOADS. Nothing in Lean hashes anything: it is a label: what it is worth is what the hold of that sum in a sandbox is worth. -/
noncomputable def Try.pinned : Pinned := { name := "ytledfadnhcdflaa", sum := "efaf40db778f0def7e96b8c436469f6660b3f4361dceff96e56b7239e1506430", checked := Try.checked }
namespace Rows
def none {H : Type} : Left H := { results := [], args := [] }

/-- 'laws.FnExactQOf': WHATEVER THE INPUT: true; the input reads as it did. -/
def fnExactQOfSpec : ChangeSpec := { name := "fnExactQOf", fn := fun _ => fun
  | [d1, d2] => { results := [.lit (.bool true)], args := [d1, d2] }
  | _ => none }
def fnExactQOfRow : OpenClaim := { program := "ytledfadnhcdflaa", sum := "efaf40db778f0def7e96b8c436469f6660b3f4361dceff96e56b7239e1506430", func := "loop.example/g00022/laws.FnExactQOf", spec := "fnExactQOf", apart := false }
def FnExactQOfSaid : Prop := fnExactQOfRow.holds Try.pinned (OpenSpec.ofChange fnExactQOfSpec)

/-- ITS FALSE NEIGHBOUR: 'it returns false'. Refute it at one input. -/
def fnExactQOfWrong : ChangeSpec := { name := "fnExactQOf", fn := fun _ => fun
  | [d1, d2] => { results := [.lit (.bool false)], args := [d1, d2] }
  | _ => none }
def FnExactQOfWrongFalsely : Prop := fnExactQOfRow.holds Try.pinned (OpenSpec.ofChange fnExactQOfWrong)

/-- 'laws.FnExactQAdd': WHATEVER THE INPUT: true; the input reads as it did. -/
def fnExactQAddSpec : ChangeSpec := { name := "fnExactQAdd", fn := fun _ => fun
  | [d1, d2] => { results := [.lit (.bool true)], args := [d1, d2] }
  | _ => none }
def fnExactQAddRow : OpenClaim := { program := "ytledfadnhcdflaa", sum := "efaf40db778f0def7e96b8c436469f6660b3f4361dceff96e56b7239e1506430", func := "loop.example/g00022/laws.FnExactQAdd", spec := "fnExactQAdd", apart := false }
def FnExactQAddSaid : Prop := fnExactQAddRow.holds Try.pinned (OpenSpec.ofChange fnExactQAddSpec)

/-- ITS FALSE NEIGHBOUR: 'it returns false'. Refute it at one input. -/
def fnExactQAddWrong : ChangeSpec := { name := "fnExactQAdd", fn := fun _ => fun
  | [d1, d2] => { results := [.lit (.bool false)], args := [d1, d2] }
  | _ => none }
def FnExactQAddWrongFalsely : Prop := fnExactQAddRow.holds Try.pinned (OpenSpec.ofChange fnExactQAddWrong)

/-- 'laws.FnExactQSub': WHATEVER THE INPUT: true; the input reads as it did. -/
def fnExactQSubSpec : ChangeSpec := { name := "fnExactQSub", fn := fun _ => fun
  | [d1, d2] => { results := [.lit (.bool true)], args := [d1, d2] }
  | _ => none }
def fnExactQSubRow : OpenClaim := { program := "ytledfadnhcdflaa", sum := "efaf40db778f0def7e96b8c436469f6660b3f4361dceff96e56b7239e1506430", func := "loop.example/g00022/laws.FnExactQSub", spec := "fnExactQSub", apart := false }
def FnExactQSubSaid : Prop := fnExactQSubRow.holds Try.pinned (OpenSpec.ofChange fnExactQSubSpec)

/-- ITS FALSE NEIGHBOUR: 'it returns false'. Refute it at one input. -/
def fnExactQSubWrong : ChangeSpec := { name := "fnExactQSub", fn := fun _ => fun
  | [d1, d2] => { results := [.lit (.bool false)], args := [d1, d2] }
  | _ => none }
def FnExactQSubWrongFalsely : Prop := fnExactQSubRow.holds Try.pinned (OpenSpec.ofChange fnExactQSubWrong)

/-- 'laws.FnExactQMul': WHATEVER THE INPUT: true; the input reads as it did. -/
def fnExactQMulSpec : ChangeSpec := { name := "fnExactQMul", fn := fun _ => fun
  | [d1, d2] => { results := [.lit (.bool true)], args := [d1, d2] }
  | _ => none }
def fnExactQMulRow : OpenClaim := { program := "ytledfadnhcdflaa", sum := "efaf40db778f0def7e96b8c436469f6660b3f4361dceff96e56b7239e1506430", func := "loop.example/g00022/laws.FnExactQMul", spec := "fnExactQMul", apart := false }
def FnExactQMulSaid : Prop := fnExactQMulRow.holds Try.pinned (OpenSpec.ofChange fnExactQMulSpec)

/-- ITS FALSE NEIGHBOUR: 'it returns false'. Refute it at one input. -/
def fnExactQMulWrong : ChangeSpec := { name := "fnExactQMul", fn := fun _ => fun
  | [d1, d2] => { results := [.lit (.bool false)], args := [d1, d2] }
  | _ => none }
def FnExactQMulWrongFalsely : Prop := fnExactQMulRow.holds Try.pinned (OpenSpec.ofChange fnExactQMulWrong)

/-- 'laws.FnExactQDiv': WHATEVER THE INPUT: true; the input reads as it did. -/
def fnExactQDivSpec : ChangeSpec := { name := "fnExactQDiv", fn := fun _ => fun
  | [d1, d2] => { results := [.lit (.bool true)], args := [d1, d2] }
  | _ => none }
def fnExactQDivRow : OpenClaim := { program := "ytledfadnhcdflaa", sum := "efaf40db778f0def7e96b8c436469f6660b3f4361dceff96e56b7239e1506430", func := "loop.example/g00022/laws.FnExactQDiv", spec := "fnExactQDiv", apart := false }
def FnExactQDivSaid : Prop := fnExactQDivRow.holds Try.pinned (OpenSpec.ofChange fnExactQDivSpec)

/-- ITS FALSE NEIGHBOUR: 'it returns false'. Refute it at one input. -/
def fnExactQDivWrong : ChangeSpec := { name := "fnExactQDiv", fn := fun _ => fun
  | [d1, d2] => { results := [.lit (.bool false)], args := [d1, d2] }
  | _ => none }
def FnExactQDivWrongFalsely : Prop := fnExactQDivRow.holds Try.pinned (OpenSpec.ofChange fnExactQDivWrong)

/-- 'laws.FnExactQCmp': WHATEVER THE INPUT: true; the input reads as it did. -/
def fnExactQCmpSpec : ChangeSpec := { name := "fnExactQCmp", fn := fun _ => fun
  | [d1, d2] => { results := [.lit (.bool true)], args := [d1, d2] }
  | _ => none }
def fnExactQCmpRow : OpenClaim := { program := "ytledfadnhcdflaa", sum := "efaf40db778f0def7e96b8c436469f6660b3f4361dceff96e56b7239e1506430", func := "loop.example/g00022/laws.FnExactQCmp", spec := "fnExactQCmp", apart := false }
def FnExactQCmpSaid : Prop := fnExactQCmpRow.holds Try.pinned (OpenSpec.ofChange fnExactQCmpSpec)

/-- ITS FALSE NEIGHBOUR: 'it returns false'. Refute it at one input. -/
def fnExactQCmpWrong : ChangeSpec := { name := "fnExactQCmp", fn := fun _ => fun
  | [d1, d2] => { results := [.lit (.bool false)], args := [d1, d2] }
  | _ => none }
def FnExactQCmpWrongFalsely : Prop := fnExactQCmpRow.holds Try.pinned (OpenSpec.ofChange fnExactQCmpWrong)

/-- 'laws.FnExactQFloor': WHATEVER THE INPUT: true; the input reads as it did. -/
def fnExactQFloorSpec : ChangeSpec := { name := "fnExactQFloor", fn := fun _ => fun
  | [d1, d2] => { results := [.lit (.bool true)], args := [d1, d2] }
  | _ => none }
def fnExactQFloorRow : OpenClaim := { program := "ytledfadnhcdflaa", sum := "efaf40db778f0def7e96b8c436469f6660b3f4361dceff96e56b7239e1506430", func := "loop.example/g00022/laws.FnExactQFloor", spec := "fnExactQFloor", apart := false }
def FnExactQFloorSaid : Prop := fnExactQFloorRow.holds Try.pinned (OpenSpec.ofChange fnExactQFloorSpec)

/-- ITS FALSE NEIGHBOUR: 'it returns false'. Refute it at one input. -/
def fnExactQFloorWrong : ChangeSpec := { name := "fnExactQFloor", fn := fun _ => fun
  | [d1, d2] => { results := [.lit (.bool false)], args := [d1, d2] }
  | _ => none }
def FnExactQFloorWrongFalsely : Prop := fnExactQFloorRow.holds Try.pinned (OpenSpec.ofChange fnExactQFloorWrong)

/-- 'laws.FnExactQRoot': WHATEVER THE INPUT: true; the input reads as it did. -/
def fnExactQRootSpec : ChangeSpec := { name := "fnExactQRoot", fn := fun _ => fun
  | [d1, d2] => { results := [.lit (.bool true)], args := [d1, d2] }
  | _ => none }
def fnExactQRootRow : OpenClaim := { program := "ytledfadnhcdflaa", sum := "efaf40db778f0def7e96b8c436469f6660b3f4361dceff96e56b7239e1506430", func := "loop.example/g00022/laws.FnExactQRoot", spec := "fnExactQRoot", apart := false }
def FnExactQRootSaid : Prop := fnExactQRootRow.holds Try.pinned (OpenSpec.ofChange fnExactQRootSpec)

/-- ITS FALSE NEIGHBOUR: 'it returns false'. Refute it at one input. -/
def fnExactQRootWrong : ChangeSpec := { name := "fnExactQRoot", fn := fun _ => fun
  | [d1, d2] => { results := [.lit (.bool false)], args := [d1, d2] }
  | _ => none }
def FnExactQRootWrongFalsely : Prop := fnExactQRootRow.holds Try.pinned (OpenSpec.ofChange fnExactQRootWrong)

/-- 'laws.FnExactQRead': WHATEVER THE INPUT: true; the input reads as it did. -/
def fnExactQReadSpec : ChangeSpec := { name := "fnExactQRead", fn := fun _ => fun
  | [d] => { results := [.lit (.bool true)], args := [d] }
  | _ => none }
def fnExactQReadRow : OpenClaim := { program := "ytledfadnhcdflaa", sum := "efaf40db778f0def7e96b8c436469f6660b3f4361dceff96e56b7239e1506430", func := "loop.example/g00022/laws.FnExactQRead", spec := "fnExactQRead", inPlace := ["internal/bytealg.IndexByteString", "internal/bytealg.IndexString"], named := ["internal/bytealg.MaxLen"], apart := false }
def FnExactQReadSaid : Prop := fnExactQReadRow.holds Try.pinned (OpenSpec.ofChange fnExactQReadSpec)

/-- ITS FALSE NEIGHBOUR: 'it returns false'. Refute it at one input. -/
def fnExactQReadWrong : ChangeSpec := { name := "fnExactQRead", fn := fun _ => fun
  | [d] => { results := [.lit (.bool false)], args := [d] }
  | _ => none }
def FnExactQReadWrongFalsely : Prop := fnExactQReadRow.holds Try.pinned (OpenSpec.ofChange fnExactQReadWrong)

/-- 'laws.FnExactCmpV': WHATEVER THE INPUT: true; the input reads as it did. -/
def fnExactCmpVSpec : ChangeSpec := { name := "fnExactCmpV", fn := fun _ => fun
  | [d1, d2] => { results := [.lit (.bool true)], args := [d1, d2] }
  | _ => none }
def fnExactCmpVRow : OpenClaim := { program := "ytledfadnhcdflaa", sum := "efaf40db778f0def7e96b8c436469f6660b3f4361dceff96e56b7239e1506430", func := "loop.example/g00022/laws.FnExactCmpV", spec := "fnExactCmpV", apart := false }
def FnExactCmpVSaid : Prop := fnExactCmpVRow.holds Try.pinned (OpenSpec.ofChange fnExactCmpVSpec)

/-- ITS FALSE NEIGHBOUR: 'it returns false'. Refute it at one input. -/
def fnExactCmpVWrong : ChangeSpec := { name := "fnExactCmpV", fn := fun _ => fun
  | [d1, d2] => { results := [.lit (.bool false)], args := [d1, d2] }
  | _ => none }
def FnExactCmpVWrongFalsely : Prop := fnExactCmpVRow.holds Try.pinned (OpenSpec.ofChange fnExactCmpVWrong)

/-- 'laws.FnExactTurn': WHATEVER THE INPUT: true; the input reads as it did. -/
def fnExactTurnSpec : ChangeSpec := { name := "fnExactTurn", fn := fun _ => fun
  | [d1, d2, d3] => { results := [.lit (.bool true)], args := [d1, d2, d3] }
  | _ => none }
def fnExactTurnRow : OpenClaim := { program := "ytledfadnhcdflaa", sum := "efaf40db778f0def7e96b8c436469f6660b3f4361dceff96e56b7239e1506430", func := "loop.example/g00022/laws.FnExactTurn", spec := "fnExactTurn", apart := false }
def FnExactTurnSaid : Prop := fnExactTurnRow.holds Try.pinned (OpenSpec.ofChange fnExactTurnSpec)

/-- ITS FALSE NEIGHBOUR: 'it returns false'. Refute it at one input. -/
def fnExactTurnWrong : ChangeSpec := { name := "fnExactTurn", fn := fun _ => fun
  | [d1, d2, d3] => { results := [.lit (.bool false)], args := [d1, d2, d3] }
  | _ => none }
def FnExactTurnWrongFalsely : Prop := fnExactTurnRow.holds Try.pinned (OpenSpec.ofChange fnExactTurnWrong)

/- THE SECOND FORM. 'bulk': how many values and letters a reading holds, each counted each time it is reached (what is shared counts as often as it is met; a slice's spare places count too). A statement '..UptoSaid' is the law's where the arguments, and the package variables that the reading takes, are together of bulk at most 1048576: NARROWER than '..Said'. Prove '..Said' where nothing that the law and all that it calls make is longer than what came in: it says more and counts as full. Else prove '..UptoSaid'. A law counts once. -/
mutual
def uptoBulk {H : Type} : DataW H → Nat
  | .lit (.string bytes) => bytes.length + 1
  | .lit _ => 1
  | .nil => 1
  | .ptr d => uptoBulk d + 1
  | .slice elems spare => uptoBulkAll elems + uptoBulkAll spare + 1
  | .agg parts => uptoBulkAll parts + 1
  | .iface _ d => uptoBulk d + 1
  | .map entries => uptoBulkEntries entries + 1
  | .held _ => 1
def uptoBulkAll {H : Type} : List (DataW H) → Nat
  | [] => 0
  | d :: r => uptoBulk d + uptoBulkAll r
def uptoBulkEntries {H : Type} : List (Lit × DataW H) → Nat
  | [] => 0
  | x :: r => uptoBulkEntry x + uptoBulkEntries r
def uptoBulkEntry {H : Type} : Lit × DataW H → Nat
  | (.string bytes, d) => bytes.length + uptoBulk d + 1
  | (_, d) => uptoBulk d + 1
 end
def uptoSmall : (H : Type) → List (DataW H) → Bool := fun _ ds => decide (uptoBulkAll ds ≤ 1048576)
def OpenSpec.upto (s : _root_.Go.ChangeSpec) : _root_.Go.OpenSpec := { _root_.Go.OpenSpec.ofChange s with cond := some uptoSmall }

/-- 'laws.FnExactQOf', WHERE WHAT IT READS IS OF BULK AT MOST 1048576: true; the input reads as it did. -/
def fnExactQOfUptoRow : OpenClaim := { program := "ytledfadnhcdflaa", sum := "efaf40db778f0def7e96b8c436469f6660b3f4361dceff96e56b7239e1506430", func := "loop.example/g00022/laws.FnExactQOf", spec := "fnExactQOf", apart := false, narrowed := true }
def FnExactQOfUptoSaid : Prop := fnExactQOfUptoRow.holds Try.pinned (OpenSpec.upto fnExactQOfSpec)

/-- 'laws.FnExactQAdd', WHERE WHAT IT READS IS OF BULK AT MOST 1048576: true; the input reads as it did. -/
def fnExactQAddUptoRow : OpenClaim := { program := "ytledfadnhcdflaa", sum := "efaf40db778f0def7e96b8c436469f6660b3f4361dceff96e56b7239e1506430", func := "loop.example/g00022/laws.FnExactQAdd", spec := "fnExactQAdd", apart := false, narrowed := true }
def FnExactQAddUptoSaid : Prop := fnExactQAddUptoRow.holds Try.pinned (OpenSpec.upto fnExactQAddSpec)

/-- 'laws.FnExactQSub', WHERE WHAT IT READS IS OF BULK AT MOST 1048576: true; the input reads as it did. -/
def fnExactQSubUptoRow : OpenClaim := { program := "ytledfadnhcdflaa", sum := "efaf40db778f0def7e96b8c436469f6660b3f4361dceff96e56b7239e1506430", func := "loop.example/g00022/laws.FnExactQSub", spec := "fnExactQSub", apart := false, narrowed := true }
def FnExactQSubUptoSaid : Prop := fnExactQSubUptoRow.holds Try.pinned (OpenSpec.upto fnExactQSubSpec)

/-- 'laws.FnExactQMul', WHERE WHAT IT READS IS OF BULK AT MOST 1048576: true; the input reads as it did. -/
def fnExactQMulUptoRow : OpenClaim := { program := "ytledfadnhcdflaa", sum := "efaf40db778f0def7e96b8c436469f6660b3f4361dceff96e56b7239e1506430", func := "loop.example/g00022/laws.FnExactQMul", spec := "fnExactQMul", apart := false, narrowed := true }
def FnExactQMulUptoSaid : Prop := fnExactQMulUptoRow.holds Try.pinned (OpenSpec.upto fnExactQMulSpec)

/-- 'laws.FnExactQDiv', WHERE WHAT IT READS IS OF BULK AT MOST 1048576: true; the input reads as it did. -/
def fnExactQDivUptoRow : OpenClaim := { program := "ytledfadnhcdflaa", sum := "efaf40db778f0def7e96b8c436469f6660b3f4361dceff96e56b7239e1506430", func := "loop.example/g00022/laws.FnExactQDiv", spec := "fnExactQDiv", apart := false, narrowed := true }
def FnExactQDivUptoSaid : Prop := fnExactQDivUptoRow.holds Try.pinned (OpenSpec.upto fnExactQDivSpec)

/-- 'laws.FnExactQCmp', WHERE WHAT IT READS IS OF BULK AT MOST 1048576: true; the input reads as it did. -/
def fnExactQCmpUptoRow : OpenClaim := { program := "ytledfadnhcdflaa", sum := "efaf40db778f0def7e96b8c436469f6660b3f4361dceff96e56b7239e1506430", func := "loop.example/g00022/laws.FnExactQCmp", spec := "fnExactQCmp", apart := false, narrowed := true }
def FnExactQCmpUptoSaid : Prop := fnExactQCmpUptoRow.holds Try.pinned (OpenSpec.upto fnExactQCmpSpec)

/-- 'laws.FnExactQFloor', WHERE WHAT IT READS IS OF BULK AT MOST 1048576: true; the input reads as it did. -/
def fnExactQFloorUptoRow : OpenClaim := { program := "ytledfadnhcdflaa", sum := "efaf40db778f0def7e96b8c436469f6660b3f4361dceff96e56b7239e1506430", func := "loop.example/g00022/laws.FnExactQFloor", spec := "fnExactQFloor", apart := false, narrowed := true }
def FnExactQFloorUptoSaid : Prop := fnExactQFloorUptoRow.holds Try.pinned (OpenSpec.upto fnExactQFloorSpec)

/-- 'laws.FnExactQRoot', WHERE WHAT IT READS IS OF BULK AT MOST 1048576: true; the input reads as it did. -/
def fnExactQRootUptoRow : OpenClaim := { program := "ytledfadnhcdflaa", sum := "efaf40db778f0def7e96b8c436469f6660b3f4361dceff96e56b7239e1506430", func := "loop.example/g00022/laws.FnExactQRoot", spec := "fnExactQRoot", apart := false, narrowed := true }
def FnExactQRootUptoSaid : Prop := fnExactQRootUptoRow.holds Try.pinned (OpenSpec.upto fnExactQRootSpec)

/-- 'laws.FnExactQRead', WHERE WHAT IT READS IS OF BULK AT MOST 1048576: true; the input reads as it did. -/
def fnExactQReadUptoRow : OpenClaim := { program := "ytledfadnhcdflaa", sum := "efaf40db778f0def7e96b8c436469f6660b3f4361dceff96e56b7239e1506430", func := "loop.example/g00022/laws.FnExactQRead", spec := "fnExactQRead", inPlace := ["internal/bytealg.IndexByteString", "internal/bytealg.IndexString"], named := ["internal/bytealg.MaxLen"], apart := false, narrowed := true }
def FnExactQReadUptoSaid : Prop := fnExactQReadUptoRow.holds Try.pinned (OpenSpec.upto fnExactQReadSpec)

/-- 'laws.FnExactCmpV', WHERE WHAT IT READS IS OF BULK AT MOST 1048576: true; the input reads as it did. -/
def fnExactCmpVUptoRow : OpenClaim := { program := "ytledfadnhcdflaa", sum := "efaf40db778f0def7e96b8c436469f6660b3f4361dceff96e56b7239e1506430", func := "loop.example/g00022/laws.FnExactCmpV", spec := "fnExactCmpV", apart := false, narrowed := true }
def FnExactCmpVUptoSaid : Prop := fnExactCmpVUptoRow.holds Try.pinned (OpenSpec.upto fnExactCmpVSpec)

/-- 'laws.FnExactTurn', WHERE WHAT IT READS IS OF BULK AT MOST 1048576: true; the input reads as it did. -/
def fnExactTurnUptoRow : OpenClaim := { program := "ytledfadnhcdflaa", sum := "efaf40db778f0def7e96b8c436469f6660b3f4361dceff96e56b7239e1506430", func := "loop.example/g00022/laws.FnExactTurn", spec := "fnExactTurn", apart := false, narrowed := true }
def FnExactTurnUptoSaid : Prop := fnExactTurnUptoRow.holds Try.pinned (OpenSpec.upto fnExactTurnSpec)

end Rows
end Go.Proofs.Ytledfadnhcdflaa
