/-
  No cell of these rows narrows 'for every input' (looked for: loops, veiled, ifaces, maps, wideKeys, modest, calm, conditions, laid).
  DERIVED. THE GIVEN ROWS OF THIS SEAT. 3 by the template 'for every input the law returns true; each argument reads behind the call as it read before'; 0 by the template 'total and deterministic' (their statements: YtmnplonkijkblaaGreatTotals.lean).
  GIVEN WITH THE SEED: the statements are not yours to turn. If you find one false, say at which input.
  Laid BY PROGRAM, IN A SANDBOX (cutbox-rows.mjs): the forced cells as the released guide's own fill.sh prints them over the translation a58241d41a094933… (all of the seat's roots in one cut). By AI agents, Wed Nov 11 2026. No macro, syntax, notation, axiom, sorry.
-/
import Derived.Test.YtmnplonkijkblaaGreatChecked
import GoSem.Claim
import GoSem.ClaimJoined
import GoSem.ClaimMapViews
import Derived.JoinedTies
import Derived.KernelRfl
namespace Go.Proofs.YtmnplonkijkblaaGreat
/- THE CELL 'sum', in the pinned program and in every row, IS THE sha256 OF THE DUMP (.gsa) THAT YtmnplonkijkblaaGreatProg.lean LOADS. Nothing in Lean hashes anything: it is a label: what it is worth is what the hold of that sum in a sandbox is worth. -/
noncomputable def Tryz.pinned : Pinned := { name := "ytmnplonkijkblaagreat", sum := "a58241d41a094933538d66c09671d97476d5d4c40de045d09cb35fbf55762d9c", checked := Tryz.checked }
namespace Rows
def none {H : Type} : Left H := { results := [], args := [] }

/-- 'laws.FnExactSide': WHATEVER THE INPUT: true; the input reads as it did. -/
def fnExactSideSpec : ChangeSpec := { name := "fnExactSide", fn := fun _ => fun
  | [d1, d2] => { results := [.lit (.bool true)], args := [d1, d2] }
  | _ => none }
def fnExactSideRow : OpenClaim := { program := "ytmnplonkijkblaagreat", sum := "a58241d41a094933538d66c09671d97476d5d4c40de045d09cb35fbf55762d9c", func := "loop.example/g00022/laws.FnExactSide", spec := "fnExactSide", apart := false }
def FnExactSideSaid : Prop := fnExactSideRow.holds Tryz.pinned (OpenSpec.ofChange fnExactSideSpec)

/-- ITS FALSE NEIGHBOUR: 'it returns false'. Refute it at one input. -/
def fnExactSideWrong : ChangeSpec := { name := "fnExactSide", fn := fun _ => fun
  | [d1, d2] => { results := [.lit (.bool false)], args := [d1, d2] }
  | _ => none }
def FnExactSideWrongFalsely : Prop := fnExactSideRow.holds Tryz.pinned (OpenSpec.ofChange fnExactSideWrong)

/-- 'laws.FnExactPlaneOf': WHATEVER THE INPUT: true; the input reads as it did. -/
def fnExactPlaneOfSpec : ChangeSpec := { name := "fnExactPlaneOf", fn := fun _ => fun
  | [d1, d2, d3] => { results := [.lit (.bool true)], args := [d1, d2, d3] }
  | _ => none }
def fnExactPlaneOfRow : OpenClaim := { program := "ytmnplonkijkblaagreat", sum := "a58241d41a094933538d66c09671d97476d5d4c40de045d09cb35fbf55762d9c", func := "loop.example/g00022/laws.FnExactPlaneOf", spec := "fnExactPlaneOf", apart := false }
def FnExactPlaneOfSaid : Prop := fnExactPlaneOfRow.holds Tryz.pinned (OpenSpec.ofChange fnExactPlaneOfSpec)

/-- ITS FALSE NEIGHBOUR: 'it returns false'. Refute it at one input. -/
def fnExactPlaneOfWrong : ChangeSpec := { name := "fnExactPlaneOf", fn := fun _ => fun
  | [d1, d2, d3] => { results := [.lit (.bool false)], args := [d1, d2, d3] }
  | _ => none }
def FnExactPlaneOfWrongFalsely : Prop := fnExactPlaneOfRow.holds Tryz.pinned (OpenSpec.ofChange fnExactPlaneOfWrong)

/-- 'laws.FnExactLift': WHATEVER THE INPUT: true; the input reads as it did. -/
def fnExactLiftSpec : ChangeSpec := { name := "fnExactLift", fn := fun _ => fun
  | [d1, d2] => { results := [.lit (.bool true)], args := [d1, d2] }
  | _ => none }
def fnExactLiftRow : OpenClaim := { program := "ytmnplonkijkblaagreat", sum := "a58241d41a094933538d66c09671d97476d5d4c40de045d09cb35fbf55762d9c", func := "loop.example/g00022/laws.FnExactLift", spec := "fnExactLift", apart := false }
def FnExactLiftSaid : Prop := fnExactLiftRow.holds Tryz.pinned (OpenSpec.ofChange fnExactLiftSpec)

/-- ITS FALSE NEIGHBOUR: 'it returns false'. Refute it at one input. -/
def fnExactLiftWrong : ChangeSpec := { name := "fnExactLift", fn := fun _ => fun
  | [d1, d2] => { results := [.lit (.bool false)], args := [d1, d2] }
  | _ => none }
def FnExactLiftWrongFalsely : Prop := fnExactLiftRow.holds Tryz.pinned (OpenSpec.ofChange fnExactLiftWrong)

/- THE SECOND FORM. 'bulk': how many values and letters a reading holds, each counted each time it is reached (what is shared counts as often as it is met; a slice's spare places count too). A statement '..UptoSaid' is the law's where the arguments, and the package variables that the reading takes, are together of bulk at most 1048576: NARROWER than '..Said'. Prove '..Said' where nothing that the law and all that it calls make is longer than what came in: it says more and counts as full. Else prove '..UptoSaid'. A law counts once. -/
mutual
def uptoBulk {H : Type} : DataW H → Nat
  | .lit (.string bytes) => bytes.length + 1
  | .lit _ => 1
  | .nil => 1
  | .ptr d => uptoBulk d + 1
  | .slice elems spare => uptoBulkAll elems + uptoBulkAll spare + 1
  | .agg parts => uptoBulkAll parts + 1
  | .iface _ d => uptoBulk d + 1
  | .map entries => uptoBulkEntries entries + 1
  | .held _ => 1
def uptoBulkAll {H : Type} : List (DataW H) → Nat
  | [] => 0
  | d :: r => uptoBulk d + uptoBulkAll r
def uptoBulkEntries {H : Type} : List (Lit × DataW H) → Nat
  | [] => 0
  | x :: r => uptoBulkEntry x + uptoBulkEntries r
def uptoBulkEntry {H : Type} : Lit × DataW H → Nat
  | (.string bytes, d) => bytes.length + uptoBulk d + 1
  | (_, d) => uptoBulk d + 1
 end
def uptoSmall : (H : Type) → List (DataW H) → Bool := fun _ ds => decide (uptoBulkAll ds ≤ 1048576)
def OpenSpec.upto (s : _root_.Go.ChangeSpec) : _root_.Go.OpenSpec := { _root_.Go.OpenSpec.ofChange s with cond := some uptoSmall }

/-- 'laws.FnExactSide', WHERE WHAT IT READS IS OF BULK AT MOST 1048576: true; the input reads as it did. -/
def fnExactSideUptoRow : OpenClaim := { program := "ytmnplonkijkblaagreat", sum := "a58241d41a094933538d66c09671d97476d5d4c40de045d09cb35fbf55762d9c", func := "loop.example/g00022/laws.FnExactSide", spec := "fnExactSide", apart := false, narrowed := true }
def FnExactSideUptoSaid : Prop := fnExactSideUptoRow.holds Tryz.pinned (OpenSpec.upto fnExactSideSpec)

/-- 'laws.FnExactPlaneOf', WHERE WHAT IT READS IS OF BULK AT MOST 1048576: true; the input reads as it did. -/
def fnExactPlaneOfUptoRow : OpenClaim := { program := "ytmnplonkijkblaagreat", sum := "a58241d41a094933538d66c09671d97476d5d4c40de045d09cb35fbf55762d9c", func := "loop.example/g00022/laws.FnExactPlaneOf", spec := "fnExactPlaneOf", apart := false, narrowed := true }
def FnExactPlaneOfUptoSaid : Prop := fnExactPlaneOfUptoRow.holds Tryz.pinned (OpenSpec.upto fnExactPlaneOfSpec)

/-- 'laws.FnExactLift', WHERE WHAT IT READS IS OF BULK AT MOST 1048576: true; the input reads as it did. -/
def fnExactLiftUptoRow : OpenClaim := { program := "ytmnplonkijkblaagreat", sum := "a58241d41a094933538d66c09671d97476d5d4c40de045d09cb35fbf55762d9c", func := "loop.example/g00022/laws.FnExactLift", spec := "fnExactLift", apart := false, narrowed := true }
def FnExactLiftUptoSaid : Prop := fnExactLiftUptoRow.holds Tryz.pinned (OpenSpec.upto fnExactLiftSpec)

end Rows
end Go.Proofs.YtmnplonkijkblaaGreat
