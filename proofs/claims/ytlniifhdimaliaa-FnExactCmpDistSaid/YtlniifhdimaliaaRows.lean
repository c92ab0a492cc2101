/-
  No cell of these rows narrows 'for every input' (looked for: loops, veiled, ifaces, maps, wideKeys, modest, calm, conditions, laid).
  DERIVED. THE GIVEN ROWS OF THIS SEAT. 3 by the template 'for every input the law returns true; each argument reads behind the call as it read before'; 0 by the template 'total and deterministic' (their statements: YtlniifhdimaliaaTotals.lean).
  GIVEN WITH THE SEED: the statements are not yours to turn. If you find one false, say at which input.
  Laid BY PROGRAM, IN A SANDBOX (cutbox-rows.mjs): the forced cells as the released guide's own fill.sh prints them over the translation 352d4b3b30a839fa… (all of the seat's roots in one cut). By AI agents, Wed Nov 11 2026. No macro, syntax, notation, axiom, sorry.
-/
import Derived.Test.YtlniifhdimaliaaChecked
import GoSem.Claim
import GoSem.ClaimJoined
import GoSem.ClaimMapViews
import Derived.JoinedTies
import Derived.KernelRfl
namespace Go.Proofs.Ytlniifhdimaliaa
/- THE CELL 'sum', in the pinned program and in every row, IS THE sha256 OF THE DUMP (.gsa) THAT YtlniifhdimaliaaProg.lean LOADS. Nothing in Lean hashes anything: it is a label: what it is worth is what the hold of that sum in a sandbox is worth. -/
noncomputable def Try.pinned : Pinned := { name := "ytlniifhdimaliaa", sum := "352d4b3b30a839fa22463097e9c8fed2fd642b48516c411083110bda75e230ed", checked := Try.checked }
namespace Rows
def none {H : Type} : Left H := { results := [], args := [] }

/-- 'laws.FnExactOrient2': WHATEVER THE INPUT: true; the input reads as it did. -/
def fnExactOrient2Spec : ChangeSpec := { name := "fnExactOrient2", fn := fun _ => fun
  | [d1, d2, d3] => { results := [.lit (.bool true)], args := [d1, d2, d3] }
  | _ => none }
def fnExactOrient2Row : OpenClaim := { program := "ytlniifhdimaliaa", sum := "352d4b3b30a839fa22463097e9c8fed2fd642b48516c411083110bda75e230ed", func := "loop.example/g00022/laws.FnExactOrient2", spec := "fnExactOrient2", recurses := true, apart := false }
def FnExactOrient2Said : Prop := fnExactOrient2Row.holds Try.pinned (OpenSpec.ofChange fnExactOrient2Spec)

/-- ITS FALSE NEIGHBOUR: 'it returns false'. Refute it at one input. -/
def fnExactOrient2Wrong : ChangeSpec := { name := "fnExactOrient2", fn := fun _ => fun
  | [d1, d2, d3] => { results := [.lit (.bool false)], args := [d1, d2, d3] }
  | _ => none }
def FnExactOrient2WrongFalsely : Prop := fnExactOrient2Row.holds Try.pinned (OpenSpec.ofChange fnExactOrient2Wrong)

/-- 'laws.FnExactCmpAlong': WHATEVER THE INPUT: true; the input reads as it did. -/
def fnExactCmpAlongSpec : ChangeSpec := { name := "fnExactCmpAlong", fn := fun _ => fun
  | [d1, d2, d3, d4] => { results := [.lit (.bool true)], args := [d1, d2, d3, d4] }
  | _ => none }
def fnExactCmpAlongRow : OpenClaim := { program := "ytlniifhdimaliaa", sum := "352d4b3b30a839fa22463097e9c8fed2fd642b48516c411083110bda75e230ed", func := "loop.example/g00022/laws.FnExactCmpAlong", spec := "fnExactCmpAlong", apart := false }
def FnExactCmpAlongSaid : Prop := fnExactCmpAlongRow.holds Try.pinned (OpenSpec.ofChange fnExactCmpAlongSpec)

/-- ITS FALSE NEIGHBOUR: 'it returns false'. Refute it at one input. -/
def fnExactCmpAlongWrong : ChangeSpec := { name := "fnExactCmpAlong", fn := fun _ => fun
  | [d1, d2, d3, d4] => { results := [.lit (.bool false)], args := [d1, d2, d3, d4] }
  | _ => none }
def FnExactCmpAlongWrongFalsely : Prop := fnExactCmpAlongRow.holds Try.pinned (OpenSpec.ofChange fnExactCmpAlongWrong)

/-- 'laws.FnExactCmpDist': WHATEVER THE INPUT: true; the input reads as it did. -/
def fnExactCmpDistSpec : ChangeSpec := { name := "fnExactCmpDist", fn := fun _ => fun
  | [d1, d2, d3] => { results := [.lit (.bool true)], args := [d1, d2, d3] }
  | _ => none }
def fnExactCmpDistRow : OpenClaim := { program := "ytlniifhdimaliaa", sum := "352d4b3b30a839fa22463097e9c8fed2fd642b48516c411083110bda75e230ed", func := "loop.example/g00022/laws.FnExactCmpDist", spec := "fnExactCmpDist", apart := false }
def FnExactCmpDistSaid : Prop := fnExactCmpDistRow.holds Try.pinned (OpenSpec.ofChange fnExactCmpDistSpec)

/-- ITS FALSE NEIGHBOUR: 'it returns false'. Refute it at one input. -/
def fnExactCmpDistWrong : ChangeSpec := { name := "fnExactCmpDist", fn := fun _ => fun
  | [d1, d2, d3] => { results := [.lit (.bool false)], args := [d1, d2, d3] }
  | _ => none }
def FnExactCmpDistWrongFalsely : Prop := fnExactCmpDistRow.holds Try.pinned (OpenSpec.ofChange fnExactCmpDistWrong)

/- THE SECOND FORM. 'bulk': how many values and letters a reading holds, each counted each time it is reached (what is shared counts as often as it is met; a slice's spare places count too). A statement '..UptoSaid' is the law's where the arguments, and the package variables that the reading takes, are together of bulk at most 1048576: NARROWER than '..Said'. Prove '..Said' where nothing that the law and all that it calls make is longer than what came in: it says more and counts as full. Else prove '..UptoSaid'. A law counts once. -/
mutual
def uptoBulk {H : Type} : DataW H → Nat
  | .lit (.string bytes) => bytes.length + 1
  | .lit _ => 1
  | .nil => 1
  | .ptr d => uptoBulk d + 1
  | .slice elems spare => uptoBulkAll elems + uptoBulkAll spare + 1
  | .agg parts => uptoBulkAll parts + 1
  | .iface _ d => uptoBulk d + 1
  | .map entries => uptoBulkEntries entries + 1
  | .held _ => 1
def uptoBulkAll {H : Type} : List (DataW H) → Nat
  | [] => 0
  | d :: r => uptoBulk d + uptoBulkAll r
def uptoBulkEntries {H : Type} : List (Lit × DataW H) → Nat
  | [] => 0
  | x :: r => uptoBulkEntry x + uptoBulkEntries r
def uptoBulkEntry {H : Type} : Lit × DataW H → Nat
  | (.string bytes, d) => bytes.length + uptoBulk d + 1
  | (_, d) => uptoBulk d + 1
 end
def uptoSmall : (H : Type) → List (DataW H) → Bool := fun _ ds => decide (uptoBulkAll ds ≤ 1048576)
def OpenSpec.upto (s : _root_.Go.ChangeSpec) : _root_.Go.OpenSpec := { _root_.Go.OpenSpec.ofChange s with cond := some uptoSmall }

/-- 'laws.FnExactOrient2', WHERE WHAT IT READS IS OF BULK AT MOST 1048576: true; the input reads as it did. -/
def fnExactOrient2UptoRow : OpenClaim := { program := "ytlniifhdimaliaa", sum := "352d4b3b30a839fa22463097e9c8fed2fd642b48516c411083110bda75e230ed", func := "loop.example/g00022/laws.FnExactOrient2", spec := "fnExactOrient2", recurses := true, apart := false, narrowed := true }
def FnExactOrient2UptoSaid : Prop := fnExactOrient2UptoRow.holds Try.pinned (OpenSpec.upto fnExactOrient2Spec)

/-- 'laws.FnExactCmpAlong', WHERE WHAT IT READS IS OF BULK AT MOST 1048576: true; the input reads as it did. -/
def fnExactCmpAlongUptoRow : OpenClaim := { program := "ytlniifhdimaliaa", sum := "352d4b3b30a839fa22463097e9c8fed2fd642b48516c411083110bda75e230ed", func := "loop.example/g00022/laws.FnExactCmpAlong", spec := "fnExactCmpAlong", apart := false, narrowed := true }
def FnExactCmpAlongUptoSaid : Prop := fnExactCmpAlongUptoRow.holds Try.pinned (OpenSpec.upto fnExactCmpAlongSpec)

/-- 'laws.FnExactCmpDist', WHERE WHAT IT READS IS OF BULK AT MOST 1048576: true; the input reads as it did. -/
def fnExactCmpDistUptoRow : OpenClaim := { program := "ytlniifhdimaliaa", sum := "352d4b3b30a839fa22463097e9c8fed2fd642b48516c411083110bda75e230ed", func := "loop.example/g00022/laws.FnExactCmpDist", spec := "fnExactCmpDist", apart := false, narrowed := true }
def FnExactCmpDistUptoSaid : Prop := fnExactCmpDistUptoRow.holds Try.pinned (OpenSpec.upto fnExactCmpDistSpec)

end Rows
end Go.Proofs.Ytlniifhdimaliaa
