/- Of our texts what the law leans on, in the order in which they build: L00, M1, L0, L1, L2, L3, L4, L5, L6, L7, LA, L8, LB, L9, L10, L11, L12, M2, L13, L14, L15, L16, L20, L21, L22, L23, L24, L25, L26, L27, L28, L29, L30, L31, L32, L33, L34, L35, L36, L37, L38, L39, L40, L41, L50, L51, L52, L53, L54, L55, L56, L57, L58, L59, L60, L61, L62, Q1, L63, L64, S1, S2, L65, L66, L67, L68, L69, S3, L70, S4, S5, T1, T2, T4, R1, R2, R3, T80, T90, T82, T91, T92. No condition. -/
import Derived.Test.YtojbfdkpelldoaaZS2
import Derived.Laws.Strings
import Derived.Below
import Derived.OpenShut
import Derived.ChangeArms
import Derived.WideShapes
import Derived.Maps.OwnOps
import Derived.Maps.OwnIn
import Derived.Maps.Range
import Derived.OwnWalk
set_option linter.unusedVariables false
set_option linter.unusedSimpArgs false
namespace Go.Proofs.Ytojbfdkpelldoaa.Ae
open Go Go.RowKit
def gX (l : List X) (i : Nat) : X := l.getD i .any
def sX (l : List X) (i : Nat) (x : X) : List X := l.set i x
def gO (l : List (Option Ob)) (i : Nat) : Option Ob := l.getD i none
def sO (l : List (Option Ob)) (i : Nat) (x : Option Ob) : List (Option Ob) := l.set i x
def nX (n : Nat) : List X := List.replicate n .und
def nO (n : Nat) : List (Option Ob) := List.replicate n none
section
variable {r : List X} {q : List (Option Ob)} {z : X} {y : Option Ob}
@[simp] theorem gX0 {x0 : X} : gX (x0 :: r) 0 = x0 := rfl
@[simp] theorem sX0 {x0 : X} : sX (x0 :: r) 0 z = z :: r := rfl
@[simp] theorem gO0 {x0 : Option Ob} : gO (x0 :: q) 0 = x0 := rfl
@[simp] theorem sO0 {x0 : Option Ob} : sO (x0 :: q) 0 y = y :: q := rfl
@[simp] theorem nX0 : nX 0 = [] := rfl
@[simp] theorem nO0 : nO 0 = [] := rfl
@[simp] theorem gX1 {x0 x1 : X} : gX (x0 :: x1 :: r) 1 = x1 := rfl
@[simp] theorem sX1 {x0 x1 : X} : sX (x0 :: x1 :: r) 1 z = x0 :: z :: r := rfl
@[simp] theorem gO1 {x0 x1 : Option Ob} : gO (x0 :: x1 :: q) 1 = x1 := rfl
@[simp] theorem sO1 {x0 x1 : Option Ob} : sO (x0 :: x1 :: q) 1 y = x0 :: y :: q := rfl
@[simp] theorem nX1 : nX 1 = [.und] := rfl
@[simp] theorem nO1 : nO 1 = [none] := rfl
@[simp] theorem gX2 {x0 x1 x2 : X} : gX (x0 :: x1 :: x2 :: r) 2 = x2 := rfl
@[simp] theorem sX2 {x0 x1 x2 : X} : sX (x0 :: x1 :: x2 :: r) 2 z = x0 :: x1 :: z :: r := rfl
@[simp] theorem gO2 {x0 x1 x2 : Option Ob} : gO (x0 :: x1 :: x2 :: q) 2 = x2 := rfl
@[simp] theorem sO2 {x0 x1 x2 : Option Ob} : sO (x0 :: x1 :: x2 :: q) 2 y = x0 :: x1 :: y :: q := rfl
@[simp] theorem nX2 : nX 2 = [.und, .und] := rfl
@[simp] theorem nO2 : nO 2 = [none, none] := rfl
@[simp] theorem gX3 {x0 x1 x2 x3 : X} : gX (x0 :: x1 :: x2 :: x3 :: r) 3 = x3 := rfl
@[simp] theorem sX3 {x0 x1 x2 x3 : X} : sX (x0 :: x1 :: x2 :: x3 :: r) 3 z = x0 :: x1 :: x2 :: z :: r := rfl
@[simp] theorem gO3 {x0 x1 x2 x3 : Option Ob} : gO (x0 :: x1 :: x2 :: x3 :: q) 3 = x3 := rfl
@[simp] theorem sO3 {x0 x1 x2 x3 : Option Ob} : sO (x0 :: x1 :: x2 :: x3 :: q) 3 y = x0 :: x1 :: x2 :: y :: q := rfl
@[simp] theorem nX3 : nX 3 = [.und, .und, .und] := rfl
@[simp] theorem nO3 : nO 3 = [none, none, none] := rfl
@[simp] theorem gX4 {x0 x1 x2 x3 x4 : X} : gX (x0 :: x1 :: x2 :: x3 :: x4 :: r) 4 = x4 := rfl
@[simp] theorem sX4 {x0 x1 x2 x3 x4 : X} : sX (x0 :: x1 :: x2 :: x3 :: x4 :: r) 4 z = x0 :: x1 :: x2 :: x3 :: z :: r := rfl
@[simp] theorem gO4 {x0 x1 x2 x3 x4 : Option Ob} : gO (x0 :: x1 :: x2 :: x3 :: x4 :: q) 4 = x4 := rfl
@[simp] theorem sO4 {x0 x1 x2 x3 x4 : Option Ob} : sO (x0 :: x1 :: x2 :: x3 :: x4 :: q) 4 y = x0 :: x1 :: x2 :: x3 :: y :: q := rfl
@[simp] theorem nX4 : nX 4 = [.und, .und, .und, .und] := rfl
@[simp] theorem nO4 : nO 4 = [none, none, none, none] := rfl
@[simp] theorem gX5 {x0 x1 x2 x3 x4 x5 : X} : gX (x0 :: x1 :: x2 :: x3 :: x4 :: x5 :: r) 5 = x5 := rfl
@[simp] theorem sX5 {x0 x1 x2 x3 x4 x5 : X} : sX (x0 :: x1 :: x2 :: x3 :: x4 :: x5 :: r) 5 z = x0 :: x1 :: x2 :: x3 :: x4 :: z :: r := rfl
@[simp] theorem gO5 {x0 x1 x2 x3 x4 x5 : Option Ob} : gO (x0 :: x1 :: x2 :: x3 :: x4 :: x5 :: q) 5 = x5 := rfl
@[simp] theorem sO5 {x0 x1 x2 x3 x4 x5 : Option Ob} : sO (x0 :: x1 :: x2 :: x3 :: x4 :: x5 :: q) 5 y = x0 :: x1 :: x2 :: x3 :: x4 :: y :: q := rfl
@[simp] theorem nX5 : nX 5 = [.und, .und, .und, .und, .und] := rfl
@[simp] theorem nO5 : nO 5 = [none, none, none, none, none] := rfl
@[simp] theorem gX6 {x0 x1 x2 x3 x4 x5 x6 : X} : gX (x0 :: x1 :: x2 :: x3 :: x4 :: x5 :: x6 :: r) 6 = x6 := rfl
@[simp] theorem sX6 {x0 x1 x2 x3 x4 x5 x6 : X} : sX (x0 :: x1 :: x2 :: x3 :: x4 :: x5 :: x6 :: r) 6 z = x0 :: x1 :: x2 :: x3 :: x4 :: x5 :: z :: r := rfl
@[simp] theorem gO6 {x0 x1 x2 x3 x4 x5 x6 : Option Ob} : gO (x0 :: x1 :: x2 :: x3 :: x4 :: x5 :: x6 :: q) 6 = x6 := rfl
@[simp] theorem sO6 {x0 x1 x2 x3 x4 x5 x6 : Option Ob} : sO (x0 :: x1 :: x2 :: x3 :: x4 :: x5 :: x6 :: q) 6 y = x0 :: x1 :: x2 :: x3 :: x4 :: x5 :: y :: q := rfl
@[simp] theorem nX6 : nX 6 = [.und, .und, .und, .und, .und, .und] := rfl
@[simp] theorem nO6 : nO 6 = [none, none, none, none, none, none] := rfl
@[simp] theorem gX7 {x0 x1 x2 x3 x4 x5 x6 x7 : X} : gX (x0 :: x1 :: x2 :: x3 :: x4 :: x5 :: x6 :: x7 :: r) 7 = x7 := rfl
@[simp] theorem sX7 {x0 x1 x2 x3 x4 x5 x6 x7 : X} : sX (x0 :: x1 :: x2 :: x3 :: x4 :: x5 :: x6 :: x7 :: r) 7 z = x0 :: x1 :: x2 :: x3 :: x4 :: x5 :: x6 :: z :: r := rfl
@[simp] theorem gO7 {x0 x1 x2 x3 x4 x5 x6 x7 : Option Ob} : gO (x0 :: x1 :: x2 :: x3 :: x4 :: x5 :: x6 :: x7 :: q) 7 = x7 := rfl
@[simp] theorem sO7 {x0 x1 x2 x3 x4 x5 x6 x7 : Option Ob} : sO (x0 :: x1 :: x2 :: x3 :: x4 :: x5 :: x6 :: x7 :: q) 7 y = x0 :: x1 :: x2 :: x3 :: x4 :: x5 :: x6 :: y :: q := rfl
@[simp] theorem nX7 : nX 7 = [.und, .und, .und, .und, .und, .und, .und] := rfl
@[simp] theorem nO7 : nO 7 = [none, none, none, none, none, none, none] := rfl
@[simp] theorem gX8 {x0 x1 x2 x3 x4 x5 x6 x7 x8 : X} : gX (x0 :: x1 :: x2 :: x3 :: x4 :: x5 :: x6 :: x7 :: x8 :: r) 8 = x8 := rfl
@[simp] theorem sX8 {x0 x1 x2 x3 x4 x5 x6 x7 x8 : X} : sX (x0 :: x1 :: x2 :: x3 :: x4 :: x5 :: x6 :: x7 :: x8 :: r) 8 z = x0 :: x1 :: x2 :: x3 :: x4 :: x5 :: x6 :: x7 :: z :: r := rfl
@[simp] theorem gO8 {x0 x1 x2 x3 x4 x5 x6 x7 x8 : Option Ob} : gO (x0 :: x1 :: x2 :: x3 :: x4 :: x5 :: x6 :: x7 :: x8 :: q) 8 = x8 := rfl
@[simp] theorem sO8 {x0 x1 x2 x3 x4 x5 x6 x7 x8 : Option Ob} : sO (x0 :: x1 :: x2 :: x3 :: x4 :: x5 :: x6 :: x7 :: x8 :: q) 8 y = x0 :: x1 :: x2 :: x3 :: x4 :: x5 :: x6 :: x7 :: y :: q := rfl
@[simp] theorem nX8 : nX 8 = [.und, .und, .und, .und, .und, .und, .und, .und] := rfl
@[simp] theorem nO8 : nO 8 = [none, none, none, none, none, none, none, none] := rfl
@[simp] theorem gX9 {x0 x1 x2 x3 x4 x5 x6 x7 x8 x9 : X} : gX (x0 :: x1 :: x2 :: x3 :: x4 :: x5 :: x6 :: x7 :: x8 :: x9 :: r) 9 = x9 := rfl
@[simp] theorem sX9 {x0 x1 x2 x3 x4 x5 x6 x7 x8 x9 : X} : sX (x0 :: x1 :: x2 :: x3 :: x4 :: x5 :: x6 :: x7 :: x8 :: x9 :: r) 9 z = x0 :: x1 :: x2 :: x3 :: x4 :: x5 :: x6 :: x7 :: x8 :: z :: r := rfl
@[simp] theorem gO9 {x0 x1 x2 x3 x4 x5 x6 x7 x8 x9 : Option Ob} : gO (x0 :: x1 :: x2 :: x3 :: x4 :: x5 :: x6 :: x7 :: x8 :: x9 :: q) 9 = x9 := rfl
@[simp] theorem sO9 {x0 x1 x2 x3 x4 x5 x6 x7 x8 x9 : Option Ob} : sO (x0 :: x1 :: x2 :: x3 :: x4 :: x5 :: x6 :: x7 :: x8 :: x9 :: q) 9 y = x0 :: x1 :: x2 :: x3 :: x4 :: x5 :: x6 :: x7 :: x8 :: y :: q := rfl
@[simp] theorem nX9 : nX 9 = [.und, .und, .und, .und, .und, .und, .und, .und, .und] := rfl
@[simp] theorem nO9 : nO 9 = [none, none, none, none, none, none, none, none, none] := rfl
@[simp] theorem gX10 {x0 x1 x2 x3 x4 x5 x6 x7 x8 x9 x10 : X} : gX (x0 :: x1 :: x2 :: x3 :: x4 :: x5 :: x6 :: x7 :: x8 :: x9 :: x10 :: r) 10 = x10 := rfl
@[simp] theorem sX10 {x0 x1 x2 x3 x4 x5 x6 x7 x8 x9 x10 : X} : sX (x0 :: x1 :: x2 :: x3 :: x4 :: x5 :: x6 :: x7 :: x8 :: x9 :: x10 :: r) 10 z = x0 :: x1 :: x2 :: x3 :: x4 :: x5 :: x6 :: x7 :: x8 :: x9 :: z :: r := rfl
@[simp] theorem gO10 {x0 x1 x2 x3 x4 x5 x6 x7 x8 x9 x10 : Option Ob} : gO (x0 :: x1 :: x2 :: x3 :: x4 :: x5 :: x6 :: x7 :: x8 :: x9 :: x10 :: q) 10 = x10 := rfl
@[simp] theorem sO10 {x0 x1 x2 x3 x4 x5 x6 x7 x8 x9 x10 : Option Ob} : sO (x0 :: x1 :: x2 :: x3 :: x4 :: x5 :: x6 :: x7 :: x8 :: x9 :: x10 :: q) 10 y = x0 :: x1 :: x2 :: x3 :: x4 :: x5 :: x6 :: x7 :: x8 :: x9 :: y :: q := rfl
@[simp] theorem nX10 : nX 10 = [.und, .und, .und, .und, .und, .und, .und, .und, .und, .und] := rfl
@[simp] theorem nO10 : nO 10 = [none, none, none, none, none, none, none, none, none, none] := rfl
@[simp] theorem gX11 {x0 x1 x2 x3 x4 x5 x6 x7 x8 x9 x10 x11 : X} : gX (x0 :: x1 :: x2 :: x3 :: x4 :: x5 :: x6 :: x7 :: x8 :: x9 :: x10 :: x11 :: r) 11 = x11 := rfl
@[simp] theorem sX11 {x0 x1 x2 x3 x4 x5 x6 x7 x8 x9 x10 x11 : X} : sX (x0 :: x1 :: x2 :: x3 :: x4 :: x5 :: x6 :: x7 :: x8 :: x9 :: x10 :: x11 :: r) 11 z = x0 :: x1 :: x2 :: x3 :: x4 :: x5 :: x6 :: x7 :: x8 :: x9 :: x10 :: z :: r := rfl
@[simp] theorem gO11 {x0 x1 x2 x3 x4 x5 x6 x7 x8 x9 x10 x11 : Option Ob} : gO (x0 :: x1 :: x2 :: x3 :: x4 :: x5 :: x6 :: x7 :: x8 :: x9 :: x10 :: x11 :: q) 11 = x11 := rfl
@[simp] theorem sO11 {x0 x1 x2 x3 x4 x5 x6 x7 x8 x9 x10 x11 : Option Ob} : sO (x0 :: x1 :: x2 :: x3 :: x4 :: x5 :: x6 :: x7 :: x8 :: x9 :: x10 :: x11 :: q) 11 y = x0 :: x1 :: x2 :: x3 :: x4 :: x5 :: x6 :: x7 :: x8 :: x9 :: x10 :: y :: q := rfl
@[simp] theorem nX11 : nX 11 = [.und, .und, .und, .und, .und, .und, .und, .und, .und, .und, .und] := rfl
@[simp] theorem nO11 : nO 11 = [none, none, none, none, none, none, none, none, none, none, none] := rfl
@[simp] theorem gX12 {x0 x1 x2 x3 x4 x5 x6 x7 x8 x9 x10 x11 x12 : X} : gX (x0 :: x1 :: x2 :: x3 :: x4 :: x5 :: x6 :: x7 :: x8 :: x9 :: x10 :: x11 :: x12 :: r) 12 = x12 := rfl
@[simp] theorem sX12 {x0 x1 x2 x3 x4 x5 x6 x7 x8 x9 x10 x11 x12 : X} : sX (x0 :: x1 :: x2 :: x3 :: x4 :: x5 :: x6 :: x7 :: x8 :: x9 :: x10 :: x11 :: x12 :: r) 12 z = x0 :: x1 :: x2 :: x3 :: x4 :: x5 :: x6 :: x7 :: x8 :: x9 :: x10 :: x11 :: z :: r := rfl
@[simp] theorem gO12 {x0 x1 x2 x3 x4 x5 x6 x7 x8 x9 x10 x11 x12 : Option Ob} : gO (x0 :: x1 :: x2 :: x3 :: x4 :: x5 :: x6 :: x7 :: x8 :: x9 :: x10 :: x11 :: x12 :: q) 12 = x12 := rfl
@[simp] theorem sO12 {x0 x1 x2 x3 x4 x5 x6 x7 x8 x9 x10 x11 x12 : Option Ob} : sO (x0 :: x1 :: x2 :: x3 :: x4 :: x5 :: x6 :: x7 :: x8 :: x9 :: x10 :: x11 :: x12 :: q) 12 y = x0 :: x1 :: x2 :: x3 :: x4 :: x5 :: x6 :: x7 :: x8 :: x9 :: x10 :: x11 :: y :: q := rfl
@[simp] theorem nX12 : nX 12 = [.und, .und, .und, .und, .und, .und, .und, .und, .und, .und, .und, .und] := rfl
@[simp] theorem nO12 : nO 12 = [none, none, none, none, none, none, none, none, none, none, none, none] := rfl
@[simp] theorem gX13 {x0 x1 x2 x3 x4 x5 x6 x7 x8 x9 x10 x11 x12 x13 : X} : gX (x0 :: x1 :: x2 :: x3 :: x4 :: x5 :: x6 :: x7 :: x8 :: x9 :: x10 :: x11 :: x12 :: x13 :: r) 13 = x13 := rfl
@[simp] theorem sX13 {x0 x1 x2 x3 x4 x5 x6 x7 x8 x9 x10 x11 x12 x13 : X} : sX (x0 :: x1 :: x2 :: x3 :: x4 :: x5 :: x6 :: x7 :: x8 :: x9 :: x10 :: x11 :: x12 :: x13 :: r) 13 z = x0 :: x1 :: x2 :: x3 :: x4 :: x5 :: x6 :: x7 :: x8 :: x9 :: x10 :: x11 :: x12 :: z :: r := rfl
@[simp] theorem gO13 {x0 x1 x2 x3 x4 x5 x6 x7 x8 x9 x10 x11 x12 x13 : Option Ob} : gO (x0 :: x1 :: x2 :: x3 :: x4 :: x5 :: x6 :: x7 :: x8 :: x9 :: x10 :: x11 :: x12 :: x13 :: q) 13 = x13 := rfl
@[simp] theorem sO13 {x0 x1 x2 x3 x4 x5 x6 x7 x8 x9 x10 x11 x12 x13 : Option Ob} : sO (x0 :: x1 :: x2 :: x3 :: x4 :: x5 :: x6 :: x7 :: x8 :: x9 :: x10 :: x11 :: x12 :: x13 :: q) 13 y = x0 :: x1 :: x2 :: x3 :: x4 :: x5 :: x6 :: x7 :: x8 :: x9 :: x10 :: x11 :: x12 :: y :: q := rfl
@[simp] theorem nX13 : nX 13 = [.und, .und, .und, .und, .und, .und, .und, .und, .und, .und, .und, .und, .und] := rfl
@[simp] theorem nO13 : nO 13 = [none, none, none, none, none, none, none, none, none, none, none, none, none] := rfl
@[simp] theorem gX14 {x0 x1 x2 x3 x4 x5 x6 x7 x8 x9 x10 x11 x12 x13 x14 : X} : gX (x0 :: x1 :: x2 :: x3 :: x4 :: x5 :: x6 :: x7 :: x8 :: x9 :: x10 :: x11 :: x12 :: x13 :: x14 :: r) 14 = x14 := rfl
@[simp] theorem sX14 {x0 x1 x2 x3 x4 x5 x6 x7 x8 x9 x10 x11 x12 x13 x14 : X} : sX (x0 :: x1 :: x2 :: x3 :: x4 :: x5 :: x6 :: x7 :: x8 :: x9 :: x10 :: x11 :: x12 :: x13 :: x14 :: r) 14 z = x0 :: x1 :: x2 :: x3 :: x4 :: x5 :: x6 :: x7 :: x8 :: x9 :: x10 :: x11 :: x12 :: x13 :: z :: r := rfl
@[simp] theorem gO14 {x0 x1 x2 x3 x4 x5 x6 x7 x8 x9 x10 x11 x12 x13 x14 : Option Ob} : gO (x0 :: x1 :: x2 :: x3 :: x4 :: x5 :: x6 :: x7 :: x8 :: x9 :: x10 :: x11 :: x12 :: x13 :: x14 :: q) 14 = x14 := rfl
@[simp] theorem sO14 {x0 x1 x2 x3 x4 x5 x6 x7 x8 x9 x10 x11 x12 x13 x14 : Option Ob} : sO (x0 :: x1 :: x2 :: x3 :: x4 :: x5 :: x6 :: x7 :: x8 :: x9 :: x10 :: x11 :: x12 :: x13 :: x14 :: q) 14 y = x0 :: x1 :: x2 :: x3 :: x4 :: x5 :: x6 :: x7 :: x8 :: x9 :: x10 :: x11 :: x12 :: x13 :: y :: q := rfl
@[simp] theorem nX14 : nX 14 = [.und, .und, .und, .und, .und, .und, .und, .und, .und, .und, .und, .und, .und, .und] := rfl
@[simp] theorem nO14 : nO 14 = [none, none, none, none, none, none, none, none, none, none, none, none, none, none] := rfl
@[simp] theorem gX15 {x0 x1 x2 x3 x4 x5 x6 x7 x8 x9 x10 x11 x12 x13 x14 x15 : X} : gX (x0 :: x1 :: x2 :: x3 :: x4 :: x5 :: x6 :: x7 :: x8 :: x9 :: x10 :: x11 :: x12 :: x13 :: x14 :: x15 :: r) 15 = x15 := rfl
@[simp] theorem sX15 {x0 x1 x2 x3 x4 x5 x6 x7 x8 x9 x10 x11 x12 x13 x14 x15 : X} : sX (x0 :: x1 :: x2 :: x3 :: x4 :: x5 :: x6 :: x7 :: x8 :: x9 :: x10 :: x11 :: x12 :: x13 :: x14 :: x15 :: r) 15 z = x0 :: x1 :: x2 :: x3 :: x4 :: x5 :: x6 :: x7 :: x8 :: x9 :: x10 :: x11 :: x12 :: x13 :: x14 :: z :: r := rfl
@[simp] theorem gO15 {x0 x1 x2 x3 x4 x5 x6 x7 x8 x9 x10 x11 x12 x13 x14 x15 : Option Ob} : gO (x0 :: x1 :: x2 :: x3 :: x4 :: x5 :: x6 :: x7 :: x8 :: x9 :: x10 :: x11 :: x12 :: x13 :: x14 :: x15 :: q) 15 = x15 := rfl
@[simp] theorem sO15 {x0 x1 x2 x3 x4 x5 x6 x7 x8 x9 x10 x11 x12 x13 x14 x15 : Option Ob} : sO (x0 :: x1 :: x2 :: x3 :: x4 :: x5 :: x6 :: x7 :: x8 :: x9 :: x10 :: x11 :: x12 :: x13 :: x14 :: x15 :: q) 15 y = x0 :: x1 :: x2 :: x3 :: x4 :: x5 :: x6 :: x7 :: x8 :: x9 :: x10 :: x11 :: x12 :: x13 :: x14 :: y :: q := rfl
@[simp] theorem nX15 : nX 15 = [.und, .und, .und, .und, .und, .und, .und, .und, .und, .und, .und, .und, .und, .und, .und] := rfl
@[simp] theorem nO15 : nO 15 = [none, none, none, none, none, none, none, none, none, none, none, none, none, none, none] := rfl
@[simp] theorem gX16 {x0 x1 x2 x3 x4 x5 x6 x7 x8 x9 x10 x11 x12 x13 x14 x15 x16 : X} : gX (x0 :: x1 :: x2 :: x3 :: x4 :: x5 :: x6 :: x7 :: x8 :: x9 :: x10 :: x11 :: x12 :: x13 :: x14 :: x15 :: x16 :: r) 16 = x16 := rfl
@[simp] theorem sX16 {x0 x1 x2 x3 x4 x5 x6 x7 x8 x9 x10 x11 x12 x13 x14 x15 x16 : X} : sX (x0 :: x1 :: x2 :: x3 :: x4 :: x5 :: x6 :: x7 :: x8 :: x9 :: x10 :: x11 :: x12 :: x13 :: x14 :: x15 :: x16 :: r) 16 z = x0 :: x1 :: x2 :: x3 :: x4 :: x5 :: x6 :: x7 :: x8 :: x9 :: x10 :: x11 :: x12 :: x13 :: x14 :: x15 :: z :: r := rfl
@[simp] theorem gO16 {x0 x1 x2 x3 x4 x5 x6 x7 x8 x9 x10 x11 x12 x13 x14 x15 x16 : Option Ob} : gO (x0 :: x1 :: x2 :: x3 :: x4 :: x5 :: x6 :: x7 :: x8 :: x9 :: x10 :: x11 :: x12 :: x13 :: x14 :: x15 :: x16 :: q) 16 = x16 := rfl
@[simp] theorem sO16 {x0 x1 x2 x3 x4 x5 x6 x7 x8 x9 x10 x11 x12 x13 x14 x15 x16 : Option Ob} : sO (x0 :: x1 :: x2 :: x3 :: x4 :: x5 :: x6 :: x7 :: x8 :: x9 :: x10 :: x11 :: x12 :: x13 :: x14 :: x15 :: x16 :: q) 16 y = x0 :: x1 :: x2 :: x3 :: x4 :: x5 :: x6 :: x7 :: x8 :: x9 :: x10 :: x11 :: x12 :: x13 :: x14 :: x15 :: y :: q := rfl
@[simp] theorem nX16 : nX 16 = [.und, .und, .und, .und, .und, .und, .und, .und, .und, .und, .und, .und, .und, .und, .und, .und] := rfl
@[simp] theorem nO16 : nO 16 = [none, none, none, none, none, none, none, none, none, none, none, none, none, none, none, none] := rfl
@[simp] theorem gX17 {x0 x1 x2 x3 x4 x5 x6 x7 x8 x9 x10 x11 x12 x13 x14 x15 x16 x17 : X} : gX (x0 :: x1 :: x2 :: x3 :: x4 :: x5 :: x6 :: x7 :: x8 :: x9 :: x10 :: x11 :: x12 :: x13 :: x14 :: x15 :: x16 :: x17 :: r) 17 = x17 := rfl
@[simp] theorem sX17 {x0 x1 x2 x3 x4 x5 x6 x7 x8 x9 x10 x11 x12 x13 x14 x15 x16 x17 : X} : sX (x0 :: x1 :: x2 :: x3 :: x4 :: x5 :: x6 :: x7 :: x8 :: x9 :: x10 :: x11 :: x12 :: x13 :: x14 :: x15 :: x16 :: x17 :: r) 17 z = x0 :: x1 :: x2 :: x3 :: x4 :: x5 :: x6 :: x7 :: x8 :: x9 :: x10 :: x11 :: x12 :: x13 :: x14 :: x15 :: x16 :: z :: r := rfl
@[simp] theorem gO17 {x0 x1 x2 x3 x4 x5 x6 x7 x8 x9 x10 x11 x12 x13 x14 x15 x16 x17 : Option Ob} : gO (x0 :: x1 :: x2 :: x3 :: x4 :: x5 :: x6 :: x7 :: x8 :: x9 :: x10 :: x11 :: x12 :: x13 :: x14 :: x15 :: x16 :: x17 :: q) 17 = x17 := rfl
@[simp] theorem sO17 {x0 x1 x2 x3 x4 x5 x6 x7 x8 x9 x10 x11 x12 x13 x14 x15 x16 x17 : Option Ob} : sO (x0 :: x1 :: x2 :: x3 :: x4 :: x5 :: x6 :: x7 :: x8 :: x9 :: x10 :: x11 :: x12 :: x13 :: x14 :: x15 :: x16 :: x17 :: q) 17 y = x0 :: x1 :: x2 :: x3 :: x4 :: x5 :: x6 :: x7 :: x8 :: x9 :: x10 :: x11 :: x12 :: x13 :: x14 :: x15 :: x16 :: y :: q := rfl
@[simp] theorem nX17 : nX 17 = [.und, .und, .und, .und, .und, .und, .und, .und, .und, .und, .und, .und, .und, .und, .und, .und, .und] := rfl
@[simp] theorem nO17 : nO 17 = [none, none, none, none, none, none, none, none, none, none, none, none, none, none, none, none, none] := rfl
@[simp] theorem gX18 {x0 x1 x2 x3 x4 x5 x6 x7 x8 x9 x10 x11 x12 x13 x14 x15 x16 x17 x18 : X} : gX (x0 :: x1 :: x2 :: x3 :: x4 :: x5 :: x6 :: x7 :: x8 :: x9 :: x10 :: x11 :: x12 :: x13 :: x14 :: x15 :: x16 :: x17 :: x18 :: r) 18 = x18 := rfl
@[simp] theorem sX18 {x0 x1 x2 x3 x4 x5 x6 x7 x8 x9 x10 x11 x12 x13 x14 x15 x16 x17 x18 : X} : sX (x0 :: x1 :: x2 :: x3 :: x4 :: x5 :: x6 :: x7 :: x8 :: x9 :: x10 :: x11 :: x12 :: x13 :: x14 :: x15 :: x16 :: x17 :: x18 :: r) 18 z = x0 :: x1 :: x2 :: x3 :: x4 :: x5 :: x6 :: x7 :: x8 :: x9 :: x10 :: x11 :: x12 :: x13 :: x14 :: x15 :: x16 :: x17 :: z :: r := rfl
@[simp] theorem gO18 {x0 x1 x2 x3 x4 x5 x6 x7 x8 x9 x10 x11 x12 x13 x14 x15 x16 x17 x18 : Option Ob} : gO (x0 :: x1 :: x2 :: x3 :: x4 :: x5 :: x6 :: x7 :: x8 :: x9 :: x10 :: x11 :: x12 :: x13 :: x14 :: x15 :: x16 :: x17 :: x18 :: q) 18 = x18 := rfl
@[simp] theorem sO18 {x0 x1 x2 x3 x4 x5 x6 x7 x8 x9 x10 x11 x12 x13 x14 x15 x16 x17 x18 : Option Ob} : sO (x0 :: x1 :: x2 :: x3 :: x4 :: x5 :: x6 :: x7 :: x8 :: x9 :: x10 :: x11 :: x12 :: x13 :: x14 :: x15 :: x16 :: x17 :: x18 :: q) 18 y = x0 :: x1 :: x2 :: x3 :: x4 :: x5 :: x6 :: x7 :: x8 :: x9 :: x10 :: x11 :: x12 :: x13 :: x14 :: x15 :: x16 :: x17 :: y :: q := rfl
@[simp] theorem nX18 : nX 18 = [.und, .und, .und, .und, .und, .und, .und, .und, .und, .und, .und, .und, .und, .und, .und, .und, .und, .und] := rfl
@[simp] theorem nO18 : nO 18 = [none, none, none, none, none, none, none, none, none, none, none, none, none, none, none, none, none, none] := rfl
@[simp] theorem gX19 {x0 x1 x2 x3 x4 x5 x6 x7 x8 x9 x10 x11 x12 x13 x14 x15 x16 x17 x18 x19 : X} : gX (x0 :: x1 :: x2 :: x3 :: x4 :: x5 :: x6 :: x7 :: x8 :: x9 :: x10 :: x11 :: x12 :: x13 :: x14 :: x15 :: x16 :: x17 :: x18 :: x19 :: r) 19 = x19 := rfl
@[simp] theorem sX19 {x0 x1 x2 x3 x4 x5 x6 x7 x8 x9 x10 x11 x12 x13 x14 x15 x16 x17 x18 x19 : X} : sX (x0 :: x1 :: x2 :: x3 :: x4 :: x5 :: x6 :: x7 :: x8 :: x9 :: x10 :: x11 :: x12 :: x13 :: x14 :: x15 :: x16 :: x17 :: x18 :: x19 :: r) 19 z = x0 :: x1 :: x2 :: x3 :: x4 :: x5 :: x6 :: x7 :: x8 :: x9 :: x10 :: x11 :: x12 :: x13 :: x14 :: x15 :: x16 :: x17 :: x18 :: z :: r := rfl
@[simp] theorem gO19 {x0 x1 x2 x3 x4 x5 x6 x7 x8 x9 x10 x11 x12 x13 x14 x15 x16 x17 x18 x19 : Option Ob} : gO (x0 :: x1 :: x2 :: x3 :: x4 :: x5 :: x6 :: x7 :: x8 :: x9 :: x10 :: x11 :: x12 :: x13 :: x14 :: x15 :: x16 :: x17 :: x18 :: x19 :: q) 19 = x19 := rfl
@[simp] theorem sO19 {x0 x1 x2 x3 x4 x5 x6 x7 x8 x9 x10 x11 x12 x13 x14 x15 x16 x17 x18 x19 : Option Ob} : sO (x0 :: x1 :: x2 :: x3 :: x4 :: x5 :: x6 :: x7 :: x8 :: x9 :: x10 :: x11 :: x12 :: x13 :: x14 :: x15 :: x16 :: x17 :: x18 :: x19 :: q) 19 y = x0 :: x1 :: x2 :: x3 :: x4 :: x5 :: x6 :: x7 :: x8 :: x9 :: x10 :: x11 :: x12 :: x13 :: x14 :: x15 :: x16 :: x17 :: x18 :: y :: q := rfl
@[simp] theorem nX19 : nX 19 = [.und, .und, .und, .und, .und, .und, .und, .und, .und, .und, .und, .und, .und, .und, .und, .und, .und, .und, .und] := rfl
@[simp] theorem nO19 : nO 19 = [none, none, none, none, none, none, none, none, none, none, none, none, none, none, none, none, none, none, none] := rfl
@[simp] theorem gX20 {x0 x1 x2 x3 x4 x5 x6 x7 x8 x9 x10 x11 x12 x13 x14 x15 x16 x17 x18 x19 x20 : X} : gX (x0 :: x1 :: x2 :: x3 :: x4 :: x5 :: x6 :: x7 :: x8 :: x9 :: x10 :: x11 :: x12 :: x13 :: x14 :: x15 :: x16 :: x17 :: x18 :: x19 :: x20 :: r) 20 = x20 := rfl
@[simp] theorem sX20 {x0 x1 x2 x3 x4 x5 x6 x7 x8 x9 x10 x11 x12 x13 x14 x15 x16 x17 x18 x19 x20 : X} : sX (x0 :: x1 :: x2 :: x3 :: x4 :: x5 :: x6 :: x7 :: x8 :: x9 :: x10 :: x11 :: x12 :: x13 :: x14 :: x15 :: x16 :: x17 :: x18 :: x19 :: x20 :: r) 20 z = x0 :: x1 :: x2 :: x3 :: x4 :: x5 :: x6 :: x7 :: x8 :: x9 :: x10 :: x11 :: x12 :: x13 :: x14 :: x15 :: x16 :: x17 :: x18 :: x19 :: z :: r := rfl
@[simp] theorem gO20 {x0 x1 x2 x3 x4 x5 x6 x7 x8 x9 x10 x11 x12 x13 x14 x15 x16 x17 x18 x19 x20 : Option Ob} : gO (x0 :: x1 :: x2 :: x3 :: x4 :: x5 :: x6 :: x7 :: x8 :: x9 :: x10 :: x11 :: x12 :: x13 :: x14 :: x15 :: x16 :: x17 :: x18 :: x19 :: x20 :: q) 20 = x20 := rfl
@[simp] theorem sO20 {x0 x1 x2 x3 x4 x5 x6 x7 x8 x9 x10 x11 x12 x13 x14 x15 x16 x17 x18 x19 x20 : Option Ob} : sO (x0 :: x1 :: x2 :: x3 :: x4 :: x5 :: x6 :: x7 :: x8 :: x9 :: x10 :: x11 :: x12 :: x13 :: x14 :: x15 :: x16 :: x17 :: x18 :: x19 :: x20 :: q) 20 y = x0 :: x1 :: x2 :: x3 :: x4 :: x5 :: x6 :: x7 :: x8 :: x9 :: x10 :: x11 :: x12 :: x13 :: x14 :: x15 :: x16 :: x17 :: x18 :: x19 :: y :: q := rfl
@[simp] theorem nX20 : nX 20 = [.und, .und, .und, .und, .und, .und, .und, .und, .und, .und, .und, .und, .und, .und, .und, .und, .und, .und, .und, .und] := rfl
@[simp] theorem nO20 : nO 20 = [none, none, none, none, none, none, none, none, none, none, none, none, none, none, none, none, none, none, none, none] := rfl
@[simp] theorem gX21 {x0 x1 x2 x3 x4 x5 x6 x7 x8 x9 x10 x11 x12 x13 x14 x15 x16 x17 x18 x19 x20 x21 : X} : gX (x0 :: x1 :: x2 :: x3 :: x4 :: x5 :: x6 :: x7 :: x8 :: x9 :: x10 :: x11 :: x12 :: x13 :: x14 :: x15 :: x16 :: x17 :: x18 :: x19 :: x20 :: x21 :: r) 21 = x21 := rfl
@[simp] theorem sX21 {x0 x1 x2 x3 x4 x5 x6 x7 x8 x9 x10 x11 x12 x13 x14 x15 x16 x17 x18 x19 x20 x21 : X} : sX (x0 :: x1 :: x2 :: x3 :: x4 :: x5 :: x6 :: x7 :: x8 :: x9 :: x10 :: x11 :: x12 :: x13 :: x14 :: x15 :: x16 :: x17 :: x18 :: x19 :: x20 :: x21 :: r) 21 z = x0 :: x1 :: x2 :: x3 :: x4 :: x5 :: x6 :: x7 :: x8 :: x9 :: x10 :: x11 :: x12 :: x13 :: x14 :: x15 :: x16 :: x17 :: x18 :: x19 :: x20 :: z :: r := rfl
@[simp] theorem gO21 {x0 x1 x2 x3 x4 x5 x6 x7 x8 x9 x10 x11 x12 x13 x14 x15 x16 x17 x18 x19 x20 x21 : Option Ob} : gO (x0 :: x1 :: x2 :: x3 :: x4 :: x5 :: x6 :: x7 :: x8 :: x9 :: x10 :: x11 :: x12 :: x13 :: x14 :: x15 :: x16 :: x17 :: x18 :: x19 :: x20 :: x21 :: q) 21 = x21 := rfl
@[simp] theorem sO21 {x0 x1 x2 x3 x4 x5 x6 x7 x8 x9 x10 x11 x12 x13 x14 x15 x16 x17 x18 x19 x20 x21 : Option Ob} : sO (x0 :: x1 :: x2 :: x3 :: x4 :: x5 :: x6 :: x7 :: x8 :: x9 :: x10 :: x11 :: x12 :: x13 :: x14 :: x15 :: x16 :: x17 :: x18 :: x19 :: x20 :: x21 :: q) 21 y = x0 :: x1 :: x2 :: x3 :: x4 :: x5 :: x6 :: x7 :: x8 :: x9 :: x10 :: x11 :: x12 :: x13 :: x14 :: x15 :: x16 :: x17 :: x18 :: x19 :: x20 :: y :: q := rfl
@[simp] theorem nX21 : nX 21 = [.und, .und, .und, .und, .und, .und, .und, .und, .und, .und, .und, .und, .und, .und, .und, .und, .und, .und, .und, .und, .und] := rfl
@[simp] theorem nO21 : nO 21 = [none, none, none, none, none, none, none, none, none, none, none, none, none, none, none, none, none, none, none, none, none] := rfl
@[simp] theorem gX22 {x0 x1 x2 x3 x4 x5 x6 x7 x8 x9 x10 x11 x12 x13 x14 x15 x16 x17 x18 x19 x20 x21 x22 : X} : gX (x0 :: x1 :: x2 :: x3 :: x4 :: x5 :: x6 :: x7 :: x8 :: x9 :: x10 :: x11 :: x12 :: x13 :: x14 :: x15 :: x16 :: x17 :: x18 :: x19 :: x20 :: x21 :: x22 :: r) 22 = x22 := rfl
@[simp] theorem sX22 {x0 x1 x2 x3 x4 x5 x6 x7 x8 x9 x10 x11 x12 x13 x14 x15 x16 x17 x18 x19 x20 x21 x22 : X} : sX (x0 :: x1 :: x2 :: x3 :: x4 :: x5 :: x6 :: x7 :: x8 :: x9 :: x10 :: x11 :: x12 :: x13 :: x14 :: x15 :: x16 :: x17 :: x18 :: x19 :: x20 :: x21 :: x22 :: r) 22 z = x0 :: x1 :: x2 :: x3 :: x4 :: x5 :: x6 :: x7 :: x8 :: x9 :: x10 :: x11 :: x12 :: x13 :: x14 :: x15 :: x16 :: x17 :: x18 :: x19 :: x20 :: x21 :: z :: r := rfl
@[simp] theorem gO22 {x0 x1 x2 x3 x4 x5 x6 x7 x8 x9 x10 x11 x12 x13 x14 x15 x16 x17 x18 x19 x20 x21 x22 : Option Ob} : gO (x0 :: x1 :: x2 :: x3 :: x4 :: x5 :: x6 :: x7 :: x8 :: x9 :: x10 :: x11 :: x12 :: x13 :: x14 :: x15 :: x16 :: x17 :: x18 :: x19 :: x20 :: x21 :: x22 :: q) 22 = x22 := rfl
@[simp] theorem sO22 {x0 x1 x2 x3 x4 x5 x6 x7 x8 x9 x10 x11 x12 x13 x14 x15 x16 x17 x18 x19 x20 x21 x22 : Option Ob} : sO (x0 :: x1 :: x2 :: x3 :: x4 :: x5 :: x6 :: x7 :: x8 :: x9 :: x10 :: x11 :: x12 :: x13 :: x14 :: x15 :: x16 :: x17 :: x18 :: x19 :: x20 :: x21 :: x22 :: q) 22 y = x0 :: x1 :: x2 :: x3 :: x4 :: x5 :: x6 :: x7 :: x8 :: x9 :: x10 :: x11 :: x12 :: x13 :: x14 :: x15 :: x16 :: x17 :: x18 :: x19 :: x20 :: x21 :: y :: q := rfl
@[simp] theorem nX22 : nX 22 = [.und, .und, .und, .und, .und, .und, .und, .und, .und, .und, .und, .und, .und, .und, .und, .und, .und, .und, .und, .und, .und, .und] := rfl
@[simp] theorem nO22 : nO 22 = [none, none, none, none, none, none, none, none, none, none, none, none, none, none, none, none, none, none, none, none, none, none] := rfl
@[simp] theorem gX23 {x0 x1 x2 x3 x4 x5 x6 x7 x8 x9 x10 x11 x12 x13 x14 x15 x16 x17 x18 x19 x20 x21 x22 x23 : X} : gX (x0 :: x1 :: x2 :: x3 :: x4 :: x5 :: x6 :: x7 :: x8 :: x9 :: x10 :: x11 :: x12 :: x13 :: x14 :: x15 :: x16 :: x17 :: x18 :: x19 :: x20 :: x21 :: x22 :: x23 :: r) 23 = x23 := rfl
@[simp] theorem sX23 {x0 x1 x2 x3 x4 x5 x6 x7 x8 x9 x10 x11 x12 x13 x14 x15 x16 x17 x18 x19 x20 x21 x22 x23 : X} : sX (x0 :: x1 :: x2 :: x3 :: x4 :: x5 :: x6 :: x7 :: x8 :: x9 :: x10 :: x11 :: x12 :: x13 :: x14 :: x15 :: x16 :: x17 :: x18 :: x19 :: x20 :: x21 :: x22 :: x23 :: r) 23 z = x0 :: x1 :: x2 :: x3 :: x4 :: x5 :: x6 :: x7 :: x8 :: x9 :: x10 :: x11 :: x12 :: x13 :: x14 :: x15 :: x16 :: x17 :: x18 :: x19 :: x20 :: x21 :: x22 :: z :: r := rfl
@[simp] theorem gO23 {x0 x1 x2 x3 x4 x5 x6 x7 x8 x9 x10 x11 x12 x13 x14 x15 x16 x17 x18 x19 x20 x21 x22 x23 : Option Ob} : gO (x0 :: x1 :: x2 :: x3 :: x4 :: x5 :: x6 :: x7 :: x8 :: x9 :: x10 :: x11 :: x12 :: x13 :: x14 :: x15 :: x16 :: x17 :: x18 :: x19 :: x20 :: x21 :: x22 :: x23 :: q) 23 = x23 := rfl
@[simp] theorem sO23 {x0 x1 x2 x3 x4 x5 x6 x7 x8 x9 x10 x11 x12 x13 x14 x15 x16 x17 x18 x19 x20 x21 x22 x23 : Option Ob} : sO (x0 :: x1 :: x2 :: x3 :: x4 :: x5 :: x6 :: x7 :: x8 :: x9 :: x10 :: x11 :: x12 :: x13 :: x14 :: x15 :: x16 :: x17 :: x18 :: x19 :: x20 :: x21 :: x22 :: x23 :: q) 23 y = x0 :: x1 :: x2 :: x3 :: x4 :: x5 :: x6 :: x7 :: x8 :: x9 :: x10 :: x11 :: x12 :: x13 :: x14 :: x15 :: x16 :: x17 :: x18 :: x19 :: x20 :: x21 :: x22 :: y :: q := rfl
@[simp] theorem nX23 : nX 23 = [.und, .und, .und, .und, .und, .und, .und, .und, .und, .und, .und, .und, .und, .und, .und, .und, .und, .und, .und, .und, .und, .und, .und] := rfl
@[simp] theorem nO23 : nO 23 = [none, none, none, none, none, none, none, none, none, none, none, none, none, none, none, none, none, none, none, none, none, none, none] := rfl
@[simp] theorem gX24 {x0 x1 x2 x3 x4 x5 x6 x7 x8 x9 x10 x11 x12 x13 x14 x15 x16 x17 x18 x19 x20 x21 x22 x23 x24 : X} : gX (x0 :: x1 :: x2 :: x3 :: x4 :: x5 :: x6 :: x7 :: x8 :: x9 :: x10 :: x11 :: x12 :: x13 :: x14 :: x15 :: x16 :: x17 :: x18 :: x19 :: x20 :: x21 :: x22 :: x23 :: x24 :: r) 24 = x24 := rfl
@[simp] theorem sX24 {x0 x1 x2 x3 x4 x5 x6 x7 x8 x9 x10 x11 x12 x13 x14 x15 x16 x17 x18 x19 x20 x21 x22 x23 x24 : X} : sX (x0 :: x1 :: x2 :: x3 :: x4 :: x5 :: x6 :: x7 :: x8 :: x9 :: x10 :: x11 :: x12 :: x13 :: x14 :: x15 :: x16 :: x17 :: x18 :: x19 :: x20 :: x21 :: x22 :: x23 :: x24 :: r) 24 z = x0 :: x1 :: x2 :: x3 :: x4 :: x5 :: x6 :: x7 :: x8 :: x9 :: x10 :: x11 :: x12 :: x13 :: x14 :: x15 :: x16 :: x17 :: x18 :: x19 :: x20 :: x21 :: x22 :: x23 :: z :: r := rfl
@[simp] theorem gO24 {x0 x1 x2 x3 x4 x5 x6 x7 x8 x9 x10 x11 x12 x13 x14 x15 x16 x17 x18 x19 x20 x21 x22 x23 x24 : Option Ob} : gO (x0 :: x1 :: x2 :: x3 :: x4 :: x5 :: x6 :: x7 :: x8 :: x9 :: x10 :: x11 :: x12 :: x13 :: x14 :: x15 :: x16 :: x17 :: x18 :: x19 :: x20 :: x21 :: x22 :: x23 :: x24 :: q) 24 = x24 := rfl
@[simp] theorem sO24 {x0 x1 x2 x3 x4 x5 x6 x7 x8 x9 x10 x11 x12 x13 x14 x15 x16 x17 x18 x19 x20 x21 x22 x23 x24 : Option Ob} : sO (x0 :: x1 :: x2 :: x3 :: x4 :: x5 :: x6 :: x7 :: x8 :: x9 :: x10 :: x11 :: x12 :: x13 :: x14 :: x15 :: x16 :: x17 :: x18 :: x19 :: x20 :: x21 :: x22 :: x23 :: x24 :: q) 24 y = x0 :: x1 :: x2 :: x3 :: x4 :: x5 :: x6 :: x7 :: x8 :: x9 :: x10 :: x11 :: x12 :: x13 :: x14 :: x15 :: x16 :: x17 :: x18 :: x19 :: x20 :: x21 :: x22 :: x23 :: y :: q := rfl
@[simp] theorem nX24 : nX 24 = [.und, .und, .und, .und, .und, .und, .und, .und, .und, .und, .und, .und, .und, .und, .und, .und, .und, .und, .und, .und, .und, .und, .und, .und] := rfl
@[simp] theorem nO24 : nO 24 = [none, none, none, none, none, none, none, none, none, none, none, none, none, none, none, none, none, none, none, none, none, none, none, none] := rfl
@[simp] theorem gX25 {x0 x1 x2 x3 x4 x5 x6 x7 x8 x9 x10 x11 x12 x13 x14 x15 x16 x17 x18 x19 x20 x21 x22 x23 x24 x25 : X} : gX (x0 :: x1 :: x2 :: x3 :: x4 :: x5 :: x6 :: x7 :: x8 :: x9 :: x10 :: x11 :: x12 :: x13 :: x14 :: x15 :: x16 :: x17 :: x18 :: x19 :: x20 :: x21 :: x22 :: x23 :: x24 :: x25 :: r) 25 = x25 := rfl
@[simp] theorem sX25 {x0 x1 x2 x3 x4 x5 x6 x7 x8 x9 x10 x11 x12 x13 x14 x15 x16 x17 x18 x19 x20 x21 x22 x23 x24 x25 : X} : sX (x0 :: x1 :: x2 :: x3 :: x4 :: x5 :: x6 :: x7 :: x8 :: x9 :: x10 :: x11 :: x12 :: x13 :: x14 :: x15 :: x16 :: x17 :: x18 :: x19 :: x20 :: x21 :: x22 :: x23 :: x24 :: x25 :: r) 25 z = x0 :: x1 :: x2 :: x3 :: x4 :: x5 :: x6 :: x7 :: x8 :: x9 :: x10 :: x11 :: x12 :: x13 :: x14 :: x15 :: x16 :: x17 :: x18 :: x19 :: x20 :: x21 :: x22 :: x23 :: x24 :: z :: r := rfl
@[simp] theorem gO25 {x0 x1 x2 x3 x4 x5 x6 x7 x8 x9 x10 x11 x12 x13 x14 x15 x16 x17 x18 x19 x20 x21 x22 x23 x24 x25 : Option Ob} : gO (x0 :: x1 :: x2 :: x3 :: x4 :: x5 :: x6 :: x7 :: x8 :: x9 :: x10 :: x11 :: x12 :: x13 :: x14 :: x15 :: x16 :: x17 :: x18 :: x19 :: x20 :: x21 :: x22 :: x23 :: x24 :: x25 :: q) 25 = x25 := rfl
@[simp] theorem sO25 {x0 x1 x2 x3 x4 x5 x6 x7 x8 x9 x10 x11 x12 x13 x14 x15 x16 x17 x18 x19 x20 x21 x22 x23 x24 x25 : Option Ob} : sO (x0 :: x1 :: x2 :: x3 :: x4 :: x5 :: x6 :: x7 :: x8 :: x9 :: x10 :: x11 :: x12 :: x13 :: x14 :: x15 :: x16 :: x17 :: x18 :: x19 :: x20 :: x21 :: x22 :: x23 :: x24 :: x25 :: q) 25 y = x0 :: x1 :: x2 :: x3 :: x4 :: x5 :: x6 :: x7 :: x8 :: x9 :: x10 :: x11 :: x12 :: x13 :: x14 :: x15 :: x16 :: x17 :: x18 :: x19 :: x20 :: x21 :: x22 :: x23 :: x24 :: y :: q := rfl
@[simp] theorem nX25 : nX 25 = [.und, .und, .und, .und, .und, .und, .und, .und, .und, .und, .und, .und, .und, .und, .und, .und, .und, .und, .und, .und, .und, .und, .und, .und, .und] := rfl
@[simp] theorem nO25 : nO 25 = [none, none, none, none, none, none, none, none, none, none, none, none, none, none, none, none, none, none, none, none, none, none, none, none, none] := rfl
@[simp] theorem gX26 {x0 x1 x2 x3 x4 x5 x6 x7 x8 x9 x10 x11 x12 x13 x14 x15 x16 x17 x18 x19 x20 x21 x22 x23 x24 x25 x26 : X} : gX (x0 :: x1 :: x2 :: x3 :: x4 :: x5 :: x6 :: x7 :: x8 :: x9 :: x10 :: x11 :: x12 :: x13 :: x14 :: x15 :: x16 :: x17 :: x18 :: x19 :: x20 :: x21 :: x22 :: x23 :: x24 :: x25 :: x26 :: r) 26 = x26 := rfl
@[simp] theorem sX26 {x0 x1 x2 x3 x4 x5 x6 x7 x8 x9 x10 x11 x12 x13 x14 x15 x16 x17 x18 x19 x20 x21 x22 x23 x24 x25 x26 : X} : sX (x0 :: x1 :: x2 :: x3 :: x4 :: x5 :: x6 :: x7 :: x8 :: x9 :: x10 :: x11 :: x12 :: x13 :: x14 :: x15 :: x16 :: x17 :: x18 :: x19 :: x20 :: x21 :: x22 :: x23 :: x24 :: x25 :: x26 :: r) 26 z = x0 :: x1 :: x2 :: x3 :: x4 :: x5 :: x6 :: x7 :: x8 :: x9 :: x10 :: x11 :: x12 :: x13 :: x14 :: x15 :: x16 :: x17 :: x18 :: x19 :: x20 :: x21 :: x22 :: x23 :: x24 :: x25 :: z :: r := rfl
@[simp] theorem gO26 {x0 x1 x2 x3 x4 x5 x6 x7 x8 x9 x10 x11 x12 x13 x14 x15 x16 x17 x18 x19 x20 x21 x22 x23 x24 x25 x26 : Option Ob} : gO (x0 :: x1 :: x2 :: x3 :: x4 :: x5 :: x6 :: x7 :: x8 :: x9 :: x10 :: x11 :: x12 :: x13 :: x14 :: x15 :: x16 :: x17 :: x18 :: x19 :: x20 :: x21 :: x22 :: x23 :: x24 :: x25 :: x26 :: q) 26 = x26 := rfl
@[simp] theorem sO26 {x0 x1 x2 x3 x4 x5 x6 x7 x8 x9 x10 x11 x12 x13 x14 x15 x16 x17 x18 x19 x20 x21 x22 x23 x24 x25 x26 : Option Ob} : sO (x0 :: x1 :: x2 :: x3 :: x4 :: x5 :: x6 :: x7 :: x8 :: x9 :: x10 :: x11 :: x12 :: x13 :: x14 :: x15 :: x16 :: x17 :: x18 :: x19 :: x20 :: x21 :: x22 :: x23 :: x24 :: x25 :: x26 :: q) 26 y = x0 :: x1 :: x2 :: x3 :: x4 :: x5 :: x6 :: x7 :: x8 :: x9 :: x10 :: x11 :: x12 :: x13 :: x14 :: x15 :: x16 :: x17 :: x18 :: x19 :: x20 :: x21 :: x22 :: x23 :: x24 :: x25 :: y :: q := rfl
@[simp] theorem nX26 : nX 26 = [.und, .und, .und, .und, .und, .und, .und, .und, .und, .und, .und, .und, .und, .und, .und, .und, .und, .und, .und, .und, .und, .und, .und, .und, .und, .und] := rfl
@[simp] theorem nO26 : nO 26 = [none, none, none, none, none, none, none, none, none, none, none, none, none, none, none, none, none, none, none, none, none, none, none, none, none, none] := rfl
@[simp] theorem gX27 {x0 x1 x2 x3 x4 x5 x6 x7 x8 x9 x10 x11 x12 x13 x14 x15 x16 x17 x18 x19 x20 x21 x22 x23 x24 x25 x26 x27 : X} : gX (x0 :: x1 :: x2 :: x3 :: x4 :: x5 :: x6 :: x7 :: x8 :: x9 :: x10 :: x11 :: x12 :: x13 :: x14 :: x15 :: x16 :: x17 :: x18 :: x19 :: x20 :: x21 :: x22 :: x23 :: x24 :: x25 :: x26 :: x27 :: r) 27 = x27 := rfl
@[simp] theorem sX27 {x0 x1 x2 x3 x4 x5 x6 x7 x8 x9 x10 x11 x12 x13 x14 x15 x16 x17 x18 x19 x20 x21 x22 x23 x24 x25 x26 x27 : X} : sX (x0 :: x1 :: x2 :: x3 :: x4 :: x5 :: x6 :: x7 :: x8 :: x9 :: x10 :: x11 :: x12 :: x13 :: x14 :: x15 :: x16 :: x17 :: x18 :: x19 :: x20 :: x21 :: x22 :: x23 :: x24 :: x25 :: x26 :: x27 :: r) 27 z = x0 :: x1 :: x2 :: x3 :: x4 :: x5 :: x6 :: x7 :: x8 :: x9 :: x10 :: x11 :: x12 :: x13 :: x14 :: x15 :: x16 :: x17 :: x18 :: x19 :: x20 :: x21 :: x22 :: x23 :: x24 :: x25 :: x26 :: z :: r := rfl
@[simp] theorem gO27 {x0 x1 x2 x3 x4 x5 x6 x7 x8 x9 x10 x11 x12 x13 x14 x15 x16 x17 x18 x19 x20 x21 x22 x23 x24 x25 x26 x27 : Option Ob} : gO (x0 :: x1 :: x2 :: x3 :: x4 :: x5 :: x6 :: x7 :: x8 :: x9 :: x10 :: x11 :: x12 :: x13 :: x14 :: x15 :: x16 :: x17 :: x18 :: x19 :: x20 :: x21 :: x22 :: x23 :: x24 :: x25 :: x26 :: x27 :: q) 27 = x27 := rfl
@[simp] theorem sO27 {x0 x1 x2 x3 x4 x5 x6 x7 x8 x9 x10 x11 x12 x13 x14 x15 x16 x17 x18 x19 x20 x21 x22 x23 x24 x25 x26 x27 : Option Ob} : sO (x0 :: x1 :: x2 :: x3 :: x4 :: x5 :: x6 :: x7 :: x8 :: x9 :: x10 :: x11 :: x12 :: x13 :: x14 :: x15 :: x16 :: x17 :: x18 :: x19 :: x20 :: x21 :: x22 :: x23 :: x24 :: x25 :: x26 :: x27 :: q) 27 y = x0 :: x1 :: x2 :: x3 :: x4 :: x5 :: x6 :: x7 :: x8 :: x9 :: x10 :: x11 :: x12 :: x13 :: x14 :: x15 :: x16 :: x17 :: x18 :: x19 :: x20 :: x21 :: x22 :: x23 :: x24 :: x25 :: x26 :: y :: q := rfl
@[simp] theorem nX27 : nX 27 = [.und, .und, .und, .und, .und, .und, .und, .und, .und, .und, .und, .und, .und, .und, .und, .und, .und, .und, .und, .und, .und, .und, .und, .und, .und, .und, .und] := rfl
@[simp] theorem nO27 : nO 27 = [none, none, none, none, none, none, none, none, none, none, none, none, none, none, none, none, none, none, none, none, none, none, none, none, none, none, none] := rfl
@[simp] theorem gX28 {x0 x1 x2 x3 x4 x5 x6 x7 x8 x9 x10 x11 x12 x13 x14 x15 x16 x17 x18 x19 x20 x21 x22 x23 x24 x25 x26 x27 x28 : X} : gX (x0 :: x1 :: x2 :: x3 :: x4 :: x5 :: x6 :: x7 :: x8 :: x9 :: x10 :: x11 :: x12 :: x13 :: x14 :: x15 :: x16 :: x17 :: x18 :: x19 :: x20 :: x21 :: x22 :: x23 :: x24 :: x25 :: x26 :: x27 :: x28 :: r) 28 = x28 := rfl
@[simp] theorem sX28 {x0 x1 x2 x3 x4 x5 x6 x7 x8 x9 x10 x11 x12 x13 x14 x15 x16 x17 x18 x19 x20 x21 x22 x23 x24 x25 x26 x27 x28 : X} : sX (x0 :: x1 :: x2 :: x3 :: x4 :: x5 :: x6 :: x7 :: x8 :: x9 :: x10 :: x11 :: x12 :: x13 :: x14 :: x15 :: x16 :: x17 :: x18 :: x19 :: x20 :: x21 :: x22 :: x23 :: x24 :: x25 :: x26 :: x27 :: x28 :: r) 28 z = x0 :: x1 :: x2 :: x3 :: x4 :: x5 :: x6 :: x7 :: x8 :: x9 :: x10 :: x11 :: x12 :: x13 :: x14 :: x15 :: x16 :: x17 :: x18 :: x19 :: x20 :: x21 :: x22 :: x23 :: x24 :: x25 :: x26 :: x27 :: z :: r := rfl
@[simp] theorem gO28 {x0 x1 x2 x3 x4 x5 x6 x7 x8 x9 x10 x11 x12 x13 x14 x15 x16 x17 x18 x19 x20 x21 x22 x23 x24 x25 x26 x27 x28 : Option Ob} : gO (x0 :: x1 :: x2 :: x3 :: x4 :: x5 :: x6 :: x7 :: x8 :: x9 :: x10 :: x11 :: x12 :: x13 :: x14 :: x15 :: x16 :: x17 :: x18 :: x19 :: x20 :: x21 :: x22 :: x23 :: x24 :: x25 :: x26 :: x27 :: x28 :: q) 28 = x28 := rfl
@[simp] theorem sO28 {x0 x1 x2 x3 x4 x5 x6 x7 x8 x9 x10 x11 x12 x13 x14 x15 x16 x17 x18 x19 x20 x21 x22 x23 x24 x25 x26 x27 x28 : Option Ob} : sO (x0 :: x1 :: x2 :: x3 :: x4 :: x5 :: x6 :: x7 :: x8 :: x9 :: x10 :: x11 :: x12 :: x13 :: x14 :: x15 :: x16 :: x17 :: x18 :: x19 :: x20 :: x21 :: x22 :: x23 :: x24 :: x25 :: x26 :: x27 :: x28 :: q) 28 y = x0 :: x1 :: x2 :: x3 :: x4 :: x5 :: x6 :: x7 :: x8 :: x9 :: x10 :: x11 :: x12 :: x13 :: x14 :: x15 :: x16 :: x17 :: x18 :: x19 :: x20 :: x21 :: x22 :: x23 :: x24 :: x25 :: x26 :: x27 :: y :: q := rfl
@[simp] theorem nX28 : nX 28 = [.und, .und, .und, .und, .und, .und, .und, .und, .und, .und, .und, .und, .und, .und, .und, .und, .und, .und, .und, .und, .und, .und, .und, .und, .und, .und, .und, .und] := rfl
@[simp] theorem nO28 : nO 28 = [none, none, none, none, none, none, none, none, none, none, none, none, none, none, none, none, none, none, none, none, none, none, none, none, none, none, none, none] := rfl
@[simp] theorem gX29 {x0 x1 x2 x3 x4 x5 x6 x7 x8 x9 x10 x11 x12 x13 x14 x15 x16 x17 x18 x19 x20 x21 x22 x23 x24 x25 x26 x27 x28 x29 : X} : gX (x0 :: x1 :: x2 :: x3 :: x4 :: x5 :: x6 :: x7 :: x8 :: x9 :: x10 :: x11 :: x12 :: x13 :: x14 :: x15 :: x16 :: x17 :: x18 :: x19 :: x20 :: x21 :: x22 :: x23 :: x24 :: x25 :: x26 :: x27 :: x28 :: x29 :: r) 29 = x29 := rfl
@[simp] theorem sX29 {x0 x1 x2 x3 x4 x5 x6 x7 x8 x9 x10 x11 x12 x13 x14 x15 x16 x17 x18 x19 x20 x21 x22 x23 x24 x25 x26 x27 x28 x29 : X} : sX (x0 :: x1 :: x2 :: x3 :: x4 :: x5 :: x6 :: x7 :: x8 :: x9 :: x10 :: x11 :: x12 :: x13 :: x14 :: x15 :: x16 :: x17 :: x18 :: x19 :: x20 :: x21 :: x22 :: x23 :: x24 :: x25 :: x26 :: x27 :: x28 :: x29 :: r) 29 z = x0 :: x1 :: x2 :: x3 :: x4 :: x5 :: x6 :: x7 :: x8 :: x9 :: x10 :: x11 :: x12 :: x13 :: x14 :: x15 :: x16 :: x17 :: x18 :: x19 :: x20 :: x21 :: x22 :: x23 :: x24 :: x25 :: x26 :: x27 :: x28 :: z :: r := rfl
@[simp] theorem gO29 {x0 x1 x2 x3 x4 x5 x6 x7 x8 x9 x10 x11 x12 x13 x14 x15 x16 x17 x18 x19 x20 x21 x22 x23 x24 x25 x26 x27 x28 x29 : Option Ob} : gO (x0 :: x1 :: x2 :: x3 :: x4 :: x5 :: x6 :: x7 :: x8 :: x9 :: x10 :: x11 :: x12 :: x13 :: x14 :: x15 :: x16 :: x17 :: x18 :: x19 :: x20 :: x21 :: x22 :: x23 :: x24 :: x25 :: x26 :: x27 :: x28 :: x29 :: q) 29 = x29 := rfl
@[simp] theorem sO29 {x0 x1 x2 x3 x4 x5 x6 x7 x8 x9 x10 x11 x12 x13 x14 x15 x16 x17 x18 x19 x20 x21 x22 x23 x24 x25 x26 x27 x28 x29 : Option Ob} : sO (x0 :: x1 :: x2 :: x3 :: x4 :: x5 :: x6 :: x7 :: x8 :: x9 :: x10 :: x11 :: x12 :: x13 :: x14 :: x15 :: x16 :: x17 :: x18 :: x19 :: x20 :: x21 :: x22 :: x23 :: x24 :: x25 :: x26 :: x27 :: x28 :: x29 :: q) 29 y = x0 :: x1 :: x2 :: x3 :: x4 :: x5 :: x6 :: x7 :: x8 :: x9 :: x10 :: x11 :: x12 :: x13 :: x14 :: x15 :: x16 :: x17 :: x18 :: x19 :: x20 :: x21 :: x22 :: x23 :: x24 :: x25 :: x26 :: x27 :: x28 :: y :: q := rfl
@[simp] theorem nX29 : nX 29 = [.und, .und, .und, .und, .und, .und, .und, .und, .und, .und, .und, .und, .und, .und, .und, .und, .und, .und, .und, .und, .und, .und, .und, .und, .und, .und, .und, .und, .und] := rfl
@[simp] theorem nO29 : nO 29 = [none, none, none, none, none, none, none, none, none, none, none, none, none, none, none, none, none, none, none, none, none, none, none, none, none, none, none, none, none] := rfl
@[simp] theorem gX30 {x0 x1 x2 x3 x4 x5 x6 x7 x8 x9 x10 x11 x12 x13 x14 x15 x16 x17 x18 x19 x20 x21 x22 x23 x24 x25 x26 x27 x28 x29 x30 : X} : gX (x0 :: x1 :: x2 :: x3 :: x4 :: x5 :: x6 :: x7 :: x8 :: x9 :: x10 :: x11 :: x12 :: x13 :: x14 :: x15 :: x16 :: x17 :: x18 :: x19 :: x20 :: x21 :: x22 :: x23 :: x24 :: x25 :: x26 :: x27 :: x28 :: x29 :: x30 :: r) 30 = x30 := rfl
@[simp] theorem sX30 {x0 x1 x2 x3 x4 x5 x6 x7 x8 x9 x10 x11 x12 x13 x14 x15 x16 x17 x18 x19 x20 x21 x22 x23 x24 x25 x26 x27 x28 x29 x30 : X} : sX (x0 :: x1 :: x2 :: x3 :: x4 :: x5 :: x6 :: x7 :: x8 :: x9 :: x10 :: x11 :: x12 :: x13 :: x14 :: x15 :: x16 :: x17 :: x18 :: x19 :: x20 :: x21 :: x22 :: x23 :: x24 :: x25 :: x26 :: x27 :: x28 :: x29 :: x30 :: r) 30 z = x0 :: x1 :: x2 :: x3 :: x4 :: x5 :: x6 :: x7 :: x8 :: x9 :: x10 :: x11 :: x12 :: x13 :: x14 :: x15 :: x16 :: x17 :: x18 :: x19 :: x20 :: x21 :: x22 :: x23 :: x24 :: x25 :: x26 :: x27 :: x28 :: x29 :: z :: r := rfl
@[simp] theorem gO30 {x0 x1 x2 x3 x4 x5 x6 x7 x8 x9 x10 x11 x12 x13 x14 x15 x16 x17 x18 x19 x20 x21 x22 x23 x24 x25 x26 x27 x28 x29 x30 : Option Ob} : gO (x0 :: x1 :: x2 :: x3 :: x4 :: x5 :: x6 :: x7 :: x8 :: x9 :: x10 :: x11 :: x12 :: x13 :: x14 :: x15 :: x16 :: x17 :: x18 :: x19 :: x20 :: x21 :: x22 :: x23 :: x24 :: x25 :: x26 :: x27 :: x28 :: x29 :: x30 :: q) 30 = x30 := rfl
@[simp] theorem sO30 {x0 x1 x2 x3 x4 x5 x6 x7 x8 x9 x10 x11 x12 x13 x14 x15 x16 x17 x18 x19 x20 x21 x22 x23 x24 x25 x26 x27 x28 x29 x30 : Option Ob} : sO (x0 :: x1 :: x2 :: x3 :: x4 :: x5 :: x6 :: x7 :: x8 :: x9 :: x10 :: x11 :: x12 :: x13 :: x14 :: x15 :: x16 :: x17 :: x18 :: x19 :: x20 :: x21 :: x22 :: x23 :: x24 :: x25 :: x26 :: x27 :: x28 :: x29 :: x30 :: q) 30 y = x0 :: x1 :: x2 :: x3 :: x4 :: x5 :: x6 :: x7 :: x8 :: x9 :: x10 :: x11 :: x12 :: x13 :: x14 :: x15 :: x16 :: x17 :: x18 :: x19 :: x20 :: x21 :: x22 :: x23 :: x24 :: x25 :: x26 :: x27 :: x28 :: x29 :: y :: q := rfl
@[simp] theorem nX30 : nX 30 = [.und, .und, .und, .und, .und, .und, .und, .und, .und, .und, .und, .und, .und, .und, .und, .und, .und, .und, .und, .und, .und, .und, .und, .und, .und, .und, .und, .und, .und, .und] := rfl
@[simp] theorem nO30 : nO 30 = [none, none, none, none, none, none, none, none, none, none, none, none, none, none, none, none, none, none, none, none, none, none, none, none, none, none, none, none, none, none] := rfl
@[simp] theorem gX31 {x0 x1 x2 x3 x4 x5 x6 x7 x8 x9 x10 x11 x12 x13 x14 x15 x16 x17 x18 x19 x20 x21 x22 x23 x24 x25 x26 x27 x28 x29 x30 x31 : X} : gX (x0 :: x1 :: x2 :: x3 :: x4 :: x5 :: x6 :: x7 :: x8 :: x9 :: x10 :: x11 :: x12 :: x13 :: x14 :: x15 :: x16 :: x17 :: x18 :: x19 :: x20 :: x21 :: x22 :: x23 :: x24 :: x25 :: x26 :: x27 :: x28 :: x29 :: x30 :: x31 :: r) 31 = x31 := rfl
@[simp] theorem sX31 {x0 x1 x2 x3 x4 x5 x6 x7 x8 x9 x10 x11 x12 x13 x14 x15 x16 x17 x18 x19 x20 x21 x22 x23 x24 x25 x26 x27 x28 x29 x30 x31 : X} : sX (x0 :: x1 :: x2 :: x3 :: x4 :: x5 :: x6 :: x7 :: x8 :: x9 :: x10 :: x11 :: x12 :: x13 :: x14 :: x15 :: x16 :: x17 :: x18 :: x19 :: x20 :: x21 :: x22 :: x23 :: x24 :: x25 :: x26 :: x27 :: x28 :: x29 :: x30 :: x31 :: r) 31 z = x0 :: x1 :: x2 :: x3 :: x4 :: x5 :: x6 :: x7 :: x8 :: x9 :: x10 :: x11 :: x12 :: x13 :: x14 :: x15 :: x16 :: x17 :: x18 :: x19 :: x20 :: x21 :: x22 :: x23 :: x24 :: x25 :: x26 :: x27 :: x28 :: x29 :: x30 :: z :: r := rfl
@[simp] theorem gO31 {x0 x1 x2 x3 x4 x5 x6 x7 x8 x9 x10 x11 x12 x13 x14 x15 x16 x17 x18 x19 x20 x21 x22 x23 x24 x25 x26 x27 x28 x29 x30 x31 : Option Ob} : gO (x0 :: x1 :: x2 :: x3 :: x4 :: x5 :: x6 :: x7 :: x8 :: x9 :: x10 :: x11 :: x12 :: x13 :: x14 :: x15 :: x16 :: x17 :: x18 :: x19 :: x20 :: x21 :: x22 :: x23 :: x24 :: x25 :: x26 :: x27 :: x28 :: x29 :: x30 :: x31 :: q) 31 = x31 := rfl
@[simp] theorem sO31 {x0 x1 x2 x3 x4 x5 x6 x7 x8 x9 x10 x11 x12 x13 x14 x15 x16 x17 x18 x19 x20 x21 x22 x23 x24 x25 x26 x27 x28 x29 x30 x31 : Option Ob} : sO (x0 :: x1 :: x2 :: x3 :: x4 :: x5 :: x6 :: x7 :: x8 :: x9 :: x10 :: x11 :: x12 :: x13 :: x14 :: x15 :: x16 :: x17 :: x18 :: x19 :: x20 :: x21 :: x22 :: x23 :: x24 :: x25 :: x26 :: x27 :: x28 :: x29 :: x30 :: x31 :: q) 31 y = x0 :: x1 :: x2 :: x3 :: x4 :: x5 :: x6 :: x7 :: x8 :: x9 :: x10 :: x11 :: x12 :: x13 :: x14 :: x15 :: x16 :: x17 :: x18 :: x19 :: x20 :: x21 :: x22 :: x23 :: x24 :: x25 :: x26 :: x27 :: x28 :: x29 :: x30 :: y :: q := rfl
@[simp] theorem nX31 : nX 31 = [.und, .und, .und, .und, .und, .und, .und, .und, .und, .und, .und, .und, .und, .und, .und, .und, .und, .und, .und, .und, .und, .und, .und, .und, .und, .und, .und, .und, .und, .und, .und] := rfl
@[simp] theorem nO31 : nO 31 = [none, none, none, none, none, none, none, none, none, none, none, none, none, none, none, none, none, none, none, none, none, none, none, none, none, none, none, none, none, none, none] := rfl
@[simp] theorem gX32 {x0 x1 x2 x3 x4 x5 x6 x7 x8 x9 x10 x11 x12 x13 x14 x15 x16 x17 x18 x19 x20 x21 x22 x23 x24 x25 x26 x27 x28 x29 x30 x31 x32 : X} : gX (x0 :: x1 :: x2 :: x3 :: x4 :: x5 :: x6 :: x7 :: x8 :: x9 :: x10 :: x11 :: x12 :: x13 :: x14 :: x15 :: x16 :: x17 :: x18 :: x19 :: x20 :: x21 :: x22 :: x23 :: x24 :: x25 :: x26 :: x27 :: x28 :: x29 :: x30 :: x31 :: x32 :: r) 32 = x32 := rfl
@[simp] theorem sX32 {x0 x1 x2 x3 x4 x5 x6 x7 x8 x9 x10 x11 x12 x13 x14 x15 x16 x17 x18 x19 x20 x21 x22 x23 x24 x25 x26 x27 x28 x29 x30 x31 x32 : X} : sX (x0 :: x1 :: x2 :: x3 :: x4 :: x5 :: x6 :: x7 :: x8 :: x9 :: x10 :: x11 :: x12 :: x13 :: x14 :: x15 :: x16 :: x17 :: x18 :: x19 :: x20 :: x21 :: x22 :: x23 :: x24 :: x25 :: x26 :: x27 :: x28 :: x29 :: x30 :: x31 :: x32 :: r) 32 z = x0 :: x1 :: x2 :: x3 :: x4 :: x5 :: x6 :: x7 :: x8 :: x9 :: x10 :: x11 :: x12 :: x13 :: x14 :: x15 :: x16 :: x17 :: x18 :: x19 :: x20 :: x21 :: x22 :: x23 :: x24 :: x25 :: x26 :: x27 :: x28 :: x29 :: x30 :: x31 :: z :: r := rfl
@[simp] theorem gO32 {x0 x1 x2 x3 x4 x5 x6 x7 x8 x9 x10 x11 x12 x13 x14 x15 x16 x17 x18 x19 x20 x21 x22 x23 x24 x25 x26 x27 x28 x29 x30 x31 x32 : Option Ob} : gO (x0 :: x1 :: x2 :: x3 :: x4 :: x5 :: x6 :: x7 :: x8 :: x9 :: x10 :: x11 :: x12 :: x13 :: x14 :: x15 :: x16 :: x17 :: x18 :: x19 :: x20 :: x21 :: x22 :: x23 :: x24 :: x25 :: x26 :: x27 :: x28 :: x29 :: x30 :: x31 :: x32 :: q) 32 = x32 := rfl
@[simp] theorem sO32 {x0 x1 x2 x3 x4 x5 x6 x7 x8 x9 x10 x11 x12 x13 x14 x15 x16 x17 x18 x19 x20 x21 x22 x23 x24 x25 x26 x27 x28 x29 x30 x31 x32 : Option Ob} : sO (x0 :: x1 :: x2 :: x3 :: x4 :: x5 :: x6 :: x7 :: x8 :: x9 :: x10 :: x11 :: x12 :: x13 :: x14 :: x15 :: x16 :: x17 :: x18 :: x19 :: x20 :: x21 :: x22 :: x23 :: x24 :: x25 :: x26 :: x27 :: x28 :: x29 :: x30 :: x31 :: x32 :: q) 32 y = x0 :: x1 :: x2 :: x3 :: x4 :: x5 :: x6 :: x7 :: x8 :: x9 :: x10 :: x11 :: x12 :: x13 :: x14 :: x15 :: x16 :: x17 :: x18 :: x19 :: x20 :: x21 :: x22 :: x23 :: x24 :: x25 :: x26 :: x27 :: x28 :: x29 :: x30 :: x31 :: y :: q := rfl
@[simp] theorem nX32 : nX 32 = [.und, .und, .und, .und, .und, .und, .und, .und, .und, .und, .und, .und, .und, .und, .und, .und, .und, .und, .und, .und, .und, .und, .und, .und, .und, .und, .und, .und, .und, .und, .und, .und] := rfl
@[simp] theorem nO32 : nO 32 = [none, none, none, none, none, none, none, none, none, none, none, none, none, none, none, none, none, none, none, none, none, none, none, none, none, none, none, none, none, none, none, none] := rfl
@[simp] theorem gX33 {x0 x1 x2 x3 x4 x5 x6 x7 x8 x9 x10 x11 x12 x13 x14 x15 x16 x17 x18 x19 x20 x21 x22 x23 x24 x25 x26 x27 x28 x29 x30 x31 x32 x33 : X} : gX (x0 :: x1 :: x2 :: x3 :: x4 :: x5 :: x6 :: x7 :: x8 :: x9 :: x10 :: x11 :: x12 :: x13 :: x14 :: x15 :: x16 :: x17 :: x18 :: x19 :: x20 :: x21 :: x22 :: x23 :: x24 :: x25 :: x26 :: x27 :: x28 :: x29 :: x30 :: x31 :: x32 :: x33 :: r) 33 = x33 := rfl
@[simp] theorem sX33 {x0 x1 x2 x3 x4 x5 x6 x7 x8 x9 x10 x11 x12 x13 x14 x15 x16 x17 x18 x19 x20 x21 x22 x23 x24 x25 x26 x27 x28 x29 x30 x31 x32 x33 : X} : sX (x0 :: x1 :: x2 :: x3 :: x4 :: x5 :: x6 :: x7 :: x8 :: x9 :: x10 :: x11 :: x12 :: x13 :: x14 :: x15 :: x16 :: x17 :: x18 :: x19 :: x20 :: x21 :: x22 :: x23 :: x24 :: x25 :: x26 :: x27 :: x28 :: x29 :: x30 :: x31 :: x32 :: x33 :: r) 33 z = x0 :: x1 :: x2 :: x3 :: x4 :: x5 :: x6 :: x7 :: x8 :: x9 :: x10 :: x11 :: x12 :: x13 :: x14 :: x15 :: x16 :: x17 :: x18 :: x19 :: x20 :: x21 :: x22 :: x23 :: x24 :: x25 :: x26 :: x27 :: x28 :: x29 :: x30 :: x31 :: x32 :: z :: r := rfl
@[simp] theorem gO33 {x0 x1 x2 x3 x4 x5 x6 x7 x8 x9 x10 x11 x12 x13 x14 x15 x16 x17 x18 x19 x20 x21 x22 x23 x24 x25 x26 x27 x28 x29 x30 x31 x32 x33 : Option Ob} : gO (x0 :: x1 :: x2 :: x3 :: x4 :: x5 :: x6 :: x7 :: x8 :: x9 :: x10 :: x11 :: x12 :: x13 :: x14 :: x15 :: x16 :: x17 :: x18 :: x19 :: x20 :: x21 :: x22 :: x23 :: x24 :: x25 :: x26 :: x27 :: x28 :: x29 :: x30 :: x31 :: x32 :: x33 :: q) 33 = x33 := rfl
@[simp] theorem sO33 {x0 x1 x2 x3 x4 x5 x6 x7 x8 x9 x10 x11 x12 x13 x14 x15 x16 x17 x18 x19 x20 x21 x22 x23 x24 x25 x26 x27 x28 x29 x30 x31 x32 x33 : Option Ob} : sO (x0 :: x1 :: x2 :: x3 :: x4 :: x5 :: x6 :: x7 :: x8 :: x9 :: x10 :: x11 :: x12 :: x13 :: x14 :: x15 :: x16 :: x17 :: x18 :: x19 :: x20 :: x21 :: x22 :: x23 :: x24 :: x25 :: x26 :: x27 :: x28 :: x29 :: x30 :: x31 :: x32 :: x33 :: q) 33 y = x0 :: x1 :: x2 :: x3 :: x4 :: x5 :: x6 :: x7 :: x8 :: x9 :: x10 :: x11 :: x12 :: x13 :: x14 :: x15 :: x16 :: x17 :: x18 :: x19 :: x20 :: x21 :: x22 :: x23 :: x24 :: x25 :: x26 :: x27 :: x28 :: x29 :: x30 :: x31 :: x32 :: y :: q := rfl
@[simp] theorem nX33 : nX 33 = [.und, .und, .und, .und, .und, .und, .und, .und, .und, .und, .und, .und, .und, .und, .und, .und, .und, .und, .und, .und, .und, .und, .und, .und, .und, .und, .und, .und, .und, .und, .und, .und, .und] := rfl
@[simp] theorem nO33 : nO 33 = [none, none, none, none, none, none, none, none, none, none, none, none, none, none, none, none, none, none, none, none, none, none, none, none, none, none, none, none, none, none, none, none, none] := rfl
@[simp] theorem gX34 {x0 x1 x2 x3 x4 x5 x6 x7 x8 x9 x10 x11 x12 x13 x14 x15 x16 x17 x18 x19 x20 x21 x22 x23 x24 x25 x26 x27 x28 x29 x30 x31 x32 x33 x34 : X} : gX (x0 :: x1 :: x2 :: x3 :: x4 :: x5 :: x6 :: x7 :: x8 :: x9 :: x10 :: x11 :: x12 :: x13 :: x14 :: x15 :: x16 :: x17 :: x18 :: x19 :: x20 :: x21 :: x22 :: x23 :: x24 :: x25 :: x26 :: x27 :: x28 :: x29 :: x30 :: x31 :: x32 :: x33 :: x34 :: r) 34 = x34 := rfl
@[simp] theorem sX34 {x0 x1 x2 x3 x4 x5 x6 x7 x8 x9 x10 x11 x12 x13 x14 x15 x16 x17 x18 x19 x20 x21 x22 x23 x24 x25 x26 x27 x28 x29 x30 x31 x32 x33 x34 : X} : sX (x0 :: x1 :: x2 :: x3 :: x4 :: x5 :: x6 :: x7 :: x8 :: x9 :: x10 :: x11 :: x12 :: x13 :: x14 :: x15 :: x16 :: x17 :: x18 :: x19 :: x20 :: x21 :: x22 :: x23 :: x24 :: x25 :: x26 :: x27 :: x28 :: x29 :: x30 :: x31 :: x32 :: x33 :: x34 :: r) 34 z = x0 :: x1 :: x2 :: x3 :: x4 :: x5 :: x6 :: x7 :: x8 :: x9 :: x10 :: x11 :: x12 :: x13 :: x14 :: x15 :: x16 :: x17 :: x18 :: x19 :: x20 :: x21 :: x22 :: x23 :: x24 :: x25 :: x26 :: x27 :: x28 :: x29 :: x30 :: x31 :: x32 :: x33 :: z :: r := rfl
@[simp] theorem gO34 {x0 x1 x2 x3 x4 x5 x6 x7 x8 x9 x10 x11 x12 x13 x14 x15 x16 x17 x18 x19 x20 x21 x22 x23 x24 x25 x26 x27 x28 x29 x30 x31 x32 x33 x34 : Option Ob} : gO (x0 :: x1 :: x2 :: x3 :: x4 :: x5 :: x6 :: x7 :: x8 :: x9 :: x10 :: x11 :: x12 :: x13 :: x14 :: x15 :: x16 :: x17 :: x18 :: x19 :: x20 :: x21 :: x22 :: x23 :: x24 :: x25 :: x26 :: x27 :: x28 :: x29 :: x30 :: x31 :: x32 :: x33 :: x34 :: q) 34 = x34 := rfl
@[simp] theorem sO34 {x0 x1 x2 x3 x4 x5 x6 x7 x8 x9 x10 x11 x12 x13 x14 x15 x16 x17 x18 x19 x20 x21 x22 x23 x24 x25 x26 x27 x28 x29 x30 x31 x32 x33 x34 : Option Ob} : sO (x0 :: x1 :: x2 :: x3 :: x4 :: x5 :: x6 :: x7 :: x8 :: x9 :: x10 :: x11 :: x12 :: x13 :: x14 :: x15 :: x16 :: x17 :: x18 :: x19 :: x20 :: x21 :: x22 :: x23 :: x24 :: x25 :: x26 :: x27 :: x28 :: x29 :: x30 :: x31 :: x32 :: x33 :: x34 :: q) 34 y = x0 :: x1 :: x2 :: x3 :: x4 :: x5 :: x6 :: x7 :: x8 :: x9 :: x10 :: x11 :: x12 :: x13 :: x14 :: x15 :: x16 :: x17 :: x18 :: x19 :: x20 :: x21 :: x22 :: x23 :: x24 :: x25 :: x26 :: x27 :: x28 :: x29 :: x30 :: x31 :: x32 :: x33 :: y :: q := rfl
@[simp] theorem nX34 : nX 34 = [.und, .und, .und, .und, .und, .und, .und, .und, .und, .und, .und, .und, .und, .und, .und, .und, .und, .und, .und, .und, .und, .und, .und, .und, .und, .und, .und, .und, .und, .und, .und, .und, .und, .und] := rfl
@[simp] theorem nO34 : nO 34 = [none, none, none, none, none, none, none, none, none, none, none, none, none, none, none, none, none, none, none, none, none, none, none, none, none, none, none, none, none, none, none, none, none, none] := rfl
@[simp] theorem gX35 {x0 x1 x2 x3 x4 x5 x6 x7 x8 x9 x10 x11 x12 x13 x14 x15 x16 x17 x18 x19 x20 x21 x22 x23 x24 x25 x26 x27 x28 x29 x30 x31 x32 x33 x34 x35 : X} : gX (x0 :: x1 :: x2 :: x3 :: x4 :: x5 :: x6 :: x7 :: x8 :: x9 :: x10 :: x11 :: x12 :: x13 :: x14 :: x15 :: x16 :: x17 :: x18 :: x19 :: x20 :: x21 :: x22 :: x23 :: x24 :: x25 :: x26 :: x27 :: x28 :: x29 :: x30 :: x31 :: x32 :: x33 :: x34 :: x35 :: r) 35 = x35 := rfl
@[simp] theorem sX35 {x0 x1 x2 x3 x4 x5 x6 x7 x8 x9 x10 x11 x12 x13 x14 x15 x16 x17 x18 x19 x20 x21 x22 x23 x24 x25 x26 x27 x28 x29 x30 x31 x32 x33 x34 x35 : X} : sX (x0 :: x1 :: x2 :: x3 :: x4 :: x5 :: x6 :: x7 :: x8 :: x9 :: x10 :: x11 :: x12 :: x13 :: x14 :: x15 :: x16 :: x17 :: x18 :: x19 :: x20 :: x21 :: x22 :: x23 :: x24 :: x25 :: x26 :: x27 :: x28 :: x29 :: x30 :: x31 :: x32 :: x33 :: x34 :: x35 :: r) 35 z = x0 :: x1 :: x2 :: x3 :: x4 :: x5 :: x6 :: x7 :: x8 :: x9 :: x10 :: x11 :: x12 :: x13 :: x14 :: x15 :: x16 :: x17 :: x18 :: x19 :: x20 :: x21 :: x22 :: x23 :: x24 :: x25 :: x26 :: x27 :: x28 :: x29 :: x30 :: x31 :: x32 :: x33 :: x34 :: z :: r := rfl
@[simp] theorem gO35 {x0 x1 x2 x3 x4 x5 x6 x7 x8 x9 x10 x11 x12 x13 x14 x15 x16 x17 x18 x19 x20 x21 x22 x23 x24 x25 x26 x27 x28 x29 x30 x31 x32 x33 x34 x35 : Option Ob} : gO (x0 :: x1 :: x2 :: x3 :: x4 :: x5 :: x6 :: x7 :: x8 :: x9 :: x10 :: x11 :: x12 :: x13 :: x14 :: x15 :: x16 :: x17 :: x18 :: x19 :: x20 :: x21 :: x22 :: x23 :: x24 :: x25 :: x26 :: x27 :: x28 :: x29 :: x30 :: x31 :: x32 :: x33 :: x34 :: x35 :: q) 35 = x35 := rfl
@[simp] theorem sO35 {x0 x1 x2 x3 x4 x5 x6 x7 x8 x9 x10 x11 x12 x13 x14 x15 x16 x17 x18 x19 x20 x21 x22 x23 x24 x25 x26 x27 x28 x29 x30 x31 x32 x33 x34 x35 : Option Ob} : sO (x0 :: x1 :: x2 :: x3 :: x4 :: x5 :: x6 :: x7 :: x8 :: x9 :: x10 :: x11 :: x12 :: x13 :: x14 :: x15 :: x16 :: x17 :: x18 :: x19 :: x20 :: x21 :: x22 :: x23 :: x24 :: x25 :: x26 :: x27 :: x28 :: x29 :: x30 :: x31 :: x32 :: x33 :: x34 :: x35 :: q) 35 y = x0 :: x1 :: x2 :: x3 :: x4 :: x5 :: x6 :: x7 :: x8 :: x9 :: x10 :: x11 :: x12 :: x13 :: x14 :: x15 :: x16 :: x17 :: x18 :: x19 :: x20 :: x21 :: x22 :: x23 :: x24 :: x25 :: x26 :: x27 :: x28 :: x29 :: x30 :: x31 :: x32 :: x33 :: x34 :: y :: q := rfl
@[simp] theorem nX35 : nX 35 = [.und, .und, .und, .und, .und, .und, .und, .und, .und, .und, .und, .und, .und, .und, .und, .und, .und, .und, .und, .und, .und, .und, .und, .und, .und, .und, .und, .und, .und, .und, .und, .und, .und, .und, .und] := rfl
@[simp] theorem nO35 : nO 35 = [none, none, none, none, none, none, none, none, none, none, none, none, none, none, none, none, none, none, none, none, none, none, none, none, none, none, none, none, none, none, none, none, none, none, none] := rfl
@[simp] theorem gX36 {x0 x1 x2 x3 x4 x5 x6 x7 x8 x9 x10 x11 x12 x13 x14 x15 x16 x17 x18 x19 x20 x21 x22 x23 x24 x25 x26 x27 x28 x29 x30 x31 x32 x33 x34 x35 x36 : X} : gX (x0 :: x1 :: x2 :: x3 :: x4 :: x5 :: x6 :: x7 :: x8 :: x9 :: x10 :: x11 :: x12 :: x13 :: x14 :: x15 :: x16 :: x17 :: x18 :: x19 :: x20 :: x21 :: x22 :: x23 :: x24 :: x25 :: x26 :: x27 :: x28 :: x29 :: x30 :: x31 :: x32 :: x33 :: x34 :: x35 :: x36 :: r) 36 = x36 := rfl
@[simp] theorem sX36 {x0 x1 x2 x3 x4 x5 x6 x7 x8 x9 x10 x11 x12 x13 x14 x15 x16 x17 x18 x19 x20 x21 x22 x23 x24 x25 x26 x27 x28 x29 x30 x31 x32 x33 x34 x35 x36 : X} : sX (x0 :: x1 :: x2 :: x3 :: x4 :: x5 :: x6 :: x7 :: x8 :: x9 :: x10 :: x11 :: x12 :: x13 :: x14 :: x15 :: x16 :: x17 :: x18 :: x19 :: x20 :: x21 :: x22 :: x23 :: x24 :: x25 :: x26 :: x27 :: x28 :: x29 :: x30 :: x31 :: x32 :: x33 :: x34 :: x35 :: x36 :: r) 36 z = x0 :: x1 :: x2 :: x3 :: x4 :: x5 :: x6 :: x7 :: x8 :: x9 :: x10 :: x11 :: x12 :: x13 :: x14 :: x15 :: x16 :: x17 :: x18 :: x19 :: x20 :: x21 :: x22 :: x23 :: x24 :: x25 :: x26 :: x27 :: x28 :: x29 :: x30 :: x31 :: x32 :: x33 :: x34 :: x35 :: z :: r := rfl
@[simp] theorem gO36 {x0 x1 x2 x3 x4 x5 x6 x7 x8 x9 x10 x11 x12 x13 x14 x15 x16 x17 x18 x19 x20 x21 x22 x23 x24 x25 x26 x27 x28 x29 x30 x31 x32 x33 x34 x35 x36 : Option Ob} : gO (x0 :: x1 :: x2 :: x3 :: x4 :: x5 :: x6 :: x7 :: x8 :: x9 :: x10 :: x11 :: x12 :: x13 :: x14 :: x15 :: x16 :: x17 :: x18 :: x19 :: x20 :: x21 :: x22 :: x23 :: x24 :: x25 :: x26 :: x27 :: x28 :: x29 :: x30 :: x31 :: x32 :: x33 :: x34 :: x35 :: x36 :: q) 36 = x36 := rfl
@[simp] theorem sO36 {x0 x1 x2 x3 x4 x5 x6 x7 x8 x9 x10 x11 x12 x13 x14 x15 x16 x17 x18 x19 x20 x21 x22 x23 x24 x25 x26 x27 x28 x29 x30 x31 x32 x33 x34 x35 x36 : Option Ob} : sO (x0 :: x1 :: x2 :: x3 :: x4 :: x5 :: x6 :: x7 :: x8 :: x9 :: x10 :: x11 :: x12 :: x13 :: x14 :: x15 :: x16 :: x17 :: x18 :: x19 :: x20 :: x21 :: x22 :: x23 :: x24 :: x25 :: x26 :: x27 :: x28 :: x29 :: x30 :: x31 :: x32 :: x33 :: x34 :: x35 :: x36 :: q) 36 y = x0 :: x1 :: x2 :: x3 :: x4 :: x5 :: x6 :: x7 :: x8 :: x9 :: x10 :: x11 :: x12 :: x13 :: x14 :: x15 :: x16 :: x17 :: x18 :: x19 :: x20 :: x21 :: x22 :: x23 :: x24 :: x25 :: x26 :: x27 :: x28 :: x29 :: x30 :: x31 :: x32 :: x33 :: x34 :: x35 :: y :: q := rfl
@[simp] theorem nX36 : nX 36 = [.und, .und, .und, .und, .und, .und, .und, .und, .und, .und, .und, .und, .und, .und, .und, .und, .und, .und, .und, .und, .und, .und, .und, .und, .und, .und, .und, .und, .und, .und, .und, .und, .und, .und, .und, .und] := rfl
@[simp] theorem nO36 : nO 36 = [none, none, none, none, none, none, none, none, none, none, none, none, none, none, none, none, none, none, none, none, none, none, none, none, none, none, none, none, none, none, none, none, none, none, none, none] := rfl
@[simp] theorem gX37 {x0 x1 x2 x3 x4 x5 x6 x7 x8 x9 x10 x11 x12 x13 x14 x15 x16 x17 x18 x19 x20 x21 x22 x23 x24 x25 x26 x27 x28 x29 x30 x31 x32 x33 x34 x35 x36 x37 : X} : gX (x0 :: x1 :: x2 :: x3 :: x4 :: x5 :: x6 :: x7 :: x8 :: x9 :: x10 :: x11 :: x12 :: x13 :: x14 :: x15 :: x16 :: x17 :: x18 :: x19 :: x20 :: x21 :: x22 :: x23 :: x24 :: x25 :: x26 :: x27 :: x28 :: x29 :: x30 :: x31 :: x32 :: x33 :: x34 :: x35 :: x36 :: x37 :: r) 37 = x37 := rfl
@[simp] theorem sX37 {x0 x1 x2 x3 x4 x5 x6 x7 x8 x9 x10 x11 x12 x13 x14 x15 x16 x17 x18 x19 x20 x21 x22 x23 x24 x25 x26 x27 x28 x29 x30 x31 x32 x33 x34 x35 x36 x37 : X} : sX (x0 :: x1 :: x2 :: x3 :: x4 :: x5 :: x6 :: x7 :: x8 :: x9 :: x10 :: x11 :: x12 :: x13 :: x14 :: x15 :: x16 :: x17 :: x18 :: x19 :: x20 :: x21 :: x22 :: x23 :: x24 :: x25 :: x26 :: x27 :: x28 :: x29 :: x30 :: x31 :: x32 :: x33 :: x34 :: x35 :: x36 :: x37 :: r) 37 z = x0 :: x1 :: x2 :: x3 :: x4 :: x5 :: x6 :: x7 :: x8 :: x9 :: x10 :: x11 :: x12 :: x13 :: x14 :: x15 :: x16 :: x17 :: x18 :: x19 :: x20 :: x21 :: x22 :: x23 :: x24 :: x25 :: x26 :: x27 :: x28 :: x29 :: x30 :: x31 :: x32 :: x33 :: x34 :: x35 :: x36 :: z :: r := rfl
@[simp] theorem gO37 {x0 x1 x2 x3 x4 x5 x6 x7 x8 x9 x10 x11 x12 x13 x14 x15 x16 x17 x18 x19 x20 x21 x22 x23 x24 x25 x26 x27 x28 x29 x30 x31 x32 x33 x34 x35 x36 x37 : Option Ob} : gO (x0 :: x1 :: x2 :: x3 :: x4 :: x5 :: x6 :: x7 :: x8 :: x9 :: x10 :: x11 :: x12 :: x13 :: x14 :: x15 :: x16 :: x17 :: x18 :: x19 :: x20 :: x21 :: x22 :: x23 :: x24 :: x25 :: x26 :: x27 :: x28 :: x29 :: x30 :: x31 :: x32 :: x33 :: x34 :: x35 :: x36 :: x37 :: q) 37 = x37 := rfl
@[simp] theorem sO37 {x0 x1 x2 x3 x4 x5 x6 x7 x8 x9 x10 x11 x12 x13 x14 x15 x16 x17 x18 x19 x20 x21 x22 x23 x24 x25 x26 x27 x28 x29 x30 x31 x32 x33 x34 x35 x36 x37 : Option Ob} : sO (x0 :: x1 :: x2 :: x3 :: x4 :: x5 :: x6 :: x7 :: x8 :: x9 :: x10 :: x11 :: x12 :: x13 :: x14 :: x15 :: x16 :: x17 :: x18 :: x19 :: x20 :: x21 :: x22 :: x23 :: x24 :: x25 :: x26 :: x27 :: x28 :: x29 :: x30 :: x31 :: x32 :: x33 :: x34 :: x35 :: x36 :: x37 :: q) 37 y = x0 :: x1 :: x2 :: x3 :: x4 :: x5 :: x6 :: x7 :: x8 :: x9 :: x10 :: x11 :: x12 :: x13 :: x14 :: x15 :: x16 :: x17 :: x18 :: x19 :: x20 :: x21 :: x22 :: x23 :: x24 :: x25 :: x26 :: x27 :: x28 :: x29 :: x30 :: x31 :: x32 :: x33 :: x34 :: x35 :: x36 :: y :: q := rfl
@[simp] theorem nX37 : nX 37 = [.und, .und, .und, .und, .und, .und, .und, .und, .und, .und, .und, .und, .und, .und, .und, .und, .und, .und, .und, .und, .und, .und, .und, .und, .und, .und, .und, .und, .und, .und, .und, .und, .und, .und, .und, .und, .und] := rfl
@[simp] theorem nO37 : nO 37 = [none, none, none, none, none, none, none, none, none, none, none, none, none, none, none, none, none, none, none, none, none, none, none, none, none, none, none, none, none, none, none, none, none, none, none, none, none] := rfl
@[simp] theorem gX38 {x0 x1 x2 x3 x4 x5 x6 x7 x8 x9 x10 x11 x12 x13 x14 x15 x16 x17 x18 x19 x20 x21 x22 x23 x24 x25 x26 x27 x28 x29 x30 x31 x32 x33 x34 x35 x36 x37 x38 : X} : gX (x0 :: x1 :: x2 :: x3 :: x4 :: x5 :: x6 :: x7 :: x8 :: x9 :: x10 :: x11 :: x12 :: x13 :: x14 :: x15 :: x16 :: x17 :: x18 :: x19 :: x20 :: x21 :: x22 :: x23 :: x24 :: x25 :: x26 :: x27 :: x28 :: x29 :: x30 :: x31 :: x32 :: x33 :: x34 :: x35 :: x36 :: x37 :: x38 :: r) 38 = x38 := rfl
@[simp] theorem sX38 {x0 x1 x2 x3 x4 x5 x6 x7 x8 x9 x10 x11 x12 x13 x14 x15 x16 x17 x18 x19 x20 x21 x22 x23 x24 x25 x26 x27 x28 x29 x30 x31 x32 x33 x34 x35 x36 x37 x38 : X} : sX (x0 :: x1 :: x2 :: x3 :: x4 :: x5 :: x6 :: x7 :: x8 :: x9 :: x10 :: x11 :: x12 :: x13 :: x14 :: x15 :: x16 :: x17 :: x18 :: x19 :: x20 :: x21 :: x22 :: x23 :: x24 :: x25 :: x26 :: x27 :: x28 :: x29 :: x30 :: x31 :: x32 :: x33 :: x34 :: x35 :: x36 :: x37 :: x38 :: r) 38 z = x0 :: x1 :: x2 :: x3 :: x4 :: x5 :: x6 :: x7 :: x8 :: x9 :: x10 :: x11 :: x12 :: x13 :: x14 :: x15 :: x16 :: x17 :: x18 :: x19 :: x20 :: x21 :: x22 :: x23 :: x24 :: x25 :: x26 :: x27 :: x28 :: x29 :: x30 :: x31 :: x32 :: x33 :: x34 :: x35 :: x36 :: x37 :: z :: r := rfl
@[simp] theorem gO38 {x0 x1 x2 x3 x4 x5 x6 x7 x8 x9 x10 x11 x12 x13 x14 x15 x16 x17 x18 x19 x20 x21 x22 x23 x24 x25 x26 x27 x28 x29 x30 x31 x32 x33 x34 x35 x36 x37 x38 : Option Ob} : gO (x0 :: x1 :: x2 :: x3 :: x4 :: x5 :: x6 :: x7 :: x8 :: x9 :: x10 :: x11 :: x12 :: x13 :: x14 :: x15 :: x16 :: x17 :: x18 :: x19 :: x20 :: x21 :: x22 :: x23 :: x24 :: x25 :: x26 :: x27 :: x28 :: x29 :: x30 :: x31 :: x32 :: x33 :: x34 :: x35 :: x36 :: x37 :: x38 :: q) 38 = x38 := rfl
@[simp] theorem sO38 {x0 x1 x2 x3 x4 x5 x6 x7 x8 x9 x10 x11 x12 x13 x14 x15 x16 x17 x18 x19 x20 x21 x22 x23 x24 x25 x26 x27 x28 x29 x30 x31 x32 x33 x34 x35 x36 x37 x38 : Option Ob} : sO (x0 :: x1 :: x2 :: x3 :: x4 :: x5 :: x6 :: x7 :: x8 :: x9 :: x10 :: x11 :: x12 :: x13 :: x14 :: x15 :: x16 :: x17 :: x18 :: x19 :: x20 :: x21 :: x22 :: x23 :: x24 :: x25 :: x26 :: x27 :: x28 :: x29 :: x30 :: x31 :: x32 :: x33 :: x34 :: x35 :: x36 :: x37 :: x38 :: q) 38 y = x0 :: x1 :: x2 :: x3 :: x4 :: x5 :: x6 :: x7 :: x8 :: x9 :: x10 :: x11 :: x12 :: x13 :: x14 :: x15 :: x16 :: x17 :: x18 :: x19 :: x20 :: x21 :: x22 :: x23 :: x24 :: x25 :: x26 :: x27 :: x28 :: x29 :: x30 :: x31 :: x32 :: x33 :: x34 :: x35 :: x36 :: x37 :: y :: q := rfl
@[simp] theorem nX38 : nX 38 = [.und, .und, .und, .und, .und, .und, .und, .und, .und, .und, .und, .und, .und, .und, .und, .und, .und, .und, .und, .und, .und, .und, .und, .und, .und, .und, .und, .und, .und, .und, .und, .und, .und, .und, .und, .und, .und, .und] := rfl
@[simp] theorem nO38 : nO 38 = [none, none, none, none, none, none, none, none, none, none, none, none, none, none, none, none, none, none, none, none, none, none, none, none, none, none, none, none, none, none, none, none, none, none, none, none, none, none] := rfl
@[simp] theorem gX39 {x0 x1 x2 x3 x4 x5 x6 x7 x8 x9 x10 x11 x12 x13 x14 x15 x16 x17 x18 x19 x20 x21 x22 x23 x24 x25 x26 x27 x28 x29 x30 x31 x32 x33 x34 x35 x36 x37 x38 x39 : X} : gX (x0 :: x1 :: x2 :: x3 :: x4 :: x5 :: x6 :: x7 :: x8 :: x9 :: x10 :: x11 :: x12 :: x13 :: x14 :: x15 :: x16 :: x17 :: x18 :: x19 :: x20 :: x21 :: x22 :: x23 :: x24 :: x25 :: x26 :: x27 :: x28 :: x29 :: x30 :: x31 :: x32 :: x33 :: x34 :: x35 :: x36 :: x37 :: x38 :: x39 :: r) 39 = x39 := rfl
@[simp] theorem sX39 {x0 x1 x2 x3 x4 x5 x6 x7 x8 x9 x10 x11 x12 x13 x14 x15 x16 x17 x18 x19 x20 x21 x22 x23 x24 x25 x26 x27 x28 x29 x30 x31 x32 x33 x34 x35 x36 x37 x38 x39 : X} : sX (x0 :: x1 :: x2 :: x3 :: x4 :: x5 :: x6 :: x7 :: x8 :: x9 :: x10 :: x11 :: x12 :: x13 :: x14 :: x15 :: x16 :: x17 :: x18 :: x19 :: x20 :: x21 :: x22 :: x23 :: x24 :: x25 :: x26 :: x27 :: x28 :: x29 :: x30 :: x31 :: x32 :: x33 :: x34 :: x35 :: x36 :: x37 :: x38 :: x39 :: r) 39 z = x0 :: x1 :: x2 :: x3 :: x4 :: x5 :: x6 :: x7 :: x8 :: x9 :: x10 :: x11 :: x12 :: x13 :: x14 :: x15 :: x16 :: x17 :: x18 :: x19 :: x20 :: x21 :: x22 :: x23 :: x24 :: x25 :: x26 :: x27 :: x28 :: x29 :: x30 :: x31 :: x32 :: x33 :: x34 :: x35 :: x36 :: x37 :: x38 :: z :: r := rfl
@[simp] theorem gO39 {x0 x1 x2 x3 x4 x5 x6 x7 x8 x9 x10 x11 x12 x13 x14 x15 x16 x17 x18 x19 x20 x21 x22 x23 x24 x25 x26 x27 x28 x29 x30 x31 x32 x33 x34 x35 x36 x37 x38 x39 : Option Ob} : gO (x0 :: x1 :: x2 :: x3 :: x4 :: x5 :: x6 :: x7 :: x8 :: x9 :: x10 :: x11 :: x12 :: x13 :: x14 :: x15 :: x16 :: x17 :: x18 :: x19 :: x20 :: x21 :: x22 :: x23 :: x24 :: x25 :: x26 :: x27 :: x28 :: x29 :: x30 :: x31 :: x32 :: x33 :: x34 :: x35 :: x36 :: x37 :: x38 :: x39 :: q) 39 = x39 := rfl
@[simp] theorem sO39 {x0 x1 x2 x3 x4 x5 x6 x7 x8 x9 x10 x11 x12 x13 x14 x15 x16 x17 x18 x19 x20 x21 x22 x23 x24 x25 x26 x27 x28 x29 x30 x31 x32 x33 x34 x35 x36 x37 x38 x39 : Option Ob} : sO (x0 :: x1 :: x2 :: x3 :: x4 :: x5 :: x6 :: x7 :: x8 :: x9 :: x10 :: x11 :: x12 :: x13 :: x14 :: x15 :: x16 :: x17 :: x18 :: x19 :: x20 :: x21 :: x22 :: x23 :: x24 :: x25 :: x26 :: x27 :: x28 :: x29 :: x30 :: x31 :: x32 :: x33 :: x34 :: x35 :: x36 :: x37 :: x38 :: x39 :: q) 39 y = x0 :: x1 :: x2 :: x3 :: x4 :: x5 :: x6 :: x7 :: x8 :: x9 :: x10 :: x11 :: x12 :: x13 :: x14 :: x15 :: x16 :: x17 :: x18 :: x19 :: x20 :: x21 :: x22 :: x23 :: x24 :: x25 :: x26 :: x27 :: x28 :: x29 :: x30 :: x31 :: x32 :: x33 :: x34 :: x35 :: x36 :: x37 :: x38 :: y :: q := rfl
@[simp] theorem nX39 : nX 39 = [.und, .und, .und, .und, .und, .und, .und, .und, .und, .und, .und, .und, .und, .und, .und, .und, .und, .und, .und, .und, .und, .und, .und, .und, .und, .und, .und, .und, .und, .und, .und, .und, .und, .und, .und, .und, .und, .und, .und] := rfl
@[simp] theorem nO39 : nO 39 = [none, none, none, none, none, none, none, none, none, none, none, none, none, none, none, none, none, none, none, none, none, none, none, none, none, none, none, none, none, none, none, none, none, none, none, none, none, none, none] := rfl
@[simp] theorem gX40 {x0 x1 x2 x3 x4 x5 x6 x7 x8 x9 x10 x11 x12 x13 x14 x15 x16 x17 x18 x19 x20 x21 x22 x23 x24 x25 x26 x27 x28 x29 x30 x31 x32 x33 x34 x35 x36 x37 x38 x39 x40 : X} : gX (x0 :: x1 :: x2 :: x3 :: x4 :: x5 :: x6 :: x7 :: x8 :: x9 :: x10 :: x11 :: x12 :: x13 :: x14 :: x15 :: x16 :: x17 :: x18 :: x19 :: x20 :: x21 :: x22 :: x23 :: x24 :: x25 :: x26 :: x27 :: x28 :: x29 :: x30 :: x31 :: x32 :: x33 :: x34 :: x35 :: x36 :: x37 :: x38 :: x39 :: x40 :: r) 40 = x40 := rfl
@[simp] theorem sX40 {x0 x1 x2 x3 x4 x5 x6 x7 x8 x9 x10 x11 x12 x13 x14 x15 x16 x17 x18 x19 x20 x21 x22 x23 x24 x25 x26 x27 x28 x29 x30 x31 x32 x33 x34 x35 x36 x37 x38 x39 x40 : X} : sX (x0 :: x1 :: x2 :: x3 :: x4 :: x5 :: x6 :: x7 :: x8 :: x9 :: x10 :: x11 :: x12 :: x13 :: x14 :: x15 :: x16 :: x17 :: x18 :: x19 :: x20 :: x21 :: x22 :: x23 :: x24 :: x25 :: x26 :: x27 :: x28 :: x29 :: x30 :: x31 :: x32 :: x33 :: x34 :: x35 :: x36 :: x37 :: x38 :: x39 :: x40 :: r) 40 z = x0 :: x1 :: x2 :: x3 :: x4 :: x5 :: x6 :: x7 :: x8 :: x9 :: x10 :: x11 :: x12 :: x13 :: x14 :: x15 :: x16 :: x17 :: x18 :: x19 :: x20 :: x21 :: x22 :: x23 :: x24 :: x25 :: x26 :: x27 :: x28 :: x29 :: x30 :: x31 :: x32 :: x33 :: x34 :: x35 :: x36 :: x37 :: x38 :: x39 :: z :: r := rfl
@[simp] theorem gO40 {x0 x1 x2 x3 x4 x5 x6 x7 x8 x9 x10 x11 x12 x13 x14 x15 x16 x17 x18 x19 x20 x21 x22 x23 x24 x25 x26 x27 x28 x29 x30 x31 x32 x33 x34 x35 x36 x37 x38 x39 x40 : Option Ob} : gO (x0 :: x1 :: x2 :: x3 :: x4 :: x5 :: x6 :: x7 :: x8 :: x9 :: x10 :: x11 :: x12 :: x13 :: x14 :: x15 :: x16 :: x17 :: x18 :: x19 :: x20 :: x21 :: x22 :: x23 :: x24 :: x25 :: x26 :: x27 :: x28 :: x29 :: x30 :: x31 :: x32 :: x33 :: x34 :: x35 :: x36 :: x37 :: x38 :: x39 :: x40 :: q) 40 = x40 := rfl
@[simp] theorem sO40 {x0 x1 x2 x3 x4 x5 x6 x7 x8 x9 x10 x11 x12 x13 x14 x15 x16 x17 x18 x19 x20 x21 x22 x23 x24 x25 x26 x27 x28 x29 x30 x31 x32 x33 x34 x35 x36 x37 x38 x39 x40 : Option Ob} : sO (x0 :: x1 :: x2 :: x3 :: x4 :: x5 :: x6 :: x7 :: x8 :: x9 :: x10 :: x11 :: x12 :: x13 :: x14 :: x15 :: x16 :: x17 :: x18 :: x19 :: x20 :: x21 :: x22 :: x23 :: x24 :: x25 :: x26 :: x27 :: x28 :: x29 :: x30 :: x31 :: x32 :: x33 :: x34 :: x35 :: x36 :: x37 :: x38 :: x39 :: x40 :: q) 40 y = x0 :: x1 :: x2 :: x3 :: x4 :: x5 :: x6 :: x7 :: x8 :: x9 :: x10 :: x11 :: x12 :: x13 :: x14 :: x15 :: x16 :: x17 :: x18 :: x19 :: x20 :: x21 :: x22 :: x23 :: x24 :: x25 :: x26 :: x27 :: x28 :: x29 :: x30 :: x31 :: x32 :: x33 :: x34 :: x35 :: x36 :: x37 :: x38 :: x39 :: y :: q := rfl
@[simp] theorem nX40 : nX 40 = [.und, .und, .und, .und, .und, .und, .und, .und, .und, .und, .und, .und, .und, .und, .und, .und, .und, .und, .und, .und, .und, .und, .und, .und, .und, .und, .und, .und, .und, .und, .und, .und, .und, .und, .und, .und, .und, .und, .und, .und] := rfl
@[simp] theorem nO40 : nO 40 = [none, none, none, none, none, none, none, none, none, none, none, none, none, none, none, none, none, none, none, none, none, none, none, none, none, none, none, none, none, none, none, none, none, none, none, none, none, none, none, none] := rfl
@[simp] theorem gX41 {x0 x1 x2 x3 x4 x5 x6 x7 x8 x9 x10 x11 x12 x13 x14 x15 x16 x17 x18 x19 x20 x21 x22 x23 x24 x25 x26 x27 x28 x29 x30 x31 x32 x33 x34 x35 x36 x37 x38 x39 x40 x41 : X} : gX (x0 :: x1 :: x2 :: x3 :: x4 :: x5 :: x6 :: x7 :: x8 :: x9 :: x10 :: x11 :: x12 :: x13 :: x14 :: x15 :: x16 :: x17 :: x18 :: x19 :: x20 :: x21 :: x22 :: x23 :: x24 :: x25 :: x26 :: x27 :: x28 :: x29 :: x30 :: x31 :: x32 :: x33 :: x34 :: x35 :: x36 :: x37 :: x38 :: x39 :: x40 :: x41 :: r) 41 = x41 := rfl
@[simp] theorem sX41 {x0 x1 x2 x3 x4 x5 x6 x7 x8 x9 x10 x11 x12 x13 x14 x15 x16 x17 x18 x19 x20 x21 x22 x23 x24 x25 x26 x27 x28 x29 x30 x31 x32 x33 x34 x35 x36 x37 x38 x39 x40 x41 : X} : sX (x0 :: x1 :: x2 :: x3 :: x4 :: x5 :: x6 :: x7 :: x8 :: x9 :: x10 :: x11 :: x12 :: x13 :: x14 :: x15 :: x16 :: x17 :: x18 :: x19 :: x20 :: x21 :: x22 :: x23 :: x24 :: x25 :: x26 :: x27 :: x28 :: x29 :: x30 :: x31 :: x32 :: x33 :: x34 :: x35 :: x36 :: x37 :: x38 :: x39 :: x40 :: x41 :: r) 41 z = x0 :: x1 :: x2 :: x3 :: x4 :: x5 :: x6 :: x7 :: x8 :: x9 :: x10 :: x11 :: x12 :: x13 :: x14 :: x15 :: x16 :: x17 :: x18 :: x19 :: x20 :: x21 :: x22 :: x23 :: x24 :: x25 :: x26 :: x27 :: x28 :: x29 :: x30 :: x31 :: x32 :: x33 :: x34 :: x35 :: x36 :: x37 :: x38 :: x39 :: x40 :: z :: r := rfl
@[simp] theorem gO41 {x0 x1 x2 x3 x4 x5 x6 x7 x8 x9 x10 x11 x12 x13 x14 x15 x16 x17 x18 x19 x20 x21 x22 x23 x24 x25 x26 x27 x28 x29 x30 x31 x32 x33 x34 x35 x36 x37 x38 x39 x40 x41 : Option Ob} : gO (x0 :: x1 :: x2 :: x3 :: x4 :: x5 :: x6 :: x7 :: x8 :: x9 :: x10 :: x11 :: x12 :: x13 :: x14 :: x15 :: x16 :: x17 :: x18 :: x19 :: x20 :: x21 :: x22 :: x23 :: x24 :: x25 :: x26 :: x27 :: x28 :: x29 :: x30 :: x31 :: x32 :: x33 :: x34 :: x35 :: x36 :: x37 :: x38 :: x39 :: x40 :: x41 :: q) 41 = x41 := rfl
@[simp] theorem sO41 {x0 x1 x2 x3 x4 x5 x6 x7 x8 x9 x10 x11 x12 x13 x14 x15 x16 x17 x18 x19 x20 x21 x22 x23 x24 x25 x26 x27 x28 x29 x30 x31 x32 x33 x34 x35 x36 x37 x38 x39 x40 x41 : Option Ob} : sO (x0 :: x1 :: x2 :: x3 :: x4 :: x5 :: x6 :: x7 :: x8 :: x9 :: x10 :: x11 :: x12 :: x13 :: x14 :: x15 :: x16 :: x17 :: x18 :: x19 :: x20 :: x21 :: x22 :: x23 :: x24 :: x25 :: x26 :: x27 :: x28 :: x29 :: x30 :: x31 :: x32 :: x33 :: x34 :: x35 :: x36 :: x37 :: x38 :: x39 :: x40 :: x41 :: q) 41 y = x0 :: x1 :: x2 :: x3 :: x4 :: x5 :: x6 :: x7 :: x8 :: x9 :: x10 :: x11 :: x12 :: x13 :: x14 :: x15 :: x16 :: x17 :: x18 :: x19 :: x20 :: x21 :: x22 :: x23 :: x24 :: x25 :: x26 :: x27 :: x28 :: x29 :: x30 :: x31 :: x32 :: x33 :: x34 :: x35 :: x36 :: x37 :: x38 :: x39 :: x40 :: y :: q := rfl
@[simp] theorem nX41 : nX 41 = [.und, .und, .und, .und, .und, .und, .und, .und, .und, .und, .und, .und, .und, .und, .und, .und, .und, .und, .und, .und, .und, .und, .und, .und, .und, .und, .und, .und, .und, .und, .und, .und, .und, .und, .und, .und, .und, .und, .und, .und, .und] := rfl
@[simp] theorem nO41 : nO 41 = [none, none, none, none, none, none, none, none, none, none, none, none, none, none, none, none, none, none, none, none, none, none, none, none, none, none, none, none, none, none, none, none, none, none, none, none, none, none, none, none, none] := rfl
@[simp] theorem gX42 {x0 x1 x2 x3 x4 x5 x6 x7 x8 x9 x10 x11 x12 x13 x14 x15 x16 x17 x18 x19 x20 x21 x22 x23 x24 x25 x26 x27 x28 x29 x30 x31 x32 x33 x34 x35 x36 x37 x38 x39 x40 x41 x42 : X} : gX (x0 :: x1 :: x2 :: x3 :: x4 :: x5 :: x6 :: x7 :: x8 :: x9 :: x10 :: x11 :: x12 :: x13 :: x14 :: x15 :: x16 :: x17 :: x18 :: x19 :: x20 :: x21 :: x22 :: x23 :: x24 :: x25 :: x26 :: x27 :: x28 :: x29 :: x30 :: x31 :: x32 :: x33 :: x34 :: x35 :: x36 :: x37 :: x38 :: x39 :: x40 :: x41 :: x42 :: r) 42 = x42 := rfl
@[simp] theorem sX42 {x0 x1 x2 x3 x4 x5 x6 x7 x8 x9 x10 x11 x12 x13 x14 x15 x16 x17 x18 x19 x20 x21 x22 x23 x24 x25 x26 x27 x28 x29 x30 x31 x32 x33 x34 x35 x36 x37 x38 x39 x40 x41 x42 : X} : sX (x0 :: x1 :: x2 :: x3 :: x4 :: x5 :: x6 :: x7 :: x8 :: x9 :: x10 :: x11 :: x12 :: x13 :: x14 :: x15 :: x16 :: x17 :: x18 :: x19 :: x20 :: x21 :: x22 :: x23 :: x24 :: x25 :: x26 :: x27 :: x28 :: x29 :: x30 :: x31 :: x32 :: x33 :: x34 :: x35 :: x36 :: x37 :: x38 :: x39 :: x40 :: x41 :: x42 :: r) 42 z = x0 :: x1 :: x2 :: x3 :: x4 :: x5 :: x6 :: x7 :: x8 :: x9 :: x10 :: x11 :: x12 :: x13 :: x14 :: x15 :: x16 :: x17 :: x18 :: x19 :: x20 :: x21 :: x22 :: x23 :: x24 :: x25 :: x26 :: x27 :: x28 :: x29 :: x30 :: x31 :: x32 :: x33 :: x34 :: x35 :: x36 :: x37 :: x38 :: x39 :: x40 :: x41 :: z :: r := rfl
@[simp] theorem gO42 {x0 x1 x2 x3 x4 x5 x6 x7 x8 x9 x10 x11 x12 x13 x14 x15 x16 x17 x18 x19 x20 x21 x22 x23 x24 x25 x26 x27 x28 x29 x30 x31 x32 x33 x34 x35 x36 x37 x38 x39 x40 x41 x42 : Option Ob} : gO (x0 :: x1 :: x2 :: x3 :: x4 :: x5 :: x6 :: x7 :: x8 :: x9 :: x10 :: x11 :: x12 :: x13 :: x14 :: x15 :: x16 :: x17 :: x18 :: x19 :: x20 :: x21 :: x22 :: x23 :: x24 :: x25 :: x26 :: x27 :: x28 :: x29 :: x30 :: x31 :: x32 :: x33 :: x34 :: x35 :: x36 :: x37 :: x38 :: x39 :: x40 :: x41 :: x42 :: q) 42 = x42 := rfl
@[simp] theorem sO42 {x0 x1 x2 x3 x4 x5 x6 x7 x8 x9 x10 x11 x12 x13 x14 x15 x16 x17 x18 x19 x20 x21 x22 x23 x24 x25 x26 x27 x28 x29 x30 x31 x32 x33 x34 x35 x36 x37 x38 x39 x40 x41 x42 : Option Ob} : sO (x0 :: x1 :: x2 :: x3 :: x4 :: x5 :: x6 :: x7 :: x8 :: x9 :: x10 :: x11 :: x12 :: x13 :: x14 :: x15 :: x16 :: x17 :: x18 :: x19 :: x20 :: x21 :: x22 :: x23 :: x24 :: x25 :: x26 :: x27 :: x28 :: x29 :: x30 :: x31 :: x32 :: x33 :: x34 :: x35 :: x36 :: x37 :: x38 :: x39 :: x40 :: x41 :: x42 :: q) 42 y = x0 :: x1 :: x2 :: x3 :: x4 :: x5 :: x6 :: x7 :: x8 :: x9 :: x10 :: x11 :: x12 :: x13 :: x14 :: x15 :: x16 :: x17 :: x18 :: x19 :: x20 :: x21 :: x22 :: x23 :: x24 :: x25 :: x26 :: x27 :: x28 :: x29 :: x30 :: x31 :: x32 :: x33 :: x34 :: x35 :: x36 :: x37 :: x38 :: x39 :: x40 :: x41 :: y :: q := rfl
@[simp] theorem nX42 : nX 42 = [.und, .und, .und, .und, .und, .und, .und, .und, .und, .und, .und, .und, .und, .und, .und, .und, .und, .und, .und, .und, .und, .und, .und, .und, .und, .und, .und, .und, .und, .und, .und, .und, .und, .und, .und, .und, .und, .und, .und, .und, .und, .und] := rfl
@[simp] theorem nO42 : nO 42 = [none, none, none, none, none, none, none, none, none, none, none, none, none, none, none, none, none, none, none, none, none, none, none, none, none, none, none, none, none, none, none, none, none, none, none, none, none, none, none, none, none, none] := rfl
@[simp] theorem gX43 {x0 x1 x2 x3 x4 x5 x6 x7 x8 x9 x10 x11 x12 x13 x14 x15 x16 x17 x18 x19 x20 x21 x22 x23 x24 x25 x26 x27 x28 x29 x30 x31 x32 x33 x34 x35 x36 x37 x38 x39 x40 x41 x42 x43 : X} : gX (x0 :: x1 :: x2 :: x3 :: x4 :: x5 :: x6 :: x7 :: x8 :: x9 :: x10 :: x11 :: x12 :: x13 :: x14 :: x15 :: x16 :: x17 :: x18 :: x19 :: x20 :: x21 :: x22 :: x23 :: x24 :: x25 :: x26 :: x27 :: x28 :: x29 :: x30 :: x31 :: x32 :: x33 :: x34 :: x35 :: x36 :: x37 :: x38 :: x39 :: x40 :: x41 :: x42 :: x43 :: r) 43 = x43 := rfl
@[simp] theorem sX43 {x0 x1 x2 x3 x4 x5 x6 x7 x8 x9 x10 x11 x12 x13 x14 x15 x16 x17 x18 x19 x20 x21 x22 x23 x24 x25 x26 x27 x28 x29 x30 x31 x32 x33 x34 x35 x36 x37 x38 x39 x40 x41 x42 x43 : X} : sX (x0 :: x1 :: x2 :: x3 :: x4 :: x5 :: x6 :: x7 :: x8 :: x9 :: x10 :: x11 :: x12 :: x13 :: x14 :: x15 :: x16 :: x17 :: x18 :: x19 :: x20 :: x21 :: x22 :: x23 :: x24 :: x25 :: x26 :: x27 :: x28 :: x29 :: x30 :: x31 :: x32 :: x33 :: x34 :: x35 :: x36 :: x37 :: x38 :: x39 :: x40 :: x41 :: x42 :: x43 :: r) 43 z = x0 :: x1 :: x2 :: x3 :: x4 :: x5 :: x6 :: x7 :: x8 :: x9 :: x10 :: x11 :: x12 :: x13 :: x14 :: x15 :: x16 :: x17 :: x18 :: x19 :: x20 :: x21 :: x22 :: x23 :: x24 :: x25 :: x26 :: x27 :: x28 :: x29 :: x30 :: x31 :: x32 :: x33 :: x34 :: x35 :: x36 :: x37 :: x38 :: x39 :: x40 :: x41 :: x42 :: z :: r := rfl
@[simp] theorem gO43 {x0 x1 x2 x3 x4 x5 x6 x7 x8 x9 x10 x11 x12 x13 x14 x15 x16 x17 x18 x19 x20 x21 x22 x23 x24 x25 x26 x27 x28 x29 x30 x31 x32 x33 x34 x35 x36 x37 x38 x39 x40 x41 x42 x43 : Option Ob} : gO (x0 :: x1 :: x2 :: x3 :: x4 :: x5 :: x6 :: x7 :: x8 :: x9 :: x10 :: x11 :: x12 :: x13 :: x14 :: x15 :: x16 :: x17 :: x18 :: x19 :: x20 :: x21 :: x22 :: x23 :: x24 :: x25 :: x26 :: x27 :: x28 :: x29 :: x30 :: x31 :: x32 :: x33 :: x34 :: x35 :: x36 :: x37 :: x38 :: x39 :: x40 :: x41 :: x42 :: x43 :: q) 43 = x43 := rfl
@[simp] theorem sO43 {x0 x1 x2 x3 x4 x5 x6 x7 x8 x9 x10 x11 x12 x13 x14 x15 x16 x17 x18 x19 x20 x21 x22 x23 x24 x25 x26 x27 x28 x29 x30 x31 x32 x33 x34 x35 x36 x37 x38 x39 x40 x41 x42 x43 : Option Ob} : sO (x0 :: x1 :: x2 :: x3 :: x4 :: x5 :: x6 :: x7 :: x8 :: x9 :: x10 :: x11 :: x12 :: x13 :: x14 :: x15 :: x16 :: x17 :: x18 :: x19 :: x20 :: x21 :: x22 :: x23 :: x24 :: x25 :: x26 :: x27 :: x28 :: x29 :: x30 :: x31 :: x32 :: x33 :: x34 :: x35 :: x36 :: x37 :: x38 :: x39 :: x40 :: x41 :: x42 :: x43 :: q) 43 y = x0 :: x1 :: x2 :: x3 :: x4 :: x5 :: x6 :: x7 :: x8 :: x9 :: x10 :: x11 :: x12 :: x13 :: x14 :: x15 :: x16 :: x17 :: x18 :: x19 :: x20 :: x21 :: x22 :: x23 :: x24 :: x25 :: x26 :: x27 :: x28 :: x29 :: x30 :: x31 :: x32 :: x33 :: x34 :: x35 :: x36 :: x37 :: x38 :: x39 :: x40 :: x41 :: x42 :: y :: q := rfl
@[simp] theorem nX43 : nX 43 = [.und, .und, .und, .und, .und, .und, .und, .und, .und, .und, .und, .und, .und, .und, .und, .und, .und, .und, .und, .und, .und, .und, .und, .und, .und, .und, .und, .und, .und, .und, .und, .und, .und, .und, .und, .und, .und, .und, .und, .und, .und, .und, .und] := rfl
@[simp] theorem nO43 : nO 43 = [none, none, none, none, none, none, none, none, none, none, none, none, none, none, none, none, none, none, none, none, none, none, none, none, none, none, none, none, none, none, none, none, none, none, none, none, none, none, none, none, none, none, none] := rfl
@[simp] theorem gX44 {x0 x1 x2 x3 x4 x5 x6 x7 x8 x9 x10 x11 x12 x13 x14 x15 x16 x17 x18 x19 x20 x21 x22 x23 x24 x25 x26 x27 x28 x29 x30 x31 x32 x33 x34 x35 x36 x37 x38 x39 x40 x41 x42 x43 x44 : X} : gX (x0 :: x1 :: x2 :: x3 :: x4 :: x5 :: x6 :: x7 :: x8 :: x9 :: x10 :: x11 :: x12 :: x13 :: x14 :: x15 :: x16 :: x17 :: x18 :: x19 :: x20 :: x21 :: x22 :: x23 :: x24 :: x25 :: x26 :: x27 :: x28 :: x29 :: x30 :: x31 :: x32 :: x33 :: x34 :: x35 :: x36 :: x37 :: x38 :: x39 :: x40 :: x41 :: x42 :: x43 :: x44 :: r) 44 = x44 := rfl
@[simp] theorem sX44 {x0 x1 x2 x3 x4 x5 x6 x7 x8 x9 x10 x11 x12 x13 x14 x15 x16 x17 x18 x19 x20 x21 x22 x23 x24 x25 x26 x27 x28 x29 x30 x31 x32 x33 x34 x35 x36 x37 x38 x39 x40 x41 x42 x43 x44 : X} : sX (x0 :: x1 :: x2 :: x3 :: x4 :: x5 :: x6 :: x7 :: x8 :: x9 :: x10 :: x11 :: x12 :: x13 :: x14 :: x15 :: x16 :: x17 :: x18 :: x19 :: x20 :: x21 :: x22 :: x23 :: x24 :: x25 :: x26 :: x27 :: x28 :: x29 :: x30 :: x31 :: x32 :: x33 :: x34 :: x35 :: x36 :: x37 :: x38 :: x39 :: x40 :: x41 :: x42 :: x43 :: x44 :: r) 44 z = x0 :: x1 :: x2 :: x3 :: x4 :: x5 :: x6 :: x7 :: x8 :: x9 :: x10 :: x11 :: x12 :: x13 :: x14 :: x15 :: x16 :: x17 :: x18 :: x19 :: x20 :: x21 :: x22 :: x23 :: x24 :: x25 :: x26 :: x27 :: x28 :: x29 :: x30 :: x31 :: x32 :: x33 :: x34 :: x35 :: x36 :: x37 :: x38 :: x39 :: x40 :: x41 :: x42 :: x43 :: z :: r := rfl
@[simp] theorem gO44 {x0 x1 x2 x3 x4 x5 x6 x7 x8 x9 x10 x11 x12 x13 x14 x15 x16 x17 x18 x19 x20 x21 x22 x23 x24 x25 x26 x27 x28 x29 x30 x31 x32 x33 x34 x35 x36 x37 x38 x39 x40 x41 x42 x43 x44 : Option Ob} : gO (x0 :: x1 :: x2 :: x3 :: x4 :: x5 :: x6 :: x7 :: x8 :: x9 :: x10 :: x11 :: x12 :: x13 :: x14 :: x15 :: x16 :: x17 :: x18 :: x19 :: x20 :: x21 :: x22 :: x23 :: x24 :: x25 :: x26 :: x27 :: x28 :: x29 :: x30 :: x31 :: x32 :: x33 :: x34 :: x35 :: x36 :: x37 :: x38 :: x39 :: x40 :: x41 :: x42 :: x43 :: x44 :: q) 44 = x44 := rfl
@[simp] theorem sO44 {x0 x1 x2 x3 x4 x5 x6 x7 x8 x9 x10 x11 x12 x13 x14 x15 x16 x17 x18 x19 x20 x21 x22 x23 x24 x25 x26 x27 x28 x29 x30 x31 x32 x33 x34 x35 x36 x37 x38 x39 x40 x41 x42 x43 x44 : Option Ob} : sO (x0 :: x1 :: x2 :: x3 :: x4 :: x5 :: x6 :: x7 :: x8 :: x9 :: x10 :: x11 :: x12 :: x13 :: x14 :: x15 :: x16 :: x17 :: x18 :: x19 :: x20 :: x21 :: x22 :: x23 :: x24 :: x25 :: x26 :: x27 :: x28 :: x29 :: x30 :: x31 :: x32 :: x33 :: x34 :: x35 :: x36 :: x37 :: x38 :: x39 :: x40 :: x41 :: x42 :: x43 :: x44 :: q) 44 y = x0 :: x1 :: x2 :: x3 :: x4 :: x5 :: x6 :: x7 :: x8 :: x9 :: x10 :: x11 :: x12 :: x13 :: x14 :: x15 :: x16 :: x17 :: x18 :: x19 :: x20 :: x21 :: x22 :: x23 :: x24 :: x25 :: x26 :: x27 :: x28 :: x29 :: x30 :: x31 :: x32 :: x33 :: x34 :: x35 :: x36 :: x37 :: x38 :: x39 :: x40 :: x41 :: x42 :: x43 :: y :: q := rfl
@[simp] theorem nX44 : nX 44 = [.und, .und, .und, .und, .und, .und, .und, .und, .und, .und, .und, .und, .und, .und, .und, .und, .und, .und, .und, .und, .und, .und, .und, .und, .und, .und, .und, .und, .und, .und, .und, .und, .und, .und, .und, .und, .und, .und, .und, .und, .und, .und, .und, .und] := rfl
@[simp] theorem nO44 : nO 44 = [none, none, none, none, none, none, none, none, none, none, none, none, none, none, none, none, none, none, none, none, none, none, none, none, none, none, none, none, none, none, none, none, none, none, none, none, none, none, none, none, none, none, none, none] := rfl
@[simp] theorem gX45 {x0 x1 x2 x3 x4 x5 x6 x7 x8 x9 x10 x11 x12 x13 x14 x15 x16 x17 x18 x19 x20 x21 x22 x23 x24 x25 x26 x27 x28 x29 x30 x31 x32 x33 x34 x35 x36 x37 x38 x39 x40 x41 x42 x43 x44 x45 : X} : gX (x0 :: x1 :: x2 :: x3 :: x4 :: x5 :: x6 :: x7 :: x8 :: x9 :: x10 :: x11 :: x12 :: x13 :: x14 :: x15 :: x16 :: x17 :: x18 :: x19 :: x20 :: x21 :: x22 :: x23 :: x24 :: x25 :: x26 :: x27 :: x28 :: x29 :: x30 :: x31 :: x32 :: x33 :: x34 :: x35 :: x36 :: x37 :: x38 :: x39 :: x40 :: x41 :: x42 :: x43 :: x44 :: x45 :: r) 45 = x45 := rfl
@[simp] theorem sX45 {x0 x1 x2 x3 x4 x5 x6 x7 x8 x9 x10 x11 x12 x13 x14 x15 x16 x17 x18 x19 x20 x21 x22 x23 x24 x25 x26 x27 x28 x29 x30 x31 x32 x33 x34 x35 x36 x37 x38 x39 x40 x41 x42 x43 x44 x45 : X} : sX (x0 :: x1 :: x2 :: x3 :: x4 :: x5 :: x6 :: x7 :: x8 :: x9 :: x10 :: x11 :: x12 :: x13 :: x14 :: x15 :: x16 :: x17 :: x18 :: x19 :: x20 :: x21 :: x22 :: x23 :: x24 :: x25 :: x26 :: x27 :: x28 :: x29 :: x30 :: x31 :: x32 :: x33 :: x34 :: x35 :: x36 :: x37 :: x38 :: x39 :: x40 :: x41 :: x42 :: x43 :: x44 :: x45 :: r) 45 z = x0 :: x1 :: x2 :: x3 :: x4 :: x5 :: x6 :: x7 :: x8 :: x9 :: x10 :: x11 :: x12 :: x13 :: x14 :: x15 :: x16 :: x17 :: x18 :: x19 :: x20 :: x21 :: x22 :: x23 :: x24 :: x25 :: x26 :: x27 :: x28 :: x29 :: x30 :: x31 :: x32 :: x33 :: x34 :: x35 :: x36 :: x37 :: x38 :: x39 :: x40 :: x41 :: x42 :: x43 :: x44 :: z :: r := rfl
@[simp] theorem gO45 {x0 x1 x2 x3 x4 x5 x6 x7 x8 x9 x10 x11 x12 x13 x14 x15 x16 x17 x18 x19 x20 x21 x22 x23 x24 x25 x26 x27 x28 x29 x30 x31 x32 x33 x34 x35 x36 x37 x38 x39 x40 x41 x42 x43 x44 x45 : Option Ob} : gO (x0 :: x1 :: x2 :: x3 :: x4 :: x5 :: x6 :: x7 :: x8 :: x9 :: x10 :: x11 :: x12 :: x13 :: x14 :: x15 :: x16 :: x17 :: x18 :: x19 :: x20 :: x21 :: x22 :: x23 :: x24 :: x25 :: x26 :: x27 :: x28 :: x29 :: x30 :: x31 :: x32 :: x33 :: x34 :: x35 :: x36 :: x37 :: x38 :: x39 :: x40 :: x41 :: x42 :: x43 :: x44 :: x45 :: q) 45 = x45 := rfl
@[simp] theorem sO45 {x0 x1 x2 x3 x4 x5 x6 x7 x8 x9 x10 x11 x12 x13 x14 x15 x16 x17 x18 x19 x20 x21 x22 x23 x24 x25 x26 x27 x28 x29 x30 x31 x32 x33 x34 x35 x36 x37 x38 x39 x40 x41 x42 x43 x44 x45 : Option Ob} : sO (x0 :: x1 :: x2 :: x3 :: x4 :: x5 :: x6 :: x7 :: x8 :: x9 :: x10 :: x11 :: x12 :: x13 :: x14 :: x15 :: x16 :: x17 :: x18 :: x19 :: x20 :: x21 :: x22 :: x23 :: x24 :: x25 :: x26 :: x27 :: x28 :: x29 :: x30 :: x31 :: x32 :: x33 :: x34 :: x35 :: x36 :: x37 :: x38 :: x39 :: x40 :: x41 :: x42 :: x43 :: x44 :: x45 :: q) 45 y = x0 :: x1 :: x2 :: x3 :: x4 :: x5 :: x6 :: x7 :: x8 :: x9 :: x10 :: x11 :: x12 :: x13 :: x14 :: x15 :: x16 :: x17 :: x18 :: x19 :: x20 :: x21 :: x22 :: x23 :: x24 :: x25 :: x26 :: x27 :: x28 :: x29 :: x30 :: x31 :: x32 :: x33 :: x34 :: x35 :: x36 :: x37 :: x38 :: x39 :: x40 :: x41 :: x42 :: x43 :: x44 :: y :: q := rfl
@[simp] theorem nX45 : nX 45 = [.und, .und, .und, .und, .und, .und, .und, .und, .und, .und, .und, .und, .und, .und, .und, .und, .und, .und, .und, .und, .und, .und, .und, .und, .und, .und, .und, .und, .und, .und, .und, .und, .und, .und, .und, .und, .und, .und, .und, .und, .und, .und, .und, .und, .und] := rfl
@[simp] theorem nO45 : nO 45 = [none, none, none, none, none, none, none, none, none, none, none, none, none, none, none, none, none, none, none, none, none, none, none, none, none, none, none, none, none, none, none, none, none, none, none, none, none, none, none, none, none, none, none, none, none] := rfl
@[simp] theorem gX46 {x0 x1 x2 x3 x4 x5 x6 x7 x8 x9 x10 x11 x12 x13 x14 x15 x16 x17 x18 x19 x20 x21 x22 x23 x24 x25 x26 x27 x28 x29 x30 x31 x32 x33 x34 x35 x36 x37 x38 x39 x40 x41 x42 x43 x44 x45 x46 : X} : gX (x0 :: x1 :: x2 :: x3 :: x4 :: x5 :: x6 :: x7 :: x8 :: x9 :: x10 :: x11 :: x12 :: x13 :: x14 :: x15 :: x16 :: x17 :: x18 :: x19 :: x20 :: x21 :: x22 :: x23 :: x24 :: x25 :: x26 :: x27 :: x28 :: x29 :: x30 :: x31 :: x32 :: x33 :: x34 :: x35 :: x36 :: x37 :: x38 :: x39 :: x40 :: x41 :: x42 :: x43 :: x44 :: x45 :: x46 :: r) 46 = x46 := rfl
@[simp] theorem sX46 {x0 x1 x2 x3 x4 x5 x6 x7 x8 x9 x10 x11 x12 x13 x14 x15 x16 x17 x18 x19 x20 x21 x22 x23 x24 x25 x26 x27 x28 x29 x30 x31 x32 x33 x34 x35 x36 x37 x38 x39 x40 x41 x42 x43 x44 x45 x46 : X} : sX (x0 :: x1 :: x2 :: x3 :: x4 :: x5 :: x6 :: x7 :: x8 :: x9 :: x10 :: x11 :: x12 :: x13 :: x14 :: x15 :: x16 :: x17 :: x18 :: x19 :: x20 :: x21 :: x22 :: x23 :: x24 :: x25 :: x26 :: x27 :: x28 :: x29 :: x30 :: x31 :: x32 :: x33 :: x34 :: x35 :: x36 :: x37 :: x38 :: x39 :: x40 :: x41 :: x42 :: x43 :: x44 :: x45 :: x46 :: r) 46 z = x0 :: x1 :: x2 :: x3 :: x4 :: x5 :: x6 :: x7 :: x8 :: x9 :: x10 :: x11 :: x12 :: x13 :: x14 :: x15 :: x16 :: x17 :: x18 :: x19 :: x20 :: x21 :: x22 :: x23 :: x24 :: x25 :: x26 :: x27 :: x28 :: x29 :: x30 :: x31 :: x32 :: x33 :: x34 :: x35 :: x36 :: x37 :: x38 :: x39 :: x40 :: x41 :: x42 :: x43 :: x44 :: x45 :: z :: r := rfl
@[simp] theorem gO46 {x0 x1 x2 x3 x4 x5 x6 x7 x8 x9 x10 x11 x12 x13 x14 x15 x16 x17 x18 x19 x20 x21 x22 x23 x24 x25 x26 x27 x28 x29 x30 x31 x32 x33 x34 x35 x36 x37 x38 x39 x40 x41 x42 x43 x44 x45 x46 : Option Ob} : gO (x0 :: x1 :: x2 :: x3 :: x4 :: x5 :: x6 :: x7 :: x8 :: x9 :: x10 :: x11 :: x12 :: x13 :: x14 :: x15 :: x16 :: x17 :: x18 :: x19 :: x20 :: x21 :: x22 :: x23 :: x24 :: x25 :: x26 :: x27 :: x28 :: x29 :: x30 :: x31 :: x32 :: x33 :: x34 :: x35 :: x36 :: x37 :: x38 :: x39 :: x40 :: x41 :: x42 :: x43 :: x44 :: x45 :: x46 :: q) 46 = x46 := rfl
@[simp] theorem sO46 {x0 x1 x2 x3 x4 x5 x6 x7 x8 x9 x10 x11 x12 x13 x14 x15 x16 x17 x18 x19 x20 x21 x22 x23 x24 x25 x26 x27 x28 x29 x30 x31 x32 x33 x34 x35 x36 x37 x38 x39 x40 x41 x42 x43 x44 x45 x46 : Option Ob} : sO (x0 :: x1 :: x2 :: x3 :: x4 :: x5 :: x6 :: x7 :: x8 :: x9 :: x10 :: x11 :: x12 :: x13 :: x14 :: x15 :: x16 :: x17 :: x18 :: x19 :: x20 :: x21 :: x22 :: x23 :: x24 :: x25 :: x26 :: x27 :: x28 :: x29 :: x30 :: x31 :: x32 :: x33 :: x34 :: x35 :: x36 :: x37 :: x38 :: x39 :: x40 :: x41 :: x42 :: x43 :: x44 :: x45 :: x46 :: q) 46 y = x0 :: x1 :: x2 :: x3 :: x4 :: x5 :: x6 :: x7 :: x8 :: x9 :: x10 :: x11 :: x12 :: x13 :: x14 :: x15 :: x16 :: x17 :: x18 :: x19 :: x20 :: x21 :: x22 :: x23 :: x24 :: x25 :: x26 :: x27 :: x28 :: x29 :: x30 :: x31 :: x32 :: x33 :: x34 :: x35 :: x36 :: x37 :: x38 :: x39 :: x40 :: x41 :: x42 :: x43 :: x44 :: x45 :: y :: q := rfl
@[simp] theorem nX46 : nX 46 = [.und, .und, .und, .und, .und, .und, .und, .und, .und, .und, .und, .und, .und, .und, .und, .und, .und, .und, .und, .und, .und, .und, .und, .und, .und, .und, .und, .und, .und, .und, .und, .und, .und, .und, .und, .und, .und, .und, .und, .und, .und, .und, .und, .und, .und, .und] := rfl
@[simp] theorem nO46 : nO 46 = [none, none, none, none, none, none, none, none, none, none, none, none, none, none, none, none, none, none, none, none, none, none, none, none, none, none, none, none, none, none, none, none, none, none, none, none, none, none, none, none, none, none, none, none, none, none] := rfl
@[simp] theorem gX47 {x0 x1 x2 x3 x4 x5 x6 x7 x8 x9 x10 x11 x12 x13 x14 x15 x16 x17 x18 x19 x20 x21 x22 x23 x24 x25 x26 x27 x28 x29 x30 x31 x32 x33 x34 x35 x36 x37 x38 x39 x40 x41 x42 x43 x44 x45 x46 x47 : X} : gX (x0 :: x1 :: x2 :: x3 :: x4 :: x5 :: x6 :: x7 :: x8 :: x9 :: x10 :: x11 :: x12 :: x13 :: x14 :: x15 :: x16 :: x17 :: x18 :: x19 :: x20 :: x21 :: x22 :: x23 :: x24 :: x25 :: x26 :: x27 :: x28 :: x29 :: x30 :: x31 :: x32 :: x33 :: x34 :: x35 :: x36 :: x37 :: x38 :: x39 :: x40 :: x41 :: x42 :: x43 :: x44 :: x45 :: x46 :: x47 :: r) 47 = x47 := rfl
@[simp] theorem sX47 {x0 x1 x2 x3 x4 x5 x6 x7 x8 x9 x10 x11 x12 x13 x14 x15 x16 x17 x18 x19 x20 x21 x22 x23 x24 x25 x26 x27 x28 x29 x30 x31 x32 x33 x34 x35 x36 x37 x38 x39 x40 x41 x42 x43 x44 x45 x46 x47 : X} : sX (x0 :: x1 :: x2 :: x3 :: x4 :: x5 :: x6 :: x7 :: x8 :: x9 :: x10 :: x11 :: x12 :: x13 :: x14 :: x15 :: x16 :: x17 :: x18 :: x19 :: x20 :: x21 :: x22 :: x23 :: x24 :: x25 :: x26 :: x27 :: x28 :: x29 :: x30 :: x31 :: x32 :: x33 :: x34 :: x35 :: x36 :: x37 :: x38 :: x39 :: x40 :: x41 :: x42 :: x43 :: x44 :: x45 :: x46 :: x47 :: r) 47 z = x0 :: x1 :: x2 :: x3 :: x4 :: x5 :: x6 :: x7 :: x8 :: x9 :: x10 :: x11 :: x12 :: x13 :: x14 :: x15 :: x16 :: x17 :: x18 :: x19 :: x20 :: x21 :: x22 :: x23 :: x24 :: x25 :: x26 :: x27 :: x28 :: x29 :: x30 :: x31 :: x32 :: x33 :: x34 :: x35 :: x36 :: x37 :: x38 :: x39 :: x40 :: x41 :: x42 :: x43 :: x44 :: x45 :: x46 :: z :: r := rfl
@[simp] theorem gO47 {x0 x1 x2 x3 x4 x5 x6 x7 x8 x9 x10 x11 x12 x13 x14 x15 x16 x17 x18 x19 x20 x21 x22 x23 x24 x25 x26 x27 x28 x29 x30 x31 x32 x33 x34 x35 x36 x37 x38 x39 x40 x41 x42 x43 x44 x45 x46 x47 : Option Ob} : gO (x0 :: x1 :: x2 :: x3 :: x4 :: x5 :: x6 :: x7 :: x8 :: x9 :: x10 :: x11 :: x12 :: x13 :: x14 :: x15 :: x16 :: x17 :: x18 :: x19 :: x20 :: x21 :: x22 :: x23 :: x24 :: x25 :: x26 :: x27 :: x28 :: x29 :: x30 :: x31 :: x32 :: x33 :: x34 :: x35 :: x36 :: x37 :: x38 :: x39 :: x40 :: x41 :: x42 :: x43 :: x44 :: x45 :: x46 :: x47 :: q) 47 = x47 := rfl
@[simp] theorem sO47 {x0 x1 x2 x3 x4 x5 x6 x7 x8 x9 x10 x11 x12 x13 x14 x15 x16 x17 x18 x19 x20 x21 x22 x23 x24 x25 x26 x27 x28 x29 x30 x31 x32 x33 x34 x35 x36 x37 x38 x39 x40 x41 x42 x43 x44 x45 x46 x47 : Option Ob} : sO (x0 :: x1 :: x2 :: x3 :: x4 :: x5 :: x6 :: x7 :: x8 :: x9 :: x10 :: x11 :: x12 :: x13 :: x14 :: x15 :: x16 :: x17 :: x18 :: x19 :: x20 :: x21 :: x22 :: x23 :: x24 :: x25 :: x26 :: x27 :: x28 :: x29 :: x30 :: x31 :: x32 :: x33 :: x34 :: x35 :: x36 :: x37 :: x38 :: x39 :: x40 :: x41 :: x42 :: x43 :: x44 :: x45 :: x46 :: x47 :: q) 47 y = x0 :: x1 :: x2 :: x3 :: x4 :: x5 :: x6 :: x7 :: x8 :: x9 :: x10 :: x11 :: x12 :: x13 :: x14 :: x15 :: x16 :: x17 :: x18 :: x19 :: x20 :: x21 :: x22 :: x23 :: x24 :: x25 :: x26 :: x27 :: x28 :: x29 :: x30 :: x31 :: x32 :: x33 :: x34 :: x35 :: x36 :: x37 :: x38 :: x39 :: x40 :: x41 :: x42 :: x43 :: x44 :: x45 :: x46 :: y :: q := rfl
@[simp] theorem nX47 : nX 47 = [.und, .und, .und, .und, .und, .und, .und, .und, .und, .und, .und, .und, .und, .und, .und, .und, .und, .und, .und, .und, .und, .und, .und, .und, .und, .und, .und, .und, .und, .und, .und, .und, .und, .und, .und, .und, .und, .und, .und, .und, .und, .und, .und, .und, .und, .und, .und] := rfl
@[simp] theorem nO47 : nO 47 = [none, none, none, none, none, none, none, none, none, none, none, none, none, none, none, none, none, none, none, none, none, none, none, none, none, none, none, none, none, none, none, none, none, none, none, none, none, none, none, none, none, none, none, none, none, none, none] := rfl
@[simp] theorem gXm {i : Nat} {x0 x1 x2 x3 x4 x5 x6 x7 x8 x9 x10 x11 x12 x13 x14 x15 x16 x17 x18 x19 x20 x21 x22 x23 x24 x25 x26 x27 x28 x29 x30 x31 x32 x33 x34 x35 x36 x37 x38 x39 x40 x41 x42 x43 x44 x45 x46 x47 : X} : gX (x0 :: x1 :: x2 :: x3 :: x4 :: x5 :: x6 :: x7 :: x8 :: x9 :: x10 :: x11 :: x12 :: x13 :: x14 :: x15 :: x16 :: x17 :: x18 :: x19 :: x20 :: x21 :: x22 :: x23 :: x24 :: x25 :: x26 :: x27 :: x28 :: x29 :: x30 :: x31 :: x32 :: x33 :: x34 :: x35 :: x36 :: x37 :: x38 :: x39 :: x40 :: x41 :: x42 :: x43 :: x44 :: x45 :: x46 :: x47 :: r) (i + 48) = gX r i := rfl
@[simp] theorem sXm {i : Nat} {x0 x1 x2 x3 x4 x5 x6 x7 x8 x9 x10 x11 x12 x13 x14 x15 x16 x17 x18 x19 x20 x21 x22 x23 x24 x25 x26 x27 x28 x29 x30 x31 x32 x33 x34 x35 x36 x37 x38 x39 x40 x41 x42 x43 x44 x45 x46 x47 : X} : sX (x0 :: x1 :: x2 :: x3 :: x4 :: x5 :: x6 :: x7 :: x8 :: x9 :: x10 :: x11 :: x12 :: x13 :: x14 :: x15 :: x16 :: x17 :: x18 :: x19 :: x20 :: x21 :: x22 :: x23 :: x24 :: x25 :: x26 :: x27 :: x28 :: x29 :: x30 :: x31 :: x32 :: x33 :: x34 :: x35 :: x36 :: x37 :: x38 :: x39 :: x40 :: x41 :: x42 :: x43 :: x44 :: x45 :: x46 :: x47 :: r) (i + 48) z = x0 :: x1 :: x2 :: x3 :: x4 :: x5 :: x6 :: x7 :: x8 :: x9 :: x10 :: x11 :: x12 :: x13 :: x14 :: x15 :: x16 :: x17 :: x18 :: x19 :: x20 :: x21 :: x22 :: x23 :: x24 :: x25 :: x26 :: x27 :: x28 :: x29 :: x30 :: x31 :: x32 :: x33 :: x34 :: x35 :: x36 :: x37 :: x38 :: x39 :: x40 :: x41 :: x42 :: x43 :: x44 :: x45 :: x46 :: x47 :: sX r i z := rfl
@[simp] theorem gOm {i : Nat} {x0 x1 x2 x3 x4 x5 x6 x7 x8 x9 x10 x11 x12 x13 x14 x15 x16 x17 x18 x19 x20 x21 x22 x23 x24 x25 x26 x27 x28 x29 x30 x31 x32 x33 x34 x35 x36 x37 x38 x39 x40 x41 x42 x43 x44 x45 x46 x47 : Option Ob} : gO (x0 :: x1 :: x2 :: x3 :: x4 :: x5 :: x6 :: x7 :: x8 :: x9 :: x10 :: x11 :: x12 :: x13 :: x14 :: x15 :: x16 :: x17 :: x18 :: x19 :: x20 :: x21 :: x22 :: x23 :: x24 :: x25 :: x26 :: x27 :: x28 :: x29 :: x30 :: x31 :: x32 :: x33 :: x34 :: x35 :: x36 :: x37 :: x38 :: x39 :: x40 :: x41 :: x42 :: x43 :: x44 :: x45 :: x46 :: x47 :: q) (i + 48) = gO q i := rfl
@[simp] theorem sOm {i : Nat} {x0 x1 x2 x3 x4 x5 x6 x7 x8 x9 x10 x11 x12 x13 x14 x15 x16 x17 x18 x19 x20 x21 x22 x23 x24 x25 x26 x27 x28 x29 x30 x31 x32 x33 x34 x35 x36 x37 x38 x39 x40 x41 x42 x43 x44 x45 x46 x47 : Option Ob} : sO (x0 :: x1 :: x2 :: x3 :: x4 :: x5 :: x6 :: x7 :: x8 :: x9 :: x10 :: x11 :: x12 :: x13 :: x14 :: x15 :: x16 :: x17 :: x18 :: x19 :: x20 :: x21 :: x22 :: x23 :: x24 :: x25 :: x26 :: x27 :: x28 :: x29 :: x30 :: x31 :: x32 :: x33 :: x34 :: x35 :: x36 :: x37 :: x38 :: x39 :: x40 :: x41 :: x42 :: x43 :: x44 :: x45 :: x46 :: x47 :: q) (i + 48) y = x0 :: x1 :: x2 :: x3 :: x4 :: x5 :: x6 :: x7 :: x8 :: x9 :: x10 :: x11 :: x12 :: x13 :: x14 :: x15 :: x16 :: x17 :: x18 :: x19 :: x20 :: x21 :: x22 :: x23 :: x24 :: x25 :: x26 :: x27 :: x28 :: x29 :: x30 :: x31 :: x32 :: x33 :: x34 :: x35 :: x36 :: x37 :: x38 :: x39 :: x40 :: x41 :: x42 :: x43 :: x44 :: x45 :: x46 :: x47 :: sO q i y := rfl
@[simp] theorem nXm {i : Nat} : nX (i + 48) = .und :: .und :: .und :: .und :: .und :: .und :: .und :: .und :: .und :: .und :: .und :: .und :: .und :: .und :: .und :: .und :: .und :: .und :: .und :: .und :: .und :: .und :: .und :: .und :: .und :: .und :: .und :: .und :: .und :: .und :: .und :: .und :: .und :: .und :: .und :: .und :: .und :: .und :: .und :: .und :: .und :: .und :: .und :: .und :: .und :: .und :: .und :: .und :: nX i := rfl
@[simp] theorem nOm {i : Nat} : nO (i + 48) = none :: none :: none :: none :: none :: none :: none :: none :: none :: none :: none :: none :: none :: none :: none :: none :: none :: none :: none :: none :: none :: none :: none :: none :: none :: none :: none :: none :: none :: none :: none :: none :: none :: none :: none :: none :: none :: none :: none :: none :: none :: none :: none :: none :: none :: none :: none :: none :: nO i := rfl
@[simp] theorem gXs {x : X} {i : Nat} : gX (x :: r) (i + 1) = gX r i := rfl
@[simp] theorem sXs {x : X} {i : Nat} : sX (x :: r) (i + 1) z = x :: sX r i z := rfl
@[simp] theorem gOs {x : Option Ob} {i : Nat} : gO (x :: q) (i + 1) = gO q i := rfl
@[simp] theorem sOs {x : Option Ob} {i : Nat} : sO (x :: q) (i + 1) y = x :: sO q i y := rfl
end
end Go.Proofs.Ytojbfdkpelldoaa.Ae

namespace Go.Proofs.Ytojbfdkpelldoaa.Dig
def B : Nat := 4294967296
theorem B_pos : 0 < B := by decide
def val : List Nat → Nat
  | [] => 0
  | d :: ds => d + B * val ds
def Digs (ds : List Nat) : Prop := ∀ d ∈ ds, d < B
def mag (n : Nat) : List Nat := if h : n = 0 then [] else (n % B) :: mag (n / B)
termination_by n
decreasing_by exact Nat.div_lt_self (Nat.pos_of_ne_zero h) (by decide)
theorem Digs.nil : Digs [] := fun _ h => by cases h
theorem Digs.cons {d : Nat} {ds : List Nat} (h : d < B) (hs : Digs ds) : Digs (d :: ds) := fun x hx => by
  rcases List.mem_cons.1 hx with rfl | hx
  · exact h
  · exact hs x hx
theorem Digs.append {a b : List Nat} (ha : Digs a) (hb : Digs b) : Digs (a ++ b) := fun x hx => by
  rcases List.mem_append.1 hx with hx | hx
  · exact ha x hx
  · exact hb x hx
theorem Digs.left {a b : List Nat} (h : Digs (a ++ b)) : Digs a := fun x hx => h x (List.mem_append.2 (.inl hx))
theorem Digs.right {a b : List Nat} (h : Digs (a ++ b)) : Digs b := fun x hx => h x (List.mem_append.2 (.inr hx))
theorem Digs.at {ds : List Nat} (h : Digs ds) {i d : Nat} (hi : ds[i]? = some d) : d < B := h d (List.mem_of_getElem? hi)
theorem Digs.take {ds : List Nat} (h : Digs ds) (i : Nat) : Digs (ds.take i) := fun x hx => h x (List.mem_of_mem_take hx)
theorem Digs.drop {ds : List Nat} (h : Digs ds) (i : Nat) : Digs (ds.drop i) := fun x hx => h x (List.mem_of_mem_drop hx)
theorem Digs.set {ds : List Nat} (h : Digs ds) (i : Nat) {d : Nat} (hd : d < B) : Digs (ds.set i d) := fun x hx => by
  rcases List.mem_or_eq_of_mem_set hx with hx | rfl
  · exact h x hx
  · exact hd
theorem Digs.zeros (n : Nat) : Digs (List.replicate n 0) := fun x hx => by
  rw [List.eq_of_mem_replicate hx]; exact B_pos
def dig : Nat → Nat → List Nat
  | 0, _ => []
  | n + 1, x => (x % B) :: dig n (x / B)
end Go.Proofs.Ytojbfdkpelldoaa.Dig

namespace Go.Proofs.Ytojbfdkpelldoaa.Ae
open Go Go.RowKit Go.Proofs.Ytojbfdkpelldoaa.Dig
section
variable {P : Program} {mf : FuncId → Bool} {tb : FuncId → Option Ct}
def nf (s : St) : St := s
@[simp] theorem nf_mk (tm : List X) (ob : List (Option Ob)) : nf ⟨tm, ob⟩ = ⟨tm, ob⟩ := rfl
def Kseq (P : Program) (mf : FuncId → Bool) (tb : FuncId → Option Ct) (y : Code) (K : Exit → St → Prop) : Exit → St → Prop := fun e s => match e with
  | .normal => awp P mf tb y s K
  | e => K e s
def Kblk (i : Nat) (K : Exit → St → Prop) : Exit → St → Prop := fun e s => match e with
  | .exit j => if j = i then K .normal s else K (.exit j) s
  | e => K e s
def Knrm (K : Exit → St → Prop) : St → Prop := fun s => K .normal s
def Kops (P : Program) (mf : FuncId → Bool) (tb : FuncId → Option Ct) (ops : Array Oper) (l : List Oper) (K : St → Prop) : St → Prop := fun s => aops P mf tb ops l s K
def Klp (KN : St → Prop) (K : Exit → St → Prop) : Exit → St → Prop := fun e s => match e with
  | .normal => KN s
  | e => K e s
@[simp] theorem kseq_n {y : Code} {K : Exit → St → Prop} {s : St} : Kseq P mf tb y K .normal s = awp P mf tb y (nf s) K := rfl
@[simp] theorem kseq_e {y : Code} {K : Exit → St → Prop} {i : Nat} {s : St} : Kseq P mf tb y K (.exit i) s = K (.exit i) s := rfl
@[simp] theorem kseq_r {y : Code} {K : Exit → St → Prop} {s : St} : Kseq P mf tb y K .ret s = K .ret s := rfl
@[simp] theorem kblk_n {i : Nat} {K : Exit → St → Prop} {s : St} : Kblk i K .normal s = K .normal s := rfl
@[simp] theorem kblk_e {i j : Nat} {K : Exit → St → Prop} {s : St} : Kblk i K (.exit j) s = if j = i then K .normal s else K (.exit j) s := rfl
@[simp] theorem kblk_r {i : Nat} {K : Exit → St → Prop} {s : St} : Kblk i K .ret s = K .ret s := rfl
@[simp] theorem knrm {K : Exit → St → Prop} {s : St} : Knrm K s = K .normal s := rfl
@[simp] theorem kops {ops : Array Oper} {l : List Oper} {K : St → Prop} {s : St} : Kops P mf tb ops l K s = aops P mf tb ops l (nf s) K := rfl
@[simp] theorem klp_n {KN : St → Prop} {K : Exit → St → Prop} {s : St} : Klp KN K .normal s = KN s := rfl
@[simp] theorem klp_e {KN : St → Prop} {K : Exit → St → Prop} {i : Nat} {s : St} : Klp KN K (.exit i) s = K (.exit i) s := rfl
@[simp] theorem klp_r {KN : St → Prop} {K : Exit → St → Prop} {s : St} : Klp KN K .ret s = K .ret s := rfl
def fin (r : Out) (d : Option Nat) (s : St) (k : St → Prop) : Prop := r.pre ∧ k (s.apply d r)
def gstep (P : Program) (mf : FuncId → Bool) (tb : FuncId → Option Ct) (g : Gd) (o : Oper) (s : St) (k : St → Prop) : Prop := match g with
  | .go => fin (aop P mf tb s o) o.dst s k
  | .no => k (s.put o.dst .und)
  | .test t c b => (c = b → fin (aop P mf tb (s.put (some t) (.dat (.lit (.bool b)))) o) o.dst (s.put (some t) (.dat (.lit (.bool b)))) k) ∧ (c = !b → k ((s.put (some t) (.dat (.lit (.bool (!b))))).put o.dst .und))
  | .bad => False
def condm (P : Program) (mf : FuncId → Bool) (tb : FuncId → Option Ct) (v : X) (c : Operand) (x y : Code) (s : St) (k : Exit → St → Prop) : Prop := match v with
  | .dat (.lit (.bool v)) => (v = true → awp P mf tb x (refineC s c true) k) ∧ (v = false → awp P mf tb y (refineC s c false) k)
  | _ => False
@[congr] theorem awp_cg2 {c : Code} {K : Exit → St → Prop} {s s' : St} (h : s = s') : awp P mf tb c s K = awp P mf tb c s' K := by rw [h]
@[congr] theorem aops_cg2 {ops : Array Oper} {l : List Oper} {K : St → Prop} {s s' : St} (h : s = s') : aops P mf tb ops l s K = aops P mf tb ops l s' K := by rw [h]
@[congr] theorem fin_cg {r r' : Out} {d : Option Nat} {s : St} {k : St → Prop} (h : r = r') : fin r d s k = fin r' d s k := by rw [h]
@[congr] theorem gstep_cg {g g' : Gd} {o : Oper} {s : St} {k : St → Prop} (h : g = g') : gstep P mf tb g o s k = gstep P mf tb g' o s k := by rw [h]
@[congr] theorem condm_cg {v v' : X} {c : Operand} {x y : Code} {s : St} {k : Exit → St → Prop} (h : v = v') : condm P mf tb v c x y s k = condm P mf tb v' c x y s k := by rw [h]
@[simp] theorem w_skip {s : St} {K : Exit → St → Prop} : awp P mf tb .skip s K = K .normal s := rfl
@[simp] theorem w_exit {s : St} {i : Nat} {K : Exit → St → Prop} : awp P mf tb (.exit i) s K = K (.exit i) s := rfl
@[simp] theorem w_ret {s : St} {K : Exit → St → Prop} : awp P mf tb .ret s K = K .ret s := rfl
@[simp] theorem w_seq {x y : Code} {s : St} {K : Exit → St → Prop} : awp P mf tb (.seq x y) s K = awp P mf tb x (nf s) (Kseq P mf tb y K) := rfl
@[simp] theorem w_block {x : Code} {i : Nat} {s : St} {K : Exit → St → Prop} : awp P mf tb (.block i x) s K = awp P mf tb x (nf s) (Kblk i K) := rfl
@[simp] theorem w_cond {c : Operand} {x y : Code} {s : St} {K : Exit → St → Prop} : awp P mf tb (.cond c x y) s K = condm P mf tb (ev s c) c x y s K := rfl
def fresh (l : List Nat) (tm : List X) : Prop := l = [] ∨ NoRefs l tm
@[simp] theorem fresh_nil {tm : List X} : fresh [] tm = True := by simp [fresh]
@[simp] theorem fresh_cons {a : Nat} {l : List Nat} {tm : List X} : fresh (a :: l) tm = NoRefs (a :: l) tm := by simp [fresh]
def regn (P : Program) (mf : FuncId → Bool) (tb : FuncId → Option Ct) (p : Prop) (ops : Array Oper) (l : List Oper) (s : St) (K : St → Prop) : Prop := p ∧ aops P mf tb ops l s K
@[congr] theorem regn_cg {p p' : Prop} {ops : Array Oper} {l : List Oper} {s : St} {K : St → Prop} (h : p = p') : regn P mf tb p ops l s K = regn P mf tb p' ops l s K := by rw [h]
@[simp] theorem regn_true {ops : Array Oper} {l : List Oper} {s : St} {K : St → Prop} : regn P mf tb True ops l s K = aops P mf tb ops l (nf s) K := by simp [regn, nf]
@[simp] theorem w_region {i : Nat} {l : List Oper} {d : Bool} {s : St} {K : Exit → St → Prop} : awp P mf tb (.region i l.toArray d) s K = (match isNx l with
    | true => d = false ∧ nxW l s (Knrm K)
    | false => regn P (mfR mf i) tb (fresh (mkIds l) s.tm) l.toArray l s (Knrm K)) := rfl
@[simp] theorem a_nil {ops : Array Oper} {s : St} {K : St → Prop} : aops P mf tb ops [] s K = K s := rfl
@[simp] theorem a_cons {ops : Array Oper} {o : Oper} {l : List Oper} {s : St} {K : St → Prop} : aops P mf tb ops (o :: l) s K = gstep P mf tb (gd ops s o) o s (Kops P mf tb ops l K) := by
  show astep P mf tb ops o s _ = _
  unfold astep gstep
  cases gd ops s o <;> rfl
@[simp] theorem g_go {o : Oper} {s : St} {k : St → Prop} : gstep P mf tb .go o s k = fin (aop P mf tb s o) o.dst s k := rfl
@[simp] theorem g_no {o : Oper} {s : St} {k : St → Prop} : gstep P mf tb .no o s k = k (s.put o.dst .und) := rfl
@[simp] theorem g_tt {t : Nat} {o : Oper} {s : St} {k : St → Prop} : gstep P mf tb (.test t true true) o s k = fin (aop P mf tb (s.put (some t) (.dat (.lit (.bool true)))) o) o.dst (s.put (some t) (.dat (.lit (.bool true)))) k := by simp [gstep]
@[simp] theorem g_ff {t : Nat} {o : Oper} {s : St} {k : St → Prop} : gstep P mf tb (.test t false false) o s k = fin (aop P mf tb (s.put (some t) (.dat (.lit (.bool false)))) o) o.dst (s.put (some t) (.dat (.lit (.bool false)))) k := by simp [gstep]
@[simp] theorem g_tf {t : Nat} {o : Oper} {s : St} {k : St → Prop} : gstep P mf tb (.test t true false) o s k = k ((s.put (some t) (.dat (.lit (.bool true)))).put o.dst .und) := by simp [gstep]
@[simp] theorem g_ft {t : Nat} {o : Oper} {s : St} {k : St → Prop} : gstep P mf tb (.test t false true) o s k = k ((s.put (some t) (.dat (.lit (.bool false)))).put o.dst .und) := by simp [gstep]
@[simp low] theorem g_test {t : Nat} {c b : Bool} {o : Oper} {s : St} {k : St → Prop} : gstep P mf tb (.test t c b) o s k = ((c = b → fin (aop P mf tb (s.put (some t) (.dat (.lit (.bool b)))) o) o.dst (s.put (some t) (.dat (.lit (.bool b)))) k) ∧ (c = !b → k ((s.put (some t) (.dat (.lit (.bool (!b))))).put o.dst .und))) := rfl
@[simp] theorem c_t {c : Operand} {x y : Code} {s : St} {k : Exit → St → Prop} : condm P mf tb (.dat (.lit (.bool true))) c x y s k = awp P mf tb x (nf (refineC s c true)) k := by simp [condm, nf]
@[simp] theorem c_f {c : Operand} {x y : Code} {s : St} {k : Exit → St → Prop} : condm P mf tb (.dat (.lit (.bool false))) c x y s k = awp P mf tb y (nf (refineC s c false)) k := by simp [condm, nf]
@[simp low] theorem c_v {v : Bool} {c : Operand} {x y : Code} {s : St} {k : Exit → St → Prop} : condm P mf tb (.dat (.lit (.bool v))) c x y s k = ((v = true → awp P mf tb x (nf (refineC s c true)) k) ∧ (v = false → awp P mf tb y (nf (refineC s c false)) k)) := rfl
@[simp] theorem f_t {x : X} {up : List (Nat × Option Ob)} {d : Nat} {tm : List X} {ob : List (Option Ob)} {k : St → Prop} : fin ⟨True, x, up⟩ (some d) ⟨tm, ob⟩ k = k (nf ⟨sX tm d x, St.ups ob up⟩) := by simp [fin, nf, St.apply, St.put, sX]
@[simp] theorem f_n {x : X} {up : List (Nat × Option Ob)} {tm : List X} {ob : List (Option Ob)} {k : St → Prop} : fin ⟨True, x, up⟩ none ⟨tm, ob⟩ k = k (nf ⟨tm, St.ups ob up⟩) := by simp [fin, nf, St.apply, St.put]
@[simp] theorem f_F {x : X} {up : List (Nat × Option Ob)} {d : Option Nat} {s : St} {k : St → Prop} : fin ⟨False, x, up⟩ d s k = False := by simp [fin]
@[simp low] theorem f_p {p : Prop} {x : X} {up : List (Nat × Option Ob)} {d : Nat} {tm : List X} {ob : List (Option Ob)} {k : St → Prop} : fin ⟨p, x, up⟩ (some d) ⟨tm, ob⟩ k = (p ∧ k (nf ⟨sX tm d x, St.ups ob up⟩)) := by simp [fin, nf, St.apply, St.put, sX]
@[simp low] theorem f_pn {p : Prop} {x : X} {up : List (Nat × Option Ob)} {tm : List X} {ob : List (Option Ob)} {k : St → Prop} : fin ⟨p, x, up⟩ none ⟨tm, ob⟩ k = (p ∧ k (nf ⟨tm, St.ups ob up⟩)) := by simp [fin, nf, St.apply, St.put]
@[simp] theorem s_get {tm : List X} {ob : List (Option Ob)} {t : Nat} : St.get ⟨tm, ob⟩ t = gX tm t := rfl
@[simp] theorem s_obj {tm : List X} {ob : List (Option Ob)} {o : Nat} : St.obj ⟨tm, ob⟩ o = gO ob o := rfl
@[simp] theorem s_put {tm : List X} {ob : List (Option Ob)} {t : Nat} {x : X} : St.put ⟨tm, ob⟩ (some t) x = ⟨sX tm t x, ob⟩ := rfl
@[simp] theorem s_putn {tm : List X} {ob : List (Option Ob)} {x : X} : St.put ⟨tm, ob⟩ none x = ⟨tm, ob⟩ := rfl
@[simp] theorem ups_n {ob : List (Option Ob)} : St.ups ob [] = ob := rfl
@[simp] theorem ups_c {ob : List (Option Ob)} {p : Nat × Option Ob} {l : List (Nat × Option Ob)} : St.ups ob (p :: l) = St.ups (sO ob p.1 p.2) l := rfl
@[simp] theorem ev_tmp (st : St) (t : Nat) : ev st (.tmp t) = st.get t := rfl
@[simp] theorem ev_int (st : St) (k : IntKind) (n : Int) : ev st (.const (.int k n)) = .dat (.lit (.int k n)) := by simp [ev, Value.oneCell']
@[simp] theorem ev_str (st : St) (s : ByteArray) : ev st (.const (.string s)) = .dat (.lit (.string s)) := by simp [ev, Value.oneCell']
@[simp] theorem ev_bool (st : St) (b : Bool) : ev st (.const (.bool b)) = .dat (.lit (.bool b)) := by simp [ev, Value.oneCell']
@[simp] theorem ev_nils (st : St) : ev st (.const (.slice none 0 0)) = .dat (.lit (.slice none 0 0)) := by simp [ev, Value.oneCell']
@[simp] theorem ev_nilp (st : St) : ev st (.const (.pointer none)) = .dat (.lit (.pointer none)) := by simp [ev, Value.oneCell']
@[simp] theorem ev_agg (st : St) (l : List Value) : ev st (.const (.agg l.toArray)) = if l.all Value.oneCell' = true then .dat (.agg (l.map .lit)) else .any := by simp [ev]
end
def ix (xs : List D) (i : Nat) : Option D := xs[i]?
def lset (xs : List D) (i : Nat) (d : D) : List D := xs.set i d
def lsub (xs : List D) (lo hi : Nat) : List D := (xs.take hi).drop lo
section
variable {P : Program} {mf : FuncId → Bool} {tb : FuncId → Option Ct} {st : St} {d : Option Nat} {ty : TypeId} {pos : String} {af : Array Edge} {g : Option (Nat × Bool)}
def convA (P : Program) (a b : TypeId) (x : X) : Out := match P.underlying a, P.underlying b, x with
    | some _, some (.int k), .dat (.lit (.int _ n)) => .lit (.int k (k.wrap n))
    | some _, some (.float k), .dat (.lit (.int _ n)) => .lit (.float k (floatOfInt k n))
    | some _, some (.float k), .dat (.lit (.float s b)) => ⟨s = k, .dat (.lit (.float k b)), []⟩
    | _, _, _ => .bad
def convX (P : Program) (mf : FuncId → Bool) (st : St) (a b : TypeId) (x : X) : Out := match mf strc with
  | true => barIf (fl mf x) (strA P st (P.underlying a) (P.underlying b) x)
  | false => convA P a b x
def nilA : X → Out
    | .obj ob p off => ⟨True, .obj ob p off, []⟩
    | .dat (.ptr d) => ⟨True, .dat (.ptr d), []⟩
    | _ => .bad
def boxA (st : St) (d : Option Nat) (x : X) : Out := match x, d with
    | .dat d, some s => ⟨st.obj s = none ∧ s < st.ob.length, .obj s [] 0, [(s, some (.box d))]⟩
    | _, _ => .bad
def allocA (P : Program) (st : St) (d : Option Nat) (t : TypeId) : Out := match (P.info? t).bind (·.zero), d with
    | some v, some s => ⟨(st.obj s = none ∧ s < st.ob.length) ∧ litOk P t v, .obj s [] 0, [(s, some (.box (litD P t v)))]⟩
    | _, _ => .bad
def fieldA (P : Program) (s : TypeId) (i : Nat) (x : X) : Out := match P.underlying s with
    | some (.struct fs) => match fs[i]? with
      | some f => match x with
        | .obj ob p off => ⟨P.cellsOf f.type ≠ 0, .obj ob (p ++ [i]) (off + f.offset), []⟩
        | .elt ob j p off => ⟨P.cellsOf f.type ≠ 0, .elt ob j (p ++ [i]) (off + f.offset), []⟩
        | .dat (.ptr (.agg ds)) => match ds[i]? with
          | some d => ⟨P.cellsOf f.type ≠ 0 ∧ f.offset = D.sizes (ds.take i), .dat (.ptr d), []⟩
          | none => .bad
        | _ => .bad
      | none => .bad
    | _ => .bad
def loadA (P : Program) (st : St) (t : TypeId) (x : X) : Out := match x with
    | .obj ob p off => match st.box? ob with
        | some d => match nav d p with
          | some (e, off') => ⟨off' = off ∧ P.cellsOf t = e.size ∧ isAggT P t = e.isAgg ∧ (P.underlying t).isSome ∧ (P.info? t).isSome, .dat e, []⟩
          | none => .bad
        | none => .bad
    | .elt ob j p off => match st.row? ob with
      | some (sz, _, xs) => match ix xs j with
        | some d => match nav d p with
          | some (e, off') => ⟨d.size = sz ∧ off' = off ∧ P.cellsOf t = e.size ∧ isAggT P t = e.isAgg ∧ (P.underlying t).isSome ∧ (P.info? t).isSome, .dat e, []⟩
          | none => .bad
        | none => .bad
      | none => .bad
    | .dat (.ptr d) => ⟨P.cellsOf t = d.size ∧ isAggT P t = d.isAgg ∧ (P.underlying t).isSome ∧ (P.info? t).isSome, .dat d, []⟩
    | _ => .bad
def storeA (P : Program) (st : St) (t : TypeId) (a v : X) : Out := match a, v with
    | .obj ob p off, .dat x => match st.wbox? ob with
      | some d => match nav d p with
        | some (e, off') => ⟨off' = off ∧ x.size = e.size ∧ P.cellsOf t = x.size ∧ (P.info? t).isSome, .und, [(ob, setBox (st.obj ob) (upd d p x))]⟩
        | none => .bad
      | _ => .bad
    | .elt ob j p off, .dat x => match st.obj ob with
      | some (.row sz e xs) => match ix xs j with
        | some d => match nav d p with
          | some (e', off') => ⟨d.size = sz ∧ off' = off ∧ x.size = e'.size ∧ P.cellsOf t = x.size ∧ (P.info? t).isSome, .und, [(ob, some (.row sz e (lset xs j (upd d p x))))]⟩
          | none => .bad
        | none => .bad
      | some (.prow sz e cp xs) => match ix xs j with
        | some d => match nav d p with
          | some (e', off') => ⟨d.size = sz ∧ off' = off ∧ x.size = e'.size ∧ P.cellsOf t = x.size ∧ (P.info? t).isSome, .und, [(ob, some (.prow sz e cp (lset xs j (upd d p x))))]⟩
          | none => .bad
        | none => .bad
      | _ => .bad
    | _, _ => .bad
def buildX (P : Program) (mf : FuncId → Bool) (st : St) (t : TypeId) (is : List Nat) (xs : List X) : Out := match mf (bld t) with
    | false => match datas xs with
      | some ds => ⟨(buildA P t is ds).1, .dat (buildA P t is ds).2, []⟩
      | none => .bad
    | true => match asDatas st xs with
      | some ps => ⟨(buildA P t is (ps.map (·.1))).1 ∧ allFreeze st (owners ps), .dat (buildA P t is (ps.map (·.1))).2, freezes st (owners ps)⟩
      | none => .bad
def extrA (i : Nat) (x : X) : Out := match x with
    | .tup rs => match rs[i]? with
      | some r => ⟨True, r.x, []⟩
      | none => .bad
    | _ => .bad
def idxA (P : Program) (st : St) (t : TypeId) (x i : X) : Out := match P.underlying t, i with
    | some (.slice e), .dat (.lit (.int _ n)) => match x with
      | .dat (.sl sz xs) => match ix xs n.toNat with
        | some d => ⟨0 ≤ n ∧ P.cellsOf e = sz ∧ (P.info? e).isSome, .dat (.ptr d), []⟩
        | none => .bad
      | .row ob => match st.row? ob with
        | some (sz, _, xs) => ⟨(0 ≤ n ∧ n < xs.length) ∧ P.cellsOf e = sz ∧ (P.info? e).isSome, .elt ob n.toNat [] 0, []⟩
        | none => .bad
      | .win ob lo m => match st.row? ob with
        | some (sz, _, xs) => ⟨(0 ≤ n ∧ n < m) ∧ lo + m ≤ xs.length ∧ P.cellsOf e = sz ∧ (P.info? e).isSome, .elt ob (lo + n.toNat) [] 0, []⟩
        | none => .bad
      | _ => .bad
    | some (.array m e), .dat (.lit (.int _ n)) => match x with
      | .obj ob p off => ⟨(0 ≤ n ∧ n < m) ∧ (P.info? e).isSome, .obj ob (p ++ [n.toNat]) (off + n.toNat * P.cellsOf e), []⟩
      | .elt ob j p off => ⟨(0 ≤ n ∧ n < m) ∧ (P.info? e).isSome, .elt ob j (p ++ [n.toNat]) (off + n.toNat * P.cellsOf e), []⟩
      | .dat (.ptr (.agg ds)) => match ds[n.toNat]? with
        | some d => ⟨(0 ≤ n ∧ n < m) ∧ (P.info? e).isSome ∧ n.toNat * P.cellsOf e = D.sizes (ds.take n.toNat), .dat (.ptr d), []⟩
        | none => .bad
      | _ => .bad
    | _, _ => .bad
def sliceX (P : Program) (st : St) (t : TypeId) (x : X) (lo hi : Option X) : Out := match P.underlying t, loB lo with
  | some (.slice e), some l => match x with
    | .dat (.sl sz xs) => match hiB xs.length hi with
      | some h => ⟨(0 ≤ l ∧ l ≤ h ∧ h ≤ xs.length) ∧ (P.info? e).isSome ∧ P.cellsOf e = sz, .dat (.sl sz (lsub xs l.toNat h.toNat)), []⟩
      | none => .bad
    | .row ob => match st.row? ob with
      | some (sz, _, xs) => match hiB xs.length hi with
        | some h => ⟨(0 ≤ l ∧ l ≤ h ∧ h ≤ xs.length) ∧ (P.info? e).isSome ∧ P.cellsOf e = sz, .win ob l.toNat (h - l).toNat, []⟩
        | none => .bad
      | none => .bad
    | .win ob k n => match st.row? ob with
      | some (sz, _, xs) => match hiB n hi with
        | some h => ⟨(0 ≤ l ∧ l ≤ h ∧ h ≤ n) ∧ k + n ≤ xs.length ∧ (P.info? e).isSome ∧ P.cellsOf e = sz, .win ob (k + l.toNat) (h - l).toNat, []⟩
        | none => .bad
      | none => .bad
    | _ => .bad
  | some (.array m e), some l => match hi, x with
    | none, .obj o [] 0 => ⟨l = 0 ∧ (P.info? e).isSome, .arr o (P.cellsOf e) m, []⟩
    | _, _ => .bad
  | _, _ => .bad
def mkSl (P : Program) (st : St) (d : Option Nat) (t : TypeId) (l c : X) : Out := match d with
    | some k => match P.underlying t, l, c with
      | some (.slice e), .dat (.lit (.int _ n)), .dat (.lit (.int _ m)) => match (P.info? e).bind (·.zero) with
        | some z => ⟨(0 ≤ n ∧ n ≤ m) ∧ P.bytesOf e * m ≤ 140737488355328 ∧ m ≤ 9223372036854775807 ∧ z.cells.size = P.cellsOf e ∧ 0 < P.cellsOf e ∧ litOk P e z ∧ st.obj k = none ∧ k < st.ob.length,
            .row k, [(k, some (.row (P.cellsOf e) e (List.replicate n.toNat (litD P e z))))]⟩
        | none => .bad
      | _, _, _ => .bad
    | none => .bad
def bdSl (P : Program) (mf : FuncId → Bool) (st : St) (d : Option Nat) (t : TypeId) (n : Nat) (is : List Nat) (xs : List X) : Out := match (mf (bld t) && n != 0) with
  | true => buildO P st (P.underlying t) n is xs
  | false => match d with
    | some k => match P.underlying t, datas xs with
      | some (.slice e), some ds => match is with
        | [] => ⟨n = 0 ∧ (P.info? e).isSome ∧ st.obj k = none ∧ k < st.ob.length, .row k, [(k, some (.row (P.cellsOf e) e []))]⟩
        | _ :: _ => match mf (rowb t) with
          | true => ⟨(0 < n ∧ is = List.range n ∧ (∀ d ∈ ds, d.size = P.cellsOf e) ∧ n * P.cellsOf e ≤ 16777216 ∧ (∃ z, (P.info? e).bind (·.zero) = some z) ∧ 0 < P.cellsOf e) ∧ st.obj k = none ∧ k < st.ob.length, .row k, [(k, some (.row (P.cellsOf e) e ds))]⟩
          | false => ⟨0 < n ∧ is = List.range n ∧ (∀ d ∈ ds, d.size = P.cellsOf e) ∧ n * P.cellsOf e ≤ 16777216 ∧ (∃ z, (P.info? e).bind (·.zero) = some z) ∧ 0 < P.cellsOf e, .dat (.sl (P.cellsOf e) ds), []⟩
      | _, _ => .bad
    | none => .bad
@[simp] theorem o_move {x : Operand} : aop P mf tb st ⟨d, .move x, ty, pos, af, g⟩ = ⟨True, ev st x, []⟩ := rfl
@[simp] theorem o_assign {x : Operand} : aop P mf tb st ⟨d, .assign x, ty, pos, af, g⟩ = ⟨True, ev st x, []⟩ := rfl
@[simp] theorem o_pick {c a b : Operand} : aop P mf tb st ⟨d, .pick c a b, ty, pos, af, g⟩ = pickA (ev st c) (ev st a) (ev st b) := rfl
@[simp] theorem o_bin {op : BinOp} {t t' : TypeId} {x y : Operand} : aop P mf tb st ⟨d, .binOp op t x y t', ty, pos, af, g⟩ = binA P op t (ev st x) (ev st y) := rfl
@[simp] theorem o_un {op : UnOp} {t : TypeId} {x : Operand} : aop P mf tb st ⟨d, .unOp op t x, ty, pos, af, g⟩ = unA op (ev st x) := rfl
@[simp] theorem o_conv {a b : TypeId} {x : Operand} : aop P mf tb st ⟨d, .convert a b x, ty, pos, af, g⟩ = convX P mf st a b (ev st x) := rfl
@[simp] theorem o_index {t : TypeId} {x i : Operand} : aop P mf tb st ⟨d, .index t x i, ty, pos, af, g⟩ = strIdx P (P.underlying t) (ev st x) (ev st i) := rfl
@[simp] theorem o_nil {x : Operand} : aop P mf tb st ⟨d, .nilCheck x, ty, pos, af, g⟩ = nilA (ev st x) := rfl
@[simp] theorem o_box {t : TypeId} {x : Operand} : aop P mf tb st ⟨d, .box t x, ty, pos, af, g⟩ = boxA st d (ev st x) := rfl
@[simp] theorem o_alloc {t : TypeId} : aop P mf tb st ⟨d, .alloc t, ty, pos, af, g⟩ = allocA P st d t := rfl
@[simp] theorem o_field {s : TypeId} {a : Operand} {i : Nat} : aop P mf tb st ⟨d, .fieldAddr s a i, ty, pos, af, g⟩ = fieldA P s i (ev st a) := rfl
@[simp] theorem o_load {t : TypeId} {a : Operand} : aop P mf tb st ⟨d, .load t a, ty, pos, af, g⟩ = barIf (fl mf (ev st a)) (loadA P st t (ev st a)) := rfl
@[simp] theorem o_store {t : TypeId} {a v : Operand} : aop P mf tb st ⟨d, .store t a v, ty, pos, af, g⟩ = barIf (lateBad mf a (ev st a)) (storeA P st t (ev st a) (ev st v)) := rfl
@[simp] theorem o_build {t : TypeId} {l : List (Nat × Operand)} : aop P mf tb st ⟨d, .build t l.toArray, ty, pos, af, g⟩ = buildX P mf st t (l.map (·.1)) (l.map fun p => ev st p.2) := rfl
@[simp] theorem o_extr {i : Nat} {x : Operand} : aop P mf tb st ⟨d, .extract x i, ty, pos, af, g⟩ = extrA i (ev st x) := rfl
@[simp] theorem o_idx {t : TypeId} {x i : Operand} : aop P mf tb st ⟨d, .indexAddr t x i, ty, pos, af, g⟩ = barIf (fl mf (ev st x)) (idxA P st t (ev st x) (ev st i)) := by
  show barIf _ (match P.underlying t, ev st i with | some (.slice e), .dat (.lit (.int _ n)) => _ | some (.array m e), .dat (.lit (.int _ n)) => _ | _, _ => _) = _
  rfl
@[simp] theorem o_slice {t : TypeId} {x : Operand} {lo hi : Option Operand} : aop P mf tb st ⟨d, .slice t x lo hi none, ty, pos, af, g⟩ = barIf (fl mf (ev st x)) (sliceX P st t (ev st x) (lo.map (ev st)) (hi.map (ev st))) := rfl
@[simp] theorem o_make {t : TypeId} {l c : Operand} : aop P mf tb st ⟨d, .makeSlice t l c, ty, pos, af, g⟩ = mkSl P st d t (ev st l) (ev st c) := rfl
@[simp] theorem o_bsl {t : TypeId} {n : Nat} {l : List (Nat × Operand)} : aop P mf tb st ⟨d, .buildSlice t n l.toArray, ty, pos, af, g⟩ = bdSl P mf st d t n (l.map (·.1)) (l.map fun p => ev st p.2) := by
  show (match (mf (bld t) && n != 0) with | true => _ | false => _) = _
  unfold bdSl
  cases (mf (bld t) && n != 0) with
  | true => rfl
  | false =>
  simp only []
  cases d with
  | none => rfl
  | some k =>
    simp only []
    cases l with
    | nil => rfl
    | cons p l => rfl
def lenX (P : Program) (st : St) (t : TypeId) (x : X) : Out := match P.underlying t with
  | some (.slice _) => lenA st x
  | _ => .bad
def callCB (st : St) (r : Prop × List D) (ps : List (D × Option Nat)) : Out := match r.2.all D.isLit with
  | true => ⟨r.1, resX r.2, []⟩
  | false => ⟨r.1 ∧ allFreeze st (owners ps), resX r.2, freezes st (owners ps)⟩
def callM (st : St) (r : Prop × List Rv × List D) (ids : List Nat) (ps : List (Ar × Option Nat)) (n : Nat) : Out :=
  ⟨r.1 ∧ ids.Nodup ∧ r.2.2.length = n ∧ allFreeze st (owners ps), resM ids r.2.1, freezes st (owners ps) ++ setBoxes st ids r.2.2⟩
def callWB (st : St) (sz sz' : Nat) (e e' : TypeId) (l : List D) (r : Prop × Option Wr × List D) (o lo n : Nat) (ps : List (D × Option Nat)) : Out :=
  ⟨r.1 ∧ sz' = sz ∧ e' = e ∧ 0 < l.length ∧ lo + n ≤ l.length ∧ (0 < n ∨ lo = 0) ∧ r.2.2.length = l.length ∧ o ∉ owners ps ∧ allFreeze st (owners ps),
        resW o r.2.1, freezes st (owners ps) ++ [(o, setRow (st.obj o) r.2.2)]⟩
def callOB (st : St) (sz : Nat) (e : TypeId) (r : Prop × List D) (s : Nat) (ps : List (D × Option Nat)) : Out :=
  ⟨r.1 ∧ allFreeze st (owners ps) ∧ st.obj s = none ∧ s < st.ob.length, .row s, freezes st (owners ps) ++ [(s, some (.row sz e r.2))]⟩
def callBB (st : St) (r : Prop × D) (s : Nat) (ps : List (D × Option Nat)) : Out :=
  ⟨r.1 ∧ allFreeze st (owners ps) ∧ st.obj s = none ∧ s < st.ob.length, .obj s [] 0, freezes st (owners ps) ++ [(s, some (.box r.2))]⟩
def callX (mf : FuncId → Bool) (c : Option Ct) (st : St) (dst : Option Nat) (f : FuncId) (xs : List X) : Out := match c with
  | some (.data g) => callC (mf f) st g xs
  | some (.win sz e g gd) => match mf f, xs with
    | true, x :: r => match winOf st x with
      | some (o, lo, n) => match asDatas st r with
        | some ps => match st.wrow? o with
          | some (sz', e', l) => callWB st sz sz' e e' l (g l lo n (ps.map (·.1))) o lo n ps
          | none => .bad
        | none => .bad
      | none => callC true st gd (x :: r)
    | true, [] => .bad
    | false, xs => callC false st gd xs
  | some (.own sz e g) => match mf f with
    | true => match dst, asDatas st xs with
      | some s, some ps => callOB st sz e (g (ps.map (·.1))) s ps
      | _, _ => .bad
    | false => .bad
  | some (.ownb g) => match mf f with
    | true => match dst, asDatas st xs with
      | some s, some ps => callBB st (g (ps.map (·.1))) s ps
      | _, _ => .bad
    | false => .bad
  | some (.mut md g) => match mf f with
    | false => .bad
    | true => match asArs st (refIds xs md) xs, boxesOf st (refIds xs md) with
      | some ps, some ds => callM st (g (ps.map (·.1)) ds) (refIds xs md) ps ds.length
      | _, _ => .bad
  | some (.mp t g) => match mf f with
    | true => callMp st t g xs
    | false => .bad
  | none => .bad
def mapA (st : St) (dst : Option Nat) (t : TypeId) : Out := match dst with
    | some k => ⟨st.obj k = none ∧ k < st.ob.length ∧ mapT t = true, .mpx k, [(k, some (.mp t []))]⟩
    | none => .bad
def rangeD (P : Program) (st : St) (dst : Option Nat) (t : TypeId) (x : X) : Out := match dst with
    | some d => rangeA P st t x d
    | none => .bad
@[simp] theorem o_insert {t : TypeId} {m k v : Operand} : aop P mf tb st ⟨d, .insert t m k v, ty, pos, af, g⟩ = insA P st t (ev st m) (ev st k) (ev st v) := rfl
@[simp] theorem o_range {t : TypeId} {x : Operand} : aop P mf tb st ⟨d, .range t x, ty, pos, af, g⟩ = rangeD P st d t (ev st x) := by cases d <;> rfl
@[simp] theorem o_entry {x : Operand} : aop P mf tb st ⟨d, .entry x, ty, pos, af, g⟩ = entryA st (ev st x) := rfl
@[simp] theorem o_next {x : Operand} : aop P mf tb st ⟨d, .next x true, ty, pos, af, g⟩ = nextA st (ev st x) := rfl
@[simp] theorem o_mkmap {t : TypeId} : aop P mf tb st ⟨d, .makeMap t none, ty, pos, af, g⟩ = mapA st d t := by cases d <;> rfl
@[simp] theorem callC_f {g : List D → Prop × List D} {xs : List X} : callC false st g xs = match datas xs with
      | some ds => ⟨(g ds).1, resX (g ds).2, []⟩
      | none => .bad := rfl
@[simp] theorem callC_t {g : List D → Prop × List D} {xs : List X} : callC true st g xs = match asDatas st xs with
      | some ps => callCB st (g (ps.map (·.1))) ps
      | none => .bad := by
  unfold callC callCB
  simp only []
  cases asDatas st xs with
  | none => rfl
  | some ps => simp only []; cases (g (ps.map (·.1))).2.all D.isLit <;> rfl
@[simp] theorem o_call {f : FuncId} {l : List Operand} {ts : Array TypeId} : aop P mf tb st ⟨d, .call ⟨.value (.func f), l.toArray, ts⟩, ty, pos, af, g⟩ = callX mf (tb f) st d f (l.map (ev st)) := by
  show callA mf tb st d f _ = _
  unfold callA callX callW callWB callM callO callOB callB callBB
  rcases tb f with _ | ⟨g⟩ | ⟨md, g⟩ | ⟨sz, e, g, gd⟩ | ⟨sz, e, g⟩ | ⟨g⟩ | ⟨t, g⟩ <;> simp <;> rfl
@[simp] theorem ev_func (st : St) (f : FuncId) : ev st (.func f) = .dat (.lit (.func (.func f) #[] #[])) := rfl
@[simp] theorem fnOf_lit (f : FuncId) : fnOf (.dat (.lit (.func (.func f) #[] #[]))) = some f := rfl
def callV (mf : FuncId → Bool) (tb : FuncId → Option Ct) (st : St) (dst : Option Nat) (co : Option (FuncId × List D)) (fo : Option FuncId) (xs : List X) : Out := match co with
  | some (f, cs) => callF (!mf fnp) tb st f cs xs
  | none => match fo with
    | some f => match mf fnp with
      | true => callF false tb st f [] xs
      | false => callX mf (tb f) st dst f xs
    | none => .bad
@[simp] theorem callV_some {mf : FuncId → Bool} {tb : FuncId → Option Ct} {st : St} {dst : Option Nat} {f : FuncId} {xs : List X} : callV mf tb st dst none (some f) xs = (match mf fnp with
      | true => callF false tb st f [] xs
      | false => callX mf (tb f) st dst f xs) := rfl
@[simp] theorem callV_clo {mf : FuncId → Bool} {tb : FuncId → Option Ct} {st : St} {dst : Option Nat} {f : FuncId} {cs : List D} {fo : Option FuncId} {xs : List X} : callV mf tb st dst (some (f, cs)) fo xs = callF (!mf fnp) tb st f cs xs := rfl
@[simp] theorem o_callT {t : Nat} {l : List Operand} {ts : Array TypeId} : aop P mf tb st ⟨d, .call ⟨.value (.tmp t), l.toArray, ts⟩, ty, pos, af, g⟩ = callV mf tb st d (cloOf (ev st (.tmp t))) (fnOf (ev st (.tmp t))) (l.map (ev st)) := by
  show (match cloOf (ev st (.tmp t)) with
    | some (f, cs) => callF (!mf fnp) tb st f cs (l.map (ev st))
    | none => match fnOf (ev st (.tmp t)) with
      | some f => callP mf tb st d f (l.map (ev st))
      | none => .bad) = _
  cases hc : cloOf (ev st (.tmp t)) with
  | some q => obtain ⟨f, cs⟩ := q; rfl
  | none =>
    cases h : fnOf (ev st (.tmp t)) with
    | none => rfl
    | some f =>
      show callP _ _ _ _ _ _ = (match mf fnp with
        | true => callF false tb st f [] (l.map (ev st))
        | false => callX mf (tb f) st d f (l.map (ev st)))
      unfold callP
      cases mf fnp with
      | true => rfl
      | false => exact o_call (P := P) (ty := ty) (pos := pos) (af := af) (g := g) (ts := ts)
@[simp] theorem o_mkf {fn : Fn} {l : List Operand} : aop P mf tb st ⟨d, .makeFunc fn #[] l.toArray, ty, pos, af, g⟩ = makeA st fn [] (l.map (ev st)) := rfl
@[simp] theorem o_len {x : Operand} {t : TypeId} : aop P mf tb st ⟨d, .call ⟨.builtin .len, [x].toArray, [t].toArray⟩, ty, pos, af, g⟩ = barIf (fl mf (ev st x)) (lenX P st t (ev st x)) := by
  unfold lenX
  simp only [aop, List.getElem?_toArray, List.getElem?_cons_zero, Option.bind_some]
  have hb : ∀ b, barIf b .bad = .bad := fun b => by cases b <;> rfl
  rcases P.underlying t with _ | u
  · exact (hb _).symm
  · cases u <;> first | rfl | exact (hb _).symm
@[simp] theorem o_max {x y : Operand} {ts : Array TypeId} : aop P mf tb st ⟨d, .call ⟨.builtin .max, [x, y].toArray, ts⟩, ty, pos, af, g⟩ = mmA true (ev st x) (ev st y) := rfl
@[simp] theorem o_min {x y : Operand} {ts : Array TypeId} : aop P mf tb st ⟨d, .call ⟨.builtin .min, [x, y].toArray, ts⟩, ty, pos, af, g⟩ = mmA false (ev st x) (ev st y) := rfl
@[simp] theorem o_app {x y : Operand} {t : TypeId} : aop P mf tb st ⟨d, .call ⟨.builtin .append, [x, y].toArray, [t, t].toArray⟩, ty, pos, af, g⟩ = barIf (appBad mf x (ev st x)) (appendA P st d t (ev st x) (ev st y)) := by
  show (if t = t then _ else _) = _
  simp
end
section
variable {mf : FuncId → Bool}
@[simp] theorem fl_any : fl mf .any = false := rfl
@[simp] theorem fl_und : fl mf .und = false := rfl
@[simp] theorem fl_dat {d : D} : fl mf (.dat d) = false := rfl
@[simp] theorem fl_obj {o f : Nat} {p : List Nat} : fl mf (.obj o p f) = mf (cel o) := by simp [fl, X.refs]
@[simp] theorem fl_row {o : Nat} : fl mf (.row o) = mf (cel o) := by simp [fl, X.refs]
@[simp] theorem fl_elt {o i f : Nat} {p : List Nat} : fl mf (.elt o i p f) = mf (cel o) := by simp [fl, X.refs]
@[simp] theorem fl_win {o i f : Nat} : fl mf (.win o i f) = mf (cel o) := by simp [fl, X.refs]
@[simp] theorem fl_arr {o i f : Nat} : fl mf (.arr o i f) = mf (cel o) := by simp [fl, X.refs]
@[simp] theorem fl_clo {f : FuncId} {cs : List D} : fl mf (.clo f cs) = false := rfl
end
def bAnd (k : IntKind) (x y : Int) : Int := k.wrap (BitVec.ofInt k.bits x &&& BitVec.ofInt k.bits y).toNat
def bOr (k : IntKind) (x y : Int) : Int := k.wrap (BitVec.ofInt k.bits x ||| BitVec.ofInt k.bits y).toNat
def bXor (k : IntKind) (x y : Int) : Int := k.wrap (BitVec.ofInt k.bits x ^^^ BitVec.ofInt k.bits y).toNat
def bAnn (k : IntKind) (x y : Int) : Int := k.wrap (BitVec.ofInt k.bits x &&& ~~~(BitVec.ofInt k.bits y)).toNat
def bNot (k : IntKind) (x : Int) : Int := k.wrap (BitVec.ofInt k.bits (if k.signed then -1 else k.max) ^^^ BitVec.ofInt k.bits x).toNat
def fok (op : BinOp) (k : FloatKind) (x y : Nat) : Prop := (floatBits op k x y).isSome = true
def fv (op : BinOp) (k : FloatKind) (x y : Nat) : Nat := (floatBits op k x y).getD 0
def feq (k : FloatKind) (x y : Nat) : Bool := k.format.order x y == some .eq
def flt (k : FloatKind) (x y : Nat) : Bool := k.format.order x y == some .lt
def fgt (k : FloatKind) (x y : Nat) : Bool := k.format.order x y == some .gt
def fneg (k : FloatKind) (x : Nat) : Nat := Op.negFloat k x
section
variable {k : IntKind} {x y : Int}
@[simp] theorem i_add : intOp .add k x y = ⟨True, .dat (.lit (.int k (k.wrap (x + y)))), []⟩ := rfl
@[simp] theorem i_sub : intOp .sub k x y = ⟨True, .dat (.lit (.int k (k.wrap (x - y)))), []⟩ := rfl
@[simp] theorem i_mul : intOp .mul k x y = ⟨True, .dat (.lit (.int k (k.wrap (x * y)))), []⟩ := rfl
@[simp] theorem i_quo : intOp .quo k x y = ⟨y ≠ 0, .dat (.lit (.int k (k.wrap (x.tdiv y)))), []⟩ := rfl
@[simp] theorem i_rem : intOp .rem k x y = ⟨y ≠ 0, .dat (.lit (.int k (x.tmod y))), []⟩ := rfl
@[simp] theorem i_eql : intOp .eql k x y = ⟨True, .dat (.lit (.bool (decide (x = y)))), []⟩ := rfl
@[simp] theorem i_neq : intOp .neq k x y = ⟨True, .dat (.lit (.bool (!decide (x = y)))), []⟩ := rfl
@[simp] theorem i_lss : intOp .lss k x y = ⟨True, .dat (.lit (.bool (decide (x < y)))), []⟩ := rfl
@[simp] theorem i_leq : intOp .leq k x y = ⟨True, .dat (.lit (.bool (decide (x ≤ y)))), []⟩ := rfl
@[simp] theorem i_gtr : intOp .gtr k x y = ⟨True, .dat (.lit (.bool (decide (y < x)))), []⟩ := rfl
@[simp] theorem i_geq : intOp .geq k x y = ⟨True, .dat (.lit (.bool (decide (y ≤ x)))), []⟩ := rfl
@[simp] theorem i_and : intOp .and k x y = ⟨True, .dat (.lit (.int k (bAnd k x y))), []⟩ := rfl
@[simp] theorem i_or : intOp .or k x y = ⟨True, .dat (.lit (.int k (bOr k x y))), []⟩ := rfl
@[simp] theorem i_xor : intOp .xor k x y = ⟨True, .dat (.lit (.int k (bXor k x y))), []⟩ := rfl
@[simp] theorem i_ann : intOp .andNot k x y = ⟨True, .dat (.lit (.int k (bAnn k x y))), []⟩ := rfl
@[simp] theorem i_shl : intOp .shl k x y = ⟨0 ≤ y, .dat (.lit (.int k (k.wrap (x * 2 ^ min y.toNat k.bits)))), []⟩ := rfl
@[simp] theorem i_shr : intOp .shr k x y = ⟨0 ≤ y, .dat (.lit (.int k (x.fdiv (2 ^ min y.toNat k.bits)))), []⟩ := rfl
@[simp] theorem fo_add {x y : Nat} {k : FloatKind} : floatOp .add k x y = ⟨fok .add k x y, .dat (.lit (.float k (fv .add k x y))), []⟩ := rfl
@[simp] theorem fo_sub {x y : Nat} {k : FloatKind} : floatOp .sub k x y = ⟨fok .sub k x y, .dat (.lit (.float k (fv .sub k x y))), []⟩ := rfl
@[simp] theorem fo_mul {x y : Nat} {k : FloatKind} : floatOp .mul k x y = ⟨fok .mul k x y, .dat (.lit (.float k (fv .mul k x y))), []⟩ := rfl
@[simp] theorem fo_quo {x y : Nat} {k : FloatKind} : floatOp .quo k x y = ⟨fok .quo k x y, .dat (.lit (.float k (fv .quo k x y))), []⟩ := rfl
@[simp] theorem fo_eql {x y : Nat} {k : FloatKind} : floatOp .eql k x y = ⟨True, .dat (.lit (.bool (feq k x y))), []⟩ := rfl
@[simp] theorem fo_neq {x y : Nat} {k : FloatKind} : floatOp .neq k x y = ⟨True, .dat (.lit (.bool (!feq k x y))), []⟩ := rfl
@[simp] theorem fo_lss {x y : Nat} {k : FloatKind} : floatOp .lss k x y = ⟨True, .dat (.lit (.bool (flt k x y))), []⟩ := rfl
@[simp] theorem fo_gtr {x y : Nat} {k : FloatKind} : floatOp .gtr k x y = ⟨True, .dat (.lit (.bool (fgt k x y))), []⟩ := rfl
@[simp] theorem u_negF {x : Nat} {k : FloatKind} : unA .neg (.dat (.lit (.float k x))) = ⟨True, .dat (.lit (.float k (fneg k x))), []⟩ := rfl
@[simp] theorem u_neg : unA .neg (.dat (.lit (.int k x))) = ⟨True, .dat (.lit (.int k (k.wrap (0 - x)))), []⟩ := rfl
@[simp] theorem u_xor : unA .xor (.dat (.lit (.int k x))) = ⟨True, .dat (.lit (.int k (bNot k x))), []⟩ := rfl
@[simp] theorem u_not {b : Bool} : unA .not (.dat (.lit (.bool b))) = ⟨True, .dat (.lit (.bool (!b))), []⟩ := rfl
end
@[simp] theorem fdiv_lit (n : Int) (m : Nat) : n.fdiv (no_index (OfNat.ofNat m)) = n / (OfNat.ofNat m) := Int.fdiv_eq_ediv_of_nonneg _ (Int.natCast_nonneg m)
attribute [simp] callMp St.mp? mapA rangeD insA rangeA entryA nextA isNx nxW keysOk keyIs dValue litsOf valD flatV mapT itK itS mfR gd St.box? St.wbox? St.row? St.drow? setBox Out.bad Out.lit nav upd D.size D.sizes nsz nagg isAggT datas resX mkIds mkOp NoRefs X.refs lenA strIdx binA mmA pickA lenX callCB callM callWB callOB callBB callX callF makeA buildO cloOf fnIs fnp winOf St.wrow? setRow resW convX strA strc rowb strOp bytesDs convA nilA boxA allocA fieldA loadA storeA buildX extrA idxA sliceX mkSl bdSl RvSubs RvSub BoxSubs refineC loB hiB startAr endK retA resD litD litOk asDatas asData owners freezes freeze allFreeze St.mayFreeze D.isLit refIds asArs boxesOf setBoxes resM Rv.to Rv.x buildA partsOk zeros putAll fits appendA elems arrEl onto Value.oneCell' bld cel regroup regs rega flatD flatDs lateBad barIf Rv.refs appBad
@[simp] theorem vc_int (k : IntKind) (n : Int) : (Value.int k n).cells = #[.int k n] := rfl
@[simp] theorem vc_bool (b : Bool) : (Value.bool b).cells = #[.bool b] := rfl
@[simp] theorem vc_float (k : FloatKind) (n : Nat) : (Value.float k n).cells = #[.float k n] := rfl
@[simp] theorem vc_string (s : ByteArray) : (Value.string s).cells = #[.string s] := rfl
@[simp] theorem vc_ptr (a : Option Addr) : (Value.pointer a).cells = #[.pointer a] := rfl
@[simp] theorem vc_slice (a : Option Addr) (l c : Nat) : (Value.slice a l c).cells = #[.slice a l c] := rfl
@[simp] theorem vc_map (a : Option Nat) : (Value.map a).cells = #[.map a] := rfl
@[simp] theorem vc_nilFunc : (Value.nilFunc).cells = #[.nilFunc] := rfl
@[simp] theorem vc_nilIface : (Value.nilIface).cells = #[.nilIface] := rfl
@[simp] theorem vc_agg (cs : Array Value) : (Value.agg cs).cells = cs := rfl
@[simp] theorem agg_lit (v : Value) : (D.lit v).isAgg = false := rfl
@[simp] theorem agg_agg (ds : List D) : (D.agg ds).isAgg = true := rfl
@[simp] theorem agg_sl (n : Nat) (ds : List D) : (D.sl n ds).isAgg = false := rfl
@[simp] theorem agg_ptr (d : D) : (D.ptr d).isAgg = false := rfl
@[simp] theorem start_mk (n : Nat) (xs : List Ar) (ds : List D) : start n xs ds = ⟨xs.map (startAr n) ++ nX (n - xs.length), nO n ++ ds.map fun d => some (.pbox d)⟩ := rfl
@[simp] theorem sub_nil (sz : Nat) : Sub (.lit (.slice none 0 0)) (.sl sz []) = True := by simp [Sub.nil]
@[simp] theorem sub_refl (d : D) : Sub d d ↔ True := ⟨fun _ => trivial, fun _ => Sub.refl d⟩
def dg (k : Nat) : D := .lit (.int .u32 (k : Int))
def eW (ds : List Nat) : D := .sl 1 (ds.map dg)
def eM (n : Nat) : D := eW (mag n)
@[simp] theorem dg_size (k : Nat) : (dg k).size = 1 := rfl
@[simp] theorem dg_agg (k : Nat) : (dg k).isAgg = false := rfl
@[simp] theorem eW_size (k : List Nat) : (eW k).size = 1 := rfl
@[simp] theorem eW_agg (k : List Nat) : (eW k).isAgg = false := rfl
@[simp] theorem eM_size (k : Nat) : (eM k).size = 1 := rfl
@[simp] theorem eM_agg (k : Nat) : (eM k).isAgg = false := rfl
section
variable {α : Type} {e : α → List D} {pre : α → Prop} {post : α → List D}
open Classical in
noncomputable def ctD (e : α → List D) (pre : α → Prop) (post : α → List D) : List D → Prop × List D := fun ds =>
  if h : ∃ a, e a = ds then (pre h.choose, post h.choose) else (False, [])
theorem ctD_at (inj : ∀ a b, e a = e b → a = b) (a : α) : ctD e pre post (e a) = (pre a, post a) := by
  unfold ctD
  have h : ∃ b, e b = e a := ⟨a, rfl⟩
  rw [dif_pos h, inj _ _ h.choose_spec]
theorem ctD_pre {ds : List D} (h : (ctD e pre post ds).1) : ∃ a, ds = e a ∧ pre a ∧ ctD e pre post ds = (pre a, post a) := by
  unfold ctD at h ⊢
  by_cases hh : ∃ a, e a = ds
  · rw [dif_pos hh] at h ⊢
    exact ⟨_, hh.choose_spec.symm, h, rfl⟩
  · rw [dif_neg hh] at h
    exact h.elim
end
section
variable {α : Type} {e : α → List Ar × List D} {pre : α → Prop} {post : α → List Rv × List D}
end
def tbl (l : List (FuncId × Ct)) (f : FuncId) : Option Ct := (l.find? (fun p => p.1 == f)).map (·.2)
variable {N : NR}
theorem tbl_nil : TbOK N Try.prog (tbl []) := fun f c h => by simp [tbl] at h
theorem tbl_cons {f : FuncId} {c : Ct} {l : List (FuncId × Ct)} (h : CtOK N Try.prog f c) (hc : callable Try.prog f = true) (hl : TbOK N Try.prog (tbl l)) : TbOK N Try.prog (tbl ((f, c) :: l)) := fun g d hg => by
  unfold tbl at hg
  rw [List.find?_cons] at hg
  by_cases e : f = g
  · subst e
    simp at hg
    subst hg
    exact ⟨h, hc⟩
  · have : ((f, c).1 == g) = false := by simpa using e
    rw [this] at hg
    exact hl g d hg
@[simp] theorem tbl_hit {f : FuncId} {c : Ct} {l : List (FuncId × Ct)} : tbl ((f, c) :: l) f = some c := by simp [tbl]
theorem rdD {α : Type} {e : α → List D} {pre : α → Prop} {post : α → List D} {f : FuncId} {fn : Func} {c : Code} {mf : FuncId → Bool} {tb : FuncId → Option Ct} (htb : TbOK N Try.prog tb) (hf : Try.prog.funcs[f]? = some fn) (hb : fn.body = some c) (hd : drawAll mf c = true)
    (h : ∀ a, pre a → (e a).length ≤ fn.ntmps ∧ awp Try.prog mf tb c (start fn.ntmps ((e a).map .dat) []) (endK Try.prog fn.ntmps fn.results.toList ((post a).map .dat) [])) : SpecD N Try.prog f (ctD e pre post) := by
  refine specD_of hf hb (fun ds hp => ?_)
  obtain ⟨a, rfl, h1, h2⟩ := ctD_pre hp
  rw [h2]
  exact ⟨(h a h1).1, awp_sound htb mo _ _ _ hd (h a h1).2⟩
def Nx (I : Nat → St → Prop) (n : Nat) (s : St) : Prop := ∃ m s'', m < n ∧ Snd s s'' ∧ I m s''
theorem loop_go {P : Program} {mf : FuncId → Bool} {tb : FuncId → Option Ct} {x : Code} {st : St} {K : Exit → St → Prop} (I : Nat → St → Prop) {n : Nat} {s0 : St} (h0 : Snd st s0) (hn : I n s0)
    (hx : ∀ n s, I n s → ∀ KN : St → Prop, (∀ s', Nx I n s' → KN s') → awp P mf tb x s (Klp KN K)) : awp P mf tb (.loop x) st K :=
  ⟨I, ⟨n, s0, h0, hn⟩, fun n s hi => hx n s hi _ (fun s' h => h)⟩
theorem nx {I : Nat → St → Prop} {n m : Nat} {s s'' : St} (h : Snd s s'') (hi : I m s'') (hm : m < n) : Nx I n s := ⟨m, s'', hm, h, hi⟩
@[simp] theorem bits_u64 : IntKind.u64.bits = 64 := rfl
@[simp] theorem bits_i64 : IntKind.i64.bits = 64 := rfl
@[simp] theorem bits_u32 : IntKind.u32.bits = 32 := rfl
@[simp] theorem cells_u32 (n : Int) : (Value.int .u32 n).cells.size = 1 := rfl
theorem wrap_u64 (n : Int) : IntKind.u64.wrap n = n % 18446744073709551616 := by simp [IntKind.wrap, IntKind.signed, IntKind.bits]
theorem wrap_i64 (n : Int) : IntKind.i64.wrap n = (n + 9223372036854775808) % 18446744073709551616 - 9223372036854775808 := IntKind.wrap_i64 n
theorem i64_id (n : Int) (h0 : -9223372036854775808 ≤ n) (h1 : n ≤ 9223372036854775807) : IntKind.i64.wrap n = n := by rw [wrap_i64]; omega
@[simp] theorem int_lt_succ (a : Int) : (a < a + 1) = True := by simp; omega
@[simp] theorem int_le_succ (a : Int) : (a ≤ a + 1) = True := by simp; omega
end Go.Proofs.Ytojbfdkpelldoaa.Ae

namespace Go.Proofs.Ytojbfdkpelldoaa.Ae
open Go Go.RowKit Go.Proofs.Ytojbfdkpelldoaa.Dig
variable {N : NR}
structure Ds where
  ds : List Nat
  ok : Digs ds
theorem Ds.ext {a b : Ds} (h : a.ds = b.ds) : a = b := by cases a; cases b; simp at h; subst h; rfl
end Go.Proofs.Ytojbfdkpelldoaa.Ae

namespace Go.Proofs.Ytojbfdkpelldoaa.Ae
open Go Go.RowKit Go.Proofs.Ytojbfdkpelldoaa.Dig
variable {N : NR}
structure N2 where
  a : Nat
  b : Nat
def Sm (n : Nat) : Prop := (mag n).length < 2 ^ 40
end Go.Proofs.Ytojbfdkpelldoaa.Ae

namespace Go.Proofs.Ytojbfdkpelldoaa.Ae
open Go Go.RowKit Go.Proofs.Ytojbfdkpelldoaa.Dig
variable {N : NR}
theorem getD_some {a : List Nat} {k : Nat} (ha : k < a.length) : a[k]? = some (a.getD k 0) := by
  rw [List.getD_eq_getElem?_getD, List.getElem?_eq_getElem ha]; rfl
end Go.Proofs.Ytojbfdkpelldoaa.Ae

namespace Go.Proofs.Ytojbfdkpelldoaa.Ae
open Go Go.RowKit Go.Proofs.Ytojbfdkpelldoaa.Dig
variable {N : NR}
end Go.Proofs.Ytojbfdkpelldoaa.Ae

namespace Go.Proofs.Ytojbfdkpelldoaa.Ae
open Go Go.RowKit Go.Proofs.Ytojbfdkpelldoaa.Dig
variable {N : NR}
end Go.Proofs.Ytojbfdkpelldoaa.Ae

namespace Go.Proofs.Ytojbfdkpelldoaa.Ae
open Go Go.RowKit Go.Proofs.Ytojbfdkpelldoaa.Dig
variable {N : NR}
end Go.Proofs.Ytojbfdkpelldoaa.Ae

namespace Go.Proofs.Ytojbfdkpelldoaa.Ae
open Go Go.RowKit Go.Proofs.Ytojbfdkpelldoaa.Dig
variable {N : NR}
theorem tmod_nat (a b : Nat) : Int.tmod (a : Int) b = ((a % b : Nat) : Int) := rfl
end Go.Proofs.Ytojbfdkpelldoaa.Ae

namespace Go.Proofs.Ytojbfdkpelldoaa.Ae
open Go Go.RowKit
def obs (n : Nat) (l : List (Nat × Nat × Ob)) : List (Option Ob) := l.foldr (fun p ob => ob.set p.1 (some p.2.2)) (nO n)
def rho : List (Nat × Nat × Ob) → Nat → Nat
  | [], o => o
  | p :: l, o => if o = p.1 then p.2.1 else rho l o
def LeTr (ρ : Nat → Nat) : List X → List X → Prop
  | [], [] => True
  | x :: a, y :: b => (y = .any ∨ x = y.ren ρ) ∧ LeTr ρ a b
  | _, _ => False
theorem leTr_len (ρ : Nat → Nat) : ∀ (a b : List X), LeTr ρ a b → b.length = a.length
  | [], [], _ => rfl
  | x :: a, y :: b, h => by simp [leTr_len ρ a b h.2]
  | [], _ :: _, h => h.elim
  | _ :: _, [], h => h.elim
theorem leTr_get (ρ : Nat → Nat) : ∀ (a b : List X), LeTr ρ a b → ∀ t, b.getD t .any = .any ∨ a.getD t .any = (b.getD t .any).ren ρ
  | [], [], _, t => .inl rfl
  | x :: a, y :: b, h, 0 => h.1
  | x :: a, y :: b, h, t + 1 => by simpa using leTr_get ρ a b h.2 t
  | [], _ :: _, h, _ => h.elim
  | _ :: _, [], h, _ => h.elim
theorem obs_get (n : Nat) : ∀ (l : List (Nat × Nat × Ob)) (o : Nat) (ob : Ob), (obs n l).getD o none = some ob → ∃ p ∈ l, p.1 = o ∧ p.2.1 = rho l o ∧ p.2.2 = ob
  | [], o, ob, h => by
    simp only [obs, List.foldr_nil, nO, List.getD_eq_getElem?_getD, List.getElem?_replicate] at h
    split at h <;> cases h
  | p :: l, o, ob, h => by
    have e : obs n (p :: l) = (obs n l).set p.1 (some p.2.2) := rfl
    rw [e, List.getD_eq_getElem?_getD, List.getElem?_set] at h
    by_cases hp : p.1 = o
    · rw [if_pos hp] at h
      split at h
      · simp at h
        exact ⟨p, List.mem_cons_self, hp, by simp [rho, hp], h⟩
      · cases h
    · rw [if_neg hp, ← List.getD_eq_getElem?_getD] at h
      obtain ⟨q, hq, h1, h2, h3⟩ := obs_get n l o ob h
      refine ⟨q, List.mem_cons_of_mem _ hq, h1, ?_, h3⟩
      rw [h2]
      have : ¬ o = p.1 := fun e => hp e.symm
      simp [rho, this]
def Ob.isP : Ob → Bool
  | .pbox _ => true
  | .prow _ _ _ _ => true
  | _ => false
def obsOk (s : List (Option Ob)) : List (Nat × Nat × Ob) → Prop
  | [] => True
  | p :: l => gO s p.2.1 = some p.2.2 ∧ (p.2.2.isP = true → p.1 = p.2.1) ∧ (∀ q ∈ l, q.2.1 = p.2.1 → q.1 = p.1) ∧ obsOk s l
theorem obsOk_at {s : List (Option Ob)} : ∀ (l : List (Nat × Nat × Ob)), obsOk s l → ∀ p ∈ l, gO s p.2.1 = some p.2.2 ∧ (p.2.2.isP = true → p.1 = p.2.1)
  | [], _, p, hp => by cases hp
  | q :: l, h, p, hp => by
    rcases List.mem_cons.1 hp with rfl | hp
    · exact ⟨h.1, h.2.1⟩
    · exact obsOk_at l h.2.2.2 p hp
theorem obsOk_inj {s : List (Option Ob)} : ∀ (l : List (Nat × Nat × Ob)), obsOk s l → ∀ p ∈ l, ∀ q ∈ l, p.2.1 = q.2.1 → p.1 = q.1
  | [], _, p, hp, _, _, _ => by cases hp
  | r :: l, h, p, hp, q, hq, e => by
    rcases List.mem_cons.1 hp with rfl | hp' <;> rcases List.mem_cons.1 hq with rfl | hq'
    · rfl
    · exact (h.2.2.1 q hq' e.symm).symm
    · exact h.2.2.1 p hp' e
    · exact obsOk_inj l h.2.2.2 p hp' q hq' e
theorem snd_obs {s s' : St} {n : Nat} (l : List (Nat × Nat × Ob)) (e : s'.ob = obs n l) (ho : obsOk s.ob l) (h : LeTr (rho l) s.tm s'.tm) : Snd s s' :=
  Le.snd (ρ := rho l) ⟨leTr_len _ _ _ h, fun t => leTr_get _ _ _ h t, fun o ob hd => by
      unfold St.obj at hd ⊢
      rw [e] at hd
      obtain ⟨p, hp, h1, h2, h3⟩ := obs_get n l o ob hd
      rw [← h2, ← h3]
      exact (obsOk_at l ho p hp).1,
    fun o d hd => by
      unfold St.obj at hd
      rw [e] at hd
      obtain ⟨p, hp, h1, h2, h3⟩ := obs_get n l o _ hd
      rw [← h2, ← h1]
      exact ((obsOk_at l ho p hp).2 (by rw [h3]; rfl)).symm,
    fun o sz e' cp xs hd => by
      unfold St.obj at hd
      rw [e] at hd
      obtain ⟨p, hp, h1, h2, h3⟩ := obs_get n l o _ hd
      rw [← h2, ← h1]
      exact ((obsOk_at l ho p hp).2 (by rw [h3]; rfl)).symm,
    fun o o' ob ob' h1 h2 he => by
      unfold St.obj at h1 h2
      rw [e] at h1 h2
      obtain ⟨p, hp, p1, p2, _⟩ := obs_get n l o _ h1
      obtain ⟨q, hq, q1, q2, _⟩ := obs_get n l o' _ h2
      rw [← p1, ← q1]
      exact obsOk_inj l ho p hp q hq (by rw [p2, q2, he])⟩
attribute [simp] LeTr rho obsOk Ob.isP X.ren Rv.ren
end Go.Proofs.Ytojbfdkpelldoaa.Ae

namespace Go.Proofs.Ytojbfdkpelldoaa.Ae
open Go Go.RowKit Go.Proofs.Ytojbfdkpelldoaa.Dig
variable {N : NR}
end Go.Proofs.Ytojbfdkpelldoaa.Ae

namespace Go.Proofs.Ytojbfdkpelldoaa.Ae
open Go Go.RowKit Go.Proofs.Ytojbfdkpelldoaa.Dig
variable {N : NR}
section
variable {α : Type} {e : α → List D × Nat × Nat × List D} {pre : α → Prop} {post : α → Option Wr × List D}
end
def part (xs : List Nat) (lo n : Nat) : List Nat := (xs.drop lo).take n
end Go.Proofs.Ytojbfdkpelldoaa.Ae

namespace Go.Proofs.Ytojbfdkpelldoaa.Ae
open Go Go.RowKit Go.Proofs.Ytojbfdkpelldoaa.Dig
variable {N : NR}
def put (xs : List Nat) (lo n x : Nat) : List Nat := xs.take lo ++ dig n x ++ xs.drop (lo + n)
end Go.Proofs.Ytojbfdkpelldoaa.Ae

namespace Go.Proofs.Ytojbfdkpelldoaa.Ae
open Go Go.RowKit Go.Proofs.Ytojbfdkpelldoaa.Dig
variable {N : NR}
end Go.Proofs.Ytojbfdkpelldoaa.Ae

namespace Go.Proofs.Ytojbfdkpelldoaa.Ae
open Go Go.RowKit Go.Proofs.Ytojbfdkpelldoaa.Dig
variable {N : NR}
end Go.Proofs.Ytojbfdkpelldoaa.Ae

namespace Go.Proofs.Ytojbfdkpelldoaa.Ae
open Go Go.RowKit Go.Proofs.Ytojbfdkpelldoaa.Dig
variable {N : NR}
end Go.Proofs.Ytojbfdkpelldoaa.Ae

namespace Go.Proofs.Ytojbfdkpelldoaa.Dig
structure Kn (W V P top v2 u0 u1 u2 : Nat) : Prop where
  P0 : 0 < P
  hV : ∃ l, l < P ∧ V = l + P * (v2 + B * top)
  hW : ∃ l, l < P ∧ W = l + P * (u2 + B * (u1 + B * u0))
  v2B : v2 < B
  u2B : u2 < B
  u1B : u1 < B
  t0 : 0 < top
  lt : W < B * V
variable {W V P top v2 u0 u1 u2 : Nat}
theorem Kn.V0 (h : Kn W V P top v2 u0 u1 u2) : P * B ≤ V := by
  obtain ⟨l, _, e⟩ := h.hV
  have h1 : P * (B * 1) ≤ P * (B * top) := Nat.mul_le_mul_left _ (Nat.mul_le_mul_left _ h.t0)
  rw [Nat.mul_one] at h1
  rw [e, Nat.mul_add]; omega
theorem Kn.Vpos (h : Kn W V P top v2 u0 u1 u2) : 0 < V := Nat.lt_of_lt_of_le (Nat.mul_pos h.P0 B_pos) h.V0
theorem Kn.start (h : Kn W V P top v2 u0 u1 u2) : W / V ≤ (u1 + B * u0) / top := by
  rw [Nat.le_div_iff_mul_le h.t0]
  obtain ⟨l, hl, e⟩ := h.hV
  obtain ⟨m, hm, e'⟩ := h.hW
  have h1 : W / V * V ≤ W := Nat.div_mul_le_self _ _
  have h2 : W < P * B * (u1 + B * u0 + 1) := by
    have h3 : P * (u2 + 1) ≤ P * B := Nat.mul_le_mul_left _ h.u2B
    rw [e', Nat.mul_add P, Nat.mul_add (P * B), Nat.mul_one, ← Nat.mul_assoc P B]
    rw [Nat.mul_add, Nat.mul_one] at h3
    omega
  have h4 : P * B * (W / V * top) ≤ W / V * V := by
    have : P * (B * top) ≤ V := by rw [e, Nat.mul_add]; omega
    have := Nat.mul_le_mul_left (W / V) this
    have e3 : P * B * (W / V * top) = W / V * (P * (B * top)) := by simp only [Nat.mul_assoc, Nat.mul_comm, Nat.mul_left_comm]
    omega
  have h5 : P * B * (W / V * top) < P * B * (u1 + B * u0 + 1) := by omega
  have := Nat.lt_of_mul_lt_mul_left h5
  omega
theorem Kn.q_lt (h : Kn W V P top v2 u0 u1 u2) : W / V < B := (Nat.div_lt_iff_lt_mul h.Vpos).2 h.lt
theorem Kn.dec (h : Kn W V P top v2 u0 u1 u2) {g r : Nat} (hi : g * top + r = u1 + B * u0) (hq : W / V ≤ g) (hc : B ≤ g ∨ r * B + u2 < g * v2) : 1 ≤ g ∧ (g - 1) * top + (r + top) = u1 + B * u0 ∧ W / V ≤ g - 1 := by
  have hlt : W / V < g := by
    rcases hc with hc | hc
    · have := h.q_lt; omega
    · rw [Nat.div_lt_iff_lt_mul h.Vpos]
      obtain ⟨l, hl, e⟩ := h.hV
      obtain ⟨m, hm, e'⟩ := h.hW
      have h1 : g * (P * (v2 + B * top)) ≤ g * V := Nat.mul_le_mul_left _ (by omega)
      have h2 : W < P * (u2 + B * (u1 + B * u0) + 1) := by rw [e', Nat.mul_add P _ 1]; omega
      have h3 : u2 + B * (u1 + B * u0) + 1 ≤ g * (v2 + B * top) := by
        rw [← hi, Nat.mul_add B, Nat.mul_add g]
        have e1 : B * (g * top) = g * (B * top) := Nat.mul_left_comm _ _ _
        rw [e1, Nat.mul_comm B r]
        omega
      have h4 : P * (u2 + B * (u1 + B * u0) + 1) ≤ P * (g * (v2 + B * top)) := Nat.mul_le_mul_left _ h3
      have h5 : P * (g * (v2 + B * top)) = g * (P * (v2 + B * top)) := Nat.mul_left_comm _ _ _
      omega
  generalize W / V = q at hlt hq ⊢
  refine ⟨by omega, ?_, by omega⟩
  obtain ⟨k, rfl⟩ : ∃ k, g = k + 1 := ⟨g - 1, by omega⟩
  rw [Nat.add_sub_cancel]
  rw [Nat.add_mul, Nat.one_mul] at hi
  omega
theorem Kn.u0_le (h : Kn W V P top v2 u0 u1 u2) : u0 ≤ top := by
  obtain ⟨l, hl, e⟩ := h.hV
  obtain ⟨m, hm, e'⟩ := h.hW
  have h1 : P * (B * (B * u0)) ≤ W := by
    rw [e', Nat.mul_add P, Nat.mul_add B, Nat.mul_add P]
    omega
  have h2 : V < P * (B * (top + 1)) := by
    have h3 : P * (v2 + 1) ≤ P * B := Nat.mul_le_mul_left _ h.v2B
    rw [Nat.mul_add, Nat.mul_one] at h3
    rw [e, Nat.mul_add B, Nat.mul_add P, Nat.mul_add P, Nat.mul_one]
    omega
  have h3 : B * V < B * (P * (B * (top + 1))) := Nat.mul_lt_mul_of_pos_left h2 B_pos
  have h4 := h.lt
  have e3 : B * (P * (B * (top + 1))) = P * (B * (B * (top + 1))) := Nat.mul_left_comm _ _ _
  have h5 : P * (B * (B * u0)) < P * (B * (B * (top + 1))) := by omega
  have h6 := Nat.lt_of_mul_lt_mul_left (Nat.lt_of_mul_lt_mul_left (Nat.lt_of_mul_lt_mul_left h5))
  omega
theorem Kn.done (h : Kn W V P top v2 u0 u1 u2) {g r : Nat} (hi : g * top + r = u1 + B * u0) (hc : ¬ (r < B ∧ (B ≤ g ∨ r * B + u2 < g * v2))) : g < B ∧ g ≤ W / V + 1 := by
  obtain ⟨l, hl, e⟩ := h.hV
  obtain ⟨m, hm, e'⟩ := h.hW
  by_cases hr : r < B
  · have hg : g < B := by
      rcases Nat.lt_or_ge g B with h1 | h1
      · exact h1
      · exact absurd ⟨hr, .inl h1⟩ hc
    have hv : g * v2 ≤ r * B + u2 := by
      rcases Nat.lt_or_ge (r * B + u2) (g * v2) with h1 | h1
      · exact absurd ⟨hr, .inr h1⟩ hc
      · exact h1
    refine ⟨hg, ?_⟩
    have h1 : g * V < W + V := by
      have h2 : g * (v2 + B * top) ≤ u2 + B * (u1 + B * u0) := by
        rw [← hi, Nat.mul_add B, Nat.mul_add g]
        have e1 : B * (g * top) = g * (B * top) := Nat.mul_left_comm _ _ _
        rw [e1, Nat.mul_comm B r]
        omega
      have h3 : P * (g * (v2 + B * top)) ≤ P * (u2 + B * (u1 + B * u0)) := Nat.mul_le_mul_left _ h2
      have h4 : g * V = g * l + P * (g * (v2 + B * top)) := by rw [e, Nat.mul_add, Nat.mul_left_comm g P]
      have h5 : g * l ≤ g * P := Nat.mul_le_mul_left _ (Nat.le_of_lt hl)
      have h6 : g * P < B * P := Nat.mul_lt_mul_of_pos_right hg h.P0
      have h7 := h.V0
      rw [Nat.mul_comm P B] at h7
      omega
    cases g with
    | zero => exact Nat.zero_le _
    | succ k =>
      have h2 : k * V ≤ W := by rw [Nat.add_mul, Nat.one_mul] at h1; omega
      have h3 := (Nat.le_div_iff_mul_le h.Vpos).2 h2
      exact Nat.succ_le_succ h3
  · have hu := h.u0_le
    have h1 := h.u1B
    have hg : g < B := by
      have h2 : B * u0 ≤ B * top := Nat.mul_le_mul_left _ hu
      have h3 : g * top < B * top := by omega
      exact Nat.lt_of_mul_lt_mul_right h3
    refine ⟨hg, ?_⟩
    have h2 : g * V ≤ W := by
      have h3 : l + P * v2 ≤ P * B := by
        have : P * (v2 + 1) ≤ P * B := Nat.mul_le_mul_left _ h.v2B
        rw [Nat.mul_add, Nat.mul_one] at this
        omega
      have h4 : g * (l + P * v2) ≤ r * (P * B) := Nat.mul_le_mul (by omega) h3
      have h5 : g * V = g * (l + P * v2) + P * B * (g * top) := by
        have e1 : P * B * (g * top) = g * (P * (B * top)) := by simp only [Nat.mul_assoc, Nat.mul_comm, Nat.mul_left_comm]
        rw [e, Nat.mul_add P, ← Nat.add_assoc, Nat.mul_add g, e1]
      have h6 : P * B * (g * top) + P * B * r = P * B * (u1 + B * u0) := by rw [← Nat.mul_add, hi]
      have h7 : P * B * (u1 + B * u0) ≤ W := by
        rw [e', Nat.mul_add P u2, ← Nat.mul_assoc P B]
        omega
      rw [Nat.mul_comm r] at h4
      omega
    exact Nat.le_succ_of_le ((Nat.le_div_iff_mul_le h.Vpos).2 h2)
end Go.Proofs.Ytojbfdkpelldoaa.Dig

namespace Go.Proofs.Ytojbfdkpelldoaa.Ae
open Go Go.RowKit Go.Proofs.Ytojbfdkpelldoaa.Dig
variable {N : NR}
def sq1 : Code → Code
  | .seq a _ => a
  | c => c
def sq2 : Code → Code
  | .seq _ b => b
  | c => c
def inB : Code → Code
  | .block _ c => c
  | c => c
def inL : Code → Code
  | .loop c => c
  | c => c
end Go.Proofs.Ytojbfdkpelldoaa.Ae

namespace Go.Proofs.Ytojbfdkpelldoaa.Ae
open Go Go.RowKit Go.Proofs.Ytojbfdkpelldoaa.Dig
end Go.Proofs.Ytojbfdkpelldoaa.Ae

namespace Go.Proofs.Ytojbfdkpelldoaa.Ae
open Go Go.RowKit Go.Proofs.Ytojbfdkpelldoaa.Dig
end Go.Proofs.Ytojbfdkpelldoaa.Ae

namespace Go.Proofs.Ytojbfdkpelldoaa.Ae
open Go Go.RowKit Go.Proofs.Ytojbfdkpelldoaa.Dig
variable {N : NR}
end Go.Proofs.Ytojbfdkpelldoaa.Ae

namespace Go.Proofs.Ytojbfdkpelldoaa.Ae
open Go Go.RowKit Go.Proofs.Ytojbfdkpelldoaa.Dig
variable {N : NR}
structure N1 where
  a : Nat
def u64D (n : Nat) : D := .lit (.int .u64 n)
theorem u64D_inj {a b : Nat} (h : u64D a = u64D b) : a = b := by simp [u64D] at h; omega
structure Z1 where
  a : Int
def i64D (n : Int) : D := .lit (.int .i64 n)
theorem i64D_inj {a b : Int} (h : i64D a = i64D b) : a = b := by simp [i64D] at h; omega
def z1E (p : Z1) : List D := [i64D p.a]
theorem z1E_inj (p q : Z1) (h : z1E p = z1E q) : p = q := by
  obtain ⟨a⟩ := p; obtain ⟨c⟩ := q
  simp only [z1E, List.cons.injEq, and_true] at h
  rw [i64D_inj h]
def I64 (x : Int) : Prop := -9223372036854775808 ≤ x ∧ x ≤ 9223372036854775807
noncomputable def absC := ctD z1E (fun p => I64 p.a) (fun p => [u64D p.a.natAbs])
theorem absC_at (a : Int) : absC [i64D a] = (I64 a, [u64D a.natAbs]) := ctD_at z1E_inj ⟨a⟩
theorem l1Abs_spec : SpecD N Try.prog 39 absC := by
  refine rdD (mf := fun f => false) tbl_nil (fn := Try.f39) (by kernel_rfl) rfl (by kernel_rfl) ?_
  rintro ⟨x⟩ hx
  have hx : -9223372036854775808 ≤ x ∧ x ≤ 9223372036854775807 := hx
  refine ⟨by show 1 ≤ 10; decide, ?_⟩
  simp only [z1E, i64D, u64D, Try.f39]
  generalize hy : ((x.natAbs : Nat) : Int) = y
  by_cases h : x < 0
  · have r1 : IntKind.u64.wrap (-IntKind.u64.wrap x) = y := by rw [wrap_u64, wrap_u64]; omega
    simp [h, r1]
  · have r1 : IntKind.u64.wrap x = y := by rw [wrap_u64]; omega
    simp [h, r1]
theorem l1Abs_ok : callable Try.prog 39 = true := by kernel_rfl
end Go.Proofs.Ytojbfdkpelldoaa.Ae

namespace Go.Proofs.Ytojbfdkpelldoaa.Ae
open Go Go.RowKit Go.Proofs.Ytojbfdkpelldoaa.Dig
variable {N : NR}
end Go.Proofs.Ytojbfdkpelldoaa.Ae

namespace Go.Proofs.Ytojbfdkpelldoaa.Ae
open Go Go.RowKit Go.Proofs.Ytojbfdkpelldoaa.Dig
variable {N : NR}
end Go.Proofs.Ytojbfdkpelldoaa.Ae

namespace Go.Proofs.Ytojbfdkpelldoaa.Ae
open Go Go.RowKit Go.Proofs.Ytojbfdkpelldoaa.Dig
variable {N : NR}
end Go.Proofs.Ytojbfdkpelldoaa.Ae

namespace Go.Proofs.Ytojbfdkpelldoaa.Ae
open Go Go.RowKit Go.Proofs.Ytojbfdkpelldoaa.Dig
variable {N : NR}
end Go.Proofs.Ytojbfdkpelldoaa.Ae

namespace Go.Proofs.Ytojbfdkpelldoaa.Ae
open Go Go.RowKit Go.Proofs.Ytojbfdkpelldoaa.Dig
variable {N : NR}
end Go.Proofs.Ytojbfdkpelldoaa.Ae

namespace Go.Proofs.Ytojbfdkpelldoaa.Ae
open Go Go.RowKit Go.Proofs.Ytojbfdkpelldoaa.Dig
variable {N : NR}
end Go.Proofs.Ytojbfdkpelldoaa.Ae

namespace Go.Proofs.Ytojbfdkpelldoaa.Ae
open Go Go.RowKit Go.Proofs.Ytojbfdkpelldoaa.Dig
end Go.Proofs.Ytojbfdkpelldoaa.Ae

namespace Go.Proofs.Ytojbfdkpelldoaa.Ae
open Go Go.RowKit Go.Proofs.Ytojbfdkpelldoaa.Dig
end Go.Proofs.Ytojbfdkpelldoaa.Ae

namespace Go.Proofs.Ytojbfdkpelldoaa.Ae
open Go Go.RowKit Go.Proofs.Ytojbfdkpelldoaa.Dig
end Go.Proofs.Ytojbfdkpelldoaa.Ae

namespace Go.Proofs.Ytojbfdkpelldoaa.Ae
open Go Go.RowKit Go.Proofs.Ytojbfdkpelldoaa.Dig
end Go.Proofs.Ytojbfdkpelldoaa.Ae

namespace Go.Proofs.Ytojbfdkpelldoaa.Ae
open Go Go.RowKit Go.Proofs.Ytojbfdkpelldoaa.Dig
variable {N : NR}
end Go.Proofs.Ytojbfdkpelldoaa.Ae

namespace Go.Proofs.Ytojbfdkpelldoaa.Ae
open Go Go.RowKit Go.Proofs.Ytojbfdkpelldoaa.Dig
variable {N : NR}
end Go.Proofs.Ytojbfdkpelldoaa.Ae

namespace Go.Proofs.Ytojbfdkpelldoaa.Ae
open Go Go.RowKit Go.Proofs.Ytojbfdkpelldoaa.Dig
variable {N : NR}
@[simp] theorem range1 : List.range 1 = [0] := rfl
@[simp] theorem range2 : List.range 2 = [0, 1] := rfl
@[simp] theorem range3 : List.range 3 = [0, 1, 2] := rfl
@[simp] theorem range4 : List.range 4 = [0, 1, 2, 3] := rfl
@[simp] theorem cells_z : (Value.agg #[Value.bool false, Value.slice none 0 0]).cells.size = 2 := by rfl
@[simp] theorem cells_q : (Value.agg #[Value.int .i64 0, Value.int .i64 0]).cells.size = 2 := by rfl
@[simp] theorem cells_r : (Value.agg #[Value.int .i64 0, Value.int .i64 0, Value.slice none 0 0]).cells.size = 3 := by rfl
theorem Sub.agg2 {a b a' b' : D} (ha : Sub a a') (hb : Sub b b') : Sub (.agg [a, b]) (.agg [a', b']) := Sub.agg rfl (fun i d d' h h' => by
  match i with
  | 0 => simp at h h'; subst h h'; exact ha
  | 1 => simp at h h'; subst h h'; exact hb
  | i + 2 => simp at h)
theorem Sub.agg3 {a b c a' b' c' : D} (ha : Sub a a') (hb : Sub b b') (hc : Sub c c') : Sub (.agg [a, b, c]) (.agg [a', b', c']) := Sub.agg rfl (fun i d d' h h' => by
  match i with
  | 0 => simp at h h'; subst h h'; exact ha
  | 1 => simp at h h'; subst h h'; exact hb
  | 2 => simp at h h'; subst h h'; exact hc
  | i + 3 => simp at h)
@[simp] theorem sub_z0 : Sub (.agg [.lit (.bool false), .lit (.slice none 0 0)]) (.agg [.lit (.bool false), .sl 1 []]) = True := by
  simp only [eq_iff_iff, iff_true]; exact Sub.agg2 (Sub.refl _) (Sub.nil 1)
def eZ (z : Int) : D := .agg [.lit (.bool (decide (z < 0))), eM z.natAbs]
structure Z2 where
  a : Int
  b : Int
def SZ (z : Int) : Prop := Sm z.natAbs
@[simp] theorem eZ_size (z : Int) : (eZ z).size = 2 := rfl
@[simp] theorem eZ_agg (z : Int) : (eZ z).isAgg = true := rfl
end Go.Proofs.Ytojbfdkpelldoaa.Ae

namespace Go.Proofs.Ytojbfdkpelldoaa.Ae
open Go Go.RowKit Go.Proofs.Ytojbfdkpelldoaa.Dig
variable {N : NR}
def uuE (p : N2) : List D := [u64D p.a, u64D p.b]
theorem uuE_inj (p q : N2) (h : uuE p = uuE q) : p = q := by
  obtain ⟨a, b⟩ := p; obtain ⟨c, d⟩ := q
  simp only [uuE, List.cons.injEq, and_true] at h
  rw [u64D_inj h.1, u64D_inj h.2]
noncomputable def gcdC := ctD uuE (fun p => p.a < 18446744073709551616 ∧ p.b < 18446744073709551616) (fun p => [u64D (Nat.gcd p.a p.b)])
theorem gcdC_at (a b : Nat) : gcdC [u64D a, u64D b] = ((a < 18446744073709551616 ∧ b < 18446744073709551616), [u64D (Nat.gcd a b)]) := ctD_at uuE_inj ⟨a, b⟩
def gcdS (a b : Nat) : St := ⟨[.dat (.lit (.int .u64 a)), .dat (.lit (.int .u64 b)), .any, .any, .any, .any, .any, .any, .any, .any, .any, .any], [none, none, none, none, none, none, none, none, none, none, none, none]⟩
theorem l1Gcd_spec : SpecD N Try.prog 38 gcdC := by
  refine rdD (mf := fun f => false) tbl_nil (fn := Try.f38) (by kernel_rfl) rfl (by kernel_rfl) ?_
  rintro ⟨a, b⟩ ⟨ha, hb⟩
  have ha : a < 18446744073709551616 := ha
  have hb : b < 18446744073709551616 := hb
  refine ⟨by show 2 ≤ 12; decide, ?_⟩
  simp only [uuE, u64D, Try.f38]
  generalize hg : Nat.gcd a b = g
  simp
  refine loop_go (fun n st => ∃ x y : Nat, x < 18446744073709551616 ∧ y < 18446744073709551616 ∧ Nat.gcd x y = g ∧ n = y ∧ st = gcdS x y) (s0 := gcdS a b) (n := b) (snd_of (by simp [LeT, gcdS]) (by simp [gcdS])) ⟨a, b, ha, hb, hg, rfl, rfl⟩ ?_
  rintro y st ⟨x, _, hx, hy, hxy, rfl, rfl⟩ KN hN
  rcases Nat.eq_zero_or_pos y with h0 | h0
  · subst h0
    rw [Nat.gcd_zero_right] at hxy
    subst hxy
    simp [gcdS]
  · have h1 : ¬ y = 0 := by omega
    obtain ⟨r, hr⟩ : ∃ r, r = x % y := ⟨_, rfl⟩
    have hry : r < y := by rw [hr]; exact Nat.mod_lt _ h0
    have q1 := tmod_nat x y
    rw [← hr] at q1
    have q2 : IntKind.u64.wrap (r : Int) = r := by rw [wrap_u64]; omega
    simp [gcdS, h1, q1, q2]
    refine hN _ (nx (m := r) (s'' := gcdS y r) (snd_of (by simp [LeT, gcdS]) (by simp [gcdS])) ⟨y, r, hy, by omega, ?_, rfl, rfl⟩ hry)
    rw [hr, ← hxy, Nat.gcd_comm y, ← Nat.gcd_rec, Nat.gcd_comm]
theorem l1Gcd_ok : callable Try.prog 38 = true := by kernel_rfl
end Go.Proofs.Ytojbfdkpelldoaa.Ae

namespace Go.Proofs.Ytojbfdkpelldoaa.Ae
open Go Go.RowKit Go.Proofs.Ytojbfdkpelldoaa.Dig
variable {N : NR}
inductive SR where
  | small (n d : Int)
  | lit (n d : Int)
  | big (p q : Int)
def SR.num : SR → Int
  | small n _ => n
  | lit n _ => n
  | big p _ => p
def SR.den : SR → Int
  | small _ d => d
  | lit _ d => d
  | big _ q => q
def eR : SR → D
  | .small n d => .agg [i64D n, i64D d, .sl 2 []]
  | .lit n d => .agg [i64D n, i64D d, .lit (.slice none 0 0)]
  | .big p q => .agg [i64D 0, i64D 0, .sl 2 [eZ p, eZ q]]
def WR : SR → Prop
  | .small n d => n.natAbs < 2147483648 ∧ 0 < d ∧ d < 2147483648
  | .lit n d => n.natAbs < 2147483648 ∧ 0 < d ∧ d < 2147483648
  | .big p q => SZ p ∧ SZ q ∧ 0 < q
@[simp] theorem sub_r0 (n d : Int) : Sub (.agg [.lit (.int .i64 n), .lit (.int .i64 d), .lit (.slice none 0 0)]) (.agg [.lit (.int .i64 n), .lit (.int .i64 d), .sl 2 []]) = True := by
  simp only [eq_iff_iff, iff_true]; exact Sub.agg3 (Sub.refl _) (Sub.refl _) (Sub.nil 2)
@[simp] theorem eR_size (r : SR) : (eR r).size = 3 := by cases r <;> rfl
@[simp] theorem eR_isAgg (r : SR) : (eR r).isAgg = true := by cases r <;> rfl
end Go.Proofs.Ytojbfdkpelldoaa.Ae

namespace Go.Proofs.Ytojbfdkpelldoaa.Ae
open Go Go.RowKit Go.Proofs.Ytojbfdkpelldoaa.Dig
variable {N : NR}
end Go.Proofs.Ytojbfdkpelldoaa.Ae

namespace Go.Proofs.Ytojbfdkpelldoaa.Ae
open Go Go.RowKit Go.Proofs.Ytojbfdkpelldoaa.Dig
variable {N : NR}
end Go.Proofs.Ytojbfdkpelldoaa.Ae

namespace Go.Proofs.Ytojbfdkpelldoaa.Ae
open Go Go.RowKit Go.Proofs.Ytojbfdkpelldoaa.Dig
variable {N : NR}
end Go.Proofs.Ytojbfdkpelldoaa.Ae

namespace Go.Proofs.Ytojbfdkpelldoaa.Ae
open Go Go.RowKit Go.Proofs.Ytojbfdkpelldoaa.Dig
variable {N : NR}
end Go.Proofs.Ytojbfdkpelldoaa.Ae

namespace Go.Proofs.Ytojbfdkpelldoaa.Ae
open Go Go.RowKit Go.Proofs.Ytojbfdkpelldoaa.Dig
variable {N : NR}
def eQ (n d : Int) : D := .agg [i64D n, i64D d]
def qE (p : Z2) : List D := [eQ p.a p.b]
theorem qE_inj (p q : Z2) (h : qE p = qE q) : p = q := by
  obtain ⟨a, b⟩ := p; obtain ⟨c, d⟩ := q
  simp only [qE, eQ, List.cons.injEq, and_true, D.agg.injEq] at h
  rw [i64D_inj h.1, i64D_inj h.2]
end Go.Proofs.Ytojbfdkpelldoaa.Ae

namespace Go.Proofs.Ytojbfdkpelldoaa.Ae
open Go Go.RowKit Go.Proofs.Ytojbfdkpelldoaa.Dig
variable {N : NR}
end Go.Proofs.Ytojbfdkpelldoaa.Ae

namespace Go.Proofs.Ytojbfdkpelldoaa.Ae
open Go Go.RowKit Go.Proofs.Ytojbfdkpelldoaa.Dig
variable {N : NR}
inductive BC where
  | z (v : Int)
  | new
end Go.Proofs.Ytojbfdkpelldoaa.Ae

namespace Go.Proofs.Ytojbfdkpelldoaa.Ae
open Go Go.RowKit Go.Proofs.Ytojbfdkpelldoaa.Dig
variable {N : NR}
end Go.Proofs.Ytojbfdkpelldoaa.Ae

namespace Go.Proofs.Ytojbfdkpelldoaa.Ae
open Go Go.RowKit Go.Proofs.Ytojbfdkpelldoaa.Dig
variable {N : NR}
theorem abs64_spec : SpecD N Try.prog 42 absC := by
  refine rdD (mf := fun f => false) tbl_nil (fn := Try.f42) (by kernel_rfl) rfl (by kernel_rfl) ?_
  rintro ⟨x⟩ hx
  have hx : -9223372036854775808 ≤ x ∧ x ≤ 9223372036854775807 := hx
  refine ⟨by show 1 ≤ 10; decide, ?_⟩
  simp only [z1E, i64D, u64D, Try.f42]
  generalize hy : ((x.natAbs : Nat) : Int) = y
  by_cases h : x < 0
  · have r1 : IntKind.u64.wrap (IntKind.i64.wrap (-x)) = y := by rw [wrap_u64, wrap_i64]; omega
    simp [h, r1]
  · have r1 : IntKind.u64.wrap x = y := by rw [wrap_u64]; omega
    simp [h, r1]
theorem abs64_ok : callable Try.prog 42 = true := by kernel_rfl
theorem gcd64_spec : SpecD N Try.prog 41 gcdC := by
  refine rdD (mf := fun f => false) tbl_nil (fn := Try.f41) (by kernel_rfl) rfl (by kernel_rfl) ?_
  rintro ⟨a, b⟩ ⟨ha, hb⟩
  have ha : a < 18446744073709551616 := ha
  have hb : b < 18446744073709551616 := hb
  refine ⟨by show 2 ≤ 12; decide, ?_⟩
  simp only [uuE, u64D, Try.f41]
  generalize hg : Nat.gcd a b = g
  simp
  refine loop_go (fun n st => ∃ x y : Nat, x < 18446744073709551616 ∧ y < 18446744073709551616 ∧ Nat.gcd x y = g ∧ n = y ∧ st = gcdS x y) (s0 := gcdS a b) (n := b) (snd_of (by simp [LeT, gcdS]) (by simp [gcdS])) ⟨a, b, ha, hb, hg, rfl, rfl⟩ ?_
  rintro y st ⟨x, _, hx, hy, hxy, rfl, rfl⟩ KN hN
  rcases Nat.eq_zero_or_pos y with h0 | h0
  · subst h0
    rw [Nat.gcd_zero_right] at hxy
    subst hxy
    simp [gcdS]
  · have h1 : ¬ y = 0 := by omega
    obtain ⟨r, hr⟩ : ∃ r, r = x % y := ⟨_, rfl⟩
    have hry : r < y := by rw [hr]; exact Nat.mod_lt _ h0
    have q1 := tmod_nat x y
    rw [← hr] at q1
    have q2 : IntKind.u64.wrap (r : Int) = r := by rw [wrap_u64]; omega
    simp [gcdS, h1, q1, q2]
    refine hN _ (nx (m := r) (s'' := gcdS y r) (snd_of (by simp [LeT, gcdS]) (by simp [gcdS])) ⟨y, r, hy, by omega, ?_, rfl, rfl⟩ hry)
    rw [hr, ← hxy, Nat.gcd_comm y, ← Nat.gcd_rec, Nat.gcd_comm]
theorem gcd64_ok : callable Try.prog 41 = true := by kernel_rfl
end Go.Proofs.Ytojbfdkpelldoaa.Ae

namespace Go.Proofs.Ytojbfdkpelldoaa.Ae
open Go Go.RowKit Go.Proofs.Ytojbfdkpelldoaa.Dig
variable {N : NR}
inductive BinA where
  | dd (x y : Int) (c : BC)
  | zd (x y : Int)
def BinA.x : BinA → Int
  | dd x _ _ => x
  | zd x _ => x
def BinA.y : BinA → Int
  | dd _ y _ => y
  | zd _ y => y
end Go.Proofs.Ytojbfdkpelldoaa.Ae

namespace Go.Proofs.Ytojbfdkpelldoaa.Ae
open Go Go.RowKit Go.Proofs.Ytojbfdkpelldoaa.Dig
variable {N : NR}
end Go.Proofs.Ytojbfdkpelldoaa.Ae

namespace Go.Proofs.Ytojbfdkpelldoaa.Ae
open Go Go.RowKit Go.Proofs.Ytojbfdkpelldoaa.Dig
variable {N : NR}
inductive SgA where
  | d (x : Int)
  | r (x : Int)
def SgA.x : SgA → Int
  | d x => x
  | r x => x
end Go.Proofs.Ytojbfdkpelldoaa.Ae

namespace Go.Proofs.Ytojbfdkpelldoaa.Ae
open Go Go.RowKit Go.Proofs.Ytojbfdkpelldoaa.Dig
variable {N : NR}
end Go.Proofs.Ytojbfdkpelldoaa.Ae

namespace Go.Proofs.Ytojbfdkpelldoaa.Ae
open Go Go.RowKit Go.Proofs.Ytojbfdkpelldoaa.Dig
variable {N : NR}
inductive NgA where
  | d (x : Int) (c : BC)
  | r (x : Int)
def NgA.x : NgA → Int
  | d x _ => x
  | r x => x
end Go.Proofs.Ytojbfdkpelldoaa.Ae

namespace Go.Proofs.Ytojbfdkpelldoaa.Ae
open Go Go.RowKit Go.Proofs.Ytojbfdkpelldoaa.Dig
variable {N : NR}
end Go.Proofs.Ytojbfdkpelldoaa.Ae

namespace Go.Proofs.Ytojbfdkpelldoaa.Ae
open Go Go.RowKit Go.Proofs.Ytojbfdkpelldoaa.Dig
variable {N : NR}
instance (a : Int) : Decidable (I64 a) := by unfold I64; infer_instance
@[simp] theorem eZ_lit (z : Int) : (eZ z).isLit = false := rfl
end Go.Proofs.Ytojbfdkpelldoaa.Ae

namespace Go.Proofs.Ytojbfdkpelldoaa.Ae
open Go Go.RowKit Go.Proofs.Ytojbfdkpelldoaa.Dig
variable {N : NR}
inductive QuA where
  | dd (x y : Int) (c : BC)
def QuA.x : QuA → Int
  | dd x _ _ => x
def QuA.y : QuA → Int
  | dd _ y _ => y
end Go.Proofs.Ytojbfdkpelldoaa.Ae

namespace Go.Proofs.Ytojbfdkpelldoaa.Ae
open Go Go.RowKit Go.Proofs.Ytojbfdkpelldoaa.Dig
variable {N : NR}
end Go.Proofs.Ytojbfdkpelldoaa.Ae

namespace Go.Proofs.Ytojbfdkpelldoaa.Ae
open Go Go.RowKit Go.Proofs.Ytojbfdkpelldoaa.Dig
variable {N : NR}
end Go.Proofs.Ytojbfdkpelldoaa.Ae

namespace Go.Proofs.Ytojbfdkpelldoaa.Dig
end Go.Proofs.Ytojbfdkpelldoaa.Dig

namespace Go.Proofs.Ytojbfdkpelldoaa.Ae
open Go Go.RowKit Go.Proofs.Ytojbfdkpelldoaa.Dig
variable {N : NR}
end Go.Proofs.Ytojbfdkpelldoaa.Ae

namespace Go.Proofs.Ytojbfdkpelldoaa.Ae
open Go Go.RowKit Go.Proofs.Ytojbfdkpelldoaa.Dig
variable {N : NR}
end Go.Proofs.Ytojbfdkpelldoaa.Ae

namespace Go.Proofs.Ytojbfdkpelldoaa.Ae
open Go Go.RowKit Go.Proofs.Ytojbfdkpelldoaa.Dig
def SR.val (r : SR) : Rat := Rat.divInt r.num r.den
def WV (r : SR) : Prop := WR r ∧ ∀ p q, r = .big p q → Int.gcd p q = 1
end Go.Proofs.Ytojbfdkpelldoaa.Ae

namespace Go.Proofs.Ytojbfdkpelldoaa.Ae
open Go Go.RowKit Go.Proofs.Ytojbfdkpelldoaa.Dig
def NN : NR := ⟨fun _ _ _ _ _ => False, fun h => h.elim, fun h => h.elim, fun _ h => h.elim, fun _ _ => True, fun _ _ => trivial⟩
def okW (F : Nat → Prop) (w : World) : Prop := True
theorem okW_mono {F F' : Nat → Prop} {w w' : World} (hF : ∀ b, F b → F' b ∧ w'.heap[b]? = w.heap[b]?) (h : okW F w) : okW F' w' := trivial
def NF : NR where
  ok := okW
  okm := okW_mono
  R k F w q cs := k = 1 ∧ ∃ r, WV r ∧ r.val = q ∧ Rep NN F w (eR r) cs
  len := by
    rintro k F w q cs ⟨rfl, r, _, _, h⟩
    rw [h.len, eR_size]; rfl
  one := by
    rintro k F w q cs ⟨rfl, r, _, _, h⟩
    exact h.one
  mono := by
    rintro k F F' w w' q cs hF ⟨rfl, r, h1, h2, h⟩
    exact ⟨rfl, r, h1, h2, h.mono hF⟩
end Go.Proofs.Ytojbfdkpelldoaa.Ae

namespace Go.Proofs.Ytojbfdkpelldoaa.Ae
open Go Go.RowKit Go.Proofs.Ytojbfdkpelldoaa.Dig
variable {N : NR}
def smallQ (q : Rat) : Prop := q.num.natAbs < 9223372036854775808 ∧ q.den < 9223372036854775808
instance (q : Rat) : Decidable (smallQ q) := by unfold smallQ; infer_instance
def boolD (b : Bool) : D := .lit (.bool b)
def lit31 (q : Rat) : Prop := q.num.natAbs < 2147483648 ∧ q.den < 2147483648
instance (q : Rat) : Decidable (lit31 q) := by unfold lit31; infer_instance
noncomputable def lowTb : List (FuncId × Ct) := [(42, .data absC), (41, .data gcdC)]
theorem lowTb_ok : TbOK N Try.prog (tbl lowTb) := tbl_cons (c := .data absC) abs64_spec abs64_ok (tbl_cons (c := .data gcdC) gcd64_spec gcd64_ok tbl_nil)
@[simp] theorem lowTb1 : tbl lowTb 42 = some (.data absC) := rfl
@[simp] theorem lowTb2 : tbl lowTb 41 = some (.data gcdC) := rfl
end Go.Proofs.Ytojbfdkpelldoaa.Ae

namespace Go.Proofs.Ytojbfdkpelldoaa.Ae
open Go Go.RowKit Go.Proofs.Ytojbfdkpelldoaa.Dig
variable {N : NR}
end Go.Proofs.Ytojbfdkpelldoaa.Ae

namespace Go.Proofs.Ytojbfdkpelldoaa.Ae
open Go Go.RowKit Go.Proofs.Ytojbfdkpelldoaa.Dig
variable {N : NR}
def isQ (q : Rat) : Prop := q.num.natAbs ≤ 1000000000000000000 ∧ q.den ≤ 1000000000000000000
instance (q : Rat) : Decidable (isQ q) := by unfold isQ; infer_instance
end Go.Proofs.Ytojbfdkpelldoaa.Ae

namespace Go.Proofs.Ytojbfdkpelldoaa.Ae
open Go Go.RowKit Go.Proofs.Ytojbfdkpelldoaa.Dig
variable {N : NR}
end Go.Proofs.Ytojbfdkpelldoaa.Ae

namespace Go.Proofs.Ytojbfdkpelldoaa.Ae
open Go Go.RowKit Go.Proofs.Ytojbfdkpelldoaa.Dig
variable {N : NR}
def qOk (n d : Int) : Prop := (1 ≤ d ∧ d ≤ 1000000000000000000) ∧ (-1000000000000000000 ≤ n ∧ n ≤ 1000000000000000000) ∧ Int.gcd n d = 1
instance (n d : Int) : Decidable (qOk n d) := by unfold qOk; infer_instance
noncomputable def qokC := ctD qE (fun p => I64 p.a ∧ I64 p.b) (fun p => [boolD (decide (qOk p.a p.b))])
theorem qokC_at (a b : Int) : qokC [eQ a b] = ((I64 a ∧ I64 b), [boolD (decide (qOk a b))]) := ctD_at qE_inj ⟨a, b⟩
theorem iQOk_spec : SpecD N Try.prog 23 qokC := by
  refine rdD (mf := fun f => false) lowTb_ok (fn := Try.f23) (by kernel_rfl) rfl (by kernel_rfl) ?_
  rintro ⟨n, d⟩ ⟨hn, hd⟩
  have hn : I64 n := hn
  have hd : I64 d := hd
  refine ⟨by show 1 ≤ 31; decide, ?_⟩
  have c1 := absC_at n
  have c2 := gcdC_at n.natAbs d.natAbs
  unfold I64 at hd
  have h2 : n.natAbs < 18446744073709551616 := by unfold I64 at hn; omega
  have h3 : d.natAbs < 18446744073709551616 := by omega
  have e3 : Nat.gcd n.natAbs d.natAbs = Int.gcd n d := rfl
  simp only [hn, h2, h3, e3, and_self, u64D, i64D] at c1 c2
  simp only [qE, eQ, i64D, Try.f23, boolD]
  have hw : 1 ≤ d → IntKind.u64.wrap d = (d.natAbs : Int) := fun h => by rw [wrap_u64]; omega
  have e : decide (qOk n d) = (decide (1 ≤ d) && (decide (d ≤ 1000000000000000000) && (decide (-1000000000000000000 ≤ n) && (decide (n ≤ 1000000000000000000) && decide (Int.gcd n d = 1))))) := by
    rw [← Bool.decide_and, ← Bool.decide_and, ← Bool.decide_and, ← Bool.decide_and]
    congr 1
    apply propext
    unfold qOk
    constructor
    · rintro ⟨⟨a, b⟩, ⟨c, e⟩, f⟩; exact ⟨a, b, c, e, f⟩
    · rintro ⟨a, b, c, e, f⟩; exact ⟨⟨a, b⟩, ⟨c, e⟩, f⟩
  rw [e]
  clear e e3
  generalize Int.gcd n d = g at *
  by_cases h1 : 1 ≤ d
  · have w1 := hw h1
    by_cases h4 : d ≤ 1000000000000000000 <;> by_cases h5 : -1000000000000000000 ≤ n <;> by_cases h6 : n ≤ 1000000000000000000 <;> simp [h1, h4, h5, h6, w1, c1, c2]
    by_cases h7 : g = 1
    · subst h7; simp
    · have h7' : ¬ (g : Int) = 1 := by omega
      simp [h7, h7']
  · simp [h1]
theorem iQOk_ok : callable Try.prog 23 = true := by kernel_rfl
theorem eQ_inj {a b c d : Int} (h : eQ a b = eQ c d) : a = c ∧ b = d := by
  simp only [eQ, D.agg.injEq, List.cons.injEq, and_true] at h
  exact ⟨i64D_inj h.1, i64D_inj h.2⟩
@[simp] theorem eQ_size (n d : Int) : (eQ n d).size = 2 := rfl
@[simp] theorem eQ_agg (n d : Int) : (eQ n d).isAgg = true := rfl
@[simp] theorem eQ_lit (n d : Int) : (eQ n d).isLit = false := rfl
end Go.Proofs.Ytojbfdkpelldoaa.Ae

namespace Go.Proofs.Ytojbfdkpelldoaa.Ae
open Go Go.RowKit Go.Proofs.Ytojbfdkpelldoaa.Dig
end Go.Proofs.Ytojbfdkpelldoaa.Ae

namespace Go.Proofs.Ytojbfdkpelldoaa.Ae
open Go Go.RowKit Go.Proofs.Ytojbfdkpelldoaa.Dig
structure Q4 where
  a : Int
  b : Int
  c : Int
  d : Int
def q4E (p : Q4) : List D := [eQ p.a p.b, eQ p.c p.d]
theorem q4E_inj (p q : Q4) (h : q4E p = q4E q) : p = q := by
  obtain ⟨a, b, c, d⟩ := p; obtain ⟨a', b', c', d'⟩ := q
  simp only [q4E, List.cons.injEq, and_true] at h
  obtain ⟨h1, h2⟩ := eQ_inj h.1
  obtain ⟨h3, h4⟩ := eQ_inj h.2
  simp only [h1, h2, h3, h4]
def ok2 (p : Q4) : Prop := qOk p.a p.b ∧ qOk p.c p.d
instance (p : Q4) : Decidable (ok2 p) := by unfold ok2; infer_instance
def okD (p : Q4) : Prop := ok2 p ∧ p.c ≠ 0
instance (p : Q4) : Decidable (okD p) := by unfold okD; infer_instance
def okF (p : Q4) : Prop := ok2 p ∧ 0 < p.c
instance (p : Q4) : Decidable (okF p) := by unfold okF; infer_instance
@[simp] theorem nav_eQ0 (n d : Int) : nav (eQ n d) [0] = some (.lit (.int .i64 n), 0) := rfl
@[simp] theorem nav_eQ1 (n d : Int) : nav (eQ n d) [1] = some (.lit (.int .i64 d), 1) := rfl
end Go.Proofs.Ytojbfdkpelldoaa.Ae

namespace Go.Proofs.Ytojbfdkpelldoaa.Ae
open Go Go.RowKit Go.Proofs.Ytojbfdkpelldoaa.Dig
noncomputable def sokTb : List (FuncId × Ct) := [(39, .data absC), (38, .data gcdC)]
theorem sokTb_ok : TbOK NF Try.prog (tbl sokTb) := tbl_cons (c := .data absC) l1Abs_spec l1Abs_ok (tbl_cons (c := .data gcdC) l1Gcd_spec l1Gcd_ok tbl_nil)
@[simp] theorem sokTb1 : tbl sokTb 39 = some (.data absC) := rfl
@[simp] theorem sokTb2 : tbl sokTb 38 = some (.data gcdC) := rfl
theorem sQOk_spec : SpecD NF Try.prog 18 qokC := by
  refine rdD (mf := fun f => false) sokTb_ok (fn := Try.f18) (by kernel_rfl) rfl (by kernel_rfl) ?_
  rintro ⟨n, d⟩ ⟨hn, hd⟩
  have hn : I64 n := hn
  have hd : I64 d := hd
  refine ⟨of_decide_eq_true (by kernel_rfl), ?_⟩
  have c1 := absC_at n
  have c2 := gcdC_at n.natAbs d.natAbs
  unfold I64 at hd
  have h2 : n.natAbs < 18446744073709551616 := by unfold I64 at hn; omega
  have h3 : d.natAbs < 18446744073709551616 := by omega
  have e3 : Nat.gcd n.natAbs d.natAbs = Int.gcd n d := rfl
  simp only [hn, h2, h3, e3, and_self, u64D, i64D] at c1 c2
  simp only [qE, i64D, Try.f18, boolD]
  have hw : ¬ d < 1 → IntKind.u64.wrap d = (d.natAbs : Int) := fun h => by rw [wrap_u64]; omega
  have e : decide (qOk n d) = (!(decide (d < 1)) && (!(decide (1000000000000000000 < d)) && (!(decide (n < -1000000000000000000)) && (!(decide (1000000000000000000 < n)) && decide (Int.gcd n d = 1))))) := by
    rw [← decide_not, ← decide_not, ← decide_not, ← decide_not, ← Bool.decide_and, ← Bool.decide_and, ← Bool.decide_and, ← Bool.decide_and]
    congr 1
    apply propext
    unfold qOk
    constructor
    · rintro ⟨⟨a, b⟩, ⟨c, e⟩, f⟩; exact ⟨by omega, by omega, by omega, by omega, f⟩
    · rintro ⟨a, b, c, e, f⟩; exact ⟨⟨by omega, by omega⟩, ⟨by omega, by omega⟩, f⟩
  rw [e]
  clear e e3
  generalize Int.gcd n d = g at *
  by_cases h1 : d < 1
  · simp [h1]
  · have w1 := hw h1
    by_cases h4 : 1000000000000000000 < d <;> by_cases h5 : n < -1000000000000000000 <;> by_cases h6 : 1000000000000000000 < n <;> simp [h1, h4, h5, h6, w1, c1, c2]
    by_cases h7 : g = 1
    · subst h7; simp
    · have h7' : ¬ (g : Int) = 1 := by omega
      simp [h7, h7']
theorem sQOk_ok : callable Try.prog 18 = true := by kernel_rfl
end Go.Proofs.Ytojbfdkpelldoaa.Ae

namespace Go.Proofs.Ytojbfdkpelldoaa.Ae
open Go Go.RowKit Go.Proofs.Ytojbfdkpelldoaa.Dig
theorem repVs_nil {N : NR} {F : Nat → Prop} {w : World} : RepVs N F w [] [] := ⟨rfl, fun i d v h => by simp at h⟩
theorem repVs_cons {N : NR} {F : Nat → Prop} {w : World} {d : D} {v : Value} {ds : List D} {vs : List Value} (h : RepV N F w d v) (hs : RepVs N F w ds vs) : RepVs N F w (d :: ds) (v :: vs) :=
  ⟨by simp only [List.length_cons]; rw [hs.1], fun i e u h1 h2 => by
    cases i with
    | zero =>
      simp only [List.getElem?_cons_zero, Option.some.injEq] at h1 h2
      subst h1 h2
      exact h
    | succ i => exact hs.2 i e u (by simpa using h1) (by simpa using h2)⟩
noncomputable def toQC := ctD qE (fun _ => True) (fun p => [eQ p.a p.b])
theorem toQC_at (a b : Int) : toQC [eQ a b] = (True, [eQ a b]) := ctD_at qE_inj ⟨a, b⟩
theorem toQ_spec {N : NR} : SpecD N Try.prog 45 toQC := by
  refine rdD (mf := fun f => false) tbl_nil (fn := Try.f45) (by kernel_rfl) rfl (by kernel_rfl) ?_
  rintro ⟨a, b⟩ _
  refine ⟨of_decide_eq_true (by kernel_rfl), ?_⟩
  simp only [qE, Try.f45]
  simp [eQ, i64D]
theorem toQ_ok : callable Try.prog 45 = true := by kernel_rfl
noncomputable def eqQC := ctD q4E (fun _ => True) (fun p => [boolD (decide (p.a = p.c) && decide (p.b = p.d))])
theorem eqQC_at (a b c d : Int) : eqQC [eQ a b, eQ c d] = (True, [boolD (decide (a = c) && decide (b = d))]) := ctD_at q4E_inj ⟨a, b, c, d⟩
theorem eqQ_spec {N : NR} : SpecD N Try.prog 47 eqQC := by
  refine rdD (mf := fun f => false) tbl_nil (fn := Try.f47) (by kernel_rfl) rfl (by kernel_rfl) ?_
  rintro ⟨a, b, c, d⟩ _
  refine ⟨of_decide_eq_true (by kernel_rfl), ?_⟩
  simp only [q4E, Try.f47, boolD]
  by_cases h1 : a = c <;> by_cases h2 : b = d <;> simp [h1, h2]
theorem eqQ_ok : callable Try.prog 47 = true := by kernel_rfl
end Go.Proofs.Ytojbfdkpelldoaa.Ae

namespace Go.Proofs.Ytojbfdkpelldoaa.Ae
open Go Go.RowKit Go.Proofs.Ytojbfdkpelldoaa.Dig
structure Enc (α : Type) where
  e : α → D
  inj : ∀ a b, e a = e b → a = b
def EInt : Enc Int := ⟨i64D, fun _ _ => i64D_inj⟩
def EQ : Enc (Int × Int) := ⟨fun p => eQ p.1 p.2, fun _ _ h => Prod.ext (eQ_inj h).1 (eQ_inj h).2⟩
def Enc.pair {α β : Type} (A : Enc α) (B : Enc β) : Enc (α × β) := ⟨fun p => .agg [A.e p.1, B.e p.2], fun p q h => by
  simp only [D.agg.injEq, List.cons.injEq, and_true] at h
  exact Prod.ext (A.inj _ _ h.1) (B.inj _ _ h.2)⟩
theorem map_inj {α : Type} (E : Enc α) : ∀ {a b : List α}, a.map E.e = b.map E.e → a = b
  | [], [], _ => rfl
  | x :: a, y :: b, h => by
    simp only [List.map_cons, List.cons.injEq] at h
    rw [E.inj _ _ h.1, map_inj E h.2]
  | [], _ :: _, h => by simp at h
  | _ :: _, [], h => by simp at h
def Enc.list {α : Type} (sz : Nat) (E : Enc α) : Enc (List α) := ⟨fun l => .sl sz (l.map E.e), fun a b h => by
  injection h with _ h; exact map_inj E h⟩
noncomputable def ct1 {α : Type} (A : Enc α) (pre : α → Prop) (post : α → List D) := ctD (fun a => [A.e a]) pre post
theorem ct1_at {α : Type} {A : Enc α} {pre : α → Prop} {post : α → List D} (a : α) : ct1 A pre post [A.e a] = (pre a, post a) :=
  ctD_at (e := fun a => [A.e a]) (fun a b h => by simp only [List.cons.injEq, and_true] at h; exact A.inj _ _ h) a
noncomputable def ct2 {α β : Type} (A : Enc α) (B : Enc β) (pre : α → β → Prop) (post : α → β → List D) := ctD (fun p : α × β => [A.e p.1, B.e p.2]) (fun p => pre p.1 p.2) (fun p => post p.1 p.2)
theorem ct2_at {α β : Type} {A : Enc α} {B : Enc β} {pre : α → β → Prop} {post : α → β → List D} (a : α) (b : β) : ct2 A B pre post [A.e a, B.e b] = (pre a b, post a b) :=
  ctD_at (e := fun p : α × β => [A.e p.1, B.e p.2]) (fun p q h => by simp only [List.cons.injEq, and_true] at h; exact Prod.ext (A.inj _ _ h.1) (B.inj _ _ h.2)) (a, b)
theorem rd1 {N : NR} {α : Type} {A : Enc α} {pre : α → Prop} {post : α → List D} {f : FuncId} {fn : Func} {c : Code} {mf : FuncId → Bool} {tb : FuncId → Option Ct} (htb : TbOK N Try.prog tb) (hf : Try.prog.funcs[f]? = some fn) (hb : fn.body = some c) (hd : drawAll mf c = true) (hl : Nat.ble 1 fn.ntmps = true)
    (h : ∀ a, pre a → awp Try.prog mf tb c (start fn.ntmps ([A.e a].map .dat) []) (endK Try.prog fn.ntmps fn.results.toList ((post a).map .dat) [])) : SpecD N Try.prog f (ct1 A pre post) :=
  rdD htb hf hb hd (fun a ha => ⟨Nat.le_of_ble_eq_true hl, h a ha⟩)
theorem rd2 {N : NR} {α β : Type} {A : Enc α} {B : Enc β} {pre : α → β → Prop} {post : α → β → List D} {f : FuncId} {fn : Func} {c : Code} {mf : FuncId → Bool} {tb : FuncId → Option Ct} (htb : TbOK N Try.prog tb) (hf : Try.prog.funcs[f]? = some fn) (hb : fn.body = some c) (hd : drawAll mf c = true) (hl : Nat.ble 2 fn.ntmps = true)
    (h : ∀ a b, pre a b → awp Try.prog mf tb c (start fn.ntmps ([A.e a, B.e b].map .dat) []) (endK Try.prog fn.ntmps fn.results.toList ((post a b).map .dat) [])) : SpecD N Try.prog f (ct2 A B pre post) :=
  rdD htb hf hb hd (fun p ha => ⟨Nat.le_of_ble_eq_true hl, h p.1 p.2 ha⟩)
def vOk (v : (Int × Int) × Int × Int) : Prop := qOk v.1.1 v.1.2 ∧ qOk v.2.1 v.2.2
instance (v : (Int × Int) × Int × Int) : Decidable (vOk v) := by unfold vOk; infer_instance
@[simp] theorem EInt_e (x : Int) : EInt.e x = i64D x := rfl
@[simp] theorem EQ_e (a b : Int) : EQ.e (a, b) = eQ a b := rfl
section
variable (a b : Rat) (n d : Int)
@[simp] theorem z_ok : qokC [eQ n d] = ((I64 n ∧ I64 d), [.lit (.bool (decide (qOk n d)))]) := qokC_at n d
@[simp] theorem z_toQ : toQC [eQ n d] = (True, [eQ n d]) := toQC_at n d
end
end Go.Proofs.Ytojbfdkpelldoaa.Ae

namespace Go.Proofs.Ytojbfdkpelldoaa.Ae
open Go Go.RowKit Go.Proofs.Ytojbfdkpelldoaa.Dig
end Go.Proofs.Ytojbfdkpelldoaa.Ae

namespace Go.Proofs.Ytojbfdkpelldoaa.Ae
open Go Go.RowKit Go.Proofs.Ytojbfdkpelldoaa.Dig
@[simp] theorem flatD_eQ (a b : Int) : flatD (eQ a b) = some [.int .i64 a, .int .i64 b] := rfl
attribute [simp] eqV eqVs
theorem keyLits_struct {P : Program} {d : Nat} {t : TypeId} {fs : Array Field} {cs : List Value} (hu : P.underlying t = some (.struct fs)) (hl : cs.length = P.cellsOf t) (hn : fs.all (·.name != "_") = true) :
    P.keyLits (d + 1) t cs = (fs.toList.mapM fun f => P.keyLits d f.type ((cs.drop f.offset).take (P.cellsOf f.type))).map List.flatten := by
  conv => lhs; unfold Program.keyLits
  rw [hu]
  show (if cs.length = P.cellsOf t ∧ fs.all (·.name != "_") = true then (fs.toList.mapM fun f => P.keyLits d f.type ((cs.drop f.offset).take (P.cellsOf f.type))).map List.flatten else none) = _
  rw [if_pos ⟨hl, hn⟩]
theorem keyLits_i64 {P : Program} {d : Nat} {t : TypeId} {a : Int} (hu : P.underlying t = some (.int .i64)) (h : I64 a) : P.keyLits (d + 1) t [.int .i64 a] = some [.int .i64 a] := by
  have hw : (Lit.int .i64 a).wf = true := by
    unfold I64 at h
    have e1 : IntKind.i64.min = -9223372036854775808 := by decide
    have e2 : IntKind.i64.max = 9223372036854775807 := by decide
    simp only [Lit.wf, e1, e2, Bool.and_eq_true, decide_eq_true_eq]; omega
  unfold Program.keyLits
  rw [hu]
  exact if_pos ⟨rfl, hw⟩
theorem klQ {d : Nat} (a b : Int) (h : I64 a ∧ I64 b) : Try.prog.keyLits (d + 2) 48 [.int .i64 a, .int .i64 b] = some [.int .i64 a, .int .i64 b] := by
  rw [keyLits_struct Try.underlying48 (by simp) (by kernel_rfl)]
  simp [keyLits_i64 Try.underlying2 h.1, keyLits_i64 Try.underlying2 h.2]
def segOk (a b c d e f g h : Int) : Prop := ((qOk a b ∧ qOk c d) ∧ qOk e f ∧ qOk g h) ∧ ¬ (a = e ∧ b = f ∧ c = g ∧ d = h)
instance (a b c d e f g h : Int) : Decidable (segOk a b c d e f g h) := by unfold segOk; infer_instance
end Go.Proofs.Ytojbfdkpelldoaa.Ae

namespace Go.Proofs.Ytojbfdkpelldoaa.Ae
open Go
def shp (P : Program) : Nat → TypeId → D → Prop
  | 0, _, _ => False
  | n + 1, t, d => match P.underlying t with
    | some .bool => ∃ b, d = .lit (.bool b)
    | some (.int k) => ∃ x, d = .lit (.int k x) ∧ (Lit.int k x).wf = true
    | some .string => ∃ s : ByteArray, d = .lit (.string s) ∧ s.size ≤ maxLen
    | some (.struct fs) => ∃ ds, d = .agg ds ∧ ds.length = fs.toList.length ∧ ∀ (i : Nat) (f : Field) (x : D), fs.toList[i]? = some f → ds[i]? = some x → shp P n f.type x
    | some (.slice e) => ∃ xs, d = .sl (P.cellsOf e) xs ∧ xs.length ≤ maxLen ∧ ∀ x ∈ xs, shp P n e x
    | _ => False
def layF (P : Program) : List Field → Nat → Nat → Bool
  | [], o, c => o == c
  | f :: fs, o, c => f.offset == o && layF P fs (o + P.cellsOf f.type) c
def layT (P : Program) : Nat → TypeId → Bool
  | 0, _ => false
  | n + 1, t => match P.underlying t with
    | some .bool | some (.int _) | some .string => true
    | some (.struct fs) => layF P fs.toList 0 (P.cellsOf t) && fs.toList.all fun f => layT P n f.type
    | some (.slice e) => Nat.blt 0 (P.cellsOf e) && layT P n e
    | _ => false
theorem list_of {α : Type} {p : Nat → α → Prop} : ∀ n : Nat, (∀ i, i < n → ∃ d, p i d) → ∃ l : List α, l.length = n ∧ ∀ (i : Nat) (d : α), l[i]? = some d → p i d
  | 0, _ => ⟨[], rfl, fun i d h => by simp at h⟩
  | n + 1, h => by
    obtain ⟨d0, h0⟩ := h 0 (by omega)
    obtain ⟨l, hl, hp⟩ := list_of (p := fun i => p (i + 1)) n (fun i hi => h (i + 1) (by omega))
    refine ⟨d0 :: l, by simp [hl], fun i d hd => ?_⟩
    cases i with
    | zero => simp at hd; subst hd; exact h0
    | succ i => exact hp i d (by simpa using hd)
theorem fields_rep {N : NR} {F : Nat → Prop} {w : World} {P : Program} {n : Nat} : ∀ (l : List Field) (o c : Nat) (cs : List Value), layF P l o c = true → cs.length = c - o → o ≤ c →
    (∀ (i : Nat) (f : Field), l[i]? = some f → ∃ d, Rep N F w d ((cs.drop (f.offset - o)).take (P.cellsOf f.type)) ∧ shp P n f.type d ∧ ((cs.drop (f.offset - o)).take (P.cellsOf f.type)).length = P.cellsOf f.type) →
    ∃ (ds : List D) (css : List (List Value)), css.flatten = cs ∧ css.length = ds.length ∧ ds.length = l.length ∧ (∀ (i : Nat) (d : D) (x : List Value), ds[i]? = some d → css[i]? = some x → Rep N F w d x) ∧ ∀ (i : Nat) (f : Field) (x : D), l[i]? = some f → ds[i]? = some x → shp P n f.type x
  | [], o, c, cs, hl, hc, ho, h => by
    simp only [layF, beq_iff_eq] at hl
    subst hl
    rw [Nat.sub_self] at hc
    exact ⟨[], [], (List.eq_nil_of_length_eq_zero hc).symm, rfl, rfl, fun i d x h => by simp at h, fun i f x h => by simp at h⟩
  | f :: l, o, c, cs, hl, hc, ho, h => by
    simp only [layF, Bool.and_eq_true, beq_iff_eq] at hl
    obtain ⟨rfl, hl⟩ := hl
    obtain ⟨d0, r0, s0, e0⟩ := h 0 f rfl
    rw [Nat.sub_self, List.drop_zero] at r0 e0
    have hle : P.cellsOf f.type ≤ cs.length := by
      have := List.length_take_le (P.cellsOf f.type) cs
      rw [List.length_take] at e0
      omega
    have mono : ∀ (l : List Field) (o : Nat), layF P l o c = true → o ≤ c ∧ ∀ g ∈ l, o ≤ g.offset := by
      intro l
      induction l with
      | nil => intro o h; simp only [layF, beq_iff_eq] at h; exact ⟨by omega, fun g hg => by simp at hg⟩
      | cons g l ih =>
        intro o h
        simp only [layF, Bool.and_eq_true, beq_iff_eq] at h
        obtain ⟨i1, i2⟩ := ih _ h.2
        refine ⟨by omega, fun g' hg => ?_⟩
        rcases List.mem_cons.1 hg with rfl | hg
        · omega
        · have := i2 g' hg; omega
    have mo := mono l _ hl
    obtain ⟨ds, css, h1, h2, h3, h4, h5⟩ := fields_rep l (f.offset + P.cellsOf f.type) c (cs.drop (P.cellsOf f.type)) hl (by rw [List.length_drop, hc]; omega) mo.1 (fun i g hg => by
      obtain ⟨d, r, s, e⟩ := h (i + 1) g (by simpa using hg)
      have hgo := mo.2 g (List.mem_of_getElem? hg)
      rw [List.drop_drop]
      have e1 : P.cellsOf f.type + (g.offset - (f.offset + P.cellsOf f.type)) = g.offset - f.offset := by omega
      rw [e1]
      exact ⟨d, r, s, e⟩)
    refine ⟨d0 :: ds, cs.take (P.cellsOf f.type) :: css, by rw [List.flatten_cons, h1, List.take_append_drop], by simp [h2], by simp [h3], fun i d x hd hx => ?_, fun i g x hg hx => ?_⟩
    · cases i with
      | zero => simp at hd hx; subst hd hx; exact r0
      | succ i => exact h4 i d x (by simpa using hd) (by simpa using hx)
    · cases i with
      | zero => simp at hg hx; subst hg hx; exact s0
      | succ i => exact h5 i g x (by simpa using hg) (by simpa using hx)
theorem layF_in {P : Program} {c : Nat} : ∀ (l : List Field) (o : Nat), layF P l o c = true → o ≤ c ∧ ∀ f ∈ l, f.offset + P.cellsOf f.type ≤ c
  | [], o, h => by simp only [layF, beq_iff_eq] at h; exact ⟨by omega, fun f hf => by simp at hf⟩
  | g :: l, o, h => by
    simp only [layF, Bool.and_eq_true, beq_iff_eq] at h
    obtain ⟨i1, i2⟩ := layF_in l _ h.2
    refine ⟨by omega, fun f hf => ?_⟩
    rcases List.mem_cons.1 hf with rfl | hf
    · omega
    · exact i2 f hf
theorem trod_cells {P : Program} {l : List Field} {c i : Nat} {f : Field} {cs : List Value} (hl : layF P l 0 c = true) (hlen : cs.length = c) (hi : l[i]? = some f) : ((cs.drop f.offset).take (P.cellsOf f.type)).length = P.cellsOf f.type := by
  have := (layF_in l 0 hl).2 f (List.mem_of_getElem? hi)
  rw [List.length_take, List.length_drop]
  omega
theorem rep_of_trod {N : NR} {F : Nat → Prop} {H : Type} {enc : TypeId × Value → H} {P : Program} {w : World} {base : Nat} {sp : Nat → Bool} {held : Bool} (hF : ∀ b, base ≤ b → b < w.heap.size → F b) :
    ∀ (n : Nat) {m : Nat} {t : TypeId} {cs : List Value} {x : DataW H × List MemPlace}, layT P n t = true → DataW.trod enc P w base sp held m t cs = some x → ∃ d, Rep N F w d cs ∧ shp P n t d
  | 0, m, t, cs, x, hl, h => by simp [layT] at hl
  | n + 1, m, t, cs, x, hl, h => by
    simp only [layT] at hl
    simp only [shp]
    split at hl
    · rename_i hu
      obtain ⟨b, rfl, _⟩ := DataW.trod_bool hu h
      exact ⟨_, .lit rfl, by exact ⟨b, rfl⟩⟩
    · rename_i k hu
      obtain ⟨b, rfl, _, hw⟩ := DataW.trod_int hu h
      exact ⟨_, .lit rfl, by exact ⟨b, rfl, hw⟩⟩
    · rename_i hu
      obtain ⟨b, rfl, _, hw⟩ := DataW.trod_string hu h
      exact ⟨_, .lit rfl, by exact ⟨b, rfl, hw⟩⟩
    · rename_i fs hu
      obtain ⟨xs, m', _, _, hlen, hxs, hf⟩ := DataW.trod_struct hu h
      rw [Bool.and_eq_true] at hl
      obtain ⟨ds, css, h1, h2, h3, h4, h5⟩ := fields_rep (N := N) (F := F) (w := w) (n := n) fs.toList 0 (P.cellsOf t) cs hl.1 (by omega) (by omega) (fun i f hfi => by
        have hi : fs[i]? = some f := by simpa using hfi
        have hlt : i < xs.length := by rw [hxs]; exact (Array.getElem?_eq_some_iff.1 hi).1
        have hx := hf i f hi
        rw [List.getElem?_eq_getElem hlt] at hx
        obtain ⟨d, r, s⟩ := rep_of_trod hF n (List.all_eq_true.1 hl.2 f (List.mem_of_getElem? hfi)) hx
        exact ⟨d, by simpa using r, s, by
          rw [Nat.sub_zero]
          exact trod_cells hl.1 hlen hfi⟩)
      subst h1
      exact ⟨.agg ds, .agg h2 h4, by exact ⟨ds, rfl, h3, h5⟩⟩
    · rename_i e hu
      rw [Bool.and_eq_true, Nat.blt_eq] at hl
      rcases DataW.trod_slice hu h with ⟨rfl, _⟩ | ⟨a, len, cap, elems, rest, m', _, rfl, _, hb, hlc, hcm, hel, hget, _, _⟩
      · exact ⟨.sl (P.cellsOf e) [], .sl none 0 (fun _ => []) (by simp) (by simp) (fun h => by simp at h) (fun i d h => by simp at h), by exact ⟨[], rfl, by simp, fun x hx => by simp at hx⟩⟩
      · have key : ∀ i, i < len → ∃ es, w.cells? base (a.add (i * P.cellsOf e)) (P.cellsOf e) = some es ∧ ∃ d, Rep N F w d es ∧ shp P n e d := by
          intro i hi
          have := hget i hi
          rw [List.getElem?_eq_getElem (by omega)] at this
          obtain ⟨es, h1, h2⟩ := Option.bind_eq_some_iff.1 this
          exact ⟨es, h1, rep_of_trod hF n hl.2 h2⟩
        obtain ⟨xs, hx1, hx2⟩ := list_of (p := fun i d => Rep N F w d ((w.cells? base (a.add (i * P.cellsOf e)) (P.cellsOf e)).getD []) ∧ shp P n e d) len (fun i hi => by
          obtain ⟨es, h1, d, h2, h3⟩ := key i hi
          exact ⟨d, by rw [h1]; exact h2, h3⟩)
        have hsl : Rep N F w (.sl (P.cellsOf e) xs) [.slice (some a) xs.length cap] := by
          refine .sl (some a) cap (fun i => (w.cells? base (a.add (i * P.cellsOf e)) (P.cellsOf e)).getD []) (by omega) hcm (fun hp => ?_) (fun i d hd => (hx2 i d hd).1)
          obtain ⟨es0, h0, _⟩ := key 0 (by omega)
          obtain ⟨_, l0, c0⟩ := World.cells?_some h0
          have c00 := c0 0 hl.1
          have ha0 : ∀ k, (a.add k).block = a.block := by intro k; unfold Addr.add; split <;> rfl
          have hv : ∃ v, w.cell? a = some v := by
            have : (a.add (0 * P.cellsOf e)).add 0 = a := by simp [Addr.add]
            rw [this] at c00
            rw [c00]
            exact ⟨_, List.getElem?_eq_getElem (by omega)⟩
          obtain ⟨v, hv⟩ := hv
          have hspot : a.spot = none ∧ a.block < w.heap.size := by
            unfold World.cell? at hv
            cases hh : w.heap[a.block]? with
            | none => rw [hh] at hv; simp at hv
            | some ob =>
              refine ⟨?_, (Array.getElem?_eq_some_iff.1 hh).1⟩
              rw [hh] at hv
              cases ob <;> simp at hv
              exact hv.1
          have hae : a = ⟨a.block, a.off, none⟩ := by rw [← hspot.1]
          refine ⟨a.block, a.off, by rw [← hae], hF _ hb hspot.2, fun i hi => ?_⟩
          obtain ⟨es, h1, _⟩ := key i (by omega)
          obtain ⟨_, l1, c1⟩ := World.cells?_some h1
          rw [h1, Option.getD_some]
          refine ⟨l1, fun j v hj => ?_⟩
          have hj' : j < P.cellsOf e := by have := (List.getElem?_eq_some_iff.1 hj).1; omega
          have := c1 j hj'
          rw [hj] at this
          rw [← this]
          congr 1
          rw [hae]
          unfold Addr.add
          by_cases z1 : i * P.cellsOf e = 0 <;> by_cases z2 : j = 0 <;> simp [z1, z2] <;> omega
        rw [hx1] at hsl
        exact ⟨.sl (P.cellsOf e) xs, hsl, by exact ⟨xs, rfl, by omega, fun x hx => by
          obtain ⟨i, hi⟩ := List.getElem?_of_mem hx
          exact (hx2 i x hi).2⟩⟩
    · simp at hl
end Go.Proofs.Ytojbfdkpelldoaa.Ae

namespace Go.Proofs.Ytojbfdkpelldoaa.Ae
open Go Go.RowKit Go.WideShapes
theorem law_callsM {f : FuncId} {g : List D → Prop × List D} (h : SpecD NF Try.prog f g) {ds : List D} (hp : (g ds).1) (hr : (g ds).2 = [boolD true]) {vs : List Value} {w : World} (hrep : RepVs NF (fun b => b < w.heap.size) w ds vs) :
    Calls Try.prog f vs.toArray w fun e w' => e = .returned (.bool true) ∧ Below w.heap.size w w' := by
  refine (h ds hp (fun b => b < w.heap.size) w vs (fun k hk => hk) trivial hrep).mono fun e w' ⟨v, he, hv, hfr⟩ => ?_
  rw [hr] at hv
  have hv : RepV NF _ w' (.lit (.bool true)) v := hv
  obtain ⟨rfl, _⟩ := RepV.lit hv
  exact ⟨he, ⟨hfr.os, hfr.tape, hfr.output, hfr.size, fun k hk => hfr.block k hk (fun h => h)⟩⟩
theorem repV_ok {F : Nat → Prop} {H : Type} {enc : TypeId × Value → H} {P : Program} {w : World} {base : Nat} {sp : Nat → Bool} {held : Bool} (hF : ∀ b, base ≤ b → b < w.heap.size → F b)
    {n : Nat} {t : TypeId} {v : Value} {r : Reach} {b0 : Nat} {x : DataW H × List MemPlace} (hl : layT P n t = true) (hv : Value.okWide P w r b0 t v) {m : Nat} (h : DataW.trod enc P w base sp held m t v.cells.toList = some x) :
    ∃ d, RepV NF F w d v ∧ shp P n t d := by
  obtain ⟨d, hr, hs⟩ := rep_of_trod (N := NF) (F := F) hF n hl h
  refine ⟨d, ?_, hs⟩
  cases n with
  | zero => simp [layT] at hl
  | succ n =>
    simp only [layT] at hl
    simp only [shp] at hs
    have one : d.isAgg = false → v.cells = #[v] → RepV NF F w d v := fun h1 h2 => ⟨[v], by rw [h2] at hr; exact hr, by unfold mkV; rw [h1]; rfl⟩
    split at hl
    · rename_i hu
      rw [hu] at hs
      obtain ⟨b, rfl⟩ := okWide_bool hu hv
      obtain ⟨c, rfl⟩ := hs
      exact one rfl rfl
    · rename_i k hu
      rw [hu] at hs
      obtain ⟨b, rfl⟩ := okWide_int hu hv
      obtain ⟨c, rfl, _⟩ := hs
      exact one rfl rfl
    · rename_i hu
      rw [hu] at hs
      obtain ⟨b, rfl⟩ := okWide_string hu hv
      obtain ⟨c, rfl, _⟩ := hs
      exact one rfl rfl
    · rename_i fs hu
      rw [hu] at hs
      obtain ⟨cs, rfl, _⟩ := okWide_struct hu hv
      obtain ⟨ds, rfl, _⟩ := hs
      exact ⟨cs.toList, by simpa [Value.cells] using hr, by unfold mkV; simp [D.isAgg]⟩
    · rename_i e hu
      rw [hu] at hs
      obtain ⟨a, len, cap, rfl⟩ := okWide_slice hu hv
      obtain ⟨ds, rfl, _⟩ := hs
      exact one rfl rfl
    · simp at hl
end Go.Proofs.Ytojbfdkpelldoaa.Ae

namespace Go.Proofs.Ytojbfdkpelldoaa.Ae
open Go Go.RowKit Go.Proofs.Ytojbfdkpelldoaa.Dig
theorem shp_i64 {P : Program} {n : Nat} {t : TypeId} {d : D} (hu : P.underlying t = some (.int .i64)) (h : shp P (n + 1) t d) : ∃ x, d = .lit (.int .i64 x) ∧ I64 x := by
  simp only [shp, hu] at h
  obtain ⟨x, rfl, hw⟩ := h
  exact ⟨x, rfl, bounds_i64 hw⟩
theorem shp_two {P : Program} {n : Nat} {t : TypeId} {f g : Field} {d : D} (hu : P.underlying t = some (.struct #[f, g])) (h : shp P (n + 1) t d) : ∃ x y, d = .agg [x, y] ∧ shp P n f.type x ∧ shp P n g.type y := by
  simp only [shp, hu] at h
  obtain ⟨ds, rfl, hl, hf⟩ := h
  match ds, hl with
  | [x, y], _ => exact ⟨x, y, rfl, hf 0 f x rfl rfl, hf 1 g y rfl rfl⟩
theorem shp_sl {P : Program} {n : Nat} {t e : TypeId} {d : D} (hu : P.underlying t = some (.slice e)) (h : shp P (n + 1) t d) : ∃ xs, d = .sl (P.cellsOf e) xs ∧ xs.length ≤ maxLen ∧ ∀ x ∈ xs, shp P n e x := by
  simp only [shp, hu] at h
  exact h
theorem list_map {α : Type} {E : α → D} {p : α → Prop} : ∀ {xs : List D}, (∀ x ∈ xs, ∃ v, x = E v ∧ p v) → ∃ l : List α, xs = l.map E ∧ ∀ v ∈ l, p v
  | [], _ => ⟨[], rfl, fun v h => by simp at h⟩
  | x :: xs, h => by
    obtain ⟨v, e, hv⟩ := h x List.mem_cons_self
    obtain ⟨l, el, hl⟩ := list_map (xs := xs) (fun y hy => h y (List.mem_cons_of_mem _ hy))
    exact ⟨v :: l, by rw [e, el]; rfl, fun u hu => by
      rcases List.mem_cons.1 hu with rfl | hu
      · exact hv
      · exact hl u hu⟩
set_option maxRecDepth 100000 in
theorem shp_lQ {n : Nat} {d : D} (h : shp Try.prog (n + 2) 92 d) : ∃ p : Int × Int, d = eQ p.1 p.2 ∧ I64 p.1 ∧ I64 p.2 := by
  obtain ⟨x, y, rfl, hx, hy⟩ := shp_two (P := Try.prog) (n := n + 1) (t := 92) (d := d) Try.underlying92 h
  obtain ⟨a, rfl, ha⟩ := shp_i64 Try.underlying2 hx
  obtain ⟨b, rfl, hb⟩ := shp_i64 Try.underlying2 hy
  exact ⟨(a, b), rfl, ha, hb⟩
end Go.Proofs.Ytojbfdkpelldoaa.Ae

namespace Go.Proofs.Ytojbfdkpelldoaa.Ae
open Go Go.RowKit Go.Proofs.Ytojbfdkpelldoaa.Dig
theorem ix_mem8 {A B : List D} {x : D} {k : Nat} (h : A.length = k) : ix (A ++ x :: B) k = some x := by
  unfold ix; rw [← h, List.getElem?_append_right (Nat.le_refl _), Nat.sub_self]; rfl
theorem lset_mem8 {A B : List D} {x y : D} {k : Nat} (h : A.length = k) : lset (A ++ x :: B) k y = A ++ y :: B := by
  unfold lset; rw [← h, List.set_append_right _ _ (Nat.le_refl _), Nat.sub_self]; rfl
theorem at8 {α : Type} {E : α → D} {l : List α} {k : Nat} (h : k < l.length) : ∃ v, l[k]? = some v ∧ ix (l.map E) k = some (E v) ∧ v ∈ l := by
  have hx := List.getElem?_eq_getElem h
  exact ⟨l[k], hx, by unfold ix; rw [List.getElem?_map, hx]; rfl, List.getElem_mem h⟩
@[simp] theorem eqQ_8 (a b : Int) : eqQC [eQ a b, eQ a b] = (True, [.lit (.bool true)]) := by rw [eqQC_at]; simp [boolD]
def szL8 (c : Nat) (n : Int) : Int := if n < c then -1 else n - c
end Go.Proofs.Ytojbfdkpelldoaa.Ae

namespace Go.Proofs.Ytojbfdkpelldoaa.Ae
open Go Go.RowKit Go.Proofs.Ytojbfdkpelldoaa.Dig
abbrev RuleT := Int × Int × Int × Int × Int × (Int × Int) × Int × Int
abbrev SkT := Int × List RuleT
def ERule : Enc RuleT := ⟨fun p => .agg [i64D p.1, i64D p.2.1, i64D p.2.2.1, i64D p.2.2.2.1, i64D p.2.2.2.2.1, EQ.e p.2.2.2.2.2.1, EQ.e p.2.2.2.2.2.2], fun p q h => by
  simp only [D.agg.injEq, List.cons.injEq, and_true] at h
  obtain ⟨h1, h2, h3, h4, h5, h6, h7⟩ := h
  exact Prod.ext (i64D_inj h1) (Prod.ext (i64D_inj h2) (Prod.ext (i64D_inj h3) (Prod.ext (i64D_inj h4) (Prod.ext (i64D_inj h5) (Prod.ext (EQ.inj _ _ h6) (EQ.inj _ _ h7))))))⟩
def ERuleL : Enc (List RuleT) := ERule.list 9
def ESk : Enc SkT := EInt.pair ERuleL
@[simp] theorem ERule_e (k a b c d e f g h : Int) : ERule.e (k, a, b, c, d, (e, f), g, h) = .agg [.lit (.int .i64 k), .lit (.int .i64 a), .lit (.int .i64 b), .lit (.int .i64 c), .lit (.int .i64 d), eQ e f, eQ g h] := rfl
@[simp] theorem ERuleL_e (l : List RuleT) : ERuleL.e l = .sl 9 (l.map ERule.e) := rfl
@[simp] theorem ESk_e (n : Int) (l : List RuleT) : ESk.e (n, l) = .agg [.lit (.int .i64 n), .sl 9 (l.map ERule.e)] := rfl
noncomputable def szRSC := ct2 ERuleL EInt (fun l n => l.length ≤ 9223372036854775807 ∧ 0 ≤ n ∧ n < 4611686018427387904) (fun l n => [.lit (.int .i64 (szL8 l.length n))])
@[simp] theorem szRSC_at (l : List (RuleT)) (n : Int) : szRSC [.sl 9 (l.map ERule.e), .lit (.int .i64 n)] = ((l.length ≤ 9223372036854775807 ∧ 0 ≤ n ∧ n < 4611686018427387904), [.lit (.int .i64 (szL8 l.length n))]) := ct2_at (A := ERuleL) (B := EInt) l n
theorem szRS_spec {N : NR} : SpecD N Try.prog 15 szRSC := by
  refine rd2 (mf := fun f => false) (tb := tbl []) tbl_nil (fn := Try.f15) (by kernel_rfl) rfl (by kernel_rfl) (by kernel_rfl) ?_
  rintro l n ⟨hl, h0, hn⟩
  show awp _ _ _ _ (start _ ([.sl 9 (l.map ERule.e), .lit (.int .i64 n)].map .dat) []) (endK _ _ _ ([D.lit (.int .i64 (szL8 l.length n))].map .dat) [])
  have w1 : IntKind.i64.wrap (n - l.length) = n - l.length := i64_id _ (by omega) (by omega)
  by_cases h : n < l.length
  · have h' : n - l.length < 0 := by omega
    simp [Try.f15, szL8, w1, h, h']
  · have h' : ¬ n - l.length < 0 := by omega
    simp [Try.f15, szL8, w1, h, h']
theorem szRS_ok : callable Try.prog 15 = true := by kernel_rfl
noncomputable def szSkC := ct2 ESk EInt (fun p n => p.2.length ≤ 9223372036854775807 ∧ 0 ≤ n ∧ n < 4611686018427387904) (fun p n => [.lit (.int .i64 (szL8 p.2.length n))])
@[simp] theorem szSkC_at (n : Int) (l : List RuleT) (m : Int) : szSkC [.agg [.lit (.int .i64 n), .sl 9 (l.map ERule.e)], .lit (.int .i64 m)] = ((l.length ≤ 9223372036854775807 ∧ 0 ≤ m ∧ m < 4611686018427387904), [.lit (.int .i64 (szL8 l.length m))]) := ct2_at (A := ESk) (B := EInt) (n, l) m
noncomputable def szSkTb : List (FuncId × Ct) := [(15, .data szRSC)]
theorem szSkTb_ok {N : NR} : TbOK N Try.prog (tbl szSkTb) := tbl_cons (c := .data szRSC) szRS_spec szRS_ok tbl_nil
@[simp] theorem szSkTb1 : tbl szSkTb 15 = some (.data szRSC) := rfl
theorem szSk_spec {N : NR} : SpecD N Try.prog 5 szSkC := by
  refine rd2 (mf := fun f => false) szSkTb_ok (fn := Try.f5) (by kernel_rfl) rfl (by kernel_rfl) (by kernel_rfl) ?_
  rintro ⟨n, l⟩ m ⟨hl, h0, hn⟩
  have hl : l.length ≤ 9223372036854775807 := hl
  show awp _ _ _ _ (start _ ([.agg [.lit (.int .i64 n), .sl 9 (l.map ERule.e)], .lit (.int .i64 m)].map .dat) []) (endK _ _ _ ([D.lit (.int .i64 (szL8 l.length m))].map .dat) [])
  by_cases h : m < l.length
  · have e1 : szL8 l.length m = -1 := by unfold szL8; rw [if_pos h]
    simp [-D.isLit, Try.f5, hl, h0, hn, e1]
  · have e1 : szL8 l.length m = m - l.length := by unfold szL8; rw [if_neg h]
    have h' : ¬ m - l.length < 0 := by omega
    simp [-D.isLit, -Int.sub_nonneg, Try.f5, hl, h0, hn, e1, h']
theorem szSk_ok : callable Try.prog 5 = true := by kernel_rfl
noncomputable def toRuC := ct1 ERule (fun p0 => True) (fun p0 => [.agg [.lit (.int .i64 p0.1), .lit (.int .i64 p0.2.1), .lit (.int .i64 p0.2.2.1), .lit (.int .i64 p0.2.2.2.1), .lit (.int .i64 p0.2.2.2.2.1), eQ p0.2.2.2.2.2.1.1 p0.2.2.2.2.2.1.2, eQ p0.2.2.2.2.2.2.1 p0.2.2.2.2.2.2.2]])
@[simp] theorem toRuC_at (k a b c d e f g h : Int) : toRuC [.agg [.lit (.int .i64 k), .lit (.int .i64 a), .lit (.int .i64 b), .lit (.int .i64 c), .lit (.int .i64 d), eQ e f, eQ g h]] = (True, [.agg [.lit (.int .i64 k), .lit (.int .i64 a), .lit (.int .i64 b), .lit (.int .i64 c), .lit (.int .i64 d), eQ e f, eQ g h]]) := ct1_at (k, a, b, c, d, (e, f), g, h)
noncomputable def toRuTb : List (FuncId × Ct) := [(45, .data toQC)]
theorem toRuTb_ok {N : NR} : TbOK N Try.prog (tbl toRuTb) := tbl_cons (c := .data toQC) toQ_spec toQ_ok tbl_nil
@[simp] theorem toRuTb1 : tbl toRuTb 45 = some (.data toQC) := rfl
theorem toRu_spec {N : NR} : SpecD N Try.prog 40 toRuC := by
  refine rd1 (mf := fun f => false) toRuTb_ok (fn := Try.f40) (by kernel_rfl) rfl (by kernel_rfl) (by kernel_rfl) ?_
  rintro ⟨k, a, b, c, d, ⟨e, f⟩, g, h⟩ hp
  have hp : True := hp
  show awp _ _ _ _ (start _ ([.agg [.lit (.int .i64 k), .lit (.int .i64 a), .lit (.int .i64 b), .lit (.int .i64 c), .lit (.int .i64 d), eQ e f, eQ g h]].map .dat) []) (endK _ _ _ (([.agg [.lit (.int .i64 k), .lit (.int .i64 a), .lit (.int .i64 b), .lit (.int .i64 c), .lit (.int .i64 d), eQ e f, eQ g h]]).map .dat) [])
  simp [-D.isLit, Try.f40]
theorem toRu_ok : callable Try.prog 40 = true := by kernel_rfl
noncomputable def toRSC := ct1 ERuleL (fun l => l.length < 1048577) (fun l => [.sl 9 (l.map ERule.e)])
@[simp] theorem toRSC_at (l : List (RuleT)) : toRSC [.sl 9 (l.map ERule.e)] = ((l.length < 1048577), [.sl 9 (l.map ERule.e)]) := ct1_at (A := ERuleL) l
noncomputable def toRSTb : List (FuncId × Ct) := [(40, .data toRuC)]
theorem toRSTb_ok {N : NR} : TbOK N Try.prog (tbl toRSTb) := tbl_cons (c := .data toRuC) toRu_spec toRu_ok tbl_nil
@[simp] theorem toRSTb1 : tbl toRSTb 40 = some (.data toRuC) := rfl
def toRSS (l p q : List (RuleT)) : St := ⟨[.dat (.sl 9 (l.map ERule.e)), .any, .any, .row 7, .dat (.lit (.int .i64 p.length)), .any, .any, .any, .any, .any, .any, .any, .any, .any, .any, .any, .any, .any, .any, .any, .any, .any, .any], [none, none, none, none, none, none, none, some (.row 9 50 (p.map ERule.e ++ List.replicate q.length (.agg [.lit (.int .i64 0), .lit (.int .i64 0), .lit (.int .i64 0), .lit (.int .i64 0), .lit (.int .i64 0), .agg [.lit (.int .i64 0), .lit (.int .i64 0)], .agg [.lit (.int .i64 0), .lit (.int .i64 0)]]))), none, none, none, none, none, none, none, none, none, none, none, none, none, none, none]⟩
theorem toRS_spec {N : NR} : SpecD N Try.prog 19 toRSC := by
  refine rd1 (mf := fun f => false) toRSTb_ok (fn := Try.f19) (by kernel_rfl) rfl (by kernel_rfl) (by kernel_rfl) ?_
  rintro l hpre
  have hl : l.length < 1048577 := hpre
  show awp _ _ _ _ (start _ ([.sl 9 (l.map ERule.e)].map .dat) []) (endK _ _ _ ([D.sl 9 (l.map ERule.e)].map .dat) [])
  simp only [Try.f19]
  simp
  refine ⟨by omega, ?_⟩
  refine loop_go (fun n st => ∃ p q, l = p ++ q ∧ n = q.length ∧ st = toRSS l p q) (s0 := toRSS l [] l) (n := l.length) (snd_of (by simp [LeT, toRSS]) (by simp [toRSS])) ⟨[], l, rfl, rfl, rfl⟩ ?_
  rintro n st ⟨p, q, rfl, rfl, rfl⟩ KN hN
  cases q with
  | nil => simp [toRSS]
  | cons v q =>
    have hv := hpre
    obtain ⟨k, a, b, c, d, ⟨e, f⟩, g, h⟩ := v
    have e1 : ix (p.map ERule.e ++ .agg [.lit (.int .i64 k), .lit (.int .i64 a), .lit (.int .i64 b), .lit (.int .i64 c), .lit (.int .i64 d), eQ e f, eQ g h] :: q.map ERule.e) p.length = some (.agg [.lit (.int .i64 k), .lit (.int .i64 a), .lit (.int .i64 b), .lit (.int .i64 c), .lit (.int .i64 d), eQ e f, eQ g h]) := ix_mem8 (by simp)
    have e2 : lset (p.map ERule.e ++ List.replicate (q.length + 1) (.agg [.lit (.int .i64 0), .lit (.int .i64 0), .lit (.int .i64 0), .lit (.int .i64 0), .lit (.int .i64 0), .agg [.lit (.int .i64 0), .lit (.int .i64 0)], .agg [.lit (.int .i64 0), .lit (.int .i64 0)]])) p.length (.agg [.lit (.int .i64 k), .lit (.int .i64 a), .lit (.int .i64 b), .lit (.int .i64 c), .lit (.int .i64 d), eQ e f, eQ g h]) = p.map ERule.e ++ .agg [.lit (.int .i64 k), .lit (.int .i64 a), .lit (.int .i64 b), .lit (.int .i64 c), .lit (.int .i64 d), eQ e f, eQ g h] :: List.replicate q.length (.agg [.lit (.int .i64 0), .lit (.int .i64 0), .lit (.int .i64 0), .lit (.int .i64 0), .lit (.int .i64 0), .agg [.lit (.int .i64 0), .lit (.int .i64 0)], .agg [.lit (.int .i64 0), .lit (.int .i64 0)]]) := by
      rw [List.replicate_succ]; exact lset_mem8 (by simp)
    have e3 : ix (p.map ERule.e ++ List.replicate (q.length + 1) (.agg [.lit (.int .i64 0), .lit (.int .i64 0), .lit (.int .i64 0), .lit (.int .i64 0), .lit (.int .i64 0), .agg [.lit (.int .i64 0), .lit (.int .i64 0)], .agg [.lit (.int .i64 0), .lit (.int .i64 0)]])) p.length = some (.agg [.lit (.int .i64 0), .lit (.int .i64 0), .lit (.int .i64 0), .lit (.int .i64 0), .lit (.int .i64 0), .agg [.lit (.int .i64 0), .lit (.int .i64 0)], .agg [.lit (.int .i64 0), .lit (.int .i64 0)]]) := by
      rw [List.replicate_succ]; exact ix_mem8 (by simp)
    have w1 : IntKind.i64.wrap ((p.length : Int) + 1) = (p.length : Int) + 1 := i64_id _ (by omega) (by simp at hl; omega)
    have e4 : (p.length : Int) < p.length + (q.length + 1) := by omega
    simp [-D.isLit, toRSS, e1, e2, e3, e4, w1, hv]
    refine hN _ (nx (m := q.length) (s'' := toRSS (p ++ (k, a, b, c, d, (e, f), g, h) :: q) (p ++ [(k, a, b, c, d, (e, f), g, h)]) q) (snd_of (by simp [LeT, toRSS]) (by simp [toRSS])) ⟨p ++ [(k, a, b, c, d, (e, f), g, h)], q, by simp, rfl, rfl⟩ (by simp))
theorem toRS_ok : callable Try.prog 19 = true := by kernel_rfl
noncomputable def toSkC := ct1 ESk (fun p => p.2.length < 1048577) (fun p => [ESk.e p])
@[simp] theorem toSkC_at (n : Int) (l : List RuleT) : toSkC [.agg [.lit (.int .i64 n), .sl 9 (l.map ERule.e)]] = ((l.length < 1048577), [.agg [.lit (.int .i64 n), .sl 9 (l.map ERule.e)]]) := ct1_at (A := ESk) (n, l)
noncomputable def toSkTb : List (FuncId × Ct) := [(19, .data toRSC)]
theorem toSkTb_ok {N : NR} : TbOK N Try.prog (tbl toSkTb) := tbl_cons (c := .data toRSC) toRS_spec toRS_ok tbl_nil
@[simp] theorem toSkTb1 : tbl toSkTb 19 = some (.data toRSC) := rfl
theorem toSk_spec {N : NR} : SpecD N Try.prog 7 toSkC := by
  refine rd1 (mf := fun f => false) toSkTb_ok (fn := Try.f7) (by kernel_rfl) rfl (by kernel_rfl) (by kernel_rfl) ?_
  rintro ⟨n, l⟩ h1
  have h1 : l.length < 1048577 := h1
  show awp _ _ _ _ (start _ ([.agg [.lit (.int .i64 n), .sl 9 (l.map ERule.e)]].map .dat) []) (endK _ _ _ ([.agg [.lit (.int .i64 n), .sl 9 (l.map ERule.e)]].map .dat) [])
  simp [-D.isLit, Try.f7, h1]
theorem toSk_ok : callable Try.prog 7 = true := by kernel_rfl
noncomputable def eqRuC := ct2 ERule ERule (fun p0 p1 => p0.1 = p1.1 ∧ p0.2.1 = p1.2.1 ∧ p0.2.2.1 = p1.2.2.1 ∧ p0.2.2.2.1 = p1.2.2.2.1 ∧ p0.2.2.2.2.1 = p1.2.2.2.2.1 ∧ (p0.2.2.2.2.2.1.1 = p1.2.2.2.2.2.1.1 ∧ p0.2.2.2.2.2.1.2 = p1.2.2.2.2.2.1.2) ∧ p0.2.2.2.2.2.2.1 = p1.2.2.2.2.2.2.1 ∧ p0.2.2.2.2.2.2.2 = p1.2.2.2.2.2.2.2) (fun p0 p1 => [.lit (.bool true)])
@[simp] theorem eqRuC_at (k a b c d e f g h : Int) (k2 a2 b2 c2 d2 e2 f2 g2 h2 : Int) : eqRuC [.agg [.lit (.int .i64 k), .lit (.int .i64 a), .lit (.int .i64 b), .lit (.int .i64 c), .lit (.int .i64 d), eQ e f, eQ g h], .agg [.lit (.int .i64 k2), .lit (.int .i64 a2), .lit (.int .i64 b2), .lit (.int .i64 c2), .lit (.int .i64 d2), eQ e2 f2, eQ g2 h2]] = (k = k2 ∧ a = a2 ∧ b = b2 ∧ c = c2 ∧ d = d2 ∧ (e = e2 ∧ f = f2) ∧ g = g2 ∧ h = h2, [.lit (.bool true)]) := ct2_at (k, a, b, c, d, (e, f), g, h) (k2, a2, b2, c2, d2, (e2, f2), g2, h2)
noncomputable def eqRuTb : List (FuncId × Ct) := [(47, .data eqQC)]
theorem eqRuTb_ok {N : NR} : TbOK N Try.prog (tbl eqRuTb) := tbl_cons (c := .data eqQC) eqQ_spec eqQ_ok tbl_nil
@[simp] theorem eqRuTb1 : tbl eqRuTb 47 = some (.data eqQC) := rfl
theorem eqRu_spec {N : NR} : SpecD N Try.prog 43 eqRuC := by
  refine rd2 (mf := fun f => false) eqRuTb_ok (fn := Try.f43) (by kernel_rfl) rfl (by kernel_rfl) (by kernel_rfl) ?_
  rintro ⟨k, a, b, c, d, ⟨e, f⟩, g, h⟩ ⟨k2, a2, b2, c2, d2, ⟨e2, f2⟩, g2, h2⟩ hp
  have hp : k = k2 ∧ a = a2 ∧ b = b2 ∧ c = c2 ∧ d = d2 ∧ (e = e2 ∧ f = f2) ∧ g = g2 ∧ h = h2 := hp
  show awp _ _ _ _ (start _ ([.agg [.lit (.int .i64 k), .lit (.int .i64 a), .lit (.int .i64 b), .lit (.int .i64 c), .lit (.int .i64 d), eQ e f, eQ g h], .agg [.lit (.int .i64 k2), .lit (.int .i64 a2), .lit (.int .i64 b2), .lit (.int .i64 c2), .lit (.int .i64 d2), eQ e2 f2, eQ g2 h2]].map .dat) []) (endK _ _ _ (([.lit (.bool true)]).map .dat) [])
  obtain ⟨rfl, rfl, rfl, rfl, rfl, ⟨rfl, rfl⟩, rfl, rfl⟩ : k = k2 ∧ a = a2 ∧ b = b2 ∧ c = c2 ∧ d = d2 ∧ (e = e2 ∧ f = f2) ∧ g = g2 ∧ h = h2 := hp
  simp [-D.isLit, Try.f43]
theorem eqRu_ok : callable Try.prog 43 = true := by kernel_rfl
noncomputable def eqRSC := ct2 ERuleL ERuleL (fun l m => (l.length < 1048577) ∧ l = m) (fun l m => [.lit (.bool true)])
@[simp] theorem eqRSC_at (l m : List (RuleT)) : eqRSC [.sl 9 (l.map ERule.e), .sl 9 (m.map ERule.e)] = (((l.length < 1048577) ∧ l = m), [.lit (.bool true)]) := ct2_at (A := ERuleL) (B := ERuleL) l m
noncomputable def eqRSTb : List (FuncId × Ct) := [(43, .data eqRuC)]
theorem eqRSTb_ok {N : NR} : TbOK N Try.prog (tbl eqRSTb) := tbl_cons (c := .data eqRuC) eqRu_spec eqRu_ok tbl_nil
@[simp] theorem eqRSTb1 : tbl eqRSTb 43 = some (.data eqRuC) := rfl
def eqRSS (l : List (RuleT)) (k : Nat) : St := ⟨[.dat (.sl 9 (l.map ERule.e)), .dat (.sl 9 (l.map ERule.e)), .any, .any, .any, .dat (.lit (.int .i64 k)), .any, .any, .any, .any, .any, .any, .any, .any, .any, .any, .any, .any, .any, .any, .any, .any, .any, .any, .any, .any, .any], [none, none, none, none, none, none, none, none, none, none, none, none, none, none, none, none, none, none, none, none, none, none, none, none, none, none, none]⟩
theorem eqRS_spec {N : NR} : SpecD N Try.prog 24 eqRSC := by
  refine rd2 (mf := fun f => false) eqRSTb_ok (fn := Try.f24) (by kernel_rfl) rfl (by kernel_rfl) (by kernel_rfl) ?_
  rintro l m ⟨hpre, hm⟩
  have hm : l = m := hm
  subst hm
  have hl : l.length < 1048577 := hpre
  show awp _ _ _ _ (start _ ([.sl 9 (l.map ERule.e), .sl 9 (l.map ERule.e)].map .dat) []) (endK _ _ _ ([D.lit (.bool true)].map .dat) [])
  simp only [Try.f24]
  simp
  refine loop_go (fun n st => ∃ k, n = l.length - k ∧ k ≤ l.length ∧ st = eqRSS l k) (s0 := eqRSS l 0) (n := l.length) (snd_of (by simp [LeT, eqRSS]) (by simp [eqRSS])) ⟨0, rfl, Nat.zero_le _, rfl⟩ ?_
  rintro n st ⟨k, hn, hk, rfl⟩ KN hN
  by_cases h : k < l.length
  · obtain ⟨⟨u, a, b, c, d, ⟨e, f⟩, g, s⟩, hx, e1, hmem⟩ := at8 (E := ERule.e) h
    have w1 : IntKind.i64.wrap ((k : Int) + 1) = (k : Int) + 1 := i64_id _ (by omega) (by omega)
    have hv := hmem
    simp [-D.isLit, eqRSS, h, e1, w1, hv]
    exact hN _ (nx (m := l.length - (k + 1)) (s'' := eqRSS l (k + 1)) (snd_of (by simp [LeT, eqRSS]) (by simp [eqRSS])) ⟨k + 1, rfl, h, rfl⟩ (by omega))
  · have hkl : k = l.length := by omega
    subst hkl
    simp [eqRSS]
theorem eqRS_ok : callable Try.prog 24 = true := by kernel_rfl
noncomputable def eqSkC := ct2 ESk ESk (fun p q => p.2.length < 1048577 ∧ p = q) (fun p q => [.lit (.bool true)])
@[simp] theorem eqSkC_at (n : Int) (l : List RuleT) (n' : Int) (l' : List RuleT) : eqSkC [.agg [.lit (.int .i64 n), .sl 9 (l.map ERule.e)], .agg [.lit (.int .i64 n'), .sl 9 (l'.map ERule.e)]] = ((l.length < 1048577 ∧ (n, l) = (n', l')), [.lit (.bool true)]) := ct2_at (A := ESk) (B := ESk) (n, l) (n', l')
noncomputable def eqSkTb : List (FuncId × Ct) := [(24, .data eqRSC)]
theorem eqSkTb_ok {N : NR} : TbOK N Try.prog (tbl eqSkTb) := tbl_cons (c := .data eqRSC) eqRS_spec eqRS_ok tbl_nil
@[simp] theorem eqSkTb1 : tbl eqSkTb 24 = some (.data eqRSC) := rfl
theorem eqSk_spec {N : NR} : SpecD N Try.prog 9 eqSkC := by
  refine rd2 (mf := fun f => false) eqSkTb_ok (fn := Try.f9) (by kernel_rfl) rfl (by kernel_rfl) (by kernel_rfl) ?_
  rintro ⟨n, l⟩ m ⟨h1, hm⟩
  subst hm
  have h1 : l.length < 1048577 := h1
  show awp _ _ _ _ (start _ ([.agg [.lit (.int .i64 n), .sl 9 (l.map ERule.e)], .agg [.lit (.int .i64 n), .sl 9 (l.map ERule.e)]].map .dat) []) (endK _ _ _ ([D.lit (.bool true)].map .dat) [])
  simp [-D.isLit, Try.f9, h1]
theorem eqSk_ok : callable Try.prog 9 = true := by kernel_rfl
def Rule64 (v : RuleT) : Prop := (I64 v.1 ∧ I64 v.2.1 ∧ I64 v.2.2.1 ∧ I64 v.2.2.2.1 ∧ I64 v.2.2.2.2.1) ∧ (I64 v.2.2.2.2.2.1.1 ∧ I64 v.2.2.2.2.2.1.2) ∧ I64 v.2.2.2.2.2.2.1 ∧ I64 v.2.2.2.2.2.2.2
def sk64 (p : SkT) : Prop := I64 p.1 ∧ p.2.length ≤ 9223372036854775807 ∧ ∀ x ∈ p.2, Rule64 x
theorem shp_seven9 {P : Program} {n : Nat} {t : TypeId} {f g h i j k l : Field} {d : D} (hu : P.underlying t = some (.struct #[f, g, h, i, j, k, l])) (hs : shp P (n + 1) t d) : ∃ a b c e u v w, d = .agg [a, b, c, e, u, v, w] ∧ shp P n f.type a ∧ shp P n g.type b ∧ shp P n h.type c ∧ shp P n i.type e ∧ shp P n j.type u ∧ shp P n k.type v ∧ shp P n l.type w := by
  simp only [shp, hu] at hs
  obtain ⟨ds, rfl, hl, hf⟩ := hs
  match ds, hl with
  | [a, b, c, e, u, v, w], _ => exact ⟨a, b, c, e, u, v, w, rfl, hf 0 f a rfl rfl, hf 1 g b rfl rfl, hf 2 h c rfl rfl, hf 3 i e rfl rfl, hf 4 j u rfl rfl, hf 5 k v rfl rfl, hf 6 l w rfl rfl⟩
set_option maxRecDepth 100000 in
theorem shp_lRule {n : Nat} {d : D} (h : shp Try.prog (n + 3) 94 d) : ∃ v, d = ERule.e v ∧ Rule64 v := by
  obtain ⟨x1, x2, x3, x4, x5, x6, x7, rfl, h1, h2, h3, h4, h5, h6, h7⟩ := shp_seven9 (P := Try.prog) (n := n + 2) (t := 94) (d := d) Try.underlying94 h
  obtain ⟨k, rfl, hk⟩ := shp_i64 Try.underlying2 h1
  obtain ⟨a, rfl, ha⟩ := shp_i64 Try.underlying2 h2
  obtain ⟨b, rfl, hb⟩ := shp_i64 Try.underlying2 h3
  obtain ⟨c, rfl, hc⟩ := shp_i64 Try.underlying2 h4
  obtain ⟨e, rfl, he⟩ := shp_i64 Try.underlying2 h5
  obtain ⟨p, rfl, hp⟩ := shp_lQ h6
  obtain ⟨q, rfl, hq⟩ := shp_lQ h7
  exact ⟨(k, a, b, c, e, p, q), rfl, ⟨hk, ha, hb, hc, he⟩, hp, hq⟩
set_option maxRecDepth 100000 in
theorem shp_Sk {n : Nat} {d : D} (h : shp Try.prog (n + 5) 24 d) : ∃ p, d = ESk.e p ∧ sk64 p := by
  obtain ⟨x, y, rfl, hx, hy⟩ := shp_two (P := Try.prog) (n := n + 4) (t := 24) (d := d) Try.underlying24 h
  obtain ⟨m, rfl, hm⟩ := shp_i64 Try.underlying2 hx
  obtain ⟨ys, rfl, hl2, hy⟩ := shp_sl (P := Try.prog) (n := n + 3) (t := 22) Try.underlying22 hy
  obtain ⟨l, rfl, hl⟩ := list_map (E := ERule.e) (p := Rule64) (fun x hx' => shp_lRule (hy x hx'))
  refine ⟨(m, l), rfl, hm, ?_, hl⟩
  rw [List.length_map] at hl2; exact hl2
end Go.Proofs.Ytojbfdkpelldoaa.Ae

namespace Go.Proofs.Ytojbfdkpelldoaa.Ae
open Go Go.RowKit Go.Proofs.Ytojbfdkpelldoaa.Dig
def sv (q : IntKind) (l : List Int) : List Value := l.map fun z => .tuple #[.int q z, .agg #[]]
def svOf (q : IntKind) : List Value → Option (List Int)
  | [] => some []
  | .tuple ⟨[.int q' z, .agg ⟨[]⟩]⟩ :: r => if q' = q then (svOf q r).map (z :: ·) else none
  | _ :: _ => none
theorem svOf_sv (q : IntKind) : ∀ l : List Int, svOf q (sv q l) = some l
  | [] => rfl
  | z :: l => by
    show (if q = q then (svOf q (sv q l)).map (z :: ·) else none) = _
    rw [if_pos rfl, svOf_sv q l]; rfl
theorem svOf_inv (q : IntKind) : ∀ (ks : List Value) (l : List Int), svOf q ks = some l → ks = sv q l
  | [], l, h => by simp [svOf] at h; subst h; rfl
  | k :: ks, l, h => by
    unfold svOf at h
    split at h
    · rename_i h1; cases h1
    · rename_i q' z r h1
      injection h1 with h1 h2
      subst h1 h2
      split at h
      · rename_i e
        subst e
        cases h3 : svOf q' ks with
        | none => rw [h3] at h; cases h
        | some l' =>
          rw [h3] at h
          injection h with h
          subst h
          rw [svOf_inv q' _ l' h3]; rfl
      · cases h
    · cases h
theorem sv_append (q : IntKind) (l : List Int) (z : Int) : sv q (l ++ [z]) = sv q l ++ [.tuple #[.int q z, .agg #[]]] := by unfold sv; rw [List.map_append]; rfl
theorem unit_build (w : World) : (Instr.build 95 #[]).run Try.prog w = .ok (.agg #[]) w := by kernel_rfl
theorem unit_zero (w : World) : (zeroValue 95).run Try.prog w = .ok (.agg #[]) w := by kernel_rfl
theorem sv_at {q : IntKind} {es : Array MapEntry} {l : List Int} (h : es.toList.map mpEnt = sv q l) : (∀ e ∈ es.toList, ∃ z ∈ l, e.key = .int q z ∧ e.val = .agg #[]) ∧ ∀ z ∈ l, ∃ e ∈ es.toList, e.key = .int q z := by
  constructor
  · intro e he
    have : mpEnt e ∈ sv q l := by rw [← h]; exact List.mem_map.2 ⟨e, he, rfl⟩
    obtain ⟨z, hz, e1⟩ := List.mem_map.1 this
    refine ⟨z, hz, ?_⟩
    unfold mpEnt at e1
    simp at e1
    exact ⟨e1.1.symm, e1.2.symm⟩
  · intro z hz
    have : (Value.tuple #[.int q z, .agg #[]]) ∈ es.toList.map mpEnt := by rw [h]; exact List.mem_map.2 ⟨z, hz, rfl⟩
    obtain ⟨e, he, e1⟩ := List.mem_map.1 this
    unfold mpEnt at e1
    simp at e1
    exact ⟨e, he, e1.1⟩
theorem set_own {P : Program} {k : TypeId} {q : IntKind} (hk : P.underlying k = some (.int q)) {w : World} {b : Nat} {es : Array MapEntry} {clock : Nat} {l : List Int} (hb : w.heap[b]? = some (.map es clock)) (hst : MapKept.Stamped es clock) (h : es.toList.map mpEnt = sv q l)
    (hw : ∀ z ∈ l, (Lit.int q z).wf = true) (hn : l.length ≤ maxLen) : ∃ D : DataW Unit, w.ownsMap P k unitElem b l.length D ∧ ∀ z, (Lit.int q z).wf = true → Maps.has D (.int q z) = decide (z ∈ l) := by
  obtain ⟨h1, h2⟩ := sv_at h
  have hlen : es.size = l.length := by
    have := congrArg List.length h
    simpa [sv] using this
  have hr : ∀ x ∈ es.toList, ∃ z ∈ l, x.key = .int q z ∧ WideElems.rd P k (unitElem (H := Unit)) x = some (.int q z, .agg []) := by
    intro x hx
    obtain ⟨z, hz, e1, e2⟩ := h1 x hx
    refine ⟨z, hz, e1, ?_⟩
    obtain ⟨key, val, born⟩ := x
    simp only at e1 e2
    subst e1 e2
    exact WideElems.rd_mk (Maps.keyOf_int_mk hk (hw z hz)) unitElem_mk
  refine ⟨_, ⟨es, clock, hb, ⟨by omega, hst, fun x hx => ?_⟩, by omega, rfl⟩, fun z hz => ?_⟩
  · obtain ⟨z, _, _, e⟩ := hr x hx
    exact ⟨_, e⟩
  · apply Bool.eq_iff_iff.2
    rw [decide_eq_true_iff]
    constructor
    · intro ha
      obtain ⟨p, hp, hpk⟩ := List.any_eq_true.1 ha
      obtain ⟨x, hx, rfl⟩ := List.mem_map.1 (mem_sorted.1 hp)
      obtain ⟨y, hy, _, e⟩ := hr x hx
      rw [WideElems.rg_of e] at hpk
      have := WideAt.sameKey_eq hpk
      injection this with _ this
      rw [← this]; exact hy
    · intro hm
      obtain ⟨x, hx, e0⟩ := h2 z hm
      obtain ⟨y, hy, e1, e⟩ := hr x hx
      rw [e0] at e1
      injection e1 with _ e1
      subst e1
      refine List.any_eq_true.2 ⟨WideElems.rg P k unitElem x, mem_sorted.2 (List.mem_map.2 ⟨x, hx, rfl⟩), ?_⟩
      rw [WideElems.rg_of e]
      exact WideAt.sameKey_self ((Maps.int_keyed hk).key (Maps.keyOf_int_mk hk hz))
theorem wpList_mapUpdate_new {P : Program} (w : World) {ops : Array Oper} {rest : List Oper} {o : Oper} {a : Act} {Q : Exit → Act → World → Prop}
    (hg : o.guard = none) (m x v : Operand) (t : TypeId) (hop : o.op = Op.mapUpdate t m x v) (k e : TypeId) (q : IntKind) (ht : P.underlying t = some (.map k e)) (hk : P.underlying k = some (.int q)) (b : Nat) (es : Array MapEntry) (clock : Nat)
    (hm : a.eval m = .map (some b)) (hb : w.heap[b]? = some (.map es clock)) (n : Int) (hw : (Lit.int q n).wf = true) (val : Value) (hx : a.eval x = .int q n) (hv : a.eval v = val)
    (hes : ∀ e ∈ es.toList, ∃ y, e.key = .int q y ∧ (Lit.int q y).wf = true ∧ y ≠ n)
    (hK : wpList P ops Q rest (a.put o.dst undef) (ChangeMaps.setBlock w b (.map (es.push ⟨.int q n, val, clock⟩) (clock + 1)))) :
    wpList P ops Q (o :: rest) a w := by
  refine wpList_plain hg fun K' hK' => ?_
  have K := Maps.int_keyed hk
  have hkl := Maps.keyOf_int_mk hk hw
  rcases K.find w hkl es.toList (fun y hy => by
    obtain ⟨z, h1, h2, _⟩ := hes y hy
    rw [h1]
    exact ⟨_, Maps.keyOf_int_mk hk h2⟩) with ⟨f1, f2⟩ | ⟨j, e0, _, f2, f3⟩
  · unfold Oper.wp
    simp [execOp, hop, hm, hx, hv, Instr.mapUpdate, run_underlying ht, MapKept.run_getObj_map hb, K.check w false hkl, f1, MapKept.run_setObj_map _ hb, Result.andThen]
    exact hK' _ _ hK
  · obtain ⟨y, h1, _, h3⟩ := hes e0 (List.mem_of_getElem? f2)
    rw [h1] at f3
    injection f3 with _ f3
    exact absurd f3 h3
theorem lawS32 : Maps.Keyed Try.prog 21 := Maps.int_keyed Try.underlying21
def RS32 (z : Int) : Prop := -2147483648 ≤ z ∧ z ≤ 2147483647
theorem wfS32 {z : Int} (h : RS32 z) : (Lit.int .i32 z).wf = true := by
  have e1 : IntKind.i32.min = -2147483648 := by decide
  have e2 : IntKind.i32.max = 2147483647 := by decide
  unfold RS32 at h
  simp only [Lit.wf, e1, e2, Bool.and_eq_true, decide_eq_true_eq]; omega
set_option maxRecDepth 100000 in
theorem hasS32_walk (z : Int) (hz : (Lit.int .i32 z).wf = true) (w : World) (b n : Nat) (D : DataW Unit) (hown : w.ownsMap Try.prog 21 unitElem b n D) : Calls Try.prog 22 #[.map (some b), .int .i32 z] w fun e w' => e = .returned (.bool (Maps.has D (.int .i32 z))) ∧ Below w.heap.size w w' := by
  have hkey : keyOf Try.prog 21 (.int .i32 z) = some (.int .i32 z) := Maps.keyOf_int_mk Try.underlying21 hz
  refine calls_of_wp (fn := Try.f22) (by kernel_rfl) rfl ?_
  simp only [Try.f22, List.size_toArray, List.length_cons, List.length_nil, Nat.reduceAdd, Nat.reduceSub, Array.replicate_succ, Array.replicate_zero, List.push_toArray, List.append_toArray, List.nil_append, List.cons_append]
  go_wp2_with (first
    | (at_lookup; refine wpList_lookup_own_unit _ rfl _ _ 60 rfl 21 95 lawS32 Try.underlying60 (unit_zero _) b n D rfl hown _ _ rfl hkey ?_)
    | go_in)
  go_ret
  exact ⟨rfl, (Below.refl _ _).alloc (Nat.le_refl _) _⟩
set_option maxRecDepth 100000 in
theorem putS32_walk (z : Int) (hz : (Lit.int .i32 z).wf = true) (w : World) (b : Nat) (es : Array MapEntry) (clock : Nat) (hb : w.heap[b]? = some (.map es clock)) (hes : ∀ e ∈ es.toList, ∃ y, e.key = .int .i32 y ∧ (Lit.int .i32 y).wf = true ∧ y ≠ z) :
    Calls Try.prog 21 #[.map (some b), .int .i32 z] w fun e w' => e = .returned (.tuple #[]) ∧ w' = ChangeMaps.setBlock w b (.map (es.push ⟨.int .i32 z, .agg #[], clock⟩) (clock + 1)) := by
  have hbd := unit_build
  refine calls_of_wp (fn := Try.f21) (by kernel_rfl) rfl ?_
  simp only [Try.f21, List.size_toArray, List.length_cons, List.length_nil, Nat.reduceAdd, Nat.reduceSub, Array.replicate_succ, Array.replicate_zero, List.push_toArray, List.append_toArray, List.nil_append, List.cons_append]
  go_wp2_with (first
    | (at_mapUpdate; refine wpList_mapUpdate_new _ rfl _ _ _ 60 rfl 21 95 .i32 Try.underlying60 Try.underlying21 b es clock rfl hb _ hz _ rfl rfl hes ?_)
    | go_in)
  go_end0
  exact ⟨rfl, rfl⟩
noncomputable def hasS32G (ks : List Value) : List D → Prop × List D × List Value
  | [.lit (.int .i32 z)] => match svOf .i32 ks with
    | some l => ((RS32 z ∧ (∀ x ∈ l, RS32 x) ∧ l.length ≤ maxLen), [.lit (.bool (decide (z ∈ l)))], ks)
    | none => (False, [], ks)
  | _ => (False, [], ks)
noncomputable def putS32G (ks : List Value) : List D → Prop × List D × List Value
  | [.lit (.int .i32 z)] => match svOf .i32 ks with
    | some l => ((RS32 z ∧ (∀ x ∈ l, RS32 x) ∧ z ∉ l), [], sv .i32 (l ++ [z]))
    | none => (False, [], ks)
  | _ => (False, [], ks)
@[simp] theorem hasS32G_at (l : List Int) (z : Int) : hasS32G (sv .i32 l) [.lit (.int .i32 z)] = ((RS32 z ∧ (∀ x ∈ l, RS32 x) ∧ l.length ≤ maxLen), [.lit (.bool (decide (z ∈ l)))], sv .i32 l) := by unfold hasS32G; simp only [svOf_sv]
@[simp] theorem putS32G_at (l : List Int) (z : Int) : putS32G (sv .i32 l) [.lit (.int .i32 z)] = ((RS32 z ∧ (∀ x ∈ l, RS32 x) ∧ z ∉ l), [], sv .i32 (l ++ [z])) := by unfold putS32G; simp only [svOf_sv]
theorem hasS32_spec {N : NR} : SpecP N Try.prog 22 60 hasS32G := by
  intro ks ds hp F w b ob vs hF hok hb hmp hrep
  unfold hasS32G at hp
  split at hp
  · rename_i z
    split at hp
    · rename_i l el
      have eks := svOf_inv _ _ _ el
      subst eks
      obtain ⟨hz, hl, hn⟩ := hp
      obtain ⟨hlen, hr⟩ := hrep
      obtain ⟨_, es, clock, rfl, hst, hes⟩ := hmp.map (by decide)
      obtain ⟨D, hown, hhas⟩ := set_own Try.underlying21 hb hst hes.symm (fun x hx => wfS32 (hl x hx)) hn
      cases vs with
      | nil => cases hlen
      | cons v vs =>
        cases vs with
        | cons _ _ => cases hlen
        | nil =>
          obtain ⟨rfl, _⟩ := RepV.lit (hr 0 _ v rfl rfl)
          refine (hasS32_walk z (wfS32 hz) w b _ D hown).mono ?_
          rintro e w' ⟨rfl, hbel⟩
          have hlt : b < w.heap.size := (Array.getElem?_eq_some_iff.1 hb).1
          rw [hasS32G_at]
          refine ⟨_, rfl, ?_, ⟨hbel.os, hbel.tape, hbel.output, hbel.size, fun k hk _ => hbel.block k hk⟩, _, by rw [hbel.block b hlt]; exact hb, .inl ⟨by decide, ⟨b, rfl⟩, es, clock, rfl, hst, hes⟩⟩
          rw [hhas z (wfS32 hz)]
          exact RepV.of_lit rfl
    · exact hp.elim
  · exact hp.elim
theorem putS32_spec {N : NR} : SpecP N Try.prog 21 60 putS32G := by
  intro ks ds hp F w b ob vs hF hok hb hmp hrep
  unfold putS32G at hp
  split at hp
  · rename_i z
    split at hp
    · rename_i l el
      have eks := svOf_inv _ _ _ el
      subst eks
      obtain ⟨hz, hl, hn⟩ := hp
      obtain ⟨hlen, hr⟩ := hrep
      obtain ⟨_, es, clock, rfl, hst, hes⟩ := hmp.map (by decide)
      have h1 := (sv_at hes.symm).1
      cases vs with
      | nil => cases hlen
      | cons v vs =>
        cases vs with
        | cons _ _ => cases hlen
        | nil =>
          obtain ⟨rfl, _⟩ := RepV.lit (hr 0 _ v rfl rfl)
          refine (putS32_walk z (wfS32 hz) w b es clock hb (fun e he => by
            obtain ⟨y, hy, e1, _⟩ := h1 e he
            exact ⟨y, e1, wfS32 (hl y hy), fun e2 => hn (e2 ▸ hy)⟩)).mono ?_
          rintro e w' ⟨rfl, rfl⟩
          rw [putS32G_at]
          refine ⟨_, rfl, ⟨#[], rfl, repVs_nil⟩, frame_block w b _, _, block_at hb, .inl ⟨by decide, ⟨b, rfl⟩, es.push ⟨.int .i32 z, .agg #[], clock⟩, clock + 1, rfl, MapKept.stamped_push hst (fun x hx => ?_), ?_⟩⟩
          · obtain ⟨y, hy, e1, _⟩ := h1 x hx
            rw [e1]
            intro e2
            injection e2 with _ e2
            exact hn (e2 ▸ hy)
          · rw [sv_append, hes]
            simp [mpEnt]
    · exact hp.elim
  · exact hp.elim
theorem hasS32_ok : callable Try.prog 22 = true := by kernel_rfl
theorem putS32_ok : callable Try.prog 21 = true := by kernel_rfl
end Go.Proofs.Ytojbfdkpelldoaa.Ae

namespace Go.Proofs.Ytojbfdkpelldoaa.Ae
open Go Go.RowKit Go.Proofs.Ytojbfdkpelldoaa.Dig
def nmK (k : Int) : List Int := if k = 1 then [73, 65, 66] else if k = 2 then [73, 65] else if k = 3 then [73, 65] else if k = 4 then [73, 74, 65, 66] else if k = 5 then [73, 74, 65] else if k = 6 then [73, 74, 65] else if k = 7 then [73, 74] else if k = 8 then [73, 74, 75] else if k = 9 then [73, 74, 65, 66] else if k = 10 then [73, 74, 75, 76] else if k = 11 then [73, 74, 75, 65] else []
def usS (k : Int) : ByteArray := if k = 1 then ⟨#[73, 65, 66]⟩ else if k = 2 then ⟨#[73, 65]⟩ else if k = 3 then ⟨#[73, 65]⟩ else if k = 4 then ⟨#[73, 74, 65, 66]⟩ else if k = 5 then ⟨#[73, 74, 65]⟩ else if k = 6 then ⟨#[73, 74, 65]⟩ else if k = 7 then ⟨#[73, 74]⟩ else if k = 8 then ⟨#[73, 74, 75]⟩ else if k = 9 then ⟨#[73, 74, 65, 66]⟩ else if k = 10 then ⟨#[73, 74, 75, 76]⟩ else if k = 11 then ⟨#[73, 74, 75, 65]⟩ else ⟨#[]⟩
def usN (k : Int) : Int := if k = 1 then 2 else if k = 2 then 1 else if k = 3 then 1 else if k = 4 then 2 else if k = 5 then 1 else if k = 6 then 1 else if k = 7 then 2 else if k = 8 then 2 else if k = 9 then 1 else if k = 10 then 2 else if k = 11 then 2 else 0
def nmB (k : Int) : List Bool := if k = 1 then [true, false, false, false, true, true] else if k = 2 then [true, false, false, false, true, false] else if k = 3 then [true, false, false, false, true, false] else if k = 4 then [true, true, false, false, true, true] else if k = 5 then [true, true, false, false, true, false] else if k = 6 then [true, true, false, false, true, false] else if k = 7 then [true, true, false, false, false, false] else if k = 8 then [true, true, true, false, false, false] else if k = 9 then [true, true, false, false, true, true] else if k = 10 then [true, true, true, true, false, false] else if k = 11 then [true, true, true, false, true, false] else []
theorem kinds (k : Int) : k = 1 ∨ k = 2 ∨ k = 3 ∨ k = 4 ∨ k = 5 ∨ k = 6 ∨ k = 7 ∨ k = 8 ∨ k = 9 ∨ k = 10 ∨ k = 11 ∨ (nmK k = [] ∧ usS k = ⟨#[]⟩ ∧ usN k = 0 ∧ nmB k = [] ∧ k ≠ 1 ∧ k ≠ 2 ∧ k ≠ 3 ∧ k ≠ 4 ∧ k ≠ 5 ∧ k ≠ 6 ∧ k ≠ 7 ∧ k ≠ 8 ∧ k ≠ 9 ∧ k ≠ 10 ∧ k ≠ 11) := by
  by_cases h1 : k = 1
  · simp [h1]
  by_cases h2 : k = 2
  · simp [h2]
  by_cases h3 : k = 3
  · simp [h3]
  by_cases h4 : k = 4
  · simp [h4]
  by_cases h5 : k = 5
  · simp [h5]
  by_cases h6 : k = 6
  · simp [h6]
  by_cases h7 : k = 7
  · simp [h7]
  by_cases h8 : k = 8
  · simp [h8]
  by_cases h9 : k = 9
  · simp [h9]
  by_cases h10 : k = 10
  · simp [h10]
  by_cases h11 : k = 11
  · simp [h11]
  simp [nmK, usS, usN, nmB, h1, h2, h3, h4, h5, h6, h7, h8, h9, h10, h11]
theorem nm_dec (k : Int) (i : Nat) (c : Int) (h : (nmK k)[i]? = some c) : ((Utf8.decode (usS k) i).1 : Int) = c ∧ (Utf8.decode (usS k) i).2 = 1 := by
  rcases kinds k with rfl | rfl | rfl | rfl | rfl | rfl | rfl | rfl | rfl | rfl | rfl | ⟨h1, _⟩
  rotate_right
  · rw [h1] at h; cases i <;> cases h
  all_goals
    rcases i with _ | _ | _ | _ | i
    all_goals first
      | (cases h; exact ⟨by kernel_rfl, by kernel_rfl⟩)
      | cases h
theorem nm_size (k : Int) : (usS k).size = (nmK k).length := by
  rcases kinds k with rfl | rfl | rfl | rfl | rfl | rfl | rfl | rfl | rfl | rfl | rfl | ⟨h1, h2, _⟩
  rotate_right
  · rw [h1, h2]; rfl
  all_goals kernel_rfl
theorem nm_len (k : Int) : (nmK k).length ≤ 4 := by
  rcases kinds k with rfl | rfl | rfl | rfl | rfl | rfl | rfl | rfl | rfl | rfl | rfl | ⟨h1, h2, _⟩
  rotate_right
  · rw [h1]; decide
  all_goals decide
theorem nm_nodup (k : Int) : (nmK k).Nodup := by
  rcases kinds k with rfl | rfl | rfl | rfl | rfl | rfl | rfl | rfl | rfl | rfl | rfl | ⟨h1, h2, _⟩
  rotate_right
  · rw [h1]; decide
  all_goals decide
theorem nm_rng (k : Int) : ∀ c ∈ nmK k, RS32 c := by
  have h : ∀ c ∈ nmK k, 65 ≤ c ∧ c ≤ 76 := by
    rcases kinds k with rfl | rfl | rfl | rfl | rfl | rfl | rfl | rfl | rfl | rfl | rfl | ⟨h1, h2, _⟩
    rotate_right
    · rw [h1]; decide
    all_goals decide
  intro c hc
  have := h c hc
  unfold RS32; omega
theorem nmB_len (k : Int) : (nmB k).length = 0 ∨ (nmB k).length = 6 := by
  rcases kinds k with rfl | rfl | rfl | rfl | rfl | rfl | rfl | rfl | rfl | rfl | rfl | ⟨_, _, _, h1, _⟩
  rotate_right
  · rw [h1]; exact .inl rfl
  all_goals exact .inr (by decide)
theorem nmB_usN (k : Int) : usN k = 0 ↔ (nmB k).length = 0 := by
  rcases kinds k with rfl | rfl | rfl | rfl | rfl | rfl | rfl | rfl | rfl | rfl | rfl | ⟨_, _, h2, h1, _⟩
  rotate_right
  · rw [h1, h2]; simp
  all_goals decide
theorem nmB_at (k : Int) (h : usN k ≠ 0) : nmB k = [decide (73 ∈ nmK k), decide (74 ∈ nmK k), decide (75 ∈ nmK k), decide (76 ∈ nmK k), decide (65 ∈ nmK k), decide (66 ∈ nmK k)] := by
  rcases kinds k with rfl | rfl | rfl | rfl | rfl | rfl | rfl | rfl | rfl | rfl | rfl | ⟨_, _, h2, _⟩
  rotate_right
  · exact absurd h2 h
  all_goals decide
noncomputable def usesC := ct1 EInt (fun p0 => True) (fun p0 => [.lit (.string (usS p0)), .lit (.int .i64 (usN p0))])
@[simp] theorem usesC_at (k : Int) : usesC [.lit (.int .i64 k)] = (True, [.lit (.string (usS k)), .lit (.int .i64 (usN k))]) := ct1_at k
set_option maxRecDepth 100000 in
set_option maxHeartbeats 4000000 in
theorem uses_spec {N : NR} : SpecD N Try.prog 20 usesC := by
  refine rd1 (mf := fun f => false) (tb := tbl []) tbl_nil (fn := Try.f20) (by kernel_rfl) rfl (by kernel_rfl) (by kernel_rfl) ?_
  rintro k hp
  have hp : True := hp
  show awp _ _ _ _ (start _ ([.lit (.int .i64 k)].map .dat) []) (endK _ _ _ (([.lit (.string (usS k)), .lit (.int .i64 (usN k))]).map .dat) [])
  by_cases h1 : k = 1
  · subst h1
    simp [-D.isLit, Try.f20, usS, usN, nmB]
  by_cases h2 : k = 2
  · subst h2
    simp [-D.isLit, Try.f20, usS, usN, nmB]
  by_cases h3 : k = 3
  · subst h3
    simp [-D.isLit, Try.f20, usS, usN, nmB]
  by_cases h4 : k = 4
  · subst h4
    simp [-D.isLit, Try.f20, usS, usN, nmB]
  by_cases h5 : k = 5
  · subst h5
    simp [-D.isLit, Try.f20, usS, usN, nmB]
  by_cases h6 : k = 6
  · subst h6
    simp [-D.isLit, Try.f20, usS, usN, nmB]
  by_cases h7 : k = 7
  · subst h7
    simp [-D.isLit, Try.f20, usS, usN, nmB]
  by_cases h8 : k = 8
  · subst h8
    simp [-D.isLit, Try.f20, usS, usN, nmB]
  by_cases h9 : k = 9
  · subst h9
    simp [-D.isLit, Try.f20, usS, usN, nmB]
  by_cases h10 : k = 10
  · subst h10
    simp [-D.isLit, Try.f20, usS, usN, nmB]
  by_cases h11 : k = 11
  · subst h11
    simp [-D.isLit, Try.f20, usS, usN, nmB]
  simp [-D.isLit, Try.f20, usS, usN, h1, h2, h3, h4, h5, h6, h7, h8, h9, h10, h11]
theorem uses_ok : callable Try.prog 20 = true := by kernel_rfl
noncomputable def l18NC := ct1 EInt (fun p0 => True) (fun p0 => [.sl 1 ((nmB p0).map boolD)])
@[simp] theorem l18NC_at (k : Int) : l18NC [.lit (.int .i64 k)] = (True, [.sl 1 ((nmB k).map boolD)]) := ct1_at k
set_option maxRecDepth 100000 in
set_option maxHeartbeats 4000000 in
theorem l18N_spec {N : NR} : SpecD N Try.prog 16 l18NC := by
  refine rd1 (mf := fun f => false) (tb := tbl []) tbl_nil (fn := Try.f16) (by kernel_rfl) rfl (by kernel_rfl) (by kernel_rfl) ?_
  rintro k hp
  have hp : True := hp
  show awp _ _ _ _ (start _ ([.lit (.int .i64 k)].map .dat) []) (endK _ _ _ (([.sl 1 ((nmB k).map boolD)]).map .dat) [])
  by_cases h1 : k = 1
  · subst h1
    simp [-D.isLit, Try.f16, nmB]
    exact ⟨rfl, Sub.refl _⟩
  by_cases h2 : k = 2
  · subst h2
    simp [-D.isLit, Try.f16, nmB]
    exact ⟨rfl, Sub.refl _⟩
  by_cases h3 : k = 3
  · subst h3
    simp [-D.isLit, Try.f16, nmB]
    exact ⟨rfl, Sub.refl _⟩
  by_cases h4 : k = 4
  · subst h4
    simp [-D.isLit, Try.f16, nmB]
    exact ⟨rfl, Sub.refl _⟩
  by_cases h5 : k = 5
  · subst h5
    simp [-D.isLit, Try.f16, nmB]
    exact ⟨rfl, Sub.refl _⟩
  by_cases h6 : k = 6
  · subst h6
    simp [-D.isLit, Try.f16, nmB]
    exact ⟨rfl, Sub.refl _⟩
  by_cases h7 : k = 7
  · subst h7
    simp [-D.isLit, Try.f16, nmB]
    exact ⟨rfl, Sub.refl _⟩
  by_cases h8 : k = 8
  · subst h8
    simp [-D.isLit, Try.f16, nmB]
    exact ⟨rfl, Sub.refl _⟩
  by_cases h9 : k = 9
  · subst h9
    simp [-D.isLit, Try.f16, nmB]
    exact ⟨rfl, Sub.refl _⟩
  by_cases h10 : k = 10
  · subst h10
    simp [-D.isLit, Try.f16, nmB]
    exact ⟨rfl, Sub.refl _⟩
  by_cases h11 : k = 11
  · subst h11
    simp [-D.isLit, Try.f16, nmB]
    exact ⟨rfl, Sub.refl _⟩
  simp [-D.isLit, Try.f16, nmB, h1, h2, h3, h4, h5, h6, h7, h8, h9, h10, h11]
theorem l18N_ok : callable Try.prog 16 = true := by kernel_rfl
noncomputable def l7AC := ct2 EInt EInt (fun p0 p1 => True) (fun p0 p1 => [.lit (.bool (decide (0 ≤ p0 ∧ p0 < p1)))])
@[simp] theorem l7AC_at (i : Int) (n : Int) : l7AC [.lit (.int .i64 i), .lit (.int .i64 n)] = (True, [.lit (.bool (decide (0 ≤ i ∧ i < n)))]) := ct2_at i n
theorem l7A_spec {N : NR} : SpecD N Try.prog 17 l7AC := by
  refine rd2 (mf := fun f => false) (tb := tbl []) tbl_nil (fn := Try.f17) (by kernel_rfl) rfl (by kernel_rfl) (by kernel_rfl) ?_
  rintro i n hp
  have hp : True := hp
  show awp _ _ _ _ (start _ ([.lit (.int .i64 i), .lit (.int .i64 n)].map .dat) []) (endK _ _ _ (([.lit (.bool (decide (0 ≤ i ∧ i < n)))]).map .dat) [])
  by_cases h : 0 ≤ i
  · simp [-D.isLit, Try.f17, h]
  · have h' : i < 0 := by omega
    simp [-D.isLit, Try.f17, h, h']
theorem l7A_ok : callable Try.prog 17 = true := by kernel_rfl
def iOk8 (n : Int) (l : List Int) (e : Int × Int) : Prop := 0 ≤ e.2 ∧ e.2 < n ∧ (e.1 ∈ l ∨ e.2 = 0)
def qO8 (l : List Int) (e : Int × Int × Int) : Prop := if e.1 ∈ l then qOk e.2.1 e.2.2 else e.2 = (0, 1)
def rI8 (r : RuleT) : List (Int × Int) := [(73, r.2.1), (74, r.2.2.1), (75, r.2.2.2.1), (76, r.2.2.2.2.1)]
def rQ8 (r : RuleT) : List (Int × Int × Int) := [(65, r.2.2.2.2.2.1), (66, r.2.2.2.2.2.2)]
def rAl (r : RuleT) : Prop := r.1 = 9 ∧ r.2.2.2.2.2.1.1 = 0 ∧ r.2.2.2.2.2.2.1 = 0
def rOk (n : Int) (r : RuleT) : Prop := usN r.1 ≠ 0 ∧ (∀ e ∈ rI8 r, iOk8 n (nmK r.1) e) ∧ (∀ e ∈ rQ8 r, qO8 (nmK r.1) e) ∧ ¬ rAl r
open Classical in
noncomputable def rB (n : Int) (r : RuleT) : Bool := decide (rOk n r)
open Classical in
noncomputable def skB (p : SkT) : Bool := decide (1 ≤ p.1 ∧ p.1 ≤ 8) && (decide (p.2.length ≤ 16) && p.2.all (rB p.1))
open Classical in
theorem rB_no {n : Int} {r : RuleT} (h : ¬ rOk n r) : rB n r = false := by unfold rB; exact decide_eq_false h
open Classical in
theorem rB_yes {n : Int} {r : RuleT} (h : rOk n r) : rB n r = true := by unfold rB; exact decide_eq_true h
end Go.Proofs.Ytojbfdkpelldoaa.Ae

namespace Go.Proofs.Ytojbfdkpelldoaa.Ae
open Go Go.RowKit Go.Proofs.Ytojbfdkpelldoaa.Dig
noncomputable def iSkTb : List (FuncId × Ct) := [(20, .data usesC), (23, .data qokC), (22, .mp 60 hasS32G), (21, .mp 60 putS32G)]
theorem iSkTb_ok : TbOK NF Try.prog (tbl iSkTb) := tbl_cons (c := .data usesC) uses_spec uses_ok (tbl_cons (c := .data qokC) iQOk_spec iQOk_ok (tbl_cons (c := .mp 60 hasS32G) hasS32_spec hasS32_ok (tbl_cons (c := .mp 60 putS32G) putS32_spec putS32_ok tbl_nil)))
@[simp] theorem iSkTb1 : tbl iSkTb 20 = some (.data usesC) := rfl
@[simp] theorem iSkTb2 : tbl iSkTb 23 = some (.data qokC) := rfl
@[simp] theorem iSkTb3 : tbl iSkTb 22 = some (.mp 60 hasS32G) := rfl
@[simp] theorem iSkTb4 : tbl iSkTb 21 = some (.mp 60 putS32G) := rfl
@[simp] def skMf : FuncId → Bool := fun g => g == 22 || g == 21
noncomputable def skP0 : Code := inL (inB (sq2 (sq1 (sq2 (sq2 (Try.f8.body.getD .skip))))))
noncomputable def skP1 : Code := inB (sq1 (sq2 (sq2 skP0)))
noncomputable def skL2 : Code := inL (inB (sq2 (sq1 (sq2 (sq2 (sq2 (sq2 skP1)))))))
noncomputable def skL4 : Code := inL (inB (sq2 (sq1 (sq2 (sq2 (sq2 (sq2 (sq2 skP1))))))))
noncomputable def skL6 : Code := inL (inB (sq2 (sq1 (sq2 (sq2 (sq2 (sq2 (sq2 (sq2 skP1)))))))))
def skS2 (n : Int) (l : List RuleT) (j : Nat) (k a b c d e f g h : Int) (i : Nat) : St := ⟨[.any, .obj 1 [] 0, .any, .any, .obj 4 [] 0, .any, .any, .mpx 43, .any, .any, .any, .any, .any, .any, .any, .any, .any, .any, .any, .any, .any, .any, .any, .any, .any, .any, .any, .any, .any, .dat (.sl 9 (l.map ERule.e)), .dat (.lit (.int .i64 l.length)), .dat (.lit (.int .i64 j)), .any, .any, .any, .any, .any, .any, .any, .any, .any, .any, .any, .any, .any, .mpx 45, .any, .any, .any, .any, .any, .any, .any, .any, .any, .any, .any, .any, .any, .any, .any, .any, .any, .any, .any, .any, .any, .any, .any, .any, .any, .any, .any, .any, .any, .any, .any, .any, .any, .any, .any, .any, .any, .any, .any, .any, .any, .any, .any, .any, .any, .any, .any, .any, .any, .any, .any, .any, .any, .any, .any, .any, .any, .any, .any, .any, .any, .any, .any, .any, .any, .any, .any, .any, .any, .any, .any, .any, .any, .any, .any, .any, .any, .any, .any, .any, .any, .any, .any, .any, .any, .any, .any], [none, some (.box (.agg [.lit (.int .i64 n), .sl 9 (l.map ERule.e)])), none, none, some (.box (.agg [.lit (.int .i64 k), .lit (.int .i64 a), .lit (.int .i64 b), .lit (.int .i64 c), .lit (.int .i64 d), eQ e f, eQ g h])), none, none, none, none, none, none, none, none, none, none, none, none, none, none, none, none, none, none, none, none, none, none, none, none, none, none, none, none, none, none, none, none, none, none, none, none, none, none, some (.mp 60 (sv .i32 ((nmK k).take i))), none, some (.mp itS [.string (usS k), .int .i64 i]), none, none, none, none, none, none, none, none, none, none, none, none, none, none, none, none, none, none, none, none, none, none, none, none, none, none, none, none, none, none, none, none, none, none, none, none, none, none, none, none, none, none, none, none, none, none, none, none, none, none, none, none, none, none, none, none, none, none, none, none, none, none, none, none, none, none, none, none, none, none, none, none, none, none, none, none, none, none, none, none, none, none, none, none, none, none, none]⟩
def skX2 (n : Int) (l : List RuleT) (j : Nat) (k a b c d e f g h : Int) : St := ⟨[.any, .obj 1 [] 0, .any, .any, .obj 4 [] 0, .any, .any, .mpx 43, .any, .any, .any, .any, .any, .any, .any, .any, .any, .any, .any, .any, .any, .any, .any, .any, .any, .any, .any, .any, .any, .dat (.sl 9 (l.map ERule.e)), .dat (.lit (.int .i64 l.length)), .dat (.lit (.int .i64 j)), .any, .any, .any, .any, .any, .any, .any, .any, .any, .any, .any, .any, .any, .mpx 45, .tup [.dat (.lit (.bool false))], .dat (.lit (.bool false)), .any, .any, .any, .any, .any, .any, .any, .any, .any, .any, .any, .any, .any, .any, .any, .any, .any, .any, .any, .any, .any, .any, .any, .any, .any, .any, .any, .any, .any, .any, .any, .any, .any, .any, .any, .any, .any, .any, .any, .any, .any, .any, .any, .any, .any, .any, .any, .any, .any, .any, .any, .any, .any, .any, .any, .any, .any, .any, .any, .any, .any, .any, .any, .any, .any, .any, .any, .any, .any, .any, .any, .any, .any, .any, .any, .any, .any, .any, .any, .any, .any, .any, .any, .any, .any], [none, some (.box (.agg [.lit (.int .i64 n), .sl 9 (l.map ERule.e)])), none, none, some (.box (.agg [.lit (.int .i64 k), .lit (.int .i64 a), .lit (.int .i64 b), .lit (.int .i64 c), .lit (.int .i64 d), eQ e f, eQ g h])), none, none, none, none, none, none, none, none, none, none, none, none, none, none, none, none, none, none, none, none, none, none, none, none, none, none, none, none, none, none, none, none, none, none, none, none, none, none, some (.mp 60 (sv .i32 (nmK k))), none, some (.mp itS [.string (usS k), .int .i64 (nmK k).length]), none, none, none, none, none, none, none, none, none, none, none, none, none, none, none, none, none, none, none, none, none, none, none, none, none, none, none, none, none, none, none, none, none, none, none, none, none, none, none, none, none, none, none, none, none, none, none, none, none, none, none, none, none, none, none, none, none, none, none, none, none, none, none, none, none, none, none, none, none, none, none, none, none, none, none, none, none, none, none, none, none, none, none, none, none, none, none]⟩
theorem take_add8 {α : Type} {l : List α} {i : Nat} {x : α} (h : l[i]? = some x) : l.take i ++ [x] = l.take (i + 1) := by
  rw [List.take_add_one, h]; rfl
theorem nodup_take8 {l : List Int} (hn : l.Nodup) {i : Nat} {x : Int} (h : l[i]? = some x) : x ∉ l.take i := by
  have h1 : (l.take (i + 1)).Nodup := List.Sublist.nodup (List.take_sublist _ _) hn
  rw [← take_add8 h, List.nodup_append] at h1
  intro hm
  exact h1.2.2 x hm x (by simp) rfl
set_option maxRecDepth 100000 in
set_option maxHeartbeats 4000000 in
theorem sk_str {K : Exit → St → Prop} (n : Int) (l : List RuleT) (j : Nat) (k a b c d e f g h : Int) {st : St} (h0 : Snd st (skS2 n l j k a b c d e f g h 0)) (hT : K .normal (skX2 n l j k a b c d e f g h)) : awp Try.prog skMf (tbl iSkTb) (.loop skL2) st (Kblk 2 K) := by
  simp only [skL2, skP1, skP0, Try.f8, Option.getD, sq1, sq2, inB, inL]
  refine loop_go (fun m s => ∃ i, m = (nmK k).length - i ∧ i ≤ (nmK k).length ∧ s = skS2 n l j k a b c d e f g h i) (s0 := skS2 n l j k a b c d e f g h 0) (n := (nmK k).length) h0 ⟨0, rfl, Nat.zero_le _, rfl⟩ ?_
  rintro m s ⟨i, hm, hi, rfl⟩ KN hN
  have hsz := nm_size k
  by_cases hh : i < (nmK k).length
  · obtain ⟨u, hu⟩ : ∃ u, (nmK k)[i]? = some u := ⟨_, List.getElem?_eq_getElem hh⟩
    obtain ⟨d1, d2⟩ := nm_dec k i u hu
    have hlt : i < (usS k).size := by omega
    have nin := nodup_take8 (nm_nodup k) hu
    have htk := take_add8 hu
    have r1 : RS32 u := nm_rng k u (List.mem_of_getElem? hu)
    have r2 : ∀ x ∈ (nmK k).take i, RS32 x := fun x hx => nm_rng k x (List.mem_of_mem_take hx)
    have cp := putS32G_at ((nmK k).take i) u
    rw [eq_true (⟨r1, r2, nin⟩ : RS32 u ∧ (∀ x ∈ (nmK k).take i, RS32 x) ∧ u ∉ (nmK k).take i), htk] at cp
    simp [-D.isLit, -putS32G_at, skS2, hlt, d1, d2, cp]
    exact hN _ (nx (m := (nmK k).length - (i + 1)) (s'' := skS2 n l j k a b c d e f g h (i + 1)) (snd_obs (n := 133) [(1, 1, .box (.agg [.lit (.int .i64 n), .sl 9 (l.map ERule.e)])), (4, 4, .box (.agg [.lit (.int .i64 k), .lit (.int .i64 a), .lit (.int .i64 b), .lit (.int .i64 c), .lit (.int .i64 d), eQ e f, eQ g h])), (43, 43, .mp 60 (sv .i32 ((nmK k).take (i + 1)))), (45, 45, .mp itS [.string (usS k), .int .i64 (i + 1 : Nat)])] rfl (by simp) (by simp [skS2])) ⟨i + 1, rfl, hh, rfl⟩ (by omega))
  · have hil : i = (nmK k).length := by omega
    subst hil
    have hlt : ¬ (nmK k).length < (usS k).size := by omega
    have htk : (nmK k).take (nmK k).length = nmK k := List.take_length
    simp [-D.isLit, skS2, hlt, htk]
    exact hT
@[simp] theorem lit_litS (v : Value) : (D.lit v).isLit = true := rfl
theorem nx_at {mf : FuncId → Bool} {tb : FuncId → Option Ct} {id : Nat} {ops : Array Oper} {st : St} {K : Exit → St → Prop} {x : Operand} {d1 d2 o : Nat} {c : Value} {left : List Value} (o1 o2 : Oper) (ho : ops.toList = [o1, o2]) (e1 : o1.op = .next x false) (e2 : o1.dst = some d1) (e3 : o1.guard = none) (e4 : o2.op = .extract (.tmp d1) 0) (e5 : o2.dst = some d2) (e6 : o2.guard = none) (hx : ev st x = .mpx o) (hm : st.mp? o = some (itK, c :: left)) (hd : d1 < st.tm.length)
    (hnil : left = [] → K .normal ((st.put (some d1) .any).put (some d2) (.dat (.lit (.bool false)))))
    (hcons : ∀ (i : Nat) (k v : Value), left[i]? = some (.tuple ⟨[k, v]⟩) → K .normal (({ (st.put (some d1) .any) with ob := st.ob.set o (some (.mp itK (.tuple ⟨[k, v]⟩ :: left.eraseIdx i))) } : St).put (some d2) (.dat (.lit (.bool true))))) : awp Try.prog mf tb (.region id ops false) st K := by
  have hn : isNx ops.toList = true := by rw [ho]; unfold isNx; simp only [e1, e3]
  simp only [awp]
  rw [hn]
  refine ⟨trivial, ?_⟩
  rw [ho]
  unfold nxW
  simp only [e1, e2, e3, e4, e5, e6, hx, hm]
  exact ⟨⟨trivial, trivial, hd⟩, hnil, hcons⟩
def ent8 (e : Int × Int) : Value := .tuple #[.int .i32 e.1, .int .i64 e.2]
theorem erase_map8 {α β : Type} {f : α → β} : ∀ (l : List α) (i : Nat), (l.eraseIdx i).map f = (l.map f).eraseIdx i
  | [], _ => rfl
  | _ :: _, 0 => rfl
  | x :: l, i + 1 => by simp [List.eraseIdx_cons_succ, erase_map8 l i]
theorem ent_at {left : List (Int × Int)} {i : Nat} {kk vv : Value} (h : (left.map ent8)[i]? = some (.tuple ⟨[kk, vv]⟩)) : ∃ u v, left[i]? = some (u, v) ∧ kk = .int .i32 u ∧ vv = .int .i64 v ∧ (left.map ent8).eraseIdx i = (left.eraseIdx i).map ent8 := by
  rw [List.getElem?_map] at h
  cases hl : left[i]? with
  | none => rw [hl] at h; cases h
  | some e =>
    rw [hl] at h
    obtain ⟨u, v⟩ := e
    injection h with h
    unfold ent8 at h
    injection h with h
    injection h with h
    injection h with h1 h
    injection h with h2 h
    exact ⟨u, v, rfl, h1.symm, h2.symm, (erase_map8 _ _).symm⟩
theorem left8 {α : Type} {L left : List α} {p : α → Prop} {i : Nat} {x : α} (h : ∀ e ∈ L, e ∉ left → p e) (hx : left[i]? = some x) (hp : p x) : ∀ e ∈ L, e ∉ left.eraseIdx i → p e := by
  intro e he hn
  apply Classical.byContradiction
  intro hpe
  by_cases hm : e ∈ left
  · obtain ⟨m, hm1, hm2⟩ := List.mem_iff_getElem.1 hm
    apply hn
    by_cases hmi : m = i
    · subst hmi
      rw [List.getElem?_eq_getElem hm1, hm2] at hx
      injection hx with hx
      exact absurd (hx ▸ hp) hpe
    · exact List.mem_eraseIdx_iff_getElem.2 ⟨m, hm1, hmi, hm2⟩
  · exact hpe (h e he hm)
theorem sub8 {α : Type} {L left : List α} (i : Nat) (h : ∀ e ∈ left, e ∈ L) : ∀ e ∈ left.eraseIdx i, e ∈ L := fun e he => h e (List.mem_of_mem_eraseIdx he)
def skS4 (n : Int) (l : List RuleT) (j : Nat) (k a b c d e f g h : Int) (left : List (Int × Int)) (cur : Value) : St := ⟨[.any, .obj 1 [] 0, .any, .any, .obj 4 [] 0, .any, .any, .mpx 43, .any, .any, .any, .any, .any, .any, .any, .any, .any, .any, .any, .any, .any, .any, .any, .any, .any, .any, .any, .any, .any, .dat (.sl 9 (l.map ERule.e)), .dat (.lit (.int .i64 l.length)), .dat (.lit (.int .i64 j)), .any, .any, .any, .any, .any, .any, .any, .any, .any, .any, .any, .any, .any, .any, .any, .any, .any, .any, .any, .any, .any, .any, .any, .any, .any, .any, .any, .any, .any, .any, .mpx 62, .any, .any, .any, .any, .any, .any, .any, .any, .any, .any, .any, .any, .any, .any, .any, .any, .any, .any, .any, .any, .any, .any, .any, .any, .any, .any, .any, .any, .any, .any, .any, .any, .any, .any, .any, .any, .any, .any, .any, .any, .any, .any, .any, .any, .any, .any, .any, .any, .any, .any, .any, .any, .any, .any, .any, .any, .any, .any, .any, .any, .any, .any, .any, .any, .any, .any, .any, .any, .any, .any], [none, some (.box (.agg [.lit (.int .i64 n), .sl 9 (l.map ERule.e)])), none, none, some (.box (.agg [.lit (.int .i64 k), .lit (.int .i64 a), .lit (.int .i64 b), .lit (.int .i64 c), .lit (.int .i64 d), eQ e f, eQ g h])), none, none, none, none, none, none, none, none, none, none, none, none, none, none, none, none, none, none, none, none, none, none, none, none, none, none, none, none, none, none, none, none, none, none, none, none, none, none, some (.mp 60 (sv .i32 (nmK k))), none, none, none, none, none, none, none, none, none, none, none, none, none, none, none, none, none, none, some (.mp itK (cur :: left.map ent8)), none, none, none, none, none, none, none, none, none, none, none, none, none, none, none, none, none, none, none, none, none, none, none, none, none, none, none, none, none, none, none, none, none, none, none, none, none, none, none, none, none, none, none, none, none, none, none, none, none, none, none, none, none, none, none, none, none, none, none, none, none, none, none, none, none, none, none, none, none, none]⟩
def skX4 (n : Int) (l : List RuleT) (j : Nat) (k a b c d e f g h : Int) (cur : Value) : St := ⟨[.any, .obj 1 [] 0, .any, .any, .obj 4 [] 0, .any, .any, .mpx 43, .any, .any, .any, .any, .any, .any, .any, .any, .any, .any, .any, .any, .any, .any, .any, .any, .any, .any, .any, .any, .any, .dat (.sl 9 (l.map ERule.e)), .dat (.lit (.int .i64 l.length)), .dat (.lit (.int .i64 j)), .any, .any, .any, .any, .any, .any, .any, .any, .any, .any, .any, .any, .any, .any, .any, .any, .any, .any, .any, .any, .any, .any, .any, .any, .any, .any, .any, .any, .any, .any, .mpx 62, .any, .dat (.lit (.bool false)), .any, .any, .any, .any, .any, .any, .any, .any, .any, .any, .any, .any, .any, .any, .any, .any, .any, .any, .any, .any, .any, .any, .any, .any, .any, .any, .any, .any, .any, .any, .any, .any, .any, .any, .any, .any, .any, .any, .any, .any, .any, .any, .any, .any, .any, .any, .any, .any, .any, .any, .any, .any, .any, .any, .any, .any, .any, .any, .any, .any, .any, .any, .any, .any, .any, .any, .any, .any], [none, some (.box (.agg [.lit (.int .i64 n), .sl 9 (l.map ERule.e)])), none, none, some (.box (.agg [.lit (.int .i64 k), .lit (.int .i64 a), .lit (.int .i64 b), .lit (.int .i64 c), .lit (.int .i64 d), eQ e f, eQ g h])), none, none, none, none, none, none, none, none, none, none, none, none, none, none, none, none, none, none, none, none, none, none, none, none, none, none, none, none, none, none, none, none, none, none, none, none, none, none, some (.mp 60 (sv .i32 (nmK k))), none, none, none, none, none, none, none, none, none, none, none, none, none, none, none, none, none, none, some (.mp itK [cur]), none, none, none, none, none, none, none, none, none, none, none, none, none, none, none, none, none, none, none, none, none, none, none, none, none, none, none, none, none, none, none, none, none, none, none, none, none, none, none, none, none, none, none, none, none, none, none, none, none, none, none, none, none, none, none, none, none, none, none, none, none, none, none, none, none, none, none, none, none, none]⟩
theorem rI_rng {r : RuleT} {e : Int × Int} (h : e ∈ rI8 r) : RS32 e.1 := by
  unfold rI8 at h
  simp at h
  rcases h with rfl | rfl | rfl | rfl <;> (unfold RS32; simp)
theorem rQ_rng {r : RuleT} {e : Int × Int × Int} (h : e ∈ rQ8 r) : RS32 e.1 := by
  unfold rQ8 at h
  simp at h
  rcases h with rfl | rfl <;> (unfold RS32; simp)
theorem nm_max (k : Int) : (nmK k).length ≤ maxLen := by have := nm_len k; unfold maxLen; omega
set_option maxRecDepth 100000 in
set_option maxHeartbeats 4000000 in
theorem sk_ids {K : Exit → St → Prop} (n : Int) (l : List RuleT) (j : Nat) (k a b c d e f g h : Int) (cur0 : Value) {st : St} (h0 : Snd st (skS4 n l j k a b c d e f g h (rI8 (k, a, b, c, d, (e, f), g, h)) cur0)) (hT : (∀ z ∈ rI8 (k, a, b, c, d, (e, f), g, h), iOk8 n (nmK k) z) → ∀ cur, K .normal (skX4 n l j k a b c d e f g h cur)) (hF : ¬ (∀ z ∈ rI8 (k, a, b, c, d, (e, f), g, h), iOk8 n (nmK k) z) → ∀ s : St, s.get 2 = .dat (.lit (.bool false)) → K .ret s) : awp Try.prog skMf (tbl iSkTb) (.loop skL4) st (Kblk 4 K) := by
  simp only [skL4, skP1, skP0, Try.f8, Option.getD, sq1, sq2, inB, inL]
  generalize hL : rI8 (k, a, b, c, d, (e, f), g, h) = L at *
  have hrng : ∀ z ∈ L, RS32 z.1 := fun z hz => rI_rng (r := (k, a, b, c, d, (e, f), g, h)) (hL ▸ hz)
  clear hL
  refine loop_go (fun m s => ∃ left cur, m = left.length ∧ (∀ z ∈ left, z ∈ L) ∧ (∀ z ∈ L, z ∉ left → iOk8 n (nmK k) z) ∧ s = skS4 n l j k a b c d e f g h left cur) (s0 := skS4 n l j k a b c d e f g h L cur0) (n := L.length) h0 ⟨L, cur0, rfl, fun z h => h, fun z h h' => absurd h h', rfl⟩ ?_
  rintro m s ⟨left, cur, hm, hsub, hok, rfl⟩ KN hN
  rw [w_seq]
  refine nx_at (o := 62) (c := cur) (left := left.map ent8) _ _ rfl rfl rfl rfl rfl rfl rfl (by kernel_rfl) (by kernel_rfl) (by simp [skS4]) (fun hnil => ?_) (fun i kk vv hl => ?_)
  · have hnil : left = [] := List.map_eq_nil_iff.1 hnil
    subst hnil
    have hT := hT (fun z hz => hok z hz (by simp)) cur
    simp [-D.isLit, skS4]
    exact hT
  · obtain ⟨u, v, hl2, rfl, rfl, her⟩ := ent_at hl
    rw [her]
    have hmem := hsub _ (List.mem_of_getElem? hl2)
    have hmlt : i < left.length := (List.getElem?_eq_some_iff.1 hl2).1
    have r1 : RS32 u := hrng _ hmem
    have r2 : ∀ x ∈ nmK k, RS32 x := nm_rng k
    have ch := hasS32G_at (nmK k) u
    rw [eq_true (⟨r1, r2, nm_max k⟩ : RS32 u ∧ (∀ x ∈ nmK k, RS32 x) ∧ (nmK k).length ≤ maxLen)] at ch
    by_cases c1 : v < 0
    · have hF := hF (fun h => by have := (h _ hmem).1; simp at this; omega)
      simp [-D.isLit, -hasS32G_at, skS4, ch, c1]
      exact hF _ rfl
    by_cases c2 : n ≤ v
    · have hF := hF (fun h => by have := (h _ hmem).2.1; simp at this; omega)
      simp [-D.isLit, -hasS32G_at, skS4, ch, c1, c2]
      exact hF _ rfl
    by_cases c3 : u ∈ nmK k
    · have h4 : iOk8 n (nmK k) (u, v) := ⟨by simp; omega, by simp; omega, .inl c3⟩
      have h5 := left8 (i := i) hok hl2 h4
      simp [-D.isLit, -hasS32G_at, skS4, ch, c1, c2, c3]
      exact hN _ (nx (m := (left.eraseIdx i).length) (s'' := skS4 n l j k a b c d e f g h (left.eraseIdx i) (.tuple #[.int .i32 u, .int .i64 v])) (snd_obs (n := 133) [(1, 1, .box (.agg [.lit (.int .i64 n), .sl 9 (l.map ERule.e)])), (4, 4, .box (.agg [.lit (.int .i64 k), .lit (.int .i64 a), .lit (.int .i64 b), .lit (.int .i64 c), .lit (.int .i64 d), eQ e f, eQ g h])), (43, 43, .mp 60 (sv .i32 (nmK k))), (62, 62, .mp itK (.tuple #[.int .i32 u, .int .i64 v] :: (left.eraseIdx i).map ent8))] rfl (by simp) (by simp [skS4])) ⟨left.eraseIdx i, _, rfl, sub8 i hsub, h5, rfl⟩ (by rw [List.length_eraseIdx, if_pos hmlt, hm]; omega))
    by_cases c4 : v = 0
    · subst c4
      have h4 : iOk8 n (nmK k) (u, 0) := ⟨by simp, by simp; omega, .inr rfl⟩
      have h5 := left8 (i := i) hok hl2 h4
      simp [-D.isLit, -hasS32G_at, skS4, ch, c2, c3]
      exact hN _ (nx (m := (left.eraseIdx i).length) (s'' := skS4 n l j k a b c d e f g h (left.eraseIdx i) (.tuple #[.int .i32 u, .int .i64 0])) (snd_obs (n := 133) [(1, 1, .box (.agg [.lit (.int .i64 n), .sl 9 (l.map ERule.e)])), (4, 4, .box (.agg [.lit (.int .i64 k), .lit (.int .i64 a), .lit (.int .i64 b), .lit (.int .i64 c), .lit (.int .i64 d), eQ e f, eQ g h])), (43, 43, .mp 60 (sv .i32 (nmK k))), (62, 62, .mp itK (.tuple #[.int .i32 u, .int .i64 0] :: (left.eraseIdx i).map ent8))] rfl (by simp) (by simp [skS4])) ⟨left.eraseIdx i, _, rfl, sub8 i hsub, h5, rfl⟩ (by rw [List.length_eraseIdx, if_pos hmlt, hm]; omega))
    · have hF := hF (fun h => by have := (h _ hmem).2.2; simp at this; rcases this with h | h; exact c3 h; exact c4 h)
      simp [-D.isLit, -hasS32G_at, skS4, ch, c1, c2, c3, c4]
      exact hF _ rfl
theorem klQ9 {d : Nat} (a b : Int) (h : I64 a ∧ I64 b) : Try.prog.keyLits (d + 2) 48 [.int .i64 a, .int .i64 b] = some [.int .i64 a, .int .i64 b] := klQ a b h
theorem ktQ9 : Try.prog.keyTypeAt 6 48 = true := by kernel_rfl
theorem egQ9 : Try.prog.eqGuardType Try.prog.depth 48 = false := by kernel_rfl
theorem eqPre_Q9 (a b c d : Int) (h1 : I64 a ∧ I64 b) (h2 : I64 c ∧ I64 d) : eqPre Try.prog 48 [.int .i64 a, .int .i64 b] [.int .i64 c, .int .i64 d] :=
  ⟨⟨_, Try.underlying48⟩, ⟨by simp, by simp⟩, ktQ9, egQ9, _, _, klQ9 a b h1, klQ9 c d h2, by simp⟩
def entQ (z : Int × Int × Int) : Value := .tuple #[.int .i32 z.1, .agg #[.int .i64 z.2.1, .int .i64 z.2.2]]
theorem entQ_at {left : List (Int × Int × Int)} {i : Nat} {kk vv : Value} (h : (left.map entQ)[i]? = some (.tuple ⟨[kk, vv]⟩)) : ∃ u v w, left[i]? = some (u, v, w) ∧ kk = .int .i32 u ∧ vv = .agg #[.int .i64 v, .int .i64 w] ∧ (left.map entQ).eraseIdx i = (left.eraseIdx i).map entQ := by
  rw [List.getElem?_map] at h
  cases hl : left[i]? with
  | none => rw [hl] at h; cases h
  | some e =>
    rw [hl] at h
    obtain ⟨u, v, w⟩ := e
    injection h with h
    unfold entQ at h
    injection h with h
    injection h with h
    injection h with h1 h
    injection h with h2 h
    exact ⟨u, v, w, rfl, h1.symm, h2.symm, (erase_map8 _ _).symm⟩
def skS6 (n : Int) (l : List RuleT) (j : Nat) (k a b c d e f g h : Int) (left : List (Int × Int × Int)) (cur : Value) : St := ⟨[.any, .obj 1 [] 0, .any, .any, .obj 4 [] 0, .any, .any, .mpx 43, .any, .any, .any, .any, .any, .any, .any, .any, .any, .any, .any, .any, .any, .any, .any, .any, .any, .any, .any, .any, .any, .dat (.sl 9 (l.map ERule.e)), .dat (.lit (.int .i64 l.length)), .dat (.lit (.int .i64 j)), .any, .any, .any, .any, .any, .any, .any, .any, .any, .any, .any, .any, .any, .any, .any, .any, .any, .any, .any, .any, .any, .any, .any, .any, .any, .any, .any, .any, .any, .any, .any, .any, .any, .any, .any, .any, .any, .any, .any, .any, .any, .any, .any, .any, .any, .any, .any, .any, .any, .any, .any, .any, .any, .any, .any, .any, .any, .any, .any, .any, .mpx 92, .any, .any, .any, .any, .any, .any, .any, .any, .any, .any, .any, .any, .any, .any, .any, .any, .any, .any, .any, .any, .any, .any, .any, .any, .any, .any, .any, .any, .any, .any, .any, .any, .any, .any, .any, .any, .any, .any, .any, .any], [none, some (.box (.agg [.lit (.int .i64 n), .sl 9 (l.map ERule.e)])), none, none, some (.box (.agg [.lit (.int .i64 k), .lit (.int .i64 a), .lit (.int .i64 b), .lit (.int .i64 c), .lit (.int .i64 d), eQ e f, eQ g h])), none, none, none, none, none, none, none, none, none, none, none, none, none, none, none, none, none, none, none, none, none, none, none, none, none, none, none, none, none, none, none, none, none, none, none, none, none, none, some (.mp 60 (sv .i32 (nmK k))), none, none, none, none, none, none, none, none, none, none, none, none, none, none, none, none, none, none, none, none, none, none, none, none, none, none, none, none, none, none, none, none, none, none, none, none, none, none, none, none, none, none, none, none, none, none, none, none, some (.mp itK (cur :: left.map entQ)), none, none, none, none, none, none, none, none, none, none, none, none, none, none, none, none, none, none, none, none, none, none, none, none, none, none, none, none, none, none, none, none, none, none, none, none, none, none, none, none]⟩
def skX6 (n : Int) (l : List RuleT) (j : Nat) (k a b c d e f g h : Int) (cur : Value) : St := ⟨[.any, .obj 1 [] 0, .any, .any, .obj 4 [] 0, .any, .any, .mpx 43, .any, .any, .any, .any, .any, .any, .any, .any, .any, .any, .any, .any, .any, .any, .any, .any, .any, .any, .any, .any, .any, .dat (.sl 9 (l.map ERule.e)), .dat (.lit (.int .i64 l.length)), .dat (.lit (.int .i64 j)), .any, .any, .any, .any, .any, .any, .any, .any, .any, .any, .any, .any, .any, .any, .any, .any, .any, .any, .any, .any, .any, .any, .any, .any, .any, .any, .any, .any, .any, .any, .any, .any, .any, .any, .any, .any, .any, .any, .any, .any, .any, .any, .any, .any, .any, .any, .any, .any, .any, .any, .any, .any, .any, .any, .any, .any, .any, .any, .any, .any, .mpx 92, .any, .dat (.lit (.bool false)), .any, .any, .any, .any, .any, .any, .any, .any, .any, .any, .any, .any, .any, .any, .any, .any, .any, .any, .any, .any, .any, .any, .any, .any, .any, .any, .any, .any, .any, .any, .any, .any, .any, .any, .any, .any, .any, .any], [none, some (.box (.agg [.lit (.int .i64 n), .sl 9 (l.map ERule.e)])), none, none, some (.box (.agg [.lit (.int .i64 k), .lit (.int .i64 a), .lit (.int .i64 b), .lit (.int .i64 c), .lit (.int .i64 d), eQ e f, eQ g h])), none, none, none, none, none, none, none, none, none, none, none, none, none, none, none, none, none, none, none, none, none, none, none, none, none, none, none, none, none, none, none, none, none, none, none, none, none, none, some (.mp 60 (sv .i32 (nmK k))), none, none, none, none, none, none, none, none, none, none, none, none, none, none, none, none, none, none, none, none, none, none, none, none, none, none, none, none, none, none, none, none, none, none, none, none, none, none, none, none, none, none, none, none, none, none, none, none, some (.mp itK [cur]), none, none, none, none, none, none, none, none, none, none, none, none, none, none, none, none, none, none, none, none, none, none, none, none, none, none, none, none, none, none, none, none, none, none, none, none, none, none, none, none]⟩
set_option maxRecDepth 100000 in
set_option maxHeartbeats 4000000 in
theorem sk_qs {K : Exit → St → Prop} (n : Int) (l : List RuleT) (j : Nat) (k a b c d e f g h : Int) (cur0 : Value) {st : St} (he64 : (I64 e ∧ I64 f) ∧ I64 g ∧ I64 h) (h0 : Snd st (skS6 n l j k a b c d e f g h (rQ8 (k, a, b, c, d, (e, f), g, h)) cur0)) (hT : (∀ z ∈ rQ8 (k, a, b, c, d, (e, f), g, h), qO8 (nmK k) z) → ∀ cur, K .normal (skX6 n l j k a b c d e f g h cur)) (hF : ¬ (∀ z ∈ rQ8 (k, a, b, c, d, (e, f), g, h), qO8 (nmK k) z) → ∀ s : St, s.get 2 = .dat (.lit (.bool false)) → K .ret s) : awp Try.prog skMf (tbl iSkTb) (.loop skL6) st (Kblk 6 K) := by
  simp only [skL6, skP1, skP0, Try.f8, Option.getD, sq1, sq2, inB, inL]
  have h64 : ∀ z ∈ rQ8 (k, a, b, c, d, (e, f), g, h), I64 z.2.1 ∧ I64 z.2.2 := by
    intro z hz
    unfold rQ8 at hz
    simp at hz
    rcases hz with rfl | rfl
    · exact he64.1
    · exact he64.2
  generalize hL : rQ8 (k, a, b, c, d, (e, f), g, h) = L at *
  have hrng : ∀ z ∈ L, RS32 z.1 := fun z hz => rQ_rng (r := (k, a, b, c, d, (e, f), g, h)) (hL ▸ hz)
  clear hL
  refine loop_go (fun m s => ∃ left cur, m = left.length ∧ (∀ z ∈ left, z ∈ L) ∧ (∀ z ∈ L, z ∉ left → qO8 (nmK k) z) ∧ s = skS6 n l j k a b c d e f g h left cur) (s0 := skS6 n l j k a b c d e f g h L cur0) (n := L.length) h0 ⟨L, cur0, rfl, fun z h => h, fun z h h' => absurd h h', rfl⟩ ?_
  rintro m s ⟨left, cur, hm, hsub, hok, rfl⟩ KN hN
  rw [w_seq]
  refine nx_at (o := 92) (c := cur) (left := left.map entQ) _ _ rfl rfl rfl rfl rfl rfl rfl (by kernel_rfl) (by kernel_rfl) (by simp [skS6]) (fun hnil => ?_) (fun i kk vv hl => ?_)
  · have hnil : left = [] := List.map_eq_nil_iff.1 hnil
    subst hnil
    have hT := hT (fun z hz => hok z hz (by simp)) cur
    simp [-D.isLit, skS6]
    exact hT
  · obtain ⟨u, v, w, hl2, rfl, rfl, her⟩ := entQ_at hl
    rw [her]
    have hmem := hsub _ (List.mem_of_getElem? hl2)
    have hmlt : i < left.length := (List.getElem?_eq_some_iff.1 hl2).1
    have r1 : RS32 u := hrng _ hmem
    have r2 : ∀ x ∈ nmK k, RS32 x := nm_rng k
    have ch := hasS32G_at (nmK k) u
    rw [eq_true (⟨r1, r2, nm_max k⟩ : RS32 u ∧ (∀ x ∈ nmK k, RS32 x) ∧ (nmK k).length ≤ maxLen)] at ch
    obtain ⟨i1, i2⟩ := h64 _ hmem
    have i1 : I64 v := i1
    have i2 : I64 w := i2
    have cq : qokC [.agg [.lit (.int .i64 v), .lit (.int .i64 w)]] = ((I64 v ∧ I64 w), [.lit (.bool (decide (qOk v w)))]) := qokC_at v w
    rw [eq_true (⟨i1, i2⟩ : I64 v ∧ I64 w)] at cq
    have ep := eqPre_Q9 v w 0 1 ⟨i1, i2⟩ (by unfold I64; omega)
    by_cases c1 : u ∈ nmK k
    · by_cases c2 : qOk v w
      · have h4 : qO8 (nmK k) (u, v, w) := by unfold qO8; rw [if_pos c1]; exact c2
        have h5 := left8 (i := i) hok hl2 h4
        simp [-D.isLit, -hasS32G_at, skS6, ch, c1, cq, c2]
        exact hN _ (nx (m := (left.eraseIdx i).length) (s'' := skS6 n l j k a b c d e f g h (left.eraseIdx i) (.tuple #[.int .i32 u, .agg #[.int .i64 v, .int .i64 w]])) (snd_obs (n := 133) [(1, 1, .box (.agg [.lit (.int .i64 n), .sl 9 (l.map ERule.e)])), (4, 4, .box (.agg [.lit (.int .i64 k), .lit (.int .i64 a), .lit (.int .i64 b), .lit (.int .i64 c), .lit (.int .i64 d), eQ e f, eQ g h])), (43, 43, .mp 60 (sv .i32 (nmK k))), (92, 92, .mp itK (.tuple #[.int .i32 u, .agg #[.int .i64 v, .int .i64 w]] :: (left.eraseIdx i).map entQ))] rfl (by simp) (by simp [skS6])) ⟨left.eraseIdx i, _, rfl, sub8 i hsub, h5, rfl⟩ (by rw [List.length_eraseIdx, if_pos hmlt, hm]; omega))
      · have hF := hF (fun h => by have := h _ hmem; unfold qO8 at this; rw [if_pos c1] at this; exact c2 this)
        simp [-D.isLit, -hasS32G_at, skS6, ch, c1, cq, c2]
        exact hF _ rfl
    · by_cases c2 : v = 0 ∧ w = 1
      · obtain ⟨rfl, rfl⟩ := c2
        have h4 : qO8 (nmK k) (u, 0, 1) := by unfold qO8; rw [if_neg c1]
        have h5 := left8 (i := i) hok hl2 h4
        simp [-D.isLit, -hasS32G_at, skS6, ch, c1, cq, ep]
        exact hN _ (nx (m := (left.eraseIdx i).length) (s'' := skS6 n l j k a b c d e f g h (left.eraseIdx i) (.tuple #[.int .i32 u, .agg #[.int .i64 0, .int .i64 1]])) (snd_obs (n := 133) [(1, 1, .box (.agg [.lit (.int .i64 n), .sl 9 (l.map ERule.e)])), (4, 4, .box (.agg [.lit (.int .i64 k), .lit (.int .i64 a), .lit (.int .i64 b), .lit (.int .i64 c), .lit (.int .i64 d), eQ e f, eQ g h])), (43, 43, .mp 60 (sv .i32 (nmK k))), (92, 92, .mp itK (.tuple #[.int .i32 u, .agg #[.int .i64 0, .int .i64 1]] :: (left.eraseIdx i).map entQ))] rfl (by simp) (by simp [skS6])) ⟨left.eraseIdx i, _, rfl, sub8 i hsub, h5, rfl⟩ (by rw [List.length_eraseIdx, if_pos hmlt, hm]; omega))
      · have hF := hF (fun h => by have := h _ hmem; unfold qO8 at this; rw [if_neg c1] at this; injection this with h1 h2; exact c2 ⟨h1, h2⟩)
        by_cases c3 : v = 0
        · have c4 : w ≠ 1 := fun h => c2 ⟨c3, h⟩
          subst c3
          simp [-D.isLit, -hasS32G_at, skS6, ch, c1, cq, ep, c4]
          exact hF _ rfl
        · simp [-D.isLit, -hasS32G_at, skS6, ch, c1, cq, ep, c3]
          exact hF _ rfl
end Go.Proofs.Ytojbfdkpelldoaa.Ae
