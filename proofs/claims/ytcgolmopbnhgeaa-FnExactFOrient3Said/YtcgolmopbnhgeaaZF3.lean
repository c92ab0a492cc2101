/- Of our texts what the law leans on, in the order in which they build: L00, M1, L0, L1, L2, L3, L4, L5, L6, L7, LA, L8, LB, L9, L10, L11, L12, M2, L13, L14, L15, L16, L20, L21, L22, L23, L24, L25, L26, L27, L28, L29, L30, L31, L32, L33, L34, L35, L36, L37, L38, L39, L40, L41, L50, L51, L52, L53, L54, L55, L56, L57, L58, L59, L60, L61, L62, Q1, L63, L64, S1, S2, L65, L66, L67, L68, L69, S3, L70, S4, S5, T1, T2, T3, T4, T5, Q2, T6, T30, T31, T65, T61, T62, T63. No condition. -/
import Derived.Test.YtcgolmopbnhgeaaZF2
import Derived.Laws.Strings
import Derived.Below
import Derived.OpenShut
set_option linter.unusedVariables false
set_option linter.unusedSimpArgs false
namespace Go.Proofs.Ytcgolmopbnhgeaa.Ae
open Go Go.RowKit
def gX (l : List X) (i : Nat) : X := l.getD i .any
def sX (l : List X) (i : Nat) (x : X) : List X := l.set i x
def gO (l : List (Option Ob)) (i : Nat) : Option Ob := l.getD i none
def sO (l : List (Option Ob)) (i : Nat) (x : Option Ob) : List (Option Ob) := l.set i x
def nX (n : Nat) : List X := List.replicate n .und
def nO (n : Nat) : List (Option Ob) := List.replicate n none
section
variable {r : List X} {q : List (Option Ob)} {z : X} {y : Option Ob}
@[simp] theorem gX0 {x0 : X} : gX (x0 :: r) 0 = x0 := rfl
@[simp] theorem sX0 {x0 : X} : sX (x0 :: r) 0 z = z :: r := rfl
@[simp] theorem gO0 {x0 : Option Ob} : gO (x0 :: q) 0 = x0 := rfl
@[simp] theorem sO0 {x0 : Option Ob} : sO (x0 :: q) 0 y = y :: q := rfl
@[simp] theorem nX0 : nX 0 = [] := rfl
@[simp] theorem nO0 : nO 0 = [] := rfl
@[simp] theorem gX1 {x0 x1 : X} : gX (x0 :: x1 :: r) 1 = x1 := rfl
@[simp] theorem sX1 {x0 x1 : X} : sX (x0 :: x1 :: r) 1 z = x0 :: z :: r := rfl
@[simp] theorem gO1 {x0 x1 : Option Ob} : gO (x0 :: x1 :: q) 1 = x1 := rfl
@[simp] theorem sO1 {x0 x1 : Option Ob} : sO (x0 :: x1 :: q) 1 y = x0 :: y :: q := rfl
@[simp] theorem nX1 : nX 1 = [.und] := rfl
@[simp] theorem nO1 : nO 1 = [none] := rfl
@[simp] theorem gX2 {x0 x1 x2 : X} : gX (x0 :: x1 :: x2 :: r) 2 = x2 := rfl
@[simp] theorem sX2 {x0 x1 x2 : X} : sX (x0 :: x1 :: x2 :: r) 2 z = x0 :: x1 :: z :: r := rfl
@[simp] theorem gO2 {x0 x1 x2 : Option Ob} : gO (x0 :: x1 :: x2 :: q) 2 = x2 := rfl
@[simp] theorem sO2 {x0 x1 x2 : Option Ob} : sO (x0 :: x1 :: x2 :: q) 2 y = x0 :: x1 :: y :: q := rfl
@[simp] theorem nX2 : nX 2 = [.und, .und] := rfl
@[simp] theorem nO2 : nO 2 = [none, none] := rfl
@[simp] theorem gX3 {x0 x1 x2 x3 : X} : gX (x0 :: x1 :: x2 :: x3 :: r) 3 = x3 := rfl
@[simp] theorem sX3 {x0 x1 x2 x3 : X} : sX (x0 :: x1 :: x2 :: x3 :: r) 3 z = x0 :: x1 :: x2 :: z :: r := rfl
@[simp] theorem gO3 {x0 x1 x2 x3 : Option Ob} : gO (x0 :: x1 :: x2 :: x3 :: q) 3 = x3 := rfl
@[simp] theorem sO3 {x0 x1 x2 x3 : Option Ob} : sO (x0 :: x1 :: x2 :: x3 :: q) 3 y = x0 :: x1 :: x2 :: y :: q := rfl
@[simp] theorem nX3 : nX 3 = [.und, .und, .und] := rfl
@[simp] theorem nO3 : nO 3 = [none, none, none] := rfl
@[simp] theorem gX4 {x0 x1 x2 x3 x4 : X} : gX (x0 :: x1 :: x2 :: x3 :: x4 :: r) 4 = x4 := rfl
@[simp] theorem sX4 {x0 x1 x2 x3 x4 : X} : sX (x0 :: x1 :: x2 :: x3 :: x4 :: r) 4 z = x0 :: x1 :: x2 :: x3 :: z :: r := rfl
@[simp] theorem gO4 {x0 x1 x2 x3 x4 : Option Ob} : gO (x0 :: x1 :: x2 :: x3 :: x4 :: q) 4 = x4 := rfl
@[simp] theorem sO4 {x0 x1 x2 x3 x4 : Option Ob} : sO (x0 :: x1 :: x2 :: x3 :: x4 :: q) 4 y = x0 :: x1 :: x2 :: x3 :: y :: q := rfl
@[simp] theorem nX4 : nX 4 = [.und, .und, .und, .und] := rfl
@[simp] theorem nO4 : nO 4 = [none, none, none, none] := rfl
@[simp] theorem gX5 {x0 x1 x2 x3 x4 x5 : X} : gX (x0 :: x1 :: x2 :: x3 :: x4 :: x5 :: r) 5 = x5 := rfl
@[simp] theorem sX5 {x0 x1 x2 x3 x4 x5 : X} : sX (x0 :: x1 :: x2 :: x3 :: x4 :: x5 :: r) 5 z = x0 :: x1 :: x2 :: x3 :: x4 :: z :: r := rfl
@[simp] theorem gO5 {x0 x1 x2 x3 x4 x5 : Option Ob} : gO (x0 :: x1 :: x2 :: x3 :: x4 :: x5 :: q) 5 = x5 := rfl
@[simp] theorem sO5 {x0 x1 x2 x3 x4 x5 : Option Ob} : sO (x0 :: x1 :: x2 :: x3 :: x4 :: x5 :: q) 5 y = x0 :: x1 :: x2 :: x3 :: x4 :: y :: q := rfl
@[simp] theorem nX5 : nX 5 = [.und, .und, .und, .und, .und] := rfl
@[simp] theorem nO5 : nO 5 = [none, none, none, none, none] := rfl
@[simp] theorem gX6 {x0 x1 x2 x3 x4 x5 x6 : X} : gX (x0 :: x1 :: x2 :: x3 :: x4 :: x5 :: x6 :: r) 6 = x6 := rfl
@[simp] theorem sX6 {x0 x1 x2 x3 x4 x5 x6 : X} : sX (x0 :: x1 :: x2 :: x3 :: x4 :: x5 :: x6 :: r) 6 z = x0 :: x1 :: x2 :: x3 :: x4 :: x5 :: z :: r := rfl
@[simp] theorem gO6 {x0 x1 x2 x3 x4 x5 x6 : Option Ob} : gO (x0 :: x1 :: x2 :: x3 :: x4 :: x5 :: x6 :: q) 6 = x6 := rfl
@[simp] theorem sO6 {x0 x1 x2 x3 x4 x5 x6 : Option Ob} : sO (x0 :: x1 :: x2 :: x3 :: x4 :: x5 :: x6 :: q) 6 y = x0 :: x1 :: x2 :: x3 :: x4 :: x5 :: y :: q := rfl
@[simp] theorem nX6 : nX 6 = [.und, .und, .und, .und, .und, .und] := rfl
@[simp] theorem nO6 : nO 6 = [none, none, none, none, none, none] := rfl
@[simp] theorem gX7 {x0 x1 x2 x3 x4 x5 x6 x7 : X} : gX (x0 :: x1 :: x2 :: x3 :: x4 :: x5 :: x6 :: x7 :: r) 7 = x7 := rfl
@[simp] theorem sX7 {x0 x1 x2 x3 x4 x5 x6 x7 : X} : sX (x0 :: x1 :: x2 :: x3 :: x4 :: x5 :: x6 :: x7 :: r) 7 z = x0 :: x1 :: x2 :: x3 :: x4 :: x5 :: x6 :: z :: r := rfl
@[simp] theorem gO7 {x0 x1 x2 x3 x4 x5 x6 x7 : Option Ob} : gO (x0 :: x1 :: x2 :: x3 :: x4 :: x5 :: x6 :: x7 :: q) 7 = x7 := rfl
@[simp] theorem sO7 {x0 x1 x2 x3 x4 x5 x6 x7 : Option Ob} : sO (x0 :: x1 :: x2 :: x3 :: x4 :: x5 :: x6 :: x7 :: q) 7 y = x0 :: x1 :: x2 :: x3 :: x4 :: x5 :: x6 :: y :: q := rfl
@[simp] theorem nX7 : nX 7 = [.und, .und, .und, .und, .und, .und, .und] := rfl
@[simp] theorem nO7 : nO 7 = [none, none, none, none, none, none, none] := rfl
@[simp] theorem gX8 {x0 x1 x2 x3 x4 x5 x6 x7 x8 : X} : gX (x0 :: x1 :: x2 :: x3 :: x4 :: x5 :: x6 :: x7 :: x8 :: r) 8 = x8 := rfl
@[simp] theorem sX8 {x0 x1 x2 x3 x4 x5 x6 x7 x8 : X} : sX (x0 :: x1 :: x2 :: x3 :: x4 :: x5 :: x6 :: x7 :: x8 :: r) 8 z = x0 :: x1 :: x2 :: x3 :: x4 :: x5 :: x6 :: x7 :: z :: r := rfl
@[simp] theorem gO8 {x0 x1 x2 x3 x4 x5 x6 x7 x8 : Option Ob} : gO (x0 :: x1 :: x2 :: x3 :: x4 :: x5 :: x6 :: x7 :: x8 :: q) 8 = x8 := rfl
@[simp] theorem sO8 {x0 x1 x2 x3 x4 x5 x6 x7 x8 : Option Ob} : sO (x0 :: x1 :: x2 :: x3 :: x4 :: x5 :: x6 :: x7 :: x8 :: q) 8 y = x0 :: x1 :: x2 :: x3 :: x4 :: x5 :: x6 :: x7 :: y :: q := rfl
@[simp] theorem nX8 : nX 8 = [.und, .und, .und, .und, .und, .und, .und, .und] := rfl
@[simp] theorem nO8 : nO 8 = [none, none, none, none, none, none, none, none] := rfl
@[simp] theorem gX9 {x0 x1 x2 x3 x4 x5 x6 x7 x8 x9 : X} : gX (x0 :: x1 :: x2 :: x3 :: x4 :: x5 :: x6 :: x7 :: x8 :: x9 :: r) 9 = x9 := rfl
@[simp] theorem sX9 {x0 x1 x2 x3 x4 x5 x6 x7 x8 x9 : X} : sX (x0 :: x1 :: x2 :: x3 :: x4 :: x5 :: x6 :: x7 :: x8 :: x9 :: r) 9 z = x0 :: x1 :: x2 :: x3 :: x4 :: x5 :: x6 :: x7 :: x8 :: z :: r := rfl
@[simp] theorem gO9 {x0 x1 x2 x3 x4 x5 x6 x7 x8 x9 : Option Ob} : gO (x0 :: x1 :: x2 :: x3 :: x4 :: x5 :: x6 :: x7 :: x8 :: x9 :: q) 9 = x9 := rfl
@[simp] theorem sO9 {x0 x1 x2 x3 x4 x5 x6 x7 x8 x9 : Option Ob} : sO (x0 :: x1 :: x2 :: x3 :: x4 :: x5 :: x6 :: x7 :: x8 :: x9 :: q) 9 y = x0 :: x1 :: x2 :: x3 :: x4 :: x5 :: x6 :: x7 :: x8 :: y :: q := rfl
@[simp] theorem nX9 : nX 9 = [.und, .und, .und, .und, .und, .und, .und, .und, .und] := rfl
@[simp] theorem nO9 : nO 9 = [none, none, none, none, none, none, none, none, none] := rfl
@[simp] theorem gX10 {x0 x1 x2 x3 x4 x5 x6 x7 x8 x9 x10 : X} : gX (x0 :: x1 :: x2 :: x3 :: x4 :: x5 :: x6 :: x7 :: x8 :: x9 :: x10 :: r) 10 = x10 := rfl
@[simp] theorem sX10 {x0 x1 x2 x3 x4 x5 x6 x7 x8 x9 x10 : X} : sX (x0 :: x1 :: x2 :: x3 :: x4 :: x5 :: x6 :: x7 :: x8 :: x9 :: x10 :: r) 10 z = x0 :: x1 :: x2 :: x3 :: x4 :: x5 :: x6 :: x7 :: x8 :: x9 :: z :: r := rfl
@[simp] theorem gO10 {x0 x1 x2 x3 x4 x5 x6 x7 x8 x9 x10 : Option Ob} : gO (x0 :: x1 :: x2 :: x3 :: x4 :: x5 :: x6 :: x7 :: x8 :: x9 :: x10 :: q) 10 = x10 := rfl
@[simp] theorem sO10 {x0 x1 x2 x3 x4 x5 x6 x7 x8 x9 x10 : Option Ob} : sO (x0 :: x1 :: x2 :: x3 :: x4 :: x5 :: x6 :: x7 :: x8 :: x9 :: x10 :: q) 10 y = x0 :: x1 :: x2 :: x3 :: x4 :: x5 :: x6 :: x7 :: x8 :: x9 :: y :: q := rfl
@[simp] theorem nX10 : nX 10 = [.und, .und, .und, .und, .und, .und, .und, .und, .und, .und] := rfl
@[simp] theorem nO10 : nO 10 = [none, none, none, none, none, none, none, none, none, none] := rfl
@[simp] theorem gX11 {x0 x1 x2 x3 x4 x5 x6 x7 x8 x9 x10 x11 : X} : gX (x0 :: x1 :: x2 :: x3 :: x4 :: x5 :: x6 :: x7 :: x8 :: x9 :: x10 :: x11 :: r) 11 = x11 := rfl
@[simp] theorem sX11 {x0 x1 x2 x3 x4 x5 x6 x7 x8 x9 x10 x11 : X} : sX (x0 :: x1 :: x2 :: x3 :: x4 :: x5 :: x6 :: x7 :: x8 :: x9 :: x10 :: x11 :: r) 11 z = x0 :: x1 :: x2 :: x3 :: x4 :: x5 :: x6 :: x7 :: x8 :: x9 :: x10 :: z :: r := rfl
@[simp] theorem gO11 {x0 x1 x2 x3 x4 x5 x6 x7 x8 x9 x10 x11 : Option Ob} : gO (x0 :: x1 :: x2 :: x3 :: x4 :: x5 :: x6 :: x7 :: x8 :: x9 :: x10 :: x11 :: q) 11 = x11 := rfl
@[simp] theorem sO11 {x0 x1 x2 x3 x4 x5 x6 x7 x8 x9 x10 x11 : Option Ob} : sO (x0 :: x1 :: x2 :: x3 :: x4 :: x5 :: x6 :: x7 :: x8 :: x9 :: x10 :: x11 :: q) 11 y = x0 :: x1 :: x2 :: x3 :: x4 :: x5 :: x6 :: x7 :: x8 :: x9 :: x10 :: y :: q := rfl
@[simp] theorem nX11 : nX 11 = [.und, .und, .und, .und, .und, .und, .und, .und, .und, .und, .und] := rfl
@[simp] theorem nO11 : nO 11 = [none, none, none, none, none, none, none, none, none, none, none] := rfl
@[simp] theorem gX12 {x0 x1 x2 x3 x4 x5 x6 x7 x8 x9 x10 x11 x12 : X} : gX (x0 :: x1 :: x2 :: x3 :: x4 :: x5 :: x6 :: x7 :: x8 :: x9 :: x10 :: x11 :: x12 :: r) 12 = x12 := rfl
@[simp] theorem sX12 {x0 x1 x2 x3 x4 x5 x6 x7 x8 x9 x10 x11 x12 : X} : sX (x0 :: x1 :: x2 :: x3 :: x4 :: x5 :: x6 :: x7 :: x8 :: x9 :: x10 :: x11 :: x12 :: r) 12 z = x0 :: x1 :: x2 :: x3 :: x4 :: x5 :: x6 :: x7 :: x8 :: x9 :: x10 :: x11 :: z :: r := rfl
@[simp] theorem gO12 {x0 x1 x2 x3 x4 x5 x6 x7 x8 x9 x10 x11 x12 : Option Ob} : gO (x0 :: x1 :: x2 :: x3 :: x4 :: x5 :: x6 :: x7 :: x8 :: x9 :: x10 :: x11 :: x12 :: q) 12 = x12 := rfl
@[simp] theorem sO12 {x0 x1 x2 x3 x4 x5 x6 x7 x8 x9 x10 x11 x12 : Option Ob} : sO (x0 :: x1 :: x2 :: x3 :: x4 :: x5 :: x6 :: x7 :: x8 :: x9 :: x10 :: x11 :: x12 :: q) 12 y = x0 :: x1 :: x2 :: x3 :: x4 :: x5 :: x6 :: x7 :: x8 :: x9 :: x10 :: x11 :: y :: q := rfl
@[simp] theorem nX12 : nX 12 = [.und, .und, .und, .und, .und, .und, .und, .und, .und, .und, .und, .und] := rfl
@[simp] theorem nO12 : nO 12 = [none, none, none, none, none, none, none, none, none, none, none, none] := rfl
@[simp] theorem gX13 {x0 x1 x2 x3 x4 x5 x6 x7 x8 x9 x10 x11 x12 x13 : X} : gX (x0 :: x1 :: x2 :: x3 :: x4 :: x5 :: x6 :: x7 :: x8 :: x9 :: x10 :: x11 :: x12 :: x13 :: r) 13 = x13 := rfl
@[simp] theorem sX13 {x0 x1 x2 x3 x4 x5 x6 x7 x8 x9 x10 x11 x12 x13 : X} : sX (x0 :: x1 :: x2 :: x3 :: x4 :: x5 :: x6 :: x7 :: x8 :: x9 :: x10 :: x11 :: x12 :: x13 :: r) 13 z = x0 :: x1 :: x2 :: x3 :: x4 :: x5 :: x6 :: x7 :: x8 :: x9 :: x10 :: x11 :: x12 :: z :: r := rfl
@[simp] theorem gO13 {x0 x1 x2 x3 x4 x5 x6 x7 x8 x9 x10 x11 x12 x13 : Option Ob} : gO (x0 :: x1 :: x2 :: x3 :: x4 :: x5 :: x6 :: x7 :: x8 :: x9 :: x10 :: x11 :: x12 :: x13 :: q) 13 = x13 := rfl
@[simp] theorem sO13 {x0 x1 x2 x3 x4 x5 x6 x7 x8 x9 x10 x11 x12 x13 : Option Ob} : sO (x0 :: x1 :: x2 :: x3 :: x4 :: x5 :: x6 :: x7 :: x8 :: x9 :: x10 :: x11 :: x12 :: x13 :: q) 13 y = x0 :: x1 :: x2 :: x3 :: x4 :: x5 :: x6 :: x7 :: x8 :: x9 :: x10 :: x11 :: x12 :: y :: q := rfl
@[simp] theorem nX13 : nX 13 = [.und, .und, .und, .und, .und, .und, .und, .und, .und, .und, .und, .und, .und] := rfl
@[simp] theorem nO13 : nO 13 = [none, none, none, none, none, none, none, none, none, none, none, none, none] := rfl
@[simp] theorem gX14 {x0 x1 x2 x3 x4 x5 x6 x7 x8 x9 x10 x11 x12 x13 x14 : X} : gX (x0 :: x1 :: x2 :: x3 :: x4 :: x5 :: x6 :: x7 :: x8 :: x9 :: x10 :: x11 :: x12 :: x13 :: x14 :: r) 14 = x14 := rfl
@[simp] theorem sX14 {x0 x1 x2 x3 x4 x5 x6 x7 x8 x9 x10 x11 x12 x13 x14 : X} : sX (x0 :: x1 :: x2 :: x3 :: x4 :: x5 :: x6 :: x7 :: x8 :: x9 :: x10 :: x11 :: x12 :: x13 :: x14 :: r) 14 z = x0 :: x1 :: x2 :: x3 :: x4 :: x5 :: x6 :: x7 :: x8 :: x9 :: x10 :: x11 :: x12 :: x13 :: z :: r := rfl
@[simp] theorem gO14 {x0 x1 x2 x3 x4 x5 x6 x7 x8 x9 x10 x11 x12 x13 x14 : Option Ob} : gO (x0 :: x1 :: x2 :: x3 :: x4 :: x5 :: x6 :: x7 :: x8 :: x9 :: x10 :: x11 :: x12 :: x13 :: x14 :: q) 14 = x14 := rfl
@[simp] theorem sO14 {x0 x1 x2 x3 x4 x5 x6 x7 x8 x9 x10 x11 x12 x13 x14 : Option Ob} : sO (x0 :: x1 :: x2 :: x3 :: x4 :: x5 :: x6 :: x7 :: x8 :: x9 :: x10 :: x11 :: x12 :: x13 :: x14 :: q) 14 y = x0 :: x1 :: x2 :: x3 :: x4 :: x5 :: x6 :: x7 :: x8 :: x9 :: x10 :: x11 :: x12 :: x13 :: y :: q := rfl
@[simp] theorem nX14 : nX 14 = [.und, .und, .und, .und, .und, .und, .und, .und, .und, .und, .und, .und, .und, .und] := rfl
@[simp] theorem nO14 : nO 14 = [none, none, none, none, none, none, none, none, none, none, none, none, none, none] := rfl
@[simp] theorem gX15 {x0 x1 x2 x3 x4 x5 x6 x7 x8 x9 x10 x11 x12 x13 x14 x15 : X} : gX (x0 :: x1 :: x2 :: x3 :: x4 :: x5 :: x6 :: x7 :: x8 :: x9 :: x10 :: x11 :: x12 :: x13 :: x14 :: x15 :: r) 15 = x15 := rfl
@[simp] theorem sX15 {x0 x1 x2 x3 x4 x5 x6 x7 x8 x9 x10 x11 x12 x13 x14 x15 : X} : sX (x0 :: x1 :: x2 :: x3 :: x4 :: x5 :: x6 :: x7 :: x8 :: x9 :: x10 :: x11 :: x12 :: x13 :: x14 :: x15 :: r) 15 z = x0 :: x1 :: x2 :: x3 :: x4 :: x5 :: x6 :: x7 :: x8 :: x9 :: x10 :: x11 :: x12 :: x13 :: x14 :: z :: r := rfl
@[simp] theorem gO15 {x0 x1 x2 x3 x4 x5 x6 x7 x8 x9 x10 x11 x12 x13 x14 x15 : Option Ob} : gO (x0 :: x1 :: x2 :: x3 :: x4 :: x5 :: x6 :: x7 :: x8 :: x9 :: x10 :: x11 :: x12 :: x13 :: x14 :: x15 :: q) 15 = x15 := rfl
@[simp] theorem sO15 {x0 x1 x2 x3 x4 x5 x6 x7 x8 x9 x10 x11 x12 x13 x14 x15 : Option Ob} : sO (x0 :: x1 :: x2 :: x3 :: x4 :: x5 :: x6 :: x7 :: x8 :: x9 :: x10 :: x11 :: x12 :: x13 :: x14 :: x15 :: q) 15 y = x0 :: x1 :: x2 :: x3 :: x4 :: x5 :: x6 :: x7 :: x8 :: x9 :: x10 :: x11 :: x12 :: x13 :: x14 :: y :: q := rfl
@[simp] theorem nX15 : nX 15 = [.und, .und, .und, .und, .und, .und, .und, .und, .und, .und, .und, .und, .und, .und, .und] := rfl
@[simp] theorem nO15 : nO 15 = [none, none, none, none, none, none, none, none, none, none, none, none, none, none, none] := rfl
@[simp] theorem gX16 {x0 x1 x2 x3 x4 x5 x6 x7 x8 x9 x10 x11 x12 x13 x14 x15 x16 : X} : gX (x0 :: x1 :: x2 :: x3 :: x4 :: x5 :: x6 :: x7 :: x8 :: x9 :: x10 :: x11 :: x12 :: x13 :: x14 :: x15 :: x16 :: r) 16 = x16 := rfl
@[simp] theorem sX16 {x0 x1 x2 x3 x4 x5 x6 x7 x8 x9 x10 x11 x12 x13 x14 x15 x16 : X} : sX (x0 :: x1 :: x2 :: x3 :: x4 :: x5 :: x6 :: x7 :: x8 :: x9 :: x10 :: x11 :: x12 :: x13 :: x14 :: x15 :: x16 :: r) 16 z = x0 :: x1 :: x2 :: x3 :: x4 :: x5 :: x6 :: x7 :: x8 :: x9 :: x10 :: x11 :: x12 :: x13 :: x14 :: x15 :: z :: r := rfl
@[simp] theorem gO16 {x0 x1 x2 x3 x4 x5 x6 x7 x8 x9 x10 x11 x12 x13 x14 x15 x16 : Option Ob} : gO (x0 :: x1 :: x2 :: x3 :: x4 :: x5 :: x6 :: x7 :: x8 :: x9 :: x10 :: x11 :: x12 :: x13 :: x14 :: x15 :: x16 :: q) 16 = x16 := rfl
@[simp] theorem sO16 {x0 x1 x2 x3 x4 x5 x6 x7 x8 x9 x10 x11 x12 x13 x14 x15 x16 : Option Ob} : sO (x0 :: x1 :: x2 :: x3 :: x4 :: x5 :: x6 :: x7 :: x8 :: x9 :: x10 :: x11 :: x12 :: x13 :: x14 :: x15 :: x16 :: q) 16 y = x0 :: x1 :: x2 :: x3 :: x4 :: x5 :: x6 :: x7 :: x8 :: x9 :: x10 :: x11 :: x12 :: x13 :: x14 :: x15 :: y :: q := rfl
@[simp] theorem nX16 : nX 16 = [.und, .und, .und, .und, .und, .und, .und, .und, .und, .und, .und, .und, .und, .und, .und, .und] := rfl
@[simp] theorem nO16 : nO 16 = [none, none, none, none, none, none, none, none, none, none, none, none, none, none, none, none] := rfl
@[simp] theorem gX17 {x0 x1 x2 x3 x4 x5 x6 x7 x8 x9 x10 x11 x12 x13 x14 x15 x16 x17 : X} : gX (x0 :: x1 :: x2 :: x3 :: x4 :: x5 :: x6 :: x7 :: x8 :: x9 :: x10 :: x11 :: x12 :: x13 :: x14 :: x15 :: x16 :: x17 :: r) 17 = x17 := rfl
@[simp] theorem sX17 {x0 x1 x2 x3 x4 x5 x6 x7 x8 x9 x10 x11 x12 x13 x14 x15 x16 x17 : X} : sX (x0 :: x1 :: x2 :: x3 :: x4 :: x5 :: x6 :: x7 :: x8 :: x9 :: x10 :: x11 :: x12 :: x13 :: x14 :: x15 :: x16 :: x17 :: r) 17 z = x0 :: x1 :: x2 :: x3 :: x4 :: x5 :: x6 :: x7 :: x8 :: x9 :: x10 :: x11 :: x12 :: x13 :: x14 :: x15 :: x16 :: z :: r := rfl
@[simp] theorem gO17 {x0 x1 x2 x3 x4 x5 x6 x7 x8 x9 x10 x11 x12 x13 x14 x15 x16 x17 : Option Ob} : gO (x0 :: x1 :: x2 :: x3 :: x4 :: x5 :: x6 :: x7 :: x8 :: x9 :: x10 :: x11 :: x12 :: x13 :: x14 :: x15 :: x16 :: x17 :: q) 17 = x17 := rfl
@[simp] theorem sO17 {x0 x1 x2 x3 x4 x5 x6 x7 x8 x9 x10 x11 x12 x13 x14 x15 x16 x17 : Option Ob} : sO (x0 :: x1 :: x2 :: x3 :: x4 :: x5 :: x6 :: x7 :: x8 :: x9 :: x10 :: x11 :: x12 :: x13 :: x14 :: x15 :: x16 :: x17 :: q) 17 y = x0 :: x1 :: x2 :: x3 :: x4 :: x5 :: x6 :: x7 :: x8 :: x9 :: x10 :: x11 :: x12 :: x13 :: x14 :: x15 :: x16 :: y :: q := rfl
@[simp] theorem nX17 : nX 17 = [.und, .und, .und, .und, .und, .und, .und, .und, .und, .und, .und, .und, .und, .und, .und, .und, .und] := rfl
@[simp] theorem nO17 : nO 17 = [none, none, none, none, none, none, none, none, none, none, none, none, none, none, none, none, none] := rfl
@[simp] theorem gX18 {x0 x1 x2 x3 x4 x5 x6 x7 x8 x9 x10 x11 x12 x13 x14 x15 x16 x17 x18 : X} : gX (x0 :: x1 :: x2 :: x3 :: x4 :: x5 :: x6 :: x7 :: x8 :: x9 :: x10 :: x11 :: x12 :: x13 :: x14 :: x15 :: x16 :: x17 :: x18 :: r) 18 = x18 := rfl
@[simp] theorem sX18 {x0 x1 x2 x3 x4 x5 x6 x7 x8 x9 x10 x11 x12 x13 x14 x15 x16 x17 x18 : X} : sX (x0 :: x1 :: x2 :: x3 :: x4 :: x5 :: x6 :: x7 :: x8 :: x9 :: x10 :: x11 :: x12 :: x13 :: x14 :: x15 :: x16 :: x17 :: x18 :: r) 18 z = x0 :: x1 :: x2 :: x3 :: x4 :: x5 :: x6 :: x7 :: x8 :: x9 :: x10 :: x11 :: x12 :: x13 :: x14 :: x15 :: x16 :: x17 :: z :: r := rfl
@[simp] theorem gO18 {x0 x1 x2 x3 x4 x5 x6 x7 x8 x9 x10 x11 x12 x13 x14 x15 x16 x17 x18 : Option Ob} : gO (x0 :: x1 :: x2 :: x3 :: x4 :: x5 :: x6 :: x7 :: x8 :: x9 :: x10 :: x11 :: x12 :: x13 :: x14 :: x15 :: x16 :: x17 :: x18 :: q) 18 = x18 := rfl
@[simp] theorem sO18 {x0 x1 x2 x3 x4 x5 x6 x7 x8 x9 x10 x11 x12 x13 x14 x15 x16 x17 x18 : Option Ob} : sO (x0 :: x1 :: x2 :: x3 :: x4 :: x5 :: x6 :: x7 :: x8 :: x9 :: x10 :: x11 :: x12 :: x13 :: x14 :: x15 :: x16 :: x17 :: x18 :: q) 18 y = x0 :: x1 :: x2 :: x3 :: x4 :: x5 :: x6 :: x7 :: x8 :: x9 :: x10 :: x11 :: x12 :: x13 :: x14 :: x15 :: x16 :: x17 :: y :: q := rfl
@[simp] theorem nX18 : nX 18 = [.und, .und, .und, .und, .und, .und, .und, .und, .und, .und, .und, .und, .und, .und, .und, .und, .und, .und] := rfl
@[simp] theorem nO18 : nO 18 = [none, none, none, none, none, none, none, none, none, none, none, none, none, none, none, none, none, none] := rfl
@[simp] theorem gX19 {x0 x1 x2 x3 x4 x5 x6 x7 x8 x9 x10 x11 x12 x13 x14 x15 x16 x17 x18 x19 : X} : gX (x0 :: x1 :: x2 :: x3 :: x4 :: x5 :: x6 :: x7 :: x8 :: x9 :: x10 :: x11 :: x12 :: x13 :: x14 :: x15 :: x16 :: x17 :: x18 :: x19 :: r) 19 = x19 := rfl
@[simp] theorem sX19 {x0 x1 x2 x3 x4 x5 x6 x7 x8 x9 x10 x11 x12 x13 x14 x15 x16 x17 x18 x19 : X} : sX (x0 :: x1 :: x2 :: x3 :: x4 :: x5 :: x6 :: x7 :: x8 :: x9 :: x10 :: x11 :: x12 :: x13 :: x14 :: x15 :: x16 :: x17 :: x18 :: x19 :: r) 19 z = x0 :: x1 :: x2 :: x3 :: x4 :: x5 :: x6 :: x7 :: x8 :: x9 :: x10 :: x11 :: x12 :: x13 :: x14 :: x15 :: x16 :: x17 :: x18 :: z :: r := rfl
@[simp] theorem gO19 {x0 x1 x2 x3 x4 x5 x6 x7 x8 x9 x10 x11 x12 x13 x14 x15 x16 x17 x18 x19 : Option Ob} : gO (x0 :: x1 :: x2 :: x3 :: x4 :: x5 :: x6 :: x7 :: x8 :: x9 :: x10 :: x11 :: x12 :: x13 :: x14 :: x15 :: x16 :: x17 :: x18 :: x19 :: q) 19 = x19 := rfl
@[simp] theorem sO19 {x0 x1 x2 x3 x4 x5 x6 x7 x8 x9 x10 x11 x12 x13 x14 x15 x16 x17 x18 x19 : Option Ob} : sO (x0 :: x1 :: x2 :: x3 :: x4 :: x5 :: x6 :: x7 :: x8 :: x9 :: x10 :: x11 :: x12 :: x13 :: x14 :: x15 :: x16 :: x17 :: x18 :: x19 :: q) 19 y = x0 :: x1 :: x2 :: x3 :: x4 :: x5 :: x6 :: x7 :: x8 :: x9 :: x10 :: x11 :: x12 :: x13 :: x14 :: x15 :: x16 :: x17 :: x18 :: y :: q := rfl
@[simp] theorem nX19 : nX 19 = [.und, .und, .und, .und, .und, .und, .und, .und, .und, .und, .und, .und, .und, .und, .und, .und, .und, .und, .und] := rfl
@[simp] theorem nO19 : nO 19 = [none, none, none, none, none, none, none, none, none, none, none, none, none, none, none, none, none, none, none] := rfl
@[simp] theorem gX20 {x0 x1 x2 x3 x4 x5 x6 x7 x8 x9 x10 x11 x12 x13 x14 x15 x16 x17 x18 x19 x20 : X} : gX (x0 :: x1 :: x2 :: x3 :: x4 :: x5 :: x6 :: x7 :: x8 :: x9 :: x10 :: x11 :: x12 :: x13 :: x14 :: x15 :: x16 :: x17 :: x18 :: x19 :: x20 :: r) 20 = x20 := rfl
@[simp] theorem sX20 {x0 x1 x2 x3 x4 x5 x6 x7 x8 x9 x10 x11 x12 x13 x14 x15 x16 x17 x18 x19 x20 : X} : sX (x0 :: x1 :: x2 :: x3 :: x4 :: x5 :: x6 :: x7 :: x8 :: x9 :: x10 :: x11 :: x12 :: x13 :: x14 :: x15 :: x16 :: x17 :: x18 :: x19 :: x20 :: r) 20 z = x0 :: x1 :: x2 :: x3 :: x4 :: x5 :: x6 :: x7 :: x8 :: x9 :: x10 :: x11 :: x12 :: x13 :: x14 :: x15 :: x16 :: x17 :: x18 :: x19 :: z :: r := rfl
@[simp] theorem gO20 {x0 x1 x2 x3 x4 x5 x6 x7 x8 x9 x10 x11 x12 x13 x14 x15 x16 x17 x18 x19 x20 : Option Ob} : gO (x0 :: x1 :: x2 :: x3 :: x4 :: x5 :: x6 :: x7 :: x8 :: x9 :: x10 :: x11 :: x12 :: x13 :: x14 :: x15 :: x16 :: x17 :: x18 :: x19 :: x20 :: q) 20 = x20 := rfl
@[simp] theorem sO20 {x0 x1 x2 x3 x4 x5 x6 x7 x8 x9 x10 x11 x12 x13 x14 x15 x16 x17 x18 x19 x20 : Option Ob} : sO (x0 :: x1 :: x2 :: x3 :: x4 :: x5 :: x6 :: x7 :: x8 :: x9 :: x10 :: x11 :: x12 :: x13 :: x14 :: x15 :: x16 :: x17 :: x18 :: x19 :: x20 :: q) 20 y = x0 :: x1 :: x2 :: x3 :: x4 :: x5 :: x6 :: x7 :: x8 :: x9 :: x10 :: x11 :: x12 :: x13 :: x14 :: x15 :: x16 :: x17 :: x18 :: x19 :: y :: q := rfl
@[simp] theorem nX20 : nX 20 = [.und, .und, .und, .und, .und, .und, .und, .und, .und, .und, .und, .und, .und, .und, .und, .und, .und, .und, .und, .und] := rfl
@[simp] theorem nO20 : nO 20 = [none, none, none, none, none, none, none, none, none, none, none, none, none, none, none, none, none, none, none, none] := rfl
@[simp] theorem gX21 {x0 x1 x2 x3 x4 x5 x6 x7 x8 x9 x10 x11 x12 x13 x14 x15 x16 x17 x18 x19 x20 x21 : X} : gX (x0 :: x1 :: x2 :: x3 :: x4 :: x5 :: x6 :: x7 :: x8 :: x9 :: x10 :: x11 :: x12 :: x13 :: x14 :: x15 :: x16 :: x17 :: x18 :: x19 :: x20 :: x21 :: r) 21 = x21 := rfl
@[simp] theorem sX21 {x0 x1 x2 x3 x4 x5 x6 x7 x8 x9 x10 x11 x12 x13 x14 x15 x16 x17 x18 x19 x20 x21 : X} : sX (x0 :: x1 :: x2 :: x3 :: x4 :: x5 :: x6 :: x7 :: x8 :: x9 :: x10 :: x11 :: x12 :: x13 :: x14 :: x15 :: x16 :: x17 :: x18 :: x19 :: x20 :: x21 :: r) 21 z = x0 :: x1 :: x2 :: x3 :: x4 :: x5 :: x6 :: x7 :: x8 :: x9 :: x10 :: x11 :: x12 :: x13 :: x14 :: x15 :: x16 :: x17 :: x18 :: x19 :: x20 :: z :: r := rfl
@[simp] theorem gO21 {x0 x1 x2 x3 x4 x5 x6 x7 x8 x9 x10 x11 x12 x13 x14 x15 x16 x17 x18 x19 x20 x21 : Option Ob} : gO (x0 :: x1 :: x2 :: x3 :: x4 :: x5 :: x6 :: x7 :: x8 :: x9 :: x10 :: x11 :: x12 :: x13 :: x14 :: x15 :: x16 :: x17 :: x18 :: x19 :: x20 :: x21 :: q) 21 = x21 := rfl
@[simp] theorem sO21 {x0 x1 x2 x3 x4 x5 x6 x7 x8 x9 x10 x11 x12 x13 x14 x15 x16 x17 x18 x19 x20 x21 : Option Ob} : sO (x0 :: x1 :: x2 :: x3 :: x4 :: x5 :: x6 :: x7 :: x8 :: x9 :: x10 :: x11 :: x12 :: x13 :: x14 :: x15 :: x16 :: x17 :: x18 :: x19 :: x20 :: x21 :: q) 21 y = x0 :: x1 :: x2 :: x3 :: x4 :: x5 :: x6 :: x7 :: x8 :: x9 :: x10 :: x11 :: x12 :: x13 :: x14 :: x15 :: x16 :: x17 :: x18 :: x19 :: x20 :: y :: q := rfl
@[simp] theorem nX21 : nX 21 = [.und, .und, .und, .und, .und, .und, .und, .und, .und, .und, .und, .und, .und, .und, .und, .und, .und, .und, .und, .und, .und] := rfl
@[simp] theorem nO21 : nO 21 = [none, none, none, none, none, none, none, none, none, none, none, none, none, none, none, none, none, none, none, none, none] := rfl
@[simp] theorem gX22 {x0 x1 x2 x3 x4 x5 x6 x7 x8 x9 x10 x11 x12 x13 x14 x15 x16 x17 x18 x19 x20 x21 x22 : X} : gX (x0 :: x1 :: x2 :: x3 :: x4 :: x5 :: x6 :: x7 :: x8 :: x9 :: x10 :: x11 :: x12 :: x13 :: x14 :: x15 :: x16 :: x17 :: x18 :: x19 :: x20 :: x21 :: x22 :: r) 22 = x22 := rfl
@[simp] theorem sX22 {x0 x1 x2 x3 x4 x5 x6 x7 x8 x9 x10 x11 x12 x13 x14 x15 x16 x17 x18 x19 x20 x21 x22 : X} : sX (x0 :: x1 :: x2 :: x3 :: x4 :: x5 :: x6 :: x7 :: x8 :: x9 :: x10 :: x11 :: x12 :: x13 :: x14 :: x15 :: x16 :: x17 :: x18 :: x19 :: x20 :: x21 :: x22 :: r) 22 z = x0 :: x1 :: x2 :: x3 :: x4 :: x5 :: x6 :: x7 :: x8 :: x9 :: x10 :: x11 :: x12 :: x13 :: x14 :: x15 :: x16 :: x17 :: x18 :: x19 :: x20 :: x21 :: z :: r := rfl
@[simp] theorem gO22 {x0 x1 x2 x3 x4 x5 x6 x7 x8 x9 x10 x11 x12 x13 x14 x15 x16 x17 x18 x19 x20 x21 x22 : Option Ob} : gO (x0 :: x1 :: x2 :: x3 :: x4 :: x5 :: x6 :: x7 :: x8 :: x9 :: x10 :: x11 :: x12 :: x13 :: x14 :: x15 :: x16 :: x17 :: x18 :: x19 :: x20 :: x21 :: x22 :: q) 22 = x22 := rfl
@[simp] theorem sO22 {x0 x1 x2 x3 x4 x5 x6 x7 x8 x9 x10 x11 x12 x13 x14 x15 x16 x17 x18 x19 x20 x21 x22 : Option Ob} : sO (x0 :: x1 :: x2 :: x3 :: x4 :: x5 :: x6 :: x7 :: x8 :: x9 :: x10 :: x11 :: x12 :: x13 :: x14 :: x15 :: x16 :: x17 :: x18 :: x19 :: x20 :: x21 :: x22 :: q) 22 y = x0 :: x1 :: x2 :: x3 :: x4 :: x5 :: x6 :: x7 :: x8 :: x9 :: x10 :: x11 :: x12 :: x13 :: x14 :: x15 :: x16 :: x17 :: x18 :: x19 :: x20 :: x21 :: y :: q := rfl
@[simp] theorem nX22 : nX 22 = [.und, .und, .und, .und, .und, .und, .und, .und, .und, .und, .und, .und, .und, .und, .und, .und, .und, .und, .und, .und, .und, .und] := rfl
@[simp] theorem nO22 : nO 22 = [none, none, none, none, none, none, none, none, none, none, none, none, none, none, none, none, none, none, none, none, none, none] := rfl
@[simp] theorem gX23 {x0 x1 x2 x3 x4 x5 x6 x7 x8 x9 x10 x11 x12 x13 x14 x15 x16 x17 x18 x19 x20 x21 x22 x23 : X} : gX (x0 :: x1 :: x2 :: x3 :: x4 :: x5 :: x6 :: x7 :: x8 :: x9 :: x10 :: x11 :: x12 :: x13 :: x14 :: x15 :: x16 :: x17 :: x18 :: x19 :: x20 :: x21 :: x22 :: x23 :: r) 23 = x23 := rfl
@[simp] theorem sX23 {x0 x1 x2 x3 x4 x5 x6 x7 x8 x9 x10 x11 x12 x13 x14 x15 x16 x17 x18 x19 x20 x21 x22 x23 : X} : sX (x0 :: x1 :: x2 :: x3 :: x4 :: x5 :: x6 :: x7 :: x8 :: x9 :: x10 :: x11 :: x12 :: x13 :: x14 :: x15 :: x16 :: x17 :: x18 :: x19 :: x20 :: x21 :: x22 :: x23 :: r) 23 z = x0 :: x1 :: x2 :: x3 :: x4 :: x5 :: x6 :: x7 :: x8 :: x9 :: x10 :: x11 :: x12 :: x13 :: x14 :: x15 :: x16 :: x17 :: x18 :: x19 :: x20 :: x21 :: x22 :: z :: r := rfl
@[simp] theorem gO23 {x0 x1 x2 x3 x4 x5 x6 x7 x8 x9 x10 x11 x12 x13 x14 x15 x16 x17 x18 x19 x20 x21 x22 x23 : Option Ob} : gO (x0 :: x1 :: x2 :: x3 :: x4 :: x5 :: x6 :: x7 :: x8 :: x9 :: x10 :: x11 :: x12 :: x13 :: x14 :: x15 :: x16 :: x17 :: x18 :: x19 :: x20 :: x21 :: x22 :: x23 :: q) 23 = x23 := rfl
@[simp] theorem sO23 {x0 x1 x2 x3 x4 x5 x6 x7 x8 x9 x10 x11 x12 x13 x14 x15 x16 x17 x18 x19 x20 x21 x22 x23 : Option Ob} : sO (x0 :: x1 :: x2 :: x3 :: x4 :: x5 :: x6 :: x7 :: x8 :: x9 :: x10 :: x11 :: x12 :: x13 :: x14 :: x15 :: x16 :: x17 :: x18 :: x19 :: x20 :: x21 :: x22 :: x23 :: q) 23 y = x0 :: x1 :: x2 :: x3 :: x4 :: x5 :: x6 :: x7 :: x8 :: x9 :: x10 :: x11 :: x12 :: x13 :: x14 :: x15 :: x16 :: x17 :: x18 :: x19 :: x20 :: x21 :: x22 :: y :: q := rfl
@[simp] theorem nX23 : nX 23 = [.und, .und, .und, .und, .und, .und, .und, .und, .und, .und, .und, .und, .und, .und, .und, .und, .und, .und, .und, .und, .und, .und, .und] := rfl
@[simp] theorem nO23 : nO 23 = [none, none, none, none, none, none, none, none, none, none, none, none, none, none, none, none, none, none, none, none, none, none, none] := rfl
@[simp] theorem gX24 {x0 x1 x2 x3 x4 x5 x6 x7 x8 x9 x10 x11 x12 x13 x14 x15 x16 x17 x18 x19 x20 x21 x22 x23 x24 : X} : gX (x0 :: x1 :: x2 :: x3 :: x4 :: x5 :: x6 :: x7 :: x8 :: x9 :: x10 :: x11 :: x12 :: x13 :: x14 :: x15 :: x16 :: x17 :: x18 :: x19 :: x20 :: x21 :: x22 :: x23 :: x24 :: r) 24 = x24 := rfl
@[simp] theorem sX24 {x0 x1 x2 x3 x4 x5 x6 x7 x8 x9 x10 x11 x12 x13 x14 x15 x16 x17 x18 x19 x20 x21 x22 x23 x24 : X} : sX (x0 :: x1 :: x2 :: x3 :: x4 :: x5 :: x6 :: x7 :: x8 :: x9 :: x10 :: x11 :: x12 :: x13 :: x14 :: x15 :: x16 :: x17 :: x18 :: x19 :: x20 :: x21 :: x22 :: x23 :: x24 :: r) 24 z = x0 :: x1 :: x2 :: x3 :: x4 :: x5 :: x6 :: x7 :: x8 :: x9 :: x10 :: x11 :: x12 :: x13 :: x14 :: x15 :: x16 :: x17 :: x18 :: x19 :: x20 :: x21 :: x22 :: x23 :: z :: r := rfl
@[simp] theorem gO24 {x0 x1 x2 x3 x4 x5 x6 x7 x8 x9 x10 x11 x12 x13 x14 x15 x16 x17 x18 x19 x20 x21 x22 x23 x24 : Option Ob} : gO (x0 :: x1 :: x2 :: x3 :: x4 :: x5 :: x6 :: x7 :: x8 :: x9 :: x10 :: x11 :: x12 :: x13 :: x14 :: x15 :: x16 :: x17 :: x18 :: x19 :: x20 :: x21 :: x22 :: x23 :: x24 :: q) 24 = x24 := rfl
@[simp] theorem sO24 {x0 x1 x2 x3 x4 x5 x6 x7 x8 x9 x10 x11 x12 x13 x14 x15 x16 x17 x18 x19 x20 x21 x22 x23 x24 : Option Ob} : sO (x0 :: x1 :: x2 :: x3 :: x4 :: x5 :: x6 :: x7 :: x8 :: x9 :: x10 :: x11 :: x12 :: x13 :: x14 :: x15 :: x16 :: x17 :: x18 :: x19 :: x20 :: x21 :: x22 :: x23 :: x24 :: q) 24 y = x0 :: x1 :: x2 :: x3 :: x4 :: x5 :: x6 :: x7 :: x8 :: x9 :: x10 :: x11 :: x12 :: x13 :: x14 :: x15 :: x16 :: x17 :: x18 :: x19 :: x20 :: x21 :: x22 :: x23 :: y :: q := rfl
@[simp] theorem nX24 : nX 24 = [.und, .und, .und, .und, .und, .und, .und, .und, .und, .und, .und, .und, .und, .und, .und, .und, .und, .und, .und, .und, .und, .und, .und, .und] := rfl
@[simp] theorem nO24 : nO 24 = [none, none, none, none, none, none, none, none, none, none, none, none, none, none, none, none, none, none, none, none, none, none, none, none] := rfl
@[simp] theorem gX25 {x0 x1 x2 x3 x4 x5 x6 x7 x8 x9 x10 x11 x12 x13 x14 x15 x16 x17 x18 x19 x20 x21 x22 x23 x24 x25 : X} : gX (x0 :: x1 :: x2 :: x3 :: x4 :: x5 :: x6 :: x7 :: x8 :: x9 :: x10 :: x11 :: x12 :: x13 :: x14 :: x15 :: x16 :: x17 :: x18 :: x19 :: x20 :: x21 :: x22 :: x23 :: x24 :: x25 :: r) 25 = x25 := rfl
@[simp] theorem sX25 {x0 x1 x2 x3 x4 x5 x6 x7 x8 x9 x10 x11 x12 x13 x14 x15 x16 x17 x18 x19 x20 x21 x22 x23 x24 x25 : X} : sX (x0 :: x1 :: x2 :: x3 :: x4 :: x5 :: x6 :: x7 :: x8 :: x9 :: x10 :: x11 :: x12 :: x13 :: x14 :: x15 :: x16 :: x17 :: x18 :: x19 :: x20 :: x21 :: x22 :: x23 :: x24 :: x25 :: r) 25 z = x0 :: x1 :: x2 :: x3 :: x4 :: x5 :: x6 :: x7 :: x8 :: x9 :: x10 :: x11 :: x12 :: x13 :: x14 :: x15 :: x16 :: x17 :: x18 :: x19 :: x20 :: x21 :: x22 :: x23 :: x24 :: z :: r := rfl
@[simp] theorem gO25 {x0 x1 x2 x3 x4 x5 x6 x7 x8 x9 x10 x11 x12 x13 x14 x15 x16 x17 x18 x19 x20 x21 x22 x23 x24 x25 : Option Ob} : gO (x0 :: x1 :: x2 :: x3 :: x4 :: x5 :: x6 :: x7 :: x8 :: x9 :: x10 :: x11 :: x12 :: x13 :: x14 :: x15 :: x16 :: x17 :: x18 :: x19 :: x20 :: x21 :: x22 :: x23 :: x24 :: x25 :: q) 25 = x25 := rfl
@[simp] theorem sO25 {x0 x1 x2 x3 x4 x5 x6 x7 x8 x9 x10 x11 x12 x13 x14 x15 x16 x17 x18 x19 x20 x21 x22 x23 x24 x25 : Option Ob} : sO (x0 :: x1 :: x2 :: x3 :: x4 :: x5 :: x6 :: x7 :: x8 :: x9 :: x10 :: x11 :: x12 :: x13 :: x14 :: x15 :: x16 :: x17 :: x18 :: x19 :: x20 :: x21 :: x22 :: x23 :: x24 :: x25 :: q) 25 y = x0 :: x1 :: x2 :: x3 :: x4 :: x5 :: x6 :: x7 :: x8 :: x9 :: x10 :: x11 :: x12 :: x13 :: x14 :: x15 :: x16 :: x17 :: x18 :: x19 :: x20 :: x21 :: x22 :: x23 :: x24 :: y :: q := rfl
@[simp] theorem nX25 : nX 25 = [.und, .und, .und, .und, .und, .und, .und, .und, .und, .und, .und, .und, .und, .und, .und, .und, .und, .und, .und, .und, .und, .und, .und, .und, .und] := rfl
@[simp] theorem nO25 : nO 25 = [none, none, none, none, none, none, none, none, none, none, none, none, none, none, none, none, none, none, none, none, none, none, none, none, none] := rfl
@[simp] theorem gX26 {x0 x1 x2 x3 x4 x5 x6 x7 x8 x9 x10 x11 x12 x13 x14 x15 x16 x17 x18 x19 x20 x21 x22 x23 x24 x25 x26 : X} : gX (x0 :: x1 :: x2 :: x3 :: x4 :: x5 :: x6 :: x7 :: x8 :: x9 :: x10 :: x11 :: x12 :: x13 :: x14 :: x15 :: x16 :: x17 :: x18 :: x19 :: x20 :: x21 :: x22 :: x23 :: x24 :: x25 :: x26 :: r) 26 = x26 := rfl
@[simp] theorem sX26 {x0 x1 x2 x3 x4 x5 x6 x7 x8 x9 x10 x11 x12 x13 x14 x15 x16 x17 x18 x19 x20 x21 x22 x23 x24 x25 x26 : X} : sX (x0 :: x1 :: x2 :: x3 :: x4 :: x5 :: x6 :: x7 :: x8 :: x9 :: x10 :: x11 :: x12 :: x13 :: x14 :: x15 :: x16 :: x17 :: x18 :: x19 :: x20 :: x21 :: x22 :: x23 :: x24 :: x25 :: x26 :: r) 26 z = x0 :: x1 :: x2 :: x3 :: x4 :: x5 :: x6 :: x7 :: x8 :: x9 :: x10 :: x11 :: x12 :: x13 :: x14 :: x15 :: x16 :: x17 :: x18 :: x19 :: x20 :: x21 :: x22 :: x23 :: x24 :: x25 :: z :: r := rfl
@[simp] theorem gO26 {x0 x1 x2 x3 x4 x5 x6 x7 x8 x9 x10 x11 x12 x13 x14 x15 x16 x17 x18 x19 x20 x21 x22 x23 x24 x25 x26 : Option Ob} : gO (x0 :: x1 :: x2 :: x3 :: x4 :: x5 :: x6 :: x7 :: x8 :: x9 :: x10 :: x11 :: x12 :: x13 :: x14 :: x15 :: x16 :: x17 :: x18 :: x19 :: x20 :: x21 :: x22 :: x23 :: x24 :: x25 :: x26 :: q) 26 = x26 := rfl
@[simp] theorem sO26 {x0 x1 x2 x3 x4 x5 x6 x7 x8 x9 x10 x11 x12 x13 x14 x15 x16 x17 x18 x19 x20 x21 x22 x23 x24 x25 x26 : Option Ob} : sO (x0 :: x1 :: x2 :: x3 :: x4 :: x5 :: x6 :: x7 :: x8 :: x9 :: x10 :: x11 :: x12 :: x13 :: x14 :: x15 :: x16 :: x17 :: x18 :: x19 :: x20 :: x21 :: x22 :: x23 :: x24 :: x25 :: x26 :: q) 26 y = x0 :: x1 :: x2 :: x3 :: x4 :: x5 :: x6 :: x7 :: x8 :: x9 :: x10 :: x11 :: x12 :: x13 :: x14 :: x15 :: x16 :: x17 :: x18 :: x19 :: x20 :: x21 :: x22 :: x23 :: x24 :: x25 :: y :: q := rfl
@[simp] theorem nX26 : nX 26 = [.und, .und, .und, .und, .und, .und, .und, .und, .und, .und, .und, .und, .und, .und, .und, .und, .und, .und, .und, .und, .und, .und, .und, .und, .und, .und] := rfl
@[simp] theorem nO26 : nO 26 = [none, none, none, none, none, none, none, none, none, none, none, none, none, none, none, none, none, none, none, none, none, none, none, none, none, none] := rfl
@[simp] theorem gX27 {x0 x1 x2 x3 x4 x5 x6 x7 x8 x9 x10 x11 x12 x13 x14 x15 x16 x17 x18 x19 x20 x21 x22 x23 x24 x25 x26 x27 : X} : gX (x0 :: x1 :: x2 :: x3 :: x4 :: x5 :: x6 :: x7 :: x8 :: x9 :: x10 :: x11 :: x12 :: x13 :: x14 :: x15 :: x16 :: x17 :: x18 :: x19 :: x20 :: x21 :: x22 :: x23 :: x24 :: x25 :: x26 :: x27 :: r) 27 = x27 := rfl
@[simp] theorem sX27 {x0 x1 x2 x3 x4 x5 x6 x7 x8 x9 x10 x11 x12 x13 x14 x15 x16 x17 x18 x19 x20 x21 x22 x23 x24 x25 x26 x27 : X} : sX (x0 :: x1 :: x2 :: x3 :: x4 :: x5 :: x6 :: x7 :: x8 :: x9 :: x10 :: x11 :: x12 :: x13 :: x14 :: x15 :: x16 :: x17 :: x18 :: x19 :: x20 :: x21 :: x22 :: x23 :: x24 :: x25 :: x26 :: x27 :: r) 27 z = x0 :: x1 :: x2 :: x3 :: x4 :: x5 :: x6 :: x7 :: x8 :: x9 :: x10 :: x11 :: x12 :: x13 :: x14 :: x15 :: x16 :: x17 :: x18 :: x19 :: x20 :: x21 :: x22 :: x23 :: x24 :: x25 :: x26 :: z :: r := rfl
@[simp] theorem gO27 {x0 x1 x2 x3 x4 x5 x6 x7 x8 x9 x10 x11 x12 x13 x14 x15 x16 x17 x18 x19 x20 x21 x22 x23 x24 x25 x26 x27 : Option Ob} : gO (x0 :: x1 :: x2 :: x3 :: x4 :: x5 :: x6 :: x7 :: x8 :: x9 :: x10 :: x11 :: x12 :: x13 :: x14 :: x15 :: x16 :: x17 :: x18 :: x19 :: x20 :: x21 :: x22 :: x23 :: x24 :: x25 :: x26 :: x27 :: q) 27 = x27 := rfl
@[simp] theorem sO27 {x0 x1 x2 x3 x4 x5 x6 x7 x8 x9 x10 x11 x12 x13 x14 x15 x16 x17 x18 x19 x20 x21 x22 x23 x24 x25 x26 x27 : Option Ob} : sO (x0 :: x1 :: x2 :: x3 :: x4 :: x5 :: x6 :: x7 :: x8 :: x9 :: x10 :: x11 :: x12 :: x13 :: x14 :: x15 :: x16 :: x17 :: x18 :: x19 :: x20 :: x21 :: x22 :: x23 :: x24 :: x25 :: x26 :: x27 :: q) 27 y = x0 :: x1 :: x2 :: x3 :: x4 :: x5 :: x6 :: x7 :: x8 :: x9 :: x10 :: x11 :: x12 :: x13 :: x14 :: x15 :: x16 :: x17 :: x18 :: x19 :: x20 :: x21 :: x22 :: x23 :: x24 :: x25 :: x26 :: y :: q := rfl
@[simp] theorem nX27 : nX 27 = [.und, .und, .und, .und, .und, .und, .und, .und, .und, .und, .und, .und, .und, .und, .und, .und, .und, .und, .und, .und, .und, .und, .und, .und, .und, .und, .und] := rfl
@[simp] theorem nO27 : nO 27 = [none, none, none, none, none, none, none, none, none, none, none, none, none, none, none, none, none, none, none, none, none, none, none, none, none, none, none] := rfl
@[simp] theorem gX28 {x0 x1 x2 x3 x4 x5 x6 x7 x8 x9 x10 x11 x12 x13 x14 x15 x16 x17 x18 x19 x20 x21 x22 x23 x24 x25 x26 x27 x28 : X} : gX (x0 :: x1 :: x2 :: x3 :: x4 :: x5 :: x6 :: x7 :: x8 :: x9 :: x10 :: x11 :: x12 :: x13 :: x14 :: x15 :: x16 :: x17 :: x18 :: x19 :: x20 :: x21 :: x22 :: x23 :: x24 :: x25 :: x26 :: x27 :: x28 :: r) 28 = x28 := rfl
@[simp] theorem sX28 {x0 x1 x2 x3 x4 x5 x6 x7 x8 x9 x10 x11 x12 x13 x14 x15 x16 x17 x18 x19 x20 x21 x22 x23 x24 x25 x26 x27 x28 : X} : sX (x0 :: x1 :: x2 :: x3 :: x4 :: x5 :: x6 :: x7 :: x8 :: x9 :: x10 :: x11 :: x12 :: x13 :: x14 :: x15 :: x16 :: x17 :: x18 :: x19 :: x20 :: x21 :: x22 :: x23 :: x24 :: x25 :: x26 :: x27 :: x28 :: r) 28 z = x0 :: x1 :: x2 :: x3 :: x4 :: x5 :: x6 :: x7 :: x8 :: x9 :: x10 :: x11 :: x12 :: x13 :: x14 :: x15 :: x16 :: x17 :: x18 :: x19 :: x20 :: x21 :: x22 :: x23 :: x24 :: x25 :: x26 :: x27 :: z :: r := rfl
@[simp] theorem gO28 {x0 x1 x2 x3 x4 x5 x6 x7 x8 x9 x10 x11 x12 x13 x14 x15 x16 x17 x18 x19 x20 x21 x22 x23 x24 x25 x26 x27 x28 : Option Ob} : gO (x0 :: x1 :: x2 :: x3 :: x4 :: x5 :: x6 :: x7 :: x8 :: x9 :: x10 :: x11 :: x12 :: x13 :: x14 :: x15 :: x16 :: x17 :: x18 :: x19 :: x20 :: x21 :: x22 :: x23 :: x24 :: x25 :: x26 :: x27 :: x28 :: q) 28 = x28 := rfl
@[simp] theorem sO28 {x0 x1 x2 x3 x4 x5 x6 x7 x8 x9 x10 x11 x12 x13 x14 x15 x16 x17 x18 x19 x20 x21 x22 x23 x24 x25 x26 x27 x28 : Option Ob} : sO (x0 :: x1 :: x2 :: x3 :: x4 :: x5 :: x6 :: x7 :: x8 :: x9 :: x10 :: x11 :: x12 :: x13 :: x14 :: x15 :: x16 :: x17 :: x18 :: x19 :: x20 :: x21 :: x22 :: x23 :: x24 :: x25 :: x26 :: x27 :: x28 :: q) 28 y = x0 :: x1 :: x2 :: x3 :: x4 :: x5 :: x6 :: x7 :: x8 :: x9 :: x10 :: x11 :: x12 :: x13 :: x14 :: x15 :: x16 :: x17 :: x18 :: x19 :: x20 :: x21 :: x22 :: x23 :: x24 :: x25 :: x26 :: x27 :: y :: q := rfl
@[simp] theorem nX28 : nX 28 = [.und, .und, .und, .und, .und, .und, .und, .und, .und, .und, .und, .und, .und, .und, .und, .und, .und, .und, .und, .und, .und, .und, .und, .und, .und, .und, .und, .und] := rfl
@[simp] theorem nO28 : nO 28 = [none, none, none, none, none, none, none, none, none, none, none, none, none, none, none, none, none, none, none, none, none, none, none, none, none, none, none, none] := rfl
@[simp] theorem gX29 {x0 x1 x2 x3 x4 x5 x6 x7 x8 x9 x10 x11 x12 x13 x14 x15 x16 x17 x18 x19 x20 x21 x22 x23 x24 x25 x26 x27 x28 x29 : X} : gX (x0 :: x1 :: x2 :: x3 :: x4 :: x5 :: x6 :: x7 :: x8 :: x9 :: x10 :: x11 :: x12 :: x13 :: x14 :: x15 :: x16 :: x17 :: x18 :: x19 :: x20 :: x21 :: x22 :: x23 :: x24 :: x25 :: x26 :: x27 :: x28 :: x29 :: r) 29 = x29 := rfl
@[simp] theorem sX29 {x0 x1 x2 x3 x4 x5 x6 x7 x8 x9 x10 x11 x12 x13 x14 x15 x16 x17 x18 x19 x20 x21 x22 x23 x24 x25 x26 x27 x28 x29 : X} : sX (x0 :: x1 :: x2 :: x3 :: x4 :: x5 :: x6 :: x7 :: x8 :: x9 :: x10 :: x11 :: x12 :: x13 :: x14 :: x15 :: x16 :: x17 :: x18 :: x19 :: x20 :: x21 :: x22 :: x23 :: x24 :: x25 :: x26 :: x27 :: x28 :: x29 :: r) 29 z = x0 :: x1 :: x2 :: x3 :: x4 :: x5 :: x6 :: x7 :: x8 :: x9 :: x10 :: x11 :: x12 :: x13 :: x14 :: x15 :: x16 :: x17 :: x18 :: x19 :: x20 :: x21 :: x22 :: x23 :: x24 :: x25 :: x26 :: x27 :: x28 :: z :: r := rfl
@[simp] theorem gO29 {x0 x1 x2 x3 x4 x5 x6 x7 x8 x9 x10 x11 x12 x13 x14 x15 x16 x17 x18 x19 x20 x21 x22 x23 x24 x25 x26 x27 x28 x29 : Option Ob} : gO (x0 :: x1 :: x2 :: x3 :: x4 :: x5 :: x6 :: x7 :: x8 :: x9 :: x10 :: x11 :: x12 :: x13 :: x14 :: x15 :: x16 :: x17 :: x18 :: x19 :: x20 :: x21 :: x22 :: x23 :: x24 :: x25 :: x26 :: x27 :: x28 :: x29 :: q) 29 = x29 := rfl
@[simp] theorem sO29 {x0 x1 x2 x3 x4 x5 x6 x7 x8 x9 x10 x11 x12 x13 x14 x15 x16 x17 x18 x19 x20 x21 x22 x23 x24 x25 x26 x27 x28 x29 : Option Ob} : sO (x0 :: x1 :: x2 :: x3 :: x4 :: x5 :: x6 :: x7 :: x8 :: x9 :: x10 :: x11 :: x12 :: x13 :: x14 :: x15 :: x16 :: x17 :: x18 :: x19 :: x20 :: x21 :: x22 :: x23 :: x24 :: x25 :: x26 :: x27 :: x28 :: x29 :: q) 29 y = x0 :: x1 :: x2 :: x3 :: x4 :: x5 :: x6 :: x7 :: x8 :: x9 :: x10 :: x11 :: x12 :: x13 :: x14 :: x15 :: x16 :: x17 :: x18 :: x19 :: x20 :: x21 :: x22 :: x23 :: x24 :: x25 :: x26 :: x27 :: x28 :: y :: q := rfl
@[simp] theorem nX29 : nX 29 = [.und, .und, .und, .und, .und, .und, .und, .und, .und, .und, .und, .und, .und, .und, .und, .und, .und, .und, .und, .und, .und, .und, .und, .und, .und, .und, .und, .und, .und] := rfl
@[simp] theorem nO29 : nO 29 = [none, none, none, none, none, none, none, none, none, none, none, none, none, none, none, none, none, none, none, none, none, none, none, none, none, none, none, none, none] := rfl
@[simp] theorem gX30 {x0 x1 x2 x3 x4 x5 x6 x7 x8 x9 x10 x11 x12 x13 x14 x15 x16 x17 x18 x19 x20 x21 x22 x23 x24 x25 x26 x27 x28 x29 x30 : X} : gX (x0 :: x1 :: x2 :: x3 :: x4 :: x5 :: x6 :: x7 :: x8 :: x9 :: x10 :: x11 :: x12 :: x13 :: x14 :: x15 :: x16 :: x17 :: x18 :: x19 :: x20 :: x21 :: x22 :: x23 :: x24 :: x25 :: x26 :: x27 :: x28 :: x29 :: x30 :: r) 30 = x30 := rfl
@[simp] theorem sX30 {x0 x1 x2 x3 x4 x5 x6 x7 x8 x9 x10 x11 x12 x13 x14 x15 x16 x17 x18 x19 x20 x21 x22 x23 x24 x25 x26 x27 x28 x29 x30 : X} : sX (x0 :: x1 :: x2 :: x3 :: x4 :: x5 :: x6 :: x7 :: x8 :: x9 :: x10 :: x11 :: x12 :: x13 :: x14 :: x15 :: x16 :: x17 :: x18 :: x19 :: x20 :: x21 :: x22 :: x23 :: x24 :: x25 :: x26 :: x27 :: x28 :: x29 :: x30 :: r) 30 z = x0 :: x1 :: x2 :: x3 :: x4 :: x5 :: x6 :: x7 :: x8 :: x9 :: x10 :: x11 :: x12 :: x13 :: x14 :: x15 :: x16 :: x17 :: x18 :: x19 :: x20 :: x21 :: x22 :: x23 :: x24 :: x25 :: x26 :: x27 :: x28 :: x29 :: z :: r := rfl
@[simp] theorem gO30 {x0 x1 x2 x3 x4 x5 x6 x7 x8 x9 x10 x11 x12 x13 x14 x15 x16 x17 x18 x19 x20 x21 x22 x23 x24 x25 x26 x27 x28 x29 x30 : Option Ob} : gO (x0 :: x1 :: x2 :: x3 :: x4 :: x5 :: x6 :: x7 :: x8 :: x9 :: x10 :: x11 :: x12 :: x13 :: x14 :: x15 :: x16 :: x17 :: x18 :: x19 :: x20 :: x21 :: x22 :: x23 :: x24 :: x25 :: x26 :: x27 :: x28 :: x29 :: x30 :: q) 30 = x30 := rfl
@[simp] theorem sO30 {x0 x1 x2 x3 x4 x5 x6 x7 x8 x9 x10 x11 x12 x13 x14 x15 x16 x17 x18 x19 x20 x21 x22 x23 x24 x25 x26 x27 x28 x29 x30 : Option Ob} : sO (x0 :: x1 :: x2 :: x3 :: x4 :: x5 :: x6 :: x7 :: x8 :: x9 :: x10 :: x11 :: x12 :: x13 :: x14 :: x15 :: x16 :: x17 :: x18 :: x19 :: x20 :: x21 :: x22 :: x23 :: x24 :: x25 :: x26 :: x27 :: x28 :: x29 :: x30 :: q) 30 y = x0 :: x1 :: x2 :: x3 :: x4 :: x5 :: x6 :: x7 :: x8 :: x9 :: x10 :: x11 :: x12 :: x13 :: x14 :: x15 :: x16 :: x17 :: x18 :: x19 :: x20 :: x21 :: x22 :: x23 :: x24 :: x25 :: x26 :: x27 :: x28 :: x29 :: y :: q := rfl
@[simp] theorem nX30 : nX 30 = [.und, .und, .und, .und, .und, .und, .und, .und, .und, .und, .und, .und, .und, .und, .und, .und, .und, .und, .und, .und, .und, .und, .und, .und, .und, .und, .und, .und, .und, .und] := rfl
@[simp] theorem nO30 : nO 30 = [none, none, none, none, none, none, none, none, none, none, none, none, none, none, none, none, none, none, none, none, none, none, none, none, none, none, none, none, none, none] := rfl
@[simp] theorem gX31 {x0 x1 x2 x3 x4 x5 x6 x7 x8 x9 x10 x11 x12 x13 x14 x15 x16 x17 x18 x19 x20 x21 x22 x23 x24 x25 x26 x27 x28 x29 x30 x31 : X} : gX (x0 :: x1 :: x2 :: x3 :: x4 :: x5 :: x6 :: x7 :: x8 :: x9 :: x10 :: x11 :: x12 :: x13 :: x14 :: x15 :: x16 :: x17 :: x18 :: x19 :: x20 :: x21 :: x22 :: x23 :: x24 :: x25 :: x26 :: x27 :: x28 :: x29 :: x30 :: x31 :: r) 31 = x31 := rfl
@[simp] theorem sX31 {x0 x1 x2 x3 x4 x5 x6 x7 x8 x9 x10 x11 x12 x13 x14 x15 x16 x17 x18 x19 x20 x21 x22 x23 x24 x25 x26 x27 x28 x29 x30 x31 : X} : sX (x0 :: x1 :: x2 :: x3 :: x4 :: x5 :: x6 :: x7 :: x8 :: x9 :: x10 :: x11 :: x12 :: x13 :: x14 :: x15 :: x16 :: x17 :: x18 :: x19 :: x20 :: x21 :: x22 :: x23 :: x24 :: x25 :: x26 :: x27 :: x28 :: x29 :: x30 :: x31 :: r) 31 z = x0 :: x1 :: x2 :: x3 :: x4 :: x5 :: x6 :: x7 :: x8 :: x9 :: x10 :: x11 :: x12 :: x13 :: x14 :: x15 :: x16 :: x17 :: x18 :: x19 :: x20 :: x21 :: x22 :: x23 :: x24 :: x25 :: x26 :: x27 :: x28 :: x29 :: x30 :: z :: r := rfl
@[simp] theorem gO31 {x0 x1 x2 x3 x4 x5 x6 x7 x8 x9 x10 x11 x12 x13 x14 x15 x16 x17 x18 x19 x20 x21 x22 x23 x24 x25 x26 x27 x28 x29 x30 x31 : Option Ob} : gO (x0 :: x1 :: x2 :: x3 :: x4 :: x5 :: x6 :: x7 :: x8 :: x9 :: x10 :: x11 :: x12 :: x13 :: x14 :: x15 :: x16 :: x17 :: x18 :: x19 :: x20 :: x21 :: x22 :: x23 :: x24 :: x25 :: x26 :: x27 :: x28 :: x29 :: x30 :: x31 :: q) 31 = x31 := rfl
@[simp] theorem sO31 {x0 x1 x2 x3 x4 x5 x6 x7 x8 x9 x10 x11 x12 x13 x14 x15 x16 x17 x18 x19 x20 x21 x22 x23 x24 x25 x26 x27 x28 x29 x30 x31 : Option Ob} : sO (x0 :: x1 :: x2 :: x3 :: x4 :: x5 :: x6 :: x7 :: x8 :: x9 :: x10 :: x11 :: x12 :: x13 :: x14 :: x15 :: x16 :: x17 :: x18 :: x19 :: x20 :: x21 :: x22 :: x23 :: x24 :: x25 :: x26 :: x27 :: x28 :: x29 :: x30 :: x31 :: q) 31 y = x0 :: x1 :: x2 :: x3 :: x4 :: x5 :: x6 :: x7 :: x8 :: x9 :: x10 :: x11 :: x12 :: x13 :: x14 :: x15 :: x16 :: x17 :: x18 :: x19 :: x20 :: x21 :: x22 :: x23 :: x24 :: x25 :: x26 :: x27 :: x28 :: x29 :: x30 :: y :: q := rfl
@[simp] theorem nX31 : nX 31 = [.und, .und, .und, .und, .und, .und, .und, .und, .und, .und, .und, .und, .und, .und, .und, .und, .und, .und, .und, .und, .und, .und, .und, .und, .und, .und, .und, .und, .und, .und, .und] := rfl
@[simp] theorem nO31 : nO 31 = [none, none, none, none, none, none, none, none, none, none, none, none, none, none, none, none, none, none, none, none, none, none, none, none, none, none, none, none, none, none, none] := rfl
@[simp] theorem gX32 {x0 x1 x2 x3 x4 x5 x6 x7 x8 x9 x10 x11 x12 x13 x14 x15 x16 x17 x18 x19 x20 x21 x22 x23 x24 x25 x26 x27 x28 x29 x30 x31 x32 : X} : gX (x0 :: x1 :: x2 :: x3 :: x4 :: x5 :: x6 :: x7 :: x8 :: x9 :: x10 :: x11 :: x12 :: x13 :: x14 :: x15 :: x16 :: x17 :: x18 :: x19 :: x20 :: x21 :: x22 :: x23 :: x24 :: x25 :: x26 :: x27 :: x28 :: x29 :: x30 :: x31 :: x32 :: r) 32 = x32 := rfl
@[simp] theorem sX32 {x0 x1 x2 x3 x4 x5 x6 x7 x8 x9 x10 x11 x12 x13 x14 x15 x16 x17 x18 x19 x20 x21 x22 x23 x24 x25 x26 x27 x28 x29 x30 x31 x32 : X} : sX (x0 :: x1 :: x2 :: x3 :: x4 :: x5 :: x6 :: x7 :: x8 :: x9 :: x10 :: x11 :: x12 :: x13 :: x14 :: x15 :: x16 :: x17 :: x18 :: x19 :: x20 :: x21 :: x22 :: x23 :: x24 :: x25 :: x26 :: x27 :: x28 :: x29 :: x30 :: x31 :: x32 :: r) 32 z = x0 :: x1 :: x2 :: x3 :: x4 :: x5 :: x6 :: x7 :: x8 :: x9 :: x10 :: x11 :: x12 :: x13 :: x14 :: x15 :: x16 :: x17 :: x18 :: x19 :: x20 :: x21 :: x22 :: x23 :: x24 :: x25 :: x26 :: x27 :: x28 :: x29 :: x30 :: x31 :: z :: r := rfl
@[simp] theorem gO32 {x0 x1 x2 x3 x4 x5 x6 x7 x8 x9 x10 x11 x12 x13 x14 x15 x16 x17 x18 x19 x20 x21 x22 x23 x24 x25 x26 x27 x28 x29 x30 x31 x32 : Option Ob} : gO (x0 :: x1 :: x2 :: x3 :: x4 :: x5 :: x6 :: x7 :: x8 :: x9 :: x10 :: x11 :: x12 :: x13 :: x14 :: x15 :: x16 :: x17 :: x18 :: x19 :: x20 :: x21 :: x22 :: x23 :: x24 :: x25 :: x26 :: x27 :: x28 :: x29 :: x30 :: x31 :: x32 :: q) 32 = x32 := rfl
@[simp] theorem sO32 {x0 x1 x2 x3 x4 x5 x6 x7 x8 x9 x10 x11 x12 x13 x14 x15 x16 x17 x18 x19 x20 x21 x22 x23 x24 x25 x26 x27 x28 x29 x30 x31 x32 : Option Ob} : sO (x0 :: x1 :: x2 :: x3 :: x4 :: x5 :: x6 :: x7 :: x8 :: x9 :: x10 :: x11 :: x12 :: x13 :: x14 :: x15 :: x16 :: x17 :: x18 :: x19 :: x20 :: x21 :: x22 :: x23 :: x24 :: x25 :: x26 :: x27 :: x28 :: x29 :: x30 :: x31 :: x32 :: q) 32 y = x0 :: x1 :: x2 :: x3 :: x4 :: x5 :: x6 :: x7 :: x8 :: x9 :: x10 :: x11 :: x12 :: x13 :: x14 :: x15 :: x16 :: x17 :: x18 :: x19 :: x20 :: x21 :: x22 :: x23 :: x24 :: x25 :: x26 :: x27 :: x28 :: x29 :: x30 :: x31 :: y :: q := rfl
@[simp] theorem nX32 : nX 32 = [.und, .und, .und, .und, .und, .und, .und, .und, .und, .und, .und, .und, .und, .und, .und, .und, .und, .und, .und, .und, .und, .und, .und, .und, .und, .und, .und, .und, .und, .und, .und, .und] := rfl
@[simp] theorem nO32 : nO 32 = [none, none, none, none, none, none, none, none, none, none, none, none, none, none, none, none, none, none, none, none, none, none, none, none, none, none, none, none, none, none, none, none] := rfl
@[simp] theorem gX33 {x0 x1 x2 x3 x4 x5 x6 x7 x8 x9 x10 x11 x12 x13 x14 x15 x16 x17 x18 x19 x20 x21 x22 x23 x24 x25 x26 x27 x28 x29 x30 x31 x32 x33 : X} : gX (x0 :: x1 :: x2 :: x3 :: x4 :: x5 :: x6 :: x7 :: x8 :: x9 :: x10 :: x11 :: x12 :: x13 :: x14 :: x15 :: x16 :: x17 :: x18 :: x19 :: x20 :: x21 :: x22 :: x23 :: x24 :: x25 :: x26 :: x27 :: x28 :: x29 :: x30 :: x31 :: x32 :: x33 :: r) 33 = x33 := rfl
@[simp] theorem sX33 {x0 x1 x2 x3 x4 x5 x6 x7 x8 x9 x10 x11 x12 x13 x14 x15 x16 x17 x18 x19 x20 x21 x22 x23 x24 x25 x26 x27 x28 x29 x30 x31 x32 x33 : X} : sX (x0 :: x1 :: x2 :: x3 :: x4 :: x5 :: x6 :: x7 :: x8 :: x9 :: x10 :: x11 :: x12 :: x13 :: x14 :: x15 :: x16 :: x17 :: x18 :: x19 :: x20 :: x21 :: x22 :: x23 :: x24 :: x25 :: x26 :: x27 :: x28 :: x29 :: x30 :: x31 :: x32 :: x33 :: r) 33 z = x0 :: x1 :: x2 :: x3 :: x4 :: x5 :: x6 :: x7 :: x8 :: x9 :: x10 :: x11 :: x12 :: x13 :: x14 :: x15 :: x16 :: x17 :: x18 :: x19 :: x20 :: x21 :: x22 :: x23 :: x24 :: x25 :: x26 :: x27 :: x28 :: x29 :: x30 :: x31 :: x32 :: z :: r := rfl
@[simp] theorem gO33 {x0 x1 x2 x3 x4 x5 x6 x7 x8 x9 x10 x11 x12 x13 x14 x15 x16 x17 x18 x19 x20 x21 x22 x23 x24 x25 x26 x27 x28 x29 x30 x31 x32 x33 : Option Ob} : gO (x0 :: x1 :: x2 :: x3 :: x4 :: x5 :: x6 :: x7 :: x8 :: x9 :: x10 :: x11 :: x12 :: x13 :: x14 :: x15 :: x16 :: x17 :: x18 :: x19 :: x20 :: x21 :: x22 :: x23 :: x24 :: x25 :: x26 :: x27 :: x28 :: x29 :: x30 :: x31 :: x32 :: x33 :: q) 33 = x33 := rfl
@[simp] theorem sO33 {x0 x1 x2 x3 x4 x5 x6 x7 x8 x9 x10 x11 x12 x13 x14 x15 x16 x17 x18 x19 x20 x21 x22 x23 x24 x25 x26 x27 x28 x29 x30 x31 x32 x33 : Option Ob} : sO (x0 :: x1 :: x2 :: x3 :: x4 :: x5 :: x6 :: x7 :: x8 :: x9 :: x10 :: x11 :: x12 :: x13 :: x14 :: x15 :: x16 :: x17 :: x18 :: x19 :: x20 :: x21 :: x22 :: x23 :: x24 :: x25 :: x26 :: x27 :: x28 :: x29 :: x30 :: x31 :: x32 :: x33 :: q) 33 y = x0 :: x1 :: x2 :: x3 :: x4 :: x5 :: x6 :: x7 :: x8 :: x9 :: x10 :: x11 :: x12 :: x13 :: x14 :: x15 :: x16 :: x17 :: x18 :: x19 :: x20 :: x21 :: x22 :: x23 :: x24 :: x25 :: x26 :: x27 :: x28 :: x29 :: x30 :: x31 :: x32 :: y :: q := rfl
@[simp] theorem nX33 : nX 33 = [.und, .und, .und, .und, .und, .und, .und, .und, .und, .und, .und, .und, .und, .und, .und, .und, .und, .und, .und, .und, .und, .und, .und, .und, .und, .und, .und, .und, .und, .und, .und, .und, .und] := rfl
@[simp] theorem nO33 : nO 33 = [none, none, none, none, none, none, none, none, none, none, none, none, none, none, none, none, none, none, none, none, none, none, none, none, none, none, none, none, none, none, none, none, none] := rfl
@[simp] theorem gX34 {x0 x1 x2 x3 x4 x5 x6 x7 x8 x9 x10 x11 x12 x13 x14 x15 x16 x17 x18 x19 x20 x21 x22 x23 x24 x25 x26 x27 x28 x29 x30 x31 x32 x33 x34 : X} : gX (x0 :: x1 :: x2 :: x3 :: x4 :: x5 :: x6 :: x7 :: x8 :: x9 :: x10 :: x11 :: x12 :: x13 :: x14 :: x15 :: x16 :: x17 :: x18 :: x19 :: x20 :: x21 :: x22 :: x23 :: x24 :: x25 :: x26 :: x27 :: x28 :: x29 :: x30 :: x31 :: x32 :: x33 :: x34 :: r) 34 = x34 := rfl
@[simp] theorem sX34 {x0 x1 x2 x3 x4 x5 x6 x7 x8 x9 x10 x11 x12 x13 x14 x15 x16 x17 x18 x19 x20 x21 x22 x23 x24 x25 x26 x27 x28 x29 x30 x31 x32 x33 x34 : X} : sX (x0 :: x1 :: x2 :: x3 :: x4 :: x5 :: x6 :: x7 :: x8 :: x9 :: x10 :: x11 :: x12 :: x13 :: x14 :: x15 :: x16 :: x17 :: x18 :: x19 :: x20 :: x21 :: x22 :: x23 :: x24 :: x25 :: x26 :: x27 :: x28 :: x29 :: x30 :: x31 :: x32 :: x33 :: x34 :: r) 34 z = x0 :: x1 :: x2 :: x3 :: x4 :: x5 :: x6 :: x7 :: x8 :: x9 :: x10 :: x11 :: x12 :: x13 :: x14 :: x15 :: x16 :: x17 :: x18 :: x19 :: x20 :: x21 :: x22 :: x23 :: x24 :: x25 :: x26 :: x27 :: x28 :: x29 :: x30 :: x31 :: x32 :: x33 :: z :: r := rfl
@[simp] theorem gO34 {x0 x1 x2 x3 x4 x5 x6 x7 x8 x9 x10 x11 x12 x13 x14 x15 x16 x17 x18 x19 x20 x21 x22 x23 x24 x25 x26 x27 x28 x29 x30 x31 x32 x33 x34 : Option Ob} : gO (x0 :: x1 :: x2 :: x3 :: x4 :: x5 :: x6 :: x7 :: x8 :: x9 :: x10 :: x11 :: x12 :: x13 :: x14 :: x15 :: x16 :: x17 :: x18 :: x19 :: x20 :: x21 :: x22 :: x23 :: x24 :: x25 :: x26 :: x27 :: x28 :: x29 :: x30 :: x31 :: x32 :: x33 :: x34 :: q) 34 = x34 := rfl
@[simp] theorem sO34 {x0 x1 x2 x3 x4 x5 x6 x7 x8 x9 x10 x11 x12 x13 x14 x15 x16 x17 x18 x19 x20 x21 x22 x23 x24 x25 x26 x27 x28 x29 x30 x31 x32 x33 x34 : Option Ob} : sO (x0 :: x1 :: x2 :: x3 :: x4 :: x5 :: x6 :: x7 :: x8 :: x9 :: x10 :: x11 :: x12 :: x13 :: x14 :: x15 :: x16 :: x17 :: x18 :: x19 :: x20 :: x21 :: x22 :: x23 :: x24 :: x25 :: x26 :: x27 :: x28 :: x29 :: x30 :: x31 :: x32 :: x33 :: x34 :: q) 34 y = x0 :: x1 :: x2 :: x3 :: x4 :: x5 :: x6 :: x7 :: x8 :: x9 :: x10 :: x11 :: x12 :: x13 :: x14 :: x15 :: x16 :: x17 :: x18 :: x19 :: x20 :: x21 :: x22 :: x23 :: x24 :: x25 :: x26 :: x27 :: x28 :: x29 :: x30 :: x31 :: x32 :: x33 :: y :: q := rfl
@[simp] theorem nX34 : nX 34 = [.und, .und, .und, .und, .und, .und, .und, .und, .und, .und, .und, .und, .und, .und, .und, .und, .und, .und, .und, .und, .und, .und, .und, .und, .und, .und, .und, .und, .und, .und, .und, .und, .und, .und] := rfl
@[simp] theorem nO34 : nO 34 = [none, none, none, none, none, none, none, none, none, none, none, none, none, none, none, none, none, none, none, none, none, none, none, none, none, none, none, none, none, none, none, none, none, none] := rfl
@[simp] theorem gX35 {x0 x1 x2 x3 x4 x5 x6 x7 x8 x9 x10 x11 x12 x13 x14 x15 x16 x17 x18 x19 x20 x21 x22 x23 x24 x25 x26 x27 x28 x29 x30 x31 x32 x33 x34 x35 : X} : gX (x0 :: x1 :: x2 :: x3 :: x4 :: x5 :: x6 :: x7 :: x8 :: x9 :: x10 :: x11 :: x12 :: x13 :: x14 :: x15 :: x16 :: x17 :: x18 :: x19 :: x20 :: x21 :: x22 :: x23 :: x24 :: x25 :: x26 :: x27 :: x28 :: x29 :: x30 :: x31 :: x32 :: x33 :: x34 :: x35 :: r) 35 = x35 := rfl
@[simp] theorem sX35 {x0 x1 x2 x3 x4 x5 x6 x7 x8 x9 x10 x11 x12 x13 x14 x15 x16 x17 x18 x19 x20 x21 x22 x23 x24 x25 x26 x27 x28 x29 x30 x31 x32 x33 x34 x35 : X} : sX (x0 :: x1 :: x2 :: x3 :: x4 :: x5 :: x6 :: x7 :: x8 :: x9 :: x10 :: x11 :: x12 :: x13 :: x14 :: x15 :: x16 :: x17 :: x18 :: x19 :: x20 :: x21 :: x22 :: x23 :: x24 :: x25 :: x26 :: x27 :: x28 :: x29 :: x30 :: x31 :: x32 :: x33 :: x34 :: x35 :: r) 35 z = x0 :: x1 :: x2 :: x3 :: x4 :: x5 :: x6 :: x7 :: x8 :: x9 :: x10 :: x11 :: x12 :: x13 :: x14 :: x15 :: x16 :: x17 :: x18 :: x19 :: x20 :: x21 :: x22 :: x23 :: x24 :: x25 :: x26 :: x27 :: x28 :: x29 :: x30 :: x31 :: x32 :: x33 :: x34 :: z :: r := rfl
@[simp] theorem gO35 {x0 x1 x2 x3 x4 x5 x6 x7 x8 x9 x10 x11 x12 x13 x14 x15 x16 x17 x18 x19 x20 x21 x22 x23 x24 x25 x26 x27 x28 x29 x30 x31 x32 x33 x34 x35 : Option Ob} : gO (x0 :: x1 :: x2 :: x3 :: x4 :: x5 :: x6 :: x7 :: x8 :: x9 :: x10 :: x11 :: x12 :: x13 :: x14 :: x15 :: x16 :: x17 :: x18 :: x19 :: x20 :: x21 :: x22 :: x23 :: x24 :: x25 :: x26 :: x27 :: x28 :: x29 :: x30 :: x31 :: x32 :: x33 :: x34 :: x35 :: q) 35 = x35 := rfl
@[simp] theorem sO35 {x0 x1 x2 x3 x4 x5 x6 x7 x8 x9 x10 x11 x12 x13 x14 x15 x16 x17 x18 x19 x20 x21 x22 x23 x24 x25 x26 x27 x28 x29 x30 x31 x32 x33 x34 x35 : Option Ob} : sO (x0 :: x1 :: x2 :: x3 :: x4 :: x5 :: x6 :: x7 :: x8 :: x9 :: x10 :: x11 :: x12 :: x13 :: x14 :: x15 :: x16 :: x17 :: x18 :: x19 :: x20 :: x21 :: x22 :: x23 :: x24 :: x25 :: x26 :: x27 :: x28 :: x29 :: x30 :: x31 :: x32 :: x33 :: x34 :: x35 :: q) 35 y = x0 :: x1 :: x2 :: x3 :: x4 :: x5 :: x6 :: x7 :: x8 :: x9 :: x10 :: x11 :: x12 :: x13 :: x14 :: x15 :: x16 :: x17 :: x18 :: x19 :: x20 :: x21 :: x22 :: x23 :: x24 :: x25 :: x26 :: x27 :: x28 :: x29 :: x30 :: x31 :: x32 :: x33 :: x34 :: y :: q := rfl
@[simp] theorem nX35 : nX 35 = [.und, .und, .und, .und, .und, .und, .und, .und, .und, .und, .und, .und, .und, .und, .und, .und, .und, .und, .und, .und, .und, .und, .und, .und, .und, .und, .und, .und, .und, .und, .und, .und, .und, .und, .und] := rfl
@[simp] theorem nO35 : nO 35 = [none, none, none, none, none, none, none, none, none, none, none, none, none, none, none, none, none, none, none, none, none, none, none, none, none, none, none, none, none, none, none, none, none, none, none] := rfl
@[simp] theorem gX36 {x0 x1 x2 x3 x4 x5 x6 x7 x8 x9 x10 x11 x12 x13 x14 x15 x16 x17 x18 x19 x20 x21 x22 x23 x24 x25 x26 x27 x28 x29 x30 x31 x32 x33 x34 x35 x36 : X} : gX (x0 :: x1 :: x2 :: x3 :: x4 :: x5 :: x6 :: x7 :: x8 :: x9 :: x10 :: x11 :: x12 :: x13 :: x14 :: x15 :: x16 :: x17 :: x18 :: x19 :: x20 :: x21 :: x22 :: x23 :: x24 :: x25 :: x26 :: x27 :: x28 :: x29 :: x30 :: x31 :: x32 :: x33 :: x34 :: x35 :: x36 :: r) 36 = x36 := rfl
@[simp] theorem sX36 {x0 x1 x2 x3 x4 x5 x6 x7 x8 x9 x10 x11 x12 x13 x14 x15 x16 x17 x18 x19 x20 x21 x22 x23 x24 x25 x26 x27 x28 x29 x30 x31 x32 x33 x34 x35 x36 : X} : sX (x0 :: x1 :: x2 :: x3 :: x4 :: x5 :: x6 :: x7 :: x8 :: x9 :: x10 :: x11 :: x12 :: x13 :: x14 :: x15 :: x16 :: x17 :: x18 :: x19 :: x20 :: x21 :: x22 :: x23 :: x24 :: x25 :: x26 :: x27 :: x28 :: x29 :: x30 :: x31 :: x32 :: x33 :: x34 :: x35 :: x36 :: r) 36 z = x0 :: x1 :: x2 :: x3 :: x4 :: x5 :: x6 :: x7 :: x8 :: x9 :: x10 :: x11 :: x12 :: x13 :: x14 :: x15 :: x16 :: x17 :: x18 :: x19 :: x20 :: x21 :: x22 :: x23 :: x24 :: x25 :: x26 :: x27 :: x28 :: x29 :: x30 :: x31 :: x32 :: x33 :: x34 :: x35 :: z :: r := rfl
@[simp] theorem gO36 {x0 x1 x2 x3 x4 x5 x6 x7 x8 x9 x10 x11 x12 x13 x14 x15 x16 x17 x18 x19 x20 x21 x22 x23 x24 x25 x26 x27 x28 x29 x30 x31 x32 x33 x34 x35 x36 : Option Ob} : gO (x0 :: x1 :: x2 :: x3 :: x4 :: x5 :: x6 :: x7 :: x8 :: x9 :: x10 :: x11 :: x12 :: x13 :: x14 :: x15 :: x16 :: x17 :: x18 :: x19 :: x20 :: x21 :: x22 :: x23 :: x24 :: x25 :: x26 :: x27 :: x28 :: x29 :: x30 :: x31 :: x32 :: x33 :: x34 :: x35 :: x36 :: q) 36 = x36 := rfl
@[simp] theorem sO36 {x0 x1 x2 x3 x4 x5 x6 x7 x8 x9 x10 x11 x12 x13 x14 x15 x16 x17 x18 x19 x20 x21 x22 x23 x24 x25 x26 x27 x28 x29 x30 x31 x32 x33 x34 x35 x36 : Option Ob} : sO (x0 :: x1 :: x2 :: x3 :: x4 :: x5 :: x6 :: x7 :: x8 :: x9 :: x10 :: x11 :: x12 :: x13 :: x14 :: x15 :: x16 :: x17 :: x18 :: x19 :: x20 :: x21 :: x22 :: x23 :: x24 :: x25 :: x26 :: x27 :: x28 :: x29 :: x30 :: x31 :: x32 :: x33 :: x34 :: x35 :: x36 :: q) 36 y = x0 :: x1 :: x2 :: x3 :: x4 :: x5 :: x6 :: x7 :: x8 :: x9 :: x10 :: x11 :: x12 :: x13 :: x14 :: x15 :: x16 :: x17 :: x18 :: x19 :: x20 :: x21 :: x22 :: x23 :: x24 :: x25 :: x26 :: x27 :: x28 :: x29 :: x30 :: x31 :: x32 :: x33 :: x34 :: x35 :: y :: q := rfl
@[simp] theorem nX36 : nX 36 = [.und, .und, .und, .und, .und, .und, .und, .und, .und, .und, .und, .und, .und, .und, .und, .und, .und, .und, .und, .und, .und, .und, .und, .und, .und, .und, .und, .und, .und, .und, .und, .und, .und, .und, .und, .und] := rfl
@[simp] theorem nO36 : nO 36 = [none, none, none, none, none, none, none, none, none, none, none, none, none, none, none, none, none, none, none, none, none, none, none, none, none, none, none, none, none, none, none, none, none, none, none, none] := rfl
@[simp] theorem gX37 {x0 x1 x2 x3 x4 x5 x6 x7 x8 x9 x10 x11 x12 x13 x14 x15 x16 x17 x18 x19 x20 x21 x22 x23 x24 x25 x26 x27 x28 x29 x30 x31 x32 x33 x34 x35 x36 x37 : X} : gX (x0 :: x1 :: x2 :: x3 :: x4 :: x5 :: x6 :: x7 :: x8 :: x9 :: x10 :: x11 :: x12 :: x13 :: x14 :: x15 :: x16 :: x17 :: x18 :: x19 :: x20 :: x21 :: x22 :: x23 :: x24 :: x25 :: x26 :: x27 :: x28 :: x29 :: x30 :: x31 :: x32 :: x33 :: x34 :: x35 :: x36 :: x37 :: r) 37 = x37 := rfl
@[simp] theorem sX37 {x0 x1 x2 x3 x4 x5 x6 x7 x8 x9 x10 x11 x12 x13 x14 x15 x16 x17 x18 x19 x20 x21 x22 x23 x24 x25 x26 x27 x28 x29 x30 x31 x32 x33 x34 x35 x36 x37 : X} : sX (x0 :: x1 :: x2 :: x3 :: x4 :: x5 :: x6 :: x7 :: x8 :: x9 :: x10 :: x11 :: x12 :: x13 :: x14 :: x15 :: x16 :: x17 :: x18 :: x19 :: x20 :: x21 :: x22 :: x23 :: x24 :: x25 :: x26 :: x27 :: x28 :: x29 :: x30 :: x31 :: x32 :: x33 :: x34 :: x35 :: x36 :: x37 :: r) 37 z = x0 :: x1 :: x2 :: x3 :: x4 :: x5 :: x6 :: x7 :: x8 :: x9 :: x10 :: x11 :: x12 :: x13 :: x14 :: x15 :: x16 :: x17 :: x18 :: x19 :: x20 :: x21 :: x22 :: x23 :: x24 :: x25 :: x26 :: x27 :: x28 :: x29 :: x30 :: x31 :: x32 :: x33 :: x34 :: x35 :: x36 :: z :: r := rfl
@[simp] theorem gO37 {x0 x1 x2 x3 x4 x5 x6 x7 x8 x9 x10 x11 x12 x13 x14 x15 x16 x17 x18 x19 x20 x21 x22 x23 x24 x25 x26 x27 x28 x29 x30 x31 x32 x33 x34 x35 x36 x37 : Option Ob} : gO (x0 :: x1 :: x2 :: x3 :: x4 :: x5 :: x6 :: x7 :: x8 :: x9 :: x10 :: x11 :: x12 :: x13 :: x14 :: x15 :: x16 :: x17 :: x18 :: x19 :: x20 :: x21 :: x22 :: x23 :: x24 :: x25 :: x26 :: x27 :: x28 :: x29 :: x30 :: x31 :: x32 :: x33 :: x34 :: x35 :: x36 :: x37 :: q) 37 = x37 := rfl
@[simp] theorem sO37 {x0 x1 x2 x3 x4 x5 x6 x7 x8 x9 x10 x11 x12 x13 x14 x15 x16 x17 x18 x19 x20 x21 x22 x23 x24 x25 x26 x27 x28 x29 x30 x31 x32 x33 x34 x35 x36 x37 : Option Ob} : sO (x0 :: x1 :: x2 :: x3 :: x4 :: x5 :: x6 :: x7 :: x8 :: x9 :: x10 :: x11 :: x12 :: x13 :: x14 :: x15 :: x16 :: x17 :: x18 :: x19 :: x20 :: x21 :: x22 :: x23 :: x24 :: x25 :: x26 :: x27 :: x28 :: x29 :: x30 :: x31 :: x32 :: x33 :: x34 :: x35 :: x36 :: x37 :: q) 37 y = x0 :: x1 :: x2 :: x3 :: x4 :: x5 :: x6 :: x7 :: x8 :: x9 :: x10 :: x11 :: x12 :: x13 :: x14 :: x15 :: x16 :: x17 :: x18 :: x19 :: x20 :: x21 :: x22 :: x23 :: x24 :: x25 :: x26 :: x27 :: x28 :: x29 :: x30 :: x31 :: x32 :: x33 :: x34 :: x35 :: x36 :: y :: q := rfl
@[simp] theorem nX37 : nX 37 = [.und, .und, .und, .und, .und, .und, .und, .und, .und, .und, .und, .und, .und, .und, .und, .und, .und, .und, .und, .und, .und, .und, .und, .und, .und, .und, .und, .und, .und, .und, .und, .und, .und, .und, .und, .und, .und] := rfl
@[simp] theorem nO37 : nO 37 = [none, none, none, none, none, none, none, none, none, none, none, none, none, none, none, none, none, none, none, none, none, none, none, none, none, none, none, none, none, none, none, none, none, none, none, none, none] := rfl
@[simp] theorem gX38 {x0 x1 x2 x3 x4 x5 x6 x7 x8 x9 x10 x11 x12 x13 x14 x15 x16 x17 x18 x19 x20 x21 x22 x23 x24 x25 x26 x27 x28 x29 x30 x31 x32 x33 x34 x35 x36 x37 x38 : X} : gX (x0 :: x1 :: x2 :: x3 :: x4 :: x5 :: x6 :: x7 :: x8 :: x9 :: x10 :: x11 :: x12 :: x13 :: x14 :: x15 :: x16 :: x17 :: x18 :: x19 :: x20 :: x21 :: x22 :: x23 :: x24 :: x25 :: x26 :: x27 :: x28 :: x29 :: x30 :: x31 :: x32 :: x33 :: x34 :: x35 :: x36 :: x37 :: x38 :: r) 38 = x38 := rfl
@[simp] theorem sX38 {x0 x1 x2 x3 x4 x5 x6 x7 x8 x9 x10 x11 x12 x13 x14 x15 x16 x17 x18 x19 x20 x21 x22 x23 x24 x25 x26 x27 x28 x29 x30 x31 x32 x33 x34 x35 x36 x37 x38 : X} : sX (x0 :: x1 :: x2 :: x3 :: x4 :: x5 :: x6 :: x7 :: x8 :: x9 :: x10 :: x11 :: x12 :: x13 :: x14 :: x15 :: x16 :: x17 :: x18 :: x19 :: x20 :: x21 :: x22 :: x23 :: x24 :: x25 :: x26 :: x27 :: x28 :: x29 :: x30 :: x31 :: x32 :: x33 :: x34 :: x35 :: x36 :: x37 :: x38 :: r) 38 z = x0 :: x1 :: x2 :: x3 :: x4 :: x5 :: x6 :: x7 :: x8 :: x9 :: x10 :: x11 :: x12 :: x13 :: x14 :: x15 :: x16 :: x17 :: x18 :: x19 :: x20 :: x21 :: x22 :: x23 :: x24 :: x25 :: x26 :: x27 :: x28 :: x29 :: x30 :: x31 :: x32 :: x33 :: x34 :: x35 :: x36 :: x37 :: z :: r := rfl
@[simp] theorem gO38 {x0 x1 x2 x3 x4 x5 x6 x7 x8 x9 x10 x11 x12 x13 x14 x15 x16 x17 x18 x19 x20 x21 x22 x23 x24 x25 x26 x27 x28 x29 x30 x31 x32 x33 x34 x35 x36 x37 x38 : Option Ob} : gO (x0 :: x1 :: x2 :: x3 :: x4 :: x5 :: x6 :: x7 :: x8 :: x9 :: x10 :: x11 :: x12 :: x13 :: x14 :: x15 :: x16 :: x17 :: x18 :: x19 :: x20 :: x21 :: x22 :: x23 :: x24 :: x25 :: x26 :: x27 :: x28 :: x29 :: x30 :: x31 :: x32 :: x33 :: x34 :: x35 :: x36 :: x37 :: x38 :: q) 38 = x38 := rfl
@[simp] theorem sO38 {x0 x1 x2 x3 x4 x5 x6 x7 x8 x9 x10 x11 x12 x13 x14 x15 x16 x17 x18 x19 x20 x21 x22 x23 x24 x25 x26 x27 x28 x29 x30 x31 x32 x33 x34 x35 x36 x37 x38 : Option Ob} : sO (x0 :: x1 :: x2 :: x3 :: x4 :: x5 :: x6 :: x7 :: x8 :: x9 :: x10 :: x11 :: x12 :: x13 :: x14 :: x15 :: x16 :: x17 :: x18 :: x19 :: x20 :: x21 :: x22 :: x23 :: x24 :: x25 :: x26 :: x27 :: x28 :: x29 :: x30 :: x31 :: x32 :: x33 :: x34 :: x35 :: x36 :: x37 :: x38 :: q) 38 y = x0 :: x1 :: x2 :: x3 :: x4 :: x5 :: x6 :: x7 :: x8 :: x9 :: x10 :: x11 :: x12 :: x13 :: x14 :: x15 :: x16 :: x17 :: x18 :: x19 :: x20 :: x21 :: x22 :: x23 :: x24 :: x25 :: x26 :: x27 :: x28 :: x29 :: x30 :: x31 :: x32 :: x33 :: x34 :: x35 :: x36 :: x37 :: y :: q := rfl
@[simp] theorem nX38 : nX 38 = [.und, .und, .und, .und, .und, .und, .und, .und, .und, .und, .und, .und, .und, .und, .und, .und, .und, .und, .und, .und, .und, .und, .und, .und, .und, .und, .und, .und, .und, .und, .und, .und, .und, .und, .und, .und, .und, .und] := rfl
@[simp] theorem nO38 : nO 38 = [none, none, none, none, none, none, none, none, none, none, none, none, none, none, none, none, none, none, none, none, none, none, none, none, none, none, none, none, none, none, none, none, none, none, none, none, none, none] := rfl
@[simp] theorem gX39 {x0 x1 x2 x3 x4 x5 x6 x7 x8 x9 x10 x11 x12 x13 x14 x15 x16 x17 x18 x19 x20 x21 x22 x23 x24 x25 x26 x27 x28 x29 x30 x31 x32 x33 x34 x35 x36 x37 x38 x39 : X} : gX (x0 :: x1 :: x2 :: x3 :: x4 :: x5 :: x6 :: x7 :: x8 :: x9 :: x10 :: x11 :: x12 :: x13 :: x14 :: x15 :: x16 :: x17 :: x18 :: x19 :: x20 :: x21 :: x22 :: x23 :: x24 :: x25 :: x26 :: x27 :: x28 :: x29 :: x30 :: x31 :: x32 :: x33 :: x34 :: x35 :: x36 :: x37 :: x38 :: x39 :: r) 39 = x39 := rfl
@[simp] theorem sX39 {x0 x1 x2 x3 x4 x5 x6 x7 x8 x9 x10 x11 x12 x13 x14 x15 x16 x17 x18 x19 x20 x21 x22 x23 x24 x25 x26 x27 x28 x29 x30 x31 x32 x33 x34 x35 x36 x37 x38 x39 : X} : sX (x0 :: x1 :: x2 :: x3 :: x4 :: x5 :: x6 :: x7 :: x8 :: x9 :: x10 :: x11 :: x12 :: x13 :: x14 :: x15 :: x16 :: x17 :: x18 :: x19 :: x20 :: x21 :: x22 :: x23 :: x24 :: x25 :: x26 :: x27 :: x28 :: x29 :: x30 :: x31 :: x32 :: x33 :: x34 :: x35 :: x36 :: x37 :: x38 :: x39 :: r) 39 z = x0 :: x1 :: x2 :: x3 :: x4 :: x5 :: x6 :: x7 :: x8 :: x9 :: x10 :: x11 :: x12 :: x13 :: x14 :: x15 :: x16 :: x17 :: x18 :: x19 :: x20 :: x21 :: x22 :: x23 :: x24 :: x25 :: x26 :: x27 :: x28 :: x29 :: x30 :: x31 :: x32 :: x33 :: x34 :: x35 :: x36 :: x37 :: x38 :: z :: r := rfl
@[simp] theorem gO39 {x0 x1 x2 x3 x4 x5 x6 x7 x8 x9 x10 x11 x12 x13 x14 x15 x16 x17 x18 x19 x20 x21 x22 x23 x24 x25 x26 x27 x28 x29 x30 x31 x32 x33 x34 x35 x36 x37 x38 x39 : Option Ob} : gO (x0 :: x1 :: x2 :: x3 :: x4 :: x5 :: x6 :: x7 :: x8 :: x9 :: x10 :: x11 :: x12 :: x13 :: x14 :: x15 :: x16 :: x17 :: x18 :: x19 :: x20 :: x21 :: x22 :: x23 :: x24 :: x25 :: x26 :: x27 :: x28 :: x29 :: x30 :: x31 :: x32 :: x33 :: x34 :: x35 :: x36 :: x37 :: x38 :: x39 :: q) 39 = x39 := rfl
@[simp] theorem sO39 {x0 x1 x2 x3 x4 x5 x6 x7 x8 x9 x10 x11 x12 x13 x14 x15 x16 x17 x18 x19 x20 x21 x22 x23 x24 x25 x26 x27 x28 x29 x30 x31 x32 x33 x34 x35 x36 x37 x38 x39 : Option Ob} : sO (x0 :: x1 :: x2 :: x3 :: x4 :: x5 :: x6 :: x7 :: x8 :: x9 :: x10 :: x11 :: x12 :: x13 :: x14 :: x15 :: x16 :: x17 :: x18 :: x19 :: x20 :: x21 :: x22 :: x23 :: x24 :: x25 :: x26 :: x27 :: x28 :: x29 :: x30 :: x31 :: x32 :: x33 :: x34 :: x35 :: x36 :: x37 :: x38 :: x39 :: q) 39 y = x0 :: x1 :: x2 :: x3 :: x4 :: x5 :: x6 :: x7 :: x8 :: x9 :: x10 :: x11 :: x12 :: x13 :: x14 :: x15 :: x16 :: x17 :: x18 :: x19 :: x20 :: x21 :: x22 :: x23 :: x24 :: x25 :: x26 :: x27 :: x28 :: x29 :: x30 :: x31 :: x32 :: x33 :: x34 :: x35 :: x36 :: x37 :: x38 :: y :: q := rfl
@[simp] theorem nX39 : nX 39 = [.und, .und, .und, .und, .und, .und, .und, .und, .und, .und, .und, .und, .und, .und, .und, .und, .und, .und, .und, .und, .und, .und, .und, .und, .und, .und, .und, .und, .und, .und, .und, .und, .und, .und, .und, .und, .und, .und, .und] := rfl
@[simp] theorem nO39 : nO 39 = [none, none, none, none, none, none, none, none, none, none, none, none, none, none, none, none, none, none, none, none, none, none, none, none, none, none, none, none, none, none, none, none, none, none, none, none, none, none, none] := rfl
@[simp] theorem gX40 {x0 x1 x2 x3 x4 x5 x6 x7 x8 x9 x10 x11 x12 x13 x14 x15 x16 x17 x18 x19 x20 x21 x22 x23 x24 x25 x26 x27 x28 x29 x30 x31 x32 x33 x34 x35 x36 x37 x38 x39 x40 : X} : gX (x0 :: x1 :: x2 :: x3 :: x4 :: x5 :: x6 :: x7 :: x8 :: x9 :: x10 :: x11 :: x12 :: x13 :: x14 :: x15 :: x16 :: x17 :: x18 :: x19 :: x20 :: x21 :: x22 :: x23 :: x24 :: x25 :: x26 :: x27 :: x28 :: x29 :: x30 :: x31 :: x32 :: x33 :: x34 :: x35 :: x36 :: x37 :: x38 :: x39 :: x40 :: r) 40 = x40 := rfl
@[simp] theorem sX40 {x0 x1 x2 x3 x4 x5 x6 x7 x8 x9 x10 x11 x12 x13 x14 x15 x16 x17 x18 x19 x20 x21 x22 x23 x24 x25 x26 x27 x28 x29 x30 x31 x32 x33 x34 x35 x36 x37 x38 x39 x40 : X} : sX (x0 :: x1 :: x2 :: x3 :: x4 :: x5 :: x6 :: x7 :: x8 :: x9 :: x10 :: x11 :: x12 :: x13 :: x14 :: x15 :: x16 :: x17 :: x18 :: x19 :: x20 :: x21 :: x22 :: x23 :: x24 :: x25 :: x26 :: x27 :: x28 :: x29 :: x30 :: x31 :: x32 :: x33 :: x34 :: x35 :: x36 :: x37 :: x38 :: x39 :: x40 :: r) 40 z = x0 :: x1 :: x2 :: x3 :: x4 :: x5 :: x6 :: x7 :: x8 :: x9 :: x10 :: x11 :: x12 :: x13 :: x14 :: x15 :: x16 :: x17 :: x18 :: x19 :: x20 :: x21 :: x22 :: x23 :: x24 :: x25 :: x26 :: x27 :: x28 :: x29 :: x30 :: x31 :: x32 :: x33 :: x34 :: x35 :: x36 :: x37 :: x38 :: x39 :: z :: r := rfl
@[simp] theorem gO40 {x0 x1 x2 x3 x4 x5 x6 x7 x8 x9 x10 x11 x12 x13 x14 x15 x16 x17 x18 x19 x20 x21 x22 x23 x24 x25 x26 x27 x28 x29 x30 x31 x32 x33 x34 x35 x36 x37 x38 x39 x40 : Option Ob} : gO (x0 :: x1 :: x2 :: x3 :: x4 :: x5 :: x6 :: x7 :: x8 :: x9 :: x10 :: x11 :: x12 :: x13 :: x14 :: x15 :: x16 :: x17 :: x18 :: x19 :: x20 :: x21 :: x22 :: x23 :: x24 :: x25 :: x26 :: x27 :: x28 :: x29 :: x30 :: x31 :: x32 :: x33 :: x34 :: x35 :: x36 :: x37 :: x38 :: x39 :: x40 :: q) 40 = x40 := rfl
@[simp] theorem sO40 {x0 x1 x2 x3 x4 x5 x6 x7 x8 x9 x10 x11 x12 x13 x14 x15 x16 x17 x18 x19 x20 x21 x22 x23 x24 x25 x26 x27 x28 x29 x30 x31 x32 x33 x34 x35 x36 x37 x38 x39 x40 : Option Ob} : sO (x0 :: x1 :: x2 :: x3 :: x4 :: x5 :: x6 :: x7 :: x8 :: x9 :: x10 :: x11 :: x12 :: x13 :: x14 :: x15 :: x16 :: x17 :: x18 :: x19 :: x20 :: x21 :: x22 :: x23 :: x24 :: x25 :: x26 :: x27 :: x28 :: x29 :: x30 :: x31 :: x32 :: x33 :: x34 :: x35 :: x36 :: x37 :: x38 :: x39 :: x40 :: q) 40 y = x0 :: x1 :: x2 :: x3 :: x4 :: x5 :: x6 :: x7 :: x8 :: x9 :: x10 :: x11 :: x12 :: x13 :: x14 :: x15 :: x16 :: x17 :: x18 :: x19 :: x20 :: x21 :: x22 :: x23 :: x24 :: x25 :: x26 :: x27 :: x28 :: x29 :: x30 :: x31 :: x32 :: x33 :: x34 :: x35 :: x36 :: x37 :: x38 :: x39 :: y :: q := rfl
@[simp] theorem nX40 : nX 40 = [.und, .und, .und, .und, .und, .und, .und, .und, .und, .und, .und, .und, .und, .und, .und, .und, .und, .und, .und, .und, .und, .und, .und, .und, .und, .und, .und, .und, .und, .und, .und, .und, .und, .und, .und, .und, .und, .und, .und, .und] := rfl
@[simp] theorem nO40 : nO 40 = [none, none, none, none, none, none, none, none, none, none, none, none, none, none, none, none, none, none, none, none, none, none, none, none, none, none, none, none, none, none, none, none, none, none, none, none, none, none, none, none] := rfl
@[simp] theorem gX41 {x0 x1 x2 x3 x4 x5 x6 x7 x8 x9 x10 x11 x12 x13 x14 x15 x16 x17 x18 x19 x20 x21 x22 x23 x24 x25 x26 x27 x28 x29 x30 x31 x32 x33 x34 x35 x36 x37 x38 x39 x40 x41 : X} : gX (x0 :: x1 :: x2 :: x3 :: x4 :: x5 :: x6 :: x7 :: x8 :: x9 :: x10 :: x11 :: x12 :: x13 :: x14 :: x15 :: x16 :: x17 :: x18 :: x19 :: x20 :: x21 :: x22 :: x23 :: x24 :: x25 :: x26 :: x27 :: x28 :: x29 :: x30 :: x31 :: x32 :: x33 :: x34 :: x35 :: x36 :: x37 :: x38 :: x39 :: x40 :: x41 :: r) 41 = x41 := rfl
@[simp] theorem sX41 {x0 x1 x2 x3 x4 x5 x6 x7 x8 x9 x10 x11 x12 x13 x14 x15 x16 x17 x18 x19 x20 x21 x22 x23 x24 x25 x26 x27 x28 x29 x30 x31 x32 x33 x34 x35 x36 x37 x38 x39 x40 x41 : X} : sX (x0 :: x1 :: x2 :: x3 :: x4 :: x5 :: x6 :: x7 :: x8 :: x9 :: x10 :: x11 :: x12 :: x13 :: x14 :: x15 :: x16 :: x17 :: x18 :: x19 :: x20 :: x21 :: x22 :: x23 :: x24 :: x25 :: x26 :: x27 :: x28 :: x29 :: x30 :: x31 :: x32 :: x33 :: x34 :: x35 :: x36 :: x37 :: x38 :: x39 :: x40 :: x41 :: r) 41 z = x0 :: x1 :: x2 :: x3 :: x4 :: x5 :: x6 :: x7 :: x8 :: x9 :: x10 :: x11 :: x12 :: x13 :: x14 :: x15 :: x16 :: x17 :: x18 :: x19 :: x20 :: x21 :: x22 :: x23 :: x24 :: x25 :: x26 :: x27 :: x28 :: x29 :: x30 :: x31 :: x32 :: x33 :: x34 :: x35 :: x36 :: x37 :: x38 :: x39 :: x40 :: z :: r := rfl
@[simp] theorem gO41 {x0 x1 x2 x3 x4 x5 x6 x7 x8 x9 x10 x11 x12 x13 x14 x15 x16 x17 x18 x19 x20 x21 x22 x23 x24 x25 x26 x27 x28 x29 x30 x31 x32 x33 x34 x35 x36 x37 x38 x39 x40 x41 : Option Ob} : gO (x0 :: x1 :: x2 :: x3 :: x4 :: x5 :: x6 :: x7 :: x8 :: x9 :: x10 :: x11 :: x12 :: x13 :: x14 :: x15 :: x16 :: x17 :: x18 :: x19 :: x20 :: x21 :: x22 :: x23 :: x24 :: x25 :: x26 :: x27 :: x28 :: x29 :: x30 :: x31 :: x32 :: x33 :: x34 :: x35 :: x36 :: x37 :: x38 :: x39 :: x40 :: x41 :: q) 41 = x41 := rfl
@[simp] theorem sO41 {x0 x1 x2 x3 x4 x5 x6 x7 x8 x9 x10 x11 x12 x13 x14 x15 x16 x17 x18 x19 x20 x21 x22 x23 x24 x25 x26 x27 x28 x29 x30 x31 x32 x33 x34 x35 x36 x37 x38 x39 x40 x41 : Option Ob} : sO (x0 :: x1 :: x2 :: x3 :: x4 :: x5 :: x6 :: x7 :: x8 :: x9 :: x10 :: x11 :: x12 :: x13 :: x14 :: x15 :: x16 :: x17 :: x18 :: x19 :: x20 :: x21 :: x22 :: x23 :: x24 :: x25 :: x26 :: x27 :: x28 :: x29 :: x30 :: x31 :: x32 :: x33 :: x34 :: x35 :: x36 :: x37 :: x38 :: x39 :: x40 :: x41 :: q) 41 y = x0 :: x1 :: x2 :: x3 :: x4 :: x5 :: x6 :: x7 :: x8 :: x9 :: x10 :: x11 :: x12 :: x13 :: x14 :: x15 :: x16 :: x17 :: x18 :: x19 :: x20 :: x21 :: x22 :: x23 :: x24 :: x25 :: x26 :: x27 :: x28 :: x29 :: x30 :: x31 :: x32 :: x33 :: x34 :: x35 :: x36 :: x37 :: x38 :: x39 :: x40 :: y :: q := rfl
@[simp] theorem nX41 : nX 41 = [.und, .und, .und, .und, .und, .und, .und, .und, .und, .und, .und, .und, .und, .und, .und, .und, .und, .und, .und, .und, .und, .und, .und, .und, .und, .und, .und, .und, .und, .und, .und, .und, .und, .und, .und, .und, .und, .und, .und, .und, .und] := rfl
@[simp] theorem nO41 : nO 41 = [none, none, none, none, none, none, none, none, none, none, none, none, none, none, none, none, none, none, none, none, none, none, none, none, none, none, none, none, none, none, none, none, none, none, none, none, none, none, none, none, none] := rfl
@[simp] theorem gX42 {x0 x1 x2 x3 x4 x5 x6 x7 x8 x9 x10 x11 x12 x13 x14 x15 x16 x17 x18 x19 x20 x21 x22 x23 x24 x25 x26 x27 x28 x29 x30 x31 x32 x33 x34 x35 x36 x37 x38 x39 x40 x41 x42 : X} : gX (x0 :: x1 :: x2 :: x3 :: x4 :: x5 :: x6 :: x7 :: x8 :: x9 :: x10 :: x11 :: x12 :: x13 :: x14 :: x15 :: x16 :: x17 :: x18 :: x19 :: x20 :: x21 :: x22 :: x23 :: x24 :: x25 :: x26 :: x27 :: x28 :: x29 :: x30 :: x31 :: x32 :: x33 :: x34 :: x35 :: x36 :: x37 :: x38 :: x39 :: x40 :: x41 :: x42 :: r) 42 = x42 := rfl
@[simp] theorem sX42 {x0 x1 x2 x3 x4 x5 x6 x7 x8 x9 x10 x11 x12 x13 x14 x15 x16 x17 x18 x19 x20 x21 x22 x23 x24 x25 x26 x27 x28 x29 x30 x31 x32 x33 x34 x35 x36 x37 x38 x39 x40 x41 x42 : X} : sX (x0 :: x1 :: x2 :: x3 :: x4 :: x5 :: x6 :: x7 :: x8 :: x9 :: x10 :: x11 :: x12 :: x13 :: x14 :: x15 :: x16 :: x17 :: x18 :: x19 :: x20 :: x21 :: x22 :: x23 :: x24 :: x25 :: x26 :: x27 :: x28 :: x29 :: x30 :: x31 :: x32 :: x33 :: x34 :: x35 :: x36 :: x37 :: x38 :: x39 :: x40 :: x41 :: x42 :: r) 42 z = x0 :: x1 :: x2 :: x3 :: x4 :: x5 :: x6 :: x7 :: x8 :: x9 :: x10 :: x11 :: x12 :: x13 :: x14 :: x15 :: x16 :: x17 :: x18 :: x19 :: x20 :: x21 :: x22 :: x23 :: x24 :: x25 :: x26 :: x27 :: x28 :: x29 :: x30 :: x31 :: x32 :: x33 :: x34 :: x35 :: x36 :: x37 :: x38 :: x39 :: x40 :: x41 :: z :: r := rfl
@[simp] theorem gO42 {x0 x1 x2 x3 x4 x5 x6 x7 x8 x9 x10 x11 x12 x13 x14 x15 x16 x17 x18 x19 x20 x21 x22 x23 x24 x25 x26 x27 x28 x29 x30 x31 x32 x33 x34 x35 x36 x37 x38 x39 x40 x41 x42 : Option Ob} : gO (x0 :: x1 :: x2 :: x3 :: x4 :: x5 :: x6 :: x7 :: x8 :: x9 :: x10 :: x11 :: x12 :: x13 :: x14 :: x15 :: x16 :: x17 :: x18 :: x19 :: x20 :: x21 :: x22 :: x23 :: x24 :: x25 :: x26 :: x27 :: x28 :: x29 :: x30 :: x31 :: x32 :: x33 :: x34 :: x35 :: x36 :: x37 :: x38 :: x39 :: x40 :: x41 :: x42 :: q) 42 = x42 := rfl
@[simp] theorem sO42 {x0 x1 x2 x3 x4 x5 x6 x7 x8 x9 x10 x11 x12 x13 x14 x15 x16 x17 x18 x19 x20 x21 x22 x23 x24 x25 x26 x27 x28 x29 x30 x31 x32 x33 x34 x35 x36 x37 x38 x39 x40 x41 x42 : Option Ob} : sO (x0 :: x1 :: x2 :: x3 :: x4 :: x5 :: x6 :: x7 :: x8 :: x9 :: x10 :: x11 :: x12 :: x13 :: x14 :: x15 :: x16 :: x17 :: x18 :: x19 :: x20 :: x21 :: x22 :: x23 :: x24 :: x25 :: x26 :: x27 :: x28 :: x29 :: x30 :: x31 :: x32 :: x33 :: x34 :: x35 :: x36 :: x37 :: x38 :: x39 :: x40 :: x41 :: x42 :: q) 42 y = x0 :: x1 :: x2 :: x3 :: x4 :: x5 :: x6 :: x7 :: x8 :: x9 :: x10 :: x11 :: x12 :: x13 :: x14 :: x15 :: x16 :: x17 :: x18 :: x19 :: x20 :: x21 :: x22 :: x23 :: x24 :: x25 :: x26 :: x27 :: x28 :: x29 :: x30 :: x31 :: x32 :: x33 :: x34 :: x35 :: x36 :: x37 :: x38 :: x39 :: x40 :: x41 :: y :: q := rfl
@[simp] theorem nX42 : nX 42 = [.und, .und, .und, .und, .und, .und, .und, .und, .und, .und, .und, .und, .und, .und, .und, .und, .und, .und, .und, .und, .und, .und, .und, .und, .und, .und, .und, .und, .und, .und, .und, .und, .und, .und, .und, .und, .und, .und, .und, .und, .und, .und] := rfl
@[simp] theorem nO42 : nO 42 = [none, none, none, none, none, none, none, none, none, none, none, none, none, none, none, none, none, none, none, none, none, none, none, none, none, none, none, none, none, none, none, none, none, none, none, none, none, none, none, none, none, none] := rfl
@[simp] theorem gX43 {x0 x1 x2 x3 x4 x5 x6 x7 x8 x9 x10 x11 x12 x13 x14 x15 x16 x17 x18 x19 x20 x21 x22 x23 x24 x25 x26 x27 x28 x29 x30 x31 x32 x33 x34 x35 x36 x37 x38 x39 x40 x41 x42 x43 : X} : gX (x0 :: x1 :: x2 :: x3 :: x4 :: x5 :: x6 :: x7 :: x8 :: x9 :: x10 :: x11 :: x12 :: x13 :: x14 :: x15 :: x16 :: x17 :: x18 :: x19 :: x20 :: x21 :: x22 :: x23 :: x24 :: x25 :: x26 :: x27 :: x28 :: x29 :: x30 :: x31 :: x32 :: x33 :: x34 :: x35 :: x36 :: x37 :: x38 :: x39 :: x40 :: x41 :: x42 :: x43 :: r) 43 = x43 := rfl
@[simp] theorem sX43 {x0 x1 x2 x3 x4 x5 x6 x7 x8 x9 x10 x11 x12 x13 x14 x15 x16 x17 x18 x19 x20 x21 x22 x23 x24 x25 x26 x27 x28 x29 x30 x31 x32 x33 x34 x35 x36 x37 x38 x39 x40 x41 x42 x43 : X} : sX (x0 :: x1 :: x2 :: x3 :: x4 :: x5 :: x6 :: x7 :: x8 :: x9 :: x10 :: x11 :: x12 :: x13 :: x14 :: x15 :: x16 :: x17 :: x18 :: x19 :: x20 :: x21 :: x22 :: x23 :: x24 :: x25 :: x26 :: x27 :: x28 :: x29 :: x30 :: x31 :: x32 :: x33 :: x34 :: x35 :: x36 :: x37 :: x38 :: x39 :: x40 :: x41 :: x42 :: x43 :: r) 43 z = x0 :: x1 :: x2 :: x3 :: x4 :: x5 :: x6 :: x7 :: x8 :: x9 :: x10 :: x11 :: x12 :: x13 :: x14 :: x15 :: x16 :: x17 :: x18 :: x19 :: x20 :: x21 :: x22 :: x23 :: x24 :: x25 :: x26 :: x27 :: x28 :: x29 :: x30 :: x31 :: x32 :: x33 :: x34 :: x35 :: x36 :: x37 :: x38 :: x39 :: x40 :: x41 :: x42 :: z :: r := rfl
@[simp] theorem gO43 {x0 x1 x2 x3 x4 x5 x6 x7 x8 x9 x10 x11 x12 x13 x14 x15 x16 x17 x18 x19 x20 x21 x22 x23 x24 x25 x26 x27 x28 x29 x30 x31 x32 x33 x34 x35 x36 x37 x38 x39 x40 x41 x42 x43 : Option Ob} : gO (x0 :: x1 :: x2 :: x3 :: x4 :: x5 :: x6 :: x7 :: x8 :: x9 :: x10 :: x11 :: x12 :: x13 :: x14 :: x15 :: x16 :: x17 :: x18 :: x19 :: x20 :: x21 :: x22 :: x23 :: x24 :: x25 :: x26 :: x27 :: x28 :: x29 :: x30 :: x31 :: x32 :: x33 :: x34 :: x35 :: x36 :: x37 :: x38 :: x39 :: x40 :: x41 :: x42 :: x43 :: q) 43 = x43 := rfl
@[simp] theorem sO43 {x0 x1 x2 x3 x4 x5 x6 x7 x8 x9 x10 x11 x12 x13 x14 x15 x16 x17 x18 x19 x20 x21 x22 x23 x24 x25 x26 x27 x28 x29 x30 x31 x32 x33 x34 x35 x36 x37 x38 x39 x40 x41 x42 x43 : Option Ob} : sO (x0 :: x1 :: x2 :: x3 :: x4 :: x5 :: x6 :: x7 :: x8 :: x9 :: x10 :: x11 :: x12 :: x13 :: x14 :: x15 :: x16 :: x17 :: x18 :: x19 :: x20 :: x21 :: x22 :: x23 :: x24 :: x25 :: x26 :: x27 :: x28 :: x29 :: x30 :: x31 :: x32 :: x33 :: x34 :: x35 :: x36 :: x37 :: x38 :: x39 :: x40 :: x41 :: x42 :: x43 :: q) 43 y = x0 :: x1 :: x2 :: x3 :: x4 :: x5 :: x6 :: x7 :: x8 :: x9 :: x10 :: x11 :: x12 :: x13 :: x14 :: x15 :: x16 :: x17 :: x18 :: x19 :: x20 :: x21 :: x22 :: x23 :: x24 :: x25 :: x26 :: x27 :: x28 :: x29 :: x30 :: x31 :: x32 :: x33 :: x34 :: x35 :: x36 :: x37 :: x38 :: x39 :: x40 :: x41 :: x42 :: y :: q := rfl
@[simp] theorem nX43 : nX 43 = [.und, .und, .und, .und, .und, .und, .und, .und, .und, .und, .und, .und, .und, .und, .und, .und, .und, .und, .und, .und, .und, .und, .und, .und, .und, .und, .und, .und, .und, .und, .und, .und, .und, .und, .und, .und, .und, .und, .und, .und, .und, .und, .und] := rfl
@[simp] theorem nO43 : nO 43 = [none, none, none, none, none, none, none, none, none, none, none, none, none, none, none, none, none, none, none, none, none, none, none, none, none, none, none, none, none, none, none, none, none, none, none, none, none, none, none, none, none, none, none] := rfl
@[simp] theorem gX44 {x0 x1 x2 x3 x4 x5 x6 x7 x8 x9 x10 x11 x12 x13 x14 x15 x16 x17 x18 x19 x20 x21 x22 x23 x24 x25 x26 x27 x28 x29 x30 x31 x32 x33 x34 x35 x36 x37 x38 x39 x40 x41 x42 x43 x44 : X} : gX (x0 :: x1 :: x2 :: x3 :: x4 :: x5 :: x6 :: x7 :: x8 :: x9 :: x10 :: x11 :: x12 :: x13 :: x14 :: x15 :: x16 :: x17 :: x18 :: x19 :: x20 :: x21 :: x22 :: x23 :: x24 :: x25 :: x26 :: x27 :: x28 :: x29 :: x30 :: x31 :: x32 :: x33 :: x34 :: x35 :: x36 :: x37 :: x38 :: x39 :: x40 :: x41 :: x42 :: x43 :: x44 :: r) 44 = x44 := rfl
@[simp] theorem sX44 {x0 x1 x2 x3 x4 x5 x6 x7 x8 x9 x10 x11 x12 x13 x14 x15 x16 x17 x18 x19 x20 x21 x22 x23 x24 x25 x26 x27 x28 x29 x30 x31 x32 x33 x34 x35 x36 x37 x38 x39 x40 x41 x42 x43 x44 : X} : sX (x0 :: x1 :: x2 :: x3 :: x4 :: x5 :: x6 :: x7 :: x8 :: x9 :: x10 :: x11 :: x12 :: x13 :: x14 :: x15 :: x16 :: x17 :: x18 :: x19 :: x20 :: x21 :: x22 :: x23 :: x24 :: x25 :: x26 :: x27 :: x28 :: x29 :: x30 :: x31 :: x32 :: x33 :: x34 :: x35 :: x36 :: x37 :: x38 :: x39 :: x40 :: x41 :: x42 :: x43 :: x44 :: r) 44 z = x0 :: x1 :: x2 :: x3 :: x4 :: x5 :: x6 :: x7 :: x8 :: x9 :: x10 :: x11 :: x12 :: x13 :: x14 :: x15 :: x16 :: x17 :: x18 :: x19 :: x20 :: x21 :: x22 :: x23 :: x24 :: x25 :: x26 :: x27 :: x28 :: x29 :: x30 :: x31 :: x32 :: x33 :: x34 :: x35 :: x36 :: x37 :: x38 :: x39 :: x40 :: x41 :: x42 :: x43 :: z :: r := rfl
@[simp] theorem gO44 {x0 x1 x2 x3 x4 x5 x6 x7 x8 x9 x10 x11 x12 x13 x14 x15 x16 x17 x18 x19 x20 x21 x22 x23 x24 x25 x26 x27 x28 x29 x30 x31 x32 x33 x34 x35 x36 x37 x38 x39 x40 x41 x42 x43 x44 : Option Ob} : gO (x0 :: x1 :: x2 :: x3 :: x4 :: x5 :: x6 :: x7 :: x8 :: x9 :: x10 :: x11 :: x12 :: x13 :: x14 :: x15 :: x16 :: x17 :: x18 :: x19 :: x20 :: x21 :: x22 :: x23 :: x24 :: x25 :: x26 :: x27 :: x28 :: x29 :: x30 :: x31 :: x32 :: x33 :: x34 :: x35 :: x36 :: x37 :: x38 :: x39 :: x40 :: x41 :: x42 :: x43 :: x44 :: q) 44 = x44 := rfl
@[simp] theorem sO44 {x0 x1 x2 x3 x4 x5 x6 x7 x8 x9 x10 x11 x12 x13 x14 x15 x16 x17 x18 x19 x20 x21 x22 x23 x24 x25 x26 x27 x28 x29 x30 x31 x32 x33 x34 x35 x36 x37 x38 x39 x40 x41 x42 x43 x44 : Option Ob} : sO (x0 :: x1 :: x2 :: x3 :: x4 :: x5 :: x6 :: x7 :: x8 :: x9 :: x10 :: x11 :: x12 :: x13 :: x14 :: x15 :: x16 :: x17 :: x18 :: x19 :: x20 :: x21 :: x22 :: x23 :: x24 :: x25 :: x26 :: x27 :: x28 :: x29 :: x30 :: x31 :: x32 :: x33 :: x34 :: x35 :: x36 :: x37 :: x38 :: x39 :: x40 :: x41 :: x42 :: x43 :: x44 :: q) 44 y = x0 :: x1 :: x2 :: x3 :: x4 :: x5 :: x6 :: x7 :: x8 :: x9 :: x10 :: x11 :: x12 :: x13 :: x14 :: x15 :: x16 :: x17 :: x18 :: x19 :: x20 :: x21 :: x22 :: x23 :: x24 :: x25 :: x26 :: x27 :: x28 :: x29 :: x30 :: x31 :: x32 :: x33 :: x34 :: x35 :: x36 :: x37 :: x38 :: x39 :: x40 :: x41 :: x42 :: x43 :: y :: q := rfl
@[simp] theorem nX44 : nX 44 = [.und, .und, .und, .und, .und, .und, .und, .und, .und, .und, .und, .und, .und, .und, .und, .und, .und, .und, .und, .und, .und, .und, .und, .und, .und, .und, .und, .und, .und, .und, .und, .und, .und, .und, .und, .und, .und, .und, .und, .und, .und, .und, .und, .und] := rfl
@[simp] theorem nO44 : nO 44 = [none, none, none, none, none, none, none, none, none, none, none, none, none, none, none, none, none, none, none, none, none, none, none, none, none, none, none, none, none, none, none, none, none, none, none, none, none, none, none, none, none, none, none, none] := rfl
@[simp] theorem gX45 {x0 x1 x2 x3 x4 x5 x6 x7 x8 x9 x10 x11 x12 x13 x14 x15 x16 x17 x18 x19 x20 x21 x22 x23 x24 x25 x26 x27 x28 x29 x30 x31 x32 x33 x34 x35 x36 x37 x38 x39 x40 x41 x42 x43 x44 x45 : X} : gX (x0 :: x1 :: x2 :: x3 :: x4 :: x5 :: x6 :: x7 :: x8 :: x9 :: x10 :: x11 :: x12 :: x13 :: x14 :: x15 :: x16 :: x17 :: x18 :: x19 :: x20 :: x21 :: x22 :: x23 :: x24 :: x25 :: x26 :: x27 :: x28 :: x29 :: x30 :: x31 :: x32 :: x33 :: x34 :: x35 :: x36 :: x37 :: x38 :: x39 :: x40 :: x41 :: x42 :: x43 :: x44 :: x45 :: r) 45 = x45 := rfl
@[simp] theorem sX45 {x0 x1 x2 x3 x4 x5 x6 x7 x8 x9 x10 x11 x12 x13 x14 x15 x16 x17 x18 x19 x20 x21 x22 x23 x24 x25 x26 x27 x28 x29 x30 x31 x32 x33 x34 x35 x36 x37 x38 x39 x40 x41 x42 x43 x44 x45 : X} : sX (x0 :: x1 :: x2 :: x3 :: x4 :: x5 :: x6 :: x7 :: x8 :: x9 :: x10 :: x11 :: x12 :: x13 :: x14 :: x15 :: x16 :: x17 :: x18 :: x19 :: x20 :: x21 :: x22 :: x23 :: x24 :: x25 :: x26 :: x27 :: x28 :: x29 :: x30 :: x31 :: x32 :: x33 :: x34 :: x35 :: x36 :: x37 :: x38 :: x39 :: x40 :: x41 :: x42 :: x43 :: x44 :: x45 :: r) 45 z = x0 :: x1 :: x2 :: x3 :: x4 :: x5 :: x6 :: x7 :: x8 :: x9 :: x10 :: x11 :: x12 :: x13 :: x14 :: x15 :: x16 :: x17 :: x18 :: x19 :: x20 :: x21 :: x22 :: x23 :: x24 :: x25 :: x26 :: x27 :: x28 :: x29 :: x30 :: x31 :: x32 :: x33 :: x34 :: x35 :: x36 :: x37 :: x38 :: x39 :: x40 :: x41 :: x42 :: x43 :: x44 :: z :: r := rfl
@[simp] theorem gO45 {x0 x1 x2 x3 x4 x5 x6 x7 x8 x9 x10 x11 x12 x13 x14 x15 x16 x17 x18 x19 x20 x21 x22 x23 x24 x25 x26 x27 x28 x29 x30 x31 x32 x33 x34 x35 x36 x37 x38 x39 x40 x41 x42 x43 x44 x45 : Option Ob} : gO (x0 :: x1 :: x2 :: x3 :: x4 :: x5 :: x6 :: x7 :: x8 :: x9 :: x10 :: x11 :: x12 :: x13 :: x14 :: x15 :: x16 :: x17 :: x18 :: x19 :: x20 :: x21 :: x22 :: x23 :: x24 :: x25 :: x26 :: x27 :: x28 :: x29 :: x30 :: x31 :: x32 :: x33 :: x34 :: x35 :: x36 :: x37 :: x38 :: x39 :: x40 :: x41 :: x42 :: x43 :: x44 :: x45 :: q) 45 = x45 := rfl
@[simp] theorem sO45 {x0 x1 x2 x3 x4 x5 x6 x7 x8 x9 x10 x11 x12 x13 x14 x15 x16 x17 x18 x19 x20 x21 x22 x23 x24 x25 x26 x27 x28 x29 x30 x31 x32 x33 x34 x35 x36 x37 x38 x39 x40 x41 x42 x43 x44 x45 : Option Ob} : sO (x0 :: x1 :: x2 :: x3 :: x4 :: x5 :: x6 :: x7 :: x8 :: x9 :: x10 :: x11 :: x12 :: x13 :: x14 :: x15 :: x16 :: x17 :: x18 :: x19 :: x20 :: x21 :: x22 :: x23 :: x24 :: x25 :: x26 :: x27 :: x28 :: x29 :: x30 :: x31 :: x32 :: x33 :: x34 :: x35 :: x36 :: x37 :: x38 :: x39 :: x40 :: x41 :: x42 :: x43 :: x44 :: x45 :: q) 45 y = x0 :: x1 :: x2 :: x3 :: x4 :: x5 :: x6 :: x7 :: x8 :: x9 :: x10 :: x11 :: x12 :: x13 :: x14 :: x15 :: x16 :: x17 :: x18 :: x19 :: x20 :: x21 :: x22 :: x23 :: x24 :: x25 :: x26 :: x27 :: x28 :: x29 :: x30 :: x31 :: x32 :: x33 :: x34 :: x35 :: x36 :: x37 :: x38 :: x39 :: x40 :: x41 :: x42 :: x43 :: x44 :: y :: q := rfl
@[simp] theorem nX45 : nX 45 = [.und, .und, .und, .und, .und, .und, .und, .und, .und, .und, .und, .und, .und, .und, .und, .und, .und, .und, .und, .und, .und, .und, .und, .und, .und, .und, .und, .und, .und, .und, .und, .und, .und, .und, .und, .und, .und, .und, .und, .und, .und, .und, .und, .und, .und] := rfl
@[simp] theorem nO45 : nO 45 = [none, none, none, none, none, none, none, none, none, none, none, none, none, none, none, none, none, none, none, none, none, none, none, none, none, none, none, none, none, none, none, none, none, none, none, none, none, none, none, none, none, none, none, none, none] := rfl
@[simp] theorem gX46 {x0 x1 x2 x3 x4 x5 x6 x7 x8 x9 x10 x11 x12 x13 x14 x15 x16 x17 x18 x19 x20 x21 x22 x23 x24 x25 x26 x27 x28 x29 x30 x31 x32 x33 x34 x35 x36 x37 x38 x39 x40 x41 x42 x43 x44 x45 x46 : X} : gX (x0 :: x1 :: x2 :: x3 :: x4 :: x5 :: x6 :: x7 :: x8 :: x9 :: x10 :: x11 :: x12 :: x13 :: x14 :: x15 :: x16 :: x17 :: x18 :: x19 :: x20 :: x21 :: x22 :: x23 :: x24 :: x25 :: x26 :: x27 :: x28 :: x29 :: x30 :: x31 :: x32 :: x33 :: x34 :: x35 :: x36 :: x37 :: x38 :: x39 :: x40 :: x41 :: x42 :: x43 :: x44 :: x45 :: x46 :: r) 46 = x46 := rfl
@[simp] theorem sX46 {x0 x1 x2 x3 x4 x5 x6 x7 x8 x9 x10 x11 x12 x13 x14 x15 x16 x17 x18 x19 x20 x21 x22 x23 x24 x25 x26 x27 x28 x29 x30 x31 x32 x33 x34 x35 x36 x37 x38 x39 x40 x41 x42 x43 x44 x45 x46 : X} : sX (x0 :: x1 :: x2 :: x3 :: x4 :: x5 :: x6 :: x7 :: x8 :: x9 :: x10 :: x11 :: x12 :: x13 :: x14 :: x15 :: x16 :: x17 :: x18 :: x19 :: x20 :: x21 :: x22 :: x23 :: x24 :: x25 :: x26 :: x27 :: x28 :: x29 :: x30 :: x31 :: x32 :: x33 :: x34 :: x35 :: x36 :: x37 :: x38 :: x39 :: x40 :: x41 :: x42 :: x43 :: x44 :: x45 :: x46 :: r) 46 z = x0 :: x1 :: x2 :: x3 :: x4 :: x5 :: x6 :: x7 :: x8 :: x9 :: x10 :: x11 :: x12 :: x13 :: x14 :: x15 :: x16 :: x17 :: x18 :: x19 :: x20 :: x21 :: x22 :: x23 :: x24 :: x25 :: x26 :: x27 :: x28 :: x29 :: x30 :: x31 :: x32 :: x33 :: x34 :: x35 :: x36 :: x37 :: x38 :: x39 :: x40 :: x41 :: x42 :: x43 :: x44 :: x45 :: z :: r := rfl
@[simp] theorem gO46 {x0 x1 x2 x3 x4 x5 x6 x7 x8 x9 x10 x11 x12 x13 x14 x15 x16 x17 x18 x19 x20 x21 x22 x23 x24 x25 x26 x27 x28 x29 x30 x31 x32 x33 x34 x35 x36 x37 x38 x39 x40 x41 x42 x43 x44 x45 x46 : Option Ob} : gO (x0 :: x1 :: x2 :: x3 :: x4 :: x5 :: x6 :: x7 :: x8 :: x9 :: x10 :: x11 :: x12 :: x13 :: x14 :: x15 :: x16 :: x17 :: x18 :: x19 :: x20 :: x21 :: x22 :: x23 :: x24 :: x25 :: x26 :: x27 :: x28 :: x29 :: x30 :: x31 :: x32 :: x33 :: x34 :: x35 :: x36 :: x37 :: x38 :: x39 :: x40 :: x41 :: x42 :: x43 :: x44 :: x45 :: x46 :: q) 46 = x46 := rfl
@[simp] theorem sO46 {x0 x1 x2 x3 x4 x5 x6 x7 x8 x9 x10 x11 x12 x13 x14 x15 x16 x17 x18 x19 x20 x21 x22 x23 x24 x25 x26 x27 x28 x29 x30 x31 x32 x33 x34 x35 x36 x37 x38 x39 x40 x41 x42 x43 x44 x45 x46 : Option Ob} : sO (x0 :: x1 :: x2 :: x3 :: x4 :: x5 :: x6 :: x7 :: x8 :: x9 :: x10 :: x11 :: x12 :: x13 :: x14 :: x15 :: x16 :: x17 :: x18 :: x19 :: x20 :: x21 :: x22 :: x23 :: x24 :: x25 :: x26 :: x27 :: x28 :: x29 :: x30 :: x31 :: x32 :: x33 :: x34 :: x35 :: x36 :: x37 :: x38 :: x39 :: x40 :: x41 :: x42 :: x43 :: x44 :: x45 :: x46 :: q) 46 y = x0 :: x1 :: x2 :: x3 :: x4 :: x5 :: x6 :: x7 :: x8 :: x9 :: x10 :: x11 :: x12 :: x13 :: x14 :: x15 :: x16 :: x17 :: x18 :: x19 :: x20 :: x21 :: x22 :: x23 :: x24 :: x25 :: x26 :: x27 :: x28 :: x29 :: x30 :: x31 :: x32 :: x33 :: x34 :: x35 :: x36 :: x37 :: x38 :: x39 :: x40 :: x41 :: x42 :: x43 :: x44 :: x45 :: y :: q := rfl
@[simp] theorem nX46 : nX 46 = [.und, .und, .und, .und, .und, .und, .und, .und, .und, .und, .und, .und, .und, .und, .und, .und, .und, .und, .und, .und, .und, .und, .und, .und, .und, .und, .und, .und, .und, .und, .und, .und, .und, .und, .und, .und, .und, .und, .und, .und, .und, .und, .und, .und, .und, .und] := rfl
@[simp] theorem nO46 : nO 46 = [none, none, none, none, none, none, none, none, none, none, none, none, none, none, none, none, none, none, none, none, none, none, none, none, none, none, none, none, none, none, none, none, none, none, none, none, none, none, none, none, none, none, none, none, none, none] := rfl
@[simp] theorem gX47 {x0 x1 x2 x3 x4 x5 x6 x7 x8 x9 x10 x11 x12 x13 x14 x15 x16 x17 x18 x19 x20 x21 x22 x23 x24 x25 x26 x27 x28 x29 x30 x31 x32 x33 x34 x35 x36 x37 x38 x39 x40 x41 x42 x43 x44 x45 x46 x47 : X} : gX (x0 :: x1 :: x2 :: x3 :: x4 :: x5 :: x6 :: x7 :: x8 :: x9 :: x10 :: x11 :: x12 :: x13 :: x14 :: x15 :: x16 :: x17 :: x18 :: x19 :: x20 :: x21 :: x22 :: x23 :: x24 :: x25 :: x26 :: x27 :: x28 :: x29 :: x30 :: x31 :: x32 :: x33 :: x34 :: x35 :: x36 :: x37 :: x38 :: x39 :: x40 :: x41 :: x42 :: x43 :: x44 :: x45 :: x46 :: x47 :: r) 47 = x47 := rfl
@[simp] theorem sX47 {x0 x1 x2 x3 x4 x5 x6 x7 x8 x9 x10 x11 x12 x13 x14 x15 x16 x17 x18 x19 x20 x21 x22 x23 x24 x25 x26 x27 x28 x29 x30 x31 x32 x33 x34 x35 x36 x37 x38 x39 x40 x41 x42 x43 x44 x45 x46 x47 : X} : sX (x0 :: x1 :: x2 :: x3 :: x4 :: x5 :: x6 :: x7 :: x8 :: x9 :: x10 :: x11 :: x12 :: x13 :: x14 :: x15 :: x16 :: x17 :: x18 :: x19 :: x20 :: x21 :: x22 :: x23 :: x24 :: x25 :: x26 :: x27 :: x28 :: x29 :: x30 :: x31 :: x32 :: x33 :: x34 :: x35 :: x36 :: x37 :: x38 :: x39 :: x40 :: x41 :: x42 :: x43 :: x44 :: x45 :: x46 :: x47 :: r) 47 z = x0 :: x1 :: x2 :: x3 :: x4 :: x5 :: x6 :: x7 :: x8 :: x9 :: x10 :: x11 :: x12 :: x13 :: x14 :: x15 :: x16 :: x17 :: x18 :: x19 :: x20 :: x21 :: x22 :: x23 :: x24 :: x25 :: x26 :: x27 :: x28 :: x29 :: x30 :: x31 :: x32 :: x33 :: x34 :: x35 :: x36 :: x37 :: x38 :: x39 :: x40 :: x41 :: x42 :: x43 :: x44 :: x45 :: x46 :: z :: r := rfl
@[simp] theorem gO47 {x0 x1 x2 x3 x4 x5 x6 x7 x8 x9 x10 x11 x12 x13 x14 x15 x16 x17 x18 x19 x20 x21 x22 x23 x24 x25 x26 x27 x28 x29 x30 x31 x32 x33 x34 x35 x36 x37 x38 x39 x40 x41 x42 x43 x44 x45 x46 x47 : Option Ob} : gO (x0 :: x1 :: x2 :: x3 :: x4 :: x5 :: x6 :: x7 :: x8 :: x9 :: x10 :: x11 :: x12 :: x13 :: x14 :: x15 :: x16 :: x17 :: x18 :: x19 :: x20 :: x21 :: x22 :: x23 :: x24 :: x25 :: x26 :: x27 :: x28 :: x29 :: x30 :: x31 :: x32 :: x33 :: x34 :: x35 :: x36 :: x37 :: x38 :: x39 :: x40 :: x41 :: x42 :: x43 :: x44 :: x45 :: x46 :: x47 :: q) 47 = x47 := rfl
@[simp] theorem sO47 {x0 x1 x2 x3 x4 x5 x6 x7 x8 x9 x10 x11 x12 x13 x14 x15 x16 x17 x18 x19 x20 x21 x22 x23 x24 x25 x26 x27 x28 x29 x30 x31 x32 x33 x34 x35 x36 x37 x38 x39 x40 x41 x42 x43 x44 x45 x46 x47 : Option Ob} : sO (x0 :: x1 :: x2 :: x3 :: x4 :: x5 :: x6 :: x7 :: x8 :: x9 :: x10 :: x11 :: x12 :: x13 :: x14 :: x15 :: x16 :: x17 :: x18 :: x19 :: x20 :: x21 :: x22 :: x23 :: x24 :: x25 :: x26 :: x27 :: x28 :: x29 :: x30 :: x31 :: x32 :: x33 :: x34 :: x35 :: x36 :: x37 :: x38 :: x39 :: x40 :: x41 :: x42 :: x43 :: x44 :: x45 :: x46 :: x47 :: q) 47 y = x0 :: x1 :: x2 :: x3 :: x4 :: x5 :: x6 :: x7 :: x8 :: x9 :: x10 :: x11 :: x12 :: x13 :: x14 :: x15 :: x16 :: x17 :: x18 :: x19 :: x20 :: x21 :: x22 :: x23 :: x24 :: x25 :: x26 :: x27 :: x28 :: x29 :: x30 :: x31 :: x32 :: x33 :: x34 :: x35 :: x36 :: x37 :: x38 :: x39 :: x40 :: x41 :: x42 :: x43 :: x44 :: x45 :: x46 :: y :: q := rfl
@[simp] theorem nX47 : nX 47 = [.und, .und, .und, .und, .und, .und, .und, .und, .und, .und, .und, .und, .und, .und, .und, .und, .und, .und, .und, .und, .und, .und, .und, .und, .und, .und, .und, .und, .und, .und, .und, .und, .und, .und, .und, .und, .und, .und, .und, .und, .und, .und, .und, .und, .und, .und, .und] := rfl
@[simp] theorem nO47 : nO 47 = [none, none, none, none, none, none, none, none, none, none, none, none, none, none, none, none, none, none, none, none, none, none, none, none, none, none, none, none, none, none, none, none, none, none, none, none, none, none, none, none, none, none, none, none, none, none, none] := rfl
@[simp] theorem gXm {i : Nat} {x0 x1 x2 x3 x4 x5 x6 x7 x8 x9 x10 x11 x12 x13 x14 x15 x16 x17 x18 x19 x20 x21 x22 x23 x24 x25 x26 x27 x28 x29 x30 x31 x32 x33 x34 x35 x36 x37 x38 x39 x40 x41 x42 x43 x44 x45 x46 x47 : X} : gX (x0 :: x1 :: x2 :: x3 :: x4 :: x5 :: x6 :: x7 :: x8 :: x9 :: x10 :: x11 :: x12 :: x13 :: x14 :: x15 :: x16 :: x17 :: x18 :: x19 :: x20 :: x21 :: x22 :: x23 :: x24 :: x25 :: x26 :: x27 :: x28 :: x29 :: x30 :: x31 :: x32 :: x33 :: x34 :: x35 :: x36 :: x37 :: x38 :: x39 :: x40 :: x41 :: x42 :: x43 :: x44 :: x45 :: x46 :: x47 :: r) (i + 48) = gX r i := rfl
@[simp] theorem sXm {i : Nat} {x0 x1 x2 x3 x4 x5 x6 x7 x8 x9 x10 x11 x12 x13 x14 x15 x16 x17 x18 x19 x20 x21 x22 x23 x24 x25 x26 x27 x28 x29 x30 x31 x32 x33 x34 x35 x36 x37 x38 x39 x40 x41 x42 x43 x44 x45 x46 x47 : X} : sX (x0 :: x1 :: x2 :: x3 :: x4 :: x5 :: x6 :: x7 :: x8 :: x9 :: x10 :: x11 :: x12 :: x13 :: x14 :: x15 :: x16 :: x17 :: x18 :: x19 :: x20 :: x21 :: x22 :: x23 :: x24 :: x25 :: x26 :: x27 :: x28 :: x29 :: x30 :: x31 :: x32 :: x33 :: x34 :: x35 :: x36 :: x37 :: x38 :: x39 :: x40 :: x41 :: x42 :: x43 :: x44 :: x45 :: x46 :: x47 :: r) (i + 48) z = x0 :: x1 :: x2 :: x3 :: x4 :: x5 :: x6 :: x7 :: x8 :: x9 :: x10 :: x11 :: x12 :: x13 :: x14 :: x15 :: x16 :: x17 :: x18 :: x19 :: x20 :: x21 :: x22 :: x23 :: x24 :: x25 :: x26 :: x27 :: x28 :: x29 :: x30 :: x31 :: x32 :: x33 :: x34 :: x35 :: x36 :: x37 :: x38 :: x39 :: x40 :: x41 :: x42 :: x43 :: x44 :: x45 :: x46 :: x47 :: sX r i z := rfl
@[simp] theorem gOm {i : Nat} {x0 x1 x2 x3 x4 x5 x6 x7 x8 x9 x10 x11 x12 x13 x14 x15 x16 x17 x18 x19 x20 x21 x22 x23 x24 x25 x26 x27 x28 x29 x30 x31 x32 x33 x34 x35 x36 x37 x38 x39 x40 x41 x42 x43 x44 x45 x46 x47 : Option Ob} : gO (x0 :: x1 :: x2 :: x3 :: x4 :: x5 :: x6 :: x7 :: x8 :: x9 :: x10 :: x11 :: x12 :: x13 :: x14 :: x15 :: x16 :: x17 :: x18 :: x19 :: x20 :: x21 :: x22 :: x23 :: x24 :: x25 :: x26 :: x27 :: x28 :: x29 :: x30 :: x31 :: x32 :: x33 :: x34 :: x35 :: x36 :: x37 :: x38 :: x39 :: x40 :: x41 :: x42 :: x43 :: x44 :: x45 :: x46 :: x47 :: q) (i + 48) = gO q i := rfl
@[simp] theorem sOm {i : Nat} {x0 x1 x2 x3 x4 x5 x6 x7 x8 x9 x10 x11 x12 x13 x14 x15 x16 x17 x18 x19 x20 x21 x22 x23 x24 x25 x26 x27 x28 x29 x30 x31 x32 x33 x34 x35 x36 x37 x38 x39 x40 x41 x42 x43 x44 x45 x46 x47 : Option Ob} : sO (x0 :: x1 :: x2 :: x3 :: x4 :: x5 :: x6 :: x7 :: x8 :: x9 :: x10 :: x11 :: x12 :: x13 :: x14 :: x15 :: x16 :: x17 :: x18 :: x19 :: x20 :: x21 :: x22 :: x23 :: x24 :: x25 :: x26 :: x27 :: x28 :: x29 :: x30 :: x31 :: x32 :: x33 :: x34 :: x35 :: x36 :: x37 :: x38 :: x39 :: x40 :: x41 :: x42 :: x43 :: x44 :: x45 :: x46 :: x47 :: q) (i + 48) y = x0 :: x1 :: x2 :: x3 :: x4 :: x5 :: x6 :: x7 :: x8 :: x9 :: x10 :: x11 :: x12 :: x13 :: x14 :: x15 :: x16 :: x17 :: x18 :: x19 :: x20 :: x21 :: x22 :: x23 :: x24 :: x25 :: x26 :: x27 :: x28 :: x29 :: x30 :: x31 :: x32 :: x33 :: x34 :: x35 :: x36 :: x37 :: x38 :: x39 :: x40 :: x41 :: x42 :: x43 :: x44 :: x45 :: x46 :: x47 :: sO q i y := rfl
@[simp] theorem nXm {i : Nat} : nX (i + 48) = .und :: .und :: .und :: .und :: .und :: .und :: .und :: .und :: .und :: .und :: .und :: .und :: .und :: .und :: .und :: .und :: .und :: .und :: .und :: .und :: .und :: .und :: .und :: .und :: .und :: .und :: .und :: .und :: .und :: .und :: .und :: .und :: .und :: .und :: .und :: .und :: .und :: .und :: .und :: .und :: .und :: .und :: .und :: .und :: .und :: .und :: .und :: .und :: nX i := rfl
@[simp] theorem nOm {i : Nat} : nO (i + 48) = none :: none :: none :: none :: none :: none :: none :: none :: none :: none :: none :: none :: none :: none :: none :: none :: none :: none :: none :: none :: none :: none :: none :: none :: none :: none :: none :: none :: none :: none :: none :: none :: none :: none :: none :: none :: none :: none :: none :: none :: none :: none :: none :: none :: none :: none :: none :: none :: nO i := rfl
@[simp] theorem gXs {x : X} {i : Nat} : gX (x :: r) (i + 1) = gX r i := rfl
@[simp] theorem sXs {x : X} {i : Nat} : sX (x :: r) (i + 1) z = x :: sX r i z := rfl
@[simp] theorem gOs {x : Option Ob} {i : Nat} : gO (x :: q) (i + 1) = gO q i := rfl
@[simp] theorem sOs {x : Option Ob} {i : Nat} : sO (x :: q) (i + 1) y = x :: sO q i y := rfl
end
end Go.Proofs.Ytcgolmopbnhgeaa.Ae

namespace Go.Proofs.Ytcgolmopbnhgeaa.Dig
def B : Nat := 4294967296
theorem B_pos : 0 < B := by decide
theorem B_one : 1 < B := by decide
def val : List Nat → Nat
  | [] => 0
  | d :: ds => d + B * val ds
def Digs (ds : List Nat) : Prop := ∀ d ∈ ds, d < B
def mag (n : Nat) : List Nat := if h : n = 0 then [] else (n % B) :: mag (n / B)
termination_by n
decreasing_by exact Nat.div_lt_self (Nat.pos_of_ne_zero h) (by decide)
theorem mag_zero : mag 0 = [] := by rw [mag]; rfl
theorem mag_pos {n : Nat} (h : n ≠ 0) : mag n = (n % B) :: mag (n / B) := by rw [mag]; rw [dif_neg h]
theorem val_mag (n : Nat) : val (mag n) = n := by
  induction n using Nat.strongRecOn with
  | ind n ih =>
    by_cases h : n = 0
    · subst h; rw [mag_zero]; rfl
    · rw [mag_pos h, val, ih (n / B) (Nat.div_lt_self (Nat.pos_of_ne_zero h) B_one)]
      exact Nat.mod_add_div n B
theorem Digs.nil : Digs [] := fun _ h => by cases h
theorem Digs.cons {d : Nat} {ds : List Nat} (h : d < B) (hs : Digs ds) : Digs (d :: ds) := fun x hx => by
  rcases List.mem_cons.1 hx with rfl | hx
  · exact h
  · exact hs x hx
theorem Digs.head {d : Nat} {ds : List Nat} (h : Digs (d :: ds)) : d < B := h d List.mem_cons_self
theorem Digs.tail {d : Nat} {ds : List Nat} (h : Digs (d :: ds)) : Digs ds := fun x hx => h x (List.mem_cons_of_mem _ hx)
theorem Digs.append {a b : List Nat} (ha : Digs a) (hb : Digs b) : Digs (a ++ b) := fun x hx => by
  rcases List.mem_append.1 hx with hx | hx
  · exact ha x hx
  · exact hb x hx
theorem Digs.left {a b : List Nat} (h : Digs (a ++ b)) : Digs a := fun x hx => h x (List.mem_append.2 (.inl hx))
theorem Digs.right {a b : List Nat} (h : Digs (a ++ b)) : Digs b := fun x hx => h x (List.mem_append.2 (.inr hx))
theorem Digs.at {ds : List Nat} (h : Digs ds) {i d : Nat} (hi : ds[i]? = some d) : d < B := h d (List.mem_of_getElem? hi)
theorem Digs.take {ds : List Nat} (h : Digs ds) (i : Nat) : Digs (ds.take i) := fun x hx => h x (List.mem_of_mem_take hx)
theorem Digs.drop {ds : List Nat} (h : Digs ds) (i : Nat) : Digs (ds.drop i) := fun x hx => h x (List.mem_of_mem_drop hx)
theorem Digs.set {ds : List Nat} (h : Digs ds) (i : Nat) {d : Nat} (hd : d < B) : Digs (ds.set i d) := fun x hx => by
  rcases List.mem_or_eq_of_mem_set hx with hx | rfl
  · exact h x hx
  · exact hd
theorem Digs.zeros (n : Nat) : Digs (List.replicate n 0) := fun x hx => by
  rw [List.eq_of_mem_replicate hx]; exact B_pos
theorem mag_digs (n : Nat) : Digs (mag n) := by
  induction n using Nat.strongRecOn with
  | ind n ih =>
    by_cases h : n = 0
    · subst h; rw [mag_zero]; exact Digs.nil
    · rw [mag_pos h]
      exact (ih (n / B) (Nat.div_lt_self (Nat.pos_of_ne_zero h) B_one)).cons (Nat.mod_lt _ B_pos)
theorem val_append (a b : List Nat) : val (a ++ b) = val a + B ^ a.length * val b := by
  induction a with
  | nil => simp [val]
  | cons d a ih =>
    simp only [List.cons_append, val, ih, List.length_cons, Nat.pow_succ]
    rw [Nat.mul_add, ← Nat.mul_assoc, Nat.mul_comm B (B ^ a.length), Nat.add_assoc]
theorem val_snoc (a : List Nat) (d : Nat) : val (a ++ [d]) = val a + B ^ a.length * d := by rw [val_append]; simp [val]
theorem val_lt {ds : List Nat} (h : Digs ds) : val ds < B ^ ds.length := by
  induction ds with
  | nil => simp [val]
  | cons d ds ih =>
    have h1 := ih h.tail
    have h2 := h.head
    simp only [val, List.length_cons, Nat.pow_succ]
    have : B * (val ds + 1) ≤ B * B ^ ds.length := Nat.mul_le_mul_left _ h1
    rw [Nat.mul_comm (B ^ ds.length) B]
    rw [Nat.mul_add] at this
    omega
theorem val_ge {ds : List Nat} {d : Nat} (h : d ≠ 0) : B ^ ds.length ≤ val (ds ++ [d]) := by
  rw [val_snoc]
  have : B ^ ds.length * 1 ≤ B ^ ds.length * d := Nat.mul_le_mul_left _ (Nat.pos_of_ne_zero h)
  omega
theorem mag_last (n : Nat) (d : Nat) (h : (mag n).getLast? = some d) : d ≠ 0 := by
  induction n using Nat.strongRecOn with
  | ind n ih =>
    by_cases h0 : n = 0
    · subst h0; rw [mag_zero] at h; cases h
    · rw [mag_pos h0] at h
      by_cases h1 : n / B = 0
      · rw [h1, mag_zero] at h
        simp only [List.getLast?_singleton, Option.some.injEq] at h
        have := Nat.mod_add_div n B
        rw [h1] at this
        omega
      · have h2 := ih (n / B) (Nat.div_lt_self (Nat.pos_of_ne_zero h0) B_one)
        rw [mag_pos h1] at h h2
        exact h2 (by simpa using h)
theorem mag_lt {n k : Nat} : (mag n).length ≤ k ↔ n < B ^ k := by
  constructor
  · intro h
    have := val_lt (mag_digs n)
    rw [val_mag] at this
    exact Nat.lt_of_lt_of_le this (Nat.pow_le_pow_right B_pos h)
  · intro h
    rcases Nat.lt_or_ge k (mag n).length with h1 | h1
    · exfalso
      rcases List.eq_nil_or_concat (mag n) with e | ⟨ds, d, e⟩
      · rw [e] at h1; simp at h1
      · rw [List.concat_eq_append] at e
        have hd : d ≠ 0 := mag_last n d (by rw [e]; simp)
        have h2 := val_ge (ds := ds) hd
        rw [← e, val_mag] at h2
        have h3 : k ≤ ds.length := by rw [e] at h1; simp at h1; omega
        have := Nat.pow_le_pow_right B_pos h3
        omega
    · exact h1
def dig : Nat → Nat → List Nat
  | 0, _ => []
  | n + 1, x => (x % B) :: dig n (x / B)
end Go.Proofs.Ytcgolmopbnhgeaa.Dig

namespace Go.Proofs.Ytcgolmopbnhgeaa.Ae
open Go Go.RowKit Go.Proofs.Ytcgolmopbnhgeaa.Dig
section
variable {P : Program} {mf : FuncId → Bool} {tb : FuncId → Option Ct}
def nf (s : St) : St := s
@[simp] theorem nf_mk (tm : List X) (ob : List (Option Ob)) : nf ⟨tm, ob⟩ = ⟨tm, ob⟩ := rfl
def Kseq (P : Program) (mf : FuncId → Bool) (tb : FuncId → Option Ct) (y : Code) (K : Exit → St → Prop) : Exit → St → Prop := fun e s => match e with
  | .normal => awp P mf tb y s K
  | e => K e s
def Kblk (i : Nat) (K : Exit → St → Prop) : Exit → St → Prop := fun e s => match e with
  | .exit j => if j = i then K .normal s else K (.exit j) s
  | e => K e s
def Knrm (K : Exit → St → Prop) : St → Prop := fun s => K .normal s
def Kops (P : Program) (mf : FuncId → Bool) (tb : FuncId → Option Ct) (ops : Array Oper) (l : List Oper) (K : St → Prop) : St → Prop := fun s => aops P mf tb ops l s K
def Klp (KN : St → Prop) (K : Exit → St → Prop) : Exit → St → Prop := fun e s => match e with
  | .normal => KN s
  | e => K e s
@[simp] theorem kseq_n {y : Code} {K : Exit → St → Prop} {s : St} : Kseq P mf tb y K .normal s = awp P mf tb y (nf s) K := rfl
@[simp] theorem kseq_e {y : Code} {K : Exit → St → Prop} {i : Nat} {s : St} : Kseq P mf tb y K (.exit i) s = K (.exit i) s := rfl
@[simp] theorem kseq_r {y : Code} {K : Exit → St → Prop} {s : St} : Kseq P mf tb y K .ret s = K .ret s := rfl
@[simp] theorem kblk_n {i : Nat} {K : Exit → St → Prop} {s : St} : Kblk i K .normal s = K .normal s := rfl
@[simp] theorem kblk_e {i j : Nat} {K : Exit → St → Prop} {s : St} : Kblk i K (.exit j) s = if j = i then K .normal s else K (.exit j) s := rfl
@[simp] theorem kblk_r {i : Nat} {K : Exit → St → Prop} {s : St} : Kblk i K .ret s = K .ret s := rfl
@[simp] theorem knrm {K : Exit → St → Prop} {s : St} : Knrm K s = K .normal s := rfl
@[simp] theorem kops {ops : Array Oper} {l : List Oper} {K : St → Prop} {s : St} : Kops P mf tb ops l K s = aops P mf tb ops l (nf s) K := rfl
@[simp] theorem klp_n {KN : St → Prop} {K : Exit → St → Prop} {s : St} : Klp KN K .normal s = KN s := rfl
@[simp] theorem klp_e {KN : St → Prop} {K : Exit → St → Prop} {i : Nat} {s : St} : Klp KN K (.exit i) s = K (.exit i) s := rfl
@[simp] theorem klp_r {KN : St → Prop} {K : Exit → St → Prop} {s : St} : Klp KN K .ret s = K .ret s := rfl
def fin (r : Out) (d : Option Nat) (s : St) (k : St → Prop) : Prop := r.pre ∧ k (s.apply d r)
def gstep (P : Program) (mf : FuncId → Bool) (tb : FuncId → Option Ct) (g : Gd) (o : Oper) (s : St) (k : St → Prop) : Prop := match g with
  | .go => fin (aop P mf tb s o) o.dst s k
  | .no => k (s.put o.dst .und)
  | .test t c b => (c = b → fin (aop P mf tb (s.put (some t) (.dat (.lit (.bool b)))) o) o.dst (s.put (some t) (.dat (.lit (.bool b)))) k) ∧ (c = !b → k ((s.put (some t) (.dat (.lit (.bool (!b))))).put o.dst .und))
  | .bad => False
def condm (P : Program) (mf : FuncId → Bool) (tb : FuncId → Option Ct) (v : X) (c : Operand) (x y : Code) (s : St) (k : Exit → St → Prop) : Prop := match v with
  | .dat (.lit (.bool v)) => (v = true → awp P mf tb x (refineC s c true) k) ∧ (v = false → awp P mf tb y (refineC s c false) k)
  | _ => False
@[congr] theorem awp_cg2 {c : Code} {K : Exit → St → Prop} {s s' : St} (h : s = s') : awp P mf tb c s K = awp P mf tb c s' K := by rw [h]
@[congr] theorem aops_cg2 {ops : Array Oper} {l : List Oper} {K : St → Prop} {s s' : St} (h : s = s') : aops P mf tb ops l s K = aops P mf tb ops l s' K := by rw [h]
@[congr] theorem fin_cg {r r' : Out} {d : Option Nat} {s : St} {k : St → Prop} (h : r = r') : fin r d s k = fin r' d s k := by rw [h]
@[congr] theorem gstep_cg {g g' : Gd} {o : Oper} {s : St} {k : St → Prop} (h : g = g') : gstep P mf tb g o s k = gstep P mf tb g' o s k := by rw [h]
@[congr] theorem condm_cg {v v' : X} {c : Operand} {x y : Code} {s : St} {k : Exit → St → Prop} (h : v = v') : condm P mf tb v c x y s k = condm P mf tb v' c x y s k := by rw [h]
@[simp] theorem w_skip {s : St} {K : Exit → St → Prop} : awp P mf tb .skip s K = K .normal s := rfl
@[simp] theorem w_exit {s : St} {i : Nat} {K : Exit → St → Prop} : awp P mf tb (.exit i) s K = K (.exit i) s := rfl
@[simp] theorem w_ret {s : St} {K : Exit → St → Prop} : awp P mf tb .ret s K = K .ret s := rfl
@[simp] theorem w_seq {x y : Code} {s : St} {K : Exit → St → Prop} : awp P mf tb (.seq x y) s K = awp P mf tb x (nf s) (Kseq P mf tb y K) := rfl
@[simp] theorem w_block {x : Code} {i : Nat} {s : St} {K : Exit → St → Prop} : awp P mf tb (.block i x) s K = awp P mf tb x (nf s) (Kblk i K) := rfl
@[simp] theorem w_cond {c : Operand} {x y : Code} {s : St} {K : Exit → St → Prop} : awp P mf tb (.cond c x y) s K = condm P mf tb (ev s c) c x y s K := rfl
def fresh (l : List Nat) (tm : List X) : Prop := l = [] ∨ NoRefs l tm
@[simp] theorem fresh_nil {tm : List X} : fresh [] tm = True := by simp [fresh]
@[simp] theorem fresh_cons {a : Nat} {l : List Nat} {tm : List X} : fresh (a :: l) tm = NoRefs (a :: l) tm := by simp [fresh]
def regn (P : Program) (mf : FuncId → Bool) (tb : FuncId → Option Ct) (p : Prop) (ops : Array Oper) (l : List Oper) (s : St) (K : St → Prop) : Prop := p ∧ aops P mf tb ops l s K
@[congr] theorem regn_cg {p p' : Prop} {ops : Array Oper} {l : List Oper} {s : St} {K : St → Prop} (h : p = p') : regn P mf tb p ops l s K = regn P mf tb p' ops l s K := by rw [h]
@[simp] theorem regn_true {ops : Array Oper} {l : List Oper} {s : St} {K : St → Prop} : regn P mf tb True ops l s K = aops P mf tb ops l (nf s) K := by simp [regn, nf]
@[simp] theorem w_region {i : Nat} {l : List Oper} {d : Bool} {s : St} {K : Exit → St → Prop} : awp P mf tb (.region i l.toArray d) s K = regn P (mfR mf i) tb (fresh (mkIds l) s.tm) l.toArray l s (Knrm K) := rfl
@[simp] theorem a_nil {ops : Array Oper} {s : St} {K : St → Prop} : aops P mf tb ops [] s K = K s := rfl
@[simp] theorem a_cons {ops : Array Oper} {o : Oper} {l : List Oper} {s : St} {K : St → Prop} : aops P mf tb ops (o :: l) s K = gstep P mf tb (gd ops s o) o s (Kops P mf tb ops l K) := by
  show astep P mf tb ops o s _ = _
  unfold astep gstep
  cases gd ops s o <;> rfl
@[simp] theorem g_go {o : Oper} {s : St} {k : St → Prop} : gstep P mf tb .go o s k = fin (aop P mf tb s o) o.dst s k := rfl
@[simp] theorem g_no {o : Oper} {s : St} {k : St → Prop} : gstep P mf tb .no o s k = k (s.put o.dst .und) := rfl
@[simp] theorem g_tt {t : Nat} {o : Oper} {s : St} {k : St → Prop} : gstep P mf tb (.test t true true) o s k = fin (aop P mf tb (s.put (some t) (.dat (.lit (.bool true)))) o) o.dst (s.put (some t) (.dat (.lit (.bool true)))) k := by simp [gstep]
@[simp] theorem g_ff {t : Nat} {o : Oper} {s : St} {k : St → Prop} : gstep P mf tb (.test t false false) o s k = fin (aop P mf tb (s.put (some t) (.dat (.lit (.bool false)))) o) o.dst (s.put (some t) (.dat (.lit (.bool false)))) k := by simp [gstep]
@[simp] theorem g_tf {t : Nat} {o : Oper} {s : St} {k : St → Prop} : gstep P mf tb (.test t true false) o s k = k ((s.put (some t) (.dat (.lit (.bool true)))).put o.dst .und) := by simp [gstep]
@[simp] theorem g_ft {t : Nat} {o : Oper} {s : St} {k : St → Prop} : gstep P mf tb (.test t false true) o s k = k ((s.put (some t) (.dat (.lit (.bool false)))).put o.dst .und) := by simp [gstep]
@[simp low] theorem g_test {t : Nat} {c b : Bool} {o : Oper} {s : St} {k : St → Prop} : gstep P mf tb (.test t c b) o s k = ((c = b → fin (aop P mf tb (s.put (some t) (.dat (.lit (.bool b)))) o) o.dst (s.put (some t) (.dat (.lit (.bool b)))) k) ∧ (c = !b → k ((s.put (some t) (.dat (.lit (.bool (!b))))).put o.dst .und))) := rfl
@[simp] theorem c_t {c : Operand} {x y : Code} {s : St} {k : Exit → St → Prop} : condm P mf tb (.dat (.lit (.bool true))) c x y s k = awp P mf tb x (nf (refineC s c true)) k := by simp [condm, nf]
@[simp] theorem c_f {c : Operand} {x y : Code} {s : St} {k : Exit → St → Prop} : condm P mf tb (.dat (.lit (.bool false))) c x y s k = awp P mf tb y (nf (refineC s c false)) k := by simp [condm, nf]
@[simp low] theorem c_v {v : Bool} {c : Operand} {x y : Code} {s : St} {k : Exit → St → Prop} : condm P mf tb (.dat (.lit (.bool v))) c x y s k = ((v = true → awp P mf tb x (nf (refineC s c true)) k) ∧ (v = false → awp P mf tb y (nf (refineC s c false)) k)) := rfl
@[simp] theorem f_t {x : X} {up : List (Nat × Option Ob)} {d : Nat} {tm : List X} {ob : List (Option Ob)} {k : St → Prop} : fin ⟨True, x, up⟩ (some d) ⟨tm, ob⟩ k = k (nf ⟨sX tm d x, St.ups ob up⟩) := by simp [fin, nf, St.apply, St.put, sX]
@[simp] theorem f_n {x : X} {up : List (Nat × Option Ob)} {tm : List X} {ob : List (Option Ob)} {k : St → Prop} : fin ⟨True, x, up⟩ none ⟨tm, ob⟩ k = k (nf ⟨tm, St.ups ob up⟩) := by simp [fin, nf, St.apply, St.put]
@[simp] theorem f_F {x : X} {up : List (Nat × Option Ob)} {d : Option Nat} {s : St} {k : St → Prop} : fin ⟨False, x, up⟩ d s k = False := by simp [fin]
@[simp low] theorem f_p {p : Prop} {x : X} {up : List (Nat × Option Ob)} {d : Nat} {tm : List X} {ob : List (Option Ob)} {k : St → Prop} : fin ⟨p, x, up⟩ (some d) ⟨tm, ob⟩ k = (p ∧ k (nf ⟨sX tm d x, St.ups ob up⟩)) := by simp [fin, nf, St.apply, St.put, sX]
@[simp low] theorem f_pn {p : Prop} {x : X} {up : List (Nat × Option Ob)} {tm : List X} {ob : List (Option Ob)} {k : St → Prop} : fin ⟨p, x, up⟩ none ⟨tm, ob⟩ k = (p ∧ k (nf ⟨tm, St.ups ob up⟩)) := by simp [fin, nf, St.apply, St.put]
@[simp] theorem s_get {tm : List X} {ob : List (Option Ob)} {t : Nat} : St.get ⟨tm, ob⟩ t = gX tm t := rfl
@[simp] theorem s_obj {tm : List X} {ob : List (Option Ob)} {o : Nat} : St.obj ⟨tm, ob⟩ o = gO ob o := rfl
@[simp] theorem s_put {tm : List X} {ob : List (Option Ob)} {t : Nat} {x : X} : St.put ⟨tm, ob⟩ (some t) x = ⟨sX tm t x, ob⟩ := rfl
@[simp] theorem s_putn {tm : List X} {ob : List (Option Ob)} {x : X} : St.put ⟨tm, ob⟩ none x = ⟨tm, ob⟩ := rfl
@[simp] theorem ups_n {ob : List (Option Ob)} : St.ups ob [] = ob := rfl
@[simp] theorem ups_c {ob : List (Option Ob)} {p : Nat × Option Ob} {l : List (Nat × Option Ob)} : St.ups ob (p :: l) = St.ups (sO ob p.1 p.2) l := rfl
@[simp] theorem ev_tmp (st : St) (t : Nat) : ev st (.tmp t) = st.get t := rfl
@[simp] theorem ev_int (st : St) (k : IntKind) (n : Int) : ev st (.const (.int k n)) = .dat (.lit (.int k n)) := by simp [ev, Value.oneCell']
@[simp] theorem ev_str (st : St) (s : ByteArray) : ev st (.const (.string s)) = .dat (.lit (.string s)) := by simp [ev, Value.oneCell']
@[simp] theorem ev_bool (st : St) (b : Bool) : ev st (.const (.bool b)) = .dat (.lit (.bool b)) := by simp [ev, Value.oneCell']
@[simp] theorem ev_nils (st : St) : ev st (.const (.slice none 0 0)) = .dat (.lit (.slice none 0 0)) := by simp [ev, Value.oneCell']
@[simp] theorem ev_nilp (st : St) : ev st (.const (.pointer none)) = .dat (.lit (.pointer none)) := by simp [ev, Value.oneCell']
@[simp] theorem ev_agg (st : St) (l : List Value) : ev st (.const (.agg l.toArray)) = if l.all Value.oneCell' = true then .dat (.agg (l.map .lit)) else .any := by simp [ev]
end
def ix (xs : List D) (i : Nat) : Option D := xs[i]?
def lset (xs : List D) (i : Nat) (d : D) : List D := xs.set i d
def lsub (xs : List D) (lo hi : Nat) : List D := (xs.take hi).drop lo
section
variable {P : Program} {mf : FuncId → Bool} {tb : FuncId → Option Ct} {st : St} {d : Option Nat} {ty : TypeId} {pos : String} {af : Array Edge} {g : Option (Nat × Bool)}
def convA (P : Program) (a b : TypeId) (x : X) : Out := match P.underlying a, P.underlying b, x with
    | some _, some (.int k), .dat (.lit (.int _ n)) => .lit (.int k (k.wrap n))
    | some _, some (.float k), .dat (.lit (.int _ n)) => .lit (.float k (floatOfInt k n))
    | some _, some (.float k), .dat (.lit (.float s b)) => ⟨s = k, .dat (.lit (.float k b)), []⟩
    | _, _, _ => .bad
def nilA : X → Out
    | .obj ob p off => ⟨True, .obj ob p off, []⟩
    | .dat (.ptr d) => ⟨True, .dat (.ptr d), []⟩
    | _ => .bad
def boxA (st : St) (d : Option Nat) (x : X) : Out := match x, d with
    | .dat d, some s => ⟨st.obj s = none ∧ s < st.ob.length, .obj s [] 0, [(s, some (.box d))]⟩
    | _, _ => .bad
def allocA (P : Program) (st : St) (d : Option Nat) (t : TypeId) : Out := match (P.info? t).bind (·.zero), d with
    | some v, some s => ⟨(st.obj s = none ∧ s < st.ob.length) ∧ litOk P t v, .obj s [] 0, [(s, some (.box (litD P t v)))]⟩
    | _, _ => .bad
def fieldA (P : Program) (s : TypeId) (i : Nat) (x : X) : Out := match P.underlying s with
    | some (.struct fs) => match fs[i]? with
      | some f => match x with
        | .obj ob p off => ⟨P.cellsOf f.type ≠ 0, .obj ob (p ++ [i]) (off + f.offset), []⟩
        | .elt ob j p off => ⟨P.cellsOf f.type ≠ 0, .elt ob j (p ++ [i]) (off + f.offset), []⟩
        | .dat (.ptr (.agg ds)) => match ds[i]? with
          | some d => ⟨P.cellsOf f.type ≠ 0 ∧ f.offset = D.sizes (ds.take i), .dat (.ptr d), []⟩
          | none => .bad
        | _ => .bad
      | none => .bad
    | _ => .bad
def loadA (P : Program) (st : St) (t : TypeId) (x : X) : Out := match x with
    | .obj ob p off => match st.box? ob with
        | some d => match nav d p with
          | some (e, off') => ⟨off' = off ∧ P.cellsOf t = e.size ∧ isAggT P t = e.isAgg ∧ (P.underlying t).isSome ∧ (P.info? t).isSome, .dat e, []⟩
          | none => .bad
        | none => .bad
    | .elt ob j p off => match st.row? ob with
      | some (sz, _, xs) => match ix xs j with
        | some d => match nav d p with
          | some (e, off') => ⟨d.size = sz ∧ off' = off ∧ P.cellsOf t = e.size ∧ isAggT P t = e.isAgg ∧ (P.underlying t).isSome ∧ (P.info? t).isSome, .dat e, []⟩
          | none => .bad
        | none => .bad
      | none => .bad
    | .dat (.ptr d) => ⟨P.cellsOf t = d.size ∧ isAggT P t = d.isAgg ∧ (P.underlying t).isSome ∧ (P.info? t).isSome, .dat d, []⟩
    | _ => .bad
def storeA (P : Program) (st : St) (t : TypeId) (a v : X) : Out := match a, v with
    | .obj ob p off, .dat x => match st.wbox? ob with
      | some d => match nav d p with
        | some (e, off') => ⟨off' = off ∧ x.size = e.size ∧ P.cellsOf t = x.size ∧ (P.info? t).isSome, .und, [(ob, setBox (st.obj ob) (upd d p x))]⟩
        | none => .bad
      | _ => .bad
    | .elt ob j p off, .dat x => match st.obj ob with
      | some (.row sz e xs) => match ix xs j with
        | some d => match nav d p with
          | some (e', off') => ⟨d.size = sz ∧ off' = off ∧ x.size = e'.size ∧ P.cellsOf t = x.size ∧ (P.info? t).isSome, .und, [(ob, some (.row sz e (lset xs j (upd d p x))))]⟩
          | none => .bad
        | none => .bad
      | some (.prow sz e cp xs) => match ix xs j with
        | some d => match nav d p with
          | some (e', off') => ⟨d.size = sz ∧ off' = off ∧ x.size = e'.size ∧ P.cellsOf t = x.size ∧ (P.info? t).isSome, .und, [(ob, some (.prow sz e cp (lset xs j (upd d p x))))]⟩
          | none => .bad
        | none => .bad
      | _ => .bad
    | _, _ => .bad
def buildX (P : Program) (mf : FuncId → Bool) (st : St) (t : TypeId) (is : List Nat) (xs : List X) : Out := match mf (bld t) with
    | false => match datas xs with
      | some ds => ⟨(buildA P t is ds).1, .dat (buildA P t is ds).2, []⟩
      | none => .bad
    | true => match asDatas st xs with
      | some ps => ⟨(buildA P t is (ps.map (·.1))).1 ∧ allFreeze st (owners ps), .dat (buildA P t is (ps.map (·.1))).2, freezes st (owners ps)⟩
      | none => .bad
def extrA (i : Nat) (x : X) : Out := match x with
    | .tup rs => match rs[i]? with
      | some r => ⟨True, r.x, []⟩
      | none => .bad
    | _ => .bad
def idxA (P : Program) (st : St) (t : TypeId) (x i : X) : Out := match P.underlying t, i with
    | some (.slice e), .dat (.lit (.int _ n)) => match x with
      | .dat (.sl sz xs) => match ix xs n.toNat with
        | some d => ⟨0 ≤ n ∧ P.cellsOf e = sz ∧ (P.info? e).isSome, .dat (.ptr d), []⟩
        | none => .bad
      | .row ob => match st.row? ob with
        | some (sz, _, xs) => ⟨(0 ≤ n ∧ n < xs.length) ∧ P.cellsOf e = sz ∧ (P.info? e).isSome, .elt ob n.toNat [] 0, []⟩
        | none => .bad
      | .win ob lo m => match st.row? ob with
        | some (sz, _, xs) => ⟨(0 ≤ n ∧ n < m) ∧ lo + m ≤ xs.length ∧ P.cellsOf e = sz ∧ (P.info? e).isSome, .elt ob (lo + n.toNat) [] 0, []⟩
        | none => .bad
      | _ => .bad
    | some (.array m e), .dat (.lit (.int _ n)) => match x with
      | .obj ob p off => ⟨(0 ≤ n ∧ n < m) ∧ (P.info? e).isSome, .obj ob (p ++ [n.toNat]) (off + n.toNat * P.cellsOf e), []⟩
      | .elt ob j p off => ⟨(0 ≤ n ∧ n < m) ∧ (P.info? e).isSome, .elt ob j (p ++ [n.toNat]) (off + n.toNat * P.cellsOf e), []⟩
      | .dat (.ptr (.agg ds)) => match ds[n.toNat]? with
        | some d => ⟨(0 ≤ n ∧ n < m) ∧ (P.info? e).isSome ∧ n.toNat * P.cellsOf e = D.sizes (ds.take n.toNat), .dat (.ptr d), []⟩
        | none => .bad
      | _ => .bad
    | _, _ => .bad
def sliceX (P : Program) (st : St) (t : TypeId) (x : X) (lo hi : Option X) : Out := match P.underlying t, loB lo with
  | some (.slice e), some l => match x with
    | .dat (.sl sz xs) => match hiB xs.length hi with
      | some h => ⟨(0 ≤ l ∧ l ≤ h ∧ h ≤ xs.length) ∧ (P.info? e).isSome ∧ P.cellsOf e = sz, .dat (.sl sz (lsub xs l.toNat h.toNat)), []⟩
      | none => .bad
    | .row ob => match st.row? ob with
      | some (sz, _, xs) => match hiB xs.length hi with
        | some h => ⟨(0 ≤ l ∧ l ≤ h ∧ h ≤ xs.length) ∧ (P.info? e).isSome ∧ P.cellsOf e = sz, .win ob l.toNat (h - l).toNat, []⟩
        | none => .bad
      | none => .bad
    | .win ob k n => match st.row? ob with
      | some (sz, _, xs) => match hiB n hi with
        | some h => ⟨(0 ≤ l ∧ l ≤ h ∧ h ≤ n) ∧ k + n ≤ xs.length ∧ (P.info? e).isSome ∧ P.cellsOf e = sz, .win ob (k + l.toNat) (h - l).toNat, []⟩
        | none => .bad
      | none => .bad
    | _ => .bad
  | some (.array m e), some l => match hi, x with
    | none, .obj o [] 0 => ⟨l = 0 ∧ (P.info? e).isSome, .arr o (P.cellsOf e) m, []⟩
    | _, _ => .bad
  | _, _ => .bad
def mkSl (P : Program) (st : St) (d : Option Nat) (t : TypeId) (l c : X) : Out := match d with
    | some k => match P.underlying t, l, c with
      | some (.slice e), .dat (.lit (.int _ n)), .dat (.lit (.int _ m)) => match (P.info? e).bind (·.zero) with
        | some z => ⟨(0 ≤ n ∧ n ≤ m) ∧ P.bytesOf e * m ≤ 140737488355328 ∧ m ≤ 9223372036854775807 ∧ z.cells.size = P.cellsOf e ∧ 0 < P.cellsOf e ∧ litOk P e z ∧ st.obj k = none ∧ k < st.ob.length,
            .row k, [(k, some (.row (P.cellsOf e) e (List.replicate n.toNat (litD P e z))))]⟩
        | none => .bad
      | _, _, _ => .bad
    | none => .bad
def bdSl (P : Program) (mf : FuncId → Bool) (st : St) (d : Option Nat) (t : TypeId) (n : Nat) (is : List Nat) (xs : List X) : Out := match (mf (bld t) && n != 0) with
  | true => buildO P st (P.underlying t) n is xs
  | false => match d with
    | some k => match P.underlying t, datas xs with
      | some (.slice e), some ds => match is with
        | [] => ⟨n = 0 ∧ (P.info? e).isSome ∧ st.obj k = none ∧ k < st.ob.length, .row k, [(k, some (.row (P.cellsOf e) e []))]⟩
        | _ :: _ => ⟨0 < n ∧ is = List.range n ∧ (∀ d ∈ ds, d.size = P.cellsOf e) ∧ n * P.cellsOf e ≤ 16777216 ∧ (∃ z, (P.info? e).bind (·.zero) = some z) ∧ 0 < P.cellsOf e, .dat (.sl (P.cellsOf e) ds), []⟩
      | _, _ => .bad
    | none => .bad
@[simp] theorem o_move {x : Operand} : aop P mf tb st ⟨d, .move x, ty, pos, af, g⟩ = ⟨True, ev st x, []⟩ := rfl
@[simp] theorem o_assign {x : Operand} : aop P mf tb st ⟨d, .assign x, ty, pos, af, g⟩ = ⟨True, ev st x, []⟩ := rfl
@[simp] theorem o_pick {c a b : Operand} : aop P mf tb st ⟨d, .pick c a b, ty, pos, af, g⟩ = pickA (ev st c) (ev st a) (ev st b) := rfl
@[simp] theorem o_bin {op : BinOp} {t t' : TypeId} {x y : Operand} : aop P mf tb st ⟨d, .binOp op t x y t', ty, pos, af, g⟩ = binA P op t (ev st x) (ev st y) := rfl
@[simp] theorem o_un {op : UnOp} {t : TypeId} {x : Operand} : aop P mf tb st ⟨d, .unOp op t x, ty, pos, af, g⟩ = unA op (ev st x) := rfl
@[simp] theorem o_conv {a b : TypeId} {x : Operand} : aop P mf tb st ⟨d, .convert a b x, ty, pos, af, g⟩ = convA P a b (ev st x) := rfl
@[simp] theorem o_index {t : TypeId} {x i : Operand} : aop P mf tb st ⟨d, .index t x i, ty, pos, af, g⟩ = strIdx P (P.underlying t) (ev st x) (ev st i) := rfl
@[simp] theorem o_nil {x : Operand} : aop P mf tb st ⟨d, .nilCheck x, ty, pos, af, g⟩ = nilA (ev st x) := rfl
@[simp] theorem o_box {t : TypeId} {x : Operand} : aop P mf tb st ⟨d, .box t x, ty, pos, af, g⟩ = boxA st d (ev st x) := rfl
@[simp] theorem o_alloc {t : TypeId} : aop P mf tb st ⟨d, .alloc t, ty, pos, af, g⟩ = allocA P st d t := rfl
@[simp] theorem o_field {s : TypeId} {a : Operand} {i : Nat} : aop P mf tb st ⟨d, .fieldAddr s a i, ty, pos, af, g⟩ = fieldA P s i (ev st a) := rfl
@[simp] theorem o_load {t : TypeId} {a : Operand} : aop P mf tb st ⟨d, .load t a, ty, pos, af, g⟩ = barIf (fl mf (ev st a)) (loadA P st t (ev st a)) := rfl
@[simp] theorem o_store {t : TypeId} {a v : Operand} : aop P mf tb st ⟨d, .store t a v, ty, pos, af, g⟩ = barIf (lateBad mf a (ev st a)) (storeA P st t (ev st a) (ev st v)) := rfl
@[simp] theorem o_build {t : TypeId} {l : List (Nat × Operand)} : aop P mf tb st ⟨d, .build t l.toArray, ty, pos, af, g⟩ = buildX P mf st t (l.map (·.1)) (l.map fun p => ev st p.2) := rfl
@[simp] theorem o_extr {i : Nat} {x : Operand} : aop P mf tb st ⟨d, .extract x i, ty, pos, af, g⟩ = extrA i (ev st x) := rfl
@[simp] theorem o_idx {t : TypeId} {x i : Operand} : aop P mf tb st ⟨d, .indexAddr t x i, ty, pos, af, g⟩ = barIf (fl mf (ev st x)) (idxA P st t (ev st x) (ev st i)) := by
  show barIf _ (match P.underlying t, ev st i with | some (.slice e), .dat (.lit (.int _ n)) => _ | some (.array m e), .dat (.lit (.int _ n)) => _ | _, _ => _) = _
  rfl
@[simp] theorem o_slice {t : TypeId} {x : Operand} {lo hi : Option Operand} : aop P mf tb st ⟨d, .slice t x lo hi none, ty, pos, af, g⟩ = barIf (fl mf (ev st x)) (sliceX P st t (ev st x) (lo.map (ev st)) (hi.map (ev st))) := rfl
@[simp] theorem o_make {t : TypeId} {l c : Operand} : aop P mf tb st ⟨d, .makeSlice t l c, ty, pos, af, g⟩ = mkSl P st d t (ev st l) (ev st c) := rfl
@[simp] theorem o_bsl {t : TypeId} {n : Nat} {l : List (Nat × Operand)} : aop P mf tb st ⟨d, .buildSlice t n l.toArray, ty, pos, af, g⟩ = bdSl P mf st d t n (l.map (·.1)) (l.map fun p => ev st p.2) := by
  show (match (mf (bld t) && n != 0) with | true => _ | false => _) = _
  unfold bdSl
  cases (mf (bld t) && n != 0) with
  | true => rfl
  | false =>
  simp only []
  cases d with
  | none => rfl
  | some k =>
    simp only []
    cases l with
    | nil => rfl
    | cons p l => rfl
def lenX (P : Program) (st : St) (t : TypeId) (x : X) : Out := match P.underlying t with
  | some (.slice _) => lenA st x
  | _ => .bad
def callCB (st : St) (r : Prop × List D) (ps : List (D × Option Nat)) : Out := match r.2.all D.isLit with
  | true => ⟨r.1, resX r.2, []⟩
  | false => ⟨r.1 ∧ allFreeze st (owners ps), resX r.2, freezes st (owners ps)⟩
def callM (st : St) (r : Prop × List Rv × List D) (ids : List Nat) (ps : List (Ar × Option Nat)) (n : Nat) : Out :=
  ⟨r.1 ∧ ids.Nodup ∧ r.2.2.length = n ∧ allFreeze st (owners ps), resM ids r.2.1, freezes st (owners ps) ++ setBoxes st ids r.2.2⟩
def callWB (st : St) (sz sz' : Nat) (e e' : TypeId) (l : List D) (r : Prop × Option Wr × List D) (o lo n : Nat) (ps : List (D × Option Nat)) : Out :=
  ⟨r.1 ∧ sz' = sz ∧ e' = e ∧ 0 < l.length ∧ lo + n ≤ l.length ∧ (0 < n ∨ lo = 0) ∧ r.2.2.length = l.length ∧ o ∉ owners ps ∧ allFreeze st (owners ps),
        resW o r.2.1, freezes st (owners ps) ++ [(o, setRow (st.obj o) r.2.2)]⟩
def callOB (st : St) (sz : Nat) (e : TypeId) (r : Prop × List D) (s : Nat) (ps : List (D × Option Nat)) : Out :=
  ⟨r.1 ∧ allFreeze st (owners ps) ∧ st.obj s = none ∧ s < st.ob.length, .row s, freezes st (owners ps) ++ [(s, some (.row sz e r.2))]⟩
def callBB (st : St) (r : Prop × D) (s : Nat) (ps : List (D × Option Nat)) : Out :=
  ⟨r.1 ∧ allFreeze st (owners ps) ∧ st.obj s = none ∧ s < st.ob.length, .obj s [] 0, freezes st (owners ps) ++ [(s, some (.box r.2))]⟩
def callX (mf : FuncId → Bool) (c : Option Ct) (st : St) (dst : Option Nat) (f : FuncId) (xs : List X) : Out := match c with
  | some (.data g) => callC (mf f) st g xs
  | some (.win sz e g gd) => match mf f, xs with
    | true, x :: r => match winOf st x with
      | some (o, lo, n) => match asDatas st r with
        | some ps => match st.wrow? o with
          | some (sz', e', l) => callWB st sz sz' e e' l (g l lo n (ps.map (·.1))) o lo n ps
          | none => .bad
        | none => .bad
      | none => callC true st gd (x :: r)
    | true, [] => .bad
    | false, xs => callC false st gd xs
  | some (.own sz e g) => match mf f with
    | true => match dst, asDatas st xs with
      | some s, some ps => callOB st sz e (g (ps.map (·.1))) s ps
      | _, _ => .bad
    | false => .bad
  | some (.ownb g) => match mf f with
    | true => match dst, asDatas st xs with
      | some s, some ps => callBB st (g (ps.map (·.1))) s ps
      | _, _ => .bad
    | false => .bad
  | some (.mut md g) => match mf f with
    | false => .bad
    | true => match asArs st (refIds xs md) xs, boxesOf st (refIds xs md) with
      | some ps, some ds => callM st (g (ps.map (·.1)) ds) (refIds xs md) ps ds.length
      | _, _ => .bad
  | none => .bad
@[simp] theorem callC_f {g : List D → Prop × List D} {xs : List X} : callC false st g xs = match datas xs with
      | some ds => ⟨(g ds).1, resX (g ds).2, []⟩
      | none => .bad := rfl
@[simp] theorem callC_t {g : List D → Prop × List D} {xs : List X} : callC true st g xs = match asDatas st xs with
      | some ps => callCB st (g (ps.map (·.1))) ps
      | none => .bad := by
  unfold callC callCB
  simp only []
  cases asDatas st xs with
  | none => rfl
  | some ps => simp only []; cases (g (ps.map (·.1))).2.all D.isLit <;> rfl
@[simp] theorem o_call {f : FuncId} {l : List Operand} {ts : Array TypeId} : aop P mf tb st ⟨d, .call ⟨.value (.func f), l.toArray, ts⟩, ty, pos, af, g⟩ = callX mf (tb f) st d f (l.map (ev st)) := by
  show callA mf tb st d f _ = _
  unfold callA callX callW callWB callM callO callOB callB callBB
  rcases tb f with _ | ⟨g⟩ | ⟨md, g⟩ | ⟨sz, e, g, gd⟩ | ⟨sz, e, g⟩ | ⟨g⟩ <;> simp <;> rfl
@[simp] theorem ev_func (st : St) (f : FuncId) : ev st (.func f) = .dat (.lit (.func (.func f) #[] #[])) := rfl
@[simp] theorem fnOf_lit (f : FuncId) : fnOf (.dat (.lit (.func (.func f) #[] #[]))) = some f := rfl
def callV (mf : FuncId → Bool) (tb : FuncId → Option Ct) (st : St) (dst : Option Nat) (co : Option (FuncId × List D)) (fo : Option FuncId) (xs : List X) : Out := match co with
  | some (f, cs) => callF (!mf fnp) tb st f cs xs
  | none => match fo with
    | some f => match mf fnp with
      | true => callF false tb st f [] xs
      | false => callX mf (tb f) st dst f xs
    | none => .bad
@[simp] theorem callV_some {mf : FuncId → Bool} {tb : FuncId → Option Ct} {st : St} {dst : Option Nat} {f : FuncId} {xs : List X} : callV mf tb st dst none (some f) xs = (match mf fnp with
      | true => callF false tb st f [] xs
      | false => callX mf (tb f) st dst f xs) := rfl
@[simp] theorem callV_clo {mf : FuncId → Bool} {tb : FuncId → Option Ct} {st : St} {dst : Option Nat} {f : FuncId} {cs : List D} {fo : Option FuncId} {xs : List X} : callV mf tb st dst (some (f, cs)) fo xs = callF (!mf fnp) tb st f cs xs := rfl
@[simp] theorem o_callT {t : Nat} {l : List Operand} {ts : Array TypeId} : aop P mf tb st ⟨d, .call ⟨.value (.tmp t), l.toArray, ts⟩, ty, pos, af, g⟩ = callV mf tb st d (cloOf (ev st (.tmp t))) (fnOf (ev st (.tmp t))) (l.map (ev st)) := by
  show (match cloOf (ev st (.tmp t)) with
    | some (f, cs) => callF (!mf fnp) tb st f cs (l.map (ev st))
    | none => match fnOf (ev st (.tmp t)) with
      | some f => callP mf tb st d f (l.map (ev st))
      | none => .bad) = _
  cases hc : cloOf (ev st (.tmp t)) with
  | some q => obtain ⟨f, cs⟩ := q; rfl
  | none =>
    cases h : fnOf (ev st (.tmp t)) with
    | none => rfl
    | some f =>
      show callP _ _ _ _ _ _ = (match mf fnp with
        | true => callF false tb st f [] (l.map (ev st))
        | false => callX mf (tb f) st d f (l.map (ev st)))
      unfold callP
      cases mf fnp with
      | true => rfl
      | false => exact o_call (P := P) (ty := ty) (pos := pos) (af := af) (g := g) (ts := ts)
@[simp] theorem o_mkf {fn : Fn} {l : List Operand} : aop P mf tb st ⟨d, .makeFunc fn #[] l.toArray, ty, pos, af, g⟩ = makeA st fn [] (l.map (ev st)) := rfl
@[simp] theorem o_len {x : Operand} {t : TypeId} : aop P mf tb st ⟨d, .call ⟨.builtin .len, [x].toArray, [t].toArray⟩, ty, pos, af, g⟩ = barIf (fl mf (ev st x)) (lenX P st t (ev st x)) := by
  unfold lenX
  simp only [aop, List.getElem?_toArray, List.getElem?_cons_zero, Option.bind_some]
  have hb : ∀ b, barIf b .bad = .bad := fun b => by cases b <;> rfl
  rcases P.underlying t with _ | u
  · exact (hb _).symm
  · cases u <;> first | rfl | exact (hb _).symm
@[simp] theorem o_max {x y : Operand} {ts : Array TypeId} : aop P mf tb st ⟨d, .call ⟨.builtin .max, [x, y].toArray, ts⟩, ty, pos, af, g⟩ = mmA true (ev st x) (ev st y) := rfl
@[simp] theorem o_min {x y : Operand} {ts : Array TypeId} : aop P mf tb st ⟨d, .call ⟨.builtin .min, [x, y].toArray, ts⟩, ty, pos, af, g⟩ = mmA false (ev st x) (ev st y) := rfl
@[simp] theorem o_app {x y : Operand} {t : TypeId} : aop P mf tb st ⟨d, .call ⟨.builtin .append, [x, y].toArray, [t, t].toArray⟩, ty, pos, af, g⟩ = barIf (appBad mf x (ev st x)) (appendA P st d t (ev st x) (ev st y)) := by
  show (if t = t then _ else _) = _
  simp
end
section
variable {mf : FuncId → Bool}
@[simp] theorem fl_any : fl mf .any = false := rfl
@[simp] theorem fl_und : fl mf .und = false := rfl
@[simp] theorem fl_dat {d : D} : fl mf (.dat d) = false := rfl
@[simp] theorem fl_obj {o f : Nat} {p : List Nat} : fl mf (.obj o p f) = mf (cel o) := by simp [fl, X.refs]
@[simp] theorem fl_row {o : Nat} : fl mf (.row o) = mf (cel o) := by simp [fl, X.refs]
@[simp] theorem fl_elt {o i f : Nat} {p : List Nat} : fl mf (.elt o i p f) = mf (cel o) := by simp [fl, X.refs]
@[simp] theorem fl_win {o i f : Nat} : fl mf (.win o i f) = mf (cel o) := by simp [fl, X.refs]
@[simp] theorem fl_arr {o i f : Nat} : fl mf (.arr o i f) = mf (cel o) := by simp [fl, X.refs]
@[simp] theorem fl_clo {f : FuncId} {cs : List D} : fl mf (.clo f cs) = false := rfl
end
def bAnd (k : IntKind) (x y : Int) : Int := k.wrap (BitVec.ofInt k.bits x &&& BitVec.ofInt k.bits y).toNat
def bOr (k : IntKind) (x y : Int) : Int := k.wrap (BitVec.ofInt k.bits x ||| BitVec.ofInt k.bits y).toNat
def bXor (k : IntKind) (x y : Int) : Int := k.wrap (BitVec.ofInt k.bits x ^^^ BitVec.ofInt k.bits y).toNat
def bAnn (k : IntKind) (x y : Int) : Int := k.wrap (BitVec.ofInt k.bits x &&& ~~~(BitVec.ofInt k.bits y)).toNat
def bNot (k : IntKind) (x : Int) : Int := k.wrap (BitVec.ofInt k.bits (if k.signed then -1 else k.max) ^^^ BitVec.ofInt k.bits x).toNat
def fok (op : BinOp) (k : FloatKind) (x y : Nat) : Prop := (floatBits op k x y).isSome = true
def fv (op : BinOp) (k : FloatKind) (x y : Nat) : Nat := (floatBits op k x y).getD 0
def feq (k : FloatKind) (x y : Nat) : Bool := k.format.order x y == some .eq
def flt (k : FloatKind) (x y : Nat) : Bool := k.format.order x y == some .lt
def fgt (k : FloatKind) (x y : Nat) : Bool := k.format.order x y == some .gt
def fneg (k : FloatKind) (x : Nat) : Nat := Op.negFloat k x
section
variable {k : IntKind} {x y : Int}
@[simp] theorem i_add : intOp .add k x y = ⟨True, .dat (.lit (.int k (k.wrap (x + y)))), []⟩ := rfl
@[simp] theorem i_sub : intOp .sub k x y = ⟨True, .dat (.lit (.int k (k.wrap (x - y)))), []⟩ := rfl
@[simp] theorem i_mul : intOp .mul k x y = ⟨True, .dat (.lit (.int k (k.wrap (x * y)))), []⟩ := rfl
@[simp] theorem i_quo : intOp .quo k x y = ⟨y ≠ 0, .dat (.lit (.int k (k.wrap (x.tdiv y)))), []⟩ := rfl
@[simp] theorem i_rem : intOp .rem k x y = ⟨y ≠ 0, .dat (.lit (.int k (x.tmod y))), []⟩ := rfl
@[simp] theorem i_eql : intOp .eql k x y = ⟨True, .dat (.lit (.bool (decide (x = y)))), []⟩ := rfl
@[simp] theorem i_neq : intOp .neq k x y = ⟨True, .dat (.lit (.bool (!decide (x = y)))), []⟩ := rfl
@[simp] theorem i_lss : intOp .lss k x y = ⟨True, .dat (.lit (.bool (decide (x < y)))), []⟩ := rfl
@[simp] theorem i_leq : intOp .leq k x y = ⟨True, .dat (.lit (.bool (decide (x ≤ y)))), []⟩ := rfl
@[simp] theorem i_gtr : intOp .gtr k x y = ⟨True, .dat (.lit (.bool (decide (y < x)))), []⟩ := rfl
@[simp] theorem i_geq : intOp .geq k x y = ⟨True, .dat (.lit (.bool (decide (y ≤ x)))), []⟩ := rfl
@[simp] theorem i_and : intOp .and k x y = ⟨True, .dat (.lit (.int k (bAnd k x y))), []⟩ := rfl
@[simp] theorem i_or : intOp .or k x y = ⟨True, .dat (.lit (.int k (bOr k x y))), []⟩ := rfl
@[simp] theorem i_xor : intOp .xor k x y = ⟨True, .dat (.lit (.int k (bXor k x y))), []⟩ := rfl
@[simp] theorem i_ann : intOp .andNot k x y = ⟨True, .dat (.lit (.int k (bAnn k x y))), []⟩ := rfl
@[simp] theorem i_shl : intOp .shl k x y = ⟨0 ≤ y, .dat (.lit (.int k (k.wrap (x * 2 ^ min y.toNat k.bits)))), []⟩ := rfl
@[simp] theorem i_shr : intOp .shr k x y = ⟨0 ≤ y, .dat (.lit (.int k (x.fdiv (2 ^ min y.toNat k.bits)))), []⟩ := rfl
@[simp] theorem fo_add {x y : Nat} {k : FloatKind} : floatOp .add k x y = ⟨fok .add k x y, .dat (.lit (.float k (fv .add k x y))), []⟩ := rfl
@[simp] theorem fo_sub {x y : Nat} {k : FloatKind} : floatOp .sub k x y = ⟨fok .sub k x y, .dat (.lit (.float k (fv .sub k x y))), []⟩ := rfl
@[simp] theorem fo_mul {x y : Nat} {k : FloatKind} : floatOp .mul k x y = ⟨fok .mul k x y, .dat (.lit (.float k (fv .mul k x y))), []⟩ := rfl
@[simp] theorem fo_quo {x y : Nat} {k : FloatKind} : floatOp .quo k x y = ⟨fok .quo k x y, .dat (.lit (.float k (fv .quo k x y))), []⟩ := rfl
@[simp] theorem fo_eql {x y : Nat} {k : FloatKind} : floatOp .eql k x y = ⟨True, .dat (.lit (.bool (feq k x y))), []⟩ := rfl
@[simp] theorem fo_neq {x y : Nat} {k : FloatKind} : floatOp .neq k x y = ⟨True, .dat (.lit (.bool (!feq k x y))), []⟩ := rfl
@[simp] theorem fo_lss {x y : Nat} {k : FloatKind} : floatOp .lss k x y = ⟨True, .dat (.lit (.bool (flt k x y))), []⟩ := rfl
@[simp] theorem fo_gtr {x y : Nat} {k : FloatKind} : floatOp .gtr k x y = ⟨True, .dat (.lit (.bool (fgt k x y))), []⟩ := rfl
@[simp] theorem u_negF {x : Nat} {k : FloatKind} : unA .neg (.dat (.lit (.float k x))) = ⟨True, .dat (.lit (.float k (fneg k x))), []⟩ := rfl
@[simp] theorem u_neg : unA .neg (.dat (.lit (.int k x))) = ⟨True, .dat (.lit (.int k (k.wrap (0 - x)))), []⟩ := rfl
@[simp] theorem u_xor : unA .xor (.dat (.lit (.int k x))) = ⟨True, .dat (.lit (.int k (bNot k x))), []⟩ := rfl
@[simp] theorem u_not {b : Bool} : unA .not (.dat (.lit (.bool b))) = ⟨True, .dat (.lit (.bool (!b))), []⟩ := rfl
end
theorem toNat_ofInt_nat (w n : Nat) (h : n < 2 ^ w) : (BitVec.ofInt w (n : Int)).toNat = n := by
  rw [BitVec.ofInt_natCast, BitVec.toNat_ofNat, Nat.mod_eq_of_lt h]
@[simp] theorem fdiv_lit (n : Int) (m : Nat) : n.fdiv (no_index (OfNat.ofNat m)) = n / (OfNat.ofNat m) := Int.fdiv_eq_ediv_of_nonneg _ (Int.natCast_nonneg m)
attribute [simp] mfR rcel gd St.box? St.wbox? St.row? St.drow? setBox Out.bad Out.lit nav upd D.size D.sizes nsz nagg isAggT datas resX mkIds mkOp NoRefs X.refs lenA strIdx binA mmA pickA lenX callCB callM callWB callOB callBB callX callF makeA buildO cloOf fnIs fnp winOf St.wrow? setRow resW convA nilA boxA allocA fieldA loadA storeA buildX extrA idxA sliceX mkSl bdSl RvSubs RvSub BoxSubs refineC loB hiB startAr endK retA resD litD litOk asDatas asData owners freezes freeze allFreeze St.mayFreeze D.isLit refIds asArs boxesOf setBoxes resM Rv.to Rv.x buildA partsOk zeros putAll fits appendA elems arrEl onto Value.oneCell' bld cel regroup regs rega flatD flatDs lateBad barIf Rv.refs appBad
@[simp] theorem vc_int (k : IntKind) (n : Int) : (Value.int k n).cells = #[.int k n] := rfl
@[simp] theorem vc_bool (b : Bool) : (Value.bool b).cells = #[.bool b] := rfl
@[simp] theorem vc_float (k : FloatKind) (n : Nat) : (Value.float k n).cells = #[.float k n] := rfl
@[simp] theorem vc_string (s : ByteArray) : (Value.string s).cells = #[.string s] := rfl
@[simp] theorem vc_ptr (a : Option Addr) : (Value.pointer a).cells = #[.pointer a] := rfl
@[simp] theorem vc_slice (a : Option Addr) (l c : Nat) : (Value.slice a l c).cells = #[.slice a l c] := rfl
@[simp] theorem vc_map (a : Option Nat) : (Value.map a).cells = #[.map a] := rfl
@[simp] theorem vc_nilFunc : (Value.nilFunc).cells = #[.nilFunc] := rfl
@[simp] theorem vc_nilIface : (Value.nilIface).cells = #[.nilIface] := rfl
@[simp] theorem vc_agg (cs : Array Value) : (Value.agg cs).cells = cs := rfl
@[simp] theorem agg_lit (v : Value) : (D.lit v).isAgg = false := rfl
@[simp] theorem agg_agg (ds : List D) : (D.agg ds).isAgg = true := rfl
@[simp] theorem agg_sl (n : Nat) (ds : List D) : (D.sl n ds).isAgg = false := rfl
@[simp] theorem agg_ptr (d : D) : (D.ptr d).isAgg = false := rfl
@[simp] theorem start_mk (n : Nat) (xs : List Ar) (ds : List D) : start n xs ds = ⟨xs.map (startAr n) ++ nX (n - xs.length), nO n ++ ds.map fun d => some (.pbox d)⟩ := rfl
@[simp] theorem sub_nil (sz : Nat) : Sub (.lit (.slice none 0 0)) (.sl sz []) = True := by simp [Sub.nil]
@[simp] theorem sub_refl (d : D) : Sub d d ↔ True := ⟨fun _ => trivial, fun _ => Sub.refl d⟩
def dg (k : Nat) : D := .lit (.int .u32 (k : Int))
def eW (ds : List Nat) : D := .sl 1 (ds.map dg)
def eM (n : Nat) : D := eW (mag n)
@[simp] theorem dg_size (k : Nat) : (dg k).size = 1 := rfl
@[simp] theorem dg_agg (k : Nat) : (dg k).isAgg = false := rfl
@[simp] theorem eW_size (k : List Nat) : (eW k).size = 1 := rfl
@[simp] theorem eW_agg (k : List Nat) : (eW k).isAgg = false := rfl
@[simp] theorem eM_size (k : Nat) : (eM k).size = 1 := rfl
@[simp] theorem eM_agg (k : Nat) : (eM k).isAgg = false := rfl
section
variable {α : Type} {e : α → List D} {pre : α → Prop} {post : α → List D}
open Classical in
noncomputable def ctD (e : α → List D) (pre : α → Prop) (post : α → List D) : List D → Prop × List D := fun ds =>
  if h : ∃ a, e a = ds then (pre h.choose, post h.choose) else (False, [])
theorem ctD_at (inj : ∀ a b, e a = e b → a = b) (a : α) : ctD e pre post (e a) = (pre a, post a) := by
  unfold ctD
  have h : ∃ b, e b = e a := ⟨a, rfl⟩
  rw [dif_pos h, inj _ _ h.choose_spec]
theorem ctD_pre {ds : List D} (h : (ctD e pre post ds).1) : ∃ a, ds = e a ∧ pre a ∧ ctD e pre post ds = (pre a, post a) := by
  unfold ctD at h ⊢
  by_cases hh : ∃ a, e a = ds
  · rw [dif_pos hh] at h ⊢
    exact ⟨_, hh.choose_spec.symm, h, rfl⟩
  · rw [dif_neg hh] at h
    exact h.elim
end
section
variable {α : Type} {e : α → List Ar × List D} {pre : α → Prop} {post : α → List Rv × List D}
end
def tbl (l : List (FuncId × Ct)) (f : FuncId) : Option Ct := (l.find? (fun p => p.1 == f)).map (·.2)
variable {N : NR}
theorem tbl_nil : TbOK N Try.prog (tbl []) := fun f c h => by simp [tbl] at h
theorem tbl_cons {f : FuncId} {c : Ct} {l : List (FuncId × Ct)} (h : CtOK N Try.prog f c) (hc : callable Try.prog f = true) (hl : TbOK N Try.prog (tbl l)) : TbOK N Try.prog (tbl ((f, c) :: l)) := fun g d hg => by
  unfold tbl at hg
  rw [List.find?_cons] at hg
  by_cases e : f = g
  · subst e
    simp at hg
    subst hg
    exact ⟨h, hc⟩
  · have : ((f, c).1 == g) = false := by simpa using e
    rw [this] at hg
    exact hl g d hg
@[simp] theorem tbl_hit {f : FuncId} {c : Ct} {l : List (FuncId × Ct)} : tbl ((f, c) :: l) f = some c := by simp [tbl]
theorem rdD {α : Type} {e : α → List D} {pre : α → Prop} {post : α → List D} {f : FuncId} {fn : Func} {c : Code} {mf : FuncId → Bool} {tb : FuncId → Option Ct} (htb : TbOK N Try.prog tb) (hf : Try.prog.funcs[f]? = some fn) (hb : fn.body = some c) (hd : drawAll mf c = true)
    (h : ∀ a, pre a → (e a).length ≤ fn.ntmps ∧ awp Try.prog mf tb c (start fn.ntmps ((e a).map .dat) []) (endK Try.prog fn.ntmps fn.results.toList ((post a).map .dat) [])) : SpecD N Try.prog f (ctD e pre post) := by
  refine specD_of hf hb (fun ds hp => ?_)
  obtain ⟨a, rfl, h1, h2⟩ := ctD_pre hp
  rw [h2]
  exact ⟨(h a h1).1, awp_sound htb mo _ _ _ hd (h a h1).2⟩
def Nx (I : Nat → St → Prop) (n : Nat) (s : St) : Prop := ∃ m s'', m < n ∧ Snd s s'' ∧ I m s''
theorem loop_go {P : Program} {mf : FuncId → Bool} {tb : FuncId → Option Ct} {x : Code} {st : St} {K : Exit → St → Prop} (I : Nat → St → Prop) {n : Nat} {s0 : St} (h0 : Snd st s0) (hn : I n s0)
    (hx : ∀ n s, I n s → ∀ KN : St → Prop, (∀ s', Nx I n s' → KN s') → awp P mf tb x s (Klp KN K)) : awp P mf tb (.loop x) st K :=
  ⟨I, ⟨n, s0, h0, hn⟩, fun n s hi => hx n s hi _ (fun s' h => h)⟩
theorem nx {I : Nat → St → Prop} {n m : Nat} {s s'' : St} (h : Snd s s'') (hi : I m s'') (hm : m < n) : Nx I n s := ⟨m, s'', hm, h, hi⟩
@[simp] theorem bits_u64 : IntKind.u64.bits = 64 := rfl
@[simp] theorem bits_i64 : IntKind.i64.bits = 64 := rfl
@[simp] theorem bits_u32 : IntKind.u32.bits = 32 := rfl
@[simp] theorem cells_u32 (n : Int) : (Value.int .u32 n).cells.size = 1 := rfl
theorem wrap_u64 (n : Int) : IntKind.u64.wrap n = n % 18446744073709551616 := by simp [IntKind.wrap, IntKind.signed, IntKind.bits]
theorem wrap_i64 (n : Int) : IntKind.i64.wrap n = (n + 9223372036854775808) % 18446744073709551616 - 9223372036854775808 := IntKind.wrap_i64 n
theorem i64_id (n : Int) (h0 : -9223372036854775808 ≤ n) (h1 : n ≤ 9223372036854775807) : IntKind.i64.wrap n = n := by rw [wrap_i64]; omega
theorem u64_id (n : Int) (h0 : 0 ≤ n) (h1 : n ≤ 18446744073709551615) : IntKind.u64.wrap n = n := by rw [wrap_u64]; omega
@[simp] theorem int_lt_succ (a : Int) : (a < a + 1) = True := by simp; omega
@[simp] theorem int_le_succ (a : Int) : (a ≤ a + 1) = True := by simp; omega
end Go.Proofs.Ytcgolmopbnhgeaa.Ae

namespace Go.Proofs.Ytcgolmopbnhgeaa.Ae
open Go Go.RowKit Go.Proofs.Ytcgolmopbnhgeaa.Dig
variable {N : NR}
structure Ds where
  ds : List Nat
  ok : Digs ds
theorem Ds.ext {a b : Ds} (h : a.ds = b.ds) : a = b := by cases a; cases b; simp at h; subst h; rfl
end Go.Proofs.Ytcgolmopbnhgeaa.Ae

namespace Go.Proofs.Ytcgolmopbnhgeaa.Ae
open Go Go.RowKit Go.Proofs.Ytcgolmopbnhgeaa.Dig
variable {N : NR}
def Sm (n : Nat) : Prop := (mag n).length < 2 ^ 40
end Go.Proofs.Ytcgolmopbnhgeaa.Ae

namespace Go.Proofs.Ytcgolmopbnhgeaa.Ae
open Go Go.RowKit Go.Proofs.Ytcgolmopbnhgeaa.Dig
variable {N : NR}
theorem getD_some {a : List Nat} {k : Nat} (ha : k < a.length) : a[k]? = some (a.getD k 0) := by
  rw [List.getD_eq_getElem?_getD, List.getElem?_eq_getElem ha]; rfl
end Go.Proofs.Ytcgolmopbnhgeaa.Ae

namespace Go.Proofs.Ytcgolmopbnhgeaa.Ae
open Go Go.RowKit Go.Proofs.Ytcgolmopbnhgeaa.Dig
variable {N : NR}
end Go.Proofs.Ytcgolmopbnhgeaa.Ae

namespace Go.Proofs.Ytcgolmopbnhgeaa.Ae
open Go Go.RowKit Go.Proofs.Ytcgolmopbnhgeaa.Dig
variable {N : NR}
end Go.Proofs.Ytcgolmopbnhgeaa.Ae

namespace Go.Proofs.Ytcgolmopbnhgeaa.Ae
open Go Go.RowKit Go.Proofs.Ytcgolmopbnhgeaa.Dig
variable {N : NR}
end Go.Proofs.Ytcgolmopbnhgeaa.Ae

namespace Go.Proofs.Ytcgolmopbnhgeaa.Ae
open Go Go.RowKit Go.Proofs.Ytcgolmopbnhgeaa.Dig
variable {N : NR}
end Go.Proofs.Ytcgolmopbnhgeaa.Ae

namespace Go.Proofs.Ytcgolmopbnhgeaa.Ae
open Go Go.RowKit
def obs (n : Nat) (l : List (Nat × Nat × Ob)) : List (Option Ob) := l.foldr (fun p ob => ob.set p.1 (some p.2.2)) (nO n)
def rho : List (Nat × Nat × Ob) → Nat → Nat
  | [], o => o
  | p :: l, o => if o = p.1 then p.2.1 else rho l o
def LeTr (ρ : Nat → Nat) : List X → List X → Prop
  | [], [] => True
  | x :: a, y :: b => (y = .any ∨ x = y.ren ρ) ∧ LeTr ρ a b
  | _, _ => False
theorem leTr_len (ρ : Nat → Nat) : ∀ (a b : List X), LeTr ρ a b → b.length = a.length
  | [], [], _ => rfl
  | x :: a, y :: b, h => by simp [leTr_len ρ a b h.2]
  | [], _ :: _, h => h.elim
  | _ :: _, [], h => h.elim
theorem leTr_get (ρ : Nat → Nat) : ∀ (a b : List X), LeTr ρ a b → ∀ t, b.getD t .any = .any ∨ a.getD t .any = (b.getD t .any).ren ρ
  | [], [], _, t => .inl rfl
  | x :: a, y :: b, h, 0 => h.1
  | x :: a, y :: b, h, t + 1 => by simpa using leTr_get ρ a b h.2 t
  | [], _ :: _, h, _ => h.elim
  | _ :: _, [], h, _ => h.elim
theorem obs_get (n : Nat) : ∀ (l : List (Nat × Nat × Ob)) (o : Nat) (ob : Ob), (obs n l).getD o none = some ob → ∃ p ∈ l, p.1 = o ∧ p.2.1 = rho l o ∧ p.2.2 = ob
  | [], o, ob, h => by
    simp only [obs, List.foldr_nil, nO, List.getD_eq_getElem?_getD, List.getElem?_replicate] at h
    split at h <;> cases h
  | p :: l, o, ob, h => by
    have e : obs n (p :: l) = (obs n l).set p.1 (some p.2.2) := rfl
    rw [e, List.getD_eq_getElem?_getD, List.getElem?_set] at h
    by_cases hp : p.1 = o
    · rw [if_pos hp] at h
      split at h
      · simp at h
        exact ⟨p, List.mem_cons_self, hp, by simp [rho, hp], h⟩
      · cases h
    · rw [if_neg hp, ← List.getD_eq_getElem?_getD] at h
      obtain ⟨q, hq, h1, h2, h3⟩ := obs_get n l o ob h
      refine ⟨q, List.mem_cons_of_mem _ hq, h1, ?_, h3⟩
      rw [h2]
      have : ¬ o = p.1 := fun e => hp e.symm
      simp [rho, this]
def Ob.isP : Ob → Bool
  | .pbox _ => true
  | .prow _ _ _ _ => true
  | _ => false
def obsOk (s : List (Option Ob)) : List (Nat × Nat × Ob) → Prop
  | [] => True
  | p :: l => gO s p.2.1 = some p.2.2 ∧ (p.2.2.isP = true → p.1 = p.2.1) ∧ (∀ q ∈ l, q.2.1 = p.2.1 → q.1 = p.1) ∧ obsOk s l
theorem obsOk_at {s : List (Option Ob)} : ∀ (l : List (Nat × Nat × Ob)), obsOk s l → ∀ p ∈ l, gO s p.2.1 = some p.2.2 ∧ (p.2.2.isP = true → p.1 = p.2.1)
  | [], _, p, hp => by cases hp
  | q :: l, h, p, hp => by
    rcases List.mem_cons.1 hp with rfl | hp
    · exact ⟨h.1, h.2.1⟩
    · exact obsOk_at l h.2.2.2 p hp
theorem obsOk_inj {s : List (Option Ob)} : ∀ (l : List (Nat × Nat × Ob)), obsOk s l → ∀ p ∈ l, ∀ q ∈ l, p.2.1 = q.2.1 → p.1 = q.1
  | [], _, p, hp, _, _, _ => by cases hp
  | r :: l, h, p, hp, q, hq, e => by
    rcases List.mem_cons.1 hp with rfl | hp' <;> rcases List.mem_cons.1 hq with rfl | hq'
    · rfl
    · exact (h.2.2.1 q hq' e.symm).symm
    · exact h.2.2.1 p hp' e
    · exact obsOk_inj l h.2.2.2 p hp' q hq' e
theorem snd_obs {s s' : St} {n : Nat} (l : List (Nat × Nat × Ob)) (e : s'.ob = obs n l) (ho : obsOk s.ob l) (h : LeTr (rho l) s.tm s'.tm) : Snd s s' :=
  Le.snd (ρ := rho l) ⟨leTr_len _ _ _ h, fun t => leTr_get _ _ _ h t, fun o ob hd => by
      unfold St.obj at hd ⊢
      rw [e] at hd
      obtain ⟨p, hp, h1, h2, h3⟩ := obs_get n l o ob hd
      rw [← h2, ← h3]
      exact (obsOk_at l ho p hp).1,
    fun o d hd => by
      unfold St.obj at hd
      rw [e] at hd
      obtain ⟨p, hp, h1, h2, h3⟩ := obs_get n l o _ hd
      rw [← h2, ← h1]
      exact ((obsOk_at l ho p hp).2 (by rw [h3]; rfl)).symm,
    fun o sz e' cp xs hd => by
      unfold St.obj at hd
      rw [e] at hd
      obtain ⟨p, hp, h1, h2, h3⟩ := obs_get n l o _ hd
      rw [← h2, ← h1]
      exact ((obsOk_at l ho p hp).2 (by rw [h3]; rfl)).symm,
    fun o o' ob ob' h1 h2 he => by
      unfold St.obj at h1 h2
      rw [e] at h1 h2
      obtain ⟨p, hp, p1, p2, _⟩ := obs_get n l o _ h1
      obtain ⟨q, hq, q1, q2, _⟩ := obs_get n l o' _ h2
      rw [← p1, ← q1]
      exact obsOk_inj l ho p hp q hq (by rw [p2, q2, he])⟩
attribute [simp] LeTr rho obsOk Ob.isP X.ren Rv.ren
end Go.Proofs.Ytcgolmopbnhgeaa.Ae

namespace Go.Proofs.Ytcgolmopbnhgeaa.Ae
open Go Go.RowKit Go.Proofs.Ytcgolmopbnhgeaa.Dig
variable {N : NR}
end Go.Proofs.Ytcgolmopbnhgeaa.Ae

namespace Go.Proofs.Ytcgolmopbnhgeaa.Ae
open Go Go.RowKit Go.Proofs.Ytcgolmopbnhgeaa.Dig
variable {N : NR}
section
variable {α : Type} {e : α → List D × Nat × Nat × List D} {pre : α → Prop} {post : α → Option Wr × List D}
end
def part (xs : List Nat) (lo n : Nat) : List Nat := (xs.drop lo).take n
end Go.Proofs.Ytcgolmopbnhgeaa.Ae

namespace Go.Proofs.Ytcgolmopbnhgeaa.Ae
open Go Go.RowKit Go.Proofs.Ytcgolmopbnhgeaa.Dig
variable {N : NR}
def put (xs : List Nat) (lo n x : Nat) : List Nat := xs.take lo ++ dig n x ++ xs.drop (lo + n)
end Go.Proofs.Ytcgolmopbnhgeaa.Ae

namespace Go.Proofs.Ytcgolmopbnhgeaa.Ae
open Go Go.RowKit Go.Proofs.Ytcgolmopbnhgeaa.Dig
variable {N : NR}
end Go.Proofs.Ytcgolmopbnhgeaa.Ae

namespace Go.Proofs.Ytcgolmopbnhgeaa.Ae
open Go Go.RowKit Go.Proofs.Ytcgolmopbnhgeaa.Dig
variable {N : NR}
end Go.Proofs.Ytcgolmopbnhgeaa.Ae

namespace Go.Proofs.Ytcgolmopbnhgeaa.Ae
open Go Go.RowKit Go.Proofs.Ytcgolmopbnhgeaa.Dig
variable {N : NR}
end Go.Proofs.Ytcgolmopbnhgeaa.Ae

namespace Go.Proofs.Ytcgolmopbnhgeaa.Dig
structure Kn (W V P top v2 u0 u1 u2 : Nat) : Prop where
  P0 : 0 < P
  hV : ∃ l, l < P ∧ V = l + P * (v2 + B * top)
  hW : ∃ l, l < P ∧ W = l + P * (u2 + B * (u1 + B * u0))
  v2B : v2 < B
  u2B : u2 < B
  u1B : u1 < B
  t0 : 0 < top
  lt : W < B * V
variable {W V P top v2 u0 u1 u2 : Nat}
theorem Kn.V0 (h : Kn W V P top v2 u0 u1 u2) : P * B ≤ V := by
  obtain ⟨l, _, e⟩ := h.hV
  have h1 : P * (B * 1) ≤ P * (B * top) := Nat.mul_le_mul_left _ (Nat.mul_le_mul_left _ h.t0)
  rw [Nat.mul_one] at h1
  rw [e, Nat.mul_add]; omega
theorem Kn.Vpos (h : Kn W V P top v2 u0 u1 u2) : 0 < V := Nat.lt_of_lt_of_le (Nat.mul_pos h.P0 B_pos) h.V0
theorem Kn.start (h : Kn W V P top v2 u0 u1 u2) : W / V ≤ (u1 + B * u0) / top := by
  rw [Nat.le_div_iff_mul_le h.t0]
  obtain ⟨l, hl, e⟩ := h.hV
  obtain ⟨m, hm, e'⟩ := h.hW
  have h1 : W / V * V ≤ W := Nat.div_mul_le_self _ _
  have h2 : W < P * B * (u1 + B * u0 + 1) := by
    have h3 : P * (u2 + 1) ≤ P * B := Nat.mul_le_mul_left _ h.u2B
    rw [e', Nat.mul_add P, Nat.mul_add (P * B), Nat.mul_one, ← Nat.mul_assoc P B]
    rw [Nat.mul_add, Nat.mul_one] at h3
    omega
  have h4 : P * B * (W / V * top) ≤ W / V * V := by
    have : P * (B * top) ≤ V := by rw [e, Nat.mul_add]; omega
    have := Nat.mul_le_mul_left (W / V) this
    have e3 : P * B * (W / V * top) = W / V * (P * (B * top)) := by simp only [Nat.mul_assoc, Nat.mul_comm, Nat.mul_left_comm]
    omega
  have h5 : P * B * (W / V * top) < P * B * (u1 + B * u0 + 1) := by omega
  have := Nat.lt_of_mul_lt_mul_left h5
  omega
theorem Kn.q_lt (h : Kn W V P top v2 u0 u1 u2) : W / V < B := (Nat.div_lt_iff_lt_mul h.Vpos).2 h.lt
theorem Kn.dec (h : Kn W V P top v2 u0 u1 u2) {g r : Nat} (hi : g * top + r = u1 + B * u0) (hq : W / V ≤ g) (hc : B ≤ g ∨ r * B + u2 < g * v2) : 1 ≤ g ∧ (g - 1) * top + (r + top) = u1 + B * u0 ∧ W / V ≤ g - 1 := by
  have hlt : W / V < g := by
    rcases hc with hc | hc
    · have := h.q_lt; omega
    · rw [Nat.div_lt_iff_lt_mul h.Vpos]
      obtain ⟨l, hl, e⟩ := h.hV
      obtain ⟨m, hm, e'⟩ := h.hW
      have h1 : g * (P * (v2 + B * top)) ≤ g * V := Nat.mul_le_mul_left _ (by omega)
      have h2 : W < P * (u2 + B * (u1 + B * u0) + 1) := by rw [e', Nat.mul_add P _ 1]; omega
      have h3 : u2 + B * (u1 + B * u0) + 1 ≤ g * (v2 + B * top) := by
        rw [← hi, Nat.mul_add B, Nat.mul_add g]
        have e1 : B * (g * top) = g * (B * top) := Nat.mul_left_comm _ _ _
        rw [e1, Nat.mul_comm B r]
        omega
      have h4 : P * (u2 + B * (u1 + B * u0) + 1) ≤ P * (g * (v2 + B * top)) := Nat.mul_le_mul_left _ h3
      have h5 : P * (g * (v2 + B * top)) = g * (P * (v2 + B * top)) := Nat.mul_left_comm _ _ _
      omega
  generalize W / V = q at hlt hq ⊢
  refine ⟨by omega, ?_, by omega⟩
  obtain ⟨k, rfl⟩ : ∃ k, g = k + 1 := ⟨g - 1, by omega⟩
  rw [Nat.add_sub_cancel]
  rw [Nat.add_mul, Nat.one_mul] at hi
  omega
theorem Kn.u0_le (h : Kn W V P top v2 u0 u1 u2) : u0 ≤ top := by
  obtain ⟨l, hl, e⟩ := h.hV
  obtain ⟨m, hm, e'⟩ := h.hW
  have h1 : P * (B * (B * u0)) ≤ W := by
    rw [e', Nat.mul_add P, Nat.mul_add B, Nat.mul_add P]
    omega
  have h2 : V < P * (B * (top + 1)) := by
    have h3 : P * (v2 + 1) ≤ P * B := Nat.mul_le_mul_left _ h.v2B
    rw [Nat.mul_add, Nat.mul_one] at h3
    rw [e, Nat.mul_add B, Nat.mul_add P, Nat.mul_add P, Nat.mul_one]
    omega
  have h3 : B * V < B * (P * (B * (top + 1))) := Nat.mul_lt_mul_of_pos_left h2 B_pos
  have h4 := h.lt
  have e3 : B * (P * (B * (top + 1))) = P * (B * (B * (top + 1))) := Nat.mul_left_comm _ _ _
  have h5 : P * (B * (B * u0)) < P * (B * (B * (top + 1))) := by omega
  have h6 := Nat.lt_of_mul_lt_mul_left (Nat.lt_of_mul_lt_mul_left (Nat.lt_of_mul_lt_mul_left h5))
  omega
theorem Kn.done (h : Kn W V P top v2 u0 u1 u2) {g r : Nat} (hi : g * top + r = u1 + B * u0) (hc : ¬ (r < B ∧ (B ≤ g ∨ r * B + u2 < g * v2))) : g < B ∧ g ≤ W / V + 1 := by
  obtain ⟨l, hl, e⟩ := h.hV
  obtain ⟨m, hm, e'⟩ := h.hW
  by_cases hr : r < B
  · have hg : g < B := by
      rcases Nat.lt_or_ge g B with h1 | h1
      · exact h1
      · exact absurd ⟨hr, .inl h1⟩ hc
    have hv : g * v2 ≤ r * B + u2 := by
      rcases Nat.lt_or_ge (r * B + u2) (g * v2) with h1 | h1
      · exact absurd ⟨hr, .inr h1⟩ hc
      · exact h1
    refine ⟨hg, ?_⟩
    have h1 : g * V < W + V := by
      have h2 : g * (v2 + B * top) ≤ u2 + B * (u1 + B * u0) := by
        rw [← hi, Nat.mul_add B, Nat.mul_add g]
        have e1 : B * (g * top) = g * (B * top) := Nat.mul_left_comm _ _ _
        rw [e1, Nat.mul_comm B r]
        omega
      have h3 : P * (g * (v2 + B * top)) ≤ P * (u2 + B * (u1 + B * u0)) := Nat.mul_le_mul_left _ h2
      have h4 : g * V = g * l + P * (g * (v2 + B * top)) := by rw [e, Nat.mul_add, Nat.mul_left_comm g P]
      have h5 : g * l ≤ g * P := Nat.mul_le_mul_left _ (Nat.le_of_lt hl)
      have h6 : g * P < B * P := Nat.mul_lt_mul_of_pos_right hg h.P0
      have h7 := h.V0
      rw [Nat.mul_comm P B] at h7
      omega
    cases g with
    | zero => exact Nat.zero_le _
    | succ k =>
      have h2 : k * V ≤ W := by rw [Nat.add_mul, Nat.one_mul] at h1; omega
      have h3 := (Nat.le_div_iff_mul_le h.Vpos).2 h2
      exact Nat.succ_le_succ h3
  · have hu := h.u0_le
    have h1 := h.u1B
    have hg : g < B := by
      have h2 : B * u0 ≤ B * top := Nat.mul_le_mul_left _ hu
      have h3 : g * top < B * top := by omega
      exact Nat.lt_of_mul_lt_mul_right h3
    refine ⟨hg, ?_⟩
    have h2 : g * V ≤ W := by
      have h3 : l + P * v2 ≤ P * B := by
        have : P * (v2 + 1) ≤ P * B := Nat.mul_le_mul_left _ h.v2B
        rw [Nat.mul_add, Nat.mul_one] at this
        omega
      have h4 : g * (l + P * v2) ≤ r * (P * B) := Nat.mul_le_mul (by omega) h3
      have h5 : g * V = g * (l + P * v2) + P * B * (g * top) := by
        have e1 : P * B * (g * top) = g * (P * (B * top)) := by simp only [Nat.mul_assoc, Nat.mul_comm, Nat.mul_left_comm]
        rw [e, Nat.mul_add P, ← Nat.add_assoc, Nat.mul_add g, e1]
      have h6 : P * B * (g * top) + P * B * r = P * B * (u1 + B * u0) := by rw [← Nat.mul_add, hi]
      have h7 : P * B * (u1 + B * u0) ≤ W := by
        rw [e', Nat.mul_add P u2, ← Nat.mul_assoc P B]
        omega
      rw [Nat.mul_comm r] at h4
      omega
    exact Nat.le_succ_of_le ((Nat.le_div_iff_mul_le h.Vpos).2 h2)
end Go.Proofs.Ytcgolmopbnhgeaa.Dig

namespace Go.Proofs.Ytcgolmopbnhgeaa.Ae
open Go Go.RowKit Go.Proofs.Ytcgolmopbnhgeaa.Dig
variable {N : NR}
end Go.Proofs.Ytcgolmopbnhgeaa.Ae

namespace Go.Proofs.Ytcgolmopbnhgeaa.Ae
open Go Go.RowKit Go.Proofs.Ytcgolmopbnhgeaa.Dig
end Go.Proofs.Ytcgolmopbnhgeaa.Ae

namespace Go.Proofs.Ytcgolmopbnhgeaa.Ae
open Go Go.RowKit Go.Proofs.Ytcgolmopbnhgeaa.Dig
end Go.Proofs.Ytcgolmopbnhgeaa.Ae

namespace Go.Proofs.Ytcgolmopbnhgeaa.Ae
open Go Go.RowKit Go.Proofs.Ytcgolmopbnhgeaa.Dig
variable {N : NR}
end Go.Proofs.Ytcgolmopbnhgeaa.Ae

namespace Go.Proofs.Ytcgolmopbnhgeaa.Ae
open Go Go.RowKit Go.Proofs.Ytcgolmopbnhgeaa.Dig
variable {N : NR}
structure N1 where
  a : Nat
def i64D (n : Int) : D := .lit (.int .i64 n)
theorem i64D_inj {a b : Int} (h : i64D a = i64D b) : a = b := by simp [i64D] at h; omega
def I64 (x : Int) : Prop := -9223372036854775808 ≤ x ∧ x ≤ 9223372036854775807
end Go.Proofs.Ytcgolmopbnhgeaa.Ae

namespace Go.Proofs.Ytcgolmopbnhgeaa.Ae
open Go Go.RowKit Go.Proofs.Ytcgolmopbnhgeaa.Dig
variable {N : NR}
end Go.Proofs.Ytcgolmopbnhgeaa.Ae

namespace Go.Proofs.Ytcgolmopbnhgeaa.Ae
open Go Go.RowKit Go.Proofs.Ytcgolmopbnhgeaa.Dig
variable {N : NR}
end Go.Proofs.Ytcgolmopbnhgeaa.Ae

namespace Go.Proofs.Ytcgolmopbnhgeaa.Ae
open Go Go.RowKit Go.Proofs.Ytcgolmopbnhgeaa.Dig
variable {N : NR}
end Go.Proofs.Ytcgolmopbnhgeaa.Ae

namespace Go.Proofs.Ytcgolmopbnhgeaa.Ae
open Go Go.RowKit Go.Proofs.Ytcgolmopbnhgeaa.Dig
variable {N : NR}
end Go.Proofs.Ytcgolmopbnhgeaa.Ae

namespace Go.Proofs.Ytcgolmopbnhgeaa.Ae
open Go Go.RowKit Go.Proofs.Ytcgolmopbnhgeaa.Dig
variable {N : NR}
end Go.Proofs.Ytcgolmopbnhgeaa.Ae

namespace Go.Proofs.Ytcgolmopbnhgeaa.Ae
open Go Go.RowKit Go.Proofs.Ytcgolmopbnhgeaa.Dig
variable {N : NR}
end Go.Proofs.Ytcgolmopbnhgeaa.Ae

namespace Go.Proofs.Ytcgolmopbnhgeaa.Ae
open Go Go.RowKit Go.Proofs.Ytcgolmopbnhgeaa.Dig
end Go.Proofs.Ytcgolmopbnhgeaa.Ae

namespace Go.Proofs.Ytcgolmopbnhgeaa.Ae
open Go Go.RowKit Go.Proofs.Ytcgolmopbnhgeaa.Dig
end Go.Proofs.Ytcgolmopbnhgeaa.Ae

namespace Go.Proofs.Ytcgolmopbnhgeaa.Ae
open Go Go.RowKit Go.Proofs.Ytcgolmopbnhgeaa.Dig
end Go.Proofs.Ytcgolmopbnhgeaa.Ae

namespace Go.Proofs.Ytcgolmopbnhgeaa.Ae
open Go Go.RowKit Go.Proofs.Ytcgolmopbnhgeaa.Dig
end Go.Proofs.Ytcgolmopbnhgeaa.Ae

namespace Go.Proofs.Ytcgolmopbnhgeaa.Ae
open Go Go.RowKit Go.Proofs.Ytcgolmopbnhgeaa.Dig
variable {N : NR}
end Go.Proofs.Ytcgolmopbnhgeaa.Ae

namespace Go.Proofs.Ytcgolmopbnhgeaa.Ae
open Go Go.RowKit Go.Proofs.Ytcgolmopbnhgeaa.Dig
variable {N : NR}
end Go.Proofs.Ytcgolmopbnhgeaa.Ae

namespace Go.Proofs.Ytcgolmopbnhgeaa.Ae
open Go Go.RowKit Go.Proofs.Ytcgolmopbnhgeaa.Dig
variable {N : NR}
@[simp] theorem range1 : List.range 1 = [0] := rfl
@[simp] theorem range2 : List.range 2 = [0, 1] := rfl
@[simp] theorem range3 : List.range 3 = [0, 1, 2] := rfl
@[simp] theorem range4 : List.range 4 = [0, 1, 2, 3] := rfl
@[simp] theorem cells_z : (Value.agg #[Value.bool false, Value.slice none 0 0]).cells.size = 2 := by rfl
@[simp] theorem cells_q : (Value.agg #[Value.int .i64 0, Value.int .i64 0]).cells.size = 2 := by rfl
@[simp] theorem cells_r : (Value.agg #[Value.int .i64 0, Value.int .i64 0, Value.slice none 0 0]).cells.size = 3 := by rfl
theorem Sub.agg2 {a b a' b' : D} (ha : Sub a a') (hb : Sub b b') : Sub (.agg [a, b]) (.agg [a', b']) := Sub.agg rfl (fun i d d' h h' => by
  match i with
  | 0 => simp at h h'; subst h h'; exact ha
  | 1 => simp at h h'; subst h h'; exact hb
  | i + 2 => simp at h)
theorem Sub.agg3 {a b c a' b' c' : D} (ha : Sub a a') (hb : Sub b b') (hc : Sub c c') : Sub (.agg [a, b, c]) (.agg [a', b', c']) := Sub.agg rfl (fun i d d' h h' => by
  match i with
  | 0 => simp at h h'; subst h h'; exact ha
  | 1 => simp at h h'; subst h h'; exact hb
  | 2 => simp at h h'; subst h h'; exact hc
  | i + 3 => simp at h)
@[simp] theorem sub_z0 : Sub (.agg [.lit (.bool false), .lit (.slice none 0 0)]) (.agg [.lit (.bool false), .sl 1 []]) = True := by
  simp only [eq_iff_iff, iff_true]; exact Sub.agg2 (Sub.refl _) (Sub.nil 1)
def eZ (z : Int) : D := .agg [.lit (.bool (decide (z < 0))), eM z.natAbs]
def SZ (z : Int) : Prop := Sm z.natAbs
@[simp] theorem eZ_size (z : Int) : (eZ z).size = 2 := rfl
@[simp] theorem eZ_agg (z : Int) : (eZ z).isAgg = true := rfl
end Go.Proofs.Ytcgolmopbnhgeaa.Ae

namespace Go.Proofs.Ytcgolmopbnhgeaa.Ae
open Go Go.RowKit Go.Proofs.Ytcgolmopbnhgeaa.Dig
variable {N : NR}
end Go.Proofs.Ytcgolmopbnhgeaa.Ae

namespace Go.Proofs.Ytcgolmopbnhgeaa.Ae
open Go Go.RowKit Go.Proofs.Ytcgolmopbnhgeaa.Dig
variable {N : NR}
inductive SR where
  | small (n d : Int)
  | lit (n d : Int)
  | big (p q : Int)
def SR.num : SR → Int
  | small n _ => n
  | lit n _ => n
  | big p _ => p
def SR.den : SR → Int
  | small _ d => d
  | lit _ d => d
  | big _ q => q
def eR : SR → D
  | .small n d => .agg [i64D n, i64D d, .sl 2 []]
  | .lit n d => .agg [i64D n, i64D d, .lit (.slice none 0 0)]
  | .big p q => .agg [i64D 0, i64D 0, .sl 2 [eZ p, eZ q]]
def WR : SR → Prop
  | .small n d => n.natAbs < 2147483648 ∧ 0 < d ∧ d < 2147483648
  | .lit n d => n.natAbs < 2147483648 ∧ 0 < d ∧ d < 2147483648
  | .big p q => SZ p ∧ SZ q ∧ 0 < q
@[simp] theorem sub_r0 (n d : Int) : Sub (.agg [.lit (.int .i64 n), .lit (.int .i64 d), .lit (.slice none 0 0)]) (.agg [.lit (.int .i64 n), .lit (.int .i64 d), .sl 2 []]) = True := by
  simp only [eq_iff_iff, iff_true]; exact Sub.agg3 (Sub.refl _) (Sub.refl _) (Sub.nil 2)
@[simp] theorem eR_size (r : SR) : (eR r).size = 3 := by cases r <;> rfl
@[simp] theorem eR_isAgg (r : SR) : (eR r).isAgg = true := by cases r <;> rfl
end Go.Proofs.Ytcgolmopbnhgeaa.Ae

namespace Go.Proofs.Ytcgolmopbnhgeaa.Ae
open Go Go.RowKit Go.Proofs.Ytcgolmopbnhgeaa.Dig
variable {N : NR}
end Go.Proofs.Ytcgolmopbnhgeaa.Ae

namespace Go.Proofs.Ytcgolmopbnhgeaa.Ae
open Go Go.RowKit Go.Proofs.Ytcgolmopbnhgeaa.Dig
variable {N : NR}
end Go.Proofs.Ytcgolmopbnhgeaa.Ae

namespace Go.Proofs.Ytcgolmopbnhgeaa.Ae
open Go Go.RowKit Go.Proofs.Ytcgolmopbnhgeaa.Dig
variable {N : NR}
end Go.Proofs.Ytcgolmopbnhgeaa.Ae

namespace Go.Proofs.Ytcgolmopbnhgeaa.Ae
open Go Go.RowKit Go.Proofs.Ytcgolmopbnhgeaa.Dig
variable {N : NR}
end Go.Proofs.Ytcgolmopbnhgeaa.Ae

namespace Go.Proofs.Ytcgolmopbnhgeaa.Ae
open Go Go.RowKit Go.Proofs.Ytcgolmopbnhgeaa.Dig
variable {N : NR}
end Go.Proofs.Ytcgolmopbnhgeaa.Ae

namespace Go.Proofs.Ytcgolmopbnhgeaa.Ae
open Go Go.RowKit Go.Proofs.Ytcgolmopbnhgeaa.Dig
variable {N : NR}
end Go.Proofs.Ytcgolmopbnhgeaa.Ae

namespace Go.Proofs.Ytcgolmopbnhgeaa.Ae
open Go Go.RowKit Go.Proofs.Ytcgolmopbnhgeaa.Dig
variable {N : NR}
inductive BC where
  | z (v : Int)
  | new
end Go.Proofs.Ytcgolmopbnhgeaa.Ae

namespace Go.Proofs.Ytcgolmopbnhgeaa.Ae
open Go Go.RowKit Go.Proofs.Ytcgolmopbnhgeaa.Dig
variable {N : NR}
end Go.Proofs.Ytcgolmopbnhgeaa.Ae

namespace Go.Proofs.Ytcgolmopbnhgeaa.Ae
open Go Go.RowKit Go.Proofs.Ytcgolmopbnhgeaa.Dig
variable {N : NR}
end Go.Proofs.Ytcgolmopbnhgeaa.Ae

namespace Go.Proofs.Ytcgolmopbnhgeaa.Ae
open Go Go.RowKit Go.Proofs.Ytcgolmopbnhgeaa.Dig
variable {N : NR}
inductive BinA where
  | dd (x y : Int) (c : BC)
  | zd (x y : Int)
def BinA.x : BinA → Int
  | dd x _ _ => x
  | zd x _ => x
def BinA.y : BinA → Int
  | dd _ y _ => y
  | zd _ y => y
end Go.Proofs.Ytcgolmopbnhgeaa.Ae

namespace Go.Proofs.Ytcgolmopbnhgeaa.Ae
open Go Go.RowKit Go.Proofs.Ytcgolmopbnhgeaa.Dig
variable {N : NR}
end Go.Proofs.Ytcgolmopbnhgeaa.Ae

namespace Go.Proofs.Ytcgolmopbnhgeaa.Ae
open Go Go.RowKit Go.Proofs.Ytcgolmopbnhgeaa.Dig
variable {N : NR}
inductive SgA where
  | d (x : Int)
  | r (x : Int)
def SgA.x : SgA → Int
  | d x => x
  | r x => x
end Go.Proofs.Ytcgolmopbnhgeaa.Ae

namespace Go.Proofs.Ytcgolmopbnhgeaa.Ae
open Go Go.RowKit Go.Proofs.Ytcgolmopbnhgeaa.Dig
variable {N : NR}
end Go.Proofs.Ytcgolmopbnhgeaa.Ae

namespace Go.Proofs.Ytcgolmopbnhgeaa.Ae
open Go Go.RowKit Go.Proofs.Ytcgolmopbnhgeaa.Dig
variable {N : NR}
inductive NgA where
  | d (x : Int) (c : BC)
  | r (x : Int)
def NgA.x : NgA → Int
  | d x _ => x
  | r x => x
end Go.Proofs.Ytcgolmopbnhgeaa.Ae

namespace Go.Proofs.Ytcgolmopbnhgeaa.Ae
open Go Go.RowKit Go.Proofs.Ytcgolmopbnhgeaa.Dig
variable {N : NR}
end Go.Proofs.Ytcgolmopbnhgeaa.Ae

namespace Go.Proofs.Ytcgolmopbnhgeaa.Ae
open Go Go.RowKit Go.Proofs.Ytcgolmopbnhgeaa.Dig
variable {N : NR}
instance (a : Int) : Decidable (I64 a) := by unfold I64; infer_instance
@[simp] theorem eZ_lit (z : Int) : (eZ z).isLit = false := rfl
end Go.Proofs.Ytcgolmopbnhgeaa.Ae

namespace Go.Proofs.Ytcgolmopbnhgeaa.Ae
open Go Go.RowKit Go.Proofs.Ytcgolmopbnhgeaa.Dig
variable {N : NR}
inductive QuA where
  | dd (x y : Int) (c : BC)
def QuA.x : QuA → Int
  | dd x _ _ => x
def QuA.y : QuA → Int
  | dd _ y _ => y
end Go.Proofs.Ytcgolmopbnhgeaa.Ae

namespace Go.Proofs.Ytcgolmopbnhgeaa.Ae
open Go Go.RowKit Go.Proofs.Ytcgolmopbnhgeaa.Dig
variable {N : NR}
end Go.Proofs.Ytcgolmopbnhgeaa.Ae

namespace Go.Proofs.Ytcgolmopbnhgeaa.Ae
open Go Go.RowKit Go.Proofs.Ytcgolmopbnhgeaa.Dig
variable {N : NR}
end Go.Proofs.Ytcgolmopbnhgeaa.Ae

namespace Go.Proofs.Ytcgolmopbnhgeaa.Dig
def ln (n : Nat) : Nat := (mag n).length
theorem ln_iff {n k : Nat} : ln n ≤ k ↔ n < B ^ k := mag_lt
theorem ln_i64 {n : Nat} (h : n < 18446744073709551616) : ln n ≤ 2 := ln_iff.2 (by simp only [B]; omega)
def qsz (q : Rat) : Nat := max (ln q.num.natAbs) (ln q.den)
theorem low_pos {a b : Int} (h : 0 < b) : Int.tdiv a (Int.gcd a b) = (Rat.divInt a b).num ∧ Int.tdiv b (Int.gcd a b) = (Rat.divInt a b).den := by
  rw [Rat.num_divInt, Rat.den_divInt, if_neg (by omega), Int.sign_eq_one_of_pos h, Int.one_mul, Int.gcd_comm b a]
  have h1 : (Int.gcd a b : Int) ∣ a := Int.gcd_dvd_left ..
  have h2 : (Int.gcd a b : Int) ∣ b := Int.gcd_dvd_right ..
  refine ⟨Int.tdiv_eq_ediv_of_dvd h1, ?_⟩
  rw [Int.tdiv_eq_ediv_of_dvd h2]
  obtain ⟨m, rfl⟩ : ∃ m : Nat, b = m := ⟨b.natAbs, by omega⟩
  rw [Int.natAbs_natCast, Int.natCast_ediv]
end Go.Proofs.Ytcgolmopbnhgeaa.Dig

namespace Go.Proofs.Ytcgolmopbnhgeaa.Ae
open Go Go.RowKit Go.Proofs.Ytcgolmopbnhgeaa.Dig
variable {N : NR}
end Go.Proofs.Ytcgolmopbnhgeaa.Ae

namespace Go.Proofs.Ytcgolmopbnhgeaa.Ae
open Go Go.RowKit Go.Proofs.Ytcgolmopbnhgeaa.Dig
variable {N : NR}
end Go.Proofs.Ytcgolmopbnhgeaa.Ae

namespace Go.Proofs.Ytcgolmopbnhgeaa.Ae
open Go Go.RowKit Go.Proofs.Ytcgolmopbnhgeaa.Dig
def SR.val (r : SR) : Rat := Rat.divInt r.num r.den
def WV (r : SR) : Prop := WR r ∧ ∀ p q, r = .big p q → Int.gcd p q = 1
end Go.Proofs.Ytcgolmopbnhgeaa.Ae

namespace Go.Proofs.Ytcgolmopbnhgeaa.Ae
open Go Go.RowKit Go.Proofs.Ytcgolmopbnhgeaa.Dig
def NN : NR := ⟨fun _ _ _ _ _ => False, fun h => h.elim, fun h => h.elim, fun _ h => h.elim⟩
def NF : NR where
  R k F w q cs := k = 1 ∧ ∃ r, WV r ∧ r.val = q ∧ Rep NN F w (eR r) cs
  len := by
    rintro k F w q cs ⟨rfl, r, _, _, h⟩
    rw [h.len, eR_size]; rfl
  one := by
    rintro k F w q cs ⟨rfl, r, _, _, h⟩
    exact h.one
  mono := by
    rintro k F F' w w' q cs hF ⟨rfl, r, h1, h2, h⟩
    exact ⟨rfl, r, h1, h2, h.mono hF⟩
end Go.Proofs.Ytcgolmopbnhgeaa.Ae

namespace Go.Proofs.Ytcgolmopbnhgeaa.Ae
open Go Go.RowKit Go.Proofs.Ytcgolmopbnhgeaa.Dig
variable {N : NR}
def smallQ (q : Rat) : Prop := q.num.natAbs < 9223372036854775808 ∧ q.den < 9223372036854775808
instance (q : Rat) : Decidable (smallQ q) := by unfold smallQ; infer_instance
def boolD (b : Bool) : D := .lit (.bool b)
theorem smallQ_qsz {q : Rat} (h : smallQ q) : qsz q ≤ 2 := by
  unfold smallQ at h
  exact Nat.max_le.2 ⟨ln_i64 (by omega), ln_i64 (by omega)⟩
def lit31 (q : Rat) : Prop := q.num.natAbs < 2147483648 ∧ q.den < 2147483648
instance (q : Rat) : Decidable (lit31 q) := by unfold lit31; infer_instance
def QI (n d : Int) : Prop := 0 < d ∧ Int.gcd n d = 1 ∧ n.natAbs < 9223372036854775808 ∧ d < 9223372036854775808
theorem QI_num {n d : Int} (h : QI n d) : (Rat.divInt n d).num = n ∧ ((Rat.divInt n d).den : Int) = d := by
  obtain ⟨h1, h2, _⟩ := h
  obtain ⟨e1, e2⟩ := low_pos (a := n) h1
  rw [h2] at e1 e2
  rw [← e1, ← e2]
  simp
theorem QI_small {n d : Int} (h : QI n d) : smallQ (Rat.divInt n d) := by
  obtain ⟨e1, e2⟩ := QI_num h
  obtain ⟨h1, h2, h3, h4⟩ := h
  refine ⟨by rw [e1]; exact h3, by omega⟩
end Go.Proofs.Ytcgolmopbnhgeaa.Ae

namespace Go.Proofs.Ytcgolmopbnhgeaa.Ae
open Go Go.RowKit Go.Proofs.Ytcgolmopbnhgeaa.Dig
variable {N : NR}
end Go.Proofs.Ytcgolmopbnhgeaa.Ae

namespace Go.Proofs.Ytcgolmopbnhgeaa.Ae
open Go Go.RowKit Go.Proofs.Ytcgolmopbnhgeaa.Dig
variable {N : NR}
def isQ (q : Rat) : Prop := q.num.natAbs ≤ 1000000000000000000 ∧ q.den ≤ 1000000000000000000
instance (q : Rat) : Decidable (isQ q) := by unfold isQ; infer_instance
end Go.Proofs.Ytcgolmopbnhgeaa.Ae

namespace Go.Proofs.Ytcgolmopbnhgeaa.Ae
open Go Go.RowKit Go.Proofs.Ytcgolmopbnhgeaa.Dig
variable {N : NR}
end Go.Proofs.Ytcgolmopbnhgeaa.Ae

namespace Go.Proofs.Ytcgolmopbnhgeaa.Ae
open Go Go.RowKit Go.Proofs.Ytcgolmopbnhgeaa.Dig
variable {N : NR}
def qOk (n d : Int) : Prop := (1 ≤ d ∧ d ≤ 1000000000000000000) ∧ (-1000000000000000000 ≤ n ∧ n ≤ 1000000000000000000) ∧ Int.gcd n d = 1
instance (n d : Int) : Decidable (qOk n d) := by unfold qOk; infer_instance
theorem qOk_QI {n d : Int} (h : qOk n d) : QI n d := ⟨by unfold qOk at h; omega, h.2.2, by unfold qOk at h; omega, by unfold qOk at h; omega⟩
end Go.Proofs.Ytcgolmopbnhgeaa.Ae

namespace Go.Proofs.Ytcgolmopbnhgeaa.Ae
open Go Go.RowKit Go.Proofs.Ytcgolmopbnhgeaa.Dig
end Go.Proofs.Ytcgolmopbnhgeaa.Ae

namespace Go.Proofs.Ytcgolmopbnhgeaa.Ae
open Go Go.RowKit Go.Proofs.Ytcgolmopbnhgeaa.Dig
structure Q4 where
  a : Int
  b : Int
  c : Int
  d : Int
def ok2 (p : Q4) : Prop := qOk p.a p.b ∧ qOk p.c p.d
instance (p : Q4) : Decidable (ok2 p) := by unfold ok2; infer_instance
def okD (p : Q4) : Prop := ok2 p ∧ p.c ≠ 0
instance (p : Q4) : Decidable (okD p) := by unfold okD; infer_instance
def okF (p : Q4) : Prop := ok2 p ∧ 0 < p.c
instance (p : Q4) : Decidable (okF p) := by unfold okF; infer_instance
theorem QI_qsz {n d : Int} (h : QI n d) : qsz (Rat.divInt n d) ≤ 2 := smallQ_qsz (QI_small h)
end Go.Proofs.Ytcgolmopbnhgeaa.Ae

namespace Go.Proofs.Ytcgolmopbnhgeaa.Ae
open Go Go.RowKit Go.Proofs.Ytcgolmopbnhgeaa.Dig
theorem qOk_64 {n d : Int} (h : qOk n d) : I64 n ∧ I64 d ∧ 0 < d := by unfold qOk at h; unfold I64; omega
end Go.Proofs.Ytcgolmopbnhgeaa.Ae

namespace Go.Proofs.Ytcgolmopbnhgeaa.Ae
open Go Go.RowKit Go.Proofs.Ytcgolmopbnhgeaa.Dig
theorem law_calls {f : FuncId} {g : List D → Prop × List D} (h : SpecD NF Try.prog f g) {ds : List D} (hp : (g ds).1) (hr : (g ds).2 = [boolD true]) {vs : List Value} {w : World} (hrep : RepVs NF (fun _ => False) w ds vs) :
    Calls Try.prog f vs.toArray w fun e w' => e = .returned (.bool true) ∧ Below w.heap.size w w' := by
  refine (h ds hp (fun _ => False) w vs (fun k hk => hk.elim) hrep).mono fun e w' ⟨v, he, hv, hfr⟩ => ?_
  rw [hr] at hv
  have hv : RepV NF _ w' (.lit (.bool true)) v := hv
  obtain ⟨rfl, _⟩ := RepV.lit hv
  exact ⟨he, ⟨hfr.os, hfr.tape, hfr.output, hfr.size, fun k hk => hfr.block k hk (fun h => h)⟩⟩
theorem repV_flat {N : NR} {F : Nat → Prop} {w : World} {d : D} {cs : List Value} (h : flatD d = some cs) (h1 : ∀ v ∈ cs, v.oneCell' = true) (ha : d.isAgg = true) : RepV N F w d (.agg cs.toArray) :=
  ⟨cs, flatD_rep d cs h h1, by unfold mkV; rw [ha]; rfl⟩
theorem repVs_nil {N : NR} {F : Nat → Prop} {w : World} : RepVs N F w [] [] := ⟨rfl, fun i d v h => by simp at h⟩
theorem repVs_cons {N : NR} {F : Nat → Prop} {w : World} {d : D} {v : Value} {ds : List D} {vs : List Value} (h : RepV N F w d v) (hs : RepVs N F w ds vs) : RepVs N F w (d :: ds) (v :: vs) :=
  ⟨by simp only [List.length_cons]; rw [hs.1], fun i e u h1 h2 => by
    cases i with
    | zero =>
      simp only [List.getElem?_cons_zero, Option.some.injEq] at h1 h2
      subst h1 h2
      exact h
    | succ i => exact hs.2 i e u (by simpa using h1) (by simpa using h2)⟩
theorem wf64 {a : Int} (h : (Lit.int .i64 a).wf = true) : I64 a := bounds_i64 h
end Go.Proofs.Ytcgolmopbnhgeaa.Ae

namespace Go.Proofs.Ytcgolmopbnhgeaa.Ae
open Go Go.RowKit Go.Proofs.Ytcgolmopbnhgeaa.Dig
structure Enc (α : Type) where
  e : α → D
  inj : ∀ a b, e a = e b → a = b
def EInt : Enc Int := ⟨i64D, fun _ _ => i64D_inj⟩
def Enc.pair {α β : Type} (A : Enc α) (B : Enc β) : Enc (α × β) := ⟨fun p => .agg [A.e p.1, B.e p.2], fun p q h => by
  simp only [D.agg.injEq, List.cons.injEq, and_true] at h
  exact Prod.ext (A.inj _ _ h.1) (B.inj _ _ h.2)⟩
def Enc.trip {α β γ : Type} (A : Enc α) (B : Enc β) (C : Enc γ) : Enc (α × β × γ) := ⟨fun p => .agg [A.e p.1, B.e p.2.1, C.e p.2.2], fun p q h => by
  simp only [D.agg.injEq, List.cons.injEq, and_true] at h
  exact Prod.ext (A.inj _ _ h.1) (Prod.ext (B.inj _ _ h.2.1) (C.inj _ _ h.2.2))⟩
theorem map_inj {α : Type} (E : Enc α) : ∀ {a b : List α}, a.map E.e = b.map E.e → a = b
  | [], [], _ => rfl
  | x :: a, y :: b, h => by
    simp only [List.map_cons, List.cons.injEq] at h
    rw [E.inj _ _ h.1, map_inj E h.2]
  | [], _ :: _, h => by simp at h
  | _ :: _, [], h => by simp at h
def Enc.list {α : Type} (sz : Nat) (E : Enc α) : Enc (List α) := ⟨fun l => .sl sz (l.map E.e), fun a b h => by
  injection h with _ h; exact map_inj E h⟩
noncomputable def ct1 {α : Type} (A : Enc α) (pre : α → Prop) (post : α → List D) := ctD (fun a => [A.e a]) pre post
theorem ct1_at {α : Type} {A : Enc α} {pre : α → Prop} {post : α → List D} (a : α) : ct1 A pre post [A.e a] = (pre a, post a) :=
  ctD_at (e := fun a => [A.e a]) (fun a b h => by simp only [List.cons.injEq, and_true] at h; exact A.inj _ _ h) a
noncomputable def ct2 {α β : Type} (A : Enc α) (B : Enc β) (pre : α → β → Prop) (post : α → β → List D) := ctD (fun p : α × β => [A.e p.1, B.e p.2]) (fun p => pre p.1 p.2) (fun p => post p.1 p.2)
theorem ct2_at {α β : Type} {A : Enc α} {B : Enc β} {pre : α → β → Prop} {post : α → β → List D} (a : α) (b : β) : ct2 A B pre post [A.e a, B.e b] = (pre a b, post a b) :=
  ctD_at (e := fun p : α × β => [A.e p.1, B.e p.2]) (fun p q h => by simp only [List.cons.injEq, and_true] at h; exact Prod.ext (A.inj _ _ h.1) (B.inj _ _ h.2)) (a, b)
noncomputable def ct4 {α β γ δ : Type} (A : Enc α) (B : Enc β) (C : Enc γ) (E : Enc δ) (pre : α → β → γ → δ → Prop) (post : α → β → γ → δ → List D) := ctD (fun p : α × β × γ × δ => [A.e p.1, B.e p.2.1, C.e p.2.2.1, E.e p.2.2.2]) (fun p => pre p.1 p.2.1 p.2.2.1 p.2.2.2) (fun p => post p.1 p.2.1 p.2.2.1 p.2.2.2)
theorem ct4_at {α β γ δ : Type} {A : Enc α} {B : Enc β} {C : Enc γ} {E : Enc δ} {pre : α → β → γ → δ → Prop} {post : α → β → γ → δ → List D} (a : α) (b : β) (c : γ) (d : δ) : ct4 A B C E pre post [A.e a, B.e b, C.e c, E.e d] = (pre a b c d, post a b c d) :=
  ctD_at (e := fun p : α × β × γ × δ => [A.e p.1, B.e p.2.1, C.e p.2.2.1, E.e p.2.2.2]) (fun p q h => by simp only [List.cons.injEq, and_true] at h; exact Prod.ext (A.inj _ _ h.1) (Prod.ext (B.inj _ _ h.2.1) (Prod.ext (C.inj _ _ h.2.2.1) (E.inj _ _ h.2.2.2)))) (a, b, c, d)
theorem rd1 {N : NR} {α : Type} {A : Enc α} {pre : α → Prop} {post : α → List D} {f : FuncId} {fn : Func} {c : Code} {mf : FuncId → Bool} {tb : FuncId → Option Ct} (htb : TbOK N Try.prog tb) (hf : Try.prog.funcs[f]? = some fn) (hb : fn.body = some c) (hd : drawAll mf c = true) (hl : Nat.ble 1 fn.ntmps = true)
    (h : ∀ a, pre a → awp Try.prog mf tb c (start fn.ntmps ([A.e a].map .dat) []) (endK Try.prog fn.ntmps fn.results.toList ((post a).map .dat) [])) : SpecD N Try.prog f (ct1 A pre post) :=
  rdD htb hf hb hd (fun a ha => ⟨Nat.le_of_ble_eq_true hl, h a ha⟩)
theorem rd2 {N : NR} {α β : Type} {A : Enc α} {B : Enc β} {pre : α → β → Prop} {post : α → β → List D} {f : FuncId} {fn : Func} {c : Code} {mf : FuncId → Bool} {tb : FuncId → Option Ct} (htb : TbOK N Try.prog tb) (hf : Try.prog.funcs[f]? = some fn) (hb : fn.body = some c) (hd : drawAll mf c = true) (hl : Nat.ble 2 fn.ntmps = true)
    (h : ∀ a b, pre a b → awp Try.prog mf tb c (start fn.ntmps ([A.e a, B.e b].map .dat) []) (endK Try.prog fn.ntmps fn.results.toList ((post a b).map .dat) [])) : SpecD N Try.prog f (ct2 A B pre post) :=
  rdD htb hf hb hd (fun p ha => ⟨Nat.le_of_ble_eq_true hl, h p.1 p.2 ha⟩)
theorem rd4 {N : NR} {α β γ δ : Type} {A : Enc α} {B : Enc β} {C : Enc γ} {E : Enc δ} {pre : α → β → γ → δ → Prop} {post : α → β → γ → δ → List D} {f : FuncId} {fn : Func} {c : Code} {mf : FuncId → Bool} {tb : FuncId → Option Ct} (htb : TbOK N Try.prog tb) (hf : Try.prog.funcs[f]? = some fn) (hb : fn.body = some c) (hd : drawAll mf c = true) (hl : Nat.ble 4 fn.ntmps = true)
    (h : ∀ a b d g, pre a b d g → awp Try.prog mf tb c (start fn.ntmps ([A.e a, B.e b, C.e d, E.e g].map .dat) []) (endK Try.prog fn.ntmps fn.results.toList ((post a b d g).map .dat) [])) : SpecD N Try.prog f (ct4 A B C E pre post) :=
  rdD htb hf hb hd (fun p ha => ⟨Nat.le_of_ble_eq_true hl, h p.1 p.2.1 p.2.2.1 p.2.2.2 ha⟩)
def vOk (v : (Int × Int) × Int × Int) : Prop := qOk v.1.1 v.1.2 ∧ qOk v.2.1 v.2.2
instance (v : (Int × Int) × Int × Int) : Decidable (vOk v) := by unfold vOk; infer_instance
@[simp] theorem EInt_e (x : Int) : EInt.e x = i64D x := rfl
section
variable (a b : Rat) (n d : Int)
end
end Go.Proofs.Ytcgolmopbnhgeaa.Ae

namespace Go.Proofs.Ytcgolmopbnhgeaa.Ae
open Go Go.RowKit Go.Proofs.Ytcgolmopbnhgeaa.Dig
end Go.Proofs.Ytcgolmopbnhgeaa.Ae

namespace Go.Proofs.Ytcgolmopbnhgeaa.Ae
open Go Go.RowKit Go.Proofs.Ytcgolmopbnhgeaa.Dig
end Go.Proofs.Ytcgolmopbnhgeaa.Ae

namespace Go.Proofs.Ytcgolmopbnhgeaa.Ae
open Go Go.RowKit Go.Proofs.Ytcgolmopbnhgeaa.Dig
attribute [simp] eqV eqVs
def segOk (a b c d e f g h : Int) : Prop := ((qOk a b ∧ qOk c d) ∧ qOk e f ∧ qOk g h) ∧ ¬ (a = e ∧ b = f ∧ c = g ∧ d = h)
instance (a b c d e f g h : Int) : Decidable (segOk a b c d e f g h) := by unfold segOk; infer_instance
end Go.Proofs.Ytcgolmopbnhgeaa.Ae

namespace Go.Proofs.Ytcgolmopbnhgeaa.Ae
open Go Go.RowKit Go.Proofs.Ytcgolmopbnhgeaa.Dig
structure GV (a b c d : Int) : Prop where
  i : I64 a ∧ I64 b
  j : I64 c ∧ I64 d
  ok : qOk a b ∧ qOk c d
theorem GV.w1 {a b c d : Int} (h : GV a b c d) : QI a b := qOk_QI h.ok.1
theorem GV.w2 {a b c d : Int} (h : GV a b c d) : QI c d := qOk_QI h.ok.2
theorem GV.y1 {a b c d : Int} (h : GV a b c d) : I64 a ∧ I64 b ∧ 0 < b := qOk_64 h.ok.1
theorem GV.y2 {a b c d : Int} (h : GV a b c d) : I64 c ∧ I64 d ∧ 0 < d := qOk_64 h.ok.2
theorem GV.sz {a b c d : Int} (h : GV a b c d) : qsz (Rat.divInt a b) + qsz (Rat.divInt c d) ≤ 4 := by
  have := QI_qsz h.w1
  have := QI_qsz h.w2
  omega
end Go.Proofs.Ytcgolmopbnhgeaa.Ae

namespace Go.Proofs.Ytcgolmopbnhgeaa.Ae
open Go Go.RowKit Go.Proofs.Ytcgolmopbnhgeaa.Dig
end Go.Proofs.Ytcgolmopbnhgeaa.Ae

namespace Go.Proofs.Ytcgolmopbnhgeaa.Ae
open Go Go.RowKit Go.Proofs.Ytcgolmopbnhgeaa.Dig
end Go.Proofs.Ytcgolmopbnhgeaa.Ae

namespace Go.Proofs.Ytcgolmopbnhgeaa.Ae
open Go Go.RowKit Go.Proofs.Ytcgolmopbnhgeaa.Dig
def EI2 : Enc (Int × Int) := EInt.pair EInt
def EI3 : Enc (Int × Int × Int) := EInt.trip EInt EInt
@[simp] theorem EI2_e (a b : Int) : EI2.e (a, b) = .agg [.lit (.int .i64 a), .lit (.int .i64 b)] := rfl
@[simp] theorem EI3_e (a b c : Int) : EI3.e (a, b, c) = .agg [.lit (.int .i64 a), .lit (.int .i64 b), .lit (.int .i64 c)] := rfl
def EI2L : Enc (List (Int × Int)) := EI2.list 2
def EI3L : Enc (List (Int × Int × Int)) := EI3.list 3
def cm (x : Int) : Prop := -67108864 ≤ x ∧ x ≤ 67108864
instance (x : Int) : Decidable (cm x) := by unfold cm; infer_instance
def c2 (p : Int × Int) : Prop := cm p.1 ∧ cm p.2
instance (p : Int × Int) : Decidable (c2 p) := by unfold c2; infer_instance
def c3 (p : Int × Int × Int) : Prop := cm p.1 ∧ cm p.2.1 ∧ cm p.2.2
instance (p : Int × Int × Int) : Decidable (c3 p) := by unfold c3; infer_instance
theorem all_drop' {α : Type} (f : α → Bool) : ∀ (l : List α) (k : Nat) (v : α), l[k]? = some v → (∀ y ∈ l.take k, f y = true) → (f v = false → l.all f = false) ∧ (f v = true → ∀ y ∈ l.take (k + 1), f y = true) := by
  intro l k v hx h
  constructor
  · intro hv
    rw [List.all_eq_false]
    exact ⟨v, List.mem_of_getElem? hx, by rw [hv]; simp⟩
  · intro hv y hy
    rw [List.take_add_one, hx] at hy
    rcases List.mem_append.1 hy with hy | hy
    · exact h y hy
    · simp at hy; rw [hy]; exact hv
theorem pt2_at {l : List (Int × Int)} {k : Nat} (h : k < l.length) : ∃ a b, l[k]? = some (a, b) ∧ ix (l.map EI2.e) k = some (.agg [.lit (.int .i64 a), .lit (.int .i64 b)]) := by
  have hx := List.getElem?_eq_getElem h
  obtain ⟨⟨a, b⟩, hq⟩ : ∃ q, q = l[k] := ⟨_, rfl⟩
  rw [← hq] at hx
  exact ⟨a, b, hx, by unfold ix; rw [List.getElem?_map, hx]; rfl⟩
theorem pt3_at {l : List (Int × Int × Int)} {k : Nat} (h : k < l.length) : ∃ a b c, l[k]? = some (a, b, c) ∧ ix (l.map EI3.e) k = some (.agg [.lit (.int .i64 a), .lit (.int .i64 b), .lit (.int .i64 c)]) := by
  have hx := List.getElem?_eq_getElem h
  obtain ⟨⟨a, b, c⟩, hq⟩ : ∃ q, q = l[k] := ⟨_, rfl⟩
  rw [← hq] at hx
  exact ⟨a, b, c, hx, by unfold ix; rw [List.getElem?_map, hx]; rfl⟩
noncomputable def tame2C := ct1 EI2L (fun l => l.length < 4611686018427387904) (fun l => [.lit (.bool (l.all fun p => decide (c2 p)))])
@[simp] theorem tame2C_at (l : List (Int × Int)) : tame2C [.sl 2 (l.map EI2.e)] = (l.length < 4611686018427387904, [.lit (.bool (l.all fun p => decide (c2 p)))]) := ct1_at (A := EI2L) l
def tame2S (l : List (Int × Int)) (k : Nat) : St := ⟨[.any, .any, .any, .any, .any, .dat (.sl 2 (l.map EI2.e)), .dat (.lit (.int .i64 l.length)), .dat (.lit (.int .i64 k)), .any, .any, .any, .any, .any, .any, .any, .any, .any, .any, .any, .any, .any, .any, .any, .any, .any, .any, .any, .any, .any, .any], [none, none, none, none, none, none, none, none, none, none, none, none, none, none, none, none, none, none, none, none, none, none, none, none, none, none, none, none, none, none]⟩
theorem tame2_spec {N : NR} : SpecD N Try.prog 50 tame2C := by
  refine rd1 (mf := fun f => false) (tb := tbl []) tbl_nil (fn := Try.f50) (by kernel_rfl) rfl (by kernel_rfl) (by kernel_rfl) ?_
  rintro l hl
  have hl : l.length < 4611686018427387904 := hl
  generalize hr : (l.all fun p => decide (c2 p)) = r
  show awp _ _ _ _ (start _ ([.sl 2 (l.map EI2.e)].map .dat) []) (endK _ _ _ ([D.lit (.bool r)].map .dat) [])
  simp only [Try.f50]
  simp [-D.isLit]
  refine loop_go (fun n st => ∃ k, n = l.length - k ∧ k ≤ l.length ∧ (∀ y ∈ l.take k, decide (c2 y) = true) ∧ st = tame2S l k) (s0 := tame2S l 0) (n := l.length) (snd_of (by simp [LeT, tame2S]) (by simp [tame2S])) ⟨0, rfl, Nat.zero_le _, by simp, rfl⟩ ?_
  rintro n st ⟨k, hn, hk, hall, rfl⟩ KN hN
  by_cases h : k < l.length
  · obtain ⟨a, b, hx, e1⟩ := pt2_at h
    obtain ⟨a1, a2⟩ := all_drop' (fun v => decide (c2 v)) l k _ hx hall
    have w1 : IntKind.i64.wrap ((k : Int) + 1) = (k : Int) + 1 := i64_id _ (by omega) (by omega)
    by_cases hok : c2 (a, b)
    · have k1 : ¬ a < -67108864 := by have := hok.1.1; show ¬ a < _; omega
      have k2 : ¬ 67108864 < a := by have := hok.1.2; show ¬ _ < a; omega
      have k3 : ¬ b < -67108864 := by have := hok.2.1; show ¬ b < _; omega
      have k4 : ¬ 67108864 < b := by have := hok.2.2; show ¬ _ < b; omega
      simp [-D.isLit, tame2S, h, e1, k1, k2, k3, k4, w1]
      exact hN _ (nx (m := l.length - (k + 1)) (s'' := tame2S l (k + 1)) (snd_obs (n := 30) [] rfl (by simp) (by simp [tame2S])) ⟨k + 1, rfl, h, a2 (decide_eq_true hok), rfl⟩ (by omega))
    · have hb : a < -67108864 ∨ 67108864 < a ∨ b < -67108864 ∨ 67108864 < b := by
        apply Classical.byContradiction
        intro hh
        exact hok ⟨⟨by show _ ≤ a; omega, by show a ≤ _; omega⟩, ⟨by show _ ≤ b; omega, by show b ≤ _; omega⟩⟩
      have a1 := a1 (decide_eq_false hok)
      rw [hr] at a1
      subst a1
      by_cases k1 : a < -67108864
      · simp [-D.isLit, tame2S, h, e1, k1]
      · by_cases k2 : 67108864 < a
        · simp [-D.isLit, tame2S, h, e1, k1, k2]
        · by_cases k3 : b < -67108864
          · simp [-D.isLit, tame2S, h, e1, k1, k2, k3]
          · have k4 : 67108864 < b := by omega
            simp [-D.isLit, tame2S, h, e1, k1, k2, k3, k4]
  · have hkl : k = l.length := by omega
    subst hkl
    rw [List.take_length] at hall
    have hrt : r = true := by rw [← hr, List.all_eq_true]; exact hall
    subst hrt
    simp [tame2S]
theorem tame2_ok : callable Try.prog 50 = true := by kernel_rfl
theorem tame2_2 (a b c d : Int) : tame2C [.sl 2 [.agg [.lit (.int .i64 a), .lit (.int .i64 b)], .agg [.lit (.int .i64 c), .lit (.int .i64 d)]]] = (True, [.lit (.bool (decide (c2 (a, b)) && decide (c2 (c, d))))]) := by
  have h1 := tame2C_at [(a, b), (c, d)]
  have h2 : (([(a, b), (c, d)] : List (Int × Int)).length < 4611686018427387904) = True := eq_true (by simp)
  rw [h2] at h1
  have h3 : (([(a, b), (c, d)] : List (Int × Int)).all fun p => decide (c2 p)) = (decide (c2 (a, b)) && decide (c2 (c, d))) := by simp
  rw [h3] at h1
  exact h1
attribute [simp] tame2_2
theorem c3_c2 (a b c : Int) : c3 (a, b, c) ↔ c2 (a, b) ∧ c2 (c, 0) := by
  unfold c3 c2 cm
  simp only []
  omega
noncomputable def tame3C := ct1 EI3L (fun l => l.length < 4611686018427387904) (fun l => [.lit (.bool (l.all fun p => decide (c3 p)))])
@[simp] theorem tame3C_at (l : List (Int × Int × Int)) : tame3C [.sl 3 (l.map EI3.e)] = (l.length < 4611686018427387904, [.lit (.bool (l.all fun p => decide (c3 p)))]) := ct1_at (A := EI3L) l
noncomputable def tame3Tb : List (FuncId × Ct) := [(50, .data tame2C)]
theorem tame3Tb_ok {N : NR} : TbOK N Try.prog (tbl tame3Tb) := tbl_cons (c := .data tame2C) tame2_spec tame2_ok tbl_nil
@[simp] theorem tame3Tb1 : tbl tame3Tb 50 = some (.data tame2C) := rfl
def tame3S (l : List (Int × Int × Int)) (k : Nat) : St := ⟨[.any, .any, .any, .any, .any, .dat (.sl 3 (l.map EI3.e)), .dat (.lit (.int .i64 l.length)), .dat (.lit (.int .i64 k)), .any, .any, .any, .any, .any, .any, .any, .any, .any, .any, .any, .any, .any, .any, .any], [none, none, none, none, none, none, none, none, none, none, none, none, none, none, none, none, none, none, none, none, none, none, none]⟩
theorem tame3_spec {N : NR} : SpecD N Try.prog 43 tame3C := by
  refine rd1 (mf := fun f => false) tame3Tb_ok (fn := Try.f43) (by kernel_rfl) rfl (by kernel_rfl) (by kernel_rfl) ?_
  rintro l hl
  have hl : l.length < 4611686018427387904 := hl
  generalize hr : (l.all fun p => decide (c3 p)) = r
  show awp _ _ _ _ (start _ ([.sl 3 (l.map EI3.e)].map .dat) []) (endK _ _ _ ([D.lit (.bool r)].map .dat) [])
  simp only [Try.f43]
  simp [-D.isLit]
  refine loop_go (fun n st => ∃ k, n = l.length - k ∧ k ≤ l.length ∧ (∀ y ∈ l.take k, decide (c3 y) = true) ∧ st = tame3S l k) (s0 := tame3S l 0) (n := l.length) (snd_of (by simp [LeT, tame3S]) (by simp [tame3S])) ⟨0, rfl, Nat.zero_le _, by simp, rfl⟩ ?_
  rintro n st ⟨k, hn, hk, hall, rfl⟩ KN hN
  by_cases h : k < l.length
  · obtain ⟨a, b, c, hx, e1⟩ := pt3_at h
    obtain ⟨a1, a2⟩ := all_drop' (fun v => decide (c3 v)) l k _ hx hall
    have w1 : IntKind.i64.wrap ((k : Int) + 1) = (k : Int) + 1 := i64_id _ (by omega) (by omega)
    by_cases hok : c3 (a, b, c)
    · have k1 := (c3_c2 a b c).1 hok
      simp [-D.isLit, tame3S, h, e1, k1.1, k1.2, w1]
      exact hN _ (nx (m := l.length - (k + 1)) (s'' := tame3S l (k + 1)) (snd_obs (n := 23) [] rfl (by simp) (by simp [tame3S])) ⟨k + 1, rfl, h, a2 (decide_eq_true hok), rfl⟩ (by omega))
    · have hb : (decide (c2 (a, b)) && decide (c2 (c, 0))) = false := by rw [← Bool.decide_and]; exact decide_eq_false (fun x => hok ((c3_c2 a b c).2 x))
      have a1 := a1 (decide_eq_false hok)
      rw [hr] at a1
      subst a1
      simp [-D.isLit, tame3S, h, e1, hb]
  · have hkl : k = l.length := by omega
    subst hkl
    rw [List.take_length] at hall
    have hrt : r = true := by rw [← hr, List.all_eq_true]; exact hall
    subst hrt
    simp [tame3S]
theorem tame3_ok : callable Try.prog 43 = true := by kernel_rfl
noncomputable def l2InC := ct1 EInt (fun p0 => True) (fun p0 => [.lit (.bool (decide (cm p0)))])
@[simp] theorem l2InC_at (a : Int) : l2InC [.lit (.int .i64 a)] = (True, [.lit (.bool (decide (cm a)))]) := ct1_at a
theorem l2In_spec : SpecD NF Try.prog 91 l2InC := by
  refine rd1 (mf := fun f => false) (tb := tbl []) tbl_nil (fn := Try.f91) (by kernel_rfl) rfl (by kernel_rfl) (by kernel_rfl) ?_
  rintro a hp
  have hp : True := hp
  show awp _ _ _ _ (start _ ([.lit (.int .i64 a)].map .dat) []) (endK _ _ _ (([.lit (.bool (decide (cm a)))]).map .dat) [])
  by_cases h1 : -67108864 ≤ a <;> by_cases h2 : a ≤ 67108864 <;> simp [-D.isLit, Try.f91, cm, h1, h2]
theorem l2In_ok : callable Try.prog 91 = true := by kernel_rfl
noncomputable def l2TameC := ct1 EI3L (fun l => l.length < 4611686018427387904) (fun l => [.lit (.bool (l.all fun p => decide (c3 p)))])
@[simp] theorem l2TameC_at (l : List (Int × Int × Int)) : l2TameC [.sl 3 (l.map EI3.e)] = (l.length < 4611686018427387904, [.lit (.bool (l.all fun p => decide (c3 p)))]) := ct1_at (A := EI3L) l
noncomputable def l2TameTb : List (FuncId × Ct) := [(91, .data l2InC)]
theorem l2TameTb_ok : TbOK NF Try.prog (tbl l2TameTb) := tbl_cons (c := .data l2InC) l2In_spec l2In_ok tbl_nil
@[simp] theorem l2TameTb1 : tbl l2TameTb 91 = some (.data l2InC) := rfl
def l2TameS (l : List (Int × Int × Int)) (k : Nat) : St := ⟨[.dat (.sl 3 (l.map EI3.e)), .any, .any, .dat (.lit (.int .i64 k)), .any, .any, .any, .any, .any, .any, .any, .any, .any, .any, .any, .any, .any, .any, .any, .any, .any, .any, .any, .any, .any, .any, .any, .any, .any, .any, .any, .any, .any, .any, .any], [none, none, none, none, none, none, none, none, none, none, none, none, none, none, none, none, none, none, none, none, none, none, none, none, none, none, none, none, none, none, none, none, none, none, none]⟩
theorem l2Tame_spec : SpecD NF Try.prog 40 l2TameC := by
  refine rd1 (mf := fun f => false) l2TameTb_ok (fn := Try.f40) (by kernel_rfl) rfl (by kernel_rfl) (by kernel_rfl) ?_
  rintro l hl
  have hl : l.length < 4611686018427387904 := hl
  generalize hr : (l.all fun p => decide (c3 p)) = r
  show awp _ _ _ _ (start _ ([.sl 3 (l.map EI3.e)].map .dat) []) (endK _ _ _ ([D.lit (.bool r)].map .dat) [])
  simp only [Try.f40]
  simp [-D.isLit]
  refine loop_go (fun n st => ∃ k, n = l.length - k ∧ k ≤ l.length ∧ (∀ y ∈ l.take k, decide (c3 y) = true) ∧ st = l2TameS l k) (s0 := l2TameS l 0) (n := l.length) (snd_of (by simp [LeT, l2TameS]) (by simp [l2TameS])) ⟨0, rfl, Nat.zero_le _, by simp, rfl⟩ ?_
  rintro n st ⟨k, hn, hk, hall, rfl⟩ KN hN
  by_cases h : k < l.length
  · obtain ⟨a, b, c, hx, e1⟩ := pt3_at h
    obtain ⟨a1, a2⟩ := all_drop' (fun v => decide (c3 v)) l k _ hx hall
    have w1 : IntKind.i64.wrap ((k : Int) + 1) = (k : Int) + 1 := i64_id _ (by omega) (by omega)
    by_cases hok : c3 (a, b, c)
    · have k1 : cm a := hok.1
      have k2 : cm b := hok.2.1
      have k3 : cm c := hok.2.2
      simp [-D.isLit, l2TameS, h, e1, k1, k2, k3, w1]
      exact hN _ (nx (m := l.length - (k + 1)) (s'' := l2TameS l (k + 1)) (snd_obs (n := 35) [] rfl (by simp) (by simp [l2TameS])) ⟨k + 1, rfl, h, a2 (decide_eq_true hok), rfl⟩ (by omega))
    · have hb : cm a → cm b → ¬ cm c := fun x y z => hok ⟨x, y, z⟩
      have a1 := a1 (decide_eq_false hok)
      rw [hr] at a1
      subst a1
      by_cases k1 : cm a
      · by_cases k2 : cm b
        · have k3 := hb k1 k2
          simp [-D.isLit, l2TameS, h, e1, k1, k2, k3]
        · simp [-D.isLit, l2TameS, h, e1, k1, k2]
      · simp [-D.isLit, l2TameS, h, e1, k1]
  · have hkl : k = l.length := by omega
    subst hkl
    rw [List.take_length] at hall
    have hrt : r = true := by rw [← hr, List.all_eq_true]; exact hall
    subst hrt
    simp [l2TameS]
theorem l2Tame_ok : callable Try.prog 40 = true := by kernel_rfl
theorem tame3_3 (a b c d e f g h i : Int) : tame3C [.sl 3 [.agg [.lit (.int .i64 a), .lit (.int .i64 b), .lit (.int .i64 c)], .agg [.lit (.int .i64 d), .lit (.int .i64 e), .lit (.int .i64 f)], .agg [.lit (.int .i64 g), .lit (.int .i64 h), .lit (.int .i64 i)]]] = (True, [.lit (.bool (decide (c3 (a, b, c) ∧ c3 (d, e, f) ∧ c3 (g, h, i))))]) := by
  have h1 := tame3C_at [(a, b, c), (d, e, f), (g, h, i)]
  have h2 : (([(a, b, c), (d, e, f), (g, h, i)] : List (Int × Int × Int)).length < 4611686018427387904) = True := eq_true (by simp)
  rw [h2] at h1
  have h3 : (([(a, b, c), (d, e, f), (g, h, i)] : List (Int × Int × Int)).all fun p => decide (c3 p)) = decide (c3 (a, b, c) ∧ c3 (d, e, f) ∧ c3 (g, h, i)) := by rw [Bool.eq_iff_iff, decide_eq_true_eq]; simp
  rw [h3] at h1
  exact h1
attribute [simp] tame3_3
theorem tame3_4 (a b c d e f g h i j k l : Int) : tame3C [.sl 3 [.agg [.lit (.int .i64 a), .lit (.int .i64 b), .lit (.int .i64 c)], .agg [.lit (.int .i64 d), .lit (.int .i64 e), .lit (.int .i64 f)], .agg [.lit (.int .i64 g), .lit (.int .i64 h), .lit (.int .i64 i)], .agg [.lit (.int .i64 j), .lit (.int .i64 k), .lit (.int .i64 l)]]] = (True, [.lit (.bool (decide (c3 (a, b, c) ∧ c3 (d, e, f) ∧ c3 (g, h, i) ∧ c3 (j, k, l))))]) := by
  have h1 := tame3C_at [(a, b, c), (d, e, f), (g, h, i), (j, k, l)]
  have h2 : (([(a, b, c), (d, e, f), (g, h, i), (j, k, l)] : List (Int × Int × Int)).length < 4611686018427387904) = True := eq_true (by simp)
  rw [h2] at h1
  have h3 : (([(a, b, c), (d, e, f), (g, h, i), (j, k, l)] : List (Int × Int × Int)).all fun p => decide (c3 p)) = decide (c3 (a, b, c) ∧ c3 (d, e, f) ∧ c3 (g, h, i) ∧ c3 (j, k, l)) := by rw [Bool.eq_iff_iff, decide_eq_true_eq]; simp
  rw [h3] at h1
  exact h1
attribute [simp] tame3_4
theorem l2Tame_3 (a b c d e f g h i : Int) : l2TameC [.sl 3 [.agg [.lit (.int .i64 a), .lit (.int .i64 b), .lit (.int .i64 c)], .agg [.lit (.int .i64 d), .lit (.int .i64 e), .lit (.int .i64 f)], .agg [.lit (.int .i64 g), .lit (.int .i64 h), .lit (.int .i64 i)]]] = (True, [.lit (.bool (decide (c3 (a, b, c) ∧ c3 (d, e, f) ∧ c3 (g, h, i))))]) := by
  have h1 := l2TameC_at [(a, b, c), (d, e, f), (g, h, i)]
  have h2 : (([(a, b, c), (d, e, f), (g, h, i)] : List (Int × Int × Int)).length < 4611686018427387904) = True := eq_true (by simp)
  rw [h2] at h1
  have h3 : (([(a, b, c), (d, e, f), (g, h, i)] : List (Int × Int × Int)).all fun p => decide (c3 p)) = decide (c3 (a, b, c) ∧ c3 (d, e, f) ∧ c3 (g, h, i)) := by rw [Bool.eq_iff_iff, decide_eq_true_eq]; simp
  rw [h3] at h1
  exact h1
attribute [simp] l2Tame_3
theorem l2Tame_4 (a b c d e f g h i j k l : Int) : l2TameC [.sl 3 [.agg [.lit (.int .i64 a), .lit (.int .i64 b), .lit (.int .i64 c)], .agg [.lit (.int .i64 d), .lit (.int .i64 e), .lit (.int .i64 f)], .agg [.lit (.int .i64 g), .lit (.int .i64 h), .lit (.int .i64 i)], .agg [.lit (.int .i64 j), .lit (.int .i64 k), .lit (.int .i64 l)]]] = (True, [.lit (.bool (decide (c3 (a, b, c) ∧ c3 (d, e, f) ∧ c3 (g, h, i) ∧ c3 (j, k, l))))]) := by
  have h1 := l2TameC_at [(a, b, c), (d, e, f), (g, h, i), (j, k, l)]
  have h2 : (([(a, b, c), (d, e, f), (g, h, i), (j, k, l)] : List (Int × Int × Int)).length < 4611686018427387904) = True := eq_true (by simp)
  rw [h2] at h1
  have h3 : (([(a, b, c), (d, e, f), (g, h, i), (j, k, l)] : List (Int × Int × Int)).all fun p => decide (c3 p)) = decide (c3 (a, b, c) ∧ c3 (d, e, f) ∧ c3 (g, h, i) ∧ c3 (j, k, l)) := by rw [Bool.eq_iff_iff, decide_eq_true_eq]; simp
  rw [h3] at h1
  exact h1
attribute [simp] l2Tame_4
noncomputable def less3C := ct2 EI3 EI3 (fun p0 p1 => c3 (p0.1, p0.2.1, p0.2.2) ∧ c3 (p1.1, p1.2.1, p1.2.2)) (fun p0 p1 => [.agg [.lit (.int .i64 (p0.1 - p1.1)), .lit (.int .i64 (p0.2.1 - p1.2.1)), .lit (.int .i64 (p0.2.2 - p1.2.2))]])
@[simp] theorem less3C_at (a b c : Int) (d e f : Int) : less3C [.agg [.lit (.int .i64 a), .lit (.int .i64 b), .lit (.int .i64 c)], .agg [.lit (.int .i64 d), .lit (.int .i64 e), .lit (.int .i64 f)]] = (c3 (a, b, c) ∧ c3 (d, e, f), [.agg [.lit (.int .i64 (a - d)), .lit (.int .i64 (b - e)), .lit (.int .i64 (c - f))]]) := ct2_at (a, b, c) (d, e, f)
theorem less3_spec {N : NR} : SpecD N Try.prog 44 less3C := by
  refine rd2 (mf := fun f => false) (tb := tbl []) tbl_nil (fn := Try.f44) (by kernel_rfl) rfl (by kernel_rfl) (by kernel_rfl) ?_
  rintro ⟨a, b, c⟩ ⟨d, e, f⟩ hp
  have hp : c3 (a, b, c) ∧ c3 (d, e, f) := hp
  show awp _ _ _ _ (start _ ([.agg [.lit (.int .i64 a), .lit (.int .i64 b), .lit (.int .i64 c)], .agg [.lit (.int .i64 d), .lit (.int .i64 e), .lit (.int .i64 f)]].map .dat) []) (endK _ _ _ (([.agg [.lit (.int .i64 (a - d)), .lit (.int .i64 (b - e)), .lit (.int .i64 (c - f))]]).map .dat) [])
  obtain ⟨⟨a1, a2, a3⟩, a4, a5, a6⟩ := hp
  have a1 : -67108864 ≤ a ∧ a ≤ 67108864 := a1
  have a2 : -67108864 ≤ b ∧ b ≤ 67108864 := a2
  have a3 : -67108864 ≤ c ∧ c ≤ 67108864 := a3
  have a4 : -67108864 ≤ d ∧ d ≤ 67108864 := a4
  have a5 : -67108864 ≤ e ∧ e ≤ 67108864 := a5
  have a6 : -67108864 ≤ f ∧ f ≤ 67108864 := a6
  have w1 : IntKind.i64.wrap (a - d) = a - d := i64_id _ (by omega) (by omega)
  have w2 : IntKind.i64.wrap (b - e) = b - e := i64_id _ (by omega) (by omega)
  have w3 : IntKind.i64.wrap (c - f) = c - f := i64_id _ (by omega) (by omega)
  simp [-D.isLit, Try.f44, w1, w2, w3]
theorem less3_ok : callable Try.prog 44 = true := by kernel_rfl
def dm (x : Int) : Prop := -134217728 ≤ x ∧ x ≤ 134217728
theorem dm_sub {a b : Int} (h1 : cm a) (h2 : cm b) : dm (a - b) := by unfold cm dm at *; omega
theorem dm_i64 {a : Int} (h : dm a) : I64 a := by unfold dm at h; unfold I64; omega
noncomputable def toP3C := ct1 EI3 (fun p0 => True) (fun p0 => [.agg [.lit (.int .i64 p0.1), .lit (.int .i64 p0.2.1), .lit (.int .i64 p0.2.2)]])
@[simp] theorem toP3C_at (a b c : Int) : toP3C [.agg [.lit (.int .i64 a), .lit (.int .i64 b), .lit (.int .i64 c)]] = (True, [.agg [.lit (.int .i64 a), .lit (.int .i64 b), .lit (.int .i64 c)]]) := ct1_at (a, b, c)
theorem toP3_spec {N : NR} : SpecD N Try.prog 14 toP3C := by
  refine rd1 (mf := fun f => false) (tb := tbl []) tbl_nil (fn := Try.f14) (by kernel_rfl) rfl (by kernel_rfl) (by kernel_rfl) ?_
  rintro ⟨a, b, c⟩ hp
  have hp : True := hp
  show awp _ _ _ _ (start _ ([.agg [.lit (.int .i64 a), .lit (.int .i64 b), .lit (.int .i64 c)]].map .dat) []) (endK _ _ _ (([.agg [.lit (.int .i64 a), .lit (.int .i64 b), .lit (.int .i64 c)]]).map .dat) [])
  simp [-D.isLit, Try.f14]
theorem toP3_ok : callable Try.prog 14 = true := by kernel_rfl
end Go.Proofs.Ytcgolmopbnhgeaa.Ae

namespace Go.Proofs.Ytcgolmopbnhgeaa.Ae
open Go Go.RowKit Go.Proofs.Ytcgolmopbnhgeaa.Dig
noncomputable def l2Tame2C := ct1 EI2L (fun l => l.length < 4611686018427387904) (fun l => [.lit (.bool (l.all fun p => decide (c2 p)))])
@[simp] theorem l2Tame2C_at (l : List (Int × Int)) : l2Tame2C [.sl 2 (l.map EI2.e)] = (l.length < 4611686018427387904, [.lit (.bool (l.all fun p => decide (c2 p)))]) := ct1_at (A := EI2L) l
noncomputable def l2Tame2Tb : List (FuncId × Ct) := [(91, .data l2InC)]
theorem l2Tame2Tb_ok : TbOK NF Try.prog (tbl l2Tame2Tb) := tbl_cons (c := .data l2InC) l2In_spec l2In_ok tbl_nil
@[simp] theorem l2Tame2Tb1 : tbl l2Tame2Tb 91 = some (.data l2InC) := rfl
def l2Tame2S (l : List (Int × Int)) (k : Nat) : St := ⟨[.dat (.sl 2 (l.map EI2.e)), .any, .any, .dat (.lit (.int .i64 k)), .any, .any, .any, .any, .any, .any, .any, .any, .any, .any, .any, .any, .any, .any, .any, .any, .any, .any, .any, .any, .any, .any], [none, none, none, none, none, none, none, none, none, none, none, none, none, none, none, none, none, none, none, none, none, none, none, none, none, none]⟩
theorem l2Tame2_spec : SpecD NF Try.prog 46 l2Tame2C := by
  refine rd1 (mf := fun f => false) l2Tame2Tb_ok (fn := Try.f46) (by kernel_rfl) rfl (by kernel_rfl) (by kernel_rfl) ?_
  rintro l hl
  have hl : l.length < 4611686018427387904 := hl
  generalize hr : (l.all fun p => decide (c2 p)) = r
  show awp _ _ _ _ (start _ ([.sl 2 (l.map EI2.e)].map .dat) []) (endK _ _ _ ([D.lit (.bool r)].map .dat) [])
  simp only [Try.f46]
  simp [-D.isLit]
  refine loop_go (fun n st => ∃ k, n = l.length - k ∧ k ≤ l.length ∧ (∀ y ∈ l.take k, decide (c2 y) = true) ∧ st = l2Tame2S l k) (s0 := l2Tame2S l 0) (n := l.length) (snd_of (by simp [LeT, l2Tame2S]) (by simp [l2Tame2S])) ⟨0, rfl, Nat.zero_le _, by simp, rfl⟩ ?_
  rintro n st ⟨k, hn, hk, hall, rfl⟩ KN hN
  by_cases h : k < l.length
  · obtain ⟨a, b, hx, e1⟩ := pt2_at h
    obtain ⟨a1, a2⟩ := all_drop' (fun v => decide (c2 v)) l k _ hx hall
    have w1 : IntKind.i64.wrap ((k : Int) + 1) = (k : Int) + 1 := i64_id _ (by omega) (by omega)
    by_cases hok : c2 (a, b)
    · have k1 : cm a := hok.1
      have k2 : cm b := hok.2
      simp [-D.isLit, l2Tame2S, h, e1, k1, k2, w1]
      exact hN _ (nx (m := l.length - (k + 1)) (s'' := l2Tame2S l (k + 1)) (snd_obs (n := 26) [] rfl (by simp) (by simp [l2Tame2S])) ⟨k + 1, rfl, h, a2 (decide_eq_true hok), rfl⟩ (by omega))
    · have hb : cm a → ¬ cm b := fun x y => hok ⟨x, y⟩
      have a1 := a1 (decide_eq_false hok)
      rw [hr] at a1
      subst a1
      by_cases k1 : cm a
      · have k3 := hb k1
        simp [-D.isLit, l2Tame2S, h, e1, k1, k3]
      · simp [-D.isLit, l2Tame2S, h, e1, k1]
  · have hkl : k = l.length := by omega
    subst hkl
    rw [List.take_length] at hall
    have hrt : r = true := by rw [← hr, List.all_eq_true]; exact hall
    subst hrt
    simp [l2Tame2S]
theorem l2Tame2_ok : callable Try.prog 46 = true := by kernel_rfl
theorem tame2_3 (a b c d e f : Int) : tame2C [.sl 2 [.agg [.lit (.int .i64 a), .lit (.int .i64 b)], .agg [.lit (.int .i64 c), .lit (.int .i64 d)], .agg [.lit (.int .i64 e), .lit (.int .i64 f)]]] = (True, [.lit (.bool (decide (c2 (a, b) ∧ c2 (c, d) ∧ c2 (e, f))))]) := by
  have h1 := tame2C_at [(a, b), (c, d), (e, f)]
  have h2 : (([(a, b), (c, d), (e, f)] : List (Int × Int)).length < 4611686018427387904) = True := eq_true (by simp)
  rw [h2] at h1
  have h3 : (([(a, b), (c, d), (e, f)] : List (Int × Int)).all fun p => decide (c2 p)) = decide (c2 (a, b) ∧ c2 (c, d) ∧ c2 (e, f)) := by rw [Bool.eq_iff_iff, decide_eq_true_eq]; simp
  rw [h3] at h1
  exact h1
attribute [simp] tame2_3
theorem l2Tame2_3 (a b c d e f : Int) : l2Tame2C [.sl 2 [.agg [.lit (.int .i64 a), .lit (.int .i64 b)], .agg [.lit (.int .i64 c), .lit (.int .i64 d)], .agg [.lit (.int .i64 e), .lit (.int .i64 f)]]] = (True, [.lit (.bool (decide (c2 (a, b) ∧ c2 (c, d) ∧ c2 (e, f))))]) := by
  have h1 := l2Tame2C_at [(a, b), (c, d), (e, f)]
  have h2 : (([(a, b), (c, d), (e, f)] : List (Int × Int)).length < 4611686018427387904) = True := eq_true (by simp)
  rw [h2] at h1
  have h3 : (([(a, b), (c, d), (e, f)] : List (Int × Int)).all fun p => decide (c2 p)) = decide (c2 (a, b) ∧ c2 (c, d) ∧ c2 (e, f)) := by rw [Bool.eq_iff_iff, decide_eq_true_eq]; simp
  rw [h3] at h1
  exact h1
attribute [simp] l2Tame2_3
noncomputable def toP2C := ct1 EI2 (fun p0 => True) (fun p0 => [.agg [.lit (.int .i64 p0.1), .lit (.int .i64 p0.2)]])
@[simp] theorem toP2C_at (a b : Int) : toP2C [.agg [.lit (.int .i64 a), .lit (.int .i64 b)]] = (True, [.agg [.lit (.int .i64 a), .lit (.int .i64 b)]]) := ct1_at (a, b)
theorem toP2_spec {N : NR} : SpecD N Try.prog 17 toP2C := by
  refine rd1 (mf := fun f => false) (tb := tbl []) tbl_nil (fn := Try.f17) (by kernel_rfl) rfl (by kernel_rfl) (by kernel_rfl) ?_
  rintro ⟨a, b⟩ hp
  have hp : True := hp
  show awp _ _ _ _ (start _ ([.agg [.lit (.int .i64 a), .lit (.int .i64 b)]].map .dat) []) (endK _ _ _ (([.agg [.lit (.int .i64 a), .lit (.int .i64 b)]]).map .dat) [])
  simp [-D.isLit, Try.f17]
theorem toP2_ok : callable Try.prog 17 = true := by kernel_rfl
end Go.Proofs.Ytcgolmopbnhgeaa.Ae

namespace Go.Proofs.Ytcgolmopbnhgeaa.Ae
open Go Ieee
def FinD (T : Nat) : Datum → Prop
  | .number _ m p => m = 0 ∨ p + m.log2 ≤ T
  | _ => False
def Fin (T x : Nat) : Prop := FinD T (double.read x) ∧ x < 2 ^ 64
theorem cut_le (neg : Bool) (n drop k : Nat) (h : n < 2 ^ k * 2 ^ drop) : Toward.even.cut neg n drop ≤ 2 ^ k := by
  unfold Toward.cut
  simp only
  generalize hg : (1 <<< min drop (n.log2 + 2)) = g
  have hg' : g = 2 ^ min drop (n.log2 + 2) := by rw [← hg, Nat.one_shiftLeft]
  have hgp : 0 < g := by rw [hg']; exact Nat.two_pow_pos _
  have hb : n < 2 ^ k * g := by
    rw [hg']
    by_cases hd : drop ≤ n.log2 + 2
    · rw [Nat.min_eq_left hd]; exact h
    · rw [Nat.min_eq_right (by omega)]
      have h1 : n < 2 ^ (n.log2 + 1) := Nat.lt_log2_self
      have h2 : 2 ^ (n.log2 + 1) ≤ 2 ^ (n.log2 + 2) := Nat.pow_le_pow_right (by omega) (by omega)
      have h3 : 1 * 2 ^ (n.log2 + 2) ≤ 2 ^ k * 2 ^ (n.log2 + 2) := Nat.mul_le_mul_right _ (Nat.two_pow_pos _)
      omega
  have hq : n / g < 2 ^ k := (Nat.div_lt_iff_lt_mul hgp).2 hb
  have : ∀ b : Bool, b.toNat ≤ 1 := fun b => by cases b <;> decide
  have := this (decide (g < 2 * (n % g)) || (g == 2 * (n % g) && n / g % 2 == 1))
  omega
theorem d_sign : double.signWeight = 2 ^ 63 := rfl
theorem d_binade : double.binade = 2 ^ 52 := rfl
theorem d_inf : double.infRung = 2047 * 2 ^ 52 := rfl
theorem d_least : double.leastPlace = -1074 := by decide
theorem d_frac : double.fractionBits = 52 := rfl
theorem read_word (s : Bool) (r T : Nat) (hr : r ≤ (T + 1024) * 2 ^ 52) (hT : T ≤ 1000) : FinD (T + 1) (double.read (double.word s r)) ∧ (double.read (double.word s r)).neg = s ∧ double.word s r < 2 ^ 64 ∧ double.word s r % 2 ^ 63 = r := by
  have hr2 : r < 2 ^ 63 := by
    have : (T + 1024) * 2 ^ 52 ≤ 2024 * 2 ^ 52 := Nat.mul_le_mul_right _ (by omega)
    omega
  have hinf : r < 2047 * 2 ^ 52 := by
    have : (T + 1024) * 2 ^ 52 ≤ 2024 * 2 ^ 52 := Nat.mul_le_mul_right _ (by omega)
    omega
  have hw : double.word s r = (if s then 2 ^ 63 else 0) + r := by
    unfold Format.word
    rw [d_sign]
    cases s <;> simp
  have hm : double.word s r % 2 ^ 63 = r := by
    rw [hw]; cases s <;> simp <;> omega
  have hd : (double.word s r / 2 ^ 63 % 2 == 1) = s := by
    rw [hw]; cases s <;> simp <;> omega
  refine ⟨?_, ?_, by rw [hw]; cases s <;> simp <;> omega, hm⟩
  · unfold Format.read
    simp only [d_sign, d_binade, d_inf, d_least, hm, hd]
    split
    · rename_i h
      by_cases h0 : r = 0
      · exact .inl h0
      · right
        have := (Nat.log2_lt h0).2 h
        omega
    · rename_i h
      right
      have hl : (2 ^ 52 + r % 2 ^ 52).log2 = 52 := by
        have hne : 2 ^ 52 + r % 2 ^ 52 ≠ 0 := by omega
        have h1 : (2 ^ 52 + r % 2 ^ 52).log2 < 53 := (Nat.log2_lt hne).2 (by omega)
        have h2 : ¬ (2 ^ 52 + r % 2 ^ 52).log2 < 52 := fun h => by
          have := (Nat.log2_lt hne).1 h
          omega
        omega
      rw [hl]
      have : r / 2 ^ 52 ≤ T + 1024 := Nat.div_le_of_le_mul (by rw [Nat.mul_comm]; exact hr)
      omega
  · unfold Format.read
    simp only [d_sign, d_binade, d_inf, d_least, hm, hd]
    split
    · rfl
    · rfl
theorem write_fin (s : Bool) (m : Nat) (p : Int) (T : Nat) (h : m = 0 ∨ p + m.log2 ≤ T) (hT : T ≤ 1000) :
    Fin (T + 1) (double.write (.number s m p)) ∧ (double.read (double.write (.number s m p))).neg = s ∧ ∃ r, double.write (.number s m p) = double.word s r ∧ r ≤ (T + 1024) * 2 ^ 52 := by
  have key : ∃ r, double.write (.number s m p) = double.word s r ∧ r ≤ (T + 1024) * 2 ^ 52 := by
    show ∃ r, double.nearest s m p = double.word s r ∧ r ≤ (T + 1024) * 2 ^ 52
    unfold Format.nearest
    by_cases h0 : m = 0
    · rw [if_pos h0]; exact ⟨0, rfl, Nat.zero_le _⟩
    · rw [if_neg h0]
      have hp : p + m.log2 ≤ T := h.resolve_left h0
      refine ⟨_, rfl, ?_⟩
      simp only [d_frac, d_least, d_binade, d_inf]
      refine Nat.le_trans (Nat.min_le_left _ _) ?_
      generalize hl : max (p + (m.log2 : Int) - 52) (-1074) = last
      have hl1 : p + (m.log2 : Int) - 52 ≤ last := by omega
      have hl2 : -1074 ≤ last := by omega
      have hl3 : last ≤ T - 52 ∨ last = -1074 := by omega
      have hcut : Toward.even.cut s (m <<< (p - last).toNat) (last - p).toNat ≤ 2 ^ 53 := by
        refine cut_le _ _ _ _ ?_
        rw [Nat.shiftLeft_eq]
        have h1 : m < 2 ^ (m.log2 + 1) := Nat.lt_log2_self
        calc m * 2 ^ (p - last).toNat < 2 ^ (m.log2 + 1) * 2 ^ (p - last).toNat := Nat.mul_lt_mul_of_pos_right h1 (Nat.two_pow_pos _)
          _ = 2 ^ (m.log2 + 1 + (p - last).toNat) := (Nat.pow_add ..).symm
          _ ≤ 2 ^ (53 + (last - p).toNat) := Nat.pow_le_pow_right (by omega) (by omega)
          _ = 2 ^ 53 * 2 ^ (last - p).toNat := Nat.pow_add ..
      have hk : (last - -1074).toNat + 2 ≤ T + 1024 := by omega
      have := Nat.mul_le_mul_right (2 ^ 52) hk
      rw [Nat.add_mul] at this
      omega
  obtain ⟨r, hr, hrl⟩ := key
  obtain ⟨h1, h2, h3, _⟩ := read_word s r T hrl hT
  rw [← hr] at h1 h2 h3
  exact ⟨⟨h1, h3⟩, h2, r, hr, hrl⟩
theorem Fin.num {T x : Nat} (h : Fin T x) : ∃ s m p, double.read x = .number s m p ∧ (m = 0 ∨ p + m.log2 ≤ (T : Int)) := by
  obtain ⟨h, _⟩ := h
  cases hx : double.read x with
  | number s m p => rw [hx] at h; exact ⟨s, m, p, rfl, h⟩
  | infinity s => rw [hx] at h; exact h.elim
  | nan s f => rw [hx] at h; exact h.elim
theorem Fin.mono {T T' x : Nat} (h : Fin T x) (hT : T ≤ T') : Fin T' x := by
  obtain ⟨s, m, p, h1, h2⟩ := h.num
  refine ⟨?_, h.2⟩
  rw [h1]
  rcases h2 with h2 | h2
  · exact .inl h2
  · exact .inr (by omega)
theorem signed_abs (s : Bool) (m u : Nat) : (signed s m u).natAbs = m * 2 ^ u := by
  unfold signed
  rw [Nat.shiftLeft_eq]
  cases s
  · exact Int.natAbs_natCast _
  · simp only [if_true, Int.natAbs_neg]; exact Int.natAbs_natCast _
theorem shl_lt {m : Nat} {i base : Int} {T : Int} (hb : base ≤ i) (h : m = 0 ∨ i + m.log2 ≤ T) : m * 2 ^ (i - base).toNat < 2 ^ (T + 1 - base).toNat := by
  rcases h with rfl | h
  · simp; exact Nat.two_pow_pos _
  · have h1 : m < 2 ^ (m.log2 + 1) := Nat.lt_log2_self
    calc m * 2 ^ (i - base).toNat < 2 ^ (m.log2 + 1) * 2 ^ (i - base).toNat := Nat.mul_lt_mul_of_pos_right h1 (Nat.two_pow_pos _)
      _ = 2 ^ (m.log2 + 1 + (i - base).toNat) := (Nat.pow_add ..).symm
      _ ≤ 2 ^ (T + 1 - base).toNat := Nat.pow_le_pow_right (by omega) (by omega)
theorem sum_fin {d e : Datum} {A B : Nat} (hd : FinD A d) (he : FinD B e) : ∃ r, d.sum e = some r ∧ FinD (max A B + 1) r := by
  cases d with
  | infinity s => exact hd.elim
  | nan s f => exact hd.elim
  | number s m i =>
    cases e with
    | infinity s => exact he.elim
    | nan s f => exact he.elim
    | number t n j =>
      refine ⟨_, rfl, ?_⟩
      simp only [FinD] at hd he ⊢
      generalize hb : min i j = base
      have h1 : m * 2 ^ (i - base).toNat < 2 ^ (((max A B : Nat) : Int) + 1 - base).toNat := shl_lt (by omega) (by rcases hd with h | h; exact .inl h; exact .inr (by omega))
      have h2 : n * 2 ^ (j - base).toNat < 2 ^ (((max A B : Nat) : Int) + 1 - base).toNat := shl_lt (by omega) (by rcases he with h | h; exact .inl h; exact .inr (by omega))
      have h3 := Int.natAbs_add_le (signed s m (i - base).toNat) (signed t n (j - base).toNat)
      rw [signed_abs, signed_abs] at h3
      generalize hN : (signed s m (i - base).toNat + signed t n (j - base).toNat).natAbs = N at h3 ⊢
      by_cases h0 : N = 0
      · exact .inl h0
      · right
        have h4 : N < 2 ^ ((((max A B : Nat) : Int) + 1 - base).toNat + 1) := by rw [Nat.pow_succ]; omega
        have h5 := (Nat.log2_lt h0).2 h4
        by_cases hp : ((max A B : Nat) : Int) + 1 - base ≥ 0
        · omega
        · exfalso
          have e0 : (((max A B : Nat) : Int) + 1 - base).toNat = 0 := by omega
          rw [e0] at h1 h2
          omega
theorem product_fin {d e : Datum} {A B : Nat} (hd : FinD A d) (he : FinD B e) : ∃ r, d.product e = some r ∧ FinD (A + B + 1) r ∧ r.neg = (d.neg ^^ e.neg) := by
  cases d with
  | infinity s => exact hd.elim
  | nan s f => exact hd.elim
  | number s m i =>
    cases e with
    | infinity s => exact he.elim
    | nan s f => exact he.elim
    | number t n j =>
      refine ⟨_, rfl, ?_, rfl⟩
      simp only [FinD] at hd he ⊢
      by_cases h0 : m * n = 0
      · exact .inl h0
      · right
        have hm : m ≠ 0 := fun e => h0 (by rw [e, Nat.zero_mul])
        have hn : n ≠ 0 := fun e => h0 (by rw [e, Nat.mul_zero])
        have hd := hd.resolve_left hm
        have he := he.resolve_left hn
        have h1 : m < 2 ^ (m.log2 + 1) := Nat.lt_log2_self
        have h2 : n < 2 ^ (n.log2 + 1) := Nat.lt_log2_self
        have h3 : m * n < 2 ^ (m.log2 + 1 + (n.log2 + 1)) := by rw [Nat.pow_add]; exact Nat.mul_lt_mul_of_lt_of_lt h1 h2
        have h5 := (Nat.log2_lt h0).2 h3
        omega
theorem opp_fin {d : Datum} {A : Nat} (hd : FinD A d) : FinD A d.opposite := by
  cases d with
  | infinity s => exact hd.elim
  | nan s f => exact hd.elim
  | number s m i => exact hd
theorem wr_fin {T : Nat} {r : Datum} (h : FinD T r) (hT : T ≤ 1000) : Fin (T + 1) (double.write r) ∧ (double.read (double.write r)).neg = r.neg ∧ ∃ q, double.write r = double.word r.neg q ∧ q < 2 ^ 63 := by
  cases r with
  | infinity s => exact h.elim
  | nan s f => exact h.elim
  | number s m p =>
    obtain ⟨h1, h2, q, h3, h4⟩ := write_fin s m p T h hT
    refine ⟨h1, h2, q, h3, ?_⟩
    have : (T + 1024) * 2 ^ 52 ≤ 2024 * 2 ^ 52 := Nat.mul_le_mul_right _ (by omega)
    omega
theorem add_fin {A B x y : Nat} (hx : Fin A x) (hy : Fin B y) (hA : A ≤ 900) (hB : B ≤ 900) : fok .add .f64 x y ∧ Fin (max A B + 2) (fv .add .f64 x y) := by
  obtain ⟨r, h1, h2⟩ := sum_fin hx.1 hy.1
  have e : floatBits .add .f64 x y = some (double.write r) := by
    show double.add x y = _
    unfold Format.add
    rw [h1]; rfl
  unfold fok fv
  rw [e]
  exact ⟨rfl, (wr_fin h2 (by omega)).1⟩
theorem sub_fin {A B x y : Nat} (hx : Fin A x) (hy : Fin B y) (hA : A ≤ 900) (hB : B ≤ 900) : fok .sub .f64 x y ∧ Fin (max A B + 2) (fv .sub .f64 x y) := by
  obtain ⟨r, h1, h2⟩ := sum_fin hx.1 (opp_fin hy.1)
  have e : floatBits .sub .f64 x y = some (double.write r) := by
    show double.sub x y = _
    unfold Format.sub
    rw [h1]; rfl
  unfold fok fv
  rw [e]
  exact ⟨rfl, (wr_fin h2 (by omega)).1⟩
theorem mul_fin {A B x y : Nat} (hx : Fin A x) (hy : Fin B y) (hA : A ≤ 450) (hB : B ≤ 450) : fok .mul .f64 x y ∧ Fin (A + B + 2) (fv .mul .f64 x y) := by
  obtain ⟨r, h1, h2, _⟩ := product_fin hx.1 hy.1
  have e : floatBits .mul .f64 x y = some (double.write r) := by
    show double.mul x y = _
    unfold Format.mul
    rw [h1]; rfl
  unfold fok fv
  rw [e]
  exact ⟨rfl, (wr_fin h2 (by omega)).1⟩
theorem int_fin (n : Int) (A : Nat) (h : n.natAbs < 2 ^ (A + 1)) (hA : A ≤ 900) : Fin (A + 1) (floatOfInt .f64 n) := by
  refine (wr_fin (r := .number (n < 0) n.natAbs 0) (T := A) ?_ (by omega)).1
  by_cases h0 : n.natAbs = 0
  · exact .inl h0
  · right
    have := (Nat.log2_lt h0).2 h
    omega
def fabs (x : Nat) : Nat := x % 2 ^ 63
theorem read_eq (x : Nat) : double.read x = if x % 2 ^ 63 < 2 ^ 52 then .number (x / 2 ^ 63 % 2 == 1) (x % 2 ^ 63) (-1074) else if x % 2 ^ 63 < 2047 * 2 ^ 52 then .number (x / 2 ^ 63 % 2 == 1) (2 ^ 52 + x % 2 ^ 63 % 2 ^ 52) (-1074 + (x % 2 ^ 63 / 2 ^ 52 - 1 : Nat)) else if x % 2 ^ 63 = 2047 * 2 ^ 52 then .infinity (x / 2 ^ 63 % 2 == 1) else .nan (x / 2 ^ 63 % 2 == 1) (x % 2 ^ 63 - 2047 * 2 ^ 52) := by
  unfold Format.read
  rw [d_least]
  rfl
theorem read_abs (x : Nat) : double.read (fabs x) = match double.read x with
    | .number _ m p => .number false m p
    | .infinity _ => .infinity false
    | .nan _ f => .nan false f := by
  rw [read_eq x, read_eq (fabs x)]
  unfold fabs
  have h1 : x % 2 ^ 63 / 2 ^ 63 = 0 := Nat.div_eq_of_lt (Nat.mod_lt _ (Nat.two_pow_pos _))
  have h2 : x % 2 ^ 63 % 2 ^ 63 = x % 2 ^ 63 := Nat.mod_mod _ _
  rw [h1, h2]
  generalize x % 2 ^ 63 = r
  split
  · rfl
  · split
    · rfl
    · split <;> rfl
theorem abs_fin {A x : Nat} (h : Fin A x) : Fin A (fabs x) := by
  obtain ⟨s, m, p, h1, h2⟩ := h.num
  refine ⟨?_, Nat.lt_of_lt_of_le (Nat.mod_lt _ (Nat.two_pow_pos _)) (by decide)⟩
  rw [read_abs, h1]
  exact h2
theorem abs_sq {A x : Nat} (hx : Fin A x) (hA : A ≤ 450) : fabs (fv .mul .f64 x x) = fv .mul .f64 x x := by
  obtain ⟨r, h1, h2, h3⟩ := product_fin hx.1 hx.1
  have e : floatBits .mul .f64 x x = some (double.write r) := by
    show double.mul x x = _
    unfold Format.mul
    rw [h1]; rfl
  unfold fv
  rw [e]
  obtain ⟨_, _, q, h4, h5⟩ := wr_fin h2 (by omega)
  rw [Bool.xor_self] at h3
  rw [h3] at h4
  show fabs (double.write r) = double.write r
  rw [h4]
  exact Nat.mod_eq_of_lt h5
theorem read_zero : double.read 0 = .number false 0 (-1074) := rfl
theorem order_num {x y : Nat} {s t : Bool} {m n : Nat} {i j : Int} (hx : double.read x = .number s m i) (hy : double.read y = .number t n j) : double.order x y = some (compare (signed s m (i - min i j).toNat) (signed t n (j - min i j).toNat)) := by
  unfold Format.order
  rw [hx, hy]; rfl
theorem cmp_lt {a b : Int} : (some (compare a b) == some Ordering.lt) = decide (a < b) := by
  rcases Int.lt_trichotomy a b with h | h | h
  · simp [Int.compare_eq_lt.2 h, h]
  · subst h; simp
  · simp [Int.compare_eq_gt.2 h]; omega
theorem cmp_eq {a b : Int} : (some (compare a b) == some Ordering.eq) = decide (a = b) := by
  rcases Int.lt_trichotomy a b with h | h | h
  · simp [Int.compare_eq_lt.2 h]; omega
  · subst h; simp
  · simp [Int.compare_eq_gt.2 h]; omega
theorem signed_neg_iff (s : Bool) (m u : Nat) : signed s m u < 0 ↔ s = true ∧ m ≠ 0 := by
  unfold signed
  rw [Nat.shiftLeft_eq]
  have hu := Nat.two_pow_pos u
  have e : m ≠ 0 ↔ 0 < m * 2 ^ u := by
    constructor
    · intro h; exact Nat.mul_pos (Nat.pos_of_ne_zero h) hu
    · rintro h rfl; simp at h
  rw [e]
  generalize m * 2 ^ u = k
  cases s <;> simp <;> omega
theorem signed_zero_iff (s : Bool) (m u : Nat) : signed s m u = 0 ↔ m = 0 := by
  rw [← Int.natAbs_eq_zero, signed_abs]
  have := Nat.two_pow_pos u
  rw [Nat.mul_eq_zero]
  omega
theorem flt_zero {x : Nat} {s : Bool} {m : Nat} {p : Int} (hx : double.read x = .number s m p) : flt .f64 x 0 = (s && decide (m ≠ 0)) := by
  unfold flt
  show (double.order x 0 == some .lt) = _
  rw [order_num hx read_zero, cmp_lt]
  rw [show signed false 0 (-1074 - min p (-1074)).toNat = 0 by simp [signed]]
  have := signed_neg_iff s m (p - min p (-1074)).toNat
  cases s <;> simp_all
theorem feq_zero {x : Nat} {s : Bool} {m : Nat} {p : Int} (hx : double.read x = .number s m p) : feq .f64 x 0 = decide (m = 0) := by
  unfold feq
  show (double.order x 0 == some .eq) = _
  rw [order_num hx read_zero, cmp_eq]
  rw [show signed false 0 (-1074 - min p (-1074)).toNat = 0 by simp [signed]]
  have := signed_zero_iff s m (p - min p (-1074)).toNat
  simp_all
theorem feq_self {A x : Nat} (h : Fin A x) : feq .f64 x x = true := by
  obtain ⟨s, m, p, h1, h2⟩ := h.num
  unfold feq
  show (double.order x x == some .eq) = true
  rw [order_num h1 h1, cmp_eq]
  simp
theorem rung_zero {x : Nat} {s : Bool} {p : Int} (hx : double.read x = .number s 0 p) : x % 2 ^ 63 = 0 := by
  rw [read_eq] at hx
  split at hx
  · injection hx
  · split at hx
    · injection hx with _ h _
      omega
    · split at hx <;> cases hx
theorem sign_of {x : Nat} {s : Bool} {m : Nat} {p : Int} (hx : double.read x = .number s m p) : (x / 2 ^ 63 % 2 == 1) = s := by
  rw [read_eq] at hx
  split at hx
  · injection hx
  · split at hx
    · injection hx
    · split at hx <;> cases hx
theorem abs_ref {A x : Nat} (h : Fin A x) : (if flt .f64 x 0 = true then fneg .f64 x else if feq .f64 x 0 = true then 0 else x) = fabs x := by
  obtain ⟨s, m, p, h1, h2⟩ := h.num
  rw [flt_zero h1, feq_zero h1]
  have hs := sign_of h1
  have hlt := h.2
  unfold fabs
  by_cases h0 : m = 0
  · subst h0
    simp [rung_zero h1]
  · cases s with
    | true =>
      rw [if_pos (by simp [h0])]
      show x ^^^ 2 ^ 63 = x % 2 ^ 63
      have h3 : x / 2 ^ 63 = 1 := by
        have : x / 2 ^ 63 % 2 = 1 := by simpa using hs
        omega
      have h4 : x = 2 ^ 63 + x % 2 ^ 63 := by omega
      have h5 : x % 2 ^ 63 < 2 ^ 63 := Nat.mod_lt _ (Nat.two_pow_pos _)
      generalize x % 2 ^ 63 = r at h4 h5
      subst h4
      have h6 := Nat.two_pow_add_eq_or_of_lt h5 1
      rw [Nat.mul_one] at h6
      rw [h6]
      apply Nat.eq_of_testBit_eq
      intro i
      simp only [Nat.testBit_xor, Nat.testBit_or, Nat.testBit_two_pow]
      by_cases hi : 63 = i
      · subst hi
        simp [Nat.testBit_lt_two_pow h5]
      · simp [hi]
    | false =>
      rw [if_neg (by simp), if_neg (by simp [h0])]
      have h3 : x / 2 ^ 63 = 0 := by
        have : ¬ x / 2 ^ 63 % 2 = 1 := by simpa using hs
        omega
      omega
theorem quo_ok {x : Nat} {A : Nat} (h : Fin A x) (h0 : feq .f64 x 0 = true) : fok .quo .f64 4607182418800017408 x := by
  obtain ⟨s, m, p, h1, h2⟩ := h.num
  rw [feq_zero h1] at h0
  have h0 : m = 0 := by simpa using h0
  subst h0
  unfold fok
  show (double.div 4607182418800017408 x).isSome = true
  unfold Format.div
  rw [h1]
  have : double.read 4607182418800017408 = .number false (2 ^ 52) (-52) := by decide
  rw [this]
  simp [Datum.quotient]
end Go.Proofs.Ytcgolmopbnhgeaa.Ae

namespace Go.Proofs.Ytcgolmopbnhgeaa.Ae
open Go Go.RowKit Go.Proofs.Ytcgolmopbnhgeaa.Dig
end Go.Proofs.Ytcgolmopbnhgeaa.Ae

namespace Go.Proofs.Ytcgolmopbnhgeaa.Ae
open Go Go.RowKit Go.Proofs.Ytcgolmopbnhgeaa.Dig
end Go.Proofs.Ytcgolmopbnhgeaa.Ae

namespace Go.Proofs.Ytcgolmopbnhgeaa.Ae
open Go Go.RowKit Go.Proofs.Ytcgolmopbnhgeaa.Dig
def EI2p : Enc (Int × Int) := ⟨fun p => .ptr (EI2.e p), fun a b h => by
  simp only [D.ptr.injEq] at h
  exact EI2.inj _ _ h⟩
def EI3p : Enc (Int × Int × Int) := ⟨fun p => .ptr (EI3.e p), fun a b h => by
  simp only [D.ptr.injEq] at h
  exact EI3.inj _ _ h⟩
theorem tame2_4 (a b c d e f g h : Int) : tame2C [.sl 2 [.agg [.lit (.int .i64 a), .lit (.int .i64 b)], .agg [.lit (.int .i64 c), .lit (.int .i64 d)], .agg [.lit (.int .i64 e), .lit (.int .i64 f)], .agg [.lit (.int .i64 g), .lit (.int .i64 h)]]] = (True, [.lit (.bool (decide (c2 (a, b) ∧ c2 (c, d) ∧ c2 (e, f) ∧ c2 (g, h))))]) := by
  have h1 := tame2C_at [(a, b), (c, d), (e, f), (g, h)]
  have h2 : (([(a, b), (c, d), (e, f), (g, h)] : List (Int × Int)).length < 4611686018427387904) = True := eq_true (by simp)
  rw [h2] at h1
  have h3 : (([(a, b), (c, d), (e, f), (g, h)] : List (Int × Int)).all fun p => decide (c2 p)) = decide (c2 (a, b) ∧ c2 (c, d) ∧ c2 (e, f) ∧ c2 (g, h)) := by rw [Bool.eq_iff_iff, decide_eq_true_eq]; simp
  rw [h3] at h1
  exact h1
attribute [simp] tame2_4
theorem l2Tame2_4 (a b c d e f g h : Int) : l2Tame2C [.sl 2 [.agg [.lit (.int .i64 a), .lit (.int .i64 b)], .agg [.lit (.int .i64 c), .lit (.int .i64 d)], .agg [.lit (.int .i64 e), .lit (.int .i64 f)], .agg [.lit (.int .i64 g), .lit (.int .i64 h)]]] = (True, [.lit (.bool (decide (c2 (a, b) ∧ c2 (c, d) ∧ c2 (e, f) ∧ c2 (g, h))))]) := by
  have h1 := l2Tame2C_at [(a, b), (c, d), (e, f), (g, h)]
  have h2 : (([(a, b), (c, d), (e, f), (g, h)] : List (Int × Int)).length < 4611686018427387904) = True := eq_true (by simp)
  rw [h2] at h1
  have h3 : (([(a, b), (c, d), (e, f), (g, h)] : List (Int × Int)).all fun p => decide (c2 p)) = decide (c2 (a, b) ∧ c2 (c, d) ∧ c2 (e, f) ∧ c2 (g, h)) := by rw [Bool.eq_iff_iff, decide_eq_true_eq]; simp
  rw [h3] at h1
  exact h1
attribute [simp] l2Tame2_4
end Go.Proofs.Ytcgolmopbnhgeaa.Ae
