import Derived.Test.YthlhnfbfibjfjaaVG
import Derived.Test.YthlhnfbfibjfjaaChecked
/-
The machine's code of the functions that are reached, and that it is the translated program's. Printed by program.
-/
namespace Go.Proofs.Ythlhnfbfibjfjaa.L
open Go Go.VM
set_option linter.unusedVariables false

def look {α : Type} : List (Nat × α) → Nat → Option α
  | [], _ => none
  | (j, v) :: r, k => if j = k then some v else look r k
def vf3r0 : List VOper :=
  [⟨(some 4), .box false 16 (.t 0), [], none⟩,
   ⟨(some 8), .asg (.c (.p (.bool false))), [], none⟩]
def vf3r1 : List VOper :=
  [⟨(some 13), .call 8 [(.c (.p (.int Go.IntKind.i64 1)))], [], none⟩,
   ⟨(some 9), .asg (.t 13), [0, 0, 0], none⟩]
def vf3r2 : List VOper :=
  [⟨(some 14), .mv (.t 2), [], none⟩,
   ⟨(some 15), .bin Go.BinOp.and .no (.t 14) (.c (.p (.int Go.IntKind.i64 549755813887))), [0], none⟩,
   ⟨(some 16), .mv (.t 3), [], none⟩,
   ⟨(some 17), .bin Go.BinOp.and .no (.t 16) (.c (.p (.int Go.IntKind.i64 549755813887))), [2], none⟩,
   ⟨(some 2), .asg (.t 15), [1, 0, 1], none⟩,
   ⟨(some 3), .asg (.t 17), [3, 4, 0, 1, 2, 3, 4], none⟩]
def vf3r3 : List VOper :=
  [⟨(some 18), .mv (.t 9), [], none⟩,
   ⟨(some 19), .load (some 16) (.t 4), [], none⟩,
   ⟨(some 20), .call 10 [(.t 19)], [1], none⟩,
   ⟨(some 21), .mv (.t 2), [], none⟩,
   ⟨(some 22), .call 9 [(.t 18), (.t 20), (.t 21)], [0, 2, 3, 2], none⟩,
   ⟨(some 23), .bin Go.BinOp.neq .no (.t 22) (.c (.p (.int Go.IntKind.i64 0))), [4], none⟩]
def vf3r4 : List VOper :=
  [⟨(some 24), .load (some 16) (.t 4), [], none⟩,
   ⟨(some 25), .call 11 [(.t 24)], [0], none⟩,
   ⟨(some 26), .un Go.UnOp.not (.t 25), [1], none⟩,
   ⟨(some 27), .mv (.t 26), [2, 1], none⟩,
   ⟨(some 28), .call 12 [], [3, 3], (some (3, true))⟩,
   ⟨(some 29), .pick (.t 27) (.t 28) (.c (.p (.bool false))), [3, 4], none⟩,
   ⟨(some 8), .asg (.t 29), [5, 4, 0, 1, 2, 3, 4, 5], none⟩]
def vf3r5 : List VOper :=
  [⟨(some 31), .mv (.t 9), [], none⟩,
   ⟨(some 32), .faddr 0 (.t 4), [], none⟩,
   ⟨(some 33), .load none (.t 32), [1], none⟩,
   ⟨(some 34), .mv (.t 1), [], none⟩,
   ⟨(some 35), .faddr 1 (.t 4), [], none⟩,
   ⟨(some 36), .load (some 7) (.t 35), [4], none⟩,
   ⟨(some 37), .mv (.t 3), [], none⟩,
   ⟨(some 38), .call 13 [(.t 31), (.t 33), (.t 34), (.t 36), (.t 37)], [0, 2, 3, 5, 6], none⟩,
   ⟨(some 30), .mv (.t 38), [7], none⟩,
   ⟨(some 39), .ext (.t 30) 0, [8], none⟩,
   ⟨(some 40), .ext (.t 30) 1, [8], none⟩,
   ⟨(some 10), .alloc false [(.int Go.IntKind.i64 0), (.int Go.IntKind.u64 0), (.int Go.IntKind.u64 0), (.int Go.IntKind.u32 0), (.int Go.IntKind.u32 0), (.int Go.IntKind.i64 0), (.int Go.IntKind.i64 0), (.int Go.IntKind.i64 0), (.bool false), (.bool false), (.int Go.IntKind.i64 0), (.int Go.IntKind.u32 0), (.int Go.IntKind.i64 0), (.int Go.IntKind.i64 0), (.int Go.IntKind.i64 0), (.int Go.IntKind.i64 0)], [], none⟩,
   ⟨none, .store 16 (.t 10) (.t 39), [11, 9, 7, 0, 1, 2, 3, 4, 5, 6, 7, 8, 9, 11], none⟩,
   ⟨(some 11), .asg (.t 40), [10, 12, 0, 1, 2, 3, 4, 5, 6, 7, 8, 9, 10, 11, 12], none⟩]
def vf3r6 : List VOper :=
  [⟨(some 41), .mv (.t 3), [], none⟩,
   ⟨(some 42), .mv (.t 2), [], none⟩,
   ⟨(some 43), .bin Go.BinOp.sub .no (.t 41) (.t 42), [0, 1], none⟩,
   ⟨(some 44), .faddr 13 (.t 4), [], none⟩,
   ⟨(some 45), .load none (.t 44), [3], none⟩,
   ⟨(some 46), .bin Go.BinOp.lss .no (.t 43) (.t 45), [2, 4], none⟩,
   ⟨(some 47), .mv (.t 46), [5], none⟩,
   ⟨(some 48), .faddr 13 (.t 4), [6], (some (6, false))⟩,
   ⟨(some 49), .load none (.t 48), [7, 6], (some (6, false))⟩,
   ⟨(some 50), .bin Go.BinOp.eql .no (.t 49) (.c (.p (.int Go.IntKind.i64 0))), [8, 6], (some (6, false))⟩,
   ⟨(some 51), .pick (.t 47) (.c (.p (.bool true))) (.t 50), [6, 9], none⟩,
   ⟨(some 12), .asg (.t 51), [10, 6, 0, 1, 2, 3, 4, 5, 6, 7, 8, 9, 10], none⟩]
def vf3r7 : List VOper :=
  [⟨(some 52), .mv (.t 12), [], none⟩,
   ⟨(some 53), .mv (.t 52), [0], none⟩,
   ⟨(some 54), .mv (.t 3), [1], (some (1, true))⟩,
   ⟨(some 55), .mv (.t 2), [1], (some (1, true))⟩,
   ⟨(some 56), .bin Go.BinOp.sub .no (.t 54) (.t 55), [2, 3, 1], (some (1, true))⟩,
   ⟨(some 57), .faddr 12 (.t 4), [1], (some (1, true))⟩,
   ⟨(some 58), .load none (.t 57), [5, 1], (some (1, true))⟩,
   ⟨(some 59), .bin Go.BinOp.lss .no (.t 56) (.t 58), [4, 6, 1], (some (1, true))⟩,
   ⟨(some 60), .mv (.t 59), [7, 1, 1], (some (1, true))⟩,
   ⟨(some 61), .faddr 12 (.t 4), [8], (some (8, false))⟩,
   ⟨(some 62), .load none (.t 61), [9, 8], (some (8, false))⟩,
   ⟨(some 63), .bin Go.BinOp.eql .no (.t 62) (.c (.p (.int Go.IntKind.i64 0))), [10, 8], (some (8, false))⟩,
   ⟨(some 64), .pick (.t 60) (.c (.p (.bool true))) (.t 63), [8, 11, 1], (some (1, true))⟩,
   ⟨(some 65), .pick (.t 53) (.t 64) (.c (.p (.bool false))), [1, 12], none⟩,
   ⟨(some 12), .asg (.t 65), [13, 8, 0, 1, 2, 3, 4, 5, 6, 7, 8, 9, 10, 11, 12, 13], none⟩]
def vf3r8 : List VOper :=
  [⟨(some 66), .faddr 8 (.t 4), [], none⟩,
   ⟨(some 67), .load none (.t 66), [0], none⟩]
def vf3r9 : List VOper :=
  [⟨(some 68), .mv (.t 12), [], none⟩,
   ⟨(some 69), .mv (.t 68), [0], none⟩,
   ⟨(some 70), .mv (.t 1), [1], (some (1, true))⟩,
   ⟨(some 71), .bin Go.BinOp.eql .no (.t 70) (.c (.p (.int Go.IntKind.i64 (-1)))), [2, 1], (some (1, true))⟩,
   ⟨(some 72), .pick (.t 69) (.t 71) (.c (.p (.bool false))), [1, 3], none⟩,
   ⟨(some 12), .asg (.t 72), [4, 1, 0, 1, 2, 3, 4], none⟩]
def vf3r10 : List VOper :=
  [⟨(some 73), .mv (.t 12), [], none⟩,
   ⟨(some 74), .mv (.t 73), [0], none⟩,
   ⟨(some 75), .mv (.t 1), [1], (some (1, true))⟩,
   ⟨(some 76), .bin Go.BinOp.geq .no (.t 75) (.c (.p (.int Go.IntKind.i64 0))), [2, 1], (some (1, true))⟩,
   ⟨(some 77), .pick (.t 74) (.t 76) (.c (.p (.bool false))), [1, 3], none⟩,
   ⟨(some 78), .mv (.t 77), [4, 1], none⟩,
   ⟨(some 79), .mv (.t 1), [5], (some (5, true))⟩,
   ⟨(some 80), .faddr 11 (.t 4), [5], (some (5, true))⟩,
   ⟨(some 81), .load none (.t 80), [7, 5], (some (5, true))⟩,
   ⟨(some 82), .conv (.int Go.IntKind.i64) (.t 81), [8, 5], (some (5, true))⟩,
   ⟨(some 83), .bin Go.BinOp.eql .no (.t 79) (.t 82), [6, 9, 5], (some (5, true))⟩,
   ⟨(some 84), .pick (.t 78) (.t 83) (.c (.p (.bool false))), [5, 10], none⟩,
   ⟨(some 12), .asg (.t 84), [11, 5, 0, 1, 2, 3, 4, 5, 6, 7, 8, 9, 10, 11], none⟩]
def vf3r11 : List VOper :=
  [⟨(some 85), .mv (.t 11), [], none⟩,
   ⟨(some 86), .mv (.t 12), [], none⟩,
   ⟨(some 87), .bin Go.BinOp.eql .bool (.t 85) (.t 86), [0, 1], none⟩,
   ⟨(some 88), .mv (.t 87), [2], none⟩,
   ⟨(some 89), .mv (.t 11), [3], (some (3, true))⟩,
   ⟨(some 90), .un Go.UnOp.not (.t 89), [4, 3], (some (3, true))⟩,
   ⟨(some 91), .mv (.t 90), [5, 3, 3], (some (3, true))⟩,
   ⟨(some 92), .faddr 10 (.t 10), [6], (some (6, false))⟩,
   ⟨(some 93), .load none (.t 92), [7, 6], (some (6, false))⟩,
   ⟨(some 94), .faddr 10 (.t 4), [6], (some (6, false))⟩,
   ⟨(some 95), .load none (.t 94), [9, 6], (some (6, false))⟩,
   ⟨(some 96), .bin Go.BinOp.eql .no (.t 93) (.t 95), [8, 10, 6], (some (6, false))⟩,
   ⟨(some 97), .mv (.t 96), [11, 6, 6], (some (6, false))⟩,
   ⟨(some 98), .faddr 9 (.t 10), [12], (some (12, true))⟩,
   ⟨(some 99), .load none (.t 98), [13, 12], (some (12, true))⟩,
   ⟨(some 100), .faddr 9 (.t 4), [12], (some (12, true))⟩,
   ⟨(some 101), .load none (.t 100), [15, 12], (some (12, true))⟩,
   ⟨(some 102), .bin Go.BinOp.eql .bool (.t 99) (.t 101), [14, 16, 12], (some (12, true))⟩,
   ⟨(some 103), .pick (.t 97) (.t 102) (.c (.p (.bool false))), [12, 17, 6], (some (6, false))⟩,
   ⟨(some 104), .mv (.t 103), [18, 12, 6], (some (6, false))⟩,
   ⟨(some 105), .faddr 15 (.t 10), [19], (some (19, true))⟩,
   ⟨(some 106), .load none (.t 105), [20, 19], (some (19, true))⟩,
   ⟨(some 107), .mv (.t 3), [19], (some (19, true))⟩,
   ⟨(some 108), .bin Go.BinOp.eql .no (.t 106) (.t 107), [21, 22, 19], (some (19, true))⟩,
   ⟨(some 109), .pick (.t 104) (.t 108) (.c (.p (.bool false))), [19, 23, 6], (some (6, false))⟩,
   ⟨(some 110), .pick (.t 91) (.c (.p (.bool true))) (.t 109), [6, 24, 3], (some (3, true))⟩,
   ⟨(some 111), .pick (.t 88) (.t 110) (.c (.p (.bool false))), [3, 25], none⟩,
   ⟨(some 112), .mv (.t 111), [26, 19], none⟩,
   ⟨(some 113), .call 12 [], [27, 27], (some (27, true))⟩,
   ⟨(some 114), .pick (.t 112) (.t 113) (.c (.p (.bool false))), [27, 28], none⟩,
   ⟨(some 8), .asg (.t 114), [29, 28, 0, 1, 2, 3, 4, 5, 6, 7, 8, 9, 10, 11, 12, 13, 14, 15, 16, 17, 18, 19, 20, 21, 22, 23, 24, 25, 26, 27, 28, 29], none⟩]
def vf3 : VFun where
  vars := [0, 1, 2, 3, 28, 48, 49, 50, 54, 55, 56, 57, 58, 59, 60, 61, 62, 63, 64, 70, 71, 75, 76, 79, 80, 81, 82, 83, 89, 90, 91, 92, 93, 94, 95, 96, 97, 98, 99, 100, 101, 102, 103, 104, 105, 106, 107, 108, 109, 110, 113]
  boxes := [4, 10]
  mv := []
  res := [(.t 8)]
  body := (.seq (.region none vf3r0 [1, 2, 3, 4, 11, 15, 17, 28, 40, 48, 49, 50, 54, 55, 56, 57, 58, 59, 60, 61, 62, 63, 64, 70, 71, 75, 76, 79, 80, 81, 82, 83, 89, 90, 91, 92, 93, 94, 95, 96, 97, 98, 99, 100, 101, 102, 103, 104, 105, 106, 107, 108, 109, 110, 113] [1, 2, 3, 4, 11, 15, 17, 28, 40, 48, 49, 50, 54, 55, 56, 57, 58, 59, 60, 61, 62, 63, 64, 70, 71, 75, 76, 79, 80, 81, 82, 83, 89, 90, 91, 92, 93, 94, 95, 96, 97, 98, 99, 100, 101, 102, 103, 104, 105, 106, 107, 108, 109, 110, 113])
 (.seq (.region none vf3r1 [1, 2, 3, 4, 9, 11, 13, 15, 17, 28, 40, 48, 49, 50, 54, 55, 56, 57, 58, 59, 60, 61, 62, 63, 64, 70, 71, 75, 76, 79, 80, 81, 82, 83, 89, 90, 91, 92, 93, 94, 95, 96, 97, 98, 99, 100, 101, 102, 103, 104, 105, 106, 107, 108, 109, 110, 113] [1, 2, 3, 4, 9, 11, 13, 15, 17, 28, 40, 48, 49, 50, 54, 55, 56, 57, 58, 59, 60, 61, 62, 63, 64, 70, 71, 75, 76, 79, 80, 81, 82, 83, 89, 90, 91, 92, 93, 94, 95, 96, 97, 98, 99, 100, 101, 102, 103, 104, 105, 106, 107, 108, 109, 110, 113])
 (.seq (.region none vf3r2 [1, 2, 3, 4, 9, 11, 13, 15, 17, 28, 40, 48, 49, 50, 54, 55, 56, 57, 58, 59, 60, 61, 62, 63, 64, 70, 71, 75, 76, 79, 80, 81, 82, 83, 89, 90, 91, 92, 93, 94, 95, 96, 97, 98, 99, 100, 101, 102, 103, 104, 105, 106, 107, 108, 109, 110, 113] [1, 2, 3, 4, 9, 11, 13, 15, 17, 28, 40, 48, 49, 50, 54, 55, 56, 57, 58, 59, 60, 61, 62, 63, 64, 70, 71, 75, 76, 79, 80, 81, 82, 83, 89, 90, 91, 92, 93, 94, 95, 96, 97, 98, 99, 100, 101, 102, 103, 104, 105, 106, 107, 108, 109, 110, 113])
 (.seq (.seq (.region none vf3r3 [1, 2, 3, 4, 9, 11, 13, 15, 17, 23, 28, 40, 48, 49, 50, 54, 55, 56, 57, 58, 59, 60, 61, 62, 63, 64, 70, 71, 75, 76, 79, 80, 81, 82, 83, 89, 90, 91, 92, 93, 94, 95, 96, 97, 98, 99, 100, 101, 102, 103, 104, 105, 106, 107, 108, 109, 110, 113] [1, 2, 3, 4, 9, 11, 13, 15, 17, 23, 28, 40, 48, 49, 50, 54, 55, 56, 57, 58, 59, 60, 61, 62, 63, 64, 70, 71, 75, 76, 79, 80, 81, 82, 83, 89, 90, 91, 92, 93, 94, 95, 96, 97, 98, 99, 100, 101, 102, 103, 104, 105, 106, 107, 108, 109, 110, 113])
 (.cond (.t 23) (.seq (.region none vf3r4 [8, 29, 114] [8, 29, 114])
 .ret)
 .skip))
 (.seq (.region none vf3r5 [1, 2, 3, 4, 10, 11, 15, 17, 40, 48, 49, 50, 54, 55, 56, 57, 58, 59, 60, 61, 62, 63, 64, 70, 71, 75, 76, 79, 80, 81, 82, 83, 89, 90, 91, 92, 93, 94, 95, 96, 97, 98, 99, 100, 101, 102, 103, 104, 105, 106, 107, 108, 109, 110, 113] [1, 2, 3, 4, 10, 11, 15, 17, 40, 48, 49, 50, 54, 55, 56, 57, 58, 59, 60, 61, 62, 63, 64, 70, 71, 75, 76, 79, 80, 81, 82, 83, 89, 90, 91, 92, 93, 94, 95, 96, 97, 98, 99, 100, 101, 102, 103, 104, 105, 106, 107, 108, 109, 110, 113])
 (.seq (.region none vf3r6 [1, 2, 3, 4, 10, 11, 12, 15, 17, 40, 51, 54, 55, 56, 57, 58, 59, 60, 61, 62, 63, 64, 65, 70, 71, 72, 75, 76, 79, 80, 81, 82, 83, 84, 89, 90, 91, 92, 93, 94, 95, 96, 97, 98, 99, 100, 101, 102, 103, 104, 105, 106, 107, 108, 109, 110, 113] [1, 2, 3, 4, 10, 11, 12, 15, 17, 40, 51, 54, 55, 56, 57, 58, 59, 60, 61, 62, 63, 64, 65, 70, 71, 72, 75, 76, 79, 80, 81, 82, 83, 84, 89, 90, 91, 92, 93, 94, 95, 96, 97, 98, 99, 100, 101, 102, 103, 104, 105, 106, 107, 108, 109, 110, 113])
 (.seq (.region none vf3r7 [1, 3, 4, 10, 11, 12, 17, 40, 51, 65, 70, 71, 72, 75, 76, 79, 80, 81, 82, 83, 84, 89, 90, 91, 92, 93, 94, 95, 96, 97, 98, 99, 100, 101, 102, 103, 104, 105, 106, 107, 108, 109, 110, 113] [1, 3, 4, 10, 11, 12, 17, 40, 51, 65, 70, 71, 72, 75, 76, 79, 80, 81, 82, 83, 84, 89, 90, 91, 92, 93, 94, 95, 96, 97, 98, 99, 100, 101, 102, 103, 104, 105, 106, 107, 108, 109, 110, 113])
 (.seq (.seq (.region none vf3r8 [1, 3, 4, 10, 11, 12, 17, 40, 51, 65, 67, 70, 71, 72, 75, 76, 79, 80, 81, 82, 83, 84, 89, 90, 91, 92, 93, 94, 95, 96, 97, 98, 99, 100, 101, 102, 103, 104, 105, 106, 107, 108, 109, 110, 113] [1, 3, 4, 10, 11, 12, 17, 40, 51, 65, 67, 70, 71, 72, 75, 76, 79, 80, 81, 82, 83, 84, 89, 90, 91, 92, 93, 94, 95, 96, 97, 98, 99, 100, 101, 102, 103, 104, 105, 106, 107, 108, 109, 110, 113])
 (.cond (.t 67) (.region none vf3r9 [3, 4, 10, 11, 12, 17, 40, 51, 65, 72, 84, 89, 90, 91, 92, 93, 94, 95, 96, 97, 98, 99, 100, 101, 102, 103, 104, 105, 106, 107, 108, 109, 110, 113] [3, 4, 10, 11, 12, 17, 40, 51, 65, 72, 84, 89, 90, 91, 92, 93, 94, 95, 96, 97, 98, 99, 100, 101, 102, 103, 104, 105, 106, 107, 108, 109, 110, 113])
 (.region none vf3r10 [3, 4, 10, 11, 12, 17, 40, 51, 65, 72, 84, 89, 90, 91, 92, 93, 94, 95, 96, 97, 98, 99, 100, 101, 102, 103, 104, 105, 106, 107, 108, 109, 110, 113] [3, 4, 10, 11, 12, 17, 40, 51, 65, 72, 84, 89, 90, 91, 92, 93, 94, 95, 96, 97, 98, 99, 100, 101, 102, 103, 104, 105, 106, 107, 108, 109, 110, 113])))
 (.seq (.region none vf3r11 [8, 29, 114] [8, 29, 114])
 .ret)))))))))

def vf4r0 : List VOper :=
  [⟨(some 2), .box false 16 (.t 0), [], none⟩,
   ⟨(some 3), .box false 16 (.t 1), [], none⟩,
   ⟨(some 4), .asg (.c (.p (.bool false))), [], none⟩]
def vf4r1 : List VOper :=
  [⟨(some 9), .load (some 16) (.t 2), [], none⟩,
   ⟨(some 10), .call 11 [(.t 9)], [0], none⟩,
   ⟨(some 11), .un Go.UnOp.not (.t 10), [1], none⟩,
   ⟨(some 12), .mv (.t 11), [2, 1], none⟩,
   ⟨(some 13), .load (some 16) (.t 3), [3], (some (3, false))⟩,
   ⟨(some 14), .call 11 [(.t 13)], [4, 3, 3], (some (3, false))⟩,
   ⟨(some 15), .un Go.UnOp.not (.t 14), [5, 3], (some (3, false))⟩,
   ⟨(some 16), .pick (.t 12) (.c (.p (.bool true))) (.t 15), [3, 6], none⟩]
def vf4r2 : List VOper :=
  [⟨(some 17), .call 12 [], [], none⟩,
   ⟨(some 4), .asg (.t 17), [0, 0, 0], none⟩]
def vf4r3 : List VOper :=
  [⟨(some 18), .call 8 [(.c (.p (.int Go.IntKind.i64 1)))], [], none⟩,
   ⟨(some 5), .asg (.t 18), [0, 0, 0], none⟩]
def vf4r4 : List VOper :=
  [⟨(some 19), .mv (.t 5), [], none⟩,
   ⟨(some 20), .load (some 16) (.t 2), [], none⟩,
   ⟨(some 21), .call 10 [(.t 20)], [1], none⟩,
   ⟨(some 22), .call 9 [(.t 19), (.t 21), (.c (.p (.int Go.IntKind.i64 5)))], [0, 2, 2], none⟩,
   ⟨(some 23), .mv (.t 5), [], none⟩,
   ⟨(some 24), .load (some 16) (.t 3), [], none⟩,
   ⟨(some 25), .call 10 [(.t 24)], [5, 3], none⟩,
   ⟨(some 26), .call 9 [(.t 23), (.t 25), (.c (.p (.int Go.IntKind.i64 6)))], [4, 6, 6], none⟩,
   ⟨(some 6), .asg (.t 22), [3, 7, 0, 1, 2, 3], none⟩,
   ⟨(some 7), .asg (.t 26), [7, 8, 0, 1, 2, 3, 4, 5, 6, 7, 8], none⟩]
def vf4r5 : List VOper :=
  [⟨(some 27), .mv (.t 5), [], none⟩,
   ⟨(some 28), .call 14 [(.t 27)], [0], none⟩,
   ⟨(some 8), .asg (.t 28), [1, 1, 0, 1], none⟩]
def vf4r6 : List VOper :=
  [⟨(some 29), .mv (.t 8), [], none⟩,
   ⟨(some 30), .len false (.t 29), [0], none⟩,
   ⟨(some 31), .bin Go.BinOp.neq .no (.t 30) (.c (.p (.int Go.IntKind.i64 1))), [1], none⟩,
   ⟨(some 32), .mv (.t 31), [2], none⟩,
   ⟨(some 33), .mv (.t 6), [3], (some (3, false))⟩,
   ⟨(some 34), .bin Go.BinOp.neq .no (.t 33) (.c (.p (.int Go.IntKind.i64 0))), [4, 3], (some (3, false))⟩,
   ⟨(some 35), .pick (.t 32) (.c (.p (.bool true))) (.t 34), [3, 5], none⟩]
def vf4r7 : List VOper :=
  [⟨(some 4), .asg (.c (.p (.bool false))), [], none⟩]
def vf4r8 : List VOper :=
  [⟨(some 36), .faddr 0 (.t 2), [], none⟩,
   ⟨(some 37), .load none (.t 36), [0], none⟩,
   ⟨(some 38), .faddr 0 (.t 3), [], none⟩,
   ⟨(some 39), .load none (.t 38), [2], none⟩,
   ⟨(some 40), .bin Go.BinOp.eql .no (.t 37) (.t 39), [1, 3], none⟩,
   ⟨(some 41), .mv (.t 40), [4], none⟩,
   ⟨(some 42), .faddr 1 (.t 2), [5], (some (5, true))⟩,
   ⟨(some 43), .load (some 7) (.t 42), [6, 5], (some (5, true))⟩,
   ⟨(some 44), .faddr 1 (.t 3), [5], (some (5, true))⟩,
   ⟨(some 45), .load (some 7) (.t 44), [8, 5], (some (5, true))⟩,
   ⟨(some 46), .bin Go.BinOp.eql (.struct [.int, .int, .int, .int, .int, .int, .int]) (.t 43) (.t 45), [7, 9, 5], (some (5, true))⟩,
   ⟨(some 47), .pick (.t 41) (.t 46) (.c (.p (.bool false))), [5, 10], none⟩]
def vf4r9 : List VOper :=
  [⟨(some 48), .mv (.t 7), [], none⟩,
   ⟨(some 49), .bin Go.BinOp.eql .no (.t 48) (.c (.p (.int Go.IntKind.i64 0))), [0], none⟩,
   ⟨(some 50), .mv (.t 49), [1], none⟩,
   ⟨(some 51), .mv (.t 8), [2], (some (2, true))⟩,
   ⟨(some 52), .iaddrS 16 (.t 51) (.c (.p (.int Go.IntKind.i64 0))), [3, 2], (some (2, true))⟩,
   ⟨(some 53), .faddr 10 (.t 52), [4, 2], (some (2, true))⟩,
   ⟨(some 54), .load none (.t 53), [5, 2], (some (2, true))⟩,
   ⟨(some 55), .faddr 10 (.t 3), [2], (some (2, true))⟩,
   ⟨(some 56), .load none (.t 55), [7, 2], (some (2, true))⟩,
   ⟨(some 57), .bin Go.BinOp.eql .no (.t 54) (.t 56), [6, 8, 2], (some (2, true))⟩,
   ⟨(some 58), .pick (.t 50) (.t 57) (.c (.p (.bool false))), [2, 9], none⟩,
   ⟨(some 59), .mv (.t 58), [10, 2], none⟩,
   ⟨(some 60), .mv (.t 8), [11], (some (11, true))⟩,
   ⟨(some 61), .iaddrS 16 (.t 60) (.c (.p (.int Go.IntKind.i64 0))), [12, 11], (some (11, true))⟩,
   ⟨(some 62), .faddr 14 (.t 61), [13, 11], (some (11, true))⟩,
   ⟨(some 63), .load none (.t 62), [14, 11], (some (11, true))⟩,
   ⟨(some 64), .bin Go.BinOp.eql .no (.t 63) (.c (.p (.int Go.IntKind.i64 6))), [15, 11], (some (11, true))⟩,
   ⟨(some 65), .pick (.t 59) (.t 64) (.c (.p (.bool false))), [11, 16], none⟩,
   ⟨(some 66), .mv (.t 65), [17, 11], none⟩,
   ⟨(some 67), .call 12 [], [18, 18], (some (18, true))⟩,
   ⟨(some 68), .pick (.t 66) (.t 67) (.c (.p (.bool false))), [18, 19], none⟩,
   ⟨(some 4), .asg (.t 68), [20, 19, 0, 1, 2, 3, 4, 5, 6, 7, 8, 9, 10, 11, 12, 13, 14, 15, 16, 17, 18, 19, 20], none⟩]
def vf4r10 : List VOper :=
  [⟨(some 69), .mv (.t 7), [], none⟩,
   ⟨(some 70), .bin Go.BinOp.eql .no (.t 69) (.c (.p (.int Go.IntKind.i64 4))), [0], none⟩,
   ⟨(some 71), .mv (.t 70), [1], none⟩,
   ⟨(some 72), .mv (.t 8), [2], (some (2, true))⟩,
   ⟨(some 73), .iaddrS 16 (.t 72) (.c (.p (.int Go.IntKind.i64 0))), [3, 2], (some (2, true))⟩,
   ⟨(some 74), .faddr 10 (.t 73), [4, 2], (some (2, true))⟩,
   ⟨(some 75), .load none (.t 74), [5, 2], (some (2, true))⟩,
   ⟨(some 76), .faddr 10 (.t 2), [2], (some (2, true))⟩,
   ⟨(some 77), .load none (.t 76), [7, 2], (some (2, true))⟩,
   ⟨(some 78), .bin Go.BinOp.eql .no (.t 75) (.t 77), [6, 8, 2], (some (2, true))⟩,
   ⟨(some 79), .pick (.t 71) (.t 78) (.c (.p (.bool false))), [2, 9], none⟩,
   ⟨(some 80), .mv (.t 79), [10, 2], none⟩,
   ⟨(some 81), .mv (.t 8), [11], (some (11, true))⟩,
   ⟨(some 82), .iaddrS 16 (.t 81) (.c (.p (.int Go.IntKind.i64 0))), [12, 11], (some (11, true))⟩,
   ⟨(some 83), .faddr 14 (.t 82), [13, 11], (some (11, true))⟩,
   ⟨(some 84), .load none (.t 83), [14, 11], (some (11, true))⟩,
   ⟨(some 85), .bin Go.BinOp.eql .no (.t 84) (.c (.p (.int Go.IntKind.i64 5))), [15, 11], (some (11, true))⟩,
   ⟨(some 86), .pick (.t 80) (.t 85) (.c (.p (.bool false))), [11, 16], none⟩,
   ⟨(some 87), .mv (.t 86), [17, 11], none⟩,
   ⟨(some 88), .call 12 [], [18, 18], (some (18, true))⟩,
   ⟨(some 89), .pick (.t 87) (.t 88) (.c (.p (.bool false))), [18, 19], none⟩,
   ⟨(some 4), .asg (.t 89), [20, 19, 0, 1, 2, 3, 4, 5, 6, 7, 8, 9, 10, 11, 12, 13, 14, 15, 16, 17, 18, 19, 20], none⟩]
def vf4 : VFun where
  vars := [0, 1, 13, 14, 15, 33, 34, 42, 43, 44, 45, 46, 51, 52, 53, 54, 55, 56, 57, 60, 61, 62, 63, 64, 67, 72, 73, 74, 75, 76, 77, 78, 81, 82, 83, 84, 85, 88]
  boxes := [2, 3]
  mv := []
  res := [(.t 4)]
  body := (.seq (.region none vf4r0 [2, 3, 6, 8, 13, 14, 15, 22, 28, 33, 34, 42, 43, 44, 45, 46, 51, 52, 53, 54, 55, 56, 57, 60, 61, 62, 63, 64, 67, 72, 73, 74, 75, 76, 77, 78, 81, 82, 83, 84, 85, 88] [2, 3, 6, 8, 13, 14, 15, 22, 28, 33, 34, 42, 43, 44, 45, 46, 51, 52, 53, 54, 55, 56, 57, 60, 61, 62, 63, 64, 67, 72, 73, 74, 75, 76, 77, 78, 81, 82, 83, 84, 85, 88])
 (.seq (.seq (.region none vf4r1 [2, 3, 6, 8, 16, 22, 28, 33, 34, 42, 43, 44, 45, 46, 51, 52, 53, 54, 55, 56, 57, 60, 61, 62, 63, 64, 67, 72, 73, 74, 75, 76, 77, 78, 81, 82, 83, 84, 85, 88] [2, 3, 6, 8, 16, 22, 28, 33, 34, 42, 43, 44, 45, 46, 51, 52, 53, 54, 55, 56, 57, 60, 61, 62, 63, 64, 67, 72, 73, 74, 75, 76, 77, 78, 81, 82, 83, 84, 85, 88])
 (.cond (.t 16) (.seq (.region none vf4r2 [4, 17, 68, 89] [4, 17, 68, 89])
 .ret)
 .skip))
 (.seq (.region none vf4r3 [2, 3, 5, 6, 8, 18, 22, 28, 33, 34, 42, 43, 44, 45, 46, 51, 52, 53, 54, 55, 56, 57, 60, 61, 62, 63, 64, 67, 72, 73, 74, 75, 76, 77, 78, 81, 82, 83, 84, 85, 88] [2, 3, 5, 6, 8, 18, 22, 28, 33, 34, 42, 43, 44, 45, 46, 51, 52, 53, 54, 55, 56, 57, 60, 61, 62, 63, 64, 67, 72, 73, 74, 75, 76, 77, 78, 81, 82, 83, 84, 85, 88])
 (.seq (.region (some ([3, 7, 8, 9], (.one 0 (.one 1 (.one 2 (.alt 3 (.one 4 (.one 5 (.one 6 (.one 7 (.one 8 (.one 9 .fin)))))) (.alt 4 (.alt 3 (.one 5 (.one 6 (.one 7 (.one 8 (.one 9 .fin))))) (.alt 5 (.one 3 (.one 6 (.one 7 (.one 8 (.one 9 .fin))))) .fin)) (.alt 5 (.alt 3 (.one 4 (.one 6 (.one 7 (.one 8 (.one 9 .fin))))) (.alt 4 (.one 3 (.one 6 (.one 7 (.one 8 (.one 9 .fin))))) .fin)) .fin)))))))) vf4r4 [2, 3, 5, 6, 7, 8, 18, 22, 26, 28, 33, 34, 42, 43, 44, 45, 46, 51, 52, 53, 54, 55, 56, 57, 60, 61, 62, 63, 64, 67, 72, 73, 74, 75, 76, 77, 78, 81, 82, 83, 84, 85, 88] [2, 3, 5, 6, 7, 8, 18, 22, 26, 28, 33, 34, 42, 43, 44, 45, 46, 51, 52, 53, 54, 55, 56, 57, 60, 61, 62, 63, 64, 67, 72, 73, 74, 75, 76, 77, 78, 81, 82, 83, 84, 85, 88])
 (.seq (.region none vf4r5 [2, 3, 6, 7, 8, 22, 26, 28, 33, 34, 42, 43, 44, 45, 46, 51, 52, 53, 54, 55, 56, 57, 60, 61, 62, 63, 64, 67, 72, 73, 74, 75, 76, 77, 78, 81, 82, 83, 84, 85, 88] [2, 3, 6, 7, 8, 22, 26, 28, 33, 34, 42, 43, 44, 45, 46, 51, 52, 53, 54, 55, 56, 57, 60, 61, 62, 63, 64, 67, 72, 73, 74, 75, 76, 77, 78, 81, 82, 83, 84, 85, 88])
 (.seq (.seq (.region none vf4r6 [2, 3, 7, 8, 26, 28, 35, 42, 43, 44, 45, 46, 51, 52, 53, 54, 55, 56, 57, 60, 61, 62, 63, 64, 67, 72, 73, 74, 75, 76, 77, 78, 81, 82, 83, 84, 85, 88] [2, 3, 7, 8, 26, 28, 35, 42, 43, 44, 45, 46, 51, 52, 53, 54, 55, 56, 57, 60, 61, 62, 63, 64, 67, 72, 73, 74, 75, 76, 77, 78, 81, 82, 83, 84, 85, 88])
 (.cond (.t 35) (.seq (.region none vf4r7 [4, 17, 68, 89] [4, 17, 68, 89])
 .ret)
 .skip))
 (.seq (.seq (.region none vf4r8 [2, 3, 7, 8, 26, 28, 47, 51, 52, 53, 54, 55, 56, 57, 60, 61, 62, 63, 64, 67, 72, 73, 74, 75, 76, 77, 78, 81, 82, 83, 84, 85, 88] [2, 3, 7, 8, 26, 28, 47, 51, 52, 53, 54, 55, 56, 57, 60, 61, 62, 63, 64, 67, 72, 73, 74, 75, 76, 77, 78, 81, 82, 83, 84, 85, 88])
 (.cond (.t 47) (.seq (.region (some ([21], (.one 0 (.one 1 (.one 2 (.one 3 (.one 4 (.one 5 (.one 6 (.one 7 (.one 8 (.one 9 (.one 10 (.one 11 (.one 12 (.one 13 (.one 14 (.one 15 (.one 16 (.one 17 (.one 18 (.one 19 (.one 20 (.one 21 .fin)))))))))))))))))))))))) vf4r9 [4, 17, 68, 89] [4, 17, 68, 89])
 .ret)
 .skip))
 (.seq (.region (some ([21], (.one 0 (.one 1 (.one 2 (.one 3 (.one 4 (.one 5 (.one 6 (.one 7 (.one 8 (.one 9 (.one 10 (.one 11 (.one 12 (.one 13 (.one 14 (.one 15 (.one 16 (.one 17 (.one 18 (.one 19 (.one 20 (.one 21 .fin)))))))))))))))))))))))) vf4r10 [4, 17, 68, 89] [4, 17, 68, 89])
 .ret))))))))

def vf7r0 : List VOper :=
  [⟨(some 1), .box false 16 (.t 0), [], none⟩,
   ⟨(some 2), .asg (.c (.p (.bool false))), [], none⟩]
def vf7r1 : List VOper :=
  [⟨(some 3), .asg (.c .nilp), [], none⟩]
def vf7r2 : List VOper :=
  [⟨(some 7), .mv (.t 3), [], none⟩,
   ⟨(some 8), .faddr 0 (.t 1), [], none⟩,
   ⟨(some 9), .load none (.t 8), [1], none⟩,
   ⟨(some 10), .faddr 1 (.t 1), [], none⟩,
   ⟨(some 11), .load (some 7) (.t 10), [3], none⟩,
   ⟨(some 12), .call 13 [(.t 7), (.t 9), (.c (.p (.int Go.IntKind.i64 (-1)))), (.t 11), (.c (.p (.int Go.IntKind.i64 5)))], [0, 2, 4], none⟩,
   ⟨(some 6), .mv (.t 12), [5], none⟩,
   ⟨(some 13), .ext (.t 6) 0, [6], none⟩,
   ⟨(some 14), .ext (.t 6) 1, [6], none⟩,
   ⟨(some 4), .alloc false [(.int Go.IntKind.i64 0), (.int Go.IntKind.u64 0), (.int Go.IntKind.u64 0), (.int Go.IntKind.u32 0), (.int Go.IntKind.u32 0), (.int Go.IntKind.i64 0), (.int Go.IntKind.i64 0), (.int Go.IntKind.i64 0), (.bool false), (.bool false), (.int Go.IntKind.i64 0), (.int Go.IntKind.u32 0), (.int Go.IntKind.i64 0), (.int Go.IntKind.i64 0), (.int Go.IntKind.i64 0), (.int Go.IntKind.i64 0)], [], none⟩,
   ⟨none, .store 16 (.t 4) (.t 13), [9, 7, 5, 0, 1, 2, 3, 4, 5, 6, 7, 9], none⟩,
   ⟨(some 5), .asg (.t 14), [8, 10, 0, 1, 2, 3, 4, 5, 6, 7, 8, 9, 10], none⟩]
def vf7r3 : List VOper :=
  [⟨(some 15), .mv (.t 3), [], none⟩,
   ⟨(some 16), .load (some 16) (.t 1), [], none⟩,
   ⟨(some 17), .call 10 [(.t 16)], [1], none⟩,
   ⟨(some 18), .call 9 [(.t 15), (.t 17), (.c (.p (.int Go.IntKind.i64 5)))], [0, 2, 2], none⟩,
   ⟨(some 19), .bin Go.BinOp.eql .no (.t 18) (.c (.p (.int Go.IntKind.i64 11))), [3], none⟩,
   ⟨(some 20), .mv (.t 19), [4, 3], none⟩,
   ⟨(some 21), .mv (.t 5), [5], (some (5, true))⟩,
   ⟨(some 22), .un Go.UnOp.not (.t 21), [6, 5], (some (5, true))⟩,
   ⟨(some 23), .pick (.t 20) (.t 22) (.c (.p (.bool false))), [5, 7], none⟩,
   ⟨(some 24), .mv (.t 23), [8, 5], none⟩,
   ⟨(some 25), .mv (.t 3), [9], (some (9, true))⟩,
   ⟨(some 26), .call 16 [(.t 25), (.c (.p (.int Go.IntKind.i64 5)))], [10, 9, 9], (some (9, true))⟩,
   ⟨(some 27), .len false (.t 26), [11, 9], (some (9, true))⟩,
   ⟨(some 28), .bin Go.BinOp.eql .no (.t 27) (.c (.p (.int Go.IntKind.i64 0))), [12, 9], (some (9, true))⟩,
   ⟨(some 29), .pick (.t 24) (.t 28) (.c (.p (.bool false))), [9, 13], none⟩,
   ⟨(some 30), .mv (.t 29), [14, 11], none⟩,
   ⟨(some 31), .mv (.t 3), [15], (some (15, true))⟩,
   ⟨(some 32), .call 21 [(.t 31)], [16, 15, 15], (some (15, true))⟩,
   ⟨(some 33), .len false (.t 32), [17, 15], (some (15, true))⟩,
   ⟨(some 34), .bin Go.BinOp.eql .no (.t 33) (.c (.p (.int Go.IntKind.i64 0))), [18, 15], (some (15, true))⟩,
   ⟨(some 35), .pick (.t 30) (.t 34) (.c (.p (.bool false))), [15, 19], none⟩,
   ⟨(some 36), .mv (.t 35), [20, 17], none⟩,
   ⟨(some 37), .mv (.t 3), [21], (some (21, true))⟩,
   ⟨(some 38), .faddr 0 (.t 1), [21], (some (21, true))⟩,
   ⟨(some 39), .load none (.t 38), [23, 21], (some (21, true))⟩,
   ⟨(some 40), .call 22 [(.t 37), (.t 39)], [22, 24, 21, 21], (some (21, true))⟩,
   ⟨(some 41), .len false (.t 40), [25, 21], (some (21, true))⟩,
   ⟨(some 42), .bin Go.BinOp.eql .no (.t 41) (.c (.p (.int Go.IntKind.i64 0))), [26, 21], (some (21, true))⟩,
   ⟨(some 43), .pick (.t 36) (.t 42) (.c (.p (.bool false))), [21, 27], none⟩,
   ⟨(some 44), .mv (.t 43), [28, 25], none⟩,
   ⟨(some 45), .mv (.t 3), [29], (some (29, true))⟩,
   ⟨(some 46), .call 14 [(.t 45)], [30, 29, 29], (some (29, true))⟩,
   ⟨(some 47), .len false (.t 46), [31, 29], (some (29, true))⟩,
   ⟨(some 48), .bin Go.BinOp.eql .no (.t 47) (.c (.p (.int Go.IntKind.i64 0))), [32, 29], (some (29, true))⟩,
   ⟨(some 49), .pick (.t 44) (.t 48) (.c (.p (.bool false))), [29, 33], none⟩,
   ⟨(some 50), .mv (.t 49), [34, 31], none⟩,
   ⟨(some 51), .mv (.t 3), [35], (some (35, true))⟩,
   ⟨(some 52), .call 17 [(.t 51)], [36, 35, 35], (some (35, true))⟩,
   ⟨(some 53), .bin Go.BinOp.eql .no (.t 52) (.c (.p (.int Go.IntKind.i64 0))), [37, 35], (some (35, true))⟩,
   ⟨(some 54), .pick (.t 50) (.t 53) (.c (.p (.bool false))), [35, 38], none⟩,
   ⟨(some 55), .mv (.t 54), [39, 37], none⟩,
   ⟨(some 56), .call 12 [], [40, 40], (some (40, true))⟩,
   ⟨(some 57), .pick (.t 55) (.t 56) (.c (.p (.bool false))), [40, 41], none⟩,
   ⟨(some 2), .asg (.t 57), [42, 41, 0, 1, 2, 3, 4, 5, 6, 7, 8, 9, 10, 11, 12, 13, 14, 15, 16, 17, 18, 19, 20, 21, 22, 23, 24, 25, 26, 27, 28, 29, 30, 31, 32, 33, 34, 35, 36, 37, 38, 39, 40, 41, 42], none⟩]
def vf7 : VFun where
  vars := [0, 21, 22, 25, 26, 27, 28, 31, 32, 33, 34, 37, 38, 39, 40, 41, 42, 45, 46, 47, 48, 51, 52, 53, 56]
  boxes := [1, 4]
  mv := []
  res := [(.t 2)]
  body := (.seq (.region none vf7r0 [1, 3, 5, 14, 21, 22, 25, 26, 27, 28, 31, 32, 33, 34, 37, 38, 39, 40, 41, 42, 45, 46, 47, 48, 51, 52, 53, 56] [1, 3, 5, 14, 21, 22, 25, 26, 27, 28, 31, 32, 33, 34, 37, 38, 39, 40, 41, 42, 45, 46, 47, 48, 51, 52, 53, 56])
 (.seq (.region none vf7r1 [1, 3, 5, 14, 21, 22, 25, 26, 27, 28, 31, 32, 33, 34, 37, 38, 39, 40, 41, 42, 45, 46, 47, 48, 51, 52, 53, 56] [1, 3, 5, 14, 21, 22, 25, 26, 27, 28, 31, 32, 33, 34, 37, 38, 39, 40, 41, 42, 45, 46, 47, 48, 51, 52, 53, 56])
 (.seq (.region none vf7r2 [1, 3, 5, 14, 21, 22, 25, 26, 27, 28, 31, 32, 33, 34, 37, 38, 39, 40, 41, 42, 45, 46, 47, 48, 51, 52, 53, 56] [1, 3, 5, 14, 21, 22, 25, 26, 27, 28, 31, 32, 33, 34, 37, 38, 39, 40, 41, 42, 45, 46, 47, 48, 51, 52, 53, 56])
 (.seq (.region none vf7r3 [2, 57] [2, 57])
 .ret))))

def vf8r0 : List VOper :=
  [⟨(some 2), .asg (.c .nilp), [], none⟩]
def vf8r1 : List VOper :=
  [⟨(some 3), .mv (.t 0), [], none⟩,
   ⟨(some 4), .mnmx true [(.t 3), (.c (.p (.int Go.IntKind.i64 1)))], [0], none⟩,
   ⟨(some 5), .mnmx false [(.t 4), (.c (.p (.int Go.IntKind.i64 1024)))], [1], none⟩,
   ⟨(some 6), .call 23 [(.t 5)], [2], none⟩,
   ⟨(some 7), .build [.nilp] [(0, 1, (.t 6))], [3], none⟩,
   ⟨(some 8), .box true 1 (.t 7), [4], none⟩,
   ⟨(some 2), .asg (.t 8), [5, 3, 0, 1, 2, 3, 4, 5], none⟩]
def vf8 : VFun where
  vars := [0]
  boxes := []
  mv := []
  res := [(.t 2)]
  body := (.seq (.region none vf8r0 [0] [0])
 (.seq (.region none vf8r1 [2, 8] [2, 8])
 .ret))

def vf9r0 : List VOper :=
  [⟨(some 4), .box false 16 (.t 1), [], none⟩,
   ⟨(some 6), .asg (.c (.p (.int Go.IntKind.i64 0))), [], none⟩]
def vf9r1 : List VOper :=
  [⟨(some 8), .mv (.t 0), [], none⟩,
   ⟨(some 9), .bin Go.BinOp.eql .ptr (.t 8) (.c .nilp), [0], none⟩,
   ⟨(some 7), .asg (.t 9), [1], none⟩]
def vf9r2 : List VOper :=
  [⟨(some 6), .asg (.c (.p (.int Go.IntKind.i64 11))), [], none⟩]
def vf9r3 : List VOper :=
  [⟨(some 11), .load (some 16) (.t 4), [], none⟩,
   ⟨(some 12), .call 24 [(.t 11)], [0], none⟩,
   ⟨(some 13), .un Go.UnOp.not (.t 12), [1], none⟩,
   ⟨(some 10), .asg (.t 13), [2, 1], none⟩]
def vf9r4 : List VOper :=
  [⟨(some 6), .asg (.c (.p (.int Go.IntKind.i64 1))), [], none⟩]
def vf9r5 : List VOper :=
  [⟨(some 14), .mv (.t 2), [], none⟩,
   ⟨(some 15), .mv (.t 2), [], none⟩,
   ⟨(some 16), .faddr 14 (.t 4), [0], none⟩,
   ⟨none, .store 1 (.t 16) (.t 14), [2, 0, 0], none⟩,
   ⟨(some 17), .faddr 15 (.t 4), [0, 1, 2, 3], none⟩,
   ⟨none, .store 1 (.t 17) (.t 15), [4, 1, 3, 0, 1, 2, 3], none⟩]
def vf9r6 : List VOper :=
  [⟨(some 18), .mv (.t 0), [], none⟩,
   ⟨(some 19), .nilck (.t 18), [0], none⟩,
   ⟨(some 20), .faddr 0 (.t 19), [1], none⟩,
   ⟨(some 21), .load none (.t 20), [2], none⟩,
   ⟨(some 22), .faddr 0 (.t 4), [], none⟩,
   ⟨(some 23), .load none (.t 22), [4], none⟩,
   ⟨(some 24), .faddr 1 (.t 4), [], none⟩,
   ⟨(some 25), .load (some 7) (.t 24), [6], none⟩,
   ⟨(some 26), .call 26 [(.t 23), (.t 25)], [5, 7], none⟩,
   ⟨(some 27), .load (some 16) (.t 4), [], none⟩,
   ⟨(some 28), .call 25 [(.t 21), (.t 26), (.t 27)], [3, 8, 9, 8], none⟩,
   ⟨(some 6), .asg (.t 28), [10, 10, 0, 1, 2, 3, 4, 5, 6, 7, 8, 9, 10], none⟩]
def vf9 : VFun where
  vars := [0, 1, 2]
  boxes := [4]
  mv := []
  res := [(.t 6)]
  body := (.seq (.region none vf9r0 [0, 2, 4] [0, 2, 4])
 (.seq (.block 0 (.seq (.region none vf9r1 [0, 2, 4, 7, 9] [0, 2, 4, 7, 9])
 (.cond (.t 7) (.seq (.region none vf9r2 [6, 28] [6, 28])
 .ret)
 (.seq (.region none vf9r3 [0, 2, 4, 10, 13] [0, 2, 4, 10, 13])
 (.cond (.t 10) (.seq (.region none vf9r4 [6, 28] [6, 28])
 .ret)
 .skip)))))
 (.seq (.region none vf9r5 [0, 4] [0, 4])
 (.seq (.region (some ([10, 11], (.one 0 (.one 1 (.one 2 (.one 3 (.one 4 (.one 5 (.one 6 (.one 7 (.one 8 (.one 9 (.one 10 (.one 11 .fin)))))))))))))) vf9r6 [6, 28] [6, 28])
 .ret))))

def vf10r0 : List VOper :=
  [⟨(some 1), .box false 16 (.t 0), [], none⟩,
   ⟨(some 2), .alloc false [(.int Go.IntKind.i64 0), (.int Go.IntKind.u64 0), (.int Go.IntKind.u64 0), (.int Go.IntKind.u32 0), (.int Go.IntKind.u32 0), (.int Go.IntKind.i64 0), (.int Go.IntKind.i64 0), (.int Go.IntKind.i64 0), (.bool false), (.bool false), (.int Go.IntKind.i64 0), (.int Go.IntKind.u32 0), (.int Go.IntKind.i64 0), (.int Go.IntKind.i64 0), (.int Go.IntKind.i64 0), (.int Go.IntKind.i64 0)], [], none⟩]
def vf10r1 : List VOper :=
  [⟨(some 3), .faddr 0 (.t 1), [], none⟩,
   ⟨(some 4), .load none (.t 3), [0], none⟩,
   ⟨(some 5), .faddr 1 (.t 1), [], none⟩,
   ⟨(some 6), .load (some 7) (.t 5), [2], none⟩,
   ⟨(some 7), .faddr 8 (.t 1), [], none⟩,
   ⟨(some 8), .load none (.t 7), [4], none⟩,
   ⟨(some 9), .faddr 9 (.t 1), [], none⟩,
   ⟨(some 10), .load none (.t 9), [6], none⟩,
   ⟨(some 11), .faddr 10 (.t 1), [], none⟩,
   ⟨(some 12), .load none (.t 11), [8], none⟩,
   ⟨(some 13), .faddr 11 (.t 1), [], none⟩,
   ⟨(some 14), .load none (.t 13), [10], none⟩,
   ⟨(some 15), .faddr 12 (.t 1), [], none⟩,
   ⟨(some 16), .load none (.t 15), [12], none⟩,
   ⟨(some 17), .faddr 13 (.t 1), [], none⟩,
   ⟨(some 18), .load none (.t 17), [14], none⟩,
   ⟨(some 19), .faddr 14 (.t 1), [], none⟩,
   ⟨(some 20), .load none (.t 19), [16], none⟩,
   ⟨(some 21), .faddr 15 (.t 1), [], none⟩,
   ⟨(some 22), .load none (.t 21), [18], none⟩,
   ⟨(some 23), .build [(.p (.int Go.IntKind.i64 0)), (.p (.int Go.IntKind.u64 0)), (.p (.int Go.IntKind.u64 0)), (.p (.int Go.IntKind.u32 0)), (.p (.int Go.IntKind.u32 0)), (.p (.int Go.IntKind.i64 0)), (.p (.int Go.IntKind.i64 0)), (.p (.int Go.IntKind.i64 0)), (.p (.bool false)), (.p (.bool false)), (.p (.int Go.IntKind.i64 0)), (.p (.int Go.IntKind.u32 0)), (.p (.int Go.IntKind.i64 0)), (.p (.int Go.IntKind.i64 0)), (.p (.int Go.IntKind.i64 0)), (.p (.int Go.IntKind.i64 0))] [(0, 1, (.t 4)), (1, 7, (.t 6)), (8, 1, (.t 8)), (9, 1, (.t 10)), (10, 1, (.t 12)), (11, 1, (.t 14)), (12, 1, (.t 16)), (13, 1, (.t 18)), (14, 1, (.t 20)), (15, 1, (.t 22))], [1, 3, 5, 7, 9, 11, 13, 15, 17, 19], none⟩,
   ⟨none, .store 16 (.t 2) (.t 23), [20, 0, 1, 2, 3, 4, 5, 6, 7, 8, 9, 10, 11, 12, 13, 14, 15, 16, 17, 18, 19, 20], none⟩]
def vf10 : VFun where
  vars := [0]
  boxes := [1, 2]
  mv := []
  res := [(.cell 2 (some 16))]
  body := (.seq (.region none vf10r0 [1, 2] [1, 2])
 (.seq (.region none vf10r1 [2] [2])
 .ret))

def vf11r0 : List VOper :=
  [⟨(some 1), .box false 16 (.t 0), [], none⟩,
   ⟨(some 2), .asg (.c (.p (.bool false))), [], none⟩]
def vf11r1 : List VOper :=
  [⟨(some 3), .faddr 0 (.t 1), [], none⟩,
   ⟨(some 4), .load none (.t 3), [0], none⟩,
   ⟨(some 5), .bin Go.BinOp.geq .no (.t 4) (.c (.p (.int Go.IntKind.i64 1))), [1], none⟩,
   ⟨(some 6), .mv (.t 5), [2], none⟩,
   ⟨(some 7), .faddr 0 (.t 1), [3], (some (3, true))⟩,
   ⟨(some 8), .load none (.t 7), [4, 3], (some (3, true))⟩,
   ⟨(some 9), .bin Go.BinOp.leq .no (.t 8) (.c (.p (.int Go.IntKind.i64 8))), [5, 3], (some (3, true))⟩,
   ⟨(some 10), .pick (.t 6) (.t 9) (.c (.p (.bool false))), [3, 6], none⟩,
   ⟨(some 11), .mv (.t 10), [7, 3], none⟩,
   ⟨(some 12), .faddr 10 (.t 1), [8], (some (8, true))⟩,
   ⟨(some 13), .load none (.t 12), [9, 8], (some (8, true))⟩,
   ⟨(some 14), .bin Go.BinOp.geq .no (.t 13) (.c (.p (.int Go.IntKind.i64 1))), [10, 8], (some (8, true))⟩,
   ⟨(some 15), .pick (.t 11) (.t 14) (.c (.p (.bool false))), [8, 11], none⟩,
   ⟨(some 16), .mv (.t 15), [12, 8], none⟩,
   ⟨(some 17), .faddr 10 (.t 1), [13], (some (13, true))⟩,
   ⟨(some 18), .load none (.t 17), [14, 13], (some (13, true))⟩,
   ⟨(some 19), .bin Go.BinOp.leq .no (.t 18) (.c (.p (.int Go.IntKind.i64 8))), [15, 13], (some (13, true))⟩,
   ⟨(some 20), .pick (.t 16) (.t 19) (.c (.p (.bool false))), [13, 16], none⟩,
   ⟨(some 21), .mv (.t 20), [17, 13], none⟩,
   ⟨(some 22), .faddr 1 (.t 1), [18], (some (18, true))⟩,
   ⟨(some 23), .load (some 7) (.t 22), [19, 18], (some (18, true))⟩,
   ⟨(some 24), .call 27 [(.t 23)], [20, 18, 18], (some (18, true))⟩,
   ⟨(some 25), .pick (.t 21) (.t 24) (.c (.p (.bool false))), [18, 21], none⟩,
   ⟨(some 26), .mv (.t 25), [22, 21], none⟩,
   ⟨(some 27), .faddr 12 (.t 1), [23], (some (23, true))⟩,
   ⟨(some 28), .load none (.t 27), [24, 23], (some (23, true))⟩,
   ⟨(some 29), .bin Go.BinOp.geq .no (.t 28) (.c (.p (.int Go.IntKind.i64 0))), [25, 23], (some (23, true))⟩,
   ⟨(some 30), .pick (.t 26) (.t 29) (.c (.p (.bool false))), [23, 26], none⟩,
   ⟨(some 31), .mv (.t 30), [27, 23], none⟩,
   ⟨(some 32), .faddr 12 (.t 1), [28], (some (28, true))⟩,
   ⟨(some 33), .load none (.t 32), [29, 28], (some (28, true))⟩,
   ⟨(some 34), .bin Go.BinOp.lss .no (.t 33) (.c (.p (.int Go.IntKind.i64 65536))), [30, 28], (some (28, true))⟩,
   ⟨(some 35), .pick (.t 31) (.t 34) (.c (.p (.bool false))), [28, 31], none⟩,
   ⟨(some 36), .mv (.t 35), [32, 28], none⟩,
   ⟨(some 37), .faddr 13 (.t 1), [33], (some (33, true))⟩,
   ⟨(some 38), .load none (.t 37), [34, 33], (some (33, true))⟩,
   ⟨(some 39), .bin Go.BinOp.geq .no (.t 38) (.c (.p (.int Go.IntKind.i64 0))), [35, 33], (some (33, true))⟩,
   ⟨(some 40), .pick (.t 36) (.t 39) (.c (.p (.bool false))), [33, 36], none⟩,
   ⟨(some 41), .mv (.t 40), [37, 33], none⟩,
   ⟨(some 42), .faddr 13 (.t 1), [38], (some (38, true))⟩,
   ⟨(some 43), .load none (.t 42), [39, 38], (some (38, true))⟩,
   ⟨(some 44), .bin Go.BinOp.lss .no (.t 43) (.c (.p (.int Go.IntKind.i64 65536))), [40, 38], (some (38, true))⟩,
   ⟨(some 45), .pick (.t 41) (.t 44) (.c (.p (.bool false))), [38, 41], none⟩,
   ⟨(some 2), .asg (.t 45), [42, 38, 0, 1, 2, 3, 4, 5, 6, 7, 8, 9, 10, 11, 12, 13, 14, 15, 16, 17, 18, 19, 20, 21, 22, 23, 24, 25, 26, 27, 28, 29, 30, 31, 32, 33, 34, 35, 36, 37, 38, 39, 40, 41, 42], none⟩]
def vf11 : VFun where
  vars := [0, 7, 8, 9, 12, 13, 14, 17, 18, 19, 22, 23, 24, 27, 28, 29, 32, 33, 34, 37, 38, 39, 42, 43, 44]
  boxes := [1]
  mv := []
  res := [(.t 2)]
  body := (.seq (.region none vf11r0 [1, 7, 8, 9, 12, 13, 14, 17, 18, 19, 22, 23, 24, 27, 28, 29, 32, 33, 34, 37, 38, 39, 42, 43, 44] [1, 7, 8, 9, 12, 13, 14, 17, 18, 19, 22, 23, 24, 27, 28, 29, 32, 33, 34, 37, 38, 39, 42, 43, 44])
 (.seq (.region none vf11r1 [2, 45] [2, 45])
 .ret))

def vf12r0 : List VOper :=
  [⟨(some 0), .asg (.c (.p (.bool false))), [], none⟩]
def vf12r1 : List VOper :=
  [⟨(some 9), .call 8 [(.c (.p (.int Go.IntKind.i64 4)))], [], none⟩,
   ⟨(some 1), .asg (.t 9), [0, 0, 0], none⟩]
def vf12r2 : List VOper :=
  [⟨(some 10), .mv (.t 1), [], none⟩,
   ⟨(some 11), .call 28 [], [], none⟩,
   ⟨(some 12), .build [(.p (.int Go.IntKind.i64 0)), (.p (.int Go.IntKind.u64 0)), (.p (.int Go.IntKind.u64 0)), (.p (.int Go.IntKind.u32 0)), (.p (.int Go.IntKind.u32 0)), (.p (.int Go.IntKind.i64 0)), (.p (.int Go.IntKind.i64 0)), (.p (.int Go.IntKind.i64 0)), (.p (.bool false)), (.p (.bool false)), (.p (.int Go.IntKind.i64 0)), (.p (.int Go.IntKind.u32 0)), (.p (.int Go.IntKind.i64 0)), (.p (.int Go.IntKind.i64 0)), (.p (.int Go.IntKind.i64 0)), (.p (.int Go.IntKind.i64 0))] [(0, 1, (.c (.p (.int Go.IntKind.i64 1)))), (1, 7, (.t 11)), (8, 1, (.c (.p (.bool true)))), (10, 1, (.c (.p (.int Go.IntKind.i64 2)))), (12, 1, (.c (.p (.int Go.IntKind.i64 5))))], [1], none⟩,
   ⟨(some 13), .call 9 [(.t 10), (.t 12), (.c (.p (.int Go.IntKind.i64 10)))], [0, 2, 1], none⟩,
   ⟨(some 2), .asg (.t 13), [3, 3, 0, 1, 2, 3], none⟩]
def vf12r3 : List VOper :=
  [⟨(some 15), .mv (.t 1), [], none⟩,
   ⟨(some 16), .call 28 [], [], none⟩,
   ⟨(some 17), .call 13 [(.t 15), (.c (.p (.int Go.IntKind.i64 1))), (.c (.p (.int Go.IntKind.i64 (-1)))), (.t 16), (.c (.p (.int Go.IntKind.i64 14)))], [0, 1, 1], none⟩,
   ⟨(some 14), .mv (.t 17), [2], none⟩,
   ⟨(some 18), .ext (.t 14) 0, [3], none⟩,
   ⟨(some 19), .ext (.t 14) 1, [3], none⟩,
   ⟨(some 3), .alloc false [(.int Go.IntKind.i64 0), (.int Go.IntKind.u64 0), (.int Go.IntKind.u64 0), (.int Go.IntKind.u32 0), (.int Go.IntKind.u32 0), (.int Go.IntKind.i64 0), (.int Go.IntKind.i64 0), (.int Go.IntKind.i64 0), (.bool false), (.bool false), (.int Go.IntKind.i64 0), (.int Go.IntKind.u32 0), (.int Go.IntKind.i64 0), (.int Go.IntKind.i64 0), (.int Go.IntKind.i64 0), (.int Go.IntKind.i64 0)], [], none⟩,
   ⟨none, .store 16 (.t 3) (.t 18), [6, 4, 2, 0, 1, 2, 3, 4, 6], none⟩,
   ⟨(some 4), .asg (.t 19), [5, 7, 0, 1, 2, 3, 4, 5, 6, 7], none⟩]
def vf12r4 : List VOper :=
  [⟨(some 21), .mv (.t 1), [], none⟩,
   ⟨(some 22), .call 28 [], [], none⟩,
   ⟨(some 23), .call 13 [(.t 21), (.c (.p (.int Go.IntKind.i64 1))), (.c (.p (.int Go.IntKind.i64 (-1)))), (.t 22), (.c (.p (.int Go.IntKind.i64 19)))], [0, 1, 1], none⟩,
   ⟨(some 20), .mv (.t 23), [2], none⟩,
   ⟨(some 24), .ext (.t 20) 0, [3], none⟩,
   ⟨(some 25), .ext (.t 20) 1, [3], none⟩,
   ⟨(some 5), .alloc false [(.int Go.IntKind.i64 0), (.int Go.IntKind.u64 0), (.int Go.IntKind.u64 0), (.int Go.IntKind.u32 0), (.int Go.IntKind.u32 0), (.int Go.IntKind.i64 0), (.int Go.IntKind.i64 0), (.int Go.IntKind.i64 0), (.bool false), (.bool false), (.int Go.IntKind.i64 0), (.int Go.IntKind.u32 0), (.int Go.IntKind.i64 0), (.int Go.IntKind.i64 0), (.int Go.IntKind.i64 0), (.int Go.IntKind.i64 0)], [], none⟩,
   ⟨none, .store 16 (.t 5) (.t 24), [6, 4, 2, 0, 1, 2, 3, 4, 6], none⟩,
   ⟨(some 6), .asg (.t 25), [5, 7, 0, 1, 2, 3, 4, 5, 6, 7], none⟩]
def vf12r5 : List VOper :=
  [⟨(some 27), .mv (.t 1), [], none⟩,
   ⟨(some 28), .call 28 [], [], none⟩,
   ⟨(some 29), .call 13 [(.t 27), (.c (.p (.int Go.IntKind.i64 1))), (.c (.p (.int Go.IntKind.i64 0))), (.t 28), (.c (.p (.int Go.IntKind.i64 14)))], [0, 1, 1], none⟩,
   ⟨(some 26), .mv (.t 29), [2], none⟩,
   ⟨(some 30), .ext (.t 26) 0, [3], none⟩,
   ⟨(some 31), .ext (.t 26) 1, [3], none⟩,
   ⟨(some 7), .alloc false [(.int Go.IntKind.i64 0), (.int Go.IntKind.u64 0), (.int Go.IntKind.u64 0), (.int Go.IntKind.u32 0), (.int Go.IntKind.u32 0), (.int Go.IntKind.i64 0), (.int Go.IntKind.i64 0), (.int Go.IntKind.i64 0), (.bool false), (.bool false), (.int Go.IntKind.i64 0), (.int Go.IntKind.u32 0), (.int Go.IntKind.i64 0), (.int Go.IntKind.i64 0), (.int Go.IntKind.i64 0), (.int Go.IntKind.i64 0)], [], none⟩,
   ⟨none, .store 16 (.t 7) (.t 30), [6, 4, 2, 0, 1, 2, 3, 4, 6], none⟩,
   ⟨(some 8), .asg (.t 31), [5, 7, 0, 1, 2, 3, 4, 5, 6, 7], none⟩]
def vf12r6 : List VOper :=
  [⟨(some 32), .mv (.t 2), [], none⟩,
   ⟨(some 33), .bin Go.BinOp.eql .no (.t 32) (.c (.p (.int Go.IntKind.i64 0))), [0], none⟩,
   ⟨(some 34), .mv (.t 33), [1], none⟩,
   ⟨(some 35), .mv (.t 4), [2], (some (2, true))⟩,
   ⟨(some 36), .pick (.t 34) (.t 35) (.c (.p (.bool false))), [2, 3], none⟩,
   ⟨(some 37), .mv (.t 36), [4, 2], none⟩,
   ⟨(some 38), .mv (.t 6), [5], (some (5, true))⟩,
   ⟨(some 39), .un Go.UnOp.not (.t 38), [6, 5], (some (5, true))⟩,
   ⟨(some 40), .pick (.t 37) (.t 39) (.c (.p (.bool false))), [5, 7], none⟩,
   ⟨(some 41), .mv (.t 40), [8, 5], none⟩,
   ⟨(some 42), .mv (.t 8), [9], (some (9, true))⟩,
   ⟨(some 43), .un Go.UnOp.not (.t 42), [10, 9], (some (9, true))⟩,
   ⟨(some 44), .pick (.t 41) (.t 43) (.c (.p (.bool false))), [9, 11], none⟩,
   ⟨(some 45), .mv (.t 44), [12, 9], none⟩,
   ⟨(some 46), .mv (.t 1), [13], (some (13, true))⟩,
   ⟨(some 47), .call 17 [(.t 46)], [14, 13, 13], (some (13, true))⟩,
   ⟨(some 48), .bin Go.BinOp.eql .no (.t 47) (.c (.p (.int Go.IntKind.i64 1))), [15, 13], (some (13, true))⟩,
   ⟨(some 49), .pick (.t 45) (.t 48) (.c (.p (.bool false))), [13, 16], none⟩,
   ⟨(some 0), .asg (.t 49), [17, 15, 0, 1, 2, 3, 4, 5, 6, 7, 8, 9, 10, 11, 12, 13, 14, 15, 16, 17], none⟩]
def vf12 : VFun where
  vars := [35, 38, 39, 42, 43, 46, 47, 48]
  boxes := [3, 5, 7]
  mv := []
  res := [(.t 0)]
  body := (.seq (.region none vf12r0 [1, 4, 6, 8, 9, 19, 25, 31, 35, 38, 39, 42, 43, 46, 47, 48] [1, 4, 6, 8, 9, 19, 25, 31, 35, 38, 39, 42, 43, 46, 47, 48])
 (.seq (.region none vf12r1 [1, 4, 6, 8, 9, 19, 25, 31, 35, 38, 39, 42, 43, 46, 47, 48] [1, 4, 6, 8, 9, 19, 25, 31, 35, 38, 39, 42, 43, 46, 47, 48])
 (.seq (.region none vf12r2 [1, 2, 4, 6, 8, 9, 13, 19, 25, 31, 35, 38, 39, 42, 43, 46, 47, 48] [1, 2, 4, 6, 8, 9, 13, 19, 25, 31, 35, 38, 39, 42, 43, 46, 47, 48])
 (.seq (.region none vf12r3 [1, 2, 4, 6, 8, 9, 13, 19, 25, 31, 35, 38, 39, 42, 43, 46, 47, 48] [1, 2, 4, 6, 8, 9, 13, 19, 25, 31, 35, 38, 39, 42, 43, 46, 47, 48])
 (.seq (.region none vf12r4 [1, 2, 4, 6, 8, 9, 13, 19, 25, 31, 35, 38, 39, 42, 43, 46, 47, 48] [1, 2, 4, 6, 8, 9, 13, 19, 25, 31, 35, 38, 39, 42, 43, 46, 47, 48])
 (.seq (.region none vf12r5 [1, 2, 4, 6, 8, 9, 13, 19, 25, 31, 35, 38, 39, 42, 43, 46, 47, 48] [1, 2, 4, 6, 8, 9, 13, 19, 25, 31, 35, 38, 39, 42, 43, 46, 47, 48])
 (.seq (.region none vf12r6 [0, 49] [0, 49])
 .ret)))))))

def vf13r0 : List VOper :=
  [⟨(some 8), .box false 7 (.t 3), [], none⟩,
   ⟨(some 10), .alloc false [(.int Go.IntKind.i64 0), (.int Go.IntKind.u64 0), (.int Go.IntKind.u64 0), (.int Go.IntKind.u32 0), (.int Go.IntKind.u32 0), (.int Go.IntKind.i64 0), (.int Go.IntKind.i64 0), (.int Go.IntKind.i64 0), (.bool false), (.bool false), (.int Go.IntKind.i64 0), (.int Go.IntKind.u32 0), (.int Go.IntKind.i64 0), (.int Go.IntKind.i64 0), (.int Go.IntKind.i64 0), (.int Go.IntKind.i64 0)], [], none⟩,
   ⟨(some 11), .asg (.c (.p (.bool false))), [], none⟩]
def vf13r1 : List VOper :=
  [⟨(some 14), .mv (.t 0), [], none⟩,
   ⟨(some 15), .bin Go.BinOp.eql .ptr (.t 14) (.c .nilp), [0], none⟩,
   ⟨(some 16), .mv (.t 15), [1], none⟩,
   ⟨(some 17), .mv (.t 1), [2], (some (2, false))⟩,
   ⟨(some 18), .call 29 [(.t 17), (.c (.p (.int Go.IntKind.i64 1))), (.c (.p (.int Go.IntKind.i64 8)))], [3, 2, 2], (some (2, false))⟩,
   ⟨(some 19), .un Go.UnOp.not (.t 18), [4, 2], (some (2, false))⟩,
   ⟨(some 20), .pick (.t 16) (.c (.p (.bool true))) (.t 19), [2, 5], none⟩,
   ⟨(some 21), .mv (.t 20), [6, 4], none⟩,
   ⟨(some 22), .load (some 7) (.t 8), [7], (some (7, false))⟩,
   ⟨(some 23), .call 30 [(.t 22)], [8, 7, 7], (some (7, false))⟩,
   ⟨(some 24), .un Go.UnOp.not (.t 23), [9, 7], (some (7, false))⟩,
   ⟨(some 25), .pick (.t 21) (.c (.p (.bool true))) (.t 24), [7, 10], none⟩]
def vf13r2 : List VOper :=
  [⟨(some 26), .build [(.p (.int Go.IntKind.i64 0)), (.p (.int Go.IntKind.u64 0)), (.p (.int Go.IntKind.u64 0)), (.p (.int Go.IntKind.u32 0)), (.p (.int Go.IntKind.u32 0)), (.p (.int Go.IntKind.i64 0)), (.p (.int Go.IntKind.i64 0)), (.p (.int Go.IntKind.i64 0)), (.p (.bool false)), (.p (.bool false)), (.p (.int Go.IntKind.i64 0)), (.p (.int Go.IntKind.u32 0)), (.p (.int Go.IntKind.i64 0)), (.p (.int Go.IntKind.i64 0)), (.p (.int Go.IntKind.i64 0)), (.p (.int Go.IntKind.i64 0))] [], [], none⟩,
   ⟨none, .store 16 (.t 10) (.t 26), [0, 0], none⟩,
   ⟨(some 11), .asg (.c (.p (.bool false))), [1, 0, 1], none⟩]
def vf13r3 : List VOper :=
  [⟨(some 28), .mv (.t 0), [], none⟩,
   ⟨(some 29), .nilck (.t 28), [0], none⟩,
   ⟨(some 30), .faddr 0 (.t 29), [1], none⟩,
   ⟨(some 31), .load none (.t 30), [2], none⟩,
   ⟨(some 32), .mv (.t 1), [], none⟩,
   ⟨(some 33), .load (some 7) (.t 8), [], none⟩,
   ⟨(some 34), .call 26 [(.t 32), (.t 33)], [4, 5], none⟩,
   ⟨(some 35), .call 31 [(.t 31), (.t 34)], [3, 6, 6], none⟩,
   ⟨(some 27), .mv (.t 35), [7], none⟩,
   ⟨(some 36), .ext (.t 27) 0, [8], none⟩,
   ⟨(some 37), .ext (.t 27) 1, [8], none⟩,
   ⟨(some 12), .alloc false [(.int Go.IntKind.i64 0), (.int Go.IntKind.u64 0), (.int Go.IntKind.u64 0), (.int Go.IntKind.u32 0), (.int Go.IntKind.u32 0), (.int Go.IntKind.i64 0), (.int Go.IntKind.i64 0), (.int Go.IntKind.i64 0), (.bool false), (.bool false), (.int Go.IntKind.i64 0), (.int Go.IntKind.u32 0), (.int Go.IntKind.i64 0), (.int Go.IntKind.i64 0), (.int Go.IntKind.i64 0), (.int Go.IntKind.i64 0)], [], none⟩,
   ⟨none, .store 16 (.t 12) (.t 36), [11, 9, 7, 0, 1, 2, 3, 4, 5, 6, 7, 8, 9, 11], none⟩,
   ⟨(some 13), .asg (.t 37), [10, 12, 0, 1, 2, 3, 4, 5, 6, 7, 8, 9, 10, 11, 12], none⟩]
def vf13r4 : List VOper :=
  [⟨(some 38), .mv (.t 13), [], none⟩,
   ⟨(some 39), .un Go.UnOp.not (.t 38), [0], none⟩,
   ⟨(some 40), .mv (.t 39), [1], none⟩,
   ⟨(some 41), .load (some 16) (.t 12), [2], (some (2, false))⟩,
   ⟨(some 42), .mv (.t 4), [2], (some (2, false))⟩,
   ⟨(some 43), .call 32 [(.t 41), (.t 42)], [3, 4, 2, 2], (some (2, false))⟩,
   ⟨(some 44), .pick (.t 40) (.c (.p (.bool true))) (.t 43), [2, 5], none⟩,
   ⟨(some 45), .mv (.t 44), [6, 5], none⟩,
   ⟨(some 46), .load (some 16) (.t 12), [7], (some (7, false))⟩,
   ⟨(some 47), .mv (.t 2), [7], (some (7, false))⟩,
   ⟨(some 48), .call 33 [(.t 46), (.t 47)], [8, 9, 7, 7], (some (7, false))⟩,
   ⟨(some 49), .un Go.UnOp.not (.t 48), [10, 7], (some (7, false))⟩,
   ⟨(some 50), .pick (.t 45) (.c (.p (.bool true))) (.t 49), [7, 11], none⟩]
def vf13r5 : List VOper :=
  [⟨(some 51), .build [(.p (.int Go.IntKind.i64 0)), (.p (.int Go.IntKind.u64 0)), (.p (.int Go.IntKind.u64 0)), (.p (.int Go.IntKind.u32 0)), (.p (.int Go.IntKind.u32 0)), (.p (.int Go.IntKind.i64 0)), (.p (.int Go.IntKind.i64 0)), (.p (.int Go.IntKind.i64 0)), (.p (.bool false)), (.p (.bool false)), (.p (.int Go.IntKind.i64 0)), (.p (.int Go.IntKind.u32 0)), (.p (.int Go.IntKind.i64 0)), (.p (.int Go.IntKind.i64 0)), (.p (.int Go.IntKind.i64 0)), (.p (.int Go.IntKind.i64 0))] [], [], none⟩,
   ⟨none, .store 16 (.t 10) (.t 51), [0, 0], none⟩,
   ⟨(some 11), .asg (.c (.p (.bool false))), [1, 0, 1], none⟩]
def vf13r6 : List VOper :=
  [⟨(some 52), .mv (.t 4), [], none⟩,
   ⟨(some 53), .faddr 15 (.t 12), [0], none⟩,
   ⟨none, .store 1 (.t 53) (.t 52), [1, 0, 0], none⟩]
def vf13r7 : List VOper :=
  [⟨(some 54), .mv (.t 0), [], none⟩,
   ⟨(some 55), .nilck (.t 54), [0], none⟩,
   ⟨(some 56), .faddr 0 (.t 55), [1], none⟩,
   ⟨(some 57), .load none (.t 56), [2], none⟩,
   ⟨(some 58), .mv (.t 1), [], none⟩,
   ⟨(some 59), .load (some 7) (.t 8), [], none⟩,
   ⟨(some 60), .call 26 [(.t 58), (.t 59)], [4, 5], none⟩,
   ⟨(some 61), .load (some 16) (.t 12), [], none⟩,
   ⟨(some 62), .call 25 [(.t 57), (.t 60), (.t 61)], [3, 6, 7, 6], none⟩]
def vf13r8 : List VOper :=
  [⟨(some 63), .load (some 16) (.t 12), [], none⟩,
   ⟨none, .store 16 (.t 10) (.t 63), [0, 0], none⟩,
   ⟨(some 11), .asg (.c (.p (.bool true))), [1, 0, 1], none⟩]
def vf13 : VFun where
  vars := [0, 1, 2, 3, 4, 17, 18, 19, 22, 23, 24, 41, 42, 43, 46, 47, 48, 49]
  boxes := [8, 10, 12]
  mv := []
  res := [(.cell 10 (some 16)), (.t 11)]
  body := (.seq (.region none vf13r0 [0, 1, 2, 4, 8, 10, 17, 18, 19, 22, 23, 24, 41, 42, 43, 46, 47, 48, 49] [0, 1, 2, 4, 8, 10, 17, 18, 19, 22, 23, 24, 41, 42, 43, 46, 47, 48, 49])
 (.seq (.seq (.region none vf13r1 [0, 1, 2, 4, 8, 10, 25, 41, 42, 43, 46, 47, 48, 49] [0, 1, 2, 4, 8, 10, 25, 41, 42, 43, 46, 47, 48, 49])
 (.cond (.t 25) (.seq (.region none vf13r2 [10, 11] [10, 11])
 .ret)
 .skip))
 (.seq (.region (some ([11, 12, 13], (.one 0 (.one 1 (.one 2 (.one 3 (.one 4 (.one 5 (.one 6 (.one 7 (.one 8 (.one 9 (.alt 10 (.one 11 (.one 12 (.one 13 .fin))) (.alt 11 (.alt 10 (.one 12 (.one 13 .fin)) (.alt 12 (.one 10 (.one 13 .fin)) .fin)) .fin)))))))))))))) vf13r3 [0, 1, 2, 4, 8, 10, 12, 13, 37, 41, 42, 43, 46, 47, 48, 49] [0, 1, 2, 4, 8, 10, 12, 13, 37, 41, 42, 43, 46, 47, 48, 49])
 (.seq (.seq (.region none vf13r4 [0, 1, 4, 8, 10, 12, 50] [0, 1, 4, 8, 10, 12, 50])
 (.cond (.t 50) (.seq (.region none vf13r5 [10, 11] [10, 11])
 .ret)
 .skip))
 (.seq (.region none vf13r6 [0, 1, 8, 10, 12] [0, 1, 8, 10, 12])
 (.seq (.region (some ([8], (.one 0 (.one 1 (.one 2 (.one 3 (.one 4 (.one 5 (.one 6 (.one 7 (.one 8 .fin))))))))))) vf13r7 [10, 12] [10, 12])
 (.seq (.region none vf13r8 [10, 11] [10, 11])
 .ret)))))))

def vf14r0 : List VOper :=
  [⟨(some 2), .asg (.c (.p .nils)), [], none⟩]
def vf14r1 : List VOper :=
  [⟨(some 3), .mv (.t 0), [], none⟩,
   ⟨(some 4), .bin Go.BinOp.eql .ptr (.t 3) (.c .nilp), [0], none⟩]
def vf14r2 : List VOper :=
  [⟨(some 2), .asg (.c (.p .nils)), [], none⟩]
def vf14r3 : List VOper :=
  [⟨(some 5), .mv (.t 0), [], none⟩,
   ⟨(some 6), .nilck (.t 5), [0], none⟩,
   ⟨(some 7), .faddr 0 (.t 6), [1], none⟩,
   ⟨(some 8), .load none (.t 7), [2], none⟩,
   ⟨(some 9), .call 34 [(.t 8)], [3], none⟩,
   ⟨(some 2), .asg (.t 9), [4, 4, 0, 1, 2, 3, 4], none⟩]
def vf14 : VFun where
  vars := [0]
  boxes := []
  mv := []
  res := [(.t 2)]
  body := (.seq (.region none vf14r0 [0] [0])
 (.seq (.seq (.region none vf14r1 [0, 4] [0, 4])
 (.cond (.t 4) (.seq (.region none vf14r2 [2, 9] [2, 9])
 .ret)
 .skip))
 (.seq (.region none vf14r3 [2, 9] [2, 9])
 .ret)))

def vf16r0 : List VOper :=
  [⟨(some 3), .box false 1 (.t 1), [], none⟩,
   ⟨(some 4), .asg (.c (.p .nils)), [], none⟩]
def vf16r1 : List VOper :=
  [⟨(some 5), .mv (.t 0), [], none⟩,
   ⟨(some 6), .mkfn 37 [(.t 3)], [], none⟩,
   ⟨(some 7), .call 36 [(.t 5), (.t 6)], [0, 1], none⟩,
   ⟨(some 4), .asg (.t 7), [2, 2, 0, 1, 2], none⟩]
def vf16 : VFun where
  vars := [0, 1]
  boxes := [3]
  mv := []
  res := [(.t 4)]
  body := (.seq (.region none vf16r0 [0, 3] [0, 3])
 (.seq (.region none vf16r1 [4, 7] [3, 4, 7])
 .ret))

def vf17r0 : List VOper :=
  [⟨(some 2), .asg (.c (.p (.int Go.IntKind.i64 0))), [], none⟩]
def vf17r1 : List VOper :=
  [⟨(some 3), .mv (.t 0), [], none⟩,
   ⟨(some 4), .bin Go.BinOp.eql .ptr (.t 3) (.c .nilp), [0], none⟩]
def vf17r2 : List VOper :=
  [⟨(some 2), .asg (.c (.p (.int Go.IntKind.i64 0))), [], none⟩]
def vf17r3 : List VOper :=
  [⟨(some 5), .mv (.t 0), [], none⟩,
   ⟨(some 6), .nilck (.t 5), [0], none⟩,
   ⟨(some 7), .faddr 0 (.t 6), [1], none⟩,
   ⟨(some 8), .load none (.t 7), [2], none⟩,
   ⟨(some 9), .call 38 [(.t 8)], [3], none⟩,
   ⟨(some 2), .asg (.t 9), [4, 4, 0, 1, 2, 3, 4], none⟩]
def vf17 : VFun where
  vars := [0]
  boxes := []
  mv := []
  res := [(.t 2)]
  body := (.seq (.region none vf17r0 [0] [0])
 (.seq (.seq (.region none vf17r1 [0, 4] [0, 4])
 (.cond (.t 4) (.seq (.region none vf17r2 [2, 9] [2, 9])
 .ret)
 .skip))
 (.seq (.region none vf17r3 [2, 9] [2, 9])
 .ret)))

def vf21r0 : List VOper :=
  [⟨(some 2), .asg (.c (.p .nils)), [], none⟩]
def vf21r1 : List VOper :=
  [⟨(some 3), .mv (.t 0), [], none⟩,
   ⟨(some 4), .call 36 [(.t 3), (.c (.fn 42 []))], [0], none⟩,
   ⟨(some 2), .asg (.t 4), [1, 1, 0, 1], none⟩]
def vf21 : VFun where
  vars := [0]
  boxes := []
  mv := []
  res := [(.t 2)]
  body := (.seq (.region none vf21r0 [0] [0])
 (.seq (.region none vf21r1 [2, 4] [2, 4])
 .ret))

def vf22r0 : List VOper :=
  [⟨(some 3), .box false 1 (.t 1), [], none⟩,
   ⟨(some 4), .asg (.c (.p .nils)), [], none⟩]
def vf22r1 : List VOper :=
  [⟨(some 5), .mv (.t 0), [], none⟩,
   ⟨(some 6), .mkfn 43 [(.t 3)], [], none⟩,
   ⟨(some 7), .call 36 [(.t 5), (.t 6)], [0, 1], none⟩,
   ⟨(some 4), .asg (.t 7), [2, 2, 0, 1, 2], none⟩]
def vf22 : VFun where
  vars := [0, 1]
  boxes := [3]
  mv := []
  res := [(.t 4)]
  body := (.seq (.region none vf22r0 [0, 3] [0, 3])
 (.seq (.region none vf22r1 [4, 7] [3, 4, 7])
 .ret))

def vf23r0 : List VOper :=
  [⟨(some 2), .asg (.c .nilp), [], none⟩]
def vf23r1 : List VOper :=
  [⟨(some 3), .mv (.t 0), [], none⟩,
   ⟨(some 4), .mnmx true [(.t 3), (.c (.p (.int Go.IntKind.i64 0)))], [0], none⟩,
   ⟨(some 5), .build [(.p .nils), (.p (.int Go.IntKind.i64 0))] [(1, 1, (.t 4))], [1], none⟩,
   ⟨(some 6), .box true 2 (.t 5), [2], none⟩,
   ⟨(some 2), .asg (.t 6), [3, 0, 1, 2, 3], none⟩]
def vf23 : VFun where
  vars := [0]
  boxes := []
  mv := []
  res := [(.t 2)]
  body := (.seq (.region none vf23r0 [0] [0])
 (.seq (.region none vf23r1 [2, 6] [2, 6])
 .ret))

def vf24r0 : List VOper :=
  [⟨(some 1), .box false 16 (.t 0), [], none⟩,
   ⟨(some 2), .asg (.c (.p (.bool false))), [], none⟩]
def vf24r1 : List VOper :=
  [⟨(some 3), .faddr 0 (.t 1), [], none⟩,
   ⟨(some 4), .load none (.t 3), [0], none⟩,
   ⟨(some 5), .call 29 [(.t 4), (.c (.p (.int Go.IntKind.i64 1))), (.c (.p (.int Go.IntKind.i64 8)))], [1], none⟩,
   ⟨(some 6), .mv (.t 5), [2, 2], none⟩,
   ⟨(some 7), .faddr 10 (.t 1), [3], (some (3, true))⟩,
   ⟨(some 8), .load none (.t 7), [4, 3], (some (3, true))⟩,
   ⟨(some 9), .call 29 [(.t 8), (.c (.p (.int Go.IntKind.i64 1))), (.c (.p (.int Go.IntKind.i64 8)))], [5, 3, 3], (some (3, true))⟩,
   ⟨(some 10), .pick (.t 6) (.t 9) (.c (.p (.bool false))), [3, 6], none⟩,
   ⟨(some 11), .mv (.t 10), [7, 6], none⟩,
   ⟨(some 12), .faddr 1 (.t 1), [8], (some (8, true))⟩,
   ⟨(some 13), .load (some 7) (.t 12), [9, 8], (some (8, true))⟩,
   ⟨(some 14), .call 30 [(.t 13)], [10, 8, 8], (some (8, true))⟩,
   ⟨(some 15), .pick (.t 11) (.t 14) (.c (.p (.bool false))), [8, 11], none⟩,
   ⟨(some 16), .mv (.t 15), [12, 11], none⟩,
   ⟨(some 17), .faddr 12 (.t 1), [13], (some (13, true))⟩,
   ⟨(some 18), .load none (.t 17), [14, 13], (some (13, true))⟩,
   ⟨(some 19), .call 29 [(.t 18), (.c (.p (.int Go.IntKind.i64 0))), (.c (.p (.int Go.IntKind.i64 65535)))], [15, 13, 13], (some (13, true))⟩,
   ⟨(some 20), .pick (.t 16) (.t 19) (.c (.p (.bool false))), [13, 16], none⟩,
   ⟨(some 21), .mv (.t 20), [17, 16], none⟩,
   ⟨(some 22), .faddr 13 (.t 1), [18], (some (18, true))⟩,
   ⟨(some 23), .load none (.t 22), [19, 18], (some (18, true))⟩,
   ⟨(some 24), .call 29 [(.t 23), (.c (.p (.int Go.IntKind.i64 0))), (.c (.p (.int Go.IntKind.i64 65535)))], [20, 18, 18], (some (18, true))⟩,
   ⟨(some 25), .pick (.t 21) (.t 24) (.c (.p (.bool false))), [18, 21], none⟩,
   ⟨(some 2), .asg (.t 25), [22, 21, 0, 1, 2, 3, 4, 5, 6, 7, 8, 9, 10, 11, 12, 13, 14, 15, 16, 17, 18, 19, 20, 21, 22], none⟩]
def vf24 : VFun where
  vars := [0, 7, 8, 9, 12, 13, 14, 17, 18, 19, 22, 23, 24]
  boxes := [1]
  mv := []
  res := [(.t 2)]
  body := (.seq (.region none vf24r0 [1, 7, 8, 9, 12, 13, 14, 17, 18, 19, 22, 23, 24] [1, 7, 8, 9, 12, 13, 14, 17, 18, 19, 22, 23, 24])
 (.seq (.region none vf24r1 [2, 25] [2, 25])
 .ret))

def vf25r0 : List VOper :=
  [⟨(some 5), .box false 16 (.t 2), [], none⟩,
   ⟨(some 6), .asg (.c (.p (.int Go.IntKind.i64 0))), [], none⟩]
def vf25r1 : List VOper :=
  [⟨(some 9), .mv (.t 0), [], none⟩,
   ⟨(some 10), .bin Go.BinOp.eql .ptr (.t 9) (.c .nilp), [0], none⟩]
def vf25r2 : List VOper :=
  [⟨(some 6), .asg (.c (.p (.int Go.IntKind.i64 11))), [], none⟩]
def vf25r3 : List VOper :=
  [⟨(some 12), .mv (.t 0), [], none⟩,
   ⟨(some 13), .mv (.t 1), [], none⟩,
   ⟨(some 14), .call 44 [(.t 12), (.t 13)], [0, 1], none⟩,
   ⟨(some 11), .mv (.t 14), [2], none⟩,
   ⟨(some 15), .ext (.t 11) 0, [3], none⟩,
   ⟨(some 16), .ext (.t 11) 1, [3], none⟩,
   ⟨(some 7), .asg (.t 15), [4, 2, 0, 1, 2, 3, 4], none⟩,
   ⟨(some 8), .asg (.t 16), [5, 6, 0, 1, 2, 3, 4, 5, 6], none⟩]
def vf25r4 : List VOper :=
  [⟨(some 31), .mv (.t 8), [], none⟩,
   ⟨(some 30), .asg (.t 31), [0], none⟩]
def vf25r5 : List VOper :=
  [⟨(some 32), .mv (.t 0), [], none⟩,
   ⟨(some 33), .nilck (.t 32), [0], none⟩,
   ⟨(some 34), .faddr 0 (.t 33), [1], none⟩,
   ⟨(some 35), .load none (.t 34), [2], none⟩,
   ⟨(some 36), .mv (.t 7), [], none⟩,
   ⟨(some 37), .load (some 16) (.t 5), [], none⟩,
   ⟨(some 38), .iaddrS 17 (.t 35) (.t 36), [3, 4, 0, 1, 2, 3, 4, 5], none⟩,
   ⟨(some 39), .faddr 1 (.t 38), [6, 0, 1, 2, 3, 4, 5], none⟩,
   ⟨none, .store 16 (.t 39) (.t 37), [7, 5, 0, 1, 2, 3, 4, 5], none⟩]
def vf25r6 : List VOper :=
  [⟨(some 41), .mv (.t 0), [], none⟩,
   ⟨(some 42), .nilck (.t 41), [0], none⟩,
   ⟨(some 43), .faddr 0 (.t 42), [1], none⟩,
   ⟨(some 44), .load none (.t 43), [2], none⟩,
   ⟨(some 45), .len false (.t 44), [3], none⟩,
   ⟨(some 46), .mv (.t 0), [], none⟩,
   ⟨(some 47), .nilck (.t 46), [5], none⟩,
   ⟨(some 48), .faddr 1 (.t 47), [6], none⟩,
   ⟨(some 49), .load none (.t 48), [7], none⟩,
   ⟨(some 50), .bin Go.BinOp.geq .no (.t 45) (.t 49), [4, 8], none⟩,
   ⟨(some 40), .asg (.t 50), [9], none⟩]
def vf25r7 : List VOper :=
  [⟨(some 6), .asg (.c (.p (.int Go.IntKind.i64 4))), [], none⟩]
def vf25r8 : List VOper :=
  [⟨(some 17), .mv (.t 0), [], none⟩,
   ⟨(some 18), .mv (.t 0), [], none⟩,
   ⟨(some 19), .nilck (.t 18), [1], none⟩,
   ⟨(some 20), .faddr 0 (.t 19), [2], none⟩,
   ⟨(some 21), .load none (.t 20), [3], none⟩,
   ⟨(some 22), .mv (.t 7), [], none⟩,
   ⟨(some 23), .mv (.t 1), [], none⟩,
   ⟨(some 24), .load (some 16) (.t 5), [], none⟩,
   ⟨(some 25), .build [(.p (.str [])), (.p (.int Go.IntKind.i64 0)), (.p (.int Go.IntKind.u64 0)), (.p (.int Go.IntKind.u64 0)), (.p (.int Go.IntKind.u32 0)), (.p (.int Go.IntKind.u32 0)), (.p (.int Go.IntKind.i64 0)), (.p (.int Go.IntKind.i64 0)), (.p (.int Go.IntKind.i64 0)), (.p (.bool false)), (.p (.bool false)), (.p (.int Go.IntKind.i64 0)), (.p (.int Go.IntKind.u32 0)), (.p (.int Go.IntKind.i64 0)), (.p (.int Go.IntKind.i64 0)), (.p (.int Go.IntKind.i64 0)), (.p (.int Go.IntKind.i64 0))] [(0, 1, (.t 23)), (1, 16, (.t 24))], [6, 7], none⟩,
   ⟨(some 26), .lit 17 [(.str []), (.int Go.IntKind.i64 0), (.int Go.IntKind.u64 0), (.int Go.IntKind.u64 0), (.int Go.IntKind.u32 0), (.int Go.IntKind.u32 0), (.int Go.IntKind.i64 0), (.int Go.IntKind.i64 0), (.int Go.IntKind.i64 0), (.bool false), (.bool false), (.int Go.IntKind.i64 0), (.int Go.IntKind.u32 0), (.int Go.IntKind.i64 0), (.int Go.IntKind.i64 0), (.int Go.IntKind.i64 0), (.int Go.IntKind.i64 0)] 1 [(0, (.t 25))], [8], none⟩,
   ⟨(some 27), .call 45 [(.t 21), (.t 22), (.t 26)], [4, 5, 9], none⟩,
   ⟨(some 28), .nilck (.t 17), [0, 0, 1, 2, 3, 4, 5, 6, 7, 8, 9, 10], none⟩,
   ⟨(some 29), .faddr 0 (.t 28), [11, 0, 1, 2, 3, 4, 5, 6, 7, 8, 9, 10], none⟩,
   ⟨none, .store 1 (.t 29) (.t 27), [12, 10, 10, 0, 1, 2, 3, 4, 5, 6, 7, 8, 9, 10], none⟩]
def vf25r9 : List VOper :=
  [⟨(some 6), .asg (.c (.p (.int Go.IntKind.i64 0))), [], none⟩]
def vf25 : VFun where
  vars := [0, 1, 2]
  boxes := [5]
  mv := []
  res := [(.t 6)]
  body := (.seq (.region none vf25r0 [0, 1, 5] [0, 1, 5])
 (.seq (.seq (.region none vf25r1 [0, 1, 5, 10] [0, 1, 5, 10])
 (.cond (.t 10) (.seq (.region none vf25r2 [6] [6])
 .ret)
 .skip))
 (.seq (.region none vf25r3 [0, 1, 5, 7, 8, 15, 16] [0, 1, 5, 7, 8, 15, 16])
 (.seq (.block 0 (.seq (.region none vf25r4 [0, 1, 5, 7, 8, 15, 16, 30, 31] [0, 1, 5, 7, 8, 15, 16, 30, 31])
 (.cond (.t 30) (.region (some ([8], (.one 0 (.one 1 (.one 2 (.one 3 (.one 4 (.one 5 (.one 6 (.one 7 (.one 8 .fin))))))))))) vf25r5 [] [])
 (.seq (.region (some ([10], (.one 0 (.one 1 (.one 2 (.one 3 (.one 4 (.one 5 (.one 6 (.one 7 (.one 8 (.one 9 (.one 10 .fin))))))))))))) vf25r6 [0, 1, 5, 7, 15, 40, 50] [0, 1, 5, 7, 15, 40, 50])
 (.cond (.t 40) (.seq (.region none vf25r7 [6] [6])
 .ret)
 (.region (some ([10, 13], (.one 1 (.one 2 (.one 3 (.one 4 (.one 5 (.one 6 (.one 7 (.one 8 (.one 9 (.alt 0 (.one 10 (.one 11 (.one 12 (.one 13 .fin)))) (.alt 10 (.one 0 (.one 11 (.one 12 (.one 13 .fin)))) .fin))))))))))))) vf25r8 [] []))))))
 (.seq (.region none vf25r9 [6] [6])
 .ret)))))

def vf26r0 : List VOper :=
  [⟨(some 3), .box false 7 (.t 1), [], none⟩,
   ⟨(some 4), .asg (.c (.p (.str []))), [], none⟩]
def vf26r1 : List VOper :=
  [⟨(some 5), .mv (.t 0), [], none⟩,
   ⟨(some 6), .conv (.int Go.IntKind.u8) (.t 5), [0], none⟩,
   ⟨(some 7), .lit 1 [(.int Go.IntKind.u8 0)] 1 [(0, (.t 6))], [1], none⟩,
   ⟨(some 8), .load (some 7) (.t 3), [], none⟩,
   ⟨(some 9), .call 46 [(.t 8)], [3], none⟩,
   ⟨(some 10), .append false 1 1 (.t 7) (.t 9), [2, 4, 4], none⟩,
   ⟨(some 11), .conv .b2s (.t 10), [5], none⟩,
   ⟨(some 4), .asg (.t 11), [6, 5, 0, 1, 2, 3, 4, 5, 6], none⟩]
def vf26 : VFun where
  vars := [0, 1]
  boxes := [3]
  mv := []
  res := [(.t 4)]
  body := (.seq (.region none vf26r0 [0, 3] [0, 3])
 (.seq (.region none vf26r1 [4, 11] [4, 11])
 .ret))

def vf27r0 : List VOper :=
  [⟨(some 1), .box false 7 (.t 0), [], none⟩,
   ⟨(some 2), .asg (.c (.p (.bool false))), [], none⟩]
def vf27r1 : List VOper :=
  [⟨(some 4), .faddr 0 (.t 1), [], none⟩,
   ⟨(some 5), .load none (.t 4), [0], none⟩,
   ⟨(some 6), .bin Go.BinOp.geq .no (.t 5) (.c (.p (.int Go.IntKind.u64 281474976710656))), [1], none⟩,
   ⟨(some 7), .mv (.t 6), [2], none⟩,
   ⟨(some 8), .faddr 1 (.t 1), [3], (some (3, false))⟩,
   ⟨(some 9), .load none (.t 8), [4, 3], (some (3, false))⟩,
   ⟨(some 10), .bin Go.BinOp.geq .no (.t 9) (.c (.p (.int Go.IntKind.u64 281474976710656))), [5, 3], (some (3, false))⟩,
   ⟨(some 11), .pick (.t 7) (.c (.p (.bool true))) (.t 10), [3, 6], none⟩,
   ⟨(some 12), .mv (.t 11), [7, 3], none⟩,
   ⟨(some 13), .faddr 4 (.t 1), [8], (some (8, false))⟩,
   ⟨(some 14), .load none (.t 13), [9, 8], (some (8, false))⟩,
   ⟨(some 15), .bin Go.BinOp.lss .no (.t 14) (.c (.p (.int Go.IntKind.i64 0))), [10, 8], (some (8, false))⟩,
   ⟨(some 16), .pick (.t 12) (.c (.p (.bool true))) (.t 15), [8, 11], none⟩,
   ⟨(some 17), .mv (.t 16), [12, 8], none⟩,
   ⟨(some 18), .faddr 4 (.t 1), [13], (some (13, false))⟩,
   ⟨(some 19), .load none (.t 18), [14, 13], (some (13, false))⟩,
   ⟨(some 20), .bin Go.BinOp.geq .no (.t 19) (.c (.p (.int Go.IntKind.i64 256))), [15, 13], (some (13, false))⟩,
   ⟨(some 21), .pick (.t 17) (.c (.p (.bool true))) (.t 20), [13, 16], none⟩]
def vf27r2 : List VOper :=
  [⟨(some 2), .asg (.c (.p (.bool false))), [], none⟩]
def vf27r3 : List VOper :=
  [⟨(some 3), .asg (.c (.p (.int Go.IntKind.i64 0))), [], none⟩]
def vf27r4 : List VOper :=
  [⟨(some 22), .faddr 4 (.t 1), [], none⟩,
   ⟨(some 23), .load none (.t 22), [0], none⟩,
   ⟨(some 24), .bin Go.BinOp.eql .no (.t 23) (.c (.p (.int Go.IntKind.i64 6))), [1], none⟩,
   ⟨(some 25), .mv (.t 24), [2], none⟩,
   ⟨(some 26), .faddr 4 (.t 1), [3], (some (3, false))⟩,
   ⟨(some 27), .load none (.t 26), [4, 3], (some (3, false))⟩,
   ⟨(some 28), .bin Go.BinOp.eql .no (.t 27) (.c (.p (.int Go.IntKind.i64 17))), [5, 3], (some (3, false))⟩,
   ⟨(some 29), .pick (.t 25) (.c (.p (.bool true))) (.t 28), [3, 6], none⟩]
def vf27r5 : List VOper :=
  [⟨(some 3), .asg (.c (.p (.int Go.IntKind.i64 65535))), [], none⟩]
def vf27r6 : List VOper :=
  [⟨(some 30), .faddr 5 (.t 1), [], none⟩,
   ⟨(some 31), .load none (.t 30), [0], none⟩,
   ⟨(some 32), .bin Go.BinOp.geq .no (.t 31) (.c (.p (.int Go.IntKind.i64 0))), [1], none⟩,
   ⟨(some 33), .mv (.t 32), [2], none⟩,
   ⟨(some 34), .faddr 5 (.t 1), [3], (some (3, true))⟩,
   ⟨(some 35), .load none (.t 34), [4, 3], (some (3, true))⟩,
   ⟨(some 36), .mv (.t 3), [3], (some (3, true))⟩,
   ⟨(some 37), .bin Go.BinOp.leq .no (.t 35) (.t 36), [5, 6, 3], (some (3, true))⟩,
   ⟨(some 38), .pick (.t 33) (.t 37) (.c (.p (.bool false))), [3, 7], none⟩,
   ⟨(some 39), .mv (.t 38), [8, 3], none⟩,
   ⟨(some 40), .faddr 6 (.t 1), [9], (some (9, true))⟩,
   ⟨(some 41), .load none (.t 40), [10, 9], (some (9, true))⟩,
   ⟨(some 42), .bin Go.BinOp.geq .no (.t 41) (.c (.p (.int Go.IntKind.i64 0))), [11, 9], (some (9, true))⟩,
   ⟨(some 43), .pick (.t 39) (.t 42) (.c (.p (.bool false))), [9, 12], none⟩,
   ⟨(some 44), .mv (.t 43), [13, 9], none⟩,
   ⟨(some 45), .faddr 6 (.t 1), [14], (some (14, true))⟩,
   ⟨(some 46), .load none (.t 45), [15, 14], (some (14, true))⟩,
   ⟨(some 47), .mv (.t 3), [14], (some (14, true))⟩,
   ⟨(some 48), .bin Go.BinOp.leq .no (.t 46) (.t 47), [16, 17, 14], (some (14, true))⟩,
   ⟨(some 49), .pick (.t 44) (.t 48) (.c (.p (.bool false))), [14, 18], none⟩,
   ⟨(some 2), .asg (.t 49), [19, 14, 0, 1, 2, 3, 4, 5, 6, 7, 8, 9, 10, 11, 12, 13, 14, 15, 16, 17, 18, 19], none⟩]
def vf27 : VFun where
  vars := [0, 8, 9, 10, 13, 14, 15, 18, 19, 20, 26, 27, 28, 34, 35, 36, 37, 40, 41, 42, 45, 46, 47, 48]
  boxes := [1]
  mv := []
  res := [(.t 2)]
  body := (.seq (.region none vf27r0 [1, 3, 8, 9, 10, 13, 14, 15, 18, 19, 20, 26, 27, 28, 34, 35, 36, 37, 40, 41, 42, 45, 46, 47, 48] [1, 3, 8, 9, 10, 13, 14, 15, 18, 19, 20, 26, 27, 28, 34, 35, 36, 37, 40, 41, 42, 45, 46, 47, 48])
 (.seq (.seq (.region none vf27r1 [1, 3, 21, 26, 27, 28, 34, 35, 36, 37, 40, 41, 42, 45, 46, 47, 48] [1, 3, 21, 26, 27, 28, 34, 35, 36, 37, 40, 41, 42, 45, 46, 47, 48])
 (.cond (.t 21) (.seq (.region none vf27r2 [2, 49] [2, 49])
 .ret)
 .skip))
 (.seq (.region none vf27r3 [1, 3, 26, 27, 28, 34, 35, 36, 37, 40, 41, 42, 45, 46, 47, 48] [1, 3, 26, 27, 28, 34, 35, 36, 37, 40, 41, 42, 45, 46, 47, 48])
 (.seq (.seq (.region none vf27r4 [1, 3, 29, 34, 35, 36, 37, 40, 41, 42, 45, 46, 47, 48] [1, 3, 29, 34, 35, 36, 37, 40, 41, 42, 45, 46, 47, 48])
 (.cond (.t 29) (.region none vf27r5 [1, 3, 34, 35, 36, 37, 40, 41, 42, 45, 46, 47, 48] [1, 3, 34, 35, 36, 37, 40, 41, 42, 45, 46, 47, 48])
 .skip))
 (.seq (.region none vf27r6 [2, 49] [2, 49])
 .ret)))))

def vf28r0 : List VOper :=
  [⟨(some 0), .alloc false [(.int Go.IntKind.u64 0), (.int Go.IntKind.u64 0), (.int Go.IntKind.u32 0), (.int Go.IntKind.u32 0), (.int Go.IntKind.i64 0), (.int Go.IntKind.i64 0), (.int Go.IntKind.i64 0)], [], none⟩]
def vf28r1 : List VOper :=
  [⟨(some 1), .build [(.p (.int Go.IntKind.u64 0)), (.p (.int Go.IntKind.u64 0)), (.p (.int Go.IntKind.u32 0)), (.p (.int Go.IntKind.u32 0)), (.p (.int Go.IntKind.i64 0)), (.p (.int Go.IntKind.i64 0)), (.p (.int Go.IntKind.i64 0))] [(0, 1, (.c (.p (.int Go.IntKind.u64 1)))), (1, 1, (.c (.p (.int Go.IntKind.u64 2)))), (2, 1, (.c (.p (.int Go.IntKind.u32 3)))), (3, 1, (.c (.p (.int Go.IntKind.u32 4)))), (4, 1, (.c (.p (.int Go.IntKind.i64 6)))), (5, 1, (.c (.p (.int Go.IntKind.i64 5)))), (6, 1, (.c (.p (.int Go.IntKind.i64 80))))], [], none⟩,
   ⟨none, .store 7 (.t 0) (.t 1), [0, 0], none⟩]
def vf28 : VFun where
  vars := []
  boxes := [0]
  mv := []
  res := [(.cell 0 (some 7))]
  body := (.seq (.region none vf28r0 [0] [0])
 (.seq (.region none vf28r1 [0] [0])
 .ret))

def vf29r0 : List VOper :=
  [⟨(some 6), .asg (.c (.p (.bool false))), [], none⟩]
def vf29r1 : List VOper :=
  [⟨(some 7), .mv (.t 0), [], none⟩,
   ⟨(some 8), .mv (.t 1), [], none⟩,
   ⟨(some 9), .bin Go.BinOp.geq .no (.t 7) (.t 8), [0, 1], none⟩,
   ⟨(some 10), .mv (.t 9), [2], none⟩,
   ⟨(some 11), .mv (.t 0), [3], (some (3, true))⟩,
   ⟨(some 12), .mv (.t 2), [3], (some (3, true))⟩,
   ⟨(some 13), .bin Go.BinOp.leq .no (.t 11) (.t 12), [4, 5, 3], (some (3, true))⟩,
   ⟨(some 14), .pick (.t 10) (.t 13) (.c (.p (.bool false))), [3, 6], none⟩,
   ⟨(some 6), .asg (.t 14), [7, 3, 0, 1, 2, 3, 4, 5, 6, 7], none⟩]
def vf29 : VFun where
  vars := [0, 1, 2, 11, 12, 13]
  boxes := []
  mv := []
  res := [(.t 6)]
  body := (.seq (.region none vf29r0 [0, 1, 2, 11, 12, 13] [0, 1, 2, 11, 12, 13])
 (.seq (.region none vf29r1 [6, 14] [6, 14])
 .ret))

def vf30r0 : List VOper :=
  [⟨(some 1), .box false 7 (.t 0), [], none⟩,
   ⟨(some 2), .asg (.c (.p (.bool false))), [], none⟩]
def vf30r1 : List VOper :=
  [⟨(some 3), .faddr 0 (.t 1), [], none⟩,
   ⟨(some 4), .load none (.t 3), [0], none⟩,
   ⟨(some 5), .bin Go.BinOp.gtr .no (.t 4) (.c (.p (.int Go.IntKind.u64 281474976710655))), [1], none⟩,
   ⟨(some 6), .mv (.t 5), [2], none⟩,
   ⟨(some 7), .faddr 1 (.t 1), [3], (some (3, false))⟩,
   ⟨(some 8), .load none (.t 7), [4, 3], (some (3, false))⟩,
   ⟨(some 9), .bin Go.BinOp.gtr .no (.t 8) (.c (.p (.int Go.IntKind.u64 281474976710655))), [5, 3], (some (3, false))⟩,
   ⟨(some 10), .pick (.t 6) (.c (.p (.bool true))) (.t 9), [3, 6], none⟩,
   ⟨(some 11), .mv (.t 10), [7, 3], none⟩,
   ⟨(some 12), .faddr 4 (.t 1), [8], (some (8, false))⟩,
   ⟨(some 13), .load none (.t 12), [9, 8], (some (8, false))⟩,
   ⟨(some 14), .bin Go.BinOp.lss .no (.t 13) (.c (.p (.int Go.IntKind.i64 0))), [10, 8], (some (8, false))⟩,
   ⟨(some 15), .pick (.t 11) (.c (.p (.bool true))) (.t 14), [8, 11], none⟩,
   ⟨(some 16), .mv (.t 15), [12, 8], none⟩,
   ⟨(some 17), .faddr 4 (.t 1), [13], (some (13, false))⟩,
   ⟨(some 18), .load none (.t 17), [14, 13], (some (13, false))⟩,
   ⟨(some 19), .bin Go.BinOp.gtr .no (.t 18) (.c (.p (.int Go.IntKind.i64 255))), [15, 13], (some (13, false))⟩,
   ⟨(some 20), .pick (.t 16) (.c (.p (.bool true))) (.t 19), [13, 16], none⟩]
def vf30r2 : List VOper :=
  [⟨(some 2), .asg (.c (.p (.bool false))), [], none⟩]
def vf30r3 : List VOper :=
  [⟨(some 21), .faddr 4 (.t 1), [], none⟩,
   ⟨(some 22), .load none (.t 21), [0], none⟩,
   ⟨(some 23), .bin Go.BinOp.neq .no (.t 22) (.c (.p (.int Go.IntKind.i64 6))), [1], none⟩,
   ⟨(some 24), .mv (.t 23), [2], none⟩,
   ⟨(some 25), .faddr 4 (.t 1), [3], (some (3, true))⟩,
   ⟨(some 26), .load none (.t 25), [4, 3], (some (3, true))⟩,
   ⟨(some 27), .bin Go.BinOp.neq .no (.t 26) (.c (.p (.int Go.IntKind.i64 17))), [5, 3], (some (3, true))⟩,
   ⟨(some 28), .pick (.t 24) (.t 27) (.c (.p (.bool false))), [3, 6], none⟩]
def vf30r4 : List VOper :=
  [⟨(some 29), .faddr 5 (.t 1), [], none⟩,
   ⟨(some 30), .load none (.t 29), [0], none⟩,
   ⟨(some 31), .bin Go.BinOp.eql .no (.t 30) (.c (.p (.int Go.IntKind.i64 0))), [1], none⟩,
   ⟨(some 32), .mv (.t 31), [2], none⟩,
   ⟨(some 33), .faddr 6 (.t 1), [3], (some (3, true))⟩,
   ⟨(some 34), .load none (.t 33), [4, 3], (some (3, true))⟩,
   ⟨(some 35), .bin Go.BinOp.eql .no (.t 34) (.c (.p (.int Go.IntKind.i64 0))), [5, 3], (some (3, true))⟩,
   ⟨(some 36), .pick (.t 32) (.t 35) (.c (.p (.bool false))), [3, 6], none⟩,
   ⟨(some 2), .asg (.t 36), [7, 3, 0, 1, 2, 3, 4, 5, 6, 7], none⟩]
def vf30r5 : List VOper :=
  [⟨(some 37), .faddr 5 (.t 1), [], none⟩,
   ⟨(some 38), .load none (.t 37), [0], none⟩,
   ⟨(some 39), .bin Go.BinOp.geq .no (.t 38) (.c (.p (.int Go.IntKind.i64 0))), [1], none⟩,
   ⟨(some 40), .mv (.t 39), [2], none⟩,
   ⟨(some 41), .faddr 5 (.t 1), [3], (some (3, true))⟩,
   ⟨(some 42), .load none (.t 41), [4, 3], (some (3, true))⟩,
   ⟨(some 43), .bin Go.BinOp.leq .no (.t 42) (.c (.p (.int Go.IntKind.i64 65535))), [5, 3], (some (3, true))⟩,
   ⟨(some 44), .pick (.t 40) (.t 43) (.c (.p (.bool false))), [3, 6], none⟩,
   ⟨(some 45), .mv (.t 44), [7, 3], none⟩,
   ⟨(some 46), .faddr 6 (.t 1), [8], (some (8, true))⟩,
   ⟨(some 47), .load none (.t 46), [9, 8], (some (8, true))⟩,
   ⟨(some 48), .bin Go.BinOp.geq .no (.t 47) (.c (.p (.int Go.IntKind.i64 0))), [10, 8], (some (8, true))⟩,
   ⟨(some 49), .pick (.t 45) (.t 48) (.c (.p (.bool false))), [8, 11], none⟩,
   ⟨(some 50), .mv (.t 49), [12, 8], none⟩,
   ⟨(some 51), .faddr 6 (.t 1), [13], (some (13, true))⟩,
   ⟨(some 52), .load none (.t 51), [14, 13], (some (13, true))⟩,
   ⟨(some 53), .bin Go.BinOp.leq .no (.t 52) (.c (.p (.int Go.IntKind.i64 65535))), [15, 13], (some (13, true))⟩,
   ⟨(some 54), .pick (.t 50) (.t 53) (.c (.p (.bool false))), [13, 16], none⟩,
   ⟨(some 2), .asg (.t 54), [17, 13, 0, 1, 2, 3, 4, 5, 6, 7, 8, 9, 10, 11, 12, 13, 14, 15, 16, 17], none⟩]
def vf30 : VFun where
  vars := [0, 7, 8, 9, 12, 13, 14, 17, 18, 19, 25, 26, 27, 33, 34, 35, 41, 42, 43, 46, 47, 48, 51, 52, 53]
  boxes := [1]
  mv := []
  res := [(.t 2)]
  body := (.seq (.region none vf30r0 [1, 7, 8, 9, 12, 13, 14, 17, 18, 19, 25, 26, 27, 33, 34, 35, 41, 42, 43, 46, 47, 48, 51, 52, 53] [1, 7, 8, 9, 12, 13, 14, 17, 18, 19, 25, 26, 27, 33, 34, 35, 41, 42, 43, 46, 47, 48, 51, 52, 53])
 (.seq (.seq (.region none vf30r1 [1, 20, 25, 26, 27, 33, 34, 35, 41, 42, 43, 46, 47, 48, 51, 52, 53] [1, 20, 25, 26, 27, 33, 34, 35, 41, 42, 43, 46, 47, 48, 51, 52, 53])
 (.cond (.t 20) (.seq (.region none vf30r2 [2, 36, 54] [2, 36, 54])
 .ret)
 .skip))
 (.seq (.seq (.region none vf30r3 [1, 28, 33, 34, 35, 41, 42, 43, 46, 47, 48, 51, 52, 53] [1, 28, 33, 34, 35, 41, 42, 43, 46, 47, 48, 51, 52, 53])
 (.cond (.t 28) (.seq (.region none vf30r4 [2, 36, 54] [2, 36, 54])
 .ret)
 .skip))
 (.seq (.region none vf30r5 [2, 36, 54] [2, 36, 54])
 .ret))))

def vf31r0 : List VOper :=
  [⟨(some 4), .alloc false [(.int Go.IntKind.i64 0), (.int Go.IntKind.u64 0), (.int Go.IntKind.u64 0), (.int Go.IntKind.u32 0), (.int Go.IntKind.u32 0), (.int Go.IntKind.i64 0), (.int Go.IntKind.i64 0), (.int Go.IntKind.i64 0), (.bool false), (.bool false), (.int Go.IntKind.i64 0), (.int Go.IntKind.u32 0), (.int Go.IntKind.i64 0), (.int Go.IntKind.i64 0), (.int Go.IntKind.i64 0), (.int Go.IntKind.i64 0)], [], none⟩,
   ⟨(some 5), .asg (.c (.p (.bool false))), [], none⟩]
def vf31r1 : List VOper :=
  [⟨(some 9), .mv (.t 0), [], none⟩,
   ⟨(some 10), .bin Go.BinOp.neq .ptr (.t 9) (.c .nilp), [0], none⟩]
def vf31r2 : List VOper :=
  [⟨(some 12), .mv (.t 0), [], none⟩,
   ⟨(some 13), .mv (.t 1), [], none⟩,
   ⟨(some 14), .call 44 [(.t 12), (.t 13)], [0, 1], none⟩,
   ⟨(some 11), .mv (.t 14), [2], none⟩,
   ⟨(some 15), .ext (.t 11) 0, [3], none⟩,
   ⟨(some 16), .ext (.t 11) 1, [3], none⟩,
   ⟨(some 6), .asg (.t 15), [4, 2, 0, 1, 2, 3, 4], none⟩,
   ⟨(some 7), .asg (.t 16), [5, 6, 0, 1, 2, 3, 4, 5, 6], none⟩]
def vf31r3 : List VOper :=
  [⟨(some 17), .mv (.t 7), [], none⟩]
def vf31r4 : List VOper :=
  [⟨(some 18), .mv (.t 0), [], none⟩,
   ⟨(some 19), .nilck (.t 18), [0], none⟩,
   ⟨(some 20), .faddr 0 (.t 19), [1], none⟩,
   ⟨(some 21), .load none (.t 20), [2], none⟩,
   ⟨(some 22), .mv (.t 6), [], none⟩,
   ⟨(some 23), .iaddrS 17 (.t 21) (.t 22), [3, 4], none⟩,
   ⟨(some 24), .faddr 1 (.t 23), [5], none⟩,
   ⟨(some 25), .load (some 16) (.t 24), [6], none⟩,
   ⟨none, .store 16 (.t 4) (.t 25), [7, 0, 1, 2, 3, 4, 5, 6, 7], none⟩,
   ⟨(some 5), .asg (.c (.p (.bool true))), [8, 0, 1, 2, 3, 4, 5, 6, 7, 8], none⟩]
def vf31r5 : List VOper :=
  [⟨(some 8), .alloc false [(.int Go.IntKind.i64 0), (.int Go.IntKind.u64 0), (.int Go.IntKind.u64 0), (.int Go.IntKind.u32 0), (.int Go.IntKind.u32 0), (.int Go.IntKind.i64 0), (.int Go.IntKind.i64 0), (.int Go.IntKind.i64 0), (.bool false), (.bool false), (.int Go.IntKind.i64 0), (.int Go.IntKind.u32 0), (.int Go.IntKind.i64 0), (.int Go.IntKind.i64 0), (.int Go.IntKind.i64 0), (.int Go.IntKind.i64 0)], [], none⟩]
def vf31r6 : List VOper :=
  [⟨(some 26), .load (some 16) (.t 8), [], none⟩,
   ⟨none, .store 16 (.t 4) (.t 26), [0, 0], none⟩,
   ⟨(some 5), .asg (.c (.p (.bool false))), [1, 0, 1], none⟩]
def vf31 : VFun where
  vars := [0, 1]
  boxes := [4, 8]
  mv := []
  res := [(.cell 4 (some 16)), (.t 5)]
  body := (.seq (.region none vf31r0 [0, 1, 4] [0, 1, 4])
 (.seq (.seq (.region none vf31r1 [0, 1, 4, 10] [0, 1, 4, 10])
 (.cond (.t 10) (.seq (.region none vf31r2 [0, 4, 6, 7, 15, 16] [0, 4, 6, 7, 15, 16])
 (.seq (.region none vf31r3 [0, 4, 6, 7, 15, 16, 17] [0, 4, 6, 7, 15, 16, 17])
 (.cond (.t 17) (.seq (.region none vf31r4 [4, 5] [4, 5])
 .ret)
 .skip)))
 .skip))
 (.seq (.region none vf31r5 [4, 8] [4, 8])
 (.seq (.region none vf31r6 [4, 5] [4, 5])
 .ret))))

def vf32r0 : List VOper :=
  [⟨(some 2), .box false 16 (.t 0), [], none⟩,
   ⟨(some 4), .asg (.c (.p (.bool false))), [], none⟩]
def vf32r1 : List VOper :=
  [⟨(some 5), .faddr 13 (.t 2), [], none⟩,
   ⟨(some 6), .load none (.t 5), [0], none⟩,
   ⟨(some 7), .bin Go.BinOp.gtr .no (.t 6) (.c (.p (.int Go.IntKind.i64 0))), [1], none⟩,
   ⟨(some 8), .mv (.t 7), [2], none⟩,
   ⟨(some 9), .mv (.t 1), [3], (some (3, true))⟩,
   ⟨(some 10), .faddr 14 (.t 2), [3], (some (3, true))⟩,
   ⟨(some 11), .load none (.t 10), [5, 3], (some (3, true))⟩,
   ⟨(some 12), .bin Go.BinOp.sub .no (.t 9) (.t 11), [4, 6, 3], (some (3, true))⟩,
   ⟨(some 13), .faddr 13 (.t 2), [3], (some (3, true))⟩,
   ⟨(some 14), .load none (.t 13), [8, 3], (some (3, true))⟩,
   ⟨(some 15), .bin Go.BinOp.geq .no (.t 12) (.t 14), [7, 9, 3], (some (3, true))⟩,
   ⟨(some 16), .pick (.t 8) (.t 15) (.c (.p (.bool false))), [3, 10], none⟩,
   ⟨(some 17), .mv (.t 16), [11, 3], none⟩,
   ⟨(some 18), .faddr 12 (.t 2), [12], (some (12, false))⟩,
   ⟨(some 19), .load none (.t 18), [13, 12], (some (12, false))⟩,
   ⟨(some 20), .bin Go.BinOp.gtr .no (.t 19) (.c (.p (.int Go.IntKind.i64 0))), [14, 12], (some (12, false))⟩,
   ⟨(some 21), .mv (.t 20), [15, 12, 12], (some (12, false))⟩,
   ⟨(some 22), .mv (.t 1), [16], (some (16, true))⟩,
   ⟨(some 23), .faddr 15 (.t 2), [16], (some (16, true))⟩,
   ⟨(some 24), .load none (.t 23), [18, 16], (some (16, true))⟩,
   ⟨(some 25), .bin Go.BinOp.sub .no (.t 22) (.t 24), [17, 19, 16], (some (16, true))⟩,
   ⟨(some 26), .faddr 12 (.t 2), [16], (some (16, true))⟩,
   ⟨(some 27), .load none (.t 26), [21, 16], (some (16, true))⟩,
   ⟨(some 28), .bin Go.BinOp.geq .no (.t 25) (.t 27), [20, 22, 16], (some (16, true))⟩,
   ⟨(some 29), .pick (.t 21) (.t 28) (.c (.p (.bool false))), [16, 23, 12], (some (12, false))⟩,
   ⟨(some 30), .pick (.t 17) (.c (.p (.bool true))) (.t 29), [12, 24], none⟩,
   ⟨(some 4), .asg (.t 30), [25, 16, 0, 1, 2, 3, 4, 5, 6, 7, 8, 9, 10, 11, 12, 13, 14, 15, 16, 17, 18, 19, 20, 21, 22, 23, 24, 25], none⟩]
def vf32 : VFun where
  vars := [0, 1, 9, 10, 11, 12, 13, 14, 15, 18, 19, 20, 21, 22, 23, 24, 25, 26, 27, 28, 29]
  boxes := [2]
  mv := []
  res := [(.t 4)]
  body := (.seq (.region none vf32r0 [1, 2, 9, 10, 11, 12, 13, 14, 15, 18, 19, 20, 21, 22, 23, 24, 25, 26, 27, 28, 29] [1, 2, 9, 10, 11, 12, 13, 14, 15, 18, 19, 20, 21, 22, 23, 24, 25, 26, 27, 28, 29])
 (.seq (.region none vf32r1 [4, 30] [4, 30])
 .ret))

def vf33r0 : List VOper :=
  [⟨(some 2), .box false 16 (.t 0), [], none⟩,
   ⟨(some 4), .asg (.c (.p (.bool false))), [], none⟩]
def vf33r1 : List VOper :=
  [⟨(some 5), .faddr 8 (.t 2), [], none⟩,
   ⟨(some 6), .load none (.t 5), [0], none⟩]
def vf33r2 : List VOper :=
  [⟨(some 7), .mv (.t 1), [], none⟩,
   ⟨(some 8), .bin Go.BinOp.eql .no (.t 7) (.c (.p (.int Go.IntKind.i64 (-1)))), [0], none⟩,
   ⟨(some 4), .asg (.t 8), [1, 0, 1], none⟩]
def vf33r3 : List VOper :=
  [⟨(some 9), .mv (.t 1), [], none⟩,
   ⟨(some 10), .faddr 11 (.t 2), [], none⟩,
   ⟨(some 11), .load none (.t 10), [1], none⟩,
   ⟨(some 12), .conv (.int Go.IntKind.i64) (.t 11), [2], none⟩,
   ⟨(some 13), .bin Go.BinOp.eql .no (.t 9) (.t 12), [0, 3], none⟩,
   ⟨(some 4), .asg (.t 13), [4, 0, 1, 2, 3, 4], none⟩]
def vf33 : VFun where
  vars := [0, 1]
  boxes := [2]
  mv := []
  res := [(.t 4)]
  body := (.seq (.region none vf33r0 [1, 2] [1, 2])
 (.seq (.seq (.region none vf33r1 [1, 2, 6] [1, 2, 6])
 (.cond (.t 6) (.seq (.region none vf33r2 [4, 8, 13] [4, 8, 13])
 .ret)
 .skip))
 (.seq (.region none vf33r3 [4, 8, 13] [4, 8, 13])
 .ret)))

def vf34r0 : List VOper :=
  [⟨(some 2), .asg (.c (.p .nils)), [], none⟩]
def vf34r1 : List VOper :=
  [⟨(some 3), .asg (.c (.p .nils)), [], none⟩]
def vf34r2 : List VOper :=
  [⟨(some 5), .mv (.t 0), [], none⟩,
   ⟨(some 6), .call 38 [(.t 5)], [0], none⟩,
   ⟨(some 7), .mv (.c (.p (.int Go.IntKind.i64 0))), [], none⟩]
def vf34r3 : List VOper :=
  [⟨(some 8), .bin Go.BinOp.lss .no (.t 7) (.t 6), [], none⟩]
def vf34r4 : List VOper :=
  [⟨(some 9), .mv (.t 7), [], none⟩,
   ⟨(some 4), .asg (.t 9), [0, 0], none⟩]
def vf34r5 : List VOper :=
  [⟨(some 10), .mv (.t 3), [], none⟩,
   ⟨(some 11), .mv (.t 0), [], none⟩,
   ⟨(some 12), .nilck (.t 11), [1], none⟩,
   ⟨(some 13), .faddr 0 (.t 12), [2], none⟩,
   ⟨(some 14), .load none (.t 13), [3], none⟩,
   ⟨(some 15), .mv (.t 4), [], none⟩,
   ⟨(some 16), .iaddrS 17 (.t 14) (.t 15), [4, 5], none⟩,
   ⟨(some 17), .faddr 1 (.t 16), [6], none⟩,
   ⟨(some 18), .load (some 16) (.t 17), [7], none⟩,
   ⟨(some 19), .lit 16 [(.int Go.IntKind.i64 0), (.int Go.IntKind.u64 0), (.int Go.IntKind.u64 0), (.int Go.IntKind.u32 0), (.int Go.IntKind.u32 0), (.int Go.IntKind.i64 0), (.int Go.IntKind.i64 0), (.int Go.IntKind.i64 0), (.bool false), (.bool false), (.int Go.IntKind.i64 0), (.int Go.IntKind.u32 0), (.int Go.IntKind.i64 0), (.int Go.IntKind.i64 0), (.int Go.IntKind.i64 0), (.int Go.IntKind.i64 0)] 1 [(0, (.t 18))], [8], none⟩,
   ⟨(some 20), .append false 16 112 (.t 10) (.t 19), [0, 9], none⟩,
   ⟨(some 3), .asg (.t 20), [10, 10, 0, 1, 2, 3, 4, 5, 6, 7, 8, 9, 10], none⟩]
def vf34r6 : List VOper :=
  [⟨(some 21), .bin Go.BinOp.add .no (.t 7) (.c (.p (.int Go.IntKind.i64 1))), [], none⟩,
   ⟨(some 7), .mv (.t 21), [0], none⟩]
def vf34r7 : List VOper :=
  [⟨(some 22), .mv (.t 3), [], none⟩,
   ⟨(some 2), .asg (.t 22), [0, 0], none⟩]
def vf34 : VFun where
  vars := [0]
  boxes := []
  mv := []
  res := [(.t 2)]
  body := (.seq (.region none vf34r0 [0] [0])
 (.seq (.region none vf34r1 [0, 3, 20] [0, 3, 20])
 (.seq (.seq (.region none vf34r2 [0, 3, 6, 7, 20, 21] [0, 3, 6, 7, 20, 21])
 (.block 0 (.loop (.seq (.region none vf34r3 [0, 3, 6, 7, 8, 20, 21] [0, 3, 6, 7, 8, 20, 21])
 (.seq (.cond (.t 8) .skip
 (.exit 0))
 (.seq (.block 1 (.seq (.region none vf34r4 [0, 3, 4, 6, 7, 9, 20, 21] [0, 3, 4, 6, 7, 9, 20, 21])
 (.region none vf34r5 [0, 3, 6, 7, 20, 21] [0, 3, 6, 7, 20, 21])))
 (.region none vf34r6 [0, 3, 6, 7, 20, 21] [0, 3, 6, 7, 20, 21])))))))
 (.seq (.region none vf34r7 [2, 3, 20, 22] [2, 3, 20, 22])
 .ret))))

def vf36r0 : List VOper :=
  [⟨(some 3), .box false 1 (.t 1), [], none⟩,
   ⟨(some 4), .asg (.c (.p .nils)), [], none⟩]
def vf36r1 : List VOper :=
  [⟨(some 5), .mv (.t 0), [], none⟩,
   ⟨(some 6), .bin Go.BinOp.eql .ptr (.t 5) (.c .nilp), [0], none⟩]
def vf36r2 : List VOper :=
  [⟨(some 4), .asg (.c (.p .nils)), [], none⟩]
def vf36r3 : List VOper :=
  [⟨(some 7), .mv (.t 0), [], none⟩,
   ⟨(some 8), .nilck (.t 7), [0], none⟩,
   ⟨(some 9), .faddr 0 (.t 8), [1], none⟩,
   ⟨(some 10), .load none (.t 9), [2], none⟩,
   ⟨(some 11), .mkfn 48 [(.t 3)], [], none⟩,
   ⟨(some 12), .call 47 [(.t 10), (.t 11)], [3, 4], none⟩,
   ⟨(some 4), .asg (.t 12), [5, 5, 0, 1, 2, 3, 4, 5], none⟩]
def vf36 : VFun where
  vars := [0, 1]
  boxes := [3]
  mv := []
  res := [(.t 4)]
  body := (.seq (.region none vf36r0 [0, 3] [0, 3])
 (.seq (.seq (.region none vf36r1 [0, 3, 6] [0, 3, 6])
 (.cond (.t 6) (.seq (.region none vf36r2 [4, 12] [3, 4, 12])
 .ret)
 .skip))
 (.seq (.region none vf36r3 [4, 12] [3, 4, 12])
 .ret)))

def vf37r0 : List VOper :=
  [⟨(some 2), .box false 16 (.t 0), [], none⟩,
   ⟨(some 3), .asg (.c (.p (.bool false))), [], none⟩]
def vf37r1 : List VOper :=
  [⟨(some 4), .load (some 16) (.t 2), [], none⟩,
   ⟨(some 5), .load none (.t 1), [], none⟩,
   ⟨(some 6), .call 32 [(.t 4), (.t 5)], [0, 1], none⟩,
   ⟨(some 3), .asg (.t 6), [2, 2, 0, 1, 2], none⟩]
def vf37 : VFun where
  vars := [0, 1]
  boxes := [2]
  mv := []
  res := [(.t 3)]
  body := (.seq (.region none vf37r0 [1, 2] [1, 2])
 (.seq (.region none vf37r1 [3, 6] [3, 6])
 .ret))

def vf38r0 : List VOper :=
  [⟨(some 2), .asg (.c (.p (.int Go.IntKind.i64 0))), [], none⟩]
def vf38r1 : List VOper :=
  [⟨(some 3), .mv (.t 0), [], none⟩,
   ⟨(some 4), .bin Go.BinOp.eql .ptr (.t 3) (.c .nilp), [0], none⟩]
def vf38r2 : List VOper :=
  [⟨(some 2), .asg (.c (.p (.int Go.IntKind.i64 0))), [], none⟩]
def vf38r3 : List VOper :=
  [⟨(some 5), .mv (.t 0), [], none⟩,
   ⟨(some 6), .nilck (.t 5), [0], none⟩,
   ⟨(some 7), .faddr 0 (.t 6), [1], none⟩,
   ⟨(some 8), .load none (.t 7), [2], none⟩,
   ⟨(some 9), .len false (.t 8), [3], none⟩,
   ⟨(some 2), .asg (.t 9), [4, 0, 1, 2, 3, 4], none⟩]
def vf38 : VFun where
  vars := [0]
  boxes := []
  mv := []
  res := [(.t 2)]
  body := (.seq (.region none vf38r0 [0] [0])
 (.seq (.seq (.region none vf38r1 [0, 4] [0, 4])
 (.cond (.t 4) (.seq (.region none vf38r2 [2, 9] [2, 9])
 .ret)
 .skip))
 (.seq (.region none vf38r3 [2, 9] [2, 9])
 .ret)))

def vf42r0 : List VOper :=
  [⟨(some 1), .box true 16 (.t 0), [], none⟩,
   ⟨(some 2), .asg (.c (.p (.bool false))), [], none⟩]
def vf42r1 : List VOper :=
  [⟨(some 2), .asg (.c (.p (.bool true))), [], none⟩]
def vf42 : VFun where
  vars := [0]
  boxes := []
  mv := []
  res := [(.t 2)]
  body := (.seq (.region none vf42r0 [] [])
 (.seq (.region none vf42r1 [2] [2])
 .ret))

def vf43r0 : List VOper :=
  [⟨(some 2), .box false 16 (.t 0), [], none⟩,
   ⟨(some 3), .asg (.c (.p (.bool false))), [], none⟩]
def vf43r1 : List VOper :=
  [⟨(some 4), .faddr 0 (.t 2), [], none⟩,
   ⟨(some 5), .load none (.t 4), [0], none⟩,
   ⟨(some 6), .load none (.t 1), [], none⟩,
   ⟨(some 7), .bin Go.BinOp.eql .no (.t 5) (.t 6), [1, 2], none⟩,
   ⟨(some 8), .mv (.t 7), [3], none⟩,
   ⟨(some 9), .faddr 10 (.t 2), [4], (some (4, false))⟩,
   ⟨(some 10), .load none (.t 9), [5, 4], (some (4, false))⟩,
   ⟨(some 11), .load none (.t 1), [4], (some (4, false))⟩,
   ⟨(some 12), .bin Go.BinOp.eql .no (.t 10) (.t 11), [6, 7, 4], (some (4, false))⟩,
   ⟨(some 13), .pick (.t 8) (.c (.p (.bool true))) (.t 12), [4, 8], none⟩,
   ⟨(some 3), .asg (.t 13), [9, 4, 0, 1, 2, 3, 4, 5, 6, 7, 8, 9], none⟩]
def vf43 : VFun where
  vars := [0, 1, 9, 10, 11, 12]
  boxes := [2]
  mv := []
  res := [(.t 3)]
  body := (.seq (.region none vf43r0 [1, 2, 9, 10, 11, 12] [1, 2, 9, 10, 11, 12])
 (.seq (.region none vf43r1 [3, 13] [3, 13])
 .ret))

def vf44r0 : List VOper :=
  [⟨(some 4), .asg (.c (.p (.int Go.IntKind.i64 0))), [], none⟩,
   ⟨(some 5), .asg (.c (.p (.bool false))), [0], none⟩]
def vf44r1 : List VOper :=
  [⟨(some 9), .mv (.t 0), [], none⟩,
   ⟨(some 10), .nilck (.t 9), [0], none⟩,
   ⟨(some 11), .faddr 0 (.t 10), [1], none⟩,
   ⟨(some 12), .load none (.t 11), [2], none⟩,
   ⟨(some 13), .len false (.t 12), [3], none⟩,
   ⟨(some 6), .asg (.c (.p (.int Go.IntKind.i64 0))), [], none⟩,
   ⟨(some 7), .asg (.t 13), [4, 5, 0, 1, 2, 3, 4, 5], none⟩]
def vf44r2 : List VOper :=
  [⟨(some 14), .mv (.t 6), [], none⟩,
   ⟨(some 15), .mv (.t 7), [], none⟩,
   ⟨(some 16), .bin Go.BinOp.lss .no (.t 14) (.t 15), [0, 1], none⟩]
def vf44r3 : List VOper :=
  [⟨(some 17), .mv (.t 6), [], none⟩,
   ⟨(some 18), .mv (.t 7), [], none⟩,
   ⟨(some 19), .mv (.t 6), [], none⟩,
   ⟨(some 20), .bin Go.BinOp.sub .no (.t 18) (.t 19), [1, 2], none⟩,
   ⟨(some 21), .bin Go.BinOp.quo .no (.t 20) (.c (.p (.int Go.IntKind.i64 2))), [3], none⟩,
   ⟨(some 22), .bin Go.BinOp.add .no (.t 17) (.t 21), [0, 4], none⟩,
   ⟨(some 8), .asg (.t 22), [5, 0, 1, 2, 3, 4, 5], none⟩]
def vf44r4 : List VOper :=
  [⟨(some 23), .mv (.t 0), [], none⟩,
   ⟨(some 24), .nilck (.t 23), [0], none⟩,
   ⟨(some 25), .faddr 0 (.t 24), [1], none⟩,
   ⟨(some 26), .load none (.t 25), [2], none⟩,
   ⟨(some 27), .mv (.t 8), [], none⟩,
   ⟨(some 28), .iaddrS 17 (.t 26) (.t 27), [3, 4], none⟩,
   ⟨(some 29), .faddr 0 (.t 28), [5], none⟩,
   ⟨(some 30), .load none (.t 29), [6], none⟩,
   ⟨(some 31), .mv (.t 1), [], none⟩,
   ⟨(some 32), .bin Go.BinOp.lss .no (.t 30) (.t 31), [7, 8], none⟩]
def vf44r5 : List VOper :=
  [⟨(some 33), .mv (.t 8), [], none⟩,
   ⟨(some 34), .bin Go.BinOp.add .no (.t 33) (.c (.p (.int Go.IntKind.i64 1))), [0], none⟩,
   ⟨(some 6), .asg (.t 34), [1, 0, 1], none⟩]
def vf44r6 : List VOper :=
  [⟨(some 35), .mv (.t 8), [], none⟩,
   ⟨(some 7), .asg (.t 35), [0, 0], none⟩]
def vf44r7 : List VOper :=
  [⟨(some 36), .mv (.t 6), [], none⟩,
   ⟨(some 37), .mv (.t 6), [], none⟩,
   ⟨(some 38), .mv (.t 0), [], none⟩,
   ⟨(some 39), .nilck (.t 38), [2], none⟩,
   ⟨(some 40), .faddr 0 (.t 39), [3], none⟩,
   ⟨(some 41), .load none (.t 40), [4], none⟩,
   ⟨(some 42), .len false (.t 41), [5], none⟩,
   ⟨(some 43), .bin Go.BinOp.lss .no (.t 37) (.t 42), [1, 6], none⟩,
   ⟨(some 44), .mv (.t 43), [7], none⟩,
   ⟨(some 45), .mv (.t 0), [8], (some (8, true))⟩,
   ⟨(some 46), .nilck (.t 45), [9, 8], (some (8, true))⟩,
   ⟨(some 47), .faddr 0 (.t 46), [10, 8], (some (8, true))⟩,
   ⟨(some 48), .load none (.t 47), [11, 8], (some (8, true))⟩,
   ⟨(some 49), .mv (.t 6), [8], (some (8, true))⟩,
   ⟨(some 50), .iaddrS 17 (.t 48) (.t 49), [12, 13, 8], (some (8, true))⟩,
   ⟨(some 51), .faddr 0 (.t 50), [14, 8], (some (8, true))⟩,
   ⟨(some 52), .load none (.t 51), [15, 8], (some (8, true))⟩,
   ⟨(some 53), .mv (.t 1), [8], (some (8, true))⟩,
   ⟨(some 54), .bin Go.BinOp.eql .no (.t 52) (.t 53), [16, 17, 8], (some (8, true))⟩,
   ⟨(some 55), .pick (.t 44) (.t 54) (.c (.p (.bool false))), [8, 18], none⟩,
   ⟨(some 4), .asg (.t 36), [0, 8, 0], none⟩,
   ⟨(some 5), .asg (.t 55), [19, 20, 0, 1, 2, 3, 4, 5, 6, 7, 8, 9, 10, 11, 12, 13, 14, 15, 16, 17, 18, 19, 20], none⟩]
def vf44 : VFun where
  vars := [0, 1, 45, 46, 47, 48, 49, 50, 51, 52, 53, 54]
  boxes := []
  mv := []
  res := [(.t 4), (.t 5)]
  body := (.seq (.region none vf44r0 [0, 1, 6, 34, 45, 46, 47, 48, 49, 50, 51, 52, 53, 54] [0, 1, 6, 34, 45, 46, 47, 48, 49, 50, 51, 52, 53, 54])
 (.seq (.region (some ([5, 6], (.alt 0 (.alt 1 (.alt 2 (.alt 3 (.alt 4 (.one 5 (.one 6 .fin)) (.alt 5 (.one 4 (.one 6 .fin)) .fin)) (.alt 5 (.one 3 (.one 4 (.one 6 .fin))) .fin)) (.alt 5 (.one 2 (.one 3 (.one 4 (.one 6 .fin)))) .fin)) (.alt 5 (.one 1 (.one 2 (.one 3 (.one 4 (.one 6 .fin))))) .fin)) (.alt 5 (.one 0 (.one 1 (.one 2 (.one 3 (.one 4 (.one 6 .fin)))))) .fin)))) vf44r1 [0, 1, 6, 7, 8, 13, 22, 34, 35, 45, 46, 47, 48, 49, 50, 51, 52, 53, 54] [0, 1, 6, 7, 8, 13, 22, 34, 35, 45, 46, 47, 48, 49, 50, 51, 52, 53, 54])
 (.seq (.block 0 (.loop (.seq (.seq (.region none vf44r2 [0, 1, 6, 7, 8, 13, 16, 22, 34, 35, 45, 46, 47, 48, 49, 50, 51, 52, 53, 54] [0, 1, 6, 7, 8, 13, 16, 22, 34, 35, 45, 46, 47, 48, 49, 50, 51, 52, 53, 54])
 (.cond (.t 16) .skip
 (.exit 0)))
 (.block 1 (.seq (.region none vf44r3 [0, 1, 6, 7, 8, 13, 22, 34, 35, 45, 46, 47, 48, 49, 50, 51, 52, 53, 54] [0, 1, 6, 7, 8, 13, 22, 34, 35, 45, 46, 47, 48, 49, 50, 51, 52, 53, 54])
 (.seq (.region none vf44r4 [0, 1, 6, 7, 8, 13, 22, 32, 34, 35, 45, 46, 47, 48, 49, 50, 51, 52, 53, 54] [0, 1, 6, 7, 8, 13, 22, 32, 34, 35, 45, 46, 47, 48, 49, 50, 51, 52, 53, 54])
 (.cond (.t 32) (.region none vf44r5 [0, 1, 6, 7, 8, 13, 22, 34, 35, 45, 46, 47, 48, 49, 50, 51, 52, 53, 54] [0, 1, 6, 7, 8, 13, 22, 34, 35, 45, 46, 47, 48, 49, 50, 51, 52, 53, 54])
 (.region none vf44r6 [0, 1, 6, 7, 8, 13, 22, 34, 35, 45, 46, 47, 48, 49, 50, 51, 52, 53, 54] [0, 1, 6, 7, 8, 13, 22, 34, 35, 45, 46, 47, 48, 49, 50, 51, 52, 53, 54]))))))))
 (.seq (.region (some ([], (.one 0 (.one 1 (.one 2 (.one 3 (.one 4 (.one 5 (.one 6 (.one 7 (.one 8 (.one 9 (.one 10 (.one 11 (.one 12 (.one 13 (.one 14 (.one 15 (.one 16 (.one 17 (.one 18 (.one 19 (.one 20 (.one 21 .fin)))))))))))))))))))))))) vf44r7 [4, 5, 6, 34, 36, 55] [4, 5, 6, 34, 36, 55])
 .ret))))

def vf45r0 : List VOper :=
  [⟨(some 6), .asg (.c (.p .nils)), [], none⟩]
def vf45r1 : List VOper :=
  [⟨(some 10), .mv (.t 0), [], none⟩,
   ⟨(some 11), .mv (.t 1), [], none⟩,
   ⟨(some 12), .slc false 17 (.t 10) (some (.t 11)) none none, [0, 1], none⟩]
def vf45r2 : List VOper :=
  [⟨(some 13), .mv (.t 2), [], none⟩,
   ⟨(some 14), .len false (.t 13), [0], none⟩,
   ⟨(some 7), .asg (.t 14), [1, 0, 1], none⟩]
def vf45r3 : List VOper :=
  [⟨(some 15), .mv (.t 7), [], none⟩,
   ⟨(some 16), .bin Go.BinOp.eql .no (.t 15) (.c (.p (.int Go.IntKind.i64 0))), [0], none⟩]
def vf45r4 : List VOper :=
  [⟨(some 17), .mv (.t 0), [], none⟩,
   ⟨(some 6), .asg (.t 17), [0, 0], none⟩]
def vf45r5 : List VOper :=
  [⟨(some 18), .mv (.t 0), [], none⟩,
   ⟨(some 19), .len false (.t 18), [0], none⟩,
   ⟨(some 8), .asg (.t 19), [1, 0, 1], none⟩]
def vf45r6 : List VOper :=
  [⟨(some 20), .mv (.t 1), [], none⟩,
   ⟨(some 21), .mv (.t 8), [], none⟩,
   ⟨(some 22), .bin Go.BinOp.eql .no (.t 20) (.t 21), [0, 1], none⟩]
def vf45r7 : List VOper :=
  [⟨(some 23), .mv (.t 0), [], none⟩,
   ⟨(some 24), .mv (.t 2), [], none⟩,
   ⟨(some 25), .append false 17 128 (.t 23) (.t 24), [0, 1], none⟩,
   ⟨(some 6), .asg (.t 25), [2, 2, 0, 1, 2], none⟩]
def vf45r8 : List VOper :=
  [⟨(some 55), .mv (.t 9), [], none⟩,
   ⟨(some 6), .asg (.t 55), [0, 0], none⟩]
def vf45r9 : List VOper :=
  [⟨(some 56), .mv (.t 0), [], none⟩,
   ⟨(some 57), .mv (.t 8), [], none⟩,
   ⟨(some 58), .mv (.t 7), [], none⟩,
   ⟨(some 59), .bin Go.BinOp.add .no (.t 57) (.t 58), [1, 2], none⟩,
   ⟨(some 60), .slc false 17 (.t 56) none (some (.t 59)) none, [0, 3], none⟩,
   ⟨(some 0), .asg (.t 60), [4, 0, 1, 2, 3, 4], none⟩]
def vf45r10 : List VOper :=
  [⟨(some 61), .mv (.t 2), [], none⟩,
   ⟨(some 62), .mv (.t 0), [], none⟩,
   ⟨(some 63), .mv (.t 1), [], none⟩,
   ⟨(some 64), .mv (.t 7), [], none⟩,
   ⟨(some 65), .bin Go.BinOp.add .no (.t 63) (.t 64), [2, 3], none⟩,
   ⟨(some 66), .slc false 17 (.t 62) (some (.t 65)) none none, [1, 4], none⟩,
   ⟨(some 67), .call 51 [(.t 61), (.t 66)], [0, 5], none⟩,
   ⟨(some 68), .un Go.UnOp.not (.t 67), [6], none⟩]
def vf45r11 : List VOper :=
  [⟨(some 83), .mv (.t 0), [], none⟩,
   ⟨(some 6), .asg (.t 83), [0, 0], none⟩]
def vf45r12 : List VOper :=
  [⟨(some 89), .mv (.t 0), [], none⟩,
   ⟨(some 90), .mv (.t 1), [], none⟩,
   ⟨(some 91), .slc false 17 (.t 89) (some (.t 90)) none none, [0, 1], none⟩,
   ⟨(some 92), .mv (.t 7), [], none⟩,
   ⟨(some 93), .call 52 [(.t 91), (.t 92)], [2, 3], none⟩]
def vf45r13 : List VOper :=
  [⟨(some 94), .mv (.t 0), [], none⟩,
   ⟨(some 6), .asg (.t 94), [0, 0], none⟩]
def vf45 : VFun where
  vars := [0, 1, 2]
  boxes := []
  mv := []
  res := [(.t 6)]
  body := (.seq (.region none vf45r0 [0, 1, 2, 56, 60] [0, 1, 2, 56, 60])
 (.seq (.region none vf45r1 [0, 1, 2, 56, 60] [0, 1, 2, 56, 60])
 (.seq (.region none vf45r2 [0, 1, 2, 7, 14, 56, 60] [0, 1, 2, 7, 14, 56, 60])
 (.seq (.seq (.region none vf45r3 [0, 1, 2, 16, 56, 60] [0, 1, 2, 16, 56, 60])
 (.cond (.t 16) (.seq (.region none vf45r4 [0, 6, 9, 17, 25, 55, 56, 60, 83, 94] [0, 6, 9, 17, 25, 55, 56, 60, 83, 94])
 .ret)
 .skip))
 (.seq (.region none vf45r5 [0, 1, 2, 8, 19, 56, 60] [0, 1, 2, 8, 19, 56, 60])
 (.seq (.seq (.region none vf45r6 [0, 2, 22, 56, 60] [0, 2, 22, 56, 60])
 (.cond (.t 22) (.seq (.region none vf45r7 [0, 6, 9, 17, 25, 55, 56, 60, 83, 94] [0, 6, 9, 17, 25, 55, 56, 60, 83, 94])
 .ret)
 .skip))
 (.seq (.seq .stuck
 (.cond (.t 31) (.seq .stuck
 (.seq .stuck
 (.seq .stuck
 (.seq (.region none vf45r8 [0, 6, 9, 17, 25, 55, 56, 60, 83, 94] [0, 6, 9, 17, 25, 55, 56, 60, 83, 94])
 .ret))))
 .skip))
 (.seq (.region none vf45r9 [0, 1, 2, 7, 14, 56, 60] [0, 1, 2, 7, 14, 56, 60])
 (.seq (.seq (.region none vf45r10 [68] [68])
 (.cond (.t 68) (.seq .stuck
 (.seq .stuck
 (.seq (.region none vf45r11 [0, 6, 9, 17, 25, 55, 56, 60, 83, 94] [0, 6, 9, 17, 25, 55, 56, 60, 83, 94])
 .ret)))
 .skip))
 (.seq .stuck
 (.seq (.region none vf45r12 [0, 56, 60] [0, 56, 60])
 (.seq (.region none vf45r13 [0, 6, 9, 17, 25, 55, 56, 60, 83, 94] [0, 6, 9, 17, 25, 55, 56, 60, 83, 94])
 .ret))))))))))))

def vf46r0 : List VOper :=
  [⟨(some 1), .box false 7 (.t 0), [], none⟩,
   ⟨(some 2), .asg (.c (.p .nils)), [], none⟩]
def vf46r1 : List VOper :=
  [⟨(some 4), .load (some 7) (.t 1), [], none⟩,
   ⟨(some 5), .call 30 [(.t 4)], [0], none⟩,
   ⟨(some 6), .un Go.UnOp.not (.t 5), [1], none⟩]
def vf46r2 : List VOper :=
  [⟨(some 2), .asg (.c (.p .nils)), [], none⟩]
def vf46r3 : List VOper :=
  [⟨(some 7), .call 53 [(.c (.p .nils))], [], none⟩,
   ⟨(some 3), .asg (.t 7), [0, 0, 0], none⟩]
def vf46r4 : List VOper :=
  [⟨(some 8), .mv (.t 3), [], none⟩,
   ⟨(some 9), .faddr 0 (.t 1), [], none⟩,
   ⟨(some 10), .load none (.t 9), [1], none⟩,
   ⟨(some 11), .faddr 1 (.t 1), [], none⟩,
   ⟨(some 12), .load none (.t 11), [3], none⟩,
   ⟨(some 13), .lit 1 [(.int Go.IntKind.u64 0)] 2 [(0, (.t 10)), (1, (.t 12))], [2, 4], none⟩,
   ⟨(some 14), .call 54 [(.t 8), (.c (.p (.int Go.IntKind.i64 48))), (.t 13)], [0, 5], none⟩]
def vf46r5 : List VOper :=
  [⟨(some 15), .mv (.t 3), [], none⟩,
   ⟨(some 16), .faddr 2 (.t 1), [], none⟩,
   ⟨(some 17), .load none (.t 16), [1], none⟩,
   ⟨(some 18), .conv (.int Go.IntKind.u64) (.t 17), [2], none⟩,
   ⟨(some 19), .faddr 3 (.t 1), [], none⟩,
   ⟨(some 20), .load none (.t 19), [4], none⟩,
   ⟨(some 21), .conv (.int Go.IntKind.u64) (.t 20), [5], none⟩,
   ⟨(some 22), .lit 1 [(.int Go.IntKind.u64 0)] 2 [(0, (.t 18)), (1, (.t 21))], [3, 6], none⟩,
   ⟨(some 23), .call 54 [(.t 15), (.c (.p (.int Go.IntKind.i64 32))), (.t 22)], [0, 7], none⟩]
def vf46r6 : List VOper :=
  [⟨(some 24), .mv (.t 3), [], none⟩,
   ⟨(some 25), .faddr 4 (.t 1), [], none⟩,
   ⟨(some 26), .load none (.t 25), [1], none⟩,
   ⟨(some 27), .conv (.int Go.IntKind.u64) (.t 26), [2], none⟩,
   ⟨(some 28), .lit 1 [(.int Go.IntKind.u64 0)] 1 [(0, (.t 27))], [3], none⟩,
   ⟨(some 29), .call 54 [(.t 24), (.c (.p (.int Go.IntKind.i64 8))), (.t 28)], [0, 4], none⟩]
def vf46r7 : List VOper :=
  [⟨(some 30), .mv (.t 3), [], none⟩,
   ⟨(some 31), .faddr 5 (.t 1), [], none⟩,
   ⟨(some 32), .load none (.t 31), [1], none⟩,
   ⟨(some 33), .conv (.int Go.IntKind.u64) (.t 32), [2], none⟩,
   ⟨(some 34), .faddr 6 (.t 1), [], none⟩,
   ⟨(some 35), .load none (.t 34), [4], none⟩,
   ⟨(some 36), .conv (.int Go.IntKind.u64) (.t 35), [5], none⟩,
   ⟨(some 37), .lit 1 [(.int Go.IntKind.u64 0)] 2 [(0, (.t 33)), (1, (.t 36))], [3, 6], none⟩,
   ⟨(some 38), .call 54 [(.t 30), (.c (.p (.int Go.IntKind.i64 16))), (.t 37)], [0, 7], none⟩]
def vf46r8 : List VOper :=
  [⟨(some 39), .mv (.t 3), [], none⟩,
   ⟨(some 40), .call 55 [(.t 39)], [0], none⟩,
   ⟨(some 2), .asg (.t 40), [1, 1, 0, 1], none⟩]
def vf46 : VFun where
  vars := [0]
  boxes := [1]
  mv := []
  res := [(.t 2)]
  body := (.seq (.region none vf46r0 [1] [1])
 (.seq (.seq (.region none vf46r1 [1, 6] [1, 6])
 (.cond (.t 6) (.seq (.region none vf46r2 [2, 40] [2, 40])
 .ret)
 .skip))
 (.seq (.region none vf46r3 [1, 3, 7] [1, 3, 7])
 (.seq (.region none vf46r4 [1, 3, 7] [1, 3, 7])
 (.seq (.region none vf46r5 [1, 3, 7] [1, 3, 7])
 (.seq (.region none vf46r6 [1, 3, 7] [1, 3, 7])
 (.seq (.region none vf46r7 [3, 7] [3, 7])
 (.seq (.region none vf46r8 [2, 40] [2, 40])
 .ret))))))))

def vf47r0 : List VOper :=
  [⟨(some 4), .asg (.c (.p .nils)), [], none⟩]
def vf47r1 : List VOper :=
  [⟨(some 5), .asg (.c (.p .nils)), [], none⟩]
def vf47r2 : List VOper :=
  [⟨(some 6), .asg (.c (.p .nils)), [], none⟩]
def vf47r3 : List VOper :=
  [⟨(some 9), .mv (.t 0), [], none⟩,
   ⟨(some 10), .call 38 [(.t 9)], [0], none⟩,
   ⟨(some 11), .mv (.c (.p (.int Go.IntKind.i64 0))), [], none⟩]
def vf47r4 : List VOper :=
  [⟨(some 12), .bin Go.BinOp.lss .no (.t 11) (.t 10), [], none⟩]
def vf47r5 : List VOper :=
  [⟨(some 13), .mv (.t 11), [], none⟩,
   ⟨(some 7), .asg (.t 13), [0, 0], none⟩]
def vf47r6 : List VOper :=
  [⟨(some 14), .mv (.t 0), [], none⟩,
   ⟨(some 15), .nilck (.t 14), [0], none⟩,
   ⟨(some 16), .faddr 0 (.t 15), [1], none⟩,
   ⟨(some 17), .load none (.t 16), [2], none⟩,
   ⟨(some 18), .mv (.t 7), [], none⟩,
   ⟨(some 19), .iaddrS 17 (.t 17) (.t 18), [3, 4], none⟩,
   ⟨(some 20), .load (some 17) (.t 19), [5], none⟩,
   ⟨(some 8), .alloc false [(.str []), (.int Go.IntKind.i64 0), (.int Go.IntKind.u64 0), (.int Go.IntKind.u64 0), (.int Go.IntKind.u32 0), (.int Go.IntKind.u32 0), (.int Go.IntKind.i64 0), (.int Go.IntKind.i64 0), (.int Go.IntKind.i64 0), (.bool false), (.bool false), (.int Go.IntKind.i64 0), (.int Go.IntKind.u32 0), (.int Go.IntKind.i64 0), (.int Go.IntKind.i64 0), (.int Go.IntKind.i64 0), (.int Go.IntKind.i64 0)], [], none⟩,
   ⟨none, .store 17 (.t 8) (.t 20), [7, 6, 0, 1, 2, 3, 4, 5, 6, 7], none⟩]
def vf47r7 : List VOper :=
  [⟨(some 21), .mv (.t 1), [], none⟩,
   ⟨(some 22), .faddr 0 (.t 8), [], none⟩,
   ⟨(some 23), .load none (.t 22), [1], none⟩,
   ⟨(some 24), .faddr 1 (.t 8), [], none⟩,
   ⟨(some 25), .load (some 16) (.t 24), [3], none⟩,
   ⟨(some 26), .callv (.t 21) [(.t 23), (.t 25)], [0, 2, 4], none⟩]
def vf47r8 : List VOper :=
  [⟨(some 27), .mv (.t 5), [], none⟩,
   ⟨(some 28), .faddr 1 (.t 8), [], none⟩,
   ⟨(some 29), .load (some 16) (.t 28), [1], none⟩,
   ⟨(some 30), .lit 16 [(.int Go.IntKind.i64 0), (.int Go.IntKind.u64 0), (.int Go.IntKind.u64 0), (.int Go.IntKind.u32 0), (.int Go.IntKind.u32 0), (.int Go.IntKind.i64 0), (.int Go.IntKind.i64 0), (.int Go.IntKind.i64 0), (.bool false), (.bool false), (.int Go.IntKind.i64 0), (.int Go.IntKind.u32 0), (.int Go.IntKind.i64 0), (.int Go.IntKind.i64 0), (.int Go.IntKind.i64 0), (.int Go.IntKind.i64 0)] 1 [(0, (.t 29))], [2], none⟩,
   ⟨(some 31), .append false 16 112 (.t 27) (.t 30), [0, 3], none⟩,
   ⟨(some 5), .asg (.t 31), [4, 4, 0, 1, 2, 3, 4], none⟩]
def vf47r9 : List VOper :=
  [⟨(some 32), .mv (.t 6), [], none⟩,
   ⟨(some 33), .load (some 17) (.t 8), [], none⟩,
   ⟨(some 34), .lit 17 [(.str []), (.int Go.IntKind.i64 0), (.int Go.IntKind.u64 0), (.int Go.IntKind.u64 0), (.int Go.IntKind.u32 0), (.int Go.IntKind.u32 0), (.int Go.IntKind.i64 0), (.int Go.IntKind.i64 0), (.int Go.IntKind.i64 0), (.bool false), (.bool false), (.int Go.IntKind.i64 0), (.int Go.IntKind.u32 0), (.int Go.IntKind.i64 0), (.int Go.IntKind.i64 0), (.int Go.IntKind.i64 0), (.int Go.IntKind.i64 0)] 1 [(0, (.t 33))], [1], none⟩,
   ⟨(some 35), .append false 17 128 (.t 32) (.t 34), [0, 2], none⟩,
   ⟨(some 6), .asg (.t 35), [3, 3, 0, 1, 2, 3], none⟩]
def vf47r10 : List VOper :=
  [⟨(some 36), .bin Go.BinOp.add .no (.t 11) (.c (.p (.int Go.IntKind.i64 1))), [], none⟩,
   ⟨(some 11), .mv (.t 36), [0], none⟩]
def vf47r11 : List VOper :=
  [⟨(some 37), .mv (.t 0), [], none⟩,
   ⟨(some 38), .bin Go.BinOp.neq .ptr (.t 37) (.c .nilp), [0], none⟩]
def vf47r12 : List VOper :=
  [⟨(some 39), .mv (.t 0), [], none⟩,
   ⟨(some 40), .mv (.t 6), [], none⟩,
   ⟨(some 41), .nilck (.t 39), [0, 0, 1], none⟩,
   ⟨(some 42), .faddr 0 (.t 41), [2, 0, 1], none⟩,
   ⟨none, .store 1 (.t 42) (.t 40), [3, 1, 0, 1], none⟩]
def vf47r13 : List VOper :=
  [⟨(some 43), .mv (.t 5), [], none⟩,
   ⟨(some 4), .asg (.t 43), [0, 0], none⟩]
def vf47 : VFun where
  vars := [0, 1]
  boxes := [8]
  mv := []
  res := [(.t 4)]
  body := (.seq (.region none vf47r0 [0, 1] [0, 1])
 (.seq (.region none vf47r1 [0, 1, 5, 31] [0, 1, 5, 31])
 (.seq (.region none vf47r2 [0, 1, 5, 6, 31, 35] [0, 1, 5, 6, 31, 35])
 (.seq (.seq (.region none vf47r3 [0, 1, 5, 6, 10, 11, 31, 35, 36] [0, 1, 5, 6, 10, 11, 31, 35, 36])
 (.block 0 (.loop (.seq (.region none vf47r4 [0, 1, 5, 6, 10, 11, 12, 31, 35, 36] [0, 1, 5, 6, 10, 11, 12, 31, 35, 36])
 (.seq (.cond (.t 12) .skip
 (.exit 0))
 (.seq (.block 1 (.seq (.region none vf47r5 [0, 1, 5, 6, 7, 10, 11, 13, 31, 35, 36] [0, 1, 5, 6, 7, 10, 11, 13, 31, 35, 36])
 (.seq (.region none vf47r6 [0, 1, 5, 6, 8, 10, 11, 31, 35, 36] [0, 1, 5, 6, 8, 10, 11, 31, 35, 36])
 (.seq (.region none vf47r7 [0, 1, 5, 6, 8, 10, 11, 26, 31, 35, 36] [0, 1, 5, 6, 8, 10, 11, 26, 31, 35, 36])
 (.cond (.t 26) (.region none vf47r8 [0, 1, 5, 6, 10, 11, 31, 35, 36] [0, 1, 5, 6, 10, 11, 31, 35, 36])
 (.region none vf47r9 [0, 1, 5, 6, 10, 11, 31, 35, 36] [0, 1, 5, 6, 10, 11, 31, 35, 36]))))))
 (.region none vf47r10 [0, 1, 5, 6, 10, 11, 31, 35, 36] [0, 1, 5, 6, 10, 11, 31, 35, 36])))))))
 (.seq (.seq (.region none vf47r11 [0, 5, 6, 31, 35, 38] [0, 5, 6, 31, 35, 38])
 (.cond (.t 38) (.region none vf47r12 [5, 31] [5, 31])
 .skip))
 (.seq (.region none vf47r13 [4, 5, 31, 43] [4, 5, 31, 43])
 .ret))))))

def vf48r0 : List VOper :=
  [⟨(some 4), .box false 16 (.t 1), [], none⟩,
   ⟨(some 5), .asg (.c (.p (.bool false))), [], none⟩]
def vf48r1 : List VOper :=
  [⟨(some 6), .load none (.t 2), [], none⟩,
   ⟨(some 7), .load (some 16) (.t 4), [], none⟩,
   ⟨(some 8), .callv (.t 6) [(.t 7)], [0, 1], none⟩,
   ⟨(some 5), .asg (.t 8), [2, 2, 0, 1, 2], none⟩]
def vf48 : VFun where
  vars := [1, 2]
  boxes := [4]
  mv := []
  res := [(.t 5)]
  body := (.seq (.region none vf48r0 [2, 4] [2, 4])
 (.seq (.region none vf48r1 [5, 8] [5, 8])
 .ret))

def vf52r0 : List VOper :=
  [⟨(some 4), .mv (.t 0), [], none⟩,
   ⟨(some 5), .mv (.t 0), [], none⟩,
   ⟨(some 6), .len false (.t 5), [1], none⟩,
   ⟨(some 7), .mv (.t 1), [], none⟩,
   ⟨(some 8), .bin Go.BinOp.sub .no (.t 6) (.t 7), [2, 3], none⟩,
   ⟨(some 9), .call 57 [(.t 4), (.t 8)], [0, 4], none⟩]
def vf52 : VFun where
  vars := [0, 1]
  boxes := []
  mv := []
  res := []
  body := (.region none vf52r0 [] [])

def vf53r0 : List VOper :=
  [⟨(some 2), .asg (.c .nilp), [], none⟩]
def vf53r1 : List VOper :=
  [⟨(some 6), .build [(.p .nils), (.p (.int Go.IntKind.i64 0))] [], [], none⟩,
   ⟨(some 7), .box true 2 (.t 6), [0], none⟩,
   ⟨(some 3), .asg (.t 7), [1, 0, 1], none⟩]
def vf53r2 : List VOper :=
  [⟨(some 8), .mv (.t 0), [], none⟩,
   ⟨(some 9), .len false (.t 8), [0], none⟩,
   ⟨(some 10), .mv (.c (.p (.int Go.IntKind.i64 0))), [], none⟩]
def vf53r3 : List VOper :=
  [⟨(some 11), .bin Go.BinOp.lss .no (.t 10) (.t 9), [], none⟩]
def vf53r4 : List VOper :=
  [⟨(some 12), .iaddrS 1 (.t 8) (.t 10), [], none⟩,
   ⟨(some 13), .load none (.t 12), [0], none⟩,
   ⟨(some 5), .asg (.t 13), [1, 0, 1], none⟩]
def vf53r5 : List VOper :=
  [⟨(some 14), .mv (.t 3), [], none⟩,
   ⟨(some 15), .mv (.t 3), [], none⟩,
   ⟨(some 16), .nilck (.t 15), [1], none⟩,
   ⟨(some 17), .faddr 0 (.t 16), [2], none⟩,
   ⟨(some 18), .load none (.t 17), [3], none⟩,
   ⟨(some 19), .mv (.t 5), [], none⟩,
   ⟨(some 20), .mv (.t 5), [], none⟩,
   ⟨(some 21), .len false (.t 20), [6], none⟩,
   ⟨(some 22), .mv (.t 3), [], none⟩,
   ⟨(some 23), .nilck (.t 22), [8], none⟩,
   ⟨(some 24), .faddr 0 (.t 23), [9], none⟩,
   ⟨(some 25), .load none (.t 24), [10], none⟩,
   ⟨(some 26), .len false (.t 25), [11], none⟩,
   ⟨(some 27), .bin Go.BinOp.sub .no (.c (.p (.int Go.IntKind.i64 65536))) (.t 26), [12], none⟩,
   ⟨(some 28), .mnmx false [(.t 21), (.t 27)], [7, 13], none⟩,
   ⟨(some 29), .slc false 1 (.t 19) none (some (.t 28)) none, [5, 14], none⟩,
   ⟨(some 30), .append false 1 1 (.t 18) (.t 29), [4, 15], none⟩,
   ⟨(some 31), .nilck (.t 14), [0, 0, 1, 2, 3, 4, 5, 6, 7, 8, 9, 10, 11, 12, 13, 14, 15, 16], none⟩,
   ⟨(some 32), .faddr 0 (.t 31), [17, 0, 1, 2, 3, 4, 5, 6, 7, 8, 9, 10, 11, 12, 13, 14, 15, 16], none⟩,
   ⟨none, .store 1 (.t 32) (.t 30), [18, 16, 16, 0, 1, 2, 3, 4, 5, 6, 7, 8, 9, 10, 11, 12, 13, 14, 15, 16], none⟩]
def vf53r6 : List VOper :=
  [⟨(some 33), .bin Go.BinOp.add .no (.t 10) (.c (.p (.int Go.IntKind.i64 1))), [], none⟩,
   ⟨(some 10), .mv (.t 33), [0], none⟩]
def vf53r7 : List VOper :=
  [⟨(some 34), .mv (.t 3), [], none⟩,
   ⟨(some 35), .mv (.t 3), [], none⟩,
   ⟨(some 36), .nilck (.t 35), [1], none⟩,
   ⟨(some 37), .faddr 0 (.t 36), [2], none⟩,
   ⟨(some 38), .load none (.t 37), [3], none⟩,
   ⟨(some 39), .len false (.t 38), [4], none⟩,
   ⟨(some 40), .bin Go.BinOp.mul .no (.c (.p (.int Go.IntKind.i64 8))) (.t 39), [5], none⟩,
   ⟨(some 41), .nilck (.t 34), [0, 0, 1, 2, 3, 4, 5, 6], none⟩,
   ⟨(some 42), .faddr 1 (.t 41), [7, 0, 1, 2, 3, 4, 5, 6], none⟩,
   ⟨none, .store 1 (.t 42) (.t 40), [8, 6, 0, 1, 2, 3, 4, 5, 6], none⟩]
def vf53r8 : List VOper :=
  [⟨(some 43), .mv (.t 3), [], none⟩,
   ⟨(some 2), .asg (.t 43), [0, 0], none⟩]
def vf53 : VFun where
  vars := [0]
  boxes := []
  mv := []
  res := [(.t 2)]
  body := (.seq (.region none vf53r0 [0] [0])
 (.seq (.region none vf53r1 [0, 3, 7] [0, 3, 7])
 (.seq (.seq (.region none vf53r2 [0, 3, 7, 8, 9, 10, 33] [0, 3, 7, 8, 9, 10, 33])
 (.block 0 (.loop (.seq (.region none vf53r3 [0, 3, 7, 8, 9, 10, 11, 33] [0, 3, 7, 8, 9, 10, 11, 33])
 (.seq (.cond (.t 11) .skip
 (.exit 0))
 (.seq (.block 1 (.seq (.region none vf53r4 [0, 3, 5, 7, 8, 9, 10, 13, 33] [0, 3, 5, 7, 8, 9, 10, 13, 33])
 (.region (some ([16, 19], (.one 1 (.one 2 (.one 3 (.one 4 (.one 5 (.one 6 (.one 7 (.one 8 (.one 9 (.one 10 (.one 11 (.one 12 (.one 13 (.one 14 (.one 15 (.alt 0 (.one 16 (.one 17 (.one 18 (.one 19 .fin)))) (.alt 16 (.one 0 (.one 17 (.one 18 (.one 19 .fin)))) .fin))))))))))))))))))) vf53r5 [0, 3, 7, 8, 9, 10, 33] [0, 3, 7, 8, 9, 10, 33])))
 (.region none vf53r6 [0, 3, 7, 8, 9, 10, 33] [0, 3, 7, 8, 9, 10, 33])))))))
 (.seq (.region none vf53r7 [3, 7] [3, 7])
 (.seq (.region none vf53r8 [2, 3, 7, 43] [2, 3, 7, 43])
 .ret)))))

def vf54r0 : List VOper :=
  [⟨(some 6), .asg (.c (.p (.int Go.IntKind.i64 0))), [], none⟩]
def vf54r1 : List VOper :=
  [⟨(some 11), .mv (.t 0), [], none⟩,
   ⟨(some 12), .bin Go.BinOp.eql .ptr (.t 11) (.c .nilp), [0], none⟩,
   ⟨(some 10), .asg (.t 12), [1], none⟩]
def vf54r2 : List VOper :=
  [⟨(some 6), .asg (.c (.p (.int Go.IntKind.i64 11))), [], none⟩]
def vf54r3 : List VOper :=
  [⟨(some 14), .mv (.t 1), [], none⟩,
   ⟨(some 15), .bin Go.BinOp.lss .no (.t 14) (.c (.p (.int Go.IntKind.i64 1))), [0], none⟩,
   ⟨(some 16), .mv (.t 15), [1], none⟩,
   ⟨(some 17), .mv (.t 1), [2], (some (2, false))⟩,
   ⟨(some 18), .bin Go.BinOp.gtr .no (.t 17) (.c (.p (.int Go.IntKind.i64 64))), [3, 2], (some (2, false))⟩,
   ⟨(some 19), .pick (.t 16) (.c (.p (.bool true))) (.t 18), [2, 4], none⟩,
   ⟨(some 13), .asg (.t 19), [5, 2], none⟩]
def vf54r4 : List VOper :=
  [⟨(some 6), .asg (.c (.p (.int Go.IntKind.i64 1))), [], none⟩]
def vf54r5 : List VOper :=
  [⟨(some 21), .mv (.t 2), [], none⟩,
   ⟨(some 22), .len false (.t 21), [0], none⟩,
   ⟨(some 23), .bin Go.BinOp.gtr .no (.t 22) (.c (.p (.int Go.IntKind.i64 524288))), [1], none⟩,
   ⟨(some 24), .mv (.t 23), [2], none⟩,
   ⟨(some 25), .mv (.t 0), [3], (some (3, false))⟩,
   ⟨(some 26), .mv (.t 1), [3], (some (3, false))⟩,
   ⟨(some 27), .mv (.t 2), [3], (some (3, false))⟩,
   ⟨(some 28), .len false (.t 27), [6, 3], (some (3, false))⟩,
   ⟨(some 29), .bin Go.BinOp.mul .no (.t 26) (.t 28), [5, 7, 3], (some (3, false))⟩,
   ⟨(some 30), .call 58 [(.t 25), (.t 29)], [4, 8, 3, 3], (some (3, false))⟩,
   ⟨(some 31), .un Go.UnOp.not (.t 30), [9, 3], (some (3, false))⟩,
   ⟨(some 32), .pick (.t 24) (.c (.p (.bool true))) (.t 31), [3, 10], none⟩,
   ⟨(some 20), .asg (.t 32), [11, 9], none⟩]
def vf54r6 : List VOper :=
  [⟨(some 6), .asg (.c (.p (.int Go.IntKind.i64 4))), [], none⟩]
def vf54r7 : List VOper :=
  [⟨(some 33), .mv (.t 2), [], none⟩,
   ⟨(some 34), .len false (.t 33), [0], none⟩,
   ⟨(some 35), .mv (.c (.p (.int Go.IntKind.i64 0))), [], none⟩]
def vf54r8 : List VOper :=
  [⟨(some 36), .bin Go.BinOp.lss .no (.t 35) (.t 34), [], none⟩]
def vf54r9 : List VOper :=
  [⟨(some 37), .iaddrS 1 (.t 33) (.t 35), [], none⟩,
   ⟨(some 38), .load none (.t 37), [0], none⟩,
   ⟨(some 8), .asg (.t 38), [1, 0, 1], none⟩]
def vf54r10 : List VOper :=
  [⟨(some 39), .mv (.t 1), [], none⟩,
   ⟨(some 40), .bin Go.BinOp.sub .no (.t 39) (.c (.p (.int Go.IntKind.i64 1))), [0], none⟩,
   ⟨(some 9), .asg (.t 40), [1, 0, 1], none⟩]
def vf54r11 : List VOper :=
  [⟨(some 41), .mv (.t 9), [], none⟩,
   ⟨(some 42), .bin Go.BinOp.geq .no (.t 41) (.c (.p (.int Go.IntKind.i64 0))), [0], none⟩]
def vf54r12 : List VOper :=
  [⟨(some 45), .mv (.t 0), [], none⟩,
   ⟨(some 46), .mv (.t 8), [], none⟩,
   ⟨(some 47), .mv (.t 9), [], none⟩,
   ⟨(some 48), .bin Go.BinOp.shr .no (.t 46) (.t 47), [1, 2], none⟩,
   ⟨(some 49), .bin Go.BinOp.and .no (.t 48) (.c (.p (.int Go.IntKind.u64 1))), [3], none⟩,
   ⟨(some 50), .conv (.int Go.IntKind.u8) (.t 49), [4], none⟩,
   ⟨(some 51), .call 59 [(.t 45), (.t 50)], [0, 5], none⟩]
def vf54r13 : List VOper :=
  [⟨(some 43), .mv (.t 9), [], none⟩,
   ⟨(some 44), .bin Go.BinOp.sub .no (.t 43) (.c (.p (.int Go.IntKind.i64 1))), [0], none⟩,
   ⟨(some 9), .asg (.t 44), [1, 0, 1], none⟩]
def vf54r14 : List VOper :=
  [⟨(some 52), .bin Go.BinOp.add .no (.t 35) (.c (.p (.int Go.IntKind.i64 1))), [], none⟩,
   ⟨(some 35), .mv (.t 52), [0], none⟩]
def vf54r15 : List VOper :=
  [⟨(some 6), .asg (.c (.p (.int Go.IntKind.i64 0))), [], none⟩]
def vf54 : VFun where
  vars := [0, 1, 2, 17, 18, 25, 26, 27, 28, 29, 30, 31]
  boxes := []
  mv := []
  res := [(.t 6)]
  body := (.seq (.region none vf54r0 [0, 1, 2, 17, 18, 25, 26, 27, 28, 29, 30, 31] [0, 1, 2, 17, 18, 25, 26, 27, 28, 29, 30, 31])
 (.seq (.block 0 (.seq (.region none vf54r1 [0, 1, 2, 10, 12, 17, 18, 25, 26, 27, 28, 29, 30, 31] [0, 1, 2, 10, 12, 17, 18, 25, 26, 27, 28, 29, 30, 31])
 (.cond (.t 10) (.seq (.region none vf54r2 [6] [6])
 .ret)
 (.seq (.region none vf54r3 [0, 1, 2, 13, 19, 25, 26, 27, 28, 29, 30, 31] [0, 1, 2, 13, 19, 25, 26, 27, 28, 29, 30, 31])
 (.cond (.t 13) (.seq (.region none vf54r4 [6] [6])
 .ret)
 (.seq (.region none vf54r5 [0, 1, 2, 20, 32] [0, 1, 2, 20, 32])
 (.cond (.t 20) (.seq (.region none vf54r6 [6] [6])
 .ret)
 .skip)))))))
 (.seq (.seq (.region none vf54r7 [0, 1, 2, 33, 34, 35, 52] [0, 1, 2, 33, 34, 35, 52])
 (.block 1 (.loop (.seq (.region none vf54r8 [0, 1, 2, 33, 34, 35, 36, 52] [0, 1, 2, 33, 34, 35, 36, 52])
 (.seq (.cond (.t 36) .skip
 (.exit 1))
 (.seq (.block 2 (.seq (.region none vf54r9 [0, 1, 2, 8, 33, 34, 35, 38, 52] [0, 1, 2, 8, 33, 34, 35, 38, 52])
 (.seq (.region none vf54r10 [0, 1, 2, 8, 9, 33, 34, 35, 38, 40, 44, 52] [0, 1, 2, 8, 9, 33, 34, 35, 38, 40, 44, 52])
 (.block 3 (.loop (.seq (.seq (.region none vf54r11 [0, 1, 2, 8, 9, 33, 34, 35, 38, 40, 42, 44, 52] [0, 1, 2, 8, 9, 33, 34, 35, 38, 40, 42, 44, 52])
 (.cond (.t 42) .skip
 (.exit 3)))
 (.seq (.block 4 (.region none vf54r12 [0, 1, 2, 8, 9, 33, 34, 35, 38, 40, 44, 52] [0, 1, 2, 8, 9, 33, 34, 35, 38, 40, 44, 52]))
 (.region none vf54r13 [0, 1, 2, 8, 9, 33, 34, 35, 38, 40, 44, 52] [0, 1, 2, 8, 9, 33, 34, 35, 38, 40, 44, 52]))))))))
 (.region none vf54r14 [0, 1, 2, 33, 34, 35, 52] [0, 1, 2, 33, 34, 35, 52])))))))
 (.seq (.region none vf54r15 [6] [6])
 .ret))))

def vf55r0 : List VOper :=
  [⟨(some 2), .asg (.c (.p .nils)), [], none⟩]
def vf55r1 : List VOper :=
  [⟨(some 3), .mv (.t 0), [], none⟩,
   ⟨(some 4), .bin Go.BinOp.eql .ptr (.t 3) (.c .nilp), [0], none⟩]
def vf55r2 : List VOper :=
  [⟨(some 2), .asg (.c (.p .nils)), [], none⟩]
def vf55r3 : List VOper :=
  [⟨(some 5), .mv (.t 0), [], none⟩,
   ⟨(some 6), .nilck (.t 5), [0], none⟩,
   ⟨(some 7), .faddr 0 (.t 6), [1], none⟩,
   ⟨(some 8), .load none (.t 7), [2], none⟩,
   ⟨(some 9), .call 60 [(.t 8)], [3], none⟩,
   ⟨(some 2), .asg (.t 9), [4, 4, 0, 1, 2, 3, 4], none⟩]
def vf55 : VFun where
  vars := [0]
  boxes := []
  mv := []
  res := [(.t 2)]
  body := (.seq (.region none vf55r0 [0] [0])
 (.seq (.seq (.region none vf55r1 [0, 4] [0, 4])
 (.cond (.t 4) (.seq (.region none vf55r2 [2, 9] [2, 9])
 .ret)
 .skip))
 (.seq (.region none vf55r3 [2, 9] [2, 9])
 .ret)))

def vf57r0 : List VOper :=
  [⟨(some 4), .mv (.t 0), [], none⟩,
   ⟨(some 5), .mv (.t 1), [], none⟩,
   ⟨(some 6), .slc false 17 (.t 4) none (some (.t 5)) none, [0, 1], none⟩,
   ⟨(some 7), .call 63 [(.t 6)], [2], none⟩]
def vf57r1 : List VOper :=
  [⟨(some 8), .mv (.t 0), [], none⟩,
   ⟨(some 9), .mv (.t 1), [], none⟩,
   ⟨(some 10), .slc false 17 (.t 8) (some (.t 9)) none none, [0, 1], none⟩,
   ⟨(some 11), .call 63 [(.t 10)], [2], none⟩]
def vf57r2 : List VOper :=
  [⟨(some 12), .mv (.t 0), [], none⟩,
   ⟨(some 13), .call 63 [(.t 12)], [0], none⟩]
def vf57 : VFun where
  vars := [0, 1]
  boxes := []
  mv := []
  res := []
  body := (.seq (.region none vf57r0 [0, 1] [0, 1])
 (.seq (.region none vf57r1 [0] [0])
 (.region none vf57r2 [] [])))

def vf58r0 : List VOper :=
  [⟨(some 4), .asg (.c (.p (.bool false))), [], none⟩]
def vf58r1 : List VOper :=
  [⟨(some 5), .mv (.t 1), [], none⟩,
   ⟨(some 6), .mv (.t 0), [], none⟩,
   ⟨(some 7), .nilck (.t 6), [1], none⟩,
   ⟨(some 8), .faddr 1 (.t 7), [2], none⟩,
   ⟨(some 9), .load none (.t 8), [3], none⟩,
   ⟨(some 10), .bin Go.BinOp.sub .no (.c (.p (.int Go.IntKind.i64 524288))) (.t 9), [4], none⟩,
   ⟨(some 11), .bin Go.BinOp.leq .no (.t 5) (.t 10), [0, 5], none⟩,
   ⟨(some 4), .asg (.t 11), [6, 0, 1, 2, 3, 4, 5, 6], none⟩]
def vf58 : VFun where
  vars := [0, 1]
  boxes := []
  mv := []
  res := [(.t 4)]
  body := (.seq (.region none vf58r0 [0, 1] [0, 1])
 (.seq (.region none vf58r1 [4, 11] [4, 11])
 .ret))

def vf59r0 : List VOper :=
  [⟨(some 4), .mv (.t 0), [], none⟩,
   ⟨(some 5), .nilck (.t 4), [0], none⟩,
   ⟨(some 6), .faddr 1 (.t 5), [1], none⟩,
   ⟨(some 7), .load none (.t 6), [2], none⟩,
   ⟨(some 8), .bin Go.BinOp.rem .no (.t 7) (.c (.p (.int Go.IntKind.i64 8))), [3], none⟩,
   ⟨(some 9), .bin Go.BinOp.eql .no (.t 8) (.c (.p (.int Go.IntKind.i64 0))), [4], none⟩]
def vf59r1 : List VOper :=
  [⟨(some 10), .mv (.t 0), [], none⟩,
   ⟨(some 11), .mv (.t 0), [], none⟩,
   ⟨(some 12), .nilck (.t 11), [1], none⟩,
   ⟨(some 13), .faddr 0 (.t 12), [2], none⟩,
   ⟨(some 14), .load none (.t 13), [3], none⟩,
   ⟨(some 15), .lit 1 [(.int Go.IntKind.u8 0)] 1 [(0, (.c (.p (.int Go.IntKind.u8 0))))], [], none⟩,
   ⟨(some 16), .append false 1 1 (.t 14) (.t 15), [4, 5], none⟩,
   ⟨(some 17), .nilck (.t 10), [0, 0, 1, 2, 3, 4, 5, 6], none⟩,
   ⟨(some 18), .faddr 0 (.t 17), [7, 0, 1, 2, 3, 4, 5, 6], none⟩,
   ⟨none, .store 1 (.t 18) (.t 16), [8, 6, 6, 0, 1, 2, 3, 4, 5, 6], none⟩]
def vf59r2 : List VOper :=
  [⟨(some 19), .mv (.t 0), [], none⟩,
   ⟨(some 20), .nilck (.t 19), [0], none⟩,
   ⟨(some 21), .faddr 0 (.t 20), [1], none⟩,
   ⟨(some 22), .load none (.t 21), [2], none⟩,
   ⟨(some 23), .mv (.t 0), [], none⟩,
   ⟨(some 24), .nilck (.t 23), [4], none⟩,
   ⟨(some 25), .faddr 1 (.t 24), [5], none⟩,
   ⟨(some 26), .load none (.t 25), [6], none⟩,
   ⟨(some 27), .bin Go.BinOp.quo .no (.t 26) (.c (.p (.int Go.IntKind.i64 8))), [7], none⟩,
   ⟨(some 28), .iaddrS 1 (.t 22) (.t 27), [3, 8], none⟩,
   ⟨(some 29), .load none (.t 28), [9], none⟩,
   ⟨(some 30), .mv (.t 1), [], none⟩,
   ⟨(some 31), .mv (.t 0), [], none⟩,
   ⟨(some 32), .nilck (.t 31), [12], none⟩,
   ⟨(some 33), .faddr 1 (.t 32), [13], none⟩,
   ⟨(some 34), .load none (.t 33), [14], none⟩,
   ⟨(some 35), .bin Go.BinOp.rem .no (.t 34) (.c (.p (.int Go.IntKind.i64 8))), [15], none⟩,
   ⟨(some 36), .bin Go.BinOp.sub .no (.c (.p (.int Go.IntKind.i64 7))) (.t 35), [16], none⟩,
   ⟨(some 37), .bin Go.BinOp.shl .no (.t 30) (.t 36), [11, 17], none⟩,
   ⟨(some 38), .bin Go.BinOp.or .no (.t 29) (.t 37), [10, 18], none⟩,
   ⟨(some 39), .iaddrS 1 (.t 22) (.t 27), [3, 8, 0, 1, 2, 3, 4, 5, 6, 7, 8, 9, 10, 11, 12, 13, 14, 15, 16, 17, 18, 19], none⟩,
   ⟨none, .store 1 (.t 39) (.t 38), [20, 19, 0, 1, 2, 3, 4, 5, 6, 7, 8, 9, 10, 11, 12, 13, 14, 15, 16, 17, 18, 19], none⟩]
def vf59r3 : List VOper :=
  [⟨(some 40), .mv (.t 0), [], none⟩,
   ⟨(some 41), .nilck (.t 40), [0], none⟩,
   ⟨(some 42), .faddr 1 (.t 41), [1], none⟩,
   ⟨(some 43), .load none (.t 42), [2], none⟩,
   ⟨(some 44), .bin Go.BinOp.add .no (.t 43) (.c (.p (.int Go.IntKind.i64 1))), [3], none⟩,
   ⟨(some 45), .nilck (.t 40), [0, 0, 1, 2, 3, 4], none⟩,
   ⟨(some 46), .faddr 1 (.t 45), [5, 0, 1, 2, 3, 4], none⟩,
   ⟨none, .store 1 (.t 46) (.t 44), [6, 4, 0, 1, 2, 3, 4], none⟩]
def vf59 : VFun where
  vars := [0, 1]
  boxes := []
  mv := []
  res := []
  body := (.seq (.seq (.region none vf59r0 [0, 1, 9] [0, 1, 9])
 (.cond (.t 9) (.region none vf59r1 [0, 1] [0, 1])
 .skip))
 (.seq (.region (some ([21], (.one 0 (.one 1 (.one 2 (.one 3 (.one 4 (.one 5 (.one 6 (.one 7 (.one 8 (.one 9 (.one 10 (.one 11 (.one 12 (.one 13 (.one 14 (.one 15 (.one 16 (.one 17 (.one 18 (.one 19 (.one 20 (.one 21 .fin)))))))))))))))))))))))) vf59r2 [0] [0])
 (.region none vf59r3 [] [])))

def vf60r0 : List VOper :=
  [⟨(some 2), .asg (.c (.p .nils)), [], none⟩]
def vf60r1 : List VOper :=
  [⟨(some 3), .mv (.t 0), [], none⟩,
   ⟨(some 4), .bin Go.BinOp.eql .slice (.t 3) (.c (.p .nils)), [0], none⟩]
def vf60r2 : List VOper :=
  [⟨(some 2), .asg (.c (.p .nils)), [], none⟩]
def vf60r3 : List VOper :=
  [⟨(some 5), .lit 1 [(.int Go.IntKind.u8 0)] 0 [], [], none⟩,
   ⟨(some 6), .mv (.t 0), [], none⟩,
   ⟨(some 7), .append false 1 1 (.t 5) (.t 6), [0, 1], none⟩,
   ⟨(some 2), .asg (.t 7), [2, 2, 0, 1, 2], none⟩]
def vf60 : VFun where
  vars := [0]
  boxes := []
  mv := []
  res := [(.t 2)]
  body := (.seq (.region none vf60r0 [0] [0])
 (.seq (.seq (.region none vf60r1 [0, 4] [0, 4])
 (.cond (.t 4) (.seq (.region none vf60r2 [2, 7] [2, 7])
 .ret)
 .skip))
 (.seq (.region none vf60r3 [2, 7] [2, 7])
 .ret)))

def vf63r0 : List VOper :=
  [⟨(some 4), .mv (.t 0), [], none⟩,
   ⟨(some 5), .len false (.t 4), [0], none⟩,
   ⟨(some 6), .bin Go.BinOp.sub .no (.t 5) (.c (.p (.int Go.IntKind.i64 1))), [1], none⟩,
   ⟨(some 2), .asg (.c (.p (.int Go.IntKind.i64 0))), [], none⟩,
   ⟨(some 3), .asg (.t 6), [2, 3, 0, 1, 2, 3], none⟩]
def vf63r1 : List VOper :=
  [⟨(some 7), .mv (.t 2), [], none⟩,
   ⟨(some 8), .mv (.t 3), [], none⟩,
   ⟨(some 9), .bin Go.BinOp.lss .no (.t 7) (.t 8), [0, 1], none⟩]
def vf63r2 : List VOper :=
  [⟨(some 14), .mv (.t 0), [], none⟩,
   ⟨(some 15), .mv (.t 2), [], none⟩,
   ⟨(some 16), .mv (.t 0), [], none⟩,
   ⟨(some 17), .mv (.t 3), [], none⟩,
   ⟨(some 18), .mv (.t 0), [], none⟩,
   ⟨(some 19), .mv (.t 3), [], none⟩,
   ⟨(some 20), .iaddrS 17 (.t 18) (.t 19), [4, 5], none⟩,
   ⟨(some 21), .load (some 17) (.t 20), [6], none⟩,
   ⟨(some 22), .mv (.t 0), [], none⟩,
   ⟨(some 23), .mv (.t 2), [], none⟩,
   ⟨(some 24), .iaddrS 17 (.t 22) (.t 23), [8, 9], none⟩,
   ⟨(some 25), .load (some 17) (.t 24), [10], none⟩,
   ⟨(some 26), .iaddrS 17 (.t 14) (.t 15), [0, 1, 0, 1, 4, 5, 6, 7, 11], none⟩,
   ⟨none, .store 17 (.t 26) (.t 21), [12, 7, 0, 1, 4, 5, 6, 7, 11], none⟩,
   ⟨(some 27), .iaddrS 17 (.t 16) (.t 17), [2, 3, 0, 1, 2, 3, 4, 5, 6, 7, 8, 9, 10, 11, 12, 13], none⟩,
   ⟨none, .store 17 (.t 27) (.t 25), [14, 11, 13, 0, 1, 2, 3, 4, 5, 6, 7, 8, 9, 10, 11, 12, 13], none⟩]
def vf63r3 : List VOper :=
  [⟨(some 10), .mv (.t 2), [], none⟩,
   ⟨(some 11), .bin Go.BinOp.add .no (.t 10) (.c (.p (.int Go.IntKind.i64 1))), [0], none⟩,
   ⟨(some 12), .mv (.t 3), [], none⟩,
   ⟨(some 13), .bin Go.BinOp.sub .no (.t 12) (.c (.p (.int Go.IntKind.i64 1))), [2], none⟩,
   ⟨(some 2), .asg (.t 11), [1, 0, 1], none⟩,
   ⟨(some 3), .asg (.t 13), [3, 4, 0, 1, 2, 3, 4], none⟩]
def vf63 : VFun where
  vars := [0]
  boxes := []
  mv := []
  res := []
  body := (.seq (.region none vf63r0 [0, 2, 3, 6, 11, 13] [0, 2, 3, 6, 11, 13])
 (.block 0 (.loop (.seq (.seq (.region none vf63r1 [0, 2, 3, 6, 9, 11, 13] [0, 2, 3, 6, 9, 11, 13])
 (.cond (.t 9) .skip
 (.exit 0)))
 (.seq (.block 1 (.region (some ([13, 15], (.one 0 (.one 1 (.one 4 (.one 5 (.one 6 (.one 7 (.one 8 (.one 9 (.one 10 (.one 11 (.one 12 (.alt 2 (.alt 3 (.one 13 (.one 14 (.one 15 .fin))) (.alt 13 (.one 3 (.one 14 (.one 15 .fin))) .fin)) (.alt 3 (.alt 2 (.one 13 (.one 14 (.one 15 .fin))) (.alt 13 (.one 2 (.one 14 (.one 15 .fin))) .fin)) (.alt 13 (.one 2 (.one 3 (.one 14 (.one 15 .fin)))) .fin)))))))))))))))) vf63r2 [0, 2, 3, 6, 11, 13] [0, 2, 3, 6, 11, 13]))
 (.region none vf63r3 [0, 2, 3, 6, 11, 13] [0, 2, 3, 6, 11, 13]))))))


def nonro : List Nat := [8, 9, 13, 16, 21, 22, 23, 25, 36, 45, 47, 52, 53, 54, 57, 59, 63]
def ro (f : Nat) : Bool := !nonro.contains f
def fl : List (Nat × VFun) := [(3, vf3), (4, vf4), (7, vf7), (8, vf8), (9, vf9), (10, vf10), (11, vf11), (12, vf12), (13, vf13), (14, vf14), (16, vf16), (17, vf17), (21, vf21), (22, vf22), (23, vf23), (24, vf24), (25, vf25), (26, vf26), (27, vf27), (28, vf28), (29, vf29), (30, vf30), (31, vf31), (32, vf32), (33, vf33), (34, vf34), (36, vf36), (37, vf37), (38, vf38), (42, vf42), (43, vf43), (44, vf44), (45, vf45), (46, vf46), (47, vf47), (48, vf48), (52, vf52), (53, vf53), (54, vf54), (55, vf55), (57, vf57), (58, vf58), (59, vf59), (60, vf60), (63, vf63)]
/-- the table, its functions a name -/
def T' (fns : Nat → Option VFun) (pr : Nat → Option Prim) : Tab where
  fns := fns
  ro := ro
  prim := pr
/-- the table with these functions by hand -/
abbrev T (ps : List (Nat × Prim)) : Tab := T' (look fl) (look ps)

theorem ok3 : funOf Try.prog ro [] Try.f3 = some vf3 := by kernel_rfl
theorem ok4 : funOf Try.prog ro [] Try.f4 = some vf4 := by kernel_rfl
theorem ok7 : funOf Try.prog ro [] Try.f7 = some vf7 := by kernel_rfl
theorem ok8 : funOf Try.prog ro [] Try.f8 = some vf8 := by kernel_rfl
theorem ok9 : funOf Try.prog ro [] Try.f9 = some vf9 := by kernel_rfl
theorem ok10 : funOf Try.prog ro [] Try.f10 = some vf10 := by kernel_rfl
theorem ok11 : funOf Try.prog ro [] Try.f11 = some vf11 := by kernel_rfl
theorem ok12 : funOf Try.prog ro [] Try.f12 = some vf12 := by kernel_rfl
theorem ok13 : funOf Try.prog ro [] Try.f13 = some vf13 := by kernel_rfl
theorem ok14 : funOf Try.prog ro [] Try.f14 = some vf14 := by kernel_rfl
theorem ok16 : funOf Try.prog ro [] Try.f16 = some vf16 := by kernel_rfl
theorem ok17 : funOf Try.prog ro [] Try.f17 = some vf17 := by kernel_rfl
theorem ok21 : funOf Try.prog ro [] Try.f21 = some vf21 := by kernel_rfl
theorem ok22 : funOf Try.prog ro [] Try.f22 = some vf22 := by kernel_rfl
theorem ok23 : funOf Try.prog ro [] Try.f23 = some vf23 := by kernel_rfl
theorem ok24 : funOf Try.prog ro [] Try.f24 = some vf24 := by kernel_rfl
theorem ok25 : funOf Try.prog ro [] Try.f25 = some vf25 := by kernel_rfl
theorem ok26 : funOf Try.prog ro [] Try.f26 = some vf26 := by kernel_rfl
theorem ok27 : funOf Try.prog ro [] Try.f27 = some vf27 := by kernel_rfl
theorem ok28 : funOf Try.prog ro [] Try.f28 = some vf28 := by kernel_rfl
theorem ok29 : funOf Try.prog ro [] Try.f29 = some vf29 := by kernel_rfl
theorem ok30 : funOf Try.prog ro [] Try.f30 = some vf30 := by kernel_rfl
theorem ok31 : funOf Try.prog ro [] Try.f31 = some vf31 := by kernel_rfl
theorem ok32 : funOf Try.prog ro [] Try.f32 = some vf32 := by kernel_rfl
theorem ok33 : funOf Try.prog ro [] Try.f33 = some vf33 := by kernel_rfl
theorem ok34 : funOf Try.prog ro [] Try.f34 = some vf34 := by kernel_rfl
theorem ok36 : funOf Try.prog ro [] Try.f36 = some vf36 := by kernel_rfl
theorem ok37 : funOf Try.prog ro [] Try.f37 = some vf37 := by kernel_rfl
theorem ok38 : funOf Try.prog ro [] Try.f38 = some vf38 := by kernel_rfl
theorem ok42 : funOf Try.prog ro [] Try.f42 = some vf42 := by kernel_rfl
theorem ok43 : funOf Try.prog ro [] Try.f43 = some vf43 := by kernel_rfl
theorem ok44 : funOf Try.prog ro [] Try.f44 = some vf44 := by kernel_rfl
theorem ok45 : funOf Try.prog ro [] Try.f45 = some vf45 := by kernel_rfl
theorem ok46 : funOf Try.prog ro [] Try.f46 = some vf46 := by kernel_rfl
theorem ok47 : funOf Try.prog ro [] Try.f47 = some vf47 := by kernel_rfl
theorem ok48 : funOf Try.prog ro [] Try.f48 = some vf48 := by kernel_rfl
theorem ok52 : funOf Try.prog ro [] Try.f52 = some vf52 := by kernel_rfl
theorem ok53 : funOf Try.prog ro [] Try.f53 = some vf53 := by kernel_rfl
theorem ok54 : funOf Try.prog ro [] Try.f54 = some vf54 := by kernel_rfl
theorem ok55 : funOf Try.prog ro [] Try.f55 = some vf55 := by kernel_rfl
theorem ok57 : funOf Try.prog ro [] Try.f57 = some vf57 := by kernel_rfl
theorem ok58 : funOf Try.prog ro [] Try.f58 = some vf58 := by kernel_rfl
theorem ok59 : funOf Try.prog ro [] Try.f59 = some vf59 := by kernel_rfl
theorem ok60 : funOf Try.prog ro [] Try.f60 = some vf60 := by kernel_rfl
theorem ok63 : funOf Try.prog ro [] Try.f63 = some vf63 := by kernel_rfl

theorem look_mem {α : Type} : ∀ {l : List (Nat × α)} {k : Nat} {v : α}, look l k = some v → (k, v) ∈ l
  | [], _, _, h => by simp [look] at h
  | (j, u) :: r, k, v, h => by
    unfold look at h
    split at h
    · rename_i e; subst e; simp only [Option.some.injEq] at h; subst h; simp
    · exact List.mem_cons_of_mem _ (look_mem h)

theorem mixed : Try.prog.follows .mixedOrders = true := by kernel_rfl
theorem tabOk (ps : List (Nat × Prim)) : TabOk Try.prog (T ps) := by
  intro f vf h
  have hm := look_mem (show look fl f = some vf from h)
  simp only [fl, List.mem_cons, Prod.mk.injEq, List.not_mem_nil, or_false] at hm
  rcases hm with ⟨rfl, rfl⟩ | ⟨rfl, rfl⟩ | ⟨rfl, rfl⟩ | ⟨rfl, rfl⟩ | ⟨rfl, rfl⟩ | ⟨rfl, rfl⟩ | ⟨rfl, rfl⟩ | ⟨rfl, rfl⟩ | ⟨rfl, rfl⟩ | ⟨rfl, rfl⟩ | ⟨rfl, rfl⟩ | ⟨rfl, rfl⟩ | ⟨rfl, rfl⟩ | ⟨rfl, rfl⟩ | ⟨rfl, rfl⟩ | ⟨rfl, rfl⟩ | ⟨rfl, rfl⟩ | ⟨rfl, rfl⟩ | ⟨rfl, rfl⟩ | ⟨rfl, rfl⟩ | ⟨rfl, rfl⟩ | ⟨rfl, rfl⟩ | ⟨rfl, rfl⟩ | ⟨rfl, rfl⟩ | ⟨rfl, rfl⟩ | ⟨rfl, rfl⟩ | ⟨rfl, rfl⟩ | ⟨rfl, rfl⟩ | ⟨rfl, rfl⟩ | ⟨rfl, rfl⟩ | ⟨rfl, rfl⟩ | ⟨rfl, rfl⟩ | ⟨rfl, rfl⟩ | ⟨rfl, rfl⟩ | ⟨rfl, rfl⟩ | ⟨rfl, rfl⟩ | ⟨rfl, rfl⟩ | ⟨rfl, rfl⟩ | ⟨rfl, rfl⟩ | ⟨rfl, rfl⟩ | ⟨rfl, rfl⟩ | ⟨rfl, rfl⟩ | ⟨rfl, rfl⟩ | ⟨rfl, rfl⟩ | ⟨rfl, rfl⟩
  · exact ⟨Try.f3, ro, [], Try.func3, by decide +kernel, ok3⟩
  · exact ⟨Try.f4, ro, [], Try.func4, by decide +kernel, ok4⟩
  · exact ⟨Try.f7, ro, [], Try.func7, by decide +kernel, ok7⟩
  · exact ⟨Try.f8, ro, [], Try.func8, by decide +kernel, ok8⟩
  · exact ⟨Try.f9, ro, [], Try.func9, by decide +kernel, ok9⟩
  · exact ⟨Try.f10, ro, [], Try.func10, by decide +kernel, ok10⟩
  · exact ⟨Try.f11, ro, [], Try.func11, by decide +kernel, ok11⟩
  · exact ⟨Try.f12, ro, [], Try.func12, by decide +kernel, ok12⟩
  · exact ⟨Try.f13, ro, [], Try.func13, by decide +kernel, ok13⟩
  · exact ⟨Try.f14, ro, [], Try.func14, by decide +kernel, ok14⟩
  · exact ⟨Try.f16, ro, [], Try.func16, by decide +kernel, ok16⟩
  · exact ⟨Try.f17, ro, [], Try.func17, by decide +kernel, ok17⟩
  · exact ⟨Try.f21, ro, [], Try.func21, by decide +kernel, ok21⟩
  · exact ⟨Try.f22, ro, [], Try.func22, by decide +kernel, ok22⟩
  · exact ⟨Try.f23, ro, [], Try.func23, by decide +kernel, ok23⟩
  · exact ⟨Try.f24, ro, [], Try.func24, by decide +kernel, ok24⟩
  · exact ⟨Try.f25, ro, [], Try.func25, by decide +kernel, ok25⟩
  · exact ⟨Try.f26, ro, [], Try.func26, by decide +kernel, ok26⟩
  · exact ⟨Try.f27, ro, [], Try.func27, by decide +kernel, ok27⟩
  · exact ⟨Try.f28, ro, [], Try.func28, by decide +kernel, ok28⟩
  · exact ⟨Try.f29, ro, [], Try.func29, by decide +kernel, ok29⟩
  · exact ⟨Try.f30, ro, [], Try.func30, by decide +kernel, ok30⟩
  · exact ⟨Try.f31, ro, [], Try.func31, by decide +kernel, ok31⟩
  · exact ⟨Try.f32, ro, [], Try.func32, by decide +kernel, ok32⟩
  · exact ⟨Try.f33, ro, [], Try.func33, by decide +kernel, ok33⟩
  · exact ⟨Try.f34, ro, [], Try.func34, by decide +kernel, ok34⟩
  · exact ⟨Try.f36, ro, [], Try.func36, by decide +kernel, ok36⟩
  · exact ⟨Try.f37, ro, [], Try.func37, by decide +kernel, ok37⟩
  · exact ⟨Try.f38, ro, [], Try.func38, by decide +kernel, ok38⟩
  · exact ⟨Try.f42, ro, [], Try.func42, by decide +kernel, ok42⟩
  · exact ⟨Try.f43, ro, [], Try.func43, by decide +kernel, ok43⟩
  · exact ⟨Try.f44, ro, [], Try.func44, by decide +kernel, ok44⟩
  · exact ⟨Try.f45, ro, [], Try.func45, by decide +kernel, ok45⟩
  · exact ⟨Try.f46, ro, [], Try.func46, by decide +kernel, ok46⟩
  · exact ⟨Try.f47, ro, [], Try.func47, by decide +kernel, ok47⟩
  · exact ⟨Try.f48, ro, [], Try.func48, by decide +kernel, ok48⟩
  · exact ⟨Try.f52, ro, [], Try.func52, by decide +kernel, ok52⟩
  · exact ⟨Try.f53, ro, [], Try.func53, by decide +kernel, ok53⟩
  · exact ⟨Try.f54, ro, [], Try.func54, by decide +kernel, ok54⟩
  · exact ⟨Try.f55, ro, [], Try.func55, by decide +kernel, ok55⟩
  · exact ⟨Try.f57, ro, [], Try.func57, by decide +kernel, ok57⟩
  · exact ⟨Try.f58, ro, [], Try.func58, by decide +kernel, ok58⟩
  · exact ⟨Try.f59, ro, [], Try.func59, by decide +kernel, ok59⟩
  · exact ⟨Try.f60, ro, [], Try.func60, by decide +kernel, ok60⟩
  · exact ⟨Try.f63, ro, [], Try.func63, by decide +kernel, ok63⟩

theorem prims_nil : PrimOk Try.prog (T []) := fun f p h => by simp [T, T', look] at h
theorem prims_q {f : Nat} {F : List SV → Option SV} {ps : List (Nat × Prim)} (h : QPrimOk Try.prog f F) (k : PrimOk Try.prog (T ps)) : PrimOk Try.prog (T ((f, .q F) :: ps)) := by
  intro g p e
  simp only [T, T', look] at e
  split at e
  · rename_i e'; subst e'; simp only [Option.some.injEq] at e; subst e; exact h
  · exact k g p e
/-- a function that the machine has run on plain values -/
theorem pureQ {ps : List (Nat × Prim)} (k : PrimOk Try.prog (T ps)) {f : Nat} {F : List SV → Option SV}
    (h : ∀ args v, F args = some v → args.all plainA = true ∧ okRet 0 0 v = true ∧ ∃ hp' out', CallsTo (T ps) ⟨0, 0⟩ f args [] [] (v, hp', out')) : QPrimOk Try.prog f F :=
  pure_prim mixed (tabOk ps) k fun args v e => by
    obtain ⟨h1, h2, hp', out', n, h3⟩ := h args v e
    exact ⟨h1, h2, n, hp', out', h3 n (Nat.le_refl _)⟩
end Go.Proofs.Ythlhnfbfibjfjaa.L
